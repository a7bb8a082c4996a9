/- Parts of the proof: EFW, Qa, Qb, Pa, S1D, Pb, Pc, Pd, Pe, Pf, Pg, T1D, Qc, Qd, Qe, V1D, Ra, Rb, F1D, Sa, Sb, Sc, Rc, Rd. -/
import Derived.Test.YtehnblgkgaakeaaDoorOr6
import Derived.Test.YtehnblgkgaakeaaDoorProg
import Derived.KernelRfl
import Derived.Lib.TrailingZeros
set_option linter.unusedVariables false
set_option linter.unusedSimpArgs false
set_option linter.unusedSectionVars false
set_option maxRecDepth 100000
namespace Go.Proofs.YtehnblgkgaakeaaDoor
open Go Go.Sx
theorem Wk.laws_FnOrders {W w : World} {G : GH} {H : List Itm} {v0 : Value} {x0 : (List Int)} (hW : TabW W) (m : Mem W G w (H)) (h0 : RSl (RI .u8) G v0 x0) {y : Bool} (hd : D.laws_FnOrders x0 = some y) :
  Calls Tryd.prog 5 #[v0] w (Res W G H (fun _ Ho v => Ho = [] ∧ v = (.bool y))) := by
 refine calls_b (args := [v0]) (N := 110) [.tmp 2] Tryd.func5 rfl rfl (Nat.le_of_ble_eq_true rfl) rfl (fun a f => ?_)
 unfold D.laws_FnOrders at hd
 refine k_seq ?_
 refine k_region ?_
 refine l_op f rfl rfl rfl (r_assign (f.eval rfl)) (fun a f => ?_)
 refine l_nil ?_
 refine k_seq ?_
 refine k_seq ?_
 refine k_region ?_
 refine l_op f rfl rfl rfl (r_move (f.eval rfl)) (fun a f => ?_)
 obtain ⟨y_1, hy_2, hd⟩ := bind_some hd
 refine l_res f rfl rfl Tryd.call6 (Wk.laws_big m h0 hy_2) (fun v_6 G_3 Ho_7 w hl_4 m hQ_5 a f => ?_)
 obtain ⟨rfl, rfl⟩ := hQ_5
 have h0 := RSl.mono (RI.mono _) _ _ _ _ hl_4 h0
 have m : Mem W G_3 w (H) := m
 refine l_nil ?_
 rcases cond_some hd with ⟨hc_8, hd⟩ | ⟨hc_8, hd⟩
 ·refine k_true f rfl hc_8 ?_
  refine k_seq ?_
  refine k_region ?_
  refine l_op f rfl rfl rfl (r_assign (f.eval rfl)) (fun a f => ?_)
  refine l_nil ?_
  refine k_ret ?_
  obtain rfl := Option.some.inj hd
  exact ⟨[(.bool true)], ⟨f.get _ _ rfl, trivial⟩, f.defers, _, [], hl_4, m, rfl, rfl⟩
 ·refine k_false f rfl hc_8 ?_
  refine k_skip ?_
  refine k_seq ?_
  refine k_region ?_
  refine l_op f rfl rfl rfl (r_move (f.eval rfl)) (fun a f => ?_)
  obtain ⟨y_9, hy_10, hd⟩ := bind_some hd
  refine l_res f rfl rfl Tryd.call7 (Wk.laws_roll m h0 hy_10) (fun v_14 G_11 Ho_15 w hl_12 m hQ_13 a f => ?_)
  obtain ⟨v_16, b_18, rfl, rfl, h_17⟩ := hQ_13
  have h0 := RSl.mono (RI.mono _) _ _ _ _ hl_12 h0
  have m : Mem W G_11 w (Itm.box b_18 55 [v_16, (.int .i64 y_9.2.1), (.int .u64 y_9.2.2)] :: H) := m
  refine l_op f rfl rfl rfl (r_assign (f.eval rfl)) (fun a f => ?_)
  refine l_nil ?_
  refine k_seq ?_
  refine k_region ?_
  refine l_op f rfl rfl rfl (r_move (f.eval rfl)) (fun a f => ?_)
  obtain ⟨y_20, hy_21, hd⟩ := bind_some hd
  refine l_res f rfl rfl Tryd.call28 (Wk.laws_w5Graph m h_17 hy_21) (fun v_25 G_22 Ho_26 w hl_23 m hQ_24 a f => ?_)
  obtain ⟨v_27, it_28, v_31, rfl, rfl, o_29, h_32⟩ := hQ_24
  have h0 := RSl.mono (RI.mono _) _ _ _ _ hl_23 h0
  have m : Mem W G_22 w (it_28 :: Itm.box b_18 55 [v_31, (.int .i64 y_20.2.2.1), (.int .u64 y_20.2.2.2)] :: H) := m
  refine l_alloc (cs := [(.slice none 0 0)]) Tryd.zeroValue29 m f rfl rfl (fun b_34 w a m f => ?_)
  refine l_boxStore 0 0 (ds := [v_27]) m Tryd.sizeOf29 f rfl rfl rfl (ones_cons (Ow.one1 1 m o_29 rfl) ones_nil) rfl (Nat.le_of_ble_eq_true rfl) rfl (fun w m => ?_)
  have m : Mem W G_22 w (Itm.box b_34 29 [v_27] :: it_28 :: Itm.box b_18 55 [v_31, (.int .i64 y_20.2.2.1), (.int .u64 y_20.2.2.2)] :: H) := m
  refine l_nil ?_
  refine k_seq ?_
  refine k_region ?_
  refine l_op f rfl rfl rfl (r_move (f.eval rfl)) (fun a f => ?_)
  refine l_fieldAddr Tryd.underlying29 rfl Tryd.sizeOf27 (by decide) f rfl rfl (fun a f => ?_)
  refine l_boxCell 0 0 m Pl27 f rfl rfl rfl rfl (fun a f => ?_)
  refine l_own_len 1 m o_29 rfl Tryd.underlying27 f rfl rfl (fun a f => ?_)
  have m : Mem W G_22 w (Itm.box b_18 55 [v_31, (.int .i64 y_20.2.2.1), (.int .u64 y_20.2.2.2)] :: Itm.box b_34 29 [v_27] :: it_28 :: H) := m.front 2 rfl
  obtain ⟨y_35, hy_36, hd⟩ := bind_some hd
  refine l_res f rfl rfl Tryd.call29 (Wk.laws_w5Order m h_32 hy_36) (fun v_40 G_37 Ho_41 w hl_38 m hQ_39 a f => ?_)
  obtain ⟨v_42, it_43, v_46, rfl, rfl, o_44, h_47⟩ := hQ_39
  have h0 := RSl.mono (RI.mono _) _ _ _ _ hl_38 h0
  have o_29 := Ow.mono (RSl.mono (RI.mono _)) hl_38 o_29
  have m : Mem W G_37 w (it_43 :: Itm.box b_18 55 [v_46, (.int .i64 y_35.2.2.1), (.int .u64 y_35.2.2.2)] :: Itm.box b_34 29 [v_27] :: it_28 :: H) := m
  refine l_op f rfl rfl rfl (r_assign (f.eval rfl)) (fun a f => ?_)
  refine l_nil ?_
  refine k_seq ?_
  refine k_region ?_
  refine l_boxAgg 2 0 (ds := [v_27]) m Ag29 f rfl rfl rfl rfl rfl (fun a f => ?_)
  obtain ⟨y_48, hy_49, hd⟩ := bind_some hd
  refine l_res f rfl rfl Tryd.call30 (Ow.lendCall (RSl.mono (RI.mono _)) 3 o_29 m rfl (fun G_50 hl_51 m h_52 => Wk.impl_DegeneracyOf hW m h_52 hy_49) (fun _ _ _ _ h => h)) (fun v_56 G_53 Ho_57 w hl_54 m hQ_55 a f => ?_)
  obtain ⟨rfl, rfl⟩ := hQ_55
  have h0 := RSl.mono (RI.mono _) _ _ _ _ hl_54 h0
  have o_44 := Ow.mono (RI.mono _) hl_54 o_44
  have h_47 := RSl.mono (RI.mono _) _ _ _ _ hl_54 h_47
  have o_29 := Ow.mono (RSl.mono (RI.mono _)) hl_54 o_29
  have m : Mem W G_53 w (it_43 :: Itm.box b_18 55 [v_46, (.int .i64 y_35.2.2.1), (.int .u64 y_35.2.2.2)] :: Itm.box b_34 29 [v_27] :: it_28 :: H) := m
  refine l_op f rfl rfl rfl (r_assign (f.eval rfl)) (fun a f => ?_)
  refine l_nil ?_
  refine k_seq ?_
  refine k_region ?_
  refine l_boxAgg 2 0 (ds := [v_27]) m Ag29 f rfl rfl rfl rfl rfl (fun a f => ?_)
  obtain ⟨y_58, hy_59, hd⟩ := bind_some hd
  refine l_res f rfl rfl Tryd.call31 (Ow.lendCall (RSl.mono (RI.mono _)) 3 o_29 m rfl (fun G_60 hl_61 m h_62 => Wk.impl_ByDegree hW m h_62 hy_59) (fun _ G' _ _ ⟨a0, a1, e1, e2, o0⟩ => ⟨a0, a1, e1, e2, Ow.free (RI.free _) G' o0⟩)) (fun v_66 G_63 Ho_67 w hl_64 m hQ_65 a f => ?_)
  obtain ⟨v_68, it_69, rfl, rfl, o_70⟩ := hQ_65
  have h0 := RSl.mono (RI.mono _) _ _ _ _ hl_64 h0
  have o_44 := Ow.mono (RI.mono _) hl_64 o_44
  have h_47 := RSl.mono (RI.mono _) _ _ _ _ hl_64 h_47
  have o_29 := Ow.mono (RSl.mono (RI.mono _)) hl_64 o_29
  have m : Mem W G_63 w (it_69 :: it_43 :: Itm.box b_18 55 [v_46, (.int .i64 y_35.2.2.1), (.int .u64 y_35.2.2.2)] :: Itm.box b_34 29 [v_27] :: it_28 :: H) := m
  refine l_op f rfl rfl rfl (r_assign (f.eval rfl)) (fun a f => ?_)
  refine l_nil ?_
  refine k_seq ?_
  refine k_region ?_
  refine l_boxAgg 3 0 (ds := [v_27]) m Ag29 f rfl rfl rfl rfl rfl (fun a f => ?_)
  obtain ⟨y_72, hy_73, hd⟩ := bind_some hd
  refine l_res f rfl rfl Tryd.call32 (Ow.lendCall (RSl.mono (RI.mono _)) 4 o_29 m rfl (fun G_74 hl_75 m h_76 => Wk.impl_ByFill hW m h_76 hy_73) (fun _ G' _ _ ⟨a0, a1, e1, e2, o0⟩ => ⟨a0, a1, e1, e2, Ow.free (RI.free _) G' o0⟩)) (fun v_80 G_77 Ho_81 w hl_78 m hQ_79 a f => ?_)
  obtain ⟨v_82, it_83, rfl, rfl, o_84⟩ := hQ_79
  have h0 := RSl.mono (RI.mono _) _ _ _ _ hl_78 h0
  have o_70 := Ow.mono (RI.mono _) hl_78 o_70
  have o_44 := Ow.mono (RI.mono _) hl_78 o_44
  have h_47 := RSl.mono (RI.mono _) _ _ _ _ hl_78 h_47
  have o_29 := Ow.mono (RSl.mono (RI.mono _)) hl_78 o_29
  have m : Mem W G_77 w (it_83 :: it_69 :: it_43 :: Itm.box b_18 55 [v_46, (.int .i64 y_35.2.2.1), (.int .u64 y_35.2.2.2)] :: Itm.box b_34 29 [v_27] :: it_28 :: H) := m
  refine l_op f rfl rfl rfl (r_assign (f.eval rfl)) (fun a f => ?_)
  refine l_nil ?_
  refine k_seq ?_
  refine k_seq ?_
  refine k_region ?_
  refine l_op f rfl rfl rfl (r_move (f.eval rfl)) (fun a f => ?_)
  refine l_boxAgg 4 0 (ds := [v_27]) m Ag29 f rfl rfl rfl rfl rfl (fun a f => ?_)
  obtain ⟨y_86, hy_87, hd⟩ := bind_some hd
  refine l_res f rfl rfl Tryd.call33 (Ow.lendCall (RSl.mono (RI.mono _)) 5 o_29 m rfl (fun G_88 hl_89 m h_90 => Wk.spec_DegeneracyOf m h_90 hy_87) (fun _ _ _ _ h => h)) (fun v_94 G_91 Ho_95 w hl_92 m hQ_93 a f => ?_)
  obtain ⟨rfl, rfl⟩ := hQ_93
  have h0 := RSl.mono (RI.mono _) _ _ _ _ hl_92 h0
  have o_84 := Ow.mono (RI.mono _) hl_92 o_84
  have o_70 := Ow.mono (RI.mono _) hl_92 o_70
  have o_44 := Ow.mono (RI.mono _) hl_92 o_44
  have h_47 := RSl.mono (RI.mono _) _ _ _ _ hl_92 h_47
  have o_29 := Ow.mono (RSl.mono (RI.mono _)) hl_92 o_29
  have m : Mem W G_91 w (it_83 :: it_69 :: it_43 :: Itm.box b_18 55 [v_46, (.int .i64 y_35.2.2.1), (.int .u64 y_35.2.2.2)] :: Itm.box b_34 29 [v_27] :: it_28 :: H) := m
  refine l_op f rfl rfl rfl (r_int (f.eval rfl) (f.eval rfl) b_neq) (fun a f => ?_)
  refine l_op f rfl rfl rfl (r_move (f.eval rfl)) (fun a f => ?_)
  obtain ⟨b_125, hj_126, hd⟩ := bind_some hd
  refine l_cut 5 (fun a w => ∃ G_123, GLe G_91 G_123 ∧ Mem W G_123 w (it_83 :: it_69 :: it_43 :: Itm.box b_18 55 [v_46, (.int .i64 y_35.2.2.1), (.int .u64 y_35.2.2.2)] :: Itm.box b_34 29 [v_27] :: it_28 :: H) ∧ Fr a 110 [(0, v0), (3, (.pointer (some ⟨b_18, 0, none⟩))), (4, (.pointer (some ⟨b_34, 0, none⟩))), (5, v_42), (6, (.int .i64 y_48)), (7, v_68), (8, v_82), (29, (.int .i64 y_48)), (30, (.agg #[v_27])), (31, (.int .i64 y_86)), (32, (.bool (y_48 != y_86))), (33, (.bool (y_48 != y_86))), (38, (.bool b_125))]) ?_ ?_
  ·rcases cond_some hj_126 with ⟨hc_96, hj_126⟩ | ⟨hc_96, hj_126⟩
   ·refine l_not' f rfl rfl rfl hc_96 (fun a f => ?_)
    refine l_not' f rfl rfl rfl hc_96 (fun a f => ?_)
    refine l_not' f rfl rfl rfl hc_96 (fun a f => ?_)
    refine l_not' f rfl rfl rfl hc_96 (fun a f => ?_)
    refine l_op f rfl rfl rfl (r_pickT (f.eval rfl) hc_96 (f.eval rfl)) (fun a f => ?_)
    obtain rfl := Option.some.inj hj_126
    have m : Mem W G_91 w (it_28 :: it_83 :: it_69 :: it_43 :: Itm.box b_18 55 [v_46, (.int .i64 y_35.2.2.1), (.int .u64 y_35.2.2.2)] :: Itm.box b_34 29 [v_27] :: H) := m.front 5 rfl
    have m : Mem W G_91 w (Itm.box b_34 29 [v_27] :: it_28 :: it_83 :: it_69 :: it_43 :: Itm.box b_18 55 [v_46, (.int .i64 y_35.2.2.1), (.int .u64 y_35.2.2.2)] :: H) := m.front 5 rfl
    have m : Mem W G_91 w (Itm.box b_18 55 [v_46, (.int .i64 y_35.2.2.1), (.int .u64 y_35.2.2.2)] :: Itm.box b_34 29 [v_27] :: it_28 :: it_83 :: it_69 :: it_43 :: H) := m.front 5 rfl
    have m : Mem W G_91 w (it_43 :: Itm.box b_18 55 [v_46, (.int .i64 y_35.2.2.1), (.int .u64 y_35.2.2.2)] :: Itm.box b_34 29 [v_27] :: it_28 :: it_83 :: it_69 :: H) := m.front 5 rfl
    have m : Mem W G_91 w (it_69 :: it_43 :: Itm.box b_18 55 [v_46, (.int .i64 y_35.2.2.1), (.int .u64 y_35.2.2.2)] :: Itm.box b_34 29 [v_27] :: it_28 :: it_83 :: H) := m.front 5 rfl
    have m : Mem W G_91 w (it_83 :: it_69 :: it_43 :: Itm.box b_18 55 [v_46, (.int .i64 y_35.2.2.1), (.int .u64 y_35.2.2.2)] :: Itm.box b_34 29 [v_27] :: it_28 :: H) := m.front 5 rfl
    exact ⟨_, (GLe.refl _), m, f.weak ⟨rfl, rfl, rfl, rfl, rfl, rfl, rfl, rfl, rfl, rfl, rfl, rfl, rfl, trivial⟩⟩
   ·refine l_run f rfl rfl hc_96 ?_
    refine l_boxAgg 4 0 (ds := [v_27]) m Ag29 f rfl rfl rfl rfl rfl (fun a f => ?_)
    refine l_run f rfl rfl hc_96 ?_
    refine l_op f rfl rfl rfl (r_move (f.eval rfl)) (fun a f => ?_)
    refine l_run f rfl rfl hc_96 ?_
    obtain ⟨y_127, hy_128, hj_126⟩ := bind_some hj_126
    refine l_res f rfl rfl Tryd.call16 (Ow.lendCall (RSl.mono (RI.mono _)) 5 o_29 m rfl (fun G_129 hl_130 m h_131 => (Ow.lendCall (RI.mono _) 1 (Ow.mono (RI.mono _) hl_130 o_70) m rfl (fun G_132 hl_133 m h_134 => Wk.spec_OrderOk m (RSl.mono (RSl.mono (RI.mono _)) _ _ _ _ hl_133 h_131) h_134 hy_128) (fun _ _ _ _ h => h))) (fun _ _ _ _ h => h)) (fun v_138 G_135 Ho_139 w hl_136 m hQ_137 a f => ?_)
    obtain ⟨rfl, rfl⟩ := hQ_137
    have h0 := RSl.mono (RI.mono _) _ _ _ _ hl_136 h0
    have o_84 := Ow.mono (RI.mono _) hl_136 o_84
    have o_70 := Ow.mono (RI.mono _) hl_136 o_70
    have o_44 := Ow.mono (RI.mono _) hl_136 o_44
    have h_47 := RSl.mono (RI.mono _) _ _ _ _ hl_136 h_47
    have o_29 := Ow.mono (RSl.mono (RI.mono _)) hl_136 o_29
    have m : Mem W G_135 w (it_83 :: it_69 :: it_43 :: Itm.box b_18 55 [v_46, (.int .i64 y_35.2.2.1), (.int .u64 y_35.2.2.2)] :: Itm.box b_34 29 [v_27] :: it_28 :: H) := m
    refine l_run f rfl rfl hc_96 ?_
    refine l_op f rfl rfl rfl (r_not (f.eval rfl)) (fun a f => ?_)
    refine l_op f rfl rfl rfl (r_pickF (f.eval rfl) hc_96 (f.eval rfl)) (fun a f => ?_)
    obtain rfl := Option.some.inj hj_126
    have m : Mem W G_135 w (it_28 :: it_83 :: it_69 :: it_43 :: Itm.box b_18 55 [v_46, (.int .i64 y_35.2.2.1), (.int .u64 y_35.2.2.2)] :: Itm.box b_34 29 [v_27] :: H) := m.front 5 rfl
    have m : Mem W G_135 w (Itm.box b_34 29 [v_27] :: it_28 :: it_83 :: it_69 :: it_43 :: Itm.box b_18 55 [v_46, (.int .i64 y_35.2.2.1), (.int .u64 y_35.2.2.2)] :: H) := m.front 5 rfl
    have m : Mem W G_135 w (Itm.box b_18 55 [v_46, (.int .i64 y_35.2.2.1), (.int .u64 y_35.2.2.2)] :: Itm.box b_34 29 [v_27] :: it_28 :: it_83 :: it_69 :: it_43 :: H) := m.front 5 rfl
    have m : Mem W G_135 w (it_43 :: Itm.box b_18 55 [v_46, (.int .i64 y_35.2.2.1), (.int .u64 y_35.2.2.2)] :: Itm.box b_34 29 [v_27] :: it_28 :: it_83 :: it_69 :: H) := m.front 5 rfl
    have m : Mem W G_135 w (it_69 :: it_43 :: Itm.box b_18 55 [v_46, (.int .i64 y_35.2.2.1), (.int .u64 y_35.2.2.2)] :: Itm.box b_34 29 [v_27] :: it_28 :: it_83 :: H) := m.front 5 rfl
    have m : Mem W G_135 w (it_83 :: it_69 :: it_43 :: Itm.box b_18 55 [v_46, (.int .i64 y_35.2.2.1), (.int .u64 y_35.2.2.2)] :: Itm.box b_34 29 [v_27] :: it_28 :: H) := m.front 5 rfl
    exact ⟨_, hl_136, m, f.weak ⟨rfl, rfl, rfl, rfl, rfl, rfl, rfl, rfl, rfl, rfl, rfl, rfl, rfl, trivial⟩⟩
  ·rintro a w ⟨G_123, hl_124, m, f⟩
   have h0 := RSl.mono (RI.mono _) _ _ _ _ hl_124 h0
   have o_84 := Ow.mono (RI.mono _) hl_124 o_84
   have o_70 := Ow.mono (RI.mono _) hl_124 o_70
   have o_44 := Ow.mono (RI.mono _) hl_124 o_44
   have h_47 := RSl.mono (RI.mono _) _ _ _ _ hl_124 h_47
   have o_29 := Ow.mono (RSl.mono (RI.mono _)) hl_124 o_29
   refine l_op f rfl rfl rfl (r_move (f.eval rfl)) (fun a f => ?_)
   obtain ⟨b_169, hj_170, hd⟩ := bind_some hd
   refine l_cut 5 (fun a w => ∃ G_167, GLe G_123 G_167 ∧ Mem W G_167 w (it_83 :: it_69 :: it_43 :: Itm.box b_18 55 [v_46, (.int .i64 y_35.2.2.1), (.int .u64 y_35.2.2.2)] :: Itm.box b_34 29 [v_27] :: it_28 :: H) ∧ Fr a 110 [(0, v0), (3, (.pointer (some ⟨b_18, 0, none⟩))), (4, (.pointer (some ⟨b_34, 0, none⟩))), (5, v_42), (6, (.int .i64 y_48)), (7, v_68), (8, v_82), (29, (.int .i64 y_48)), (30, (.agg #[v_27])), (31, (.int .i64 y_86)), (32, (.bool (y_48 != y_86))), (33, (.bool (y_48 != y_86))), (38, (.bool b_125)), (39, (.bool b_125)), (44, (.bool b_169))]) ?_ ?_
   ·rcases cond_some hj_170 with ⟨hc_140, hj_170⟩ | ⟨hc_140, hj_170⟩
    ·refine l_not' f rfl rfl rfl hc_140 (fun a f => ?_)
     refine l_not' f rfl rfl rfl hc_140 (fun a f => ?_)
     refine l_not' f rfl rfl rfl hc_140 (fun a f => ?_)
     refine l_not' f rfl rfl rfl hc_140 (fun a f => ?_)
     refine l_op f rfl rfl rfl (r_pickT (f.eval rfl) hc_140 (f.eval rfl)) (fun a f => ?_)
     obtain rfl := Option.some.inj hj_170
     have m : Mem W G_123 w (it_28 :: it_83 :: it_69 :: it_43 :: Itm.box b_18 55 [v_46, (.int .i64 y_35.2.2.1), (.int .u64 y_35.2.2.2)] :: Itm.box b_34 29 [v_27] :: H) := m.front 5 rfl
     have m : Mem W G_123 w (Itm.box b_34 29 [v_27] :: it_28 :: it_83 :: it_69 :: it_43 :: Itm.box b_18 55 [v_46, (.int .i64 y_35.2.2.1), (.int .u64 y_35.2.2.2)] :: H) := m.front 5 rfl
     have m : Mem W G_123 w (Itm.box b_18 55 [v_46, (.int .i64 y_35.2.2.1), (.int .u64 y_35.2.2.2)] :: Itm.box b_34 29 [v_27] :: it_28 :: it_83 :: it_69 :: it_43 :: H) := m.front 5 rfl
     have m : Mem W G_123 w (it_43 :: Itm.box b_18 55 [v_46, (.int .i64 y_35.2.2.1), (.int .u64 y_35.2.2.2)] :: Itm.box b_34 29 [v_27] :: it_28 :: it_83 :: it_69 :: H) := m.front 5 rfl
     have m : Mem W G_123 w (it_69 :: it_43 :: Itm.box b_18 55 [v_46, (.int .i64 y_35.2.2.1), (.int .u64 y_35.2.2.2)] :: Itm.box b_34 29 [v_27] :: it_28 :: it_83 :: H) := m.front 5 rfl
     have m : Mem W G_123 w (it_83 :: it_69 :: it_43 :: Itm.box b_18 55 [v_46, (.int .i64 y_35.2.2.1), (.int .u64 y_35.2.2.2)] :: Itm.box b_34 29 [v_27] :: it_28 :: H) := m.front 5 rfl
     exact ⟨_, (GLe.refl _), m, f.weak ⟨rfl, rfl, rfl, rfl, rfl, rfl, rfl, rfl, rfl, rfl, rfl, rfl, rfl, rfl, rfl, trivial⟩⟩
    ·refine l_run f rfl rfl hc_140 ?_
     refine l_boxAgg 4 0 (ds := [v_27]) m Ag29 f rfl rfl rfl rfl rfl (fun a f => ?_)
     refine l_run f rfl rfl hc_140 ?_
     refine l_op f rfl rfl rfl (r_move (f.eval rfl)) (fun a f => ?_)
     refine l_run f rfl rfl hc_140 ?_
     obtain ⟨y_171, hy_172, hj_170⟩ := bind_some hj_170
     refine l_res f rfl rfl Tryd.call16 (Ow.lendCall (RSl.mono (RI.mono _)) 5 o_29 m rfl (fun G_173 hl_174 m h_175 => (Ow.lendCall (RI.mono _) 0 (Ow.mono (RI.mono _) hl_174 o_84) m rfl (fun G_176 hl_177 m h_178 => Wk.spec_OrderOk m (RSl.mono (RSl.mono (RI.mono _)) _ _ _ _ hl_177 h_175) h_178 hy_172) (fun _ _ _ _ h => h))) (fun _ _ _ _ h => h)) (fun v_182 G_179 Ho_183 w hl_180 m hQ_181 a f => ?_)
     obtain ⟨rfl, rfl⟩ := hQ_181
     have h0 := RSl.mono (RI.mono _) _ _ _ _ hl_180 h0
     have o_84 := Ow.mono (RI.mono _) hl_180 o_84
     have o_70 := Ow.mono (RI.mono _) hl_180 o_70
     have o_44 := Ow.mono (RI.mono _) hl_180 o_44
     have h_47 := RSl.mono (RI.mono _) _ _ _ _ hl_180 h_47
     have o_29 := Ow.mono (RSl.mono (RI.mono _)) hl_180 o_29
     have m : Mem W G_179 w (it_83 :: it_69 :: it_43 :: Itm.box b_18 55 [v_46, (.int .i64 y_35.2.2.1), (.int .u64 y_35.2.2.2)] :: Itm.box b_34 29 [v_27] :: it_28 :: H) := m
     refine l_run f rfl rfl hc_140 ?_
     refine l_op f rfl rfl rfl (r_not (f.eval rfl)) (fun a f => ?_)
     refine l_op f rfl rfl rfl (r_pickF (f.eval rfl) hc_140 (f.eval rfl)) (fun a f => ?_)
     obtain rfl := Option.some.inj hj_170
     have m : Mem W G_179 w (it_28 :: it_83 :: it_69 :: it_43 :: Itm.box b_18 55 [v_46, (.int .i64 y_35.2.2.1), (.int .u64 y_35.2.2.2)] :: Itm.box b_34 29 [v_27] :: H) := m.front 5 rfl
     have m : Mem W G_179 w (Itm.box b_34 29 [v_27] :: it_28 :: it_83 :: it_69 :: it_43 :: Itm.box b_18 55 [v_46, (.int .i64 y_35.2.2.1), (.int .u64 y_35.2.2.2)] :: H) := m.front 5 rfl
     have m : Mem W G_179 w (Itm.box b_18 55 [v_46, (.int .i64 y_35.2.2.1), (.int .u64 y_35.2.2.2)] :: Itm.box b_34 29 [v_27] :: it_28 :: it_83 :: it_69 :: it_43 :: H) := m.front 5 rfl
     have m : Mem W G_179 w (it_43 :: Itm.box b_18 55 [v_46, (.int .i64 y_35.2.2.1), (.int .u64 y_35.2.2.2)] :: Itm.box b_34 29 [v_27] :: it_28 :: it_83 :: it_69 :: H) := m.front 5 rfl
     have m : Mem W G_179 w (it_69 :: it_43 :: Itm.box b_18 55 [v_46, (.int .i64 y_35.2.2.1), (.int .u64 y_35.2.2.2)] :: Itm.box b_34 29 [v_27] :: it_28 :: it_83 :: H) := m.front 5 rfl
     have m : Mem W G_179 w (it_83 :: it_69 :: it_43 :: Itm.box b_18 55 [v_46, (.int .i64 y_35.2.2.1), (.int .u64 y_35.2.2.2)] :: Itm.box b_34 29 [v_27] :: it_28 :: H) := m.front 5 rfl
     exact ⟨_, hl_180, m, f.weak ⟨rfl, rfl, rfl, rfl, rfl, rfl, rfl, rfl, rfl, rfl, rfl, rfl, rfl, rfl, rfl, trivial⟩⟩
   ·rintro a w ⟨G_167, hl_168, m, f⟩
    have h0 := RSl.mono (RI.mono _) _ _ _ _ hl_168 h0
    have o_84 := Ow.mono (RI.mono _) hl_168 o_84
    have o_70 := Ow.mono (RI.mono _) hl_168 o_70
    have o_44 := Ow.mono (RI.mono _) hl_168 o_44
    have h_47 := RSl.mono (RI.mono _) _ _ _ _ hl_168 h_47
    have o_29 := Ow.mono (RSl.mono (RI.mono _)) hl_168 o_29
    refine l_op f rfl rfl rfl (r_move (f.eval rfl)) (fun a f => ?_)
    obtain ⟨b_241, hj_242, hd⟩ := bind_some hd
    refine l_cut 6 (fun a w => ∃ G_239, GLe G_167 G_239 ∧ Mem W G_239 w (it_83 :: it_69 :: it_43 :: Itm.box b_18 55 [v_46, (.int .i64 y_35.2.2.1), (.int .u64 y_35.2.2.2)] :: Itm.box b_34 29 [v_27] :: it_28 :: H) ∧ Fr a 110 [(0, v0), (3, (.pointer (some ⟨b_18, 0, none⟩))), (4, (.pointer (some ⟨b_34, 0, none⟩))), (5, v_42), (6, (.int .i64 y_48)), (7, v_68), (8, v_82), (29, (.int .i64 y_48)), (30, (.agg #[v_27])), (31, (.int .i64 y_86)), (32, (.bool (y_48 != y_86))), (33, (.bool (y_48 != y_86))), (38, (.bool b_125)), (39, (.bool b_125)), (44, (.bool b_169)), (45, (.bool b_169)), (51, (.bool b_241))]) ?_ ?_
    ·rcases cond_some hj_242 with ⟨hc_184, hj_242⟩ | ⟨hc_184, hj_242⟩
     ·refine l_not' f rfl rfl rfl hc_184 (fun a f => ?_)
      refine l_not' f rfl rfl rfl hc_184 (fun a f => ?_)
      refine l_not' f rfl rfl rfl hc_184 (fun a f => ?_)
      refine l_not' f rfl rfl rfl hc_184 (fun a f => ?_)
      refine l_not' f rfl rfl rfl hc_184 (fun a f => ?_)
      refine l_op f rfl rfl rfl (r_pickT (f.eval rfl) hc_184 (f.eval rfl)) (fun a f => ?_)
      obtain rfl := Option.some.inj hj_242
      have m : Mem W G_167 w (it_28 :: it_83 :: it_69 :: it_43 :: Itm.box b_18 55 [v_46, (.int .i64 y_35.2.2.1), (.int .u64 y_35.2.2.2)] :: Itm.box b_34 29 [v_27] :: H) := m.front 5 rfl
      have m : Mem W G_167 w (Itm.box b_34 29 [v_27] :: it_28 :: it_83 :: it_69 :: it_43 :: Itm.box b_18 55 [v_46, (.int .i64 y_35.2.2.1), (.int .u64 y_35.2.2.2)] :: H) := m.front 5 rfl
      have m : Mem W G_167 w (Itm.box b_18 55 [v_46, (.int .i64 y_35.2.2.1), (.int .u64 y_35.2.2.2)] :: Itm.box b_34 29 [v_27] :: it_28 :: it_83 :: it_69 :: it_43 :: H) := m.front 5 rfl
      have m : Mem W G_167 w (it_43 :: Itm.box b_18 55 [v_46, (.int .i64 y_35.2.2.1), (.int .u64 y_35.2.2.2)] :: Itm.box b_34 29 [v_27] :: it_28 :: it_83 :: it_69 :: H) := m.front 5 rfl
      have m : Mem W G_167 w (it_69 :: it_43 :: Itm.box b_18 55 [v_46, (.int .i64 y_35.2.2.1), (.int .u64 y_35.2.2.2)] :: Itm.box b_34 29 [v_27] :: it_28 :: it_83 :: H) := m.front 5 rfl
      have m : Mem W G_167 w (it_83 :: it_69 :: it_43 :: Itm.box b_18 55 [v_46, (.int .i64 y_35.2.2.1), (.int .u64 y_35.2.2.2)] :: Itm.box b_34 29 [v_27] :: it_28 :: H) := m.front 5 rfl
      exact ⟨_, (GLe.refl _), m, f.weak ⟨rfl, rfl, rfl, rfl, rfl, rfl, rfl, rfl, rfl, rfl, rfl, rfl, rfl, rfl, rfl, rfl, rfl, trivial⟩⟩
     ·refine l_run f rfl rfl hc_184 ?_
      refine l_op f rfl rfl rfl (r_move (f.eval rfl)) (fun a f => ?_)
      refine l_run f rfl rfl hc_184 ?_
      refine l_boxAgg 4 0 (ds := [v_27]) m Ag29 f rfl rfl rfl rfl rfl (fun a f => ?_)
      refine l_run f rfl rfl hc_184 ?_
      obtain ⟨y_243, hy_244, hj_242⟩ := bind_some hj_242
      refine l_res f rfl rfl Tryd.call35 (Ow.lendCall (RSl.mono (RI.mono _)) 5 o_29 m rfl (fun G_245 hl_246 m h_247 => Wk.spec_ByDegree m h_247 hy_244) (fun _ G' _ _ ⟨a0, a1, e1, e2, o0⟩ => ⟨a0, a1, e1, e2, Ow.free (RI.free _) G' o0⟩)) (fun v_251 G_248 Ho_252 w hl_249 m hQ_250 a f => ?_)
      obtain ⟨v_253, it_254, rfl, rfl, o_255⟩ := hQ_250
      have h0 := RSl.mono (RI.mono _) _ _ _ _ hl_249 h0
      have o_84 := Ow.mono (RI.mono _) hl_249 o_84
      have o_70 := Ow.mono (RI.mono _) hl_249 o_70
      have o_44 := Ow.mono (RI.mono _) hl_249 o_44
      have h_47 := RSl.mono (RI.mono _) _ _ _ _ hl_249 h_47
      have o_29 := Ow.mono (RSl.mono (RI.mono _)) hl_249 o_29
      have m : Mem W G_248 w (it_254 :: it_83 :: it_69 :: it_43 :: Itm.box b_18 55 [v_46, (.int .i64 y_35.2.2.1), (.int .u64 y_35.2.2.2)] :: Itm.box b_34 29 [v_27] :: it_28 :: H) := m
      refine l_run f rfl rfl hc_184 ?_
      obtain ⟨y_257, hy_258, hj_242⟩ := bind_some hj_242
      refine l_res f rfl rfl Tryd.call34 (Ow.lendCall (RI.mono _) 2 o_70 m rfl (fun G_259 hl_260 m h_261 => (Ow.lendCall (RI.mono _) 0 (Ow.mono (RI.mono _) hl_260 o_255) m rfl (fun G_262 hl_263 m h_264 => Wk.laws_likeInts m (RSl.mono (RI.mono _) _ _ _ _ hl_263 h_261) h_264 hy_258) (fun _ _ _ _ h => h))) (fun _ _ _ _ h => h)) (fun v_268 G_265 Ho_269 w hl_266 m hQ_267 a f => ?_)
      obtain ⟨rfl, rfl⟩ := hQ_267
      have h0 := RSl.mono (RI.mono _) _ _ _ _ hl_266 h0
      have o_255 := Ow.mono (RI.mono _) hl_266 o_255
      have o_84 := Ow.mono (RI.mono _) hl_266 o_84
      have o_70 := Ow.mono (RI.mono _) hl_266 o_70
      have o_44 := Ow.mono (RI.mono _) hl_266 o_44
      have h_47 := RSl.mono (RI.mono _) _ _ _ _ hl_266 h_47
      have o_29 := Ow.mono (RSl.mono (RI.mono _)) hl_266 o_29
      have m : Mem W G_265 w (it_254 :: it_83 :: it_69 :: it_43 :: Itm.box b_18 55 [v_46, (.int .i64 y_35.2.2.1), (.int .u64 y_35.2.2.2)] :: Itm.box b_34 29 [v_27] :: it_28 :: H) := m
      refine l_run f rfl rfl hc_184 ?_
      refine l_op f rfl rfl rfl (r_not (f.eval rfl)) (fun a f => ?_)
      refine l_op f rfl rfl rfl (r_pickF (f.eval rfl) hc_184 (f.eval rfl)) (fun a f => ?_)
      obtain rfl := Option.some.inj hj_242
      have m : Mem W G_265 w (it_28 :: it_254 :: it_83 :: it_69 :: it_43 :: Itm.box b_18 55 [v_46, (.int .i64 y_35.2.2.1), (.int .u64 y_35.2.2.2)] :: Itm.box b_34 29 [v_27] :: H) := m.front 6 rfl
      have m : Mem W G_265 w (Itm.box b_34 29 [v_27] :: it_28 :: it_254 :: it_83 :: it_69 :: it_43 :: Itm.box b_18 55 [v_46, (.int .i64 y_35.2.2.1), (.int .u64 y_35.2.2.2)] :: H) := m.front 6 rfl
      have m : Mem W G_265 w (Itm.box b_18 55 [v_46, (.int .i64 y_35.2.2.1), (.int .u64 y_35.2.2.2)] :: Itm.box b_34 29 [v_27] :: it_28 :: it_254 :: it_83 :: it_69 :: it_43 :: H) := m.front 6 rfl
      have m : Mem W G_265 w (it_43 :: Itm.box b_18 55 [v_46, (.int .i64 y_35.2.2.1), (.int .u64 y_35.2.2.2)] :: Itm.box b_34 29 [v_27] :: it_28 :: it_254 :: it_83 :: it_69 :: H) := m.front 6 rfl
      have m : Mem W G_265 w (it_69 :: it_43 :: Itm.box b_18 55 [v_46, (.int .i64 y_35.2.2.1), (.int .u64 y_35.2.2.2)] :: Itm.box b_34 29 [v_27] :: it_28 :: it_254 :: it_83 :: H) := m.front 6 rfl
      have m : Mem W G_265 w (it_83 :: it_69 :: it_43 :: Itm.box b_18 55 [v_46, (.int .i64 y_35.2.2.1), (.int .u64 y_35.2.2.2)] :: Itm.box b_34 29 [v_27] :: it_28 :: it_254 :: H) := m.front 6 rfl
      have m : Mem W G_265 w (it_83 :: it_69 :: it_43 :: Itm.box b_18 55 [v_46, (.int .i64 y_35.2.2.1), (.int .u64 y_35.2.2.2)] :: Itm.box b_34 29 [v_27] :: it_28 :: H) := m.eraseAt 6
      exact ⟨_, (GLe.trans hl_249 hl_266), m, f.weak ⟨rfl, rfl, rfl, rfl, rfl, rfl, rfl, rfl, rfl, rfl, rfl, rfl, rfl, rfl, rfl, rfl, rfl, trivial⟩⟩
    ·rintro a w ⟨G_239, hl_240, m, f⟩
     have h0 := RSl.mono (RI.mono _) _ _ _ _ hl_240 h0
     have o_84 := Ow.mono (RI.mono _) hl_240 o_84
     have o_70 := Ow.mono (RI.mono _) hl_240 o_70
     have o_44 := Ow.mono (RI.mono _) hl_240 o_44
     have h_47 := RSl.mono (RI.mono _) _ _ _ _ hl_240 h_47
     have o_29 := Ow.mono (RSl.mono (RI.mono _)) hl_240 o_29
     refine l_op f rfl rfl rfl (r_move (f.eval rfl)) (fun a f => ?_)
     obtain ⟨b_327, hj_328, hd⟩ := bind_some hd
     refine l_cut 6 (fun a w => ∃ G_325, GLe G_239 G_325 ∧ Mem W G_325 w (it_83 :: it_69 :: it_43 :: Itm.box b_18 55 [v_46, (.int .i64 y_35.2.2.1), (.int .u64 y_35.2.2.2)] :: Itm.box b_34 29 [v_27] :: it_28 :: H) ∧ Fr a 110 [(0, v0), (3, (.pointer (some ⟨b_18, 0, none⟩))), (4, (.pointer (some ⟨b_34, 0, none⟩))), (5, v_42), (6, (.int .i64 y_48)), (7, v_68), (8, v_82), (29, (.int .i64 y_48)), (30, (.agg #[v_27])), (31, (.int .i64 y_86)), (32, (.bool (y_48 != y_86))), (33, (.bool (y_48 != y_86))), (38, (.bool b_125)), (39, (.bool b_125)), (44, (.bool b_169)), (45, (.bool b_169)), (51, (.bool b_241)), (52, (.bool b_241)), (58, (.bool b_327))]) ?_ ?_
     ·rcases cond_some hj_328 with ⟨hc_270, hj_328⟩ | ⟨hc_270, hj_328⟩
      ·refine l_not' f rfl rfl rfl hc_270 (fun a f => ?_)
       refine l_not' f rfl rfl rfl hc_270 (fun a f => ?_)
       refine l_not' f rfl rfl rfl hc_270 (fun a f => ?_)
       refine l_not' f rfl rfl rfl hc_270 (fun a f => ?_)
       refine l_not' f rfl rfl rfl hc_270 (fun a f => ?_)
       refine l_op f rfl rfl rfl (r_pickT (f.eval rfl) hc_270 (f.eval rfl)) (fun a f => ?_)
       obtain rfl := Option.some.inj hj_328
       have m : Mem W G_239 w (it_28 :: it_83 :: it_69 :: it_43 :: Itm.box b_18 55 [v_46, (.int .i64 y_35.2.2.1), (.int .u64 y_35.2.2.2)] :: Itm.box b_34 29 [v_27] :: H) := m.front 5 rfl
       have m : Mem W G_239 w (Itm.box b_34 29 [v_27] :: it_28 :: it_83 :: it_69 :: it_43 :: Itm.box b_18 55 [v_46, (.int .i64 y_35.2.2.1), (.int .u64 y_35.2.2.2)] :: H) := m.front 5 rfl
       have m : Mem W G_239 w (Itm.box b_18 55 [v_46, (.int .i64 y_35.2.2.1), (.int .u64 y_35.2.2.2)] :: Itm.box b_34 29 [v_27] :: it_28 :: it_83 :: it_69 :: it_43 :: H) := m.front 5 rfl
       have m : Mem W G_239 w (it_43 :: Itm.box b_18 55 [v_46, (.int .i64 y_35.2.2.1), (.int .u64 y_35.2.2.2)] :: Itm.box b_34 29 [v_27] :: it_28 :: it_83 :: it_69 :: H) := m.front 5 rfl
       have m : Mem W G_239 w (it_69 :: it_43 :: Itm.box b_18 55 [v_46, (.int .i64 y_35.2.2.1), (.int .u64 y_35.2.2.2)] :: Itm.box b_34 29 [v_27] :: it_28 :: it_83 :: H) := m.front 5 rfl
       have m : Mem W G_239 w (it_83 :: it_69 :: it_43 :: Itm.box b_18 55 [v_46, (.int .i64 y_35.2.2.1), (.int .u64 y_35.2.2.2)] :: Itm.box b_34 29 [v_27] :: it_28 :: H) := m.front 5 rfl
       exact ⟨_, (GLe.refl _), m, f.weak ⟨rfl, rfl, rfl, rfl, rfl, rfl, rfl, rfl, rfl, rfl, rfl, rfl, rfl, rfl, rfl, rfl, rfl, rfl, rfl, trivial⟩⟩
      ·refine l_run f rfl rfl hc_270 ?_
       refine l_op f rfl rfl rfl (r_move (f.eval rfl)) (fun a f => ?_)
       refine l_run f rfl rfl hc_270 ?_
       refine l_boxAgg 4 0 (ds := [v_27]) m Ag29 f rfl rfl rfl rfl rfl (fun a f => ?_)
       refine l_run f rfl rfl hc_270 ?_
       obtain ⟨y_329, hy_330, hj_328⟩ := bind_some hj_328
       refine l_res f rfl rfl Tryd.call36 (Ow.lendCall (RSl.mono (RI.mono _)) 5 o_29 m rfl (fun G_331 hl_332 m h_333 => Wk.spec_ByFill m h_333 hy_330) (fun _ G' _ _ ⟨a0, a1, e1, e2, o0⟩ => ⟨a0, a1, e1, e2, Ow.free (RI.free _) G' o0⟩)) (fun v_337 G_334 Ho_338 w hl_335 m hQ_336 a f => ?_)
       obtain ⟨v_339, it_340, rfl, rfl, o_341⟩ := hQ_336
       have h0 := RSl.mono (RI.mono _) _ _ _ _ hl_335 h0
       have o_84 := Ow.mono (RI.mono _) hl_335 o_84
       have o_70 := Ow.mono (RI.mono _) hl_335 o_70
       have o_44 := Ow.mono (RI.mono _) hl_335 o_44
       have h_47 := RSl.mono (RI.mono _) _ _ _ _ hl_335 h_47
       have o_29 := Ow.mono (RSl.mono (RI.mono _)) hl_335 o_29
       have m : Mem W G_334 w (it_340 :: it_83 :: it_69 :: it_43 :: Itm.box b_18 55 [v_46, (.int .i64 y_35.2.2.1), (.int .u64 y_35.2.2.2)] :: Itm.box b_34 29 [v_27] :: it_28 :: H) := m
       refine l_run f rfl rfl hc_270 ?_
       obtain ⟨y_343, hy_344, hj_328⟩ := bind_some hj_328
       refine l_res f rfl rfl Tryd.call34 (Ow.lendCall (RI.mono _) 1 o_84 m rfl (fun G_345 hl_346 m h_347 => (Ow.lendCall (RI.mono _) 0 (Ow.mono (RI.mono _) hl_346 o_341) m rfl (fun G_348 hl_349 m h_350 => Wk.laws_likeInts m (RSl.mono (RI.mono _) _ _ _ _ hl_349 h_347) h_350 hy_344) (fun _ _ _ _ h => h))) (fun _ _ _ _ h => h)) (fun v_354 G_351 Ho_355 w hl_352 m hQ_353 a f => ?_)
       obtain ⟨rfl, rfl⟩ := hQ_353
       have h0 := RSl.mono (RI.mono _) _ _ _ _ hl_352 h0
       have o_341 := Ow.mono (RI.mono _) hl_352 o_341
       have o_84 := Ow.mono (RI.mono _) hl_352 o_84
       have o_70 := Ow.mono (RI.mono _) hl_352 o_70
       have o_44 := Ow.mono (RI.mono _) hl_352 o_44
       have h_47 := RSl.mono (RI.mono _) _ _ _ _ hl_352 h_47
       have o_29 := Ow.mono (RSl.mono (RI.mono _)) hl_352 o_29
       have m : Mem W G_351 w (it_340 :: it_83 :: it_69 :: it_43 :: Itm.box b_18 55 [v_46, (.int .i64 y_35.2.2.1), (.int .u64 y_35.2.2.2)] :: Itm.box b_34 29 [v_27] :: it_28 :: H) := m
       refine l_run f rfl rfl hc_270 ?_
       refine l_op f rfl rfl rfl (r_not (f.eval rfl)) (fun a f => ?_)
       refine l_op f rfl rfl rfl (r_pickF (f.eval rfl) hc_270 (f.eval rfl)) (fun a f => ?_)
       obtain rfl := Option.some.inj hj_328
       have m : Mem W G_351 w (it_28 :: it_340 :: it_83 :: it_69 :: it_43 :: Itm.box b_18 55 [v_46, (.int .i64 y_35.2.2.1), (.int .u64 y_35.2.2.2)] :: Itm.box b_34 29 [v_27] :: H) := m.front 6 rfl
       have m : Mem W G_351 w (Itm.box b_34 29 [v_27] :: it_28 :: it_340 :: it_83 :: it_69 :: it_43 :: Itm.box b_18 55 [v_46, (.int .i64 y_35.2.2.1), (.int .u64 y_35.2.2.2)] :: H) := m.front 6 rfl
       have m : Mem W G_351 w (Itm.box b_18 55 [v_46, (.int .i64 y_35.2.2.1), (.int .u64 y_35.2.2.2)] :: Itm.box b_34 29 [v_27] :: it_28 :: it_340 :: it_83 :: it_69 :: it_43 :: H) := m.front 6 rfl
       have m : Mem W G_351 w (it_43 :: Itm.box b_18 55 [v_46, (.int .i64 y_35.2.2.1), (.int .u64 y_35.2.2.2)] :: Itm.box b_34 29 [v_27] :: it_28 :: it_340 :: it_83 :: it_69 :: H) := m.front 6 rfl
       have m : Mem W G_351 w (it_69 :: it_43 :: Itm.box b_18 55 [v_46, (.int .i64 y_35.2.2.1), (.int .u64 y_35.2.2.2)] :: Itm.box b_34 29 [v_27] :: it_28 :: it_340 :: it_83 :: H) := m.front 6 rfl
       have m : Mem W G_351 w (it_83 :: it_69 :: it_43 :: Itm.box b_18 55 [v_46, (.int .i64 y_35.2.2.1), (.int .u64 y_35.2.2.2)] :: Itm.box b_34 29 [v_27] :: it_28 :: it_340 :: H) := m.front 6 rfl
       have m : Mem W G_351 w (it_83 :: it_69 :: it_43 :: Itm.box b_18 55 [v_46, (.int .i64 y_35.2.2.1), (.int .u64 y_35.2.2.2)] :: Itm.box b_34 29 [v_27] :: it_28 :: H) := m.eraseAt 6
       exact ⟨_, (GLe.trans hl_335 hl_352), m, f.weak ⟨rfl, rfl, rfl, rfl, rfl, rfl, rfl, rfl, rfl, rfl, rfl, rfl, rfl, rfl, rfl, rfl, rfl, rfl, rfl, trivial⟩⟩
     ·rintro a w ⟨G_325, hl_326, m, f⟩
      have h0 := RSl.mono (RI.mono _) _ _ _ _ hl_326 h0
      have o_84 := Ow.mono (RI.mono _) hl_326 o_84
      have o_70 := Ow.mono (RI.mono _) hl_326 o_70
      have o_44 := Ow.mono (RI.mono _) hl_326 o_44
      have h_47 := RSl.mono (RI.mono _) _ _ _ _ hl_326 h_47
      have o_29 := Ow.mono (RSl.mono (RI.mono _)) hl_326 o_29
      refine l_nil ?_
      rcases cond_some hd with ⟨hc_356, hd⟩ | ⟨hc_356, hd⟩
      ·refine k_true f rfl hc_356 ?_
       refine k_seq ?_
       refine k_region ?_
       refine l_op f rfl rfl rfl (r_assign (f.eval rfl)) (fun a f => ?_)
       refine l_nil ?_
       refine k_ret ?_
       have m : Mem W G_325 w H := Mem.drop (H' := [it_83, it_69, it_43, Itm.box b_18 55 [v_46, (.int .i64 y_35.2.2.1), (.int .u64 y_35.2.2.2)], Itm.box b_34 29 [v_27], it_28]) m
       obtain rfl := Option.some.inj hd
       exact ⟨[(.bool false)], ⟨f.get _ _ rfl, trivial⟩, f.defers, _, [], (GLe.trans hl_4 (GLe.trans hl_12 (GLe.trans hl_23 (GLe.trans hl_38 (GLe.trans hl_54 (GLe.trans hl_64 (GLe.trans hl_78 (GLe.trans hl_92 (GLe.trans hl_124 (GLe.trans hl_168 (GLe.trans hl_240 hl_326))))))))))), m, rfl, rfl⟩
      ·refine k_false f rfl hc_356 ?_
       refine k_skip ?_
       refine k_seq ?_
       refine k_region ?_
       refine l_boxAgg 4 0 (ds := [v_27]) m Ag29 f rfl rfl rfl rfl rfl (fun a f => ?_)
       refine l_op f rfl rfl rfl (r_move (f.eval rfl)) (fun a f => ?_)
       obtain ⟨y_357, hy_358, hd⟩ := bind_some hd
       refine l_res f rfl rfl Tryd.call37 (Ow.lendCall (RSl.mono (RI.mono _)) 5 o_29 m rfl (fun G_359 hl_360 m h_361 => (Ow.lendCall (RI.mono _) 2 (Ow.mono (RI.mono _) hl_360 o_44) m rfl (fun G_362 hl_363 m h_364 => Wk.impl_LaterOf hW m (RSl.mono (RSl.mono (RI.mono _)) _ _ _ _ hl_363 h_361) h_364 hy_358) (fun _ G' _ _ ⟨a0, a1, e1, e2, o0⟩ => ⟨a0, a1, e1, e2, Ow2.free (RI.free _) G' o0⟩))) (fun _ G' _ _ ⟨a0, a1, e1, e2, o0⟩ => ⟨a0, a1, e1, e2, Ow2.free (RI.free _) G' o0⟩)) (fun v_368 G_365 Ho_369 w hl_366 m hQ_367 a f => ?_)
       obtain ⟨v_370, it_371, rfl, rfl, o_372⟩ := hQ_367
       have h0 := RSl.mono (RI.mono _) _ _ _ _ hl_366 h0
       have o_84 := Ow.mono (RI.mono _) hl_366 o_84
       have o_70 := Ow.mono (RI.mono _) hl_366 o_70
       have o_44 := Ow.mono (RI.mono _) hl_366 o_44
       have h_47 := RSl.mono (RI.mono _) _ _ _ _ hl_366 h_47
       have o_29 := Ow.mono (RSl.mono (RI.mono _)) hl_366 o_29
       have m : Mem W G_365 w (it_371 :: it_83 :: it_69 :: it_43 :: Itm.box b_18 55 [v_46, (.int .i64 y_35.2.2.1), (.int .u64 y_35.2.2.2)] :: Itm.box b_34 29 [v_27] :: it_28 :: H) := m
       refine l_op f rfl rfl rfl (r_assign (f.eval rfl)) (fun a f => ?_)
       refine l_nil ?_
       refine k_seq ?_
       refine k_seq ?_
       refine k_region ?_
       refine l_op f rfl rfl rfl (r_move (f.eval rfl)) (fun a f => ?_)
       refine l_own2_len 0 m o_372 rfl Tryd.underlying27 f rfl rfl (fun a f => ?_)
       refine l_fieldAddr Tryd.underlying29 rfl Tryd.sizeOf27 (by decide) f rfl rfl (fun a f => ?_)
       refine l_boxCell 5 0 m Pl27 f rfl rfl rfl rfl (fun a f => ?_)
       refine l_own_len 6 m o_29 rfl Tryd.underlying27 f rfl rfl (fun a f => ?_)
       refine l_op f rfl rfl rfl (r_int (f.eval rfl) (f.eval rfl) b_neq) (fun a f => ?_)
       refine l_nil ?_
       rcases cond_some hd with ⟨hc_374, hd⟩ | ⟨hc_374, hd⟩
       ·refine k_true f rfl hc_374 ?_
        refine k_seq ?_
        refine k_region ?_
        refine l_op f rfl rfl rfl (r_assign (f.eval rfl)) (fun a f => ?_)
        refine l_nil ?_
        refine k_ret ?_
        have m : Mem W G_365 w H := Mem.drop (H' := [it_371, it_83, it_69, it_43, Itm.box b_18 55 [v_46, (.int .i64 y_35.2.2.1), (.int .u64 y_35.2.2.2)], Itm.box b_34 29 [v_27], it_28]) m
        obtain rfl := Option.some.inj hd
        exact ⟨[(.bool false)], ⟨f.get _ _ rfl, trivial⟩, f.defers, _, [], (GLe.trans hl_4 (GLe.trans hl_12 (GLe.trans hl_23 (GLe.trans hl_38 (GLe.trans hl_54 (GLe.trans hl_64 (GLe.trans hl_78 (GLe.trans hl_92 (GLe.trans hl_124 (GLe.trans hl_168 (GLe.trans hl_240 (GLe.trans hl_326 hl_366)))))))))))), m, rfl, rfl⟩
       ·refine k_false f rfl hc_374 ?_
        refine k_skip ?_
        refine k_seq ?_
        refine k_region ?_
        refine l_op f rfl rfl rfl (r_assign (f.eval rfl)) (fun a f => ?_)
        refine l_nil ?_
        refine k_seq ?_
        refine k_seq ?_
        refine k_region ?_
        refine l_op f rfl rfl rfl (r_assign (f.eval rfl)) (fun a f => ?_)
        refine l_nil ?_
        obtain ⟨G_404, hl_405, m, h_406⟩ := Ow2.stamp (RI.mono _) o_372 m
        have h0 := RSl.mono (RI.mono _) _ _ _ _ hl_405 h0
        have o_84 := Ow.mono (RI.mono _) hl_405 o_84
        have o_70 := Ow.mono (RI.mono _) hl_405 o_70
        have o_44 := Ow.mono (RI.mono _) hl_405 o_44
        have h_47 := RSl.mono (RI.mono _) _ _ _ _ hl_405 h_47
        have o_29 := Ow.mono (RSl.mono (RI.mono _)) hl_405 o_29
        have m : Mem W G_404 w (it_83 :: it_69 :: it_43 :: Itm.box b_18 55 [v_46, (.int .i64 y_35.2.2.1), (.int .u64 y_35.2.2.2)] :: Itm.box b_34 29 [v_27] :: it_28 :: H) := m
        obtain ⟨q_398, hl_399, hd⟩ := bind_some hd
        refine k_cut (fun a w => ∃ x_422 : Int, x_422 = q_398 ∧ ∃ (G_421 : GH), GLe G_404 G_421 ∧ Fr a 110 [(4, (.pointer (some ⟨b_34, 0, none⟩))), (5, v_42), (6, (.int .i64 y_48)), (7, v_68), (8, v_82), (10, (.int .i64 x_422))] ∧ Mem W G_421 w (Itm.box b_34 29 [v_27] :: it_43 :: it_69 :: it_83 :: it_28 :: H)) ?_ ?_
        ·refine k_block ?_
         have m : Mem W G_404 w (it_28 :: it_83 :: it_69 :: it_43 :: Itm.box b_18 55 [v_46, (.int .i64 y_35.2.2.1), (.int .u64 y_35.2.2.2)] :: Itm.box b_34 29 [v_27] :: H) := m.front 5 rfl
         have m : Mem W G_404 w (it_83 :: it_28 :: it_69 :: it_43 :: Itm.box b_18 55 [v_46, (.int .i64 y_35.2.2.1), (.int .u64 y_35.2.2.2)] :: Itm.box b_34 29 [v_27] :: H) := m.front 1 rfl
         have m : Mem W G_404 w (it_69 :: it_83 :: it_28 :: it_43 :: Itm.box b_18 55 [v_46, (.int .i64 y_35.2.2.1), (.int .u64 y_35.2.2.2)] :: Itm.box b_34 29 [v_27] :: H) := m.front 2 rfl
         have m : Mem W G_404 w (it_43 :: it_69 :: it_83 :: it_28 :: Itm.box b_18 55 [v_46, (.int .i64 y_35.2.2.1), (.int .u64 y_35.2.2.2)] :: Itm.box b_34 29 [v_27] :: H) := m.front 3 rfl
         have m : Mem W G_404 w (Itm.box b_34 29 [v_27] :: it_43 :: it_69 :: it_83 :: it_28 :: Itm.box b_18 55 [v_46, (.int .i64 y_35.2.2.1), (.int .u64 y_35.2.2.2)] :: H) := m.front 5 rfl
         have m : Mem W G_404 w (Itm.box b_34 29 [v_27] :: it_43 :: it_69 :: it_83 :: it_28 :: H) := m.eraseAt 5
         refine k_loop (fun s_402 a w => ∃ l_408 : List (List Int), ∃ x_411 : Int, ∃ x_412 : Int, (l_408, x_411, x_412) = s_402 ∧ ∃ (G_407 : GH) (v_409 : Value), GLe G_404 G_407 ∧ Fr a 110 [(4, (.pointer (some ⟨b_34, 0, none⟩))), (5, v_42), (6, (.int .i64 y_48)), (7, v_68), (8, v_82), (9, v_409), (10, (.int .i64 x_411)), (11, (.int .i64 x_412))] ∧ Mem W G_407 w (Itm.box b_34 29 [v_27] :: it_43 :: it_69 :: it_83 :: it_28 :: H) ∧ RSl (RSl (RI .i64)) G_407 v_409 l_408) hl_399 ⟨_, _, _, rfl, _, v_370, (GLe.refl _), f.weak ⟨rfl, rfl, rfl, rfl, rfl, rfl, rfl, rfl, trivial⟩, m, h_406⟩ ?_
         clear hl_399 f m
         rintro s_402 o_403 hs_400 hq_401 a w ⟨l_408, x_411, x_412, rfl, G_407, v_409, hl_413, f, m, h_410⟩
         have o_44 := Ow.mono (RI.mono _) hl_413 o_44
         have o_70 := Ow.mono (RI.mono _) hl_413 o_70
         have o_84 := Ow.mono (RI.mono _) hl_413 o_84
         have o_29 := Ow.mono (RSl.mono (RI.mono _)) hl_413 o_29
         refine k_seq ?_
         refine k_seq ?_
         refine k_region ?_
         refine l_op f rfl rfl rfl (r_move (f.eval rfl)) (fun a f => ?_)
         refine l_op f rfl rfl rfl (r_move (f.eval rfl)) (fun a f => ?_)
         refine l_len Tryd.underlying27 f rfl rfl h_410 (fun a f => ?_)
         refine l_op f rfl rfl rfl (r_int (f.eval rfl) (f.eval rfl) b_lss) (fun a f => ?_)
         refine l_nil ?_
         rcases cond_some hs_400 with ⟨hc_424, hs_400⟩ | ⟨hc_424, hs_400⟩
         ·refine k_true f rfl hc_424 ?_
          refine k_skip ?_
          refine k_seq ?_
          refine k_block ?_
          refine k_region ?_
          refine l_op f rfl rfl rfl (r_move (f.eval rfl)) (fun a f => ?_)
          refine l_op f rfl rfl rfl (r_move (f.eval rfl)) (fun a f => ?_)
          refine l_op f rfl rfl rfl (r_move (f.eval rfl)) (fun a f => ?_)
          obtain ⟨e_425, he_426, hs_400⟩ := bind_some hs_400
          refine l_at T27 f rfl rfl rfl h_410 he_426 (fun p_427 c_428 a g_429 h_430 f => ?_)
          refine l_loadAt m Pl31 f rfl rfl g_429 (fun a f => ?_)
          refine l_len Tryd.underlying31 f rfl rfl h_430 (fun a f => ?_)
          refine l_op f rfl rfl rfl (r_int (f.eval rfl) (f.eval rfl) b_add) (fun a f => ?_)
          refine l_op f rfl rfl rfl (r_assign (f.eval rfl)) (fun a f => ?_)
          refine l_nil ?_
          refine k_region ?_
          refine l_op f rfl rfl rfl (r_move (f.eval rfl)) (fun a f => ?_)
          refine l_op f rfl rfl rfl (r_int (f.eval rfl) (f.eval rfl) b_add) (fun a f => ?_)
          refine l_op f rfl rfl rfl (r_assign (f.eval rfl)) (fun a f => ?_)
          refine l_nil ?_
          have m : Mem W G_407 w (it_28 :: Itm.box b_34 29 [v_27] :: it_43 :: it_69 :: it_83 :: H) := m.front 4 rfl
          have m : Mem W G_407 w (it_83 :: it_28 :: Itm.box b_34 29 [v_27] :: it_43 :: it_69 :: H) := m.front 4 rfl
          have m : Mem W G_407 w (it_69 :: it_83 :: it_28 :: Itm.box b_34 29 [v_27] :: it_43 :: H) := m.front 4 rfl
          have m : Mem W G_407 w (it_43 :: it_69 :: it_83 :: it_28 :: Itm.box b_34 29 [v_27] :: H) := m.front 4 rfl
          have m : Mem W G_407 w (Itm.box b_34 29 [v_27] :: it_43 :: it_69 :: it_83 :: it_28 :: H) := m.front 4 rfl
          obtain rfl := Option.some.inj hs_400
          exact ⟨_, rfl, _, _, _, rfl, _, v_409, hl_413, f.weak ⟨rfl, rfl, rfl, rfl, rfl, rfl, rfl, rfl, trivial⟩, m, h_410⟩
         ·refine k_false f rfl hc_424 ?_
          refine k_exit rfl ?_
          have m : Mem W G_407 w (it_28 :: Itm.box b_34 29 [v_27] :: it_43 :: it_69 :: it_83 :: H) := m.front 4 rfl
          have m : Mem W G_407 w (it_83 :: it_28 :: Itm.box b_34 29 [v_27] :: it_43 :: it_69 :: H) := m.front 4 rfl
          have m : Mem W G_407 w (it_69 :: it_83 :: it_28 :: Itm.box b_34 29 [v_27] :: it_43 :: H) := m.front 4 rfl
          have m : Mem W G_407 w (it_43 :: it_69 :: it_83 :: it_28 :: Itm.box b_34 29 [v_27] :: H) := m.front 4 rfl
          have m : Mem W G_407 w (Itm.box b_34 29 [v_27] :: it_43 :: it_69 :: it_83 :: it_28 :: H) := m.front 4 rfl
          obtain rfl := Option.some.inj hs_400
          obtain rfl := hq_401 _ rfl
          exact ⟨_, rfl, _, hl_413, f.weak ⟨rfl, rfl, rfl, rfl, rfl, rfl, trivial⟩, m⟩
        ·rintro a w ⟨x_422, rfl, G_421, hl_423, f, m⟩
         have o_44 := Ow.mono (RI.mono _) hl_423 o_44
         have o_70 := Ow.mono (RI.mono _) hl_423 o_70
         have o_84 := Ow.mono (RI.mono _) hl_423 o_84
         have o_29 := Ow.mono (RSl.mono (RI.mono _)) hl_423 o_29
         refine k_seq ?_
         refine k_draw 30 Follows (by kernel_rfl) m ?_
         refine q_boxAgg (i := 0) (listed' := #[true, false, false, false, false, false, false, false, false, false, false, false, false, false, false, false, false, false, false, false, false, false, false, false, false, false, false, false, false, false]) (ds := [v_27]) 30 0 Ag29 rfl rfl rfl rfl (by kernel_rfl) rfl f rfl rfl rfl (fun a f => ?_)
         refine q_op (i := 1) (listed' := #[true, true, false, false, false, false, false, false, false, false, false, false, false, false, false, false, false, false, false, false, false, false, false, false, false, false, false, false, false, false]) 30 rfl (by kernel_rfl) rfl f rfl rfl rfl (fun _ _ _ _ _ => r_move (f.eval rfl)) (fun a f => ?_)
         obtain ⟨y_431, hy_432, hd⟩ := bind_some hd
         refine q_call (i := 2) (listed' := #[true, true, true, false, false, false, false, false, false, false, false, false, false, false, false, false, false, false, false, false, false, false, false, false, false, false, false, false, false, false]) 30 rfl (by kernel_rfl) rfl f rfl rfl rfl Tryd.call38 (fun _ _ w hG_433 m => (Ow.lendCallR (RSl.mono (RI.mono _)) 4 (Ow.mono (RSl.mono (RI.mono _)) hG_433 o_29) m rfl (fun G_434 hl_435 m h_436 => (Ow.lendCallR (RI.mono _) 1 (Ow.mono (RI.mono _) hl_435 (Ow.mono (RI.mono _) hG_433 o_44)) m rfl (fun G_437 hl_438 m h_439 => Wk.impl_OrderWidth hW m (RSl.mono (RSl.mono (RI.mono _)) _ _ _ _ hl_438 h_436) h_439 hy_432) (fun _ _ _ _ h => h))) (fun _ _ _ _ h => h))) (fun a f => ?_)
         refine q_op (i := 3) (listed' := #[true, true, true, true, false, false, false, false, false, false, false, false, false, false, false, false, false, false, false, false, false, false, false, false, false, false, false, false, false, false]) 30 rfl (by kernel_rfl) rfl f rfl rfl rfl (fun _ _ _ _ _ => r_move (f.eval rfl)) (fun a f => ?_)
         refine q_op (i := 4) (listed' := #[true, true, true, true, true, false, false, false, false, false, false, false, false, false, false, false, false, false, false, false, false, false, false, false, false, false, false, false, false, false]) 30 rfl (by kernel_rfl) rfl f rfl rfl rfl (fun _ _ _ _ _ => r_int (f.eval rfl) (f.eval rfl) b_geq) (fun a f => ?_)
         refine q_op (i := 5) (listed' := #[true, true, true, true, true, true, false, false, false, false, false, false, false, false, false, false, false, false, false, false, false, false, false, false, false, false, false, false, false, false]) 30 rfl (by kernel_rfl) rfl f rfl rfl rfl (fun _ _ _ _ _ => r_move (f.eval rfl)) (fun a f => ?_)
         obtain ⟨b_451, hj_452, hd⟩ := bind_some hd
         refine q_cut (fuel' := 18) (listed' := #[true, true, true, true, true, true, true, true, true, true, true, true, false, false, false, false, false, false, false, false, false, false, false, false, false, false, false, false, false, false]) (fun a => Fr a 110 [(4, (.pointer (some ⟨b_34, 0, none⟩))), (5, v_42), (6, (.int .i64 y_48)), (7, v_68), (8, v_82), (10, (.int .i64 x_422)), (81, (.agg #[v_27])), (82, v_42), (83, (.int .i64 y_431)), (84, (.int .i64 y_48)), (85, (.bool (decide (y_48 ≤ y_431)))), (86, (.bool (decide (y_48 ≤ y_431)))), (92, (.bool b_451))]) ?_ ?_
         ·intro a f
          refine q_op (i := 12) (listed' := #[true, true, true, true, true, true, true, true, true, true, true, true, true, false, false, false, false, false, false, false, false, false, false, false, false, false, false, false, false, false]) 30 rfl (by kernel_rfl) rfl f rfl rfl rfl (fun _ _ _ _ _ => r_move (f.eval rfl)) (fun a f => ?_)
          obtain ⟨b_473, hj_474, hd⟩ := bind_some hd
          refine q_cut (fuel' := 11) (listed' := #[true, true, true, true, true, true, true, true, true, true, true, true, true, true, true, true, true, true, true, false, false, false, false, false, false, false, false, false, false, false]) (fun a => Fr a 110 [(4, (.pointer (some ⟨b_34, 0, none⟩))), (5, v_42), (6, (.int .i64 y_48)), (7, v_68), (8, v_82), (10, (.int .i64 x_422)), (81, (.agg #[v_27])), (82, v_42), (83, (.int .i64 y_431)), (84, (.int .i64 y_48)), (85, (.bool (decide (y_48 ≤ y_431)))), (86, (.bool (decide (y_48 ≤ y_431)))), (92, (.bool b_451)), (93, (.bool b_451)), (99, (.bool b_473))]) ?_ ?_
          ·intro a f
           refine q_op (i := 19) (listed' := #[true, true, true, true, true, true, true, true, true, true, true, true, true, true, true, true, true, true, true, true, false, false, false, false, false, false, false, false, false, false]) 30 rfl (by kernel_rfl) rfl f rfl rfl rfl (fun _ _ _ _ _ => r_move (f.eval rfl)) (fun a f => ?_)
           obtain ⟨b_501, hj_502, hd⟩ := bind_some hd
           refine q_cut (fuel' := 1) (listed' := #[true, true, true, true, true, true, true, true, true, true, true, true, true, true, true, true, true, true, true, true, true, true, true, true, true, true, true, true, true, false]) (fun a => Fr a 110 [(4, (.pointer (some ⟨b_34, 0, none⟩))), (5, v_42), (6, (.int .i64 y_48)), (7, v_68), (8, v_82), (10, (.int .i64 x_422)), (81, (.agg #[v_27])), (82, v_42), (83, (.int .i64 y_431)), (84, (.int .i64 y_48)), (85, (.bool (decide (y_48 ≤ y_431)))), (86, (.bool (decide (y_48 ≤ y_431)))), (92, (.bool b_451)), (93, (.bool b_451)), (99, (.bool b_473)), (100, (.bool b_473)), (109, (.bool b_501))]) ?_ ?_
           ·intro a f
            refine q_op (i := 29) (listed' := #[true, true, true, true, true, true, true, true, true, true, true, true, true, true, true, true, true, true, true, true, true, true, true, true, true, true, true, true, true, true]) 30 rfl (by kernel_rfl) rfl f rfl rfl rfl (fun _ _ _ _ _ => r_assign (f.eval rfl)) (fun a f => ?_)
            refine q_end (fun G_518 w hl_519 m => ?_)
            have o_44 := Ow.mono (RI.mono _) hl_519 o_44
            have o_70 := Ow.mono (RI.mono _) hl_519 o_70
            have o_84 := Ow.mono (RI.mono _) hl_519 o_84
            have o_29 := Ow.mono (RSl.mono (RI.mono _)) hl_519 o_29
            have m : Mem W G_518 w (Itm.box b_34 29 [v_27] :: it_43 :: it_69 :: it_83 :: it_28 :: H) := m
            refine l_nil ?_
            refine k_ret ?_
            have m : Mem W G_518 w H := Mem.drop (H' := [Itm.box b_34 29 [v_27], it_43, it_69, it_83, it_28]) m
            obtain rfl := Option.some.inj hd
            exact ⟨[(.bool b_501)], ⟨f.get _ _ rfl, trivial⟩, f.defers, _, [], (GLe.trans hl_4 (GLe.trans hl_12 (GLe.trans hl_23 (GLe.trans hl_38 (GLe.trans hl_54 (GLe.trans hl_64 (GLe.trans hl_78 (GLe.trans hl_92 (GLe.trans hl_124 (GLe.trans hl_168 (GLe.trans hl_240 (GLe.trans hl_326 (GLe.trans hl_366 (GLe.trans hl_405 (GLe.trans hl_423 hl_519))))))))))))))), m, rfl, rfl⟩
           ·intro K_500
            rcases cond_some hj_502 with ⟨hc_484, hj_502⟩ | ⟨hc_484, hj_502⟩
            ·refine q_op (i := 20) (listed' := #[true, true, true, true, true, true, true, true, true, true, true, true, true, true, true, true, true, true, true, true, true, false, false, false, false, false, false, false, false, false]) 30 rfl (by kernel_rfl) rfl f (wanted_of f rfl rfl rfl hc_484) rfl rfl (fun _ _ _ _ _ => r_move (f.eval rfl)) (fun a f => ?_)
             refine q_boxAgg (i := 21) (listed' := #[true, true, true, true, true, true, true, true, true, true, true, true, true, true, true, true, true, true, true, true, true, true, false, false, false, false, false, false, false, false]) (ds := [v_27]) 30 0 Ag29 rfl rfl rfl rfl (by kernel_rfl) rfl f (wanted_of f rfl rfl rfl hc_484) rfl rfl (fun a f => ?_)
             obtain ⟨y_503, hy_504, hj_502⟩ := bind_some hj_502
             refine q_call (i := 22) (listed' := #[true, true, true, true, true, true, true, true, true, true, true, true, true, true, true, true, true, true, true, true, true, true, true, false, false, false, false, false, false, false]) 30 rfl (by kernel_rfl) rfl f (wanted_of f rfl rfl rfl hc_484) rfl rfl Tryd.call39 (fun _ _ w hG_505 m => (Ow.lendCallR (RSl.mono (RI.mono _)) 4 (Ow.mono (RSl.mono (RI.mono _)) hG_505 o_29) m rfl (fun G_506 hl_507 m h_508 => Wk.spec_ManyEdges m h_508 hy_504) (fun _ _ _ _ h => h))) (fun a f => ?_)
             refine q_boxAgg (i := 23) (listed' := #[true, true, true, true, true, true, true, true, true, true, true, true, true, true, true, true, true, true, true, true, true, true, true, true, false, false, false, false, false, false]) (ds := [v_27]) 30 0 Ag29 rfl rfl rfl rfl (by kernel_rfl) rfl f (wanted_of f rfl rfl rfl hc_484) rfl rfl (fun a f => ?_)
             refine q_op (i := 24) (listed' := #[true, true, true, true, true, true, true, true, true, true, true, true, true, true, true, true, true, true, true, true, true, true, true, true, true, false, false, false, false, false]) 30 rfl (by kernel_rfl) rfl f (wanted_of f rfl rfl rfl hc_484) rfl rfl (fun _ _ _ _ _ => r_move (f.eval rfl)) (fun a f => ?_)
             obtain ⟨y_509, hy_510, hj_502⟩ := bind_some hj_502
             refine q_call (i := 25) (listed' := #[true, true, true, true, true, true, true, true, true, true, true, true, true, true, true, true, true, true, true, true, true, true, true, true, true, true, false, false, false, false]) 30 rfl (by kernel_rfl) rfl f (wanted_of f rfl rfl rfl hc_484) rfl rfl Tryd.call40 (fun _ _ w hG_511 m => (Ow.lendCallR (RSl.mono (RI.mono _)) 4 (Ow.mono (RSl.mono (RI.mono _)) hG_511 o_29) m rfl (fun G_512 hl_513 m h_514 => (Ow.lendCallR (RI.mono _) 1 (Ow.mono (RI.mono _) hl_513 (Ow.mono (RI.mono _) hG_511 o_44)) m rfl (fun G_515 hl_516 m h_517 => Wk.impl_FillMany hW m (RSl.mono (RSl.mono (RI.mono _)) _ _ _ _ hl_516 h_514) h_517 hy_510) (fun _ _ _ _ h => h))) (fun _ _ _ _ h => h))) (fun a f => ?_)
             refine q_op (i := 26) (listed' := #[true, true, true, true, true, true, true, true, true, true, true, true, true, true, true, true, true, true, true, true, true, true, true, true, true, true, true, false, false, false]) 30 rfl (by kernel_rfl) rfl f (wanted_of f rfl rfl rfl hc_484) rfl rfl (fun _ _ _ _ _ => r_int (f.eval rfl) (f.eval rfl) b_add) (fun a f => ?_)
             refine q_op (i := 27) (listed' := #[true, true, true, true, true, true, true, true, true, true, true, true, true, true, true, true, true, true, true, true, true, true, true, true, true, true, true, true, false, false]) 30 rfl (by kernel_rfl) rfl f (wanted_of f rfl rfl rfl hc_484) rfl rfl (fun _ _ _ _ _ => r_int (f.eval rfl) (f.eval rfl) b_eql) (fun a f => ?_)
             refine q_op (i := 28) (listed' := #[true, true, true, true, true, true, true, true, true, true, true, true, true, true, true, true, true, true, true, true, true, true, true, true, true, true, true, true, true, false]) 30 rfl (by kernel_rfl) rfl f rfl rfl rfl (fun _ _ _ _ _ => r_pickT (f.eval rfl) hc_484 (f.eval rfl)) (fun a f => ?_)
             obtain rfl := Option.some.inj hj_502
             exact K_500 _ (f.weak ⟨rfl, rfl, rfl, rfl, rfl, rfl, rfl, rfl, rfl, rfl, rfl, rfl, rfl, rfl, rfl, rfl, rfl, trivial⟩)
            ·refine q_not (i := 20) (listed' := #[true, true, true, true, true, true, true, true, true, true, true, true, true, true, true, true, true, true, true, true, true, false, false, false, false, false, false, false, false, false]) 30 rfl (by kernel_rfl) rfl f rfl rfl rfl hc_484 rfl rfl (fun a f => ?_)
             refine q_not (i := 21) (listed' := #[true, true, true, true, true, true, true, true, true, true, true, true, true, true, true, true, true, true, true, true, true, true, false, false, false, false, false, false, false, false]) 30 rfl (by kernel_rfl) rfl f rfl rfl rfl hc_484 rfl rfl (fun a f => ?_)
             refine q_not (i := 22) (listed' := #[true, true, true, true, true, true, true, true, true, true, true, true, true, true, true, true, true, true, true, true, true, true, true, false, false, false, false, false, false, false]) 30 rfl (by kernel_rfl) rfl f rfl rfl rfl hc_484 rfl rfl (fun a f => ?_)
             refine q_not (i := 23) (listed' := #[true, true, true, true, true, true, true, true, true, true, true, true, true, true, true, true, true, true, true, true, true, true, true, true, false, false, false, false, false, false]) 30 rfl (by kernel_rfl) rfl f rfl rfl rfl hc_484 rfl rfl (fun a f => ?_)
             refine q_not (i := 24) (listed' := #[true, true, true, true, true, true, true, true, true, true, true, true, true, true, true, true, true, true, true, true, true, true, true, true, true, false, false, false, false, false]) 30 rfl (by kernel_rfl) rfl f rfl rfl rfl hc_484 rfl rfl (fun a f => ?_)
             refine q_not (i := 25) (listed' := #[true, true, true, true, true, true, true, true, true, true, true, true, true, true, true, true, true, true, true, true, true, true, true, true, true, true, false, false, false, false]) 30 rfl (by kernel_rfl) rfl f rfl rfl rfl hc_484 rfl rfl (fun a f => ?_)
             refine q_not (i := 26) (listed' := #[true, true, true, true, true, true, true, true, true, true, true, true, true, true, true, true, true, true, true, true, true, true, true, true, true, true, true, false, false, false]) 30 rfl (by kernel_rfl) rfl f rfl rfl rfl hc_484 rfl rfl (fun a f => ?_)
             refine q_not (i := 27) (listed' := #[true, true, true, true, true, true, true, true, true, true, true, true, true, true, true, true, true, true, true, true, true, true, true, true, true, true, true, true, false, false]) 30 rfl (by kernel_rfl) rfl f rfl rfl rfl hc_484 rfl rfl (fun a f => ?_)
             refine q_op (i := 28) (listed' := #[true, true, true, true, true, true, true, true, true, true, true, true, true, true, true, true, true, true, true, true, true, true, true, true, true, true, true, true, true, false]) 30 rfl (by kernel_rfl) rfl f rfl rfl rfl (fun _ _ _ _ _ => r_pickF (f.eval rfl) hc_484 (f.eval rfl)) (fun a f => ?_)
             obtain rfl := Option.some.inj hj_502
             exact K_500 _ (f.weak ⟨rfl, rfl, rfl, rfl, rfl, rfl, rfl, rfl, rfl, rfl, rfl, rfl, rfl, rfl, rfl, rfl, rfl, trivial⟩)
          ·intro K_472
           rcases cond_some hj_474 with ⟨hc_462, hj_474⟩ | ⟨hc_462, hj_474⟩
           ·refine q_boxAgg (i := 13) (listed' := #[true, true, true, true, true, true, true, true, true, true, true, true, true, true, false, false, false, false, false, false, false, false, false, false, false, false, false, false, false, false]) (ds := [v_27]) 30 0 Ag29 rfl rfl rfl rfl (by kernel_rfl) rfl f (wanted_of f rfl rfl rfl hc_462) rfl rfl (fun a f => ?_)
            refine q_op (i := 14) (listed' := #[true, true, true, true, true, true, true, true, true, true, true, true, true, true, true, false, false, false, false, false, false, false, false, false, false, false, false, false, false, false]) 30 rfl (by kernel_rfl) rfl f (wanted_of f rfl rfl rfl hc_462) rfl rfl (fun _ _ _ _ _ => r_move (f.eval rfl)) (fun a f => ?_)
            obtain ⟨y_475, hy_476, hj_474⟩ := bind_some hj_474
            refine q_call (i := 15) (listed' := #[true, true, true, true, true, true, true, true, true, true, true, true, true, true, true, true, false, false, false, false, false, false, false, false, false, false, false, false, false, false]) 30 rfl (by kernel_rfl) rfl f (wanted_of f rfl rfl rfl hc_462) rfl rfl Tryd.call38 (fun _ _ w hG_477 m => (Ow.lendCallR (RSl.mono (RI.mono _)) 4 (Ow.mono (RSl.mono (RI.mono _)) hG_477 o_29) m rfl (fun G_478 hl_479 m h_480 => (Ow.lendCallR (RI.mono _) 3 (Ow.mono (RI.mono _) hl_479 (Ow.mono (RI.mono _) hG_477 o_84)) m rfl (fun G_481 hl_482 m h_483 => Wk.impl_OrderWidth hW m (RSl.mono (RSl.mono (RI.mono _)) _ _ _ _ hl_482 h_480) h_483 hy_476) (fun _ _ _ _ h => h))) (fun _ _ _ _ h => h))) (fun a f => ?_)
            refine q_op (i := 16) (listed' := #[true, true, true, true, true, true, true, true, true, true, true, true, true, true, true, true, true, false, false, false, false, false, false, false, false, false, false, false, false, false]) 30 rfl (by kernel_rfl) rfl f (wanted_of f rfl rfl rfl hc_462) rfl rfl (fun _ _ _ _ _ => r_move (f.eval rfl)) (fun a f => ?_)
            refine q_op (i := 17) (listed' := #[true, true, true, true, true, true, true, true, true, true, true, true, true, true, true, true, true, true, false, false, false, false, false, false, false, false, false, false, false, false]) 30 rfl (by kernel_rfl) rfl f (wanted_of f rfl rfl rfl hc_462) rfl rfl (fun _ _ _ _ _ => r_int (f.eval rfl) (f.eval rfl) b_geq) (fun a f => ?_)
            refine q_op (i := 18) (listed' := #[true, true, true, true, true, true, true, true, true, true, true, true, true, true, true, true, true, true, true, false, false, false, false, false, false, false, false, false, false, false]) 30 rfl (by kernel_rfl) rfl f rfl rfl rfl (fun _ _ _ _ _ => r_pickT (f.eval rfl) hc_462 (f.eval rfl)) (fun a f => ?_)
            obtain rfl := Option.some.inj hj_474
            exact K_472 _ (f.weak ⟨rfl, rfl, rfl, rfl, rfl, rfl, rfl, rfl, rfl, rfl, rfl, rfl, rfl, rfl, rfl, trivial⟩)
           ·refine q_not (i := 13) (listed' := #[true, true, true, true, true, true, true, true, true, true, true, true, true, true, false, false, false, false, false, false, false, false, false, false, false, false, false, false, false, false]) 30 rfl (by kernel_rfl) rfl f rfl rfl rfl hc_462 rfl rfl (fun a f => ?_)
            refine q_not (i := 14) (listed' := #[true, true, true, true, true, true, true, true, true, true, true, true, true, true, true, false, false, false, false, false, false, false, false, false, false, false, false, false, false, false]) 30 rfl (by kernel_rfl) rfl f rfl rfl rfl hc_462 rfl rfl (fun a f => ?_)
            refine q_not (i := 15) (listed' := #[true, true, true, true, true, true, true, true, true, true, true, true, true, true, true, true, false, false, false, false, false, false, false, false, false, false, false, false, false, false]) 30 rfl (by kernel_rfl) rfl f rfl rfl rfl hc_462 rfl rfl (fun a f => ?_)
            refine q_not (i := 16) (listed' := #[true, true, true, true, true, true, true, true, true, true, true, true, true, true, true, true, true, false, false, false, false, false, false, false, false, false, false, false, false, false]) 30 rfl (by kernel_rfl) rfl f rfl rfl rfl hc_462 rfl rfl (fun a f => ?_)
            refine q_not (i := 17) (listed' := #[true, true, true, true, true, true, true, true, true, true, true, true, true, true, true, true, true, true, false, false, false, false, false, false, false, false, false, false, false, false]) 30 rfl (by kernel_rfl) rfl f rfl rfl rfl hc_462 rfl rfl (fun a f => ?_)
            refine q_op (i := 18) (listed' := #[true, true, true, true, true, true, true, true, true, true, true, true, true, true, true, true, true, true, true, false, false, false, false, false, false, false, false, false, false, false]) 30 rfl (by kernel_rfl) rfl f rfl rfl rfl (fun _ _ _ _ _ => r_pickF (f.eval rfl) hc_462 (f.eval rfl)) (fun a f => ?_)
            obtain rfl := Option.some.inj hj_474
            exact K_472 _ (f.weak ⟨rfl, rfl, rfl, rfl, rfl, rfl, rfl, rfl, rfl, rfl, rfl, rfl, rfl, rfl, rfl, trivial⟩)
         ·intro K_450
          rcases cond_some hj_452 with ⟨hc_440, hj_452⟩ | ⟨hc_440, hj_452⟩
          ·refine q_boxAgg (i := 6) (listed' := #[true, true, true, true, true, true, true, false, false, false, false, false, false, false, false, false, false, false, false, false, false, false, false, false, false, false, false, false, false, false]) (ds := [v_27]) 30 0 Ag29 rfl rfl rfl rfl (by kernel_rfl) rfl f (wanted_of f rfl rfl rfl hc_440) rfl rfl (fun a f => ?_)
           refine q_op (i := 7) (listed' := #[true, true, true, true, true, true, true, true, false, false, false, false, false, false, false, false, false, false, false, false, false, false, false, false, false, false, false, false, false, false]) 30 rfl (by kernel_rfl) rfl f (wanted_of f rfl rfl rfl hc_440) rfl rfl (fun _ _ _ _ _ => r_move (f.eval rfl)) (fun a f => ?_)
           obtain ⟨y_453, hy_454, hj_452⟩ := bind_some hj_452
           refine q_call (i := 8) (listed' := #[true, true, true, true, true, true, true, true, true, false, false, false, false, false, false, false, false, false, false, false, false, false, false, false, false, false, false, false, false, false]) 30 rfl (by kernel_rfl) rfl f (wanted_of f rfl rfl rfl hc_440) rfl rfl Tryd.call38 (fun _ _ w hG_455 m => (Ow.lendCallR (RSl.mono (RI.mono _)) 4 (Ow.mono (RSl.mono (RI.mono _)) hG_455 o_29) m rfl (fun G_456 hl_457 m h_458 => (Ow.lendCallR (RI.mono _) 2 (Ow.mono (RI.mono _) hl_457 (Ow.mono (RI.mono _) hG_455 o_70)) m rfl (fun G_459 hl_460 m h_461 => Wk.impl_OrderWidth hW m (RSl.mono (RSl.mono (RI.mono _)) _ _ _ _ hl_460 h_458) h_461 hy_454) (fun _ _ _ _ h => h))) (fun _ _ _ _ h => h))) (fun a f => ?_)
           refine q_op (i := 9) (listed' := #[true, true, true, true, true, true, true, true, true, true, false, false, false, false, false, false, false, false, false, false, false, false, false, false, false, false, false, false, false, false]) 30 rfl (by kernel_rfl) rfl f (wanted_of f rfl rfl rfl hc_440) rfl rfl (fun _ _ _ _ _ => r_move (f.eval rfl)) (fun a f => ?_)
           refine q_op (i := 10) (listed' := #[true, true, true, true, true, true, true, true, true, true, true, false, false, false, false, false, false, false, false, false, false, false, false, false, false, false, false, false, false, false]) 30 rfl (by kernel_rfl) rfl f (wanted_of f rfl rfl rfl hc_440) rfl rfl (fun _ _ _ _ _ => r_int (f.eval rfl) (f.eval rfl) b_geq) (fun a f => ?_)
           refine q_op (i := 11) (listed' := #[true, true, true, true, true, true, true, true, true, true, true, true, false, false, false, false, false, false, false, false, false, false, false, false, false, false, false, false, false, false]) 30 rfl (by kernel_rfl) rfl f rfl rfl rfl (fun _ _ _ _ _ => r_pickT (f.eval rfl) hc_440 (f.eval rfl)) (fun a f => ?_)
           obtain rfl := Option.some.inj hj_452
           exact K_450 _ (f.weak ⟨rfl, rfl, rfl, rfl, rfl, rfl, rfl, rfl, rfl, rfl, rfl, rfl, rfl, trivial⟩)
          ·refine q_not (i := 6) (listed' := #[true, true, true, true, true, true, true, false, false, false, false, false, false, false, false, false, false, false, false, false, false, false, false, false, false, false, false, false, false, false]) 30 rfl (by kernel_rfl) rfl f rfl rfl rfl hc_440 rfl rfl (fun a f => ?_)
           refine q_not (i := 7) (listed' := #[true, true, true, true, true, true, true, true, false, false, false, false, false, false, false, false, false, false, false, false, false, false, false, false, false, false, false, false, false, false]) 30 rfl (by kernel_rfl) rfl f rfl rfl rfl hc_440 rfl rfl (fun a f => ?_)
           refine q_not (i := 8) (listed' := #[true, true, true, true, true, true, true, true, true, false, false, false, false, false, false, false, false, false, false, false, false, false, false, false, false, false, false, false, false, false]) 30 rfl (by kernel_rfl) rfl f rfl rfl rfl hc_440 rfl rfl (fun a f => ?_)
           refine q_not (i := 9) (listed' := #[true, true, true, true, true, true, true, true, true, true, false, false, false, false, false, false, false, false, false, false, false, false, false, false, false, false, false, false, false, false]) 30 rfl (by kernel_rfl) rfl f rfl rfl rfl hc_440 rfl rfl (fun a f => ?_)
           refine q_not (i := 10) (listed' := #[true, true, true, true, true, true, true, true, true, true, true, false, false, false, false, false, false, false, false, false, false, false, false, false, false, false, false, false, false, false]) 30 rfl (by kernel_rfl) rfl f rfl rfl rfl hc_440 rfl rfl (fun a f => ?_)
           refine q_op (i := 11) (listed' := #[true, true, true, true, true, true, true, true, true, true, true, true, false, false, false, false, false, false, false, false, false, false, false, false, false, false, false, false, false, false]) 30 rfl (by kernel_rfl) rfl f rfl rfl rfl (fun _ _ _ _ _ => r_pickF (f.eval rfl) hc_440 (f.eval rfl)) (fun a f => ?_)
           obtain rfl := Option.some.inj hj_452
           exact K_450 _ (f.weak ⟨rfl, rfl, rfl, rfl, rfl, rfl, rfl, rfl, rfl, rfl, rfl, rfl, rfl, trivial⟩)


end Go.Proofs.YtehnblgkgaakeaaDoor

/- Loops in closed form: over the elements of a list, over the numbers below one, with a way out. Plain facts, no program in sight. -/
namespace Go.Sx
theorem w64 {x : Int} (h1 : -9223372036854775808 ≤ x) (h2 : x < 9223372036854775808) : IntKind.i64.wrap x = x := by
  simp only [IntKind.wrap, IntKind.bits, IntKind.signed]
  have e : (2 : Int) ^ 64 = 18446744073709551616 := by decide
  have e' : (2 : Int) ^ (64 - 1) = 9223372036854775808 := by decide
  simp
  omega

theorem dlt {i n : Nat} (h : i < n) : decide ((i : Int) < (n : Int)) = true := by simp; omega
theorem dnlt {n : Nat} : decide ((n : Int) < (n : Int)) = false := by simp
theorem idx_nat {α : Type} {xs : List α} {i : Nat} (h : i < xs.length) : idx xs (i : Int) = some xs[i] := by
  unfold idx; rw [if_pos (by omega)]; simp [h]
theorem idx_int {α : Type} {xs : List α} {i : Int} (h0 : 0 ≤ i) (h : i < xs.length) : idx xs i = some (xs[i.toNat]'(by omega)) := by
  unfold idx; rw [if_pos h0]; simp
theorem wi {i : Nat} (h : i < 4611686018427387904) : IntKind.i64.wrap ((i : Int) + 1) = ((i + 1 : Nat) : Int) := by
  rw [w64 (by omega) (by omega)]; rfl
theorem wi' {i n : Nat} (h : i < n) (hn : n ≤ 4611686018427387904) : IntKind.i64.wrap ((i : Int) + 1) = ((i + 1 : Nat) : Int) := wi (by omega)
theorem getD_lt {α : Type} {xs : List α} {i : Nat} (h : i < xs.length) (d : α) : xs.getD i d = xs[i] := by simp [h]
theorem appendD_ok {α : Type} {xs ys : List α} (h : xs.length + ys.length ≤ 4294967296) : appendD xs ys = some (xs ++ ys) := by
  unfold appendD; rw [if_pos h]
theorem sliceD_pre {α : Type} {xs : List α} {i : Nat} (h : i ≤ xs.length) : sliceD xs 0 (i : Int) = some (xs.take i) := by
  unfold sliceD; rw [if_pos ⟨by omega, by omega, by omega⟩]; simp
theorem sliceD_post {α : Type} {xs : List α} {i : Nat} (h : i ≤ xs.length) : sliceD xs (i : Int) (xs.length : Int) = some (xs.drop i) := by
  unfold sliceD; rw [if_pos ⟨by omega, by omega, by omega⟩]; simp
theorem makeD_ok {α : Type} {z : α} {n : Nat} {c : Int} (h : (n : Int) ≤ c) (h2 : c ≤ 4294967296) : makeD z (n : Int) c = some (List.replicate n z) := by
  unfold makeD; rw [if_pos ⟨by omega, h, h2⟩]; simp
theorem makeD_zero {α : Type} {z : α} {c : Int} (h : 0 ≤ c) (h2 : c ≤ 4294967296) : makeD z 0 c = some [] := by
  unfold makeD; rw [if_pos ⟨by omega, h, h2⟩]; simp

/-- a round either goes on, nearer to the end, or leaves with what was promised -/
def Stp {σ ρ : Type} (I : σ → Prop) (μ : σ → Nat) (Post : ρ → Prop) (s : σ) : σ ⊕ ρ → Prop
  | .inl s' => I s' ∧ μ s' < μ s
  | .inr r => Post r

theorem loop_then {σ ρ β : Type} {step : σ → Option (σ ⊕ ρ)} {s : σ} {k : ρ → Option β} {Q : β → Prop} (I : σ → Prop) (μ : σ → Nat) (Post : ρ → Prop)
    (hstep : ∀ s, I s → ∃ y, step s = some y ∧ Stp I μ Post s y) (h0 : I s) (hk : ∀ r, Post r → ∃ y, k r = some y ∧ Q y) : ∃ y, (loopF step s).bind k = some y ∧ Q y := by
  obtain ⟨r, hr, hp⟩ := loopF_inv (step := step) I μ Post (fun s hs => by
    obtain ⟨y, hy, hq⟩ := hstep s hs
    cases y with
    | inl s' => exact .inl ⟨s', hy, hq.1, hq.2⟩
    | inr r => exact .inr ⟨r, hy, hq⟩) s h0
  rw [hr]
  exact hk r hp
theorem bind_then {α β : Type} {e : Option α} {k : α → Option β} {Q : β → Prop} (R : α → Prop) (h : ∃ x, e = some x ∧ R x) (hk : ∀ x, R x → ∃ y, k x = some y ∧ Q y) : ∃ y, e.bind k = some y ∧ Q y := by
  obtain ⟨x, rfl, hx⟩ := h
  exact hk x hx

theorem bind_eq {α β : Type} {e : Option α} {k : α → Option β} {Q : β → Prop} {x : α} (h : e = some x) (hk : ∃ y, k x = some y ∧ Q y) : ∃ y, e.bind k = some y ∧ Q y := by
  subst h; exact hk
/-- from state a to state b in so many rounds -/
theorem loop_steps {S ρ : Type} {step : S → Option (S ⊕ ρ)} (st : Nat → S) (n : Nat) (h : ∀ i, i < n → step (st i) = some (.inl (st (i + 1)))) : loopF step (st 0) = loopF step (st n) := by
  have key : ∀ k, k ≤ n → loopF step (st 0) = loopF step (st k) := by
    intro k
    induction k with
    | zero => intro _; rfl
    | succ k ih => intro hk; rw [ih (by omega), loopF_more (h k (by omega))]
  exact key n (Nat.le_refl n)

/-- and out of it -/
theorem loop_to {S ρ β : Type} {step : S → Option (S ⊕ ρ)} {k : ρ → Option β} {s0 : S} (st : Nat → S) (n : Nat) (r : ρ) (h0 : st 0 = s0) (h : ∀ i, i < n → step (st i) = some (.inl (st (i + 1)))) (he : step (st n) = some (.inr r)) :
    (loopF step s0).bind k = k r := by
  rw [← h0, loop_steps st n h, loopF_done he]; rfl

/-- a loop over the elements of a list, that goes to its end -/
theorem loop_list {α σ S ρ : Type} {step : S → Option (S ⊕ ρ)} (xs : List α) (enc : σ → Int → S) (f : σ → α → σ) (fin : σ → ρ) (I : σ → Prop) (s0 : σ)
    (h0 : I s0) (hstep : ∀ s (i : Nat) (h : i < xs.length), I s → step (enc s i) = some (.inl (enc (f s xs[i]) ((i + 1 : Nat) : Int))) ∧ I (f s xs[i]))
    (hend : ∀ s, I s → step (enc s xs.length) = some (.inr (fin s))) : loopF step (enc s0 0) = some (fin (xs.foldl f s0)) ∧ I (xs.foldl f s0) := by
  have key : ∀ (k i : Nat) (s : σ), i + k = xs.length → I s → loopF step (enc s i) = some (fin ((xs.drop i).foldl f s)) ∧ I ((xs.drop i).foldl f s) := by
    intro k
    induction k with
    | zero =>
      intro i s hk hs
      obtain rfl : i = xs.length := by omega
      simp only [List.drop_length, List.foldl_nil]
      exact ⟨loopF_done (hend s hs), hs⟩
    | succ k ih =>
      intro i s hk hs
      have hi : i < xs.length := by omega
      obtain ⟨h1, h2⟩ := hstep s i hi hs
      rw [loopF_more h1, List.drop_eq_getElem_cons hi, List.foldl_cons]
      exact ih (i + 1) _ (by omega) h2
  have := key xs.length 0 s0 (by omega) h0
  simpa using this

/-- and what comes behind -/
theorem loop_listb {α σ S ρ β : Type} {step : S → Option (S ⊕ ρ)} {k : ρ → Option β} (xs : List α) (enc : σ → Int → S) (f : σ → α → σ) (fin : σ → ρ) (I : σ → Prop) (s0 : σ)
    (h0 : I s0) (hstep : ∀ s (i : Nat) (h : i < xs.length), I s → step (enc s i) = some (.inl (enc (f s xs[i]) ((i + 1 : Nat) : Int))) ∧ I (f s xs[i]))
    (hend : ∀ s, I s → step (enc s xs.length) = some (.inr (fin s))) : (loopF step (enc s0 0)).bind k = k (fin (xs.foldl f s0)) := by
  rw [(loop_list xs enc f fin I s0 h0 hstep hend).1]; rfl

/-- a loop that makes one element for each element -/
theorem loop_map {α β γ S : Type} {step : S → Option (S ⊕ List β)} {k : List β → Option γ} (xs : List α) (enc : List β → Int → S) (f : α → β) (hx : xs.length ≤ 4294967296)
    (hstep : ∀ s (i : Nat) (h : i < xs.length), s.length = i → step (enc s i) = (appendD s [f xs[i]]).bind fun l => some (.inl (enc l ((i + 1 : Nat) : Int))))
    (hend : ∀ s, step (enc s xs.length) = some (.inr s)) : (loopF step (enc [] 0)).bind k = k (xs.map f) := by
  have key : ∀ i, i ≤ xs.length → loopF step (enc [] 0) = loopF step (enc ((xs.take i).map f) i) := by
    intro i
    induction i with
    | zero => intro _; simp
    | succ i ih =>
      intro hi
      rw [ih (by omega)]
      have h1 := hstep ((xs.take i).map f) i (by omega) (by simp; omega)
      have h2 : appendD ((xs.take i).map f) [f xs[i]] = some ((xs.take (i + 1)).map f) := by
        unfold appendD
        rw [if_pos (by simp; omega)]
        rw [List.take_succ_eq_append_getElem (show i < xs.length by omega), List.map_append]; rfl
      rw [h2] at h1
      rw [loopF_more h1]
  rw [key xs.length (Nat.le_refl _), List.take_length, loopF_done (hend _)]; rfl

/-- as above, where the round's effect depends on the place -/
theorem loop_nat {σ S ρ : Type} {step : S → Option (S ⊕ ρ)} (n : Nat) (enc : σ → Int → S) (f : σ → Nat → σ) (fin : σ → ρ) (I : Nat → σ → Prop) (s0 : σ)
    (h0 : I 0 s0) (hstep : ∀ s (i : Nat), i < n → I i s → step (enc s i) = some (.inl (enc (f s i) ((i + 1 : Nat) : Int))) ∧ I (i + 1) (f s i))
    (hend : ∀ s, I n s → step (enc s n) = some (.inr (fin s))) : loopF step (enc s0 0) = some (fin ((List.range n).foldl f s0)) ∧ I n ((List.range n).foldl f s0) := by
  have key : ∀ k, k ≤ n → loopF step (enc s0 0) = loopF step (enc ((List.range k).foldl f s0) k) ∧ I k ((List.range k).foldl f s0) := by
    intro k
    induction k with
    | zero => intro _; exact ⟨rfl, h0⟩
    | succ k ih =>
      intro hk
      obtain ⟨h1, h2⟩ := ih (by omega)
      obtain ⟨h3, h4⟩ := hstep _ k (by omega) h2
      rw [List.range_succ, List.foldl_append, List.foldl_cons, List.foldl_nil]
      exact ⟨by rw [h1, loopF_more h3], h4⟩
  obtain ⟨h1, h2⟩ := key n (Nat.le_refl n)
  exact ⟨by rw [h1, loopF_done (hend _ h2)], h2⟩

/-- a loop that looks for the first place where something is so -/
theorem loop_find {ρ : Type} {step : Int → Option (Int ⊕ ρ)} (n : Nat) (c : Nat → Option ρ) (fin : ρ)
    (hstep : ∀ i, i < n → step (i : Int) = match c i with | some r => some (.inr r) | none => some (.inl ((i + 1 : Nat) : Int)))
    (hend : step (n : Int) = some (.inr fin)) : loopF step 0 = some (((List.range n).findSome? c).getD fin) := by
  have key : ∀ (k i : Nat), i + k = n → loopF step (i : Int) = some (((List.range' i k).findSome? c).getD fin) := by
    intro k
    induction k with
    | zero => intro i h; obtain rfl : i = n := by omega
              simpa using loopF_done hend
    | succ k ih =>
      intro i h
      have h1 := hstep i (by omega)
      rw [List.range'_succ, List.findSome?_cons]
      cases hc : c i with
      | some r => rw [hc] at h1; simpa using loopF_done h1
      | none => rw [hc] at h1; rw [loopF_more h1]; exact ih (i + 1) (by omega)
  have := key n 0 (by omega)
  simpa [List.range_eq_range'] using this

/-- all places are good, or the first bad one ends it -/
theorem loop_allb {β : Type} {step : Int → Option (Int ⊕ (Unit ⊕ β))} {k : Unit ⊕ β → Option Bool} (n : Nat) (c : Nat → Bool) (bad : β)
    (hstep : ∀ i, i < n → step (i : Int) = if c i then some (.inl ((i + 1 : Nat) : Int)) else some (.inr (.inr bad)))
    (hend : step (n : Int) = some (.inr (.inl ()))) (hk1 : k (.inl ()) = some true) (hk2 : k (.inr bad) = some false) :
    (loopF step 0).bind k = some ((List.range n).all c) := by
  rw [loop_find n (fun i => if c i then none else some (.inr bad)) (.inl ()) (fun i hi => by rw [hstep i hi]; cases c i <;> rfl) hend]
  simp only [Option.bind_some]
  cases h : (List.range n).all c with
  | true =>
    rw [List.findSome?_eq_none_iff.2 (fun x hx => by rw [if_pos (List.all_eq_true.1 h x hx)])]
    exact hk1
  | false =>
    cases h2 : (List.range n).findSome? (fun i => if c i then none else some (Sum.inr bad)) with
    | none =>
      rw [List.findSome?_eq_none_iff] at h2
      have : (List.range n).all c = true := List.all_eq_true.2 fun x hx => by
        have := h2 x hx
        cases hc : c x
        · rw [hc] at this; cases this
        · rfl
      rw [this] at h; cases h
    | some r =>
      obtain ⟨x, _, hx⟩ := List.exists_of_findSome?_eq_some h2
      cases hc : c x
      · rw [hc] at hx; simp at hx; subst hx; exact hk2
      · rw [hc] at hx; simp at hx

/-- all places are good, or the first bad one ends it: what comes behind -/
theorem loop_ck {ρ β : Type} {step : Int → Option (Int ⊕ ρ)} {k : ρ → Option β} (n : Nat) (c : Nat → Bool) (fine bad : ρ)
    (hstep : ∀ i, i < n → step (i : Int) = if c i then some (.inl ((i + 1 : Nat) : Int)) else some (.inr bad))
    (hend : step (n : Int) = some (.inr fine)) : (loopF step 0).bind k = cond ((List.range n).all c) (k fine) (k bad) := by
  rw [loop_find n (fun i => if c i then none else some bad) fine (fun i hi => by rw [hstep i hi]; cases c i <;> rfl) hend]
  simp only [Option.bind_some]
  cases h : (List.range n).all c with
  | true =>
    rw [List.findSome?_eq_none_iff.2 (fun x hx => by rw [if_pos (List.all_eq_true.1 h x hx)])]
    rfl
  | false =>
    cases h2 : (List.range n).findSome? (fun i => if c i then none else some bad) with
    | none =>
      rw [List.findSome?_eq_none_iff] at h2
      have : (List.range n).all c = true := List.all_eq_true.2 fun x hx => by
        have := h2 x hx
        cases hc : c x
        · rw [hc] at this; cases this
        · rfl
      rw [this] at h; cases h
    | some r =>
      obtain ⟨x, _, hx⟩ := List.exists_of_findSome?_eq_some h2
      cases hc : c x
      · rw [hc] at hx; simp at hx; subst hx; rfl
      · rw [hc] at hx; simp at hx

/-- some place is so -/
theorem loop_anyb {β : Type} {step : Int → Option (Int ⊕ (Unit ⊕ β))} {k : Unit ⊕ β → Option Bool} (n : Nat) (c : Nat → Bool) (good : β)
    (hstep : ∀ i, i < n → step (i : Int) = if c i then some (.inr (.inr good)) else some (.inl ((i + 1 : Nat) : Int)))
    (hend : step (n : Int) = some (.inr (.inl ()))) (hk1 : k (.inl ()) = some false) (hk2 : k (.inr good) = some true) :
    (loopF step 0).bind k = some ((List.range n).any c) := by
  rw [loop_find n (fun i => if c i then some (.inr good) else none) (.inl ()) (fun i hi => by rw [hstep i hi]; cases c i <;> rfl) hend]
  simp only [Option.bind_some]
  cases h : (List.range n).any c with
  | false =>
    rw [List.findSome?_eq_none_iff.2 (fun x hx => by
      have : c x = false := by
        cases hc : c x
        · rfl
        · rw [List.any_eq_true.2 ⟨x, hx, hc⟩] at h; cases h
      rw [this]; rfl)]
    exact hk1
  | true =>
    obtain ⟨x, hx, hc⟩ := List.any_eq_true.1 h
    cases h2 : (List.range n).findSome? (fun i => if c i then some (Sum.inr good) else none) with
    | none =>
      rw [List.findSome?_eq_none_iff] at h2
      have := h2 x hx
      rw [hc] at this; cases this
    | some r =>
      obtain ⟨y, _, hy⟩ := List.exists_of_findSome?_eq_some h2
      cases hc : c y
      · rw [hc] at hy; simp at hy
      · rw [hc] at hy; simp at hy; subst hy; exact hk2

theorem range_all_list {α : Type} (xs : List α) (p : α → Bool) (c : Nat → Bool) (h : ∀ i (hi : i < xs.length), c i = p xs[i]) : (List.range xs.length).all c = xs.all p := by
  rw [Bool.eq_iff_iff, List.all_eq_true, List.all_eq_true]
  constructor
  · intro hh x hx
    obtain ⟨i, hi, rfl⟩ := List.getElem_of_mem hx
    rw [← h i hi]; exact hh i (List.mem_range.2 hi)
  · intro hh i hi
    have hi' := List.mem_range.1 hi
    rw [h i hi']; exact hh _ (List.getElem_mem _)
theorem range_any_list {α : Type} (xs : List α) (p : α → Bool) (c : Nat → Bool) (h : ∀ i (hi : i < xs.length), c i = p xs[i]) : (List.range xs.length).any c = xs.any p := by
  rw [Bool.eq_iff_iff, List.any_eq_true, List.any_eq_true]
  constructor
  · rintro ⟨i, hi, hc⟩
    have hi' := List.mem_range.1 hi
    exact ⟨_, List.getElem_mem hi', by rw [← h i hi']; exact hc⟩
  · rintro ⟨x, hx, hc⟩
    obtain ⟨i, hi, rfl⟩ := List.getElem_of_mem hx
    exact ⟨i, List.mem_range.2 hi, by rw [h i hi]; exact hc⟩
theorem all_forall (n : Nat) (c : Nat → Bool) : (List.range n).all c = true ↔ ∀ i, i < n → c i = true := by
  rw [List.all_eq_true]
  exact ⟨fun h i hi => h i (List.mem_range.2 hi), fun h i hi => h i (List.mem_range.1 hi)⟩

end Go.Sx

/- Sets of vertices as numbers: what the bit operations do to membership. Plain facts. -/
namespace Go.Sx
theorem wrap32 (n : Int) : IntKind.u32.wrap n = n % 4294967296 := by simp [IntKind.wrap, IntKind.signed, IntKind.bits]

/-- a word of 32 bits -/
def VS (s : Int) : Prop := 0 ≤ s ∧ s < 4294967296
/-- is a vertex in a set -/
def has (s : Int) (v : Nat) : Bool := s.toNat.testBit v

theorem VS.nat {s : Int} (h : VS s) : ∃ n : Nat, s = n ∧ n < 4294967296 := ⟨s.toNat, by have := h.1; omega, by have := h.1; have := h.2; omega⟩
theorem VS.zero : VS 0 := ⟨by omega, by omega⟩
theorem VS.wrap (n : Int) : VS (IntKind.u32.wrap n) := by rw [wrap32]; exact ⟨by omega, by omega⟩
theorem VS.ofNat {n : Nat} (h : n < 4294967296) : VS (n : Int) := ⟨by omega, by omega⟩
theorem has_nat (n v : Nat) : has (n : Int) v = n.testBit v := by simp [has]
theorem has_zero (v : Nat) : has 0 v = false := by simp [has]

theorem ofInt_nat (n : Nat) (h : n < 4294967296) : (BitVec.ofInt 32 (n : Int)).toNat = n := by
  rw [BitVec.toNat_ofInt]
  omega

theorem ior_nat {a b : Nat} (ha : a < 4294967296) (hb : b < 4294967296) : ior .u32 (a : Int) (b : Int) = ((a ||| b : Nat) : Int) := by
  have hw : a ||| b < 4294967296 := Nat.or_lt_two_pow (n := 32) ha hb
  show IntKind.u32.wrap (((BitVec.ofInt 32 (a : Int) ||| BitVec.ofInt 32 (b : Int)).toNat : Nat) : Int) = _
  rw [BitVec.toNat_or, ofInt_nat a ha, ofInt_nat b hb, wrap32]; omega
theorem iand_nat {a b : Nat} (ha : a < 4294967296) (hb : b < 4294967296) : iand .u32 (a : Int) (b : Int) = ((a &&& b : Nat) : Int) := by
  have hw : a &&& b < 4294967296 := Nat.and_lt_two_pow (n := 32) _ hb
  show IntKind.u32.wrap (((BitVec.ofInt 32 (a : Int) &&& BitVec.ofInt 32 (b : Int)).toNat : Nat) : Int) = _
  rw [BitVec.toNat_and, ofInt_nat a ha, ofInt_nat b hb, wrap32]; omega
theorem VS.ior (a b : Int) : VS (ior .u32 a b) := VS.wrap _
theorem VS.iand (a b : Int) : VS (iand .u32 a b) := VS.wrap _
theorem VS.ixor (a b : Int) : VS (ixor .u32 a b) := VS.wrap _
theorem VS.iandNot (a b : Int) : VS (iandNot .u32 a b) := VS.wrap _
theorem VS.ishl (a b : Int) : VS (ishl .u32 a b) := VS.wrap _

theorem has_ior {a b : Int} (ha : VS a) (hb : VS b) (v : Nat) : has (ior .u32 a b) v = (has a v || has b v) := by
  obtain ⟨m, rfl, hm⟩ := ha.nat; obtain ⟨n, rfl, hn⟩ := hb.nat
  rw [ior_nat hm hn]; simp only [has_nat, Nat.testBit_or]
theorem has_iand {a b : Int} (ha : VS a) (hb : VS b) (v : Nat) : has (iand .u32 a b) v = (has a v && has b v) := by
  obtain ⟨m, rfl, hm⟩ := ha.nat; obtain ⟨n, rfl, hn⟩ := hb.nat
  rw [iand_nat hm hn]; simp only [has_nat, Nat.testBit_and]
theorem has_iandNot {a b : Int} (ha : VS a) (hb : VS b) (v : Nat) : has (iandNot .u32 a b) v = (has a v && !has b v) := by
  obtain ⟨m, rfl, hm⟩ := ha.nat; obtain ⟨n, rfl, hn⟩ := hb.nat
  have e : iandNot .u32 (m : Int) (n : Int) = (((BitVec.ofInt 32 (m : Int) &&& ~~~(BitVec.ofInt 32 (n : Int))).toNat : Nat) : Int) := by
    have hw := (BitVec.ofInt 32 (m : Int) &&& ~~~(BitVec.ofInt 32 (n : Int))).isLt
    show IntKind.u32.wrap (((BitVec.ofInt 32 (m : Int) &&& ~~~(BitVec.ofInt 32 (n : Int))).toNat : Nat) : Int) = _
    rw [wrap32]; omega
  rw [e, has_nat, has_nat, has_nat]
  have h1 : ∀ i, (BitVec.ofInt 32 (m : Int)).getLsbD i = m.testBit i := fun i => by rw [BitVec.getLsbD, ofInt_nat m hm]
  have h2 : ∀ i, (BitVec.ofInt 32 (n : Int)).getLsbD i = n.testBit i := fun i => by rw [BitVec.getLsbD, ofInt_nat n hn]
  rw [← BitVec.getLsbD, BitVec.getLsbD_and, BitVec.getLsbD_not, h1, h2]
  by_cases hv : v < 32
  · simp [hv]
  · have : m.testBit v = false := Nat.testBit_lt_two_pow (Nat.lt_of_lt_of_le hm (Nat.pow_le_pow_right (n := 2) (by omega) (show 32 ≤ v by omega)))
    simp [this]
theorem has_big {a : Int} (ha : VS a) {v : Nat} (hv : 32 ≤ v) : has a v = false := by
  obtain ⟨m, rfl, hm⟩ := ha.nat
  rw [has_nat]
  exact Nat.testBit_lt_two_pow (Nat.lt_of_lt_of_le hm (Nat.pow_le_pow_right (n := 2) (by omega) hv))
theorem VS.ext {a b : Int} (ha : VS a) (hb : VS b) (h : ∀ v, v < 32 → has a v = has b v) : a = b := by
  have : ∀ v, has a v = has b v := fun v => by
    by_cases hv : v < 32
    · exact h v hv
    · rw [has_big ha (by omega), has_big hb (by omega)]
  obtain ⟨m, rfl, hm⟩ := ha.nat; obtain ⟨n, rfl, hn⟩ := hb.nat
  congr 1
  apply Nat.eq_of_testBit_eq
  intro v
  have := this v
  rwa [has_nat, has_nat] at this
theorem VS.eq_zero {a : Int} (ha : VS a) : a = 0 ↔ ∀ v, v < 32 → has a v = false :=
  ⟨fun h v _ => by rw [h, has_zero], fun h => ha.ext VS.zero (fun v hv => by rw [h v hv, has_zero])⟩

/-- the set of one vertex -/
theorem one_eq {v : Nat} (hv : v < 32) : ishl .u32 1 (v : Int) = ((2 ^ v : Nat) : Int) := by
  have h : (2 : Nat) ^ v < 2 ^ 32 := Nat.pow_lt_pow_right (by omega) hv
  have h' : (2 : Nat) ^ 32 = 4294967296 := by decide
  rw [h'] at h
  show IntKind.u32.wrap (1 * 2 ^ (min ((v : Int)).toNat 32)) = _
  rw [wrap32, show min ((v : Int)).toNat 32 = v by simp; omega, Int.one_mul]
  have e : ((2 ^ v : Nat) : Int) = (2 : Int) ^ v := by simp
  rw [← e]
  generalize 2 ^ v = p at h ⊢
  omega
theorem has_one {v : Nat} (hv : v < 32) (u : Nat) : has (ishl .u32 1 (v : Int)) u = decide (u = v) := by
  rw [one_eq hv, has_nat, Nat.testBit_two_pow]
  simp [eq_comm]
theorem shr_eq (s : Int) (v : Nat) (h : VS s) (hv : v < 32) : ishr .u32 s (v : Int) = ((s.toNat >>> v : Nat) : Int) := by
  obtain ⟨m, rfl, hm⟩ := h.nat
  show Int.fdiv (m : Int) (2 ^ (min ((v : Int)).toNat 32)) = _
  rw [show min ((v : Int)).toNat 32 = v by simp; omega]
  have e : ((2 ^ v : Nat) : Int) = (2 : Int) ^ v := by simp
  rw [← e, Int.fdiv_eq_ediv_of_nonneg _ (Int.natCast_nonneg _), Nat.shiftRight_eq_div_pow]
  simp
/-- the numbers in a set, rising -/
def elems (s : Int) : List Int := ((List.range 32).filter (has s)).map Int.ofNat
theorem mem_elems {s : Int} {x : Int} : x ∈ elems s ↔ ∃ v : Nat, v < 32 ∧ has s v = true ∧ x = v := by
  unfold elems
  rw [List.mem_map]
  constructor
  · rintro ⟨v, hv, rfl⟩
    rw [List.mem_filter, List.mem_range] at hv
    exact ⟨v, hv.1, hv.2, rfl⟩
  · rintro ⟨v, h1, h2, rfl⟩
    exact ⟨v, List.mem_filter.2 ⟨List.mem_range.2 h1, h2⟩, rfl⟩
theorem mem_elems_nat {s : Int} (h : VS s) {v : Nat} : (v : Int) ∈ elems s ↔ has s v = true := by
  rw [mem_elems]
  constructor
  · rintro ⟨u, _, h2, h3⟩; obtain rfl : v = u := by omega
    exact h2
  · intro h2
    refine ⟨v, ?_, h2, rfl⟩
    by_cases hv : v < 32
    · exact hv
    · rw [has_big h (by omega)] at h2; cases h2
theorem elems_len (s : Int) : (elems s).length ≤ 32 := by
  unfold elems
  rw [List.length_map]
  exact Nat.le_trans (List.length_filter_le _ _) (by simp)

/-- rising lists -/
def Inc (l : List Int) : Prop := l.Pairwise (· < ·)
theorem elems_inc (s : Int) : Inc (elems s) := by
  unfold elems Inc
  rw [List.pairwise_map]
  refine List.Pairwise.filter _ ?_
  refine List.Pairwise.imp ?_ (List.pairwise_lt_range (n := 32))
  intro a b h
  show (a : Int) < (b : Int)
  omega
theorem Inc.ext : ∀ {l l' : List Int}, Inc l → Inc l' → (∀ x, x ∈ l ↔ x ∈ l') → l = l'
  | [], [], _, _, _ => rfl
  | [], y :: l', _, _, h => by have := (h y).2 (by simp); simp at this
  | x :: l, [], _, _, h => by have := (h x).1 (by simp); simp at this
  | x :: l, y :: l', h1, h2, h => by
    have h1' := List.pairwise_cons.1 h1; have h2' := List.pairwise_cons.1 h2
    have e : x = y := by
      rcases List.mem_cons.1 ((h x).1 (by simp)) with e | e
      · exact e
      · rcases List.mem_cons.1 ((h y).2 (by simp)) with e' | e'
        · exact e'.symm
        · have := h2'.1 x e; have := h1'.1 y e'; omega
    subst e
    have : l = l' := by
      refine Inc.ext h1'.2 h2'.2 (fun z => ?_)
      constructor
      · intro hz
        rcases List.mem_cons.1 ((h z).1 (List.mem_cons_of_mem _ hz)) with e | e
        · have := h1'.1 z hz; omega
        · exact e
      · intro hz
        rcases List.mem_cons.1 ((h z).2 (List.mem_cons_of_mem _ hz)) with e | e
        · have := h2'.1 z hz; omega
        · exact e
    rw [this]

/-- the least of a set, and what is left -/
theorem least_spec {s : Int} (h : VS s) (h0 : s ≠ 0) : ∃ k : Nat, k < 32 ∧ has s k = true ∧ (∀ v, v < k → has s v = false) ∧
    iand .u32 s (IntKind.u32.wrap (0 - s)) = ((2 ^ k : Nat) : Int) ∧ (∀ v, has (iand .u32 s (IntKind.u32.wrap (s - 1))) v = (has s v && !decide (v = k))) := by
  obtain ⟨m, rfl, hm⟩ := h.nat
  have hm0 : m ≠ 0 := by omega
  obtain ⟨q, hq, hk⟩ := Lib.ctzFrom_spec 32 m (by omega) hm
  have hc : Lib.ctz 32 m = Lib.ctzFrom 32 m := by unfold Lib.ctz; rw [if_neg hm0]
  obtain ⟨hl, _⟩ := Lib.lowest_bit 32 m hm0 hm
  rw [hc] at hl
  generalize Lib.ctzFrom 32 m = k at *
  have hpos : 0 < 2 ^ k := Nat.pow_pos (by omega)
  have hb : ∀ v, m.testBit v = (decide (v ≥ k) && (2 * q + 1).testBit (v - k)) := fun v => by rw [hq, Nat.mul_comm, Nat.testBit_mul_two_pow, Bool.and_comm]
  refine ⟨k, hk, ?_, fun v hv => ?_, ?_, fun v => ?_⟩
  · rw [has_nat, hb]; simp
  · rw [has_nat, hb]; simp; intro hc; omega
  · have e : IntKind.u32.wrap (0 - (m : Int)) = ((4294967296 - m : Nat) : Int) := by rw [wrap32]; omega
    rw [e, iand_nat hm (by omega)]
    rw [← hl]
  · have e : IntKind.u32.wrap ((m : Int) - 1) = ((m - 1 : Nat) : Int) := by rw [wrap32]; omega
    rw [e, iand_nat hm (by omega), has_nat, has_nat, Nat.testBit_and]
    have hm1 : m - 1 = 2 ^ k * (2 * q) + (2 ^ k - 1) := by rw [hq, Nat.mul_add]; omega
    have hb1 : (m - 1).testBit v = if v < k then true else (2 * q).testBit (v - k) := by
      rw [hm1, Nat.testBit_two_pow_mul_add _ (by omega)]
      split
      · rename_i hv; rw [Nat.testBit_two_pow_sub_one]; simp [hv]
      · rfl
    rw [hb1, hb]
    by_cases hv : v < k
    · simp [hv]; intro hc; omega
    · rw [if_neg hv]
      by_cases hvk : v = k
      · subst hvk; simp
      · obtain ⟨t, ht⟩ : ∃ t, v - k = t + 1 := ⟨v - k - 1, by omega⟩
        rw [ht, Nat.testBit_succ, Nat.testBit_succ]
        have e1 : (2 * q + 1) / 2 = q := by omega
        have e2 : 2 * q / 2 = q := by omega
        rw [e1, e2]
        simp [hvk]

theorem elems_least {s t : Int} {k : Nat} (hk : k < 32) (h1 : has s k = true) (h2 : ∀ v, v < k → has s v = false) (h3 : ∀ v, has t v = (has s v && !decide (v = k))) :
    elems s = (k : Int) :: elems t := by
  refine Inc.ext (elems_inc s) ?_ (fun x => ?_)
  · refine List.pairwise_cons.2 ⟨fun x hx => ?_, elems_inc t⟩
    obtain ⟨v, hv, h4, rfl⟩ := mem_elems.1 hx
    rw [h3] at h4
    simp at h4
    by_cases hc : v < k
    · rw [h2 v hc] at h4; simp at h4
    · omega
  · rw [List.mem_cons, mem_elems, mem_elems]
    constructor
    · rintro ⟨v, hv, h4, rfl⟩
      by_cases e : v = k
      · left; omega
      · right; exact ⟨v, hv, by rw [h3, h4]; simp [e], rfl⟩
    · rintro (rfl | ⟨v, hv, h4, rfl⟩)
      · exact ⟨k, hk, h1, rfl⟩
      · rw [h3] at h4; simp at h4
        exact ⟨v, hv, h4.1, rfl⟩
theorem elems_zero : elems 0 = [] := by
  unfold elems
  rw [List.filter_eq_nil_iff.2 (fun v _ => by simp [has_zero])]; rfl

theorem tz_table : ∀ k : Nat, k < 32 → idx tab32 (ishr .u32 (IntKind.u32.wrap (((2 ^ k : Nat) : Int) * 125613361)) 27) = some (k : Int) := by decide +kernel
end Go.Sx

/- Plain facts on lists of numbers: reading, swapping, what a sort may do. No program in sight. -/
namespace Go.Sx
def at' (l : List Int) (i : Int) : Int := l.getD i.toNat 0
theorem idx_at {l : List Int} {i : Int} (h0 : 0 ≤ i) (h1 : i < l.length) : idx l i = some (at' l i) := by
  unfold idx at'
  rw [if_pos h0]
  have : i.toNat < l.length := by omega
  simp [this]
theorem at_set {l : List Int} {i k x : Int} (h0 : 0 ≤ i) (h1 : i < l.length) (hk : 0 ≤ k) : at' (l.set i.toNat x) k = if k = i then x else at' l k := by
  unfold at'
  by_cases h : k = i
  · subst h
    have : k.toNat < l.length := by omega
    simp [this]
  · rw [if_neg h]
    have : i.toNat ≠ k.toNat := by omega
    simp [List.getD_eq_getElem?_getD, List.getElem?_set_ne this]

def sw (l : List Int) (i j : Int) : List Int := (l.set i.toNat (at' l j)).set j.toNat (at' l i)
theorem sw_len (l : List Int) (i j : Int) : (sw l i j).length = l.length := by simp [sw]
theorem sw_at {l : List Int} {i j k : Int} (hi : 0 ≤ i) (hi' : i < l.length) (hj : 0 ≤ j) (hj' : j < l.length) (hk : 0 ≤ k) :
    at' (sw l i j) k = if k = j then at' l i else if k = i then at' l j else at' l k := by
  unfold sw
  rw [at_set hj (by simpa using hj') hk]
  split
  · rfl
  · rw [at_set hi hi' hk]

theorem set_perm_erase (z : Int) : ∀ (l : List Int) (j : Nat), j < l.length → List.Perm (l.set j z) (z :: l.eraseIdx j)
  | [], j, h => by simp at h
  | x :: l, 0, _ => by simp
  | x :: l, j + 1, h => by
    simp only [List.set_cons_succ, List.eraseIdx_cons_succ]
    exact ((set_perm_erase z l j (by simpa using h)).cons x).trans (List.Perm.swap _ _ _)
theorem perm_erase (l : List Int) (j : Nat) (h : j < l.length) : List.Perm l (l[j] :: l.eraseIdx j) := by
  have := set_perm_erase l[j] l j h
  rwa [List.set_getElem_self] at this

theorem set_perm : ∀ (l : List Int) (i j : Nat) (x y : Int), l[i]? = some x → l[j]? = some y → List.Perm ((l.set i y).set j x) l
  | [], i, j, x, y, h, _ => by simp at h
  | z :: l, 0, 0, x, y, h, h' => by simp at h h'; subst h; simp
  | z :: l, 0, j + 1, x, y, h, h' => by
    simp at h h'
    subst h
    simp only [List.set_cons_zero, List.set_cons_succ]
    obtain ⟨hj, rfl⟩ := List.getElem?_eq_some_iff.1 h'
    have h1 := set_perm_erase z l j hj
    have h2 := perm_erase l j hj
    exact ((h1.cons _).trans (List.Perm.swap _ _ _)).trans (h2.symm.cons z)
  | z :: l, i + 1, 0, x, y, h, h' => by
    simp at h h'
    subst h'
    simp only [List.set_cons_zero, List.set_cons_succ]
    obtain ⟨hj, rfl⟩ := List.getElem?_eq_some_iff.1 h
    have h1 := set_perm_erase z l i hj
    have h2 := perm_erase l i hj
    exact ((h1.cons _).trans (List.Perm.swap _ _ _)).trans (h2.symm.cons z)
  | z :: l, i + 1, j + 1, x, y, h, h' => by
    simp at h h'
    simp only [List.set_cons_succ]
    exact (set_perm l i j x y h h').cons z

theorem sw_perm {l : List Int} {i j : Int} (hi : 0 ≤ i) (hi' : i < l.length) (hj : 0 ≤ j) (hj' : j < l.length) : List.Perm (sw l i j) l := by
  have h1 : i.toNat < l.length := by omega
  have h2 : j.toNat < l.length := by omega
  exact set_perm l i.toNat j.toNat _ _ (by simp [at', h1]) (by simp [at', h2])

/-- what a sort may do to the places from a to b -/
structure Rg (a b : Int) (l l' : List Int) : Prop where
  len : l'.length = l.length
  perm : List.Perm l' l
  out : ∀ k, 0 ≤ k → (k < a ∨ b ≤ k) → at' l' k = at' l k
  all : ∀ Q : Int → Prop, (∀ k, a ≤ k → k < b → Q (at' l k)) → ∀ k, a ≤ k → k < b → Q (at' l' k)

theorem Rg.refl (a b : Int) (l : List Int) : Rg a b l l := ⟨rfl, List.Perm.refl _, fun _ _ _ => rfl, fun _ h => h⟩
theorem Rg.trans {a b : Int} {l l' l'' : List Int} (h : Rg a b l l') (h' : Rg a b l' l'') : Rg a b l l'' :=
  ⟨h'.len.trans h.len, h'.perm.trans h.perm, fun k h0 hk => (h'.out k h0 hk).trans (h.out k h0 hk), fun Q hQ => h'.all Q (h.all Q hQ)⟩
theorem Rg.swap {a b i j : Int} {l : List Int} (ha : 0 ≤ a) (hb : b ≤ l.length) (hi : a ≤ i) (hi' : i < b) (hj : a ≤ j) (hj' : j < b) : Rg a b l (sw l i j) := by
  refine ⟨sw_len _ _ _, sw_perm (by omega) (by omega) (by omega) (by omega), fun k h0 hk => ?_, fun Q hQ k h1 h2 => ?_⟩
  · rw [sw_at (by omega) (by omega) (by omega) (by omega) h0, if_neg (by omega), if_neg (by omega)]
  · rw [sw_at (by omega) (by omega) (by omega) (by omega) (by omega)]
    split
    · exact hQ i hi hi'
    · split
      · exact hQ j hj hj'
      · exact hQ k h1 h2
theorem Rg.widen {a b a' b' : Int} {l l' : List Int} (h : Rg a b l l') (ha : a' ≤ a) (hb : b ≤ b') (h0 : 0 ≤ a') : Rg a' b' l l' := by
  refine ⟨h.len, h.perm, fun k h0 hk => h.out k h0 (by omega), fun Q hQ k h1 h2 => ?_⟩
  by_cases hk : a ≤ k ∧ k < b
  · exact h.all Q (fun k h3 h4 => hQ k (by omega) (by omega)) k hk.1 hk.2
  · rw [h.out k (by omega) (by omega)]; exact hQ k h1 h2

/-- sorted from a to b -/
def Srt (l : List Int) (a b : Int) : Prop := ∀ i j, a ≤ i → i < j → j < b → at' l i ≤ at' l j

end Go.Sx



/- What Go's sort at []int64 comes to. Plain. -/
namespace Go.Sx
theorem less_eq (x y : Int) : D.cmp_Less_int64 x y = some (decide (x < y)) := by
  simp [D.cmp_Less_int64, D.cmp_isNaN_int64]

theorem idx_set_at {l : List Int} {i j x : Int} (h0 : 0 ≤ i) (h1 : i < l.length) : idx (l.set j.toNat x) i = some (at' (l.set j.toNat x) i) := idx_at h0 (by simpa using h1)

theorem insertionSort_spec (l0 : List Int) (a b : Int) (ha : 0 ≤ a) (hab : a ≤ b) (hb : b ≤ l0.length) (hlen : l0.length ≤ 1000000) :
    ∃ l', D.slices_insertionSortOrdered_int64 l0 a b = some l' ∧ Rg a b l0 l' ∧ Srt l' a b := by
  unfold D.slices_insertionSortOrdered_int64
  rw [w64 (show -9223372036854775808 ≤ a + 1 by omega) (by omega)]
  refine loop_then (fun s => Rg a b l0 s.1 ∧ Srt s.1 a s.2 ∧ a + 1 ≤ s.2 ∧ s.2 ≤ b + 1) (fun s => (b - s.2).toNat) (fun r => Rg a b l0 r ∧ Srt r a b) ?_ ?_ ?_
  · rintro ⟨l, i⟩ ⟨hR, hS, h1, h2⟩
    dsimp only at hR hS h1 h2 ⊢
    have hll := hR.len
    by_cases hi : i < b
    · simp only [hi, decide_true, cond_true]
      rw [w64 (show -9223372036854775808 ≤ i + 1 by omega) (by omega)]
      refine loop_then (fun s => Rg a b l0 s.1 ∧ a ≤ s.2 ∧ s.2 ≤ i ∧ ∀ p q, a ≤ p → p < q → q ≤ i → q ≠ s.2 → at' s.1 p ≤ at' s.1 q) (fun s => (s.2 - a).toNat) (fun r => Rg a b l0 r ∧ Srt r a (i + 1)) ?_ ?_ ?_
      · rintro ⟨m, j⟩ ⟨hR', g1, g2, hS'⟩
        dsimp only at hR' g1 g2 hS' ⊢
        have hml := hR'.len
        rw [w64 (show -9223372036854775808 ≤ j - 1 by omega) (by omega)]
        by_cases hj : a < j
        · have r1 : idx m j = some (at' m j) := idx_at (by omega) (by omega)
          have r2 : idx m (j - 1) = some (at' m (j - 1)) := idx_at (by omega) (by omega)
          have r3 : ∀ x, idx (m.set j.toNat x) (j - 1) = some (at' (m.set j.toNat x) (j - 1)) := fun x => idx_set_at (by omega) (by omega)
          by_cases hlt : at' m j < at' m (j - 1)
          · refine ⟨.inl (sw m j (j - 1), j - 1), ?_, ⟨hR'.trans (Rg.swap ha (by omega) (by omega) (by omega) (by omega) (by omega)), by dsimp only; omega, by dsimp only; omega, ?_⟩, by dsimp only; omega⟩
            · simp only [r1, r2, r3, hj, less_eq, hlt, decide_true, cond_true, Option.bind_some]
              rfl
            · intro p q k1 k2 k3 k4
              dsimp only at k4 ⊢
              rw [sw_at (by omega) (by omega) (by omega) (by omega) (by omega), sw_at (by omega) (by omega) (by omega) (by omega) (by omega)]
              by_cases c1 : q = j
              · subst c1
                rw [if_neg (show ¬ q = q - 1 by omega), if_pos rfl]
                by_cases c2 : p = q - 1
                · rw [if_pos c2]; omega
                · rw [if_neg c2, if_neg (by omega)]
                  exact hS' p (q - 1) k1 (by omega) (by omega) (by omega)
              · rw [if_neg (show ¬ q = j - 1 by omega), if_neg c1]
                by_cases c2 : p = j - 1
                · rw [if_pos c2]
                  exact hS' j q (by omega) (by omega) k3 c1
                · rw [if_neg c2]
                  by_cases c3 : p = j
                  · rw [if_pos c3]
                    exact hS' (j - 1) q (by omega) (by omega) k3 c1
                  · rw [if_neg c3]
                    exact hS' p q k1 k2 k3 c1
          · refine ⟨.inr m, ?_, hR', ?_⟩
            · simp only [r1, r2, hj, less_eq, hlt, decide_true, decide_false, cond_true, cond_false, Option.bind_some]
            · intro p q k1 k2 k3
              by_cases c1 : q = j
              · subst c1
                by_cases c2 : p = q - 1
                · subst c2; omega
                · have := hS' p (q - 1) k1 (by omega) (by omega) (by omega)
                  omega
              · exact hS' p q k1 k2 (by omega) c1
        · refine ⟨.inr m, ?_, hR', ?_⟩
          · simp only [hj, decide_false, cond_false, Option.bind_some]
          · intro p q k1 k2 k3
            exact hS' p q k1 k2 (by omega) (by omega)
      · exact ⟨hR, by dsimp only; omega, Int.le_refl _, fun p q k1 k2 k3 k4 => hS p q k1 k2 (by dsimp only at k4 ⊢; omega)⟩
      · rintro r ⟨hR', hS'⟩
        exact ⟨.inl (r, i + 1), rfl, ⟨hR', hS', by dsimp only; omega, by dsimp only; omega⟩, by dsimp only; omega⟩
    · refine ⟨.inr l, by simp only [hi, decide_false, cond_false], hR, ?_⟩
      intro p q k1 k2 k3
      exact hS p q k1 k2 (by omega)
  · exact ⟨Rg.refl _ _ _, fun p q k1 k2 k3 => by dsimp only at k3; omega, by dsimp only; omega, by dsimp only; omega⟩
  · rintro r hr
    exact ⟨r, rfl, hr⟩
end Go.Sx

namespace Go.Sx
theorem reverseRange_spec (l0 : List Int) (a b : Int) (ha : 0 ≤ a) (hab : a ≤ b) (hb : b ≤ l0.length) (hlen : l0.length ≤ 1000000) :
    ∃ l', D.slices_reverseRangeOrdered_int64 l0 a b = some l' ∧ Rg a b l0 l' := by
  unfold D.slices_reverseRangeOrdered_int64
  rw [w64 (show -9223372036854775808 ≤ b - 1 by omega) (by omega)]
  refine loop_then (fun s => Rg a b l0 s.1 ∧ a ≤ s.2.1 ∧ s.2.1 ≤ b ∧ s.2.2 < b ∧ a - 1 ≤ s.2.2) (fun s => (s.2.2 - s.2.1).toNat) (fun r => Rg a b l0 r) ?_ ?_ ?_
  · rintro ⟨l, i, j⟩ ⟨hR, h1, h2, h3, h4⟩
    dsimp only at hR h1 h2 h3 h4 ⊢
    have hll := hR.len
    by_cases hi : i < j
    · have r1 : idx l i = some (at' l i) := idx_at (by omega) (by omega)
      have r2 : idx l j = some (at' l j) := idx_at (by omega) (by omega)
      have r3 : ∀ x, idx (l.set i.toNat x) j = some (at' (l.set i.toNat x) j) := fun x => idx_set_at (by omega) (by omega)
      rw [w64 (show -9223372036854775808 ≤ i + 1 by omega) (by omega), w64 (show -9223372036854775808 ≤ j - 1 by omega) (by omega)]
      refine ⟨.inl (sw l i j, i + 1, j - 1), ?_, ⟨hR.trans (Rg.swap ha (by omega) (by omega) (by omega) (by omega) (by omega)), by dsimp only; omega, by dsimp only; omega, by dsimp only; omega, by dsimp only; omega⟩, by dsimp only; omega⟩
      simp only [r1, r2, r3, hi, decide_true, cond_true, Option.bind_some]
      rfl
    · exact ⟨.inr l, by simp only [hi, decide_false, cond_false], hR⟩
  · exact ⟨Rg.refl _ _ _, by dsimp only; omega, by dsimp only; omega, by dsimp only; omega, by dsimp only; omega⟩
  · rintro r hr
    exact ⟨r, rfl, hr⟩

/-- up, while what is read is less than the pivot -/
theorem scanUp {β : Type} {k : Int → Option β} {Q : β → Prop} (l : List Int) (a hi i0 : Int) (ha : 0 ≤ a) (ha' : a < l.length) (h0 : 0 ≤ i0) (h1 : i0 ≤ hi + 1) (h2 : hi < l.length) (hlen : l.length ≤ 1000000)
    (hk : ∀ i, i0 ≤ i → i ≤ hi + 1 → (∀ q, i0 ≤ q → q < i → at' l q < at' l a) → (i ≤ hi → ¬ at' l i < at' l a) → ∃ y, k i = some y ∧ Q y) :
    ∃ y, (loopF (σ := Int) (ρ := (Int)) (fun (x : Int) => (cond (decide (x ≤ hi)) ((idx l x).bind fun e => (idx l a).bind fun e' => (D.cmp_Less_int64 e e').bind fun y => some y) (some false)).bind fun b => cond b (some (.inl (IntKind.i64.wrap (x + 1)))) (some (.inr x))) i0).bind k = some y ∧ Q y := by
  refine loop_then (fun i => i0 ≤ i ∧ i ≤ hi + 1 ∧ ∀ q, i0 ≤ q → q < i → at' l q < at' l a) (fun i => (hi + 1 - i).toNat) (fun i => i0 ≤ i ∧ i ≤ hi + 1 ∧ (∀ q, i0 ≤ q → q < i → at' l q < at' l a) ∧ (i ≤ hi → ¬ at' l i < at' l a)) ?_ ?_ ?_
  · rintro i ⟨g1, g2, g3⟩
    by_cases hi' : i ≤ hi
    · have r1 : idx l i = some (at' l i) := idx_at (by omega) (by omega)
      have r2 : idx l a = some (at' l a) := idx_at (by omega) (by omega)
      by_cases hlt : at' l i < at' l a
      · refine ⟨.inl (i + 1), ?_, ⟨by omega, by omega, fun q q1 q2 => ?_⟩, by dsimp only; omega⟩
        · simp only [r1, r2, hi', less_eq, hlt, decide_true, cond_true, Option.bind_some]
          rw [w64 (by omega) (by omega)]
        · by_cases e : q = i
          · rw [e]; exact hlt
          · exact g3 q q1 (by omega)
      · exact ⟨.inr i, by simp only [r1, r2, hi', less_eq, hlt, decide_true, decide_false, cond_true, cond_false, Option.bind_some], g1, g2, g3, fun _ => hlt⟩
    · exact ⟨.inr i, by simp only [hi', decide_false, cond_false, Option.bind_some], g1, g2, g3, fun h => absurd h hi'⟩
  · exact ⟨Int.le_refl _, h1, fun q q1 q2 => by omega⟩
  · rintro i ⟨g1, g2, g3, g4⟩
    exact hk i g1 g2 g3 g4

/-- down, while what is read is not less than the pivot -/
theorem scanDown {β : Type} {k : Int → Option β} {Q : β → Prop} (l : List Int) (a lo j0 : Int) (ha : 0 ≤ a) (ha' : a < l.length) (h0 : 0 ≤ lo) (h1 : lo ≤ j0 + 1) (h2 : j0 < l.length) (hlen : l.length ≤ 1000000)
    (hk : ∀ j, lo ≤ j + 1 → j ≤ j0 → (∀ q, j < q → q ≤ j0 → ¬ at' l q < at' l a) → (lo ≤ j → at' l j < at' l a) → ∃ y, k j = some y ∧ Q y) :
    ∃ y, (loopF (σ := Int) (ρ := (Int)) (fun (x : Int) => (cond (decide (lo ≤ x)) ((idx l x).bind fun e => (idx l a).bind fun e' => (D.cmp_Less_int64 e e').bind fun y => some (!y)) (some false)).bind fun b => cond b (some (.inl (IntKind.i64.wrap (x - 1)))) (some (.inr x))) j0).bind k = some y ∧ Q y := by
  refine loop_then (fun j => lo ≤ j + 1 ∧ j ≤ j0 ∧ ∀ q, j < q → q ≤ j0 → ¬ at' l q < at' l a) (fun j => (j + 1 - lo).toNat) (fun j => lo ≤ j + 1 ∧ j ≤ j0 ∧ (∀ q, j < q → q ≤ j0 → ¬ at' l q < at' l a) ∧ (lo ≤ j → at' l j < at' l a)) ?_ ?_ ?_
  · rintro j ⟨g1, g2, g3⟩
    by_cases hi' : lo ≤ j
    · have r1 : idx l j = some (at' l j) := idx_at (by omega) (by omega)
      have r2 : idx l a = some (at' l a) := idx_at (by omega) (by omega)
      by_cases hlt : at' l j < at' l a
      · exact ⟨.inr j, by simp only [r1, r2, hi', less_eq, hlt, decide_true, Bool.not_true, cond_true, cond_false, Option.bind_some], g1, g2, g3, fun _ => hlt⟩
      · refine ⟨.inl (j - 1), ?_, ⟨by omega, by omega, fun q q1 q2 => ?_⟩, by dsimp only; omega⟩
        · simp only [r1, r2, hi', less_eq, hlt, decide_true, decide_false, Bool.not_false, cond_true, Option.bind_some]
          rw [w64 (by omega) (by omega)]
        · by_cases e : q = j
          · rw [e]; exact hlt
          · exact g3 q (by omega) q2
    · exact ⟨.inr j, by simp only [hi', decide_false, cond_false, Option.bind_some], g1, g2, g3, fun h => absurd h hi'⟩
  · exact ⟨h1, Int.le_refl _, fun q q1 q2 => by omega⟩
  · rintro j ⟨g1, g2, g3, g4⟩
    exact hk j g1 g2 g3 g4

/-- what a partition comes to -/
structure Parted (l0 l' : List Int) (a b mid : Int) : Prop where
  rg : Rg a b l0 l'
  lo : a ≤ mid
  hi : mid < b
  left : ∀ k, a ≤ k → k < mid → at' l' k ≤ at' l' mid
  right : ∀ k, mid < k → k < b → at' l' mid ≤ at' l' k

theorem partition_spec (l0 : List Int) (a b p : Int) (ha : 0 ≤ a) (hb : b ≤ l0.length) (hlen : l0.length ≤ 1000000) (hp : a ≤ p) (hp' : p < b) :
    ∃ y, D.slices_partitionOrdered_int64 l0 a b p = some y ∧ Parted l0 y.2.2 a b y.1 := by
  unfold D.slices_partitionOrdered_int64
  have r1 : idx l0 p = some (at' l0 p) := idx_at (by omega) (by omega)
  have r2 : idx l0 a = some (at' l0 a) := idx_at (by omega) (by omega)
  have r3 : ∀ x, idx (l0.set a.toNat x) p = some (at' (l0.set a.toNat x) p) := fun x => idx_set_at (by omega) (by omega)
  simp only [r1, r2, r3, Option.bind_some]
  rw [show (l0.set a.toNat (at' l0 p)).set p.toNat (at' l0 a) = sw l0 a p from rfl]
  have hR0 : Rg a b l0 (sw l0 a p) := Rg.swap ha hb (by omega) (by omega) hp hp'
  generalize sw l0 a p = m0 at hR0 ⊢
  have hm0 := hR0.len
  rw [w64 (show -9223372036854775808 ≤ b - 1 by omega) (by omega), w64 (show -9223372036854775808 ≤ a + 1 by omega) (by omega)]
  refine scanUp m0 a (b - 1) (a + 1) ha (by omega) (by omega) (by omega) (by omega) (by omega) (fun i i1 i2 i3 i4 => ?_)
  refine scanDown m0 a i (b - 1) ha (by omega) (by omega) (by omega) (by omega) (by omega) (fun j j1 j2 j3 j4 => ?_)
  have q1 : idx m0 a = some (at' m0 a) := idx_at (by omega) (by omega)
  have q2 : idx m0 j = some (at' m0 j) := idx_at (by omega) (by omega)
  by_cases hij : j < i
  · have q3 : ∀ x, idx (m0.set j.toNat x) a = some (at' (m0.set j.toNat x) a) := fun x => idx_set_at (by omega) (by omega)
    refine ⟨(j, true, sw m0 j a), ?_, ⟨hR0.trans (Rg.swap ha (by omega) (by omega) (by omega) (by omega) (by omega)), by dsimp only; omega, by dsimp only; omega, fun k k1 k2 => ?_, fun k k1 k2 => ?_⟩⟩
    · simp only [q1, q2, q3, hij, decide_true, cond_true, Option.bind_some]
      rfl
    · dsimp only at k1 k2 ⊢
      rw [sw_at (by omega) (by omega) (by omega) (by omega) (by omega), sw_at (by omega) (by omega) (by omega) (by omega) (by omega)]
      rw [if_neg (show ¬ j = a by omega), if_pos rfl]
      by_cases e : k = a
      · rw [if_pos e]
        have := i3 j (by omega) (by omega); omega
      · rw [if_neg e, if_neg (by omega)]
        have := i3 k (by omega) (by omega); omega
    · dsimp only at k1 k2 ⊢
      rw [sw_at (by omega) (by omega) (by omega) (by omega) (by omega), sw_at (by omega) (by omega) (by omega) (by omega) (by omega)]
      rw [if_neg (show ¬ k = a by omega), if_neg (show ¬ k = j by omega)]
      have hk := j3 k (by omega) (by omega)
      by_cases e : j = a
      · rw [if_pos e]; subst e; omega
      · rw [if_neg e, if_pos rfl]; omega
  · have q4 : idx m0 i = some (at' m0 i) := idx_at (by omega) (by omega)
    have q5 : ∀ x, idx (m0.set i.toNat x) j = some (at' (m0.set i.toNat x) j) := fun x => idx_set_at (by omega) (by omega)
    simp only [q1, q2, q4, q5, hij, decide_false, cond_false, Option.bind_some]
    rw [show (m0.set i.toNat (at' m0 j)).set j.toNat (at' m0 i) = sw m0 i j from rfl]
    have hia := i4 (by omega)
    have hja := j4 (by omega)
    have hne : i < j := by
      rcases Int.lt_or_eq_of_le (show i ≤ j by omega) with h | h
      · exact h
      · subst h; exact absurd hja hia
    have hR1 : Rg a b l0 (sw m0 i j) := hR0.trans (Rg.swap ha (by omega) (by omega) (by omega) (by omega) (by omega))
    have ea : at' (sw m0 i j) a = at' m0 a := by rw [sw_at (by omega) (by omega) (by omega) (by omega) (by omega), if_neg (by omega), if_neg (by omega)]
    have hlo : ∀ q, a + 1 ≤ q → q < i + 1 → at' (sw m0 i j) q < at' (sw m0 i j) a := fun q h1 h2 => by
      rw [ea, sw_at (by omega) (by omega) (by omega) (by omega) (by omega), if_neg (by omega)]
      by_cases e : q = i
      · rw [if_pos e]; exact hja
      · rw [if_neg e]; exact i3 q h1 (by omega)
    have hhi : ∀ q, j - 1 < q → q < b → ¬ at' (sw m0 i j) q < at' (sw m0 i j) a := fun q h1 h2 => by
      rw [ea, sw_at (by omega) (by omega) (by omega) (by omega) (by omega)]
      by_cases e : q = j
      · rw [if_pos e]; exact hia
      · rw [if_neg e, if_neg (by omega)]; exact j3 q (by omega) (by omega)
    rw [w64 (show -9223372036854775808 ≤ i + 1 by omega) (by omega), w64 (show -9223372036854775808 ≤ j - 1 by omega) (by omega)]
    generalize sw m0 i j = m1 at hR1 hlo hhi ⊢
    refine loop_then (fun s => Rg a b l0 s.1 ∧ a + 1 ≤ s.2.1 ∧ s.2.1 ≤ s.2.2 + 1 ∧ s.2.2 < b ∧ (∀ q, a + 1 ≤ q → q < s.2.1 → at' s.1 q < at' s.1 a) ∧ (∀ q, s.2.2 < q → q < b → ¬ at' s.1 q < at' s.1 a)) (fun s => (s.2.2 + 1 - s.2.1).toNat)
      (fun s => Rg a b l0 s.1 ∧ a ≤ s.2 ∧ s.2 < b ∧ (∀ q, a + 1 ≤ q → q ≤ s.2 → at' s.1 q < at' s.1 a) ∧ (∀ q, s.2 < q → q < b → ¬ at' s.1 q < at' s.1 a)) ?_ ?_ ?_
    · rintro ⟨m, u, v⟩ ⟨hR, g1, g2, g3, g4, g5⟩
      dsimp only at hR g1 g2 g3 g4 g5 ⊢
      have hml := hR.len
      refine scanUp m a v u ha (by omega) (by omega) (by omega) (by omega) (by omega) (fun i i1 i2 i3 i4 => ?_)
      refine scanDown m a i v ha (by omega) (by omega) (by omega) (by omega) (by omega) (fun j j1 j2 j3 j4 => ?_)
      have f1 : ∀ q, a + 1 ≤ q → q < i → at' m q < at' m a := fun q h1 h2 => by
        by_cases h : q < u
        · exact g4 q h1 h
        · exact i3 q (by omega) h2
      have f2 : ∀ q, j < q → q < b → ¬ at' m q < at' m a := fun q h1 h2 => by
        by_cases h : q ≤ v
        · exact j3 q h1 h
        · exact g5 q (by omega) h2
      by_cases hij : j < i
      · exact ⟨.inr (m, j), by simp only [hij, decide_true, cond_true], hR, by dsimp only; omega, by dsimp only; omega, fun q h1 h2 => f1 q h1 (by dsimp only at h2; omega), f2⟩
      · have t1 : idx m i = some (at' m i) := idx_at (by omega) (by omega)
        have t2 : idx m j = some (at' m j) := idx_at (by omega) (by omega)
        have t3 : ∀ x, idx (m.set i.toNat x) j = some (at' (m.set i.toNat x) j) := fun x => idx_set_at (by omega) (by omega)
        have hia := i4 (by omega)
        have hja := j4 (by omega)
        have hne : i < j := by
          rcases Int.lt_or_eq_of_le (show i ≤ j by omega) with h | h
          · exact h
          · subst h; exact absurd hja hia
        have ea : at' (sw m i j) a = at' m a := by rw [sw_at (by omega) (by omega) (by omega) (by omega) (by omega), if_neg (by omega), if_neg (by omega)]
        rw [w64 (show -9223372036854775808 ≤ i + 1 by omega) (by omega), w64 (show -9223372036854775808 ≤ j - 1 by omega) (by omega)]
        refine ⟨.inl (sw m i j, i + 1, j - 1), ?_, ⟨hR.trans (Rg.swap ha (by omega) (by omega) (by omega) (by omega) (by omega)), by dsimp only; omega, by dsimp only; omega, by dsimp only; omega, fun q h1 h2 => ?_, fun q h1 h2 => ?_⟩, by dsimp only; omega⟩
        · simp only [t1, t2, t3, hij, decide_false, cond_false, Option.bind_some]
          rfl
        · dsimp only at h2 ⊢
          rw [ea, sw_at (by omega) (by omega) (by omega) (by omega) (by omega), if_neg (by omega)]
          by_cases e : q = i
          · rw [if_pos e]; exact hja
          · rw [if_neg e]; exact f1 q h1 (by omega)
        · dsimp only at h1 ⊢
          rw [ea, sw_at (by omega) (by omega) (by omega) (by omega) (by omega)]
          by_cases e : q = j
          · rw [if_pos e]; exact hia
          · rw [if_neg e, if_neg (by omega)]; exact f2 q (by omega) h2
    · exact ⟨hR1, by dsimp only; omega, by dsimp only; omega, by dsimp only; omega, hlo, hhi⟩
    · rintro ⟨m, v⟩ ⟨hR, g1, g2, g3, g4⟩
      dsimp only at hR g1 g2 g3 g4 ⊢
      have hml := hR.len
      have t1 : idx m a = some (at' m a) := idx_at (by omega) (by omega)
      have t2 : idx m v = some (at' m v) := idx_at (by omega) (by omega)
      have t3 : ∀ x, idx (m.set v.toNat x) a = some (at' (m.set v.toNat x) a) := fun x => idx_set_at (by omega) (by omega)
      refine ⟨(v, false, sw m v a), ?_, ⟨hR.trans (Rg.swap ha (by omega) (by omega) (by omega) (by omega) (by omega)), g1, g2, fun k k1 k2 => ?_, fun k k1 k2 => ?_⟩⟩
      · simp only [t1, t2, t3, Option.bind_some]
        rfl
      · dsimp only at k1 k2 ⊢
        rw [sw_at (by omega) (by omega) (by omega) (by omega) (by omega), sw_at (by omega) (by omega) (by omega) (by omega) (by omega)]
        rw [if_neg (show ¬ v = a by omega), if_pos rfl]
        by_cases e : k = a
        · rw [if_pos e]
          have := g3 v (by omega) (by omega); omega
        · rw [if_neg e, if_neg (by omega)]
          have := g3 k (by omega) (by omega); omega
      · dsimp only at k1 k2 ⊢
        rw [sw_at (by omega) (by omega) (by omega) (by omega) (by omega), sw_at (by omega) (by omega) (by omega) (by omega) (by omega)]
        rw [if_neg (show ¬ k = a by omega), if_neg (show ¬ k = v by omega)]
        have hk := g4 k (by omega) (by omega)
        by_cases e : v = a
        · rw [if_pos e]; subst e; omega
        · rw [if_neg e, if_pos rfl]; omega
end Go.Sx

namespace Go.Sx
/-- up, while the pivot is not less than what is read -/
theorem scanUp2 {β : Type} {k : Int → Option β} {Q : β → Prop} (l : List Int) (a hi i0 : Int) (ha : 0 ≤ a) (ha' : a < l.length) (h0 : 0 ≤ i0) (h1 : i0 ≤ hi + 1) (h2 : hi < l.length) (hlen : l.length ≤ 1000000)
    (hk : ∀ i, i0 ≤ i → i ≤ hi + 1 → (∀ q, i0 ≤ q → q < i → ¬ at' l a < at' l q) → (i ≤ hi → at' l a < at' l i) → ∃ y, k i = some y ∧ Q y) :
    ∃ y, (loopF (σ := Int) (ρ := (Int)) (fun (x : Int) => (cond (decide (x ≤ hi)) ((idx l a).bind fun e => (idx l x).bind fun e' => (D.cmp_Less_int64 e e').bind fun y => some (!y)) (some false)).bind fun b => cond b (some (.inl (IntKind.i64.wrap (x + 1)))) (some (.inr x))) i0).bind k = some y ∧ Q y := by
  refine loop_then (fun i => i0 ≤ i ∧ i ≤ hi + 1 ∧ ∀ q, i0 ≤ q → q < i → ¬ at' l a < at' l q) (fun i => (hi + 1 - i).toNat) (fun i => i0 ≤ i ∧ i ≤ hi + 1 ∧ (∀ q, i0 ≤ q → q < i → ¬ at' l a < at' l q) ∧ (i ≤ hi → at' l a < at' l i)) ?_ ?_ ?_
  · rintro i ⟨g1, g2, g3⟩
    by_cases hi' : i ≤ hi
    · have r1 : idx l i = some (at' l i) := idx_at (by omega) (by omega)
      have r2 : idx l a = some (at' l a) := idx_at (by omega) (by omega)
      by_cases hlt : at' l a < at' l i
      · exact ⟨.inr i, by simp only [r1, r2, hi', less_eq, hlt, decide_true, Bool.not_true, cond_true, cond_false, Option.bind_some], g1, g2, g3, fun _ => hlt⟩
      · refine ⟨.inl (i + 1), ?_, ⟨by omega, by omega, fun q q1 q2 => ?_⟩, by dsimp only; omega⟩
        · simp only [r1, r2, hi', less_eq, hlt, decide_true, decide_false, Bool.not_false, cond_true, Option.bind_some]
          rw [w64 (by omega) (by omega)]
        · by_cases e : q = i
          · rw [e]; exact hlt
          · exact g3 q q1 (by omega)
    · exact ⟨.inr i, by simp only [hi', decide_false, cond_false, Option.bind_some], g1, g2, g3, fun h => absurd h hi'⟩
  · exact ⟨Int.le_refl _, h1, fun q q1 q2 => by omega⟩
  · rintro i ⟨g1, g2, g3, g4⟩
    exact hk i g1 g2 g3 g4

/-- down, while the pivot is less than what is read -/
theorem scanDown2 {β : Type} {k : Int → Option β} {Q : β → Prop} (l : List Int) (a lo j0 : Int) (ha : 0 ≤ a) (ha' : a < l.length) (h0 : 0 ≤ lo) (h1 : lo ≤ j0 + 1) (h2 : j0 < l.length) (hlen : l.length ≤ 1000000)
    (hk : ∀ j, lo ≤ j + 1 → j ≤ j0 → (∀ q, j < q → q ≤ j0 → at' l a < at' l q) → (lo ≤ j → ¬ at' l a < at' l j) → ∃ y, k j = some y ∧ Q y) :
    ∃ y, (loopF (σ := Int) (ρ := (Int)) (fun (x : Int) => (cond (decide (lo ≤ x)) ((idx l a).bind fun e => (idx l x).bind fun e' => (D.cmp_Less_int64 e e').bind fun y => some y) (some false)).bind fun b => cond b (some (.inl (IntKind.i64.wrap (x - 1)))) (some (.inr x))) j0).bind k = some y ∧ Q y := by
  refine loop_then (fun j => lo ≤ j + 1 ∧ j ≤ j0 ∧ ∀ q, j < q → q ≤ j0 → at' l a < at' l q) (fun j => (j + 1 - lo).toNat) (fun j => lo ≤ j + 1 ∧ j ≤ j0 ∧ (∀ q, j < q → q ≤ j0 → at' l a < at' l q) ∧ (lo ≤ j → ¬ at' l a < at' l j)) ?_ ?_ ?_
  · rintro j ⟨g1, g2, g3⟩
    by_cases hi' : lo ≤ j
    · have r1 : idx l j = some (at' l j) := idx_at (by omega) (by omega)
      have r2 : idx l a = some (at' l a) := idx_at (by omega) (by omega)
      by_cases hlt : at' l a < at' l j
      · refine ⟨.inl (j - 1), ?_, ⟨by omega, by omega, fun q q1 q2 => ?_⟩, by dsimp only; omega⟩
        · simp only [r1, r2, hi', less_eq, hlt, decide_true, cond_true, Option.bind_some]
          rw [w64 (by omega) (by omega)]
        · by_cases e : q = j
          · rw [e]; exact hlt
          · exact g3 q (by omega) q2
      · exact ⟨.inr j, by simp only [r1, r2, hi', less_eq, hlt, decide_true, decide_false, cond_true, cond_false, Option.bind_some], g1, g2, g3, fun _ => hlt⟩
    · exact ⟨.inr j, by simp only [hi', decide_false, cond_false, Option.bind_some], g1, g2, g3, fun h => absurd h hi'⟩
  · exact ⟨h1, Int.le_refl _, fun q q1 q2 => by omega⟩
  · rintro j ⟨g1, g2, g3, g4⟩
    exact hk j g1 g2 g3 g4

theorem partitionEqual_spec (l0 : List Int) (a b p : Int) (ha : 0 ≤ a) (hb : b ≤ l0.length) (hlen : l0.length ≤ 1000000) (hp : a ≤ p) (hp' : p < b) :
    ∃ y, D.slices_partitionEqualOrdered_int64 l0 a b p = some y ∧ Rg a b l0 y.2 ∧ a < y.1 ∧ y.1 ≤ b ∧ (∀ k, a ≤ k → k < y.1 → at' y.2 k ≤ at' l0 p) ∧ (∀ k, y.1 ≤ k → k < b → at' l0 p < at' y.2 k) := by
  unfold D.slices_partitionEqualOrdered_int64
  have r1 : idx l0 p = some (at' l0 p) := idx_at (by omega) (by omega)
  have r2 : idx l0 a = some (at' l0 a) := idx_at (by omega) (by omega)
  have r3 : ∀ x, idx (l0.set a.toNat x) p = some (at' (l0.set a.toNat x) p) := fun x => idx_set_at (by omega) (by omega)
  simp only [r1, r2, r3, Option.bind_some]
  rw [show (l0.set a.toNat (at' l0 p)).set p.toNat (at' l0 a) = sw l0 a p from rfl]
  have hR0 : Rg a b l0 (sw l0 a p) := Rg.swap ha hb (by omega) (by omega) hp hp'
  have ep : at' (sw l0 a p) a = at' l0 p := by
    rw [sw_at (by omega) (by omega) (by omega) (by omega) (by omega)]
    by_cases e : a = p
    · rw [if_pos e, e]
    · rw [if_neg e, if_pos rfl]
  generalize sw l0 a p = m0 at hR0 ep ⊢
  rw [w64 (show -9223372036854775808 ≤ b - 1 by omega) (by omega), w64 (show -9223372036854775808 ≤ a + 1 by omega) (by omega)]
  refine loop_then (fun s => Rg a b l0 s.1 ∧ a + 1 ≤ s.2.1 ∧ s.2.1 ≤ s.2.2 + 1 ∧ s.2.2 < b ∧ at' s.1 a = at' l0 p ∧ (∀ q, a + 1 ≤ q → q < s.2.1 → ¬ at' s.1 a < at' s.1 q) ∧ (∀ q, s.2.2 < q → q < b → at' s.1 a < at' s.1 q)) (fun s => (s.2.2 + 1 - s.2.1).toNat)
    (fun s => Rg a b l0 s.1 ∧ a + 1 ≤ s.2 ∧ s.2 ≤ b ∧ at' s.1 a = at' l0 p ∧ (∀ q, a + 1 ≤ q → q < s.2 → ¬ at' s.1 a < at' s.1 q) ∧ (∀ q, s.2 ≤ q → q < b → at' s.1 a < at' s.1 q)) ?_ ?_ ?_
  · rintro ⟨m, u, v⟩ ⟨hR, g1, g2, g3, g6, g4, g5⟩
    dsimp only at hR g1 g2 g3 g4 g5 g6 ⊢
    have hml := hR.len
    refine scanUp2 m a v u ha (by omega) (by omega) (by omega) (by omega) (by omega) (fun i i1 i2 i3 i4 => ?_)
    refine scanDown2 m a i v ha (by omega) (by omega) (by omega) (by omega) (by omega) (fun j j1 j2 j3 j4 => ?_)
    have f1 : ∀ q, a + 1 ≤ q → q < i → ¬ at' m a < at' m q := fun q h1 h2 => by
      by_cases h : q < u
      · exact g4 q h1 h
      · exact i3 q (by omega) h2
    have f2 : ∀ q, j < q → q < b → at' m a < at' m q := fun q h1 h2 => by
      by_cases h : q ≤ v
      · exact j3 q h1 h
      · exact g5 q (by omega) h2
    by_cases hij : j < i
    · exact ⟨.inr (m, i), by simp only [hij, decide_true, cond_true], hR, by dsimp only; omega, by dsimp only; omega, g6, f1, fun q h1 h2 => f2 q (by dsimp only at h1; omega) h2⟩
    · have t1 : idx m i = some (at' m i) := idx_at (by omega) (by omega)
      have t2 : idx m j = some (at' m j) := idx_at (by omega) (by omega)
      have t3 : ∀ x, idx (m.set i.toNat x) j = some (at' (m.set i.toNat x) j) := fun x => idx_set_at (by omega) (by omega)
      have hia := i4 (by omega)
      have hja := j4 (by omega)
      have hne : i < j := by
        rcases Int.lt_or_eq_of_le (show i ≤ j by omega) with h | h
        · exact h
        · subst h; exact absurd hia hja
      have ea : at' (sw m i j) a = at' m a := by rw [sw_at (by omega) (by omega) (by omega) (by omega) (by omega), if_neg (by omega), if_neg (by omega)]
      rw [w64 (show -9223372036854775808 ≤ i + 1 by omega) (by omega), w64 (show -9223372036854775808 ≤ j - 1 by omega) (by omega)]
      refine ⟨.inl (sw m i j, i + 1, j - 1), ?_, ⟨hR.trans (Rg.swap ha (by omega) (by omega) (by omega) (by omega) (by omega)), by dsimp only; omega, by dsimp only; omega, by dsimp only; omega, by dsimp only; rw [ea]; exact g6, fun q h1 h2 => ?_, fun q h1 h2 => ?_⟩, by dsimp only; omega⟩
      · simp only [t1, t2, t3, hij, decide_false, cond_false, Option.bind_some]
        rfl
      · dsimp only at h2 ⊢
        rw [ea, sw_at (by omega) (by omega) (by omega) (by omega) (by omega), if_neg (by omega)]
        by_cases e : q = i
        · rw [if_pos e]; exact hja
        · rw [if_neg e]; exact f1 q h1 (by omega)
      · dsimp only at h1 ⊢
        rw [ea, sw_at (by omega) (by omega) (by omega) (by omega) (by omega)]
        by_cases e : q = j
        · rw [if_pos e]; exact hia
        · rw [if_neg e, if_neg (by omega)]; exact f2 q (by omega) h2
  · exact ⟨hR0, by dsimp only; omega, by dsimp only; omega, by dsimp only; omega, ep, fun q h1 h2 => by dsimp only at h2; omega, fun q h1 h2 => by dsimp only at h1; omega⟩
  · rintro ⟨m, v⟩ ⟨hR, g1, g2, g3, g4, g5⟩
    refine ⟨(v, m), rfl, hR, by dsimp only at *; omega, g2, fun k k1 k2 => ?_, fun k k1 k2 => ?_⟩
    · dsimp only at *
      by_cases e : k = a
      · rw [e, g3]; exact Int.le_refl _
      · have := g4 k (by omega) k2; omega
    · dsimp only at *
      have := g5 k k1 k2; omega

theorem order2_spec (l : List Int) (a b s : Int) (ha : 0 ≤ a) (ha' : a < l.length) (hb : 0 ≤ b) (hb' : b < l.length) :
    ∃ y, D.slices_order2Ordered_int64 l a b s = some y ∧ y.2.2.1 = l ∧ ((y.1 = a ∧ y.2.1 = b) ∨ (y.1 = b ∧ y.2.1 = a)) := by
  have r1 : idx l a = some (at' l a) := idx_at ha ha'
  have r2 : idx l b = some (at' l b) := idx_at hb hb'
  unfold D.slices_order2Ordered_int64
  simp only [r1, r2, less_eq, Option.bind_some]
  by_cases h : at' l b < at' l a
  · simp only [h, decide_true, cond_true]; exact ⟨_, rfl, rfl, .inr ⟨rfl, rfl⟩⟩
  · simp only [h, decide_false, cond_false]; exact ⟨_, rfl, rfl, .inl ⟨rfl, rfl⟩⟩

theorem median_spec (l : List Int) (a b c s : Int) (ha : 0 ≤ a) (ha' : a < l.length) (hb : 0 ≤ b) (hb' : b < l.length) (hc : 0 ≤ c) (hc' : c < l.length) :
    ∃ y, D.slices_medianOrdered_int64 l a b c s = some y ∧ y.2.1 = l ∧ (y.1 = a ∨ y.1 = b ∨ y.1 = c) := by
  unfold D.slices_medianOrdered_int64
  obtain ⟨y1, h1, e1, c1⟩ := order2_spec l a b s ha ha' hb hb'
  rw [h1, Option.bind_some, e1]
  have b1 : 0 ≤ y1.2.1 ∧ y1.2.1 < l.length ∧ 0 ≤ y1.1 ∧ y1.1 < l.length := by rcases c1 with ⟨c, d⟩ | ⟨c, d⟩ <;> rw [c, d] <;> exact ⟨by assumption, by assumption, by assumption, by assumption⟩
  obtain ⟨y2, h2, e2, c2⟩ := order2_spec l y1.2.1 c y1.2.2.2 b1.1 b1.2.1 hc hc'
  rw [h2, Option.bind_some, e2]
  have b2 : 0 ≤ y2.1 ∧ y2.1 < l.length := by rcases c2 with ⟨c, d⟩ | ⟨c, d⟩ <;> rw [c] <;> exact ⟨by omega, by omega⟩
  obtain ⟨y3, h3, e3, c3⟩ := order2_spec l y1.1 y2.1 y2.2.2.2 b1.2.2.1 b1.2.2.2 b2.1 b2.2
  rw [h3, Option.bind_some]
  refine ⟨_, rfl, e3, ?_⟩
  dsimp only
  omega

theorem choosePivot_spec (l : List Int) (a b : Int) (ha : 0 ≤ a) (hb : b ≤ l.length) (h8 : 8 ≤ b - a) (h50 : b - a < 50) (hlen : l.length ≤ 1000000) :
    ∃ y, D.slices_choosePivotOrdered_int64 l a b = some y ∧ y.2.2 = l ∧ a ≤ y.1 ∧ y.1 < b := by
  unfold D.slices_choosePivotOrdered_int64
  rw [w64 (show -9223372036854775808 ≤ b - a by omega) (by omega)]
  have e4 : (b - a).tdiv 4 = (b - a) / 4 := Int.tdiv_eq_ediv_of_nonneg (by omega)
  rw [e4, w64 (show -9223372036854775808 ≤ (b - a) / 4 by omega) (by omega)]
  rw [w64 (show -9223372036854775808 ≤ (b - a) / 4 * 1 by omega) (by omega), w64 (show -9223372036854775808 ≤ (b - a) / 4 * 2 by omega) (by omega), w64 (show -9223372036854775808 ≤ (b - a) / 4 * 3 by omega) (by omega)]
  rw [w64 (show -9223372036854775808 ≤ a + (b - a) / 4 * 1 by omega) (by omega), w64 (show -9223372036854775808 ≤ a + (b - a) / 4 * 2 by omega) (by omega), w64 (show -9223372036854775808 ≤ a + (b - a) / 4 * 3 by omega) (by omega)]
  simp only [h8, show ¬ (50 ≤ b - a) by omega, decide_true, decide_false, cond_true, cond_false, Option.bind_some]
  obtain ⟨y, h1, e1, c1⟩ := median_spec l (a + (b - a) / 4 * 1) (a + (b - a) / 4 * 2) (a + (b - a) / 4 * 3) 0 (by omega) (by omega) (by omega) (by omega) (by omega) (by omega)
  rw [h1, Option.bind_some, e1]
  have hy : a ≤ y.1 ∧ y.1 < b := by omega
  cases (y.2.2 == 0)
  · cases (y.2.2 == 12)
    · exact ⟨_, rfl, rfl, hy⟩
    · exact ⟨_, rfl, rfl, hy⟩
  · exact ⟨_, rfl, rfl, hy⟩

theorem partialInsertion_spec (l : List Int) (a b : Int) (ha : 0 ≤ a) (hab : a < b) (hb : b ≤ l.length) (h50 : b - a < 50) (hlen : l.length ≤ 1000000) :
    ∃ y, D.slices_partialInsertionSortOrdered_int64 l a b = some y ∧ y.2 = l ∧ (y.1 = true → Srt l a b) := by
  unfold D.slices_partialInsertionSortOrdered_int64
  rw [w64 (show -9223372036854775808 ≤ a + 1 by omega) (by omega)]
  refine loop_then (fun s => s = (l, a + 1, 0)) (fun _ => 0) (fun r => ∃ y : Bool × List Int, r = .inr y ∧ y.2 = l ∧ (y.1 = true → Srt l a b)) ?_ rfl ?_
  · rintro s rfl
    dsimp only
    simp only [show ((0 : Int) < 5) from by decide, decide_true, cond_true]
    refine loop_then (fun i => a + 1 ≤ i ∧ i ≤ b ∧ Srt l a i) (fun i => (b - i).toNat) (fun i => a + 1 ≤ i ∧ i ≤ b ∧ Srt l a i) ?_ ?_ ?_
    · rintro i ⟨g1, g2, g3⟩
      by_cases hi : i < b
      · have r1 : idx l i = some (at' l i) := idx_at (by omega) (by omega)
        have r2 : idx l (i - 1) = some (at' l (i - 1)) := idx_at (by omega) (by omega)
        have e1 : IntKind.i64.wrap (i - 1) = i - 1 := w64 (by omega) (by omega)
        by_cases hlt : at' l i < at' l (i - 1)
        · exact ⟨.inr i, by simp only [r1, r2, e1, hi, less_eq, hlt, decide_true, Bool.not_true, cond_true, cond_false, Option.bind_some], g1, g2, g3⟩
        · refine ⟨.inl (i + 1), ?_, ⟨by omega, by omega, fun p q k1 k2 k3 => ?_⟩, by dsimp only; omega⟩
          · simp only [r1, r2, e1, hi, less_eq, hlt, decide_true, decide_false, Bool.not_false, cond_true, Option.bind_some]
            rw [w64 (by omega) (by omega)]
          · by_cases e : q = i
            · subst e
              by_cases e2 : p = q - 1
              · subst e2; omega
              · have := g3 p (q - 1) k1 (by omega) (by omega); omega
            · exact g3 p q k1 k2 (by omega)
      · exact ⟨.inr i, by simp only [hi, decide_false, cond_false, Option.bind_some], g1, g2, g3⟩
    · exact ⟨Int.le_refl _, by omega, fun p q k1 k2 k3 => by omega⟩
    · rintro i ⟨g1, g2, g3⟩
      rw [w64 (show -9223372036854775808 ≤ b - a by omega) (by omega)]
      by_cases he : i = b
      · refine ⟨.inr (.inr (true, l)), ?_, _, rfl, rfl, fun _ => by rw [← he]; exact g3⟩
        have : (i == b) = true := by simp [he]
        simp only [this, cond_true]
      · refine ⟨.inr (.inr (false, l)), ?_, _, rfl, rfl, fun h => by cases h⟩
        have : (i == b) = false := by simp [he]
        simp only [this, h50, decide_true, cond_true, cond_false]
  · rintro r ⟨y, rfl, h1, h2⟩
    exact ⟨y, rfl, h1, h2⟩
end Go.Sx

namespace Go.Sx
theorem iand_small (y m : Int) (h0 : 0 ≤ m) (h1 : m < 4294967296) : 0 ≤ iand .u64 y m ∧ iand .u64 y m ≤ m := by
  unfold iand
  have e : (BitVec.ofInt IntKind.u64.bits y &&& BitVec.ofInt IntKind.u64.bits m).toNat ≤ (BitVec.ofInt IntKind.u64.bits m).toNat := by
    rw [BitVec.toNat_and]; exact Nat.and_le_right
  have e2 : (BitVec.ofInt IntKind.u64.bits m).toNat = m.toNat := by
    rw [BitVec.toNat_ofInt]
    show (m % (2 ^ 64 : Nat)).toNat = m.toNat
    congr 1
    omega
  rw [e2] at e
  generalize (BitVec.ofInt IntKind.u64.bits y &&& BitVec.ofInt IntKind.u64.bits m).toNat = t at e
  have : IntKind.u64.wrap (t : Int) = t := by
    simp only [IntKind.wrap, IntKind.bits, IntKind.signed]
    simp
    omega
  rw [this]
  omega

theorem wu64 {x : Int} (h1 : 0 ≤ x) (h2 : x < 18446744073709551616) : IntKind.u64.wrap x = x := by
  simp only [IntKind.wrap, IntKind.bits, IntKind.signed]
  simp
  omega

theorem pow2_spec (n : Int) (h1 : 8 ≤ n) (h2 : n ≤ 16) : ∃ y, D.slices_nextPowerOfTwo n = some y ∧ n < y ∧ y ≤ 2 * n := by
  unfold D.slices_nextPowerOfTwo
  rw [wu64 (by omega) (by omega)]
  have key : ∀ k : Int, k = 8 ∨ k = 9 ∨ k = 10 ∨ k = 11 ∨ k = 12 ∨ k = 13 ∨ k = 14 ∨ k = 15 ∨ k = 16 → k < ishl .u64 1 (Lib.bitLen k.toNat : Nat) ∧ ishl .u64 1 (Lib.bitLen k.toNat : Nat) ≤ 2 * k := by
    rintro k (rfl | rfl | rfl | rfl | rfl | rfl | rfl | rfl | rfl) <;> decide
  obtain ⟨k1, k2⟩ := key n (by omega)
  refine ⟨_, ?_, k1, k2⟩
  unfold D.math_bits_Len
  rw [if_pos (by omega), Option.bind_some]
  have : decide (((Lib.bitLen n.toNat : Nat) : Int) < 0) = false := by simp
  rw [this]
  rfl

theorem breakPatterns_spec (l0 : List Int) (a b : Int) (ha : 0 ≤ a) (hb : b ≤ l0.length) (h8 : 8 ≤ b - a) (h16 : b - a ≤ 16) (hlen : l0.length ≤ 1000000) :
    ∃ l', D.slices_breakPatternsOrdered_int64 l0 a b = some l' ∧ Rg a b l0 l' := by
  unfold D.slices_breakPatternsOrdered_int64
  rw [w64 (show -9223372036854775808 ≤ b - a by omega) (by omega)]
  have e4 : (b - a).tdiv 4 = (b - a) / 4 := Int.tdiv_eq_ediv_of_nonneg (by omega)
  rw [e4, w64 (show -9223372036854775808 ≤ (b - a) / 4 by omega) (by omega)]
  rw [w64 (show -9223372036854775808 ≤ (b - a) / 4 * 2 by omega) (by omega)]
  rw [w64 (show -9223372036854775808 ≤ a + (b - a) / 4 * 2 by omega) (by omega)]
  rw [w64 (show -9223372036854775808 ≤ a + (b - a) / 4 * 2 + 1 by omega) (by omega), w64 (show -9223372036854775808 ≤ a + (b - a) / 4 * 2 - 1 by omega) (by omega)]
  simp only [h8, decide_true, cond_true]
  obtain ⟨y, hy, g1, g2⟩ := pow2_spec (b - a) h8 h16
  rw [hy, Option.bind_some, wu64 (show 0 ≤ y - 1 by omega) (by omega)]
  refine loop_then (fun s => Rg a b l0 s.1 ∧ a + (b - a) / 4 * 2 - 1 ≤ s.2.1 ∧ s.2.1 ≤ a + (b - a) / 4 * 2 + 2) (fun s => (a + (b - a) / 4 * 2 + 2 - s.2.1).toNat) (fun r => Rg a b l0 r) ?_ ?_ ?_
  · rintro ⟨l, i, z⟩ ⟨hR, k1, k2⟩
    dsimp only at hR k1 k2 ⊢
    have hll := hR.len
    by_cases hi : i ≤ a + (b - a) / 4 * 2 + 1
    · simp only [hi, decide_true, cond_true, D.slices_xorshift_Next, Option.bind_some]
      obtain ⟨t1, t2⟩ := iand_small (ixor .u64 (ixor .u64 (ixor .u64 z (ishl .u64 z 13)) (ishr .u64 (ixor .u64 z (ishl .u64 z 13)) 7)) (ishl .u64 (ixor .u64 (ixor .u64 z (ishl .u64 z 13)) (ishr .u64 (ixor .u64 z (ishl .u64 z 13)) 7)) 17)) (y - 1) (by omega) (by omega)
      revert t1 t2
      generalize iand .u64 (ixor .u64 (ixor .u64 (ixor .u64 z (ishl .u64 z 13)) (ishr .u64 (ixor .u64 z (ishl .u64 z 13)) 7)) (ishl .u64 (ixor .u64 (ixor .u64 z (ishl .u64 z 13)) (ishr .u64 (ixor .u64 z (ishl .u64 z 13)) 7)) 17)) (y - 1) = t
      generalize (ixor .u64 (ixor .u64 (ixor .u64 z (ishl .u64 z 13)) (ishr .u64 (ixor .u64 z (ishl .u64 z 13)) 7)) (ishl .u64 (ixor .u64 (ixor .u64 z (ishl .u64 z 13)) (ishr .u64 (ixor .u64 z (ishl .u64 z 13)) 7)) 17)) = z'
      intro t1 t2
      rw [w64 (show -9223372036854775808 ≤ t by omega) (by omega), w64 (show -9223372036854775808 ≤ t - (b - a) by omega) (by omega)]
      have hc : ∃ o, (bif decide (b - a ≤ t) then some (t - (b - a)) else some t) = some o ∧ 0 ≤ o ∧ o < b - a := by
        by_cases h : b - a ≤ t
        · exact ⟨t - (b - a), by simp [h], by omega, by omega⟩
        · exact ⟨t, by simp [h], by omega, by omega⟩
      obtain ⟨o, ho, o1, o2⟩ := hc
      rw [ho, Option.bind_some, w64 (show -9223372036854775808 ≤ a + o by omega) (by omega), w64 (show -9223372036854775808 ≤ i + 1 by omega) (by omega)]
      have r1 : idx l i = some (at' l i) := idx_at (by omega) (by omega)
      have r2 : idx l (a + o) = some (at' l (a + o)) := idx_at (by omega) (by omega)
      have r3 : ∀ x, idx (l.set i.toNat x) (a + o) = some (at' (l.set i.toNat x) (a + o)) := fun x => idx_set_at (by omega) (by omega)
      refine ⟨.inl (sw l i (a + o), i + 1, z'), ?_, ⟨hR.trans (Rg.swap ha (by omega) (by omega) (by omega) (by omega) (by omega)), by dsimp only; omega, by dsimp only; omega⟩, by dsimp only; omega⟩
      simp only [r1, r2, r3, Option.bind_some]
      rfl
    · exact ⟨.inr l, by simp only [hi, decide_false, cond_false], hR⟩
  · exact ⟨Rg.refl _ _ _, by dsimp only; omega, by dsimp only; omega⟩
  · rintro r hr
    exact ⟨r, rfl, hr⟩
end Go.Sx

namespace Go.Sx
/-- from a0 to b0 all pairs are in order, but for those from a to b -/
def Out (l : List Int) (a0 b0 a b : Int) : Prop := ∀ i j, a0 ≤ i → i < j → j < b0 → ¬ (a ≤ i ∧ j < b) → at' l i ≤ at' l j

theorem Out.keep {a0 a b b0 : Int} {l l' : List Int} (h : Rg a b l l') (h0 : 0 ≤ a0) (ha : a0 ≤ a) (hb : b ≤ b0) (c : Out l a0 b0 a b) : Out l' a0 b0 a b := by
  intro i j h1 h2 h3 h4
  by_cases hi : a ≤ i ∧ i < b
  · rw [h.out j (by omega) (by omega)]
    exact h.all (fun x => x ≤ at' l j) (fun k k1 k2 => c k j (by omega) (by omega) h3 (by omega)) i hi.1 hi.2
  · rw [h.out i (by omega) (by omega)]
    by_cases hj : a ≤ j ∧ j < b
    · exact h.all (fun x => at' l i ≤ x) (fun k k1 k2 => c i k (by omega) (by omega) (by omega) (by omega)) j hj.1 hj.2
    · rw [h.out j (by omega) (by omega)]; exact c i j h1 h2 h3 h4

theorem pdqsort_spec : ∀ (n : Nat) (l0 : List Int) (a0 b0 lim : Int), 0 ≤ a0 → a0 ≤ b0 → b0 ≤ l0.length → l0.length ≤ 1000000 → b0 - a0 ≤ 16 → b0 - a0 ≤ 12 + lim → 0 ≤ lim → lim ≤ 64 →
    (0 < a0 → ∀ k, a0 ≤ k → k < b0 → at' l0 (a0 - 1) ≤ at' l0 k) → b0 - a0 < n → ∃ l', D.slices_pdqsortOrdered_int64R n l0 a0 b0 lim = some l' ∧ Rg a0 b0 l0 l' ∧ Srt l' a0 b0 := by
  intro n
  induction n with
  | zero => intro l0 a0 b0 lim h1 h2 h3 h4 h5 h6 h7 h8 h9 h10; omega
  | succ n ih =>
    intro l0 a0 b0 lim h1 h2 h3 h4 h5 h6 h7 h8 h9 h10
    unfold D.slices_pdqsortOrdered_int64R
    refine loop_then (fun s => Rg a0 b0 l0 s.1 ∧ Out s.1 a0 b0 s.2.1 s.2.2.1 ∧ a0 ≤ s.2.1 ∧ s.2.1 ≤ s.2.2.1 ∧ s.2.2.1 ≤ b0 ∧ s.2.2.1 - s.2.1 ≤ 12 + s.2.2.2.1 ∧ 0 ≤ s.2.2.2.1 ∧ s.2.2.2.1 ≤ 64 ∧ (0 < s.2.1 → ∀ k, s.2.1 ≤ k → k < s.2.2.1 → at' s.1 (s.2.1 - 1) ≤ at' s.1 k))
      (fun s => (s.2.2.1 - s.2.1).toNat) (fun r => Rg a0 b0 l0 r ∧ Srt r a0 b0) ?_ ?_ ?_
    · rintro ⟨l, a, b, lm, bal, par⟩ ⟨hR, hO, g1, g2, g3, g4, g5, g6, g7⟩
      dsimp only at hR hO g1 g2 g3 g4 g5 g6 g7 ⊢
      have hll := hR.len
      have fin : ∀ l', Rg a b l l' → Srt l' a b → Rg a0 b0 l0 l' ∧ Srt l' a0 b0 := fun l' hr hs =>
        ⟨hR.trans (hr.widen g1 g3 h1), fun i j k1 k2 k3 => by
          by_cases hc : a ≤ i ∧ j < b
          · exact hs i j hc.1 k2 hc.2
          · exact (hO.keep hr h1 g1 g3) i j k1 k2 k3 hc⟩
      rw [w64 (show -9223372036854775808 ≤ b - a by omega) (by omega)]
      by_cases hs : b - a ≤ 12
      · obtain ⟨l', e, r1, r2⟩ := insertionSort_spec l a b (by omega) g2 (by omega) (by omega)
        refine ⟨.inr l', ?_, fin l' r1 r2⟩
        simp only [hs, decide_true, cond_true, e, Option.bind_some]
      · have hl0 : (lm == 0) = false := by simp; omega
        simp only [hs, decide_false, cond_false, hl0]
        refine bind_then (fun q : List Int × Int => Rg a b l q.1 ∧ b - a ≤ 13 + q.2 ∧ 0 ≤ q.2 ∧ q.2 ≤ 64) ?_ ?_
        · cases bal
          · obtain ⟨l1, e, r1⟩ := breakPatterns_spec l a b (by omega) (by omega) (by omega) (by omega) (by omega)
            refine ⟨(l1, lm - 1), ?_, r1, by dsimp only; omega, by dsimp only; omega, by dsimp only; omega⟩
            simp only [Bool.not_false, cond_true, e, Option.bind_some]
            rw [w64 (by omega) (by omega)]
          · exact ⟨(l, lm), rfl, Rg.refl _ _ _, by dsimp only; omega, by dsimp only; omega, by dsimp only; omega⟩
        rintro ⟨l1, lm1⟩ ⟨hr1, k1, k2, k3⟩
        dsimp only at hr1 k1 k2 k3 ⊢
        have hl1 := hr1.len
        obtain ⟨y, ey, c1, c2, c3⟩ := choosePivot_spec l1 a b (by omega) (by omega) (by omega) (by omega) (by omega)
        rw [ey, Option.bind_some]
        refine bind_then (fun q : List Int × Int × Int => Rg a b l q.1 ∧ a ≤ q.2.1 ∧ q.2.1 < b) ?_ ?_
        · cases (y.2.1 == 2)
          · exact ⟨_, rfl, by dsimp only; rw [c1]; exact hr1, c2, c3⟩
          · obtain ⟨l2, e2, r2⟩ := reverseRange_spec l1 a b (by omega) (by omega) (by omega) (by omega)
            rw [c1]
            simp only [cond_true, e2, Option.bind_some]
            rw [w64 (show -9223372036854775808 ≤ b - 1 by omega) (by omega), w64 (show -9223372036854775808 ≤ y.1 - a by omega) (by omega), w64 (show -9223372036854775808 ≤ b - 1 - (y.1 - a) by omega) (by omega)]
            exact ⟨_, rfl, hr1.trans r2, by dsimp only; omega, by dsimp only; omega⟩
        rintro ⟨l2, p, hint⟩ ⟨hr2, p1, p2⟩
        dsimp only at hr2 p1 p2 ⊢
        have hl2 := hr2.len
        refine bind_then (fun q : List Int ⊕ List Int => match q with | .inl q => q = l2 | .inr q => q = l2 ∧ Srt l2 a b) ?_ ?_
        · cases ((bal && par) && (hint == 1))
          · exact ⟨.inl l2, rfl, rfl⟩
          · obtain ⟨y2, e2, d1, d2⟩ := partialInsertion_spec l2 a b (by omega) (by omega) (by omega) (by omega) (by omega)
            simp only [cond_true, e2, Option.bind_some, d1]
            cases hy : y2.1
            · exact ⟨.inl l2, rfl, rfl⟩
            · exact ⟨.inr l2, rfl, rfl, d2 hy⟩
        rintro (q | q) hq
        case inr =>
          obtain ⟨rfl, hq⟩ := hq
          exact ⟨.inr q, rfl, fin q hr2 hq⟩
        dsimp only at hq ⊢
        subst hq
        have hO2 := hO.keep hr2 h1 g1 g3
        have g7' : 0 < a → ∀ k, a ≤ k → k < b → at' q (a - 1) ≤ at' q k := fun ha k m1 m2 => by
          rw [hr2.out (a - 1) (by omega) (.inl (by omega))]
          exact hr2.all (fun x => at' l (a - 1) ≤ x) (g7 ha) k m1 m2
        refine bind_then (fun c : Bool => c = true → 0 < a ∧ at' q p ≤ at' q (a - 1)) ?_ ?_
        · by_cases ha : 0 < a
          · have r1 : idx q (a - 1) = some (at' q (a - 1)) := idx_at (by omega) (by omega)
            have r2 : idx q p = some (at' q p) := idx_at (by omega) (by omega)
            rw [w64 (show -9223372036854775808 ≤ a - 1 by omega) (by omega)]
            simp only [ha, decide_true, cond_true, r1, r2, less_eq, Option.bind_some]
            exact ⟨_, rfl, fun h => ⟨by trivial, by simpa using h⟩⟩
          · simp only [ha, decide_false, cond_false]
            exact ⟨_, rfl, fun h => by cases h⟩
        intro c hc
        cases c
        · -- the pivot parts
          simp only [cond_false]
          obtain ⟨⟨mid, par', l3⟩, e3, P⟩ := partition_spec q a b p (by omega) (by omega) (by omega) p1 p2
          rw [e3, Option.bind_some]
          obtain ⟨hr3, m1, m2, m3, m4⟩ := P
          dsimp only at hr3 m1 m2 m3 m4 ⊢
          have hl3 := hr3.len
          have hO3 := hO2.keep hr3 h1 g1 g3
          have g7'' : 0 < a → ∀ k, a ≤ k → k < b → at' l3 (a - 1) ≤ at' l3 k := fun ha k n1 n2 => by
            rw [hr3.out (a - 1) (by omega) (.inl (by omega))]
            exact hr3.all (fun x => at' q (a - 1) ≤ x) (g7' ha) k n1 n2
          have hR3 : Rg a0 b0 l0 l3 := hR.trans ((hr2.trans hr3).widen g1 g3 h1)
          rw [w64 (show -9223372036854775808 ≤ mid - a by omega) (by omega), w64 (show -9223372036854775808 ≤ b - mid by omega) (by omega), w64 (show -9223372036854775808 ≤ mid + 1 by omega) (by omega)]
          by_cases hside : mid - a < b - mid
          · simp only [hside, decide_true, cond_true]
            obtain ⟨l4, e4, r4, s4⟩ := ih l3 a mid lm1 (by omega) m1 (by omega) (by omega) (by omega) (by omega) k2 k3 (fun ha k n1 n2 => g7'' ha k n1 (by omega)) (by omega)
            rw [e4, Option.bind_some]
            have hl4 := r4.len
            have em : ∀ k, mid ≤ k → at' l4 k = at' l3 k := fun k hk => r4.out k (by omega) (.inr hk)
            have lf : ∀ k, a ≤ k → k < mid → at' l4 k ≤ at' l4 mid := fun k n1 n2 => by
              rw [em mid (Int.le_refl _)]; exact r4.all (fun x => x ≤ at' l3 mid) m3 k n1 n2
            refine ⟨.inl _, rfl, ⟨hR3.trans (r4.widen g1 (by omega) h1), ?_, by dsimp only; omega, by dsimp only; omega, g3, by dsimp only; omega, k2, k3, ?_⟩, by dsimp only; omega⟩
            · have hO4 := hO3.keep (r4.widen (Int.le_refl a) (by omega) (by omega)) h1 g1 g3
              intro i j n1 n2 n3 n4
              dsimp only at n4 ⊢
              by_cases hin : a ≤ i ∧ j < b
              · by_cases hj : j < mid
                · exact s4 i j hin.1 n2 hj
                · have hi : i ≤ mid := by omega
                  have e1 : at' l4 i ≤ at' l4 mid := by
                    by_cases e : i = mid
                    · rw [e]; exact Int.le_refl _
                    · exact lf i hin.1 (by omega)
                  have e2 : at' l4 mid ≤ at' l4 j := by
                    by_cases e : j = mid
                    · rw [e]; exact Int.le_refl _
                    · rw [em mid (Int.le_refl _), em j (by omega)]; exact m4 j (by omega) hin.2
                  omega
              · exact hO4 i j n1 n2 n3 hin
            · intro _ k n1 n2
              dsimp only at n1 n2 ⊢
              rw [show mid + 1 - 1 = mid by omega, em mid (Int.le_refl _), em k (by omega)]
              exact m4 k (by omega) n2
          · simp only [hside, decide_false, cond_false]
            obtain ⟨l4, e4, r4, s4⟩ := ih l3 (mid + 1) b lm1 (by omega) (by omega) (by omega) (by omega) (by omega) (by omega) k2 k3 (fun _ k n1 n2 => by rw [show mid + 1 - 1 = mid by omega]; exact m4 k (by omega) n2) (by omega)
            rw [e4, Option.bind_some]
            have hl4 := r4.len
            have em : ∀ k, 0 ≤ k → k ≤ mid → at' l4 k = at' l3 k := fun k h0 hk => r4.out k h0 (.inl (by omega))
            have rt : ∀ k, mid < k → k < b → at' l4 mid ≤ at' l4 k := fun k n1 n2 => by
              rw [em mid (by omega) (Int.le_refl _)]; exact r4.all (fun x => at' l3 mid ≤ x) (fun k q1 q2 => m4 k (by omega) q2) k (by omega) n2
            refine ⟨.inl _, rfl, ⟨hR3.trans (r4.widen (by omega) g3 h1), ?_, g1, m1, by dsimp only; omega, by dsimp only; omega, k2, k3, ?_⟩, by dsimp only; omega⟩
            · have hO4 := hO3.keep (r4.widen (by omega) (Int.le_refl b) (by omega)) h1 g1 g3
              intro i j n1 n2 n3 n4
              dsimp only at n4 ⊢
              by_cases hin : a ≤ i ∧ j < b
              · by_cases hi : mid < i
                · exact s4 i j (by omega) n2 hin.2
                · have hj : mid ≤ j := by omega
                  have e1 : at' l4 i ≤ at' l4 mid := by
                    by_cases e : i = mid
                    · rw [e]; exact Int.le_refl _
                    · rw [em i (by omega) (by omega), em mid (by omega) (Int.le_refl _)]; exact m3 i hin.1 (by omega)
                  have e2 : at' l4 mid ≤ at' l4 j := by
                    by_cases e : j = mid
                    · rw [e]; exact Int.le_refl _
                    · exact rt j (by omega) hin.2
                  omega
              · exact hO4 i j n1 n2 n3 hin
            · intro ha k n1 n2
              dsimp only at ha n1 n2 ⊢
              rw [em (a - 1) (by omega) (by omega), em k (by omega) (by omega)]
              exact g7'' ha k n1 (by omega)
        · -- many are equal to the pivot
          simp only [cond_true]
          obtain ⟨hc1, hc2⟩ := hc rfl
          obtain ⟨⟨mid, l3⟩, e3, hr3, m1, m2, m3, m4⟩ := partitionEqual_spec q a b p (by omega) (by omega) (by omega) p1 p2
          rw [e3, Option.bind_some]
          dsimp only at hr3 m1 m2 m3 m4 ⊢
          have hl3 := hr3.len
          have hO3 := hO2.keep hr3 h1 g1 g3
          have lw : ∀ k, a ≤ k → k < b → at' q p ≤ at' l3 k := fun k n1 n2 =>
            hr3.all (fun x => at' q p ≤ x) (fun k q1 q2 => Int.le_trans hc2 (g7' hc1 k q1 q2)) k n1 n2
          refine ⟨.inl _, rfl, ⟨hR.trans ((hr2.trans hr3).widen g1 g3 h1), ?_, by dsimp only; omega, m2, g3, by dsimp only; omega, k2, k3, ?_⟩, by dsimp only; omega⟩
          · intro i j n1 n2 n3 n4
            dsimp only at n4 ⊢
            by_cases hin : a ≤ i ∧ j < b
            · have := m3 i hin.1 (by omega)
              have := lw j (by omega) hin.2
              omega
            · exact hO3 i j n1 n2 n3 hin
          · intro _ k n1 n2
            dsimp only at n1 n2 ⊢
            have := m3 (mid - 1) (by omega) (by omega)
            have := m4 k n1 n2
            omega
    · exact ⟨Rg.refl _ _ _, fun i j n1 n2 n3 n4 => by dsimp only at n4; omega, Int.le_refl _, h2, Int.le_refl _, h6, h7, h8, h9⟩
    · rintro r hr
      exact ⟨r, rfl, hr⟩
end Go.Sx

namespace Go.Sx
/-- slices.Sorted(slices.Values(l)), of a list that is not long -/
theorem sorted_spec (l : List Int) (hl : l.length ≤ 16) : ∃ y, D.slices_Sorted_int64 l = some y ∧ List.Perm y l ∧ Srt y 0 y.length := by
  unfold D.slices_Sorted_int64 D.slices_Collect_int64 D.slices_AppendSeq_int64_int64 D.slices_Sort_int64_int64 D.slices_pdqsortOrdered_int64 D.math_bits_Len
  rw [if_pos (show l.length ≤ 1000000 by omega)]
  simp only [Option.bind_some]
  rw [wu64 (by omega) (by omega), if_pos (by omega)]
  simp only [Option.bind_some]
  have hk : ∀ k : Nat, k ≤ 16 → k ≤ 12 + Lib.bitLen k ∧ Lib.bitLen k ≤ 64 := by decide
  obtain ⟨k1, k2⟩ := hk l.length hl
  have e : ((l.length : Int)).toNat = l.length := by omega
  have hb := recFuel_big
  obtain ⟨y, hy, hr, hs⟩ := pdqsort_spec recFuel l 0 l.length (Lib.bitLen l.length : Nat) (by omega) (by omega) (by omega) (by omega) (by omega) (by omega) (by omega) (by omega) (fun h => absurd h (by omega)) (by omega)
  rw [e, hy]
  refine ⟨y, rfl, hr.perm, ?_⟩
  rw [hr.len]; exact hs
end Go.Sx



/- The program's and the reference's first helpers in closed form: sets, graphs, orders. Plain. -/
namespace Go.Sx
/-- short enough for every loop -/
def Sh {α : Type} (xs : List α) : Prop := xs.length ≤ 4294967296

theorem l1In_eq (a b c : Int) : D.spec_l1In a b c = some (decide (b ≤ a) && decide (a ≤ c)) := rfl
theorem inRange_eq (a b c : Int) : D.impl_inRange a b c = some (decide (b ≤ a) && decide (a ≤ c)) := rfl

theorem any_beq (xs : List Int) (n : Int) : xs.any (fun x => x == n) = decide (n ∈ xs) := by
  rw [Bool.eq_iff_iff, List.any_eq_true]; simp
theorem l1Has_eq (xs : List Int) (n : Int) (h : Sh xs) : D.spec_l1Has xs n = some (decide (n ∈ xs)) := by
  unfold Sh at h
  unfold D.spec_l1Has
  refine (loop_anyb xs.length (fun i => xs.getD i 0 == n) true (fun i hi => ?_) ?_ rfl rfl).trans ?_
  · simp only [dlt hi, cond_true, idx_nat hi, Option.bind_some, wi' hi (by omega), getD_lt hi]
    cases xs[i] == n <;> rfl
  · simp only [dnlt, cond_false]
  · rw [range_any_list xs (fun x => x == n) _ (fun i hi => by rw [getD_lt hi]), any_beq]
theorem contains_eq (xs : List Int) (n : Int) (h : Sh xs) : D.slices_Contains_int64_int64 xs n = some (decide (n ∈ xs)) := by
  unfold Sh at h
  unfold D.slices_Contains_int64_int64 D.slices_Index_int64_int64
  have e : loopF (σ := Int) (ρ := (Unit) ⊕ (Int)) (fun (x_26 : Int) => cond (decide (x_26 < (xs.length : Int))) ((idx xs x_26).bind fun e_39 => cond (n == e_39) (some (.inr (.inr x_26))) (some (.inl (IntKind.i64.wrap (x_26 + 1))))) (some (.inr (.inl ())))) 0 =
      some (((List.range xs.length).findSome? (fun i => if xs.getD i 0 == n then some (Sum.inr (i : Int)) else none)).getD (.inl ())) := by
    refine loop_find xs.length _ _ (fun i hi => ?_) ?_
    · simp only [dlt hi, cond_true, idx_nat hi, Option.bind_some, wi' hi (by omega), getD_lt hi]
      rw [show (n == xs[i]) = (xs[i] == n) from Bool.beq_comm ..]
      cases xs[i] == n <;> rfl
    · simp only [dnlt, cond_false]
  rw [e, Option.bind_some]
  cases hf : (List.range xs.length).findSome? (fun i => if xs.getD i 0 == n then some (Sum.inr (i : Int) : Unit ⊕ Int) else none) with
  | none =>
    have : n ∉ xs := fun hm => by
      obtain ⟨i, hi, e⟩ := List.getElem_of_mem hm
      have := (List.findSome?_eq_none_iff.1 hf) i (List.mem_range.2 hi)
      rw [getD_lt hi, e] at this
      simp at this
    simp [this]
  | some r =>
    obtain ⟨i, hi, hr⟩ := List.exists_of_findSome?_eq_some hf
    have hi' := List.mem_range.1 hi
    rw [getD_lt hi'] at hr
    split at hr
    · rename_i hc
      cases hr
      have : n ∈ xs := by rw [← (beq_iff_eq.1 hc)]; exact List.getElem_mem _
      simp [this]
    · cases hr

/-- a set of numbers below n, as a list -/
def SetOf (xs : List Int) (n : Int) : Prop := Inc xs ∧ ∀ x ∈ xs, 0 ≤ x ∧ x < n
theorem SetOf.len : ∀ {xs : List Int} {n a : Int}, Inc xs → (∀ x ∈ xs, a ≤ x ∧ x < n) → xs = [] ∨ (xs.length : Int) ≤ n - a
  | [], _, _, _, _ => .inl rfl
  | x :: xs, n, a, h, hr => by
    right
    have h' := List.pairwise_cons.1 h
    have hx := hr x (by simp)
    rcases SetOf.len (a := x + 1) (n := n) h'.2 (fun y hy => ⟨by have := h'.1 y hy; omega, (hr y (by simp [hy])).2⟩) with e | e
    · subst e; simp; omega
    · simp; omega
theorem SetOf.length_le {xs : List Int} {n : Int} (h : SetOf xs n) (hn : 0 ≤ n) : (xs.length : Int) ≤ n := by
  rcases SetOf.len h.1 h.2 with e | e
  · subst e; simpa using hn
  · omega

theorem inc_iff (xs : List Int) : Inc xs ↔ ∀ i (hi : i + 1 < xs.length), xs[i] < xs[i + 1] := by
  unfold Inc
  constructor
  · intro h i hi
    exact List.pairwise_iff_getElem.1 h i (i + 1) (by omega) hi (by omega)
  · intro h
    rw [List.pairwise_iff_getElem]
    intro i j hi hj hij
    have key : ∀ k, ∀ hk : i + k + 1 < xs.length, xs[i] < xs[i + k + 1] := by
      intro k
      induction k with
      | zero => intro hk; exact h i hk
      | succ k ih => intro hk; have := ih (by omega); have := h (i + k + 1) hk; exact Int.lt_trans (ih (by omega)) this
    obtain ⟨k, rfl⟩ : ∃ k, j = i + k + 1 := ⟨j - i - 1, by omega⟩
    exact key k hj

def setB (xs : List Int) (n : Int) : Bool := (List.range xs.length).all fun i => (decide (0 ≤ xs.getD i 0) && decide (xs.getD i 0 ≤ n - 1)) && !(decide (0 < i) && decide (xs.getD i 0 ≤ xs.getD (i - 1) 0))
theorem setB_iff (xs : List Int) (n : Int) : setB xs n = true ↔ SetOf xs n := by
  unfold setB SetOf
  rw [all_forall, inc_iff]
  constructor
  · intro h
    refine ⟨fun i hi => ?_, fun x hx => ?_⟩
    · have := h (i + 1) hi
      simp [hi, show i < xs.length by omega] at this
      omega
    · obtain ⟨i, hi, rfl⟩ := List.getElem_of_mem hx
      have := h i hi
      simp [hi] at this
      omega
  · rintro ⟨h1, h2⟩ i hi
    have h3 := h2 _ (List.getElem_mem hi)
    simp [hi]
    refine ⟨by omega, ?_⟩
    rcases Nat.eq_zero_or_pos i with h0 | h0
    · exact .inl h0
    · right
      have := h1 (i - 1) (by omega)
      have e : i - 1 + 1 = i := by omega
      simp only [e] at this
      have e2 : xs[i - 1]?.getD 0 = xs[i - 1] := by rw [List.getElem?_eq_getElem (by omega)]; rfl
      rw [e2]; exact this

theorem increasing_eq (xs : List Int) (n : Int) (h : Sh xs) (h0 : 0 ≤ n) (hn : n ≤ 4294967296) : D.impl_increasing xs n = some (setB xs n) := by
  unfold Sh at h
  unfold D.impl_increasing
  refine loop_allb xs.length _ false (fun i hi => ?_) ?_ rfl rfl
  · simp only [dlt hi, cond_true, idx_nat hi, Option.bind_some, wi' hi (by omega), getD_lt hi, inRange_eq]
    rw [w64 (x := n - 1) (by omega) (by omega)]
    cases (decide (0 ≤ xs[i]) && decide (xs[i] ≤ n - 1))
    · simp
    · by_cases h0 : 0 < i
      · have e1 : IntKind.i64.wrap ((i : Int) - 1) = ((i - 1 : Nat) : Int) := by rw [w64 (by omega) (by omega)]; omega
        have hd : decide ((0 : Int) < (i : Int)) = true := by simp; omega
        simp only [Bool.not_true, cond_false, hd, cond_true, e1, idx_nat (show i - 1 < xs.length by omega), Option.bind_some, getD_lt (show i - 1 < xs.length by omega), h0, decide_true, Bool.true_and]
        cases decide (xs[i] ≤ xs[i - 1]) <;> rfl
      · have hd : decide ((0 : Int) < (i : Int)) = false := by simp; omega
        simp only [Bool.not_true, cond_false, hd, Option.bind_some, h0, decide_false, Bool.false_and, Bool.not_false, Bool.and_true, if_true]
  · simp only [dnlt, cond_false]

theorem l1Set_eq (xs : List Int) (n : Int) (h : Sh xs) (h0 : 0 ≤ n) (hn : n ≤ 4294967296) : D.spec_l1Set xs n = some (setB xs n) := by
  have hh := h
  unfold Sh at h
  unfold D.spec_l1Set
  by_cases hl : n < xs.length
  · have : setB xs n = false := by
      cases hb : setB xs n
      · rfl
      · have := ((setB_iff xs n).1 hb).length_le h0; omega
    simp [hl, this]
  · simp only [hl, decide_false, cond_false]
    refine loop_allb xs.length _ false (fun i hi => ?_) ?_ rfl rfl
    · simp only [dlt hi, cond_true, idx_nat hi, Option.bind_some, wi' hi (by omega), getD_lt hi, l1In_eq]
      rw [w64 (x := n - 1) (by omega) (by omega)]
      cases (decide (0 ≤ xs[i]) && decide (xs[i] ≤ n - 1))
      · simp
      · by_cases h0 : 0 < i
        · have e1 : IntKind.i64.wrap ((i : Int) - 1) = ((i - 1 : Nat) : Int) := by rw [w64 (by omega) (by omega)]; omega
          have hd : decide ((0 : Int) < (i : Int)) = true := by simp; omega
          simp only [Bool.not_true, cond_false, hd, cond_true, e1, idx_nat (show i - 1 < xs.length by omega), Option.bind_some, getD_lt (show i - 1 < xs.length by omega), h0, decide_true, Bool.true_and]
          cases decide (xs[i] ≤ xs[i - 1]) <;> rfl
        · have hd : decide ((0 : Int) < (i : Int)) = false := by simp; omega
          simp only [Bool.not_true, cond_false, hd, Option.bind_some, h0, decide_false, Bool.false_and, Bool.not_false, Bool.and_true, if_true]
    · simp only [dnlt, cond_false]

/-- row v of a graph -/
def row (g : List (List Int)) (v : Nat) : List Int := g.getD v []
theorem row_eq {g : List (List Int)} {v : Nat} (h : v < g.length) : row g v = g[v] := getD_lt h _
def adj (g : List (List Int)) (u v : Nat) : Prop := (v : Int) ∈ row g u

/-- a valid graph -/
structure GOk (g : List (List Int)) : Prop where
  n1 : 1 ≤ g.length
  n16 : g.length ≤ 16
  rows : ∀ v, v < g.length → SetOf (row g v) g.length
  irr : ∀ v, v < g.length → ¬ adj g v v
  sym : ∀ u v, u < g.length → adj g u v → adj g v u

theorem GOk.mem {g : List (List Int)} (h : GOk g) {u : Nat} (hu : u < g.length) {x : Int} (hx : x ∈ row g u) : ∃ v : Nat, x = v ∧ v < g.length ∧ adj g u v := by
  have := (h.rows u hu).2 x hx
  refine ⟨x.toNat, by omega, by omega, ?_⟩
  unfold adj
  rw [show ((x.toNat : Nat) : Int) = x by omega]; exact hx
theorem GOk.row_len {g : List (List Int)} (h : GOk g) {u : Nat} (hu : u < g.length) : (row g u).length ≤ 16 := by
  have := (h.rows u hu).length_le (by omega)
  have := h.n16
  omega
theorem GOk.lt {g : List (List Int)} (h : GOk g) {u v : Nat} (hu : u < g.length) (ha : adj g u v) : v < g.length := by
  obtain ⟨w, h1, h2, _⟩ := h.mem hu ha
  omega

/-- short in both ways -/
def Sh2 (g : List (List Int)) : Prop := Sh g ∧ ∀ r ∈ g, Sh r
theorem Sh2.row {g : List (List Int)} (h : Sh2 g) {v : Nat} (hv : v < g.length) : Sh (row g v) := by
  rw [row_eq hv]; exact h.2 _ (List.getElem_mem hv)
theorem idx_row {g : List (List Int)} {v : Nat} (h : v < g.length) : idx g (v : Int) = some (row g v) := by rw [row_eq h, idx_nat h]

def gB1 (g : List (List Int)) : Bool := (List.range g.length).all fun v => setB (row g v) g.length && !decide ((v : Int) ∈ row g v)
def gB2 (g : List (List Int)) : Bool := (List.range g.length).all fun v => (row g v).all fun x => decide ((v : Int) ∈ row g x.toNat)
def gB (g : List (List Int)) : Bool := decide (1 ≤ g.length) && decide (g.length ≤ 16) && gB1 g && gB2 g
theorem gB_iff (g : List (List Int)) : gB g = true ↔ GOk g := by
  unfold gB gB1 gB2
  simp only [Bool.and_eq_true, decide_eq_true_eq, setB_iff, Bool.not_eq_true', decide_eq_false_iff_not, List.all_eq_true, List.mem_range]
  constructor
  · rintro ⟨⟨⟨h1, h2⟩, h3⟩, h4⟩
    refine ⟨h1, h2, fun v hv => (h3 v hv).1, fun v hv => (h3 v hv).2, fun u v hu ha => ?_⟩
    have := h4 u hu v ha
    unfold adj
    simpa using this
  · intro h
    refine ⟨⟨⟨h.n1, h.n16⟩, fun v hv => ⟨h.rows v hv, h.irr v hv⟩⟩, fun v hv x hx => ?_⟩
    obtain ⟨u, rfl, hu, ha⟩ := h.mem hv hx
    have := h.sym v u hv ha
    simpa [adj] using this

theorem spec_GraphOk_eq (g : List (List Int)) (h : Sh2 g) : D.spec_GraphOk g = some (gB g) := by
  have hl : g.length ≤ 4294967296 := h.1
  unfold D.spec_GraphOk D.spec_l1Size
  simp only [Option.bind_some, l1In_eq]
  by_cases hn : 1 ≤ g.length ∧ g.length ≤ 16
  · have e : (decide ((1 : Int) ≤ (g.length : Int)) && decide ((g.length : Int) ≤ 16)) = true := by simp; omega
    simp only [e, Bool.not_true, cond_false]
    refine (loop_ck g.length (fun v => setB (row g v) g.length && !decide ((v : Int) ∈ row g v)) (.inl ()) (.inr false) (fun v hv => ?_) ?_).trans ?_
    rotate_left
    · simp only [dnlt, cond_false]
    · show cond (gB1 g) _ _ = _
      have e4 : gB g = (gB1 g && gB2 g) := by unfold gB; simp [hn.1, hn.2]
      rw [e4]
      cases hc : gB1 g with
      | false => rfl
      | true =>
        rw [cond_true, Bool.true_and]
        refine loop_allb g.length _ false (fun v hv => ?_) ?_ rfl rfl
        · have hset : SetOf (row g v) g.length := by
            have := (all_forall _ _).1 hc v hv
            simp only [Bool.and_eq_true] at this
            exact (setB_iff _ _).1 this.1
          simp only [dlt hv, cond_true]
          refine (loop_ck (row g v).length (fun i => decide ((v : Int) ∈ row g ((row g v).getD i 0).toNat)) (.inl ()) (.inr false) (fun i hi => ?_) ?_).trans ?_
          · have hx := hset.2 _ (List.getElem_mem hi)
            have e5 : idx g (row g v)[i] = some (row g ((row g v)[i]).toNat) := by
              have := idx_row (g := g) (v := ((row g v)[i]).toNat) (by omega)
              rwa [show ((((row g v)[i]).toNat : Nat) : Int) = (row g v)[i] by omega] at this
            have hs := h.row (v := ((row g v)[i]).toNat) (by omega)
            simp only [idx_row hv, Option.bind_some, dlt hi, cond_true, idx_nat hi, e5, l1Has_eq _ _ hs, wi (show i < 4611686018427387904 by have := h.row hv; unfold Sh at this; omega), getD_lt hi]
            cases decide ((v : Int) ∈ row g ((row g v)[i]).toNat) <;> rfl
          · simp only [idx_row hv, Option.bind_some, dnlt, cond_false]
          · rw [range_all_list (row g v) (fun x => decide ((v : Int) ∈ row g x.toNat)) _ (fun i hi => by rw [getD_lt hi]), wi' hv (by omega)]
            cases (row g v).all fun x => decide ((v : Int) ∈ row g x.toNat) <;> rfl
        · simp only [dnlt, cond_false]
    · simp only [dlt hv, cond_true, idx_row hv, Option.bind_some, l1Set_eq _ _ (h.row hv) (show (0 : Int) ≤ (g.length : Int) by omega) (by omega), l1Has_eq _ _ (h.row hv), wi' hv (by omega)]
      cases setB (row g v) g.length
      · rfl
      · cases decide ((v : Int) ∈ row g v) <;> rfl
  · have e : (decide ((1 : Int) ≤ (g.length : Int)) && decide ((g.length : Int) ≤ 16)) = false := by
      rw [Bool.eq_false_iff]; simp; omega
    simp only [e, Bool.not_false, cond_true]
    unfold gB
    congr 1
    symm
    rw [Bool.eq_false_iff]
    simp
    omega

theorem impl_GraphOk_eq (g : List (List Int)) (h : Sh2 g) : D.impl_GraphOk g = some (gB g) := by
  have hl : g.length ≤ 4294967296 := h.1
  unfold D.impl_GraphOk
  by_cases hn : 1 ≤ g.length ∧ g.length ≤ 16
  · have e : (decide ((g.length : Int) < (1 : Int)) || decide ((16 : Int) < (g.length : Int))) = false := by simp; omega
    simp only [e, cond_false]
    refine (loop_ck g.length (fun v => setB (row g v) g.length && !decide ((v : Int) ∈ row g v)) (.inl ()) (.inr false) (fun v hv => ?_) ?_).trans ?_
    rotate_left
    · simp only [dnlt, cond_false]
    · show cond (gB1 g) _ _ = _
      have e4 : gB g = (gB1 g && gB2 g) := by unfold gB; simp [hn.1, hn.2]
      rw [e4]
      cases hc : gB1 g with
      | false => rfl
      | true =>
        rw [cond_true, Bool.true_and]
        refine loop_allb g.length _ false (fun v hv => ?_) ?_ rfl rfl
        · have hset : SetOf (row g v) g.length := by
            have := (all_forall _ _).1 hc v hv
            simp only [Bool.and_eq_true] at this
            exact (setB_iff _ _).1 this.1
          simp only [dlt hv, cond_true, idx_row hv, Option.bind_some]
          refine (loop_ck (row g v).length (fun i => decide ((v : Int) ∈ row g ((row g v).getD i 0).toNat)) (.inl ()) (.inr false) (fun i hi => ?_) ?_).trans ?_
          · have hx := hset.2 _ (List.getElem_mem hi)
            have e5 : idx g (row g v)[i] = some (row g ((row g v)[i]).toNat) := by
              have := idx_row (g := g) (v := ((row g v)[i]).toNat) (by omega)
              rwa [show ((((row g v)[i]).toNat : Nat) : Int) = (row g v)[i] by omega] at this
            have hs := h.row (v := ((row g v)[i]).toNat) (by omega)
            simp only [Option.bind_some, dlt hi, cond_true, idx_nat hi, e5, contains_eq _ _ hs, wi (show i < 4611686018427387904 by have := h.row hv; unfold Sh at this; omega), getD_lt hi]
            cases decide ((v : Int) ∈ row g ((row g v)[i]).toNat) <;> rfl
          · simp only [dnlt, cond_false]
          · rw [range_all_list (row g v) (fun x => decide ((v : Int) ∈ row g x.toNat)) _ (fun i hi => by rw [getD_lt hi]), wi' hv (by omega)]
            cases (row g v).all fun x => decide ((v : Int) ∈ row g x.toNat) <;> rfl
        · simp only [dnlt, cond_false]
    · simp only [dlt hv, cond_true, idx_row hv, Option.bind_some, increasing_eq _ _ (h.row hv) (show (0 : Int) ≤ (g.length : Int) by omega) (by omega), contains_eq _ _ (h.row hv), wi' hv (by omega)]
      cases setB (row g v) g.length
      · rfl
      · cases decide ((v : Int) ∈ row g v) <;> rfl
  · have e : (decide ((g.length : Int) < (1 : Int)) || decide ((16 : Int) < (g.length : Int))) = true := by
      simp; omega
    simp only [e, cond_true]
    unfold gB
    congr 1
    symm
    rw [Bool.eq_false_iff]
    simp
    omega
end Go.Sx

/- Orders; the program's sets as bit masks; the reference's rising lists. Plain. -/
namespace Go.Sx
/-- an order of a graph -/
structure OOk (g : List (List Int)) (o : List Int) : Prop where
  len : o.length = g.length
  rng : ∀ x ∈ o, 0 ≤ x ∧ x < g.length
  nd : o.Nodup

def oB (g : List (List Int)) (o : List Int) : Bool := (List.range o.length).all fun i => (decide (0 ≤ o.getD i 0) && decide (o.getD i 0 ≤ (g.length : Int) - 1)) && !decide (o.getD i 0 ∈ o.take i)
theorem mem_take_iff {α : Type} {l : List α} {i : Nat} {x : α} : x ∈ l.take i ↔ ∃ j, ∃ h : j < l.length, j < i ∧ l[j] = x := by
  rw [List.mem_take_iff_getElem]
  constructor
  · rintro ⟨j, h, e⟩; exact ⟨j, by omega, by omega, e⟩
  · rintro ⟨j, h, h2, e⟩; exact ⟨j, by omega, e⟩
theorem nodup_iff {l : List Int} : l.Nodup ↔ ∀ i (hi : i < l.length), l[i] ∉ l.take i := by
  constructor
  · intro h i hi hm
    obtain ⟨j, hj, hji, e⟩ := mem_take_iff.1 hm
    have := (List.pairwise_iff_getElem.1 h) j i hj hi hji
    exact this e
  · intro h
    refine List.pairwise_iff_getElem.2 (fun i j hi hj hij e => h j hj (mem_take_iff.2 ⟨i, hi, hij, e⟩))
theorem oB_iff (g : List (List Int)) (o : List Int) (hl : o.length = g.length) : oB g o = true ↔ OOk g o := by
  unfold oB
  rw [all_forall]
  constructor
  · intro h
    refine ⟨hl, fun x hx => ?_, nodup_iff.2 fun i hi => ?_⟩
    · obtain ⟨i, hi, rfl⟩ := List.getElem_of_mem hx
      have := h i hi
      rw [getD_lt hi] at this
      simp at this; omega
    · have := h i hi
      rw [getD_lt hi] at this
      simp at this; exact this.2
  · intro h i hi
    have h1 := h.rng _ (List.getElem_mem hi)
    have h2 := nodup_iff.1 h.nd i hi
    rw [getD_lt hi]
    simp [h2]; omega

def ordB (g : List (List Int)) (o : List Int) : Bool := decide (o.length = g.length) && oB g o
theorem ordB_iff (g : List (List Int)) (o : List Int) : ordB g o = true ↔ OOk g o := by
  unfold ordB
  by_cases hl : o.length = g.length
  · simp [hl, oB_iff g o hl]
  · simp [hl]; intro h; exact hl h.len

theorem spec_OrderOk_eq (g : List (List Int)) (o : List Int) (h : Sh2 g) (ho : Sh o) : D.spec_OrderOk g o = some (gB g && ordB g o) := by
  have hl : g.length ≤ 4294967296 := h.1
  have hol : o.length ≤ 4294967296 := ho
  unfold D.spec_OrderOk
  rw [spec_GraphOk_eq g h, Option.bind_some]
  cases hg : gB g
  · rfl
  · have hg' := (gB_iff g).1 hg
    simp only [cond_true]
    unfold D.spec_l1Order D.spec_l1Size ordB
    simp only [Option.bind_some]
    by_cases hl : o.length = g.length
    · have e : ((o.length : Int) != (g.length : Int)) = false := by simp [hl]
      simp only [e, cond_false]
      simp only [Option.bind_fun_some, hl, decide_true, Bool.true_and]
      unfold oB
      rw [← hl]
      refine loop_allb o.length _ false (fun i hi => ?_) ?_ rfl rfl
      · have hsh : Sh (o.take i) := by unfold Sh; rw [List.length_take]; omega
        simp only [dlt hi, cond_true, idx_nat hi, Option.bind_some, wi' hi (by omega), getD_lt hi, ← hl, D.spec_l1There, D.spec_l1Size, l1In_eq, sliceD_pre (show i ≤ o.length by omega), l1Has_eq _ _ hsh]
        rw [w64 (x := (o.length : Int) - 1) (by omega) (by omega)]
        cases (decide (0 ≤ o[i]) && decide (o[i] ≤ (o.length : Int) - 1))
        · rfl
        · cases decide (o[i] ∈ o.take i) <;> rfl
      · simp only [dnlt, cond_false]
    · have e : ((o.length : Int) != (g.length : Int)) = true := by simp; omega
      simp [e, hl]

theorem sorted_inc {y : List Int} (hs : Srt y 0 y.length) (hn : y.Nodup) : Inc y := by
  unfold Inc
  rw [List.pairwise_iff_getElem]
  intro i j hi hj hij
  have h1 := hs i j (by omega) (by omega) (by omega)
  have h2 := (List.pairwise_iff_getElem.1 hn) i j hi hj hij
  simp [at', hi, hj] at h1
  have : y[i] ≠ y[j] := h2
  omega
theorem impl_OrderOk_eq (g : List (List Int)) (o : List Int) (h : Sh2 g) (ho : Sh o) : D.impl_OrderOk g o = some (gB g && ordB g o) := by
  unfold D.impl_OrderOk
  rw [impl_GraphOk_eq g h, Option.bind_some]
  cases hg : gB g
  · rfl
  · have hg' := (gB_iff g).1 hg
    by_cases hl : o.length = g.length
    · have e : ((o.length : Int) != (g.length : Int)) = false := by simp [hl]
      have h16 := hg'.n16
      obtain ⟨y, h1, h2, h3⟩ := sorted_spec o (by omega)
      have hyl := h2.length_eq
      simp only [Bool.not_true, e, Bool.or_false, cond_false, h1, Option.bind_some, Bool.true_and]
      rw [increasing_eq y _ (by unfold Sh; omega) (by omega) (by omega), Option.bind_some]
      congr 1
      unfold ordB
      simp only [hl, decide_true, Bool.true_and]
      rw [Bool.eq_iff_iff, setB_iff, oB_iff g o hl]
      constructor
      · rintro ⟨k1, k2⟩
        refine ⟨hl, fun x hx => k2 x (h2.mem_iff.2 hx), h2.nodup_iff.1 ?_⟩
        exact List.Pairwise.imp (fun h e => by omega) k1
      · intro k
        exact ⟨sorted_inc h3 (h2.nodup_iff.2 k.nd), fun x hx => k.rng x (h2.mem_iff.1 hx)⟩
    · have e : ((o.length : Int) != (g.length : Int)) = true := by simp; omega
      simp [e, ordB, hl]

/-! ### masks -/
theorem impl_one_eq (v : Nat) : D.impl_one (v : Int) = some (ishl .u32 1 (v : Int)) := by
  unfold D.impl_one
  have : decide ((v : Int) < 0) = false := by simp
  rw [this]; rfl
theorem impl_one_eq' {x : Int} (h : 0 ≤ x) : D.impl_one x = some (ishl .u32 1 x) := by
  have := impl_one_eq x.toNat
  rwa [show ((x.toNat : Nat) : Int) = x by omega] at this
def mk (xs : List Int) : Int := xs.foldl (fun s v => ior .u32 s (ishl .u32 1 v)) 0
theorem maskOf_eq (xs : List Int) (h : Sh xs) (h0 : ∀ x ∈ xs, 0 ≤ x) : D.impl_maskOf xs = some (mk xs) := by
  unfold Sh at h
  unfold D.impl_maskOf
  refine (loop_listb xs (fun s i => (s, i)) (fun s v => ior .u32 s (ishl .u32 1 v)) (fun s => s) (fun _ => True) 0 trivial (fun s i hi _ => ⟨?_, trivial⟩) (fun s _ => ?_)).trans rfl
  · simp only [dlt hi, cond_true, idx_nat hi, Option.bind_some, wi' hi (by omega), impl_one_eq' (h0 _ (List.getElem_mem hi))]
  · simp only [dnlt, cond_false]
theorem VS_foldl_ior : ∀ (xs : List Int) (s : Int), VS s → VS (xs.foldl (fun s v => ior .u32 s (ishl .u32 1 v)) s)
  | [], s, h => h
  | x :: xs, s, _ => VS_foldl_ior xs _ (VS.ior _ _)
theorem VS.mk (xs : List Int) : VS (mk xs) := VS_foldl_ior xs 0 VS.zero
theorem has_foldl_ior (u : Nat) : ∀ (xs : List Int) (s : Int), VS s → (∀ x ∈ xs, 0 ≤ x ∧ x < 32) → has (xs.foldl (fun s v => ior .u32 s (ishl .u32 1 v)) s) u = (has s u || decide ((u : Int) ∈ xs))
  | [], s, _, _ => by simp
  | x :: xs, s, hs, h => by
    have hx := h x (by simp)
    rw [List.foldl_cons, has_foldl_ior u xs _ (VS.ior _ _) (fun y hy => h y (by simp [hy])), has_ior hs (VS.ishl _ _)]
    obtain ⟨k, rfl⟩ : ∃ k : Nat, x = k := ⟨x.toNat, by omega⟩
    rw [has_one (by omega)]
    by_cases hu : u = k
    · subst hu; simp
    · have : ¬ (u : Int) = (k : Int) := by omega
      simp [hu, this]
theorem has_mk {xs : List Int} (h : ∀ x ∈ xs, 0 ≤ x ∧ x < 32) (u : Nat) : has (mk xs) u = decide ((u : Int) ∈ xs) := by
  unfold mk; rw [has_foldl_ior u xs 0 VS.zero h, has_zero, Bool.false_or]

theorem GOk.mem0 {g : List (List Int)} (hg : GOk g) {r : List Int} (hr : r ∈ g) : r.length ≤ 16 ∧ ∀ x ∈ r, 0 ≤ x ∧ x < g.length := by
  obtain ⟨v, hv, rfl⟩ := List.getElem_of_mem hr
  rw [← row_eq hv]
  exact ⟨hg.row_len hv, (hg.rows v hv).2⟩
theorem netsOf_eq (g : List (List Int)) (hg : GOk g) : D.impl_netsOf g = some (g.map mk) := by
  have h16 := hg.n16
  unfold D.impl_netsOf
  refine (loop_map g (fun s i => (s, i)) mk (by omega) (fun s i hi _ => ?_) (fun s => ?_)).trans rfl
  · obtain ⟨h1, h2⟩ := hg.mem0 (List.getElem_mem hi)
    simp only [dlt hi, cond_true, idx_nat hi, Option.bind_some, wi' hi (by omega), maskOf_eq g[i] (by unfold Sh; omega) (fun x hx => (h2 x hx).1)]
  · simp only [dnlt, cond_false]
theorem narrow_eq (xs : List Int) (h : Sh xs) : D.impl_narrow xs = some xs := by
  unfold Sh at h
  unfold D.impl_narrow
  rw [makeD_zero (by omega) (by omega), Option.bind_some]
  refine (loop_map xs (fun s i => (s, i)) (fun x => x) h (fun s i hi _ => ?_) (fun s => ?_)).trans (by simp)
  · simp only [dlt hi, cond_true, idx_nat hi, Option.bind_some, wi' hi (by omega)]
  · simp only [dnlt, cond_false]
theorem wide_eq (xs : List Int) (h : Sh xs) : D.impl_wide xs = some xs := by
  unfold Sh at h
  unfold D.impl_wide
  rw [makeD_zero (by omega) (by omega), Option.bind_some]
  refine (loop_map xs (fun s i => (s, i)) (fun x => x) h (fun s i hi _ => ?_) (fun s => ?_)).trans (by simp)
  · simp only [dlt hi, cond_true, idx_nat hi, Option.bind_some, wi' hi (by omega)]
  · simp only [dnlt, cond_false]

theorem least_eq {s : Int} (h : VS s) (h0 : s ≠ 0) : ∃ k : Nat, k < 32 ∧ D.impl_vset_least s = some (k : Int) ∧ has s k = true ∧ (∀ v, v < k → has s v = false) ∧
    (∀ v, has (iand .u32 s (IntKind.u32.wrap (s - 1))) v = (has s v && !decide (v = k))) := by
  obtain ⟨k, h1, h2, h3, h4, h5⟩ := least_spec h h0
  refine ⟨k, h1, ?_, h2, h3, h5⟩
  unfold D.impl_vset_least D.math_bits_TrailingZeros32
  have e : (s == 0) = false := by simpa using h0
  simp only [e, cond_false, h4, tz_table k h1, Option.bind_some]
  rw [w64 (by omega) (by omega)]

theorem list_eq (s : Int) (h : VS s) : D.impl_vset_list s = some (elems s) := by
  unfold D.impl_vset_list
  have key : ∀ (n : Nat) (x : Int) (l : List Int), VS x → (elems x).length = n → l.length + n ≤ 32 →
      loopF (σ := Int × (List Int)) (ρ := ((List Int))) (fun (s_52 : Int × (List Int)) => match s_52 with | (x_55, l_56) => cond (x_55 != 0) ((D.impl_vset_least x_55).bind fun y_88 => (appendD l_56 ([y_88] : List Int)).bind fun l_99 => some (.inl ((iand .u32 x_55 (IntKind.u32.wrap (x_55 - 1))), l_99))) (some (.inr l_56))) (x, l) = some (l ++ elems x) := by
    intro n
    induction n with
    | zero =>
      intro x l hx hn _
      have e : elems x = [] := List.eq_nil_of_length_eq_zero hn
      have e0 : x = 0 := hx.eq_zero.2 fun v hv => by
        cases hc : has x v
        · rfl
        · have := mem_elems.2 ⟨v, hv, hc, rfl⟩; rw [e] at this; simp at this
      rw [e]
      refine loopF_done ?_
      have : (x != 0) = false := by simp [e0]
      simp only [this, cond_false, List.append_nil]
    | succ n ih =>
      intro x l hx hn hl
      have h0 : x ≠ 0 := by rintro rfl; rw [elems_zero] at hn; simp at hn
      obtain ⟨k, h1, h2, h3, h4, h5⟩ := least_eq hx h0
      have e := elems_least h1 h3 h4 h5
      have en : (elems (iand .u32 x (IntKind.u32.wrap (x - 1)))).length = n := by rw [e] at hn; simpa using hn
      have hstep := ih (iand .u32 x (IntKind.u32.wrap (x - 1))) (l ++ [(k : Int)]) (VS.iand _ _) en (by simp; omega)
      have e1 : (x != 0) = true := by simpa using h0
      rw [loopF_more (s' := (iand .u32 x (IntKind.u32.wrap (x - 1)), l ++ [(k : Int)]))]
      · rw [hstep, e]; simp
      · simp only [e1, cond_true, h2, Option.bind_some, appendD_ok (xs := l) (ys := [(k : Int)]) (by simp; omega)]
  have := key (elems s).length s [] h rfl (by simpa using elems_len s)
  rw [this]; simp
theorem elems_sh (s : Int) : Sh (elems s) := by have := elems_len s; unfold Sh; omega
theorem numbers_eq (s : Int) (h : VS s) : D.impl_vset_numbers s = some (elems s) := by
  unfold D.impl_vset_numbers
  rw [list_eq s h, Option.bind_some, wide_eq _ (elems_sh s)]; rfl
theorem results_eq (xs : List Int) (h : Sh xs) (hv : ∀ s ∈ xs, VS s) : D.impl_results xs = some (xs.map elems) := by
  unfold Sh at h
  unfold D.impl_results
  refine (loop_map xs (fun s i => (s, i)) elems h (fun s i hi _ => ?_) (fun s => ?_)).trans rfl
  · simp only [dlt hi, cond_true, idx_nat hi, Option.bind_some, wi' hi (by omega), numbers_eq _ (hv _ (List.getElem_mem hi))]
  · simp only [dnlt, cond_false]

/-! ### rising lists -/
theorem l1Copy_eq (xs : List Int) (h : Sh xs) : D.spec_l1Copy xs = some xs := by
  unfold Sh at h
  unfold D.spec_l1Copy
  rw [appendD_ok (by simpa using h)]; rfl
/-- with one more -/
def into (xs : List Int) (n : Int) : List Int := if n ∈ xs then xs else xs.takeWhile (fun x => decide (x < n)) ++ n :: xs.dropWhile (fun x => decide (x < n))
theorem mem_into {xs : List Int} {n x : Int} : x ∈ into xs n ↔ x = n ∨ x ∈ xs := by
  unfold into
  split
  · constructor
    · intro h; exact .inr h
    · rintro (rfl | h)
      · assumption
      · exact h
  · have e : x ∈ xs ↔ x ∈ xs.takeWhile (fun x => decide (x < n)) ++ xs.dropWhile (fun x => decide (x < n)) := by rw [List.takeWhile_append_dropWhile]
    rw [e]; simp only [List.mem_append, List.mem_cons]
    constructor
    · rintro (h | h | h) <;> simp [h]
    · rintro (h | h | h) <;> simp [h]
theorem inc_dropWhile {xs : List Int} {n : Int} (h : Inc xs) : ∀ y ∈ xs.dropWhile (fun x => decide (x < n)), n ≤ y := by
  induction xs with
  | nil => simp
  | cons x xs ih =>
    have h' := List.pairwise_cons.1 h
    intro y hy
    rw [List.dropWhile_cons] at hy
    split at hy
    · exact ih h'.2 y hy
    · rename_i hc
      simp at hc
      rcases List.mem_cons.1 hy with rfl | hy
      · exact hc
      · have := h'.1 y hy; omega
theorem inc_takeWhile {xs : List Int} {n : Int} : ∀ y ∈ xs.takeWhile (fun x => decide (x < n)), y < n := by
  intro y hy
  induction xs with
  | nil => simp at hy
  | cons x xs ih =>
    rw [List.takeWhile_cons] at hy
    split at hy
    · rename_i hc
      rcases List.mem_cons.1 hy with rfl | hy
      · simpa using hc
      · exact ih hy
    · simp at hy
theorem Inc.into {xs : List Int} (h : Inc xs) (n : Int) : Inc (into xs n) := by
  unfold Sx.into
  split
  · exact h
  · rename_i hn
    unfold Inc
    rw [List.pairwise_append]
    refine ⟨List.Pairwise.sublist (List.takeWhile_sublist _) h, List.pairwise_cons.2 ⟨fun y hy => ?_, List.Pairwise.sublist (List.dropWhile_sublist _) h⟩, fun a ha b hb => ?_⟩
    · have h1 := inc_dropWhile h y hy
      have h2 : y ≠ n := fun e => hn (e ▸ (List.dropWhile_sublist _).mem hy)
      omega
    · have h1 := inc_takeWhile a ha
      rcases List.mem_cons.1 hb with rfl | hb
      · exact h1
      · have := inc_dropWhile h b hb; omega
end Go.Sx

/- Open vertices, bags of an order: the reference's and the program's. Plain. -/
namespace Go.Sx
theorem takeWhile_eq_take {α : Type} (p : α → Bool) : ∀ (xs : List α), xs.takeWhile p = xs.take (xs.takeWhile p).length ∧ xs.dropWhile p = xs.drop (xs.takeWhile p).length
  | [] => by simp
  | x :: xs => by
    rw [List.takeWhile_cons, List.dropWhile_cons]
    cases p x
    · simp
    · have := takeWhile_eq_take p xs
      simp only [if_true, List.length_cons, List.take_succ_cons, List.drop_succ_cons, ← this.1, ← this.2, and_self]
theorem takeWhile_get {α : Type} (p : α → Bool) : ∀ (xs : List α) (i : Nat) (h : i < (xs.takeWhile p).length) (h' : i < xs.length), p xs[i] = true
  | x :: xs, i, h, h' => by
    rw [List.takeWhile_cons] at h
    cases hp : p x
    · rw [hp] at h; simp at h
    · rw [hp] at h
      cases i with
      | zero => simpa using hp
      | succ i => simp only [if_true, List.length_cons] at h; simpa using takeWhile_get p xs i (by omega) (by simpa using h')
theorem takeWhile_stop {α : Type} (p : α → Bool) : ∀ (xs : List α) (h : (xs.takeWhile p).length < xs.length), p (xs[(xs.takeWhile p).length]) = false
  | x :: xs, h => by
    cases hp : p x
    · simp [List.takeWhile_cons, hp]
    · have h2 : (xs.takeWhile p).length < xs.length := by simpa [List.takeWhile_cons, hp] using h
      simpa [List.takeWhile_cons, hp] using takeWhile_stop p xs h2
theorem takeWhile_len_le {α : Type} (p : α → Bool) (xs : List α) : (xs.takeWhile p).length ≤ xs.length := (List.takeWhile_sublist _).length_le

theorem l1Into_eq (xs : List Int) (n : Int) (h : Inc xs) (hl : xs.length ≤ 4294967295) : D.spec_l1Into xs n = some (into xs n) := by
  unfold D.spec_l1Into
  generalize hk : (xs.takeWhile (fun x => decide (x < n))).length = k
  have hkl : k ≤ xs.length := by rw [← hk]; exact takeWhile_len_le _ _
  have htk : xs.takeWhile (fun x => decide (x < n)) = xs.take k := by rw [← hk]; exact (takeWhile_eq_take _ xs).1
  have hdk : xs.dropWhile (fun x => decide (x < n)) = xs.drop k := by rw [← hk]; exact (takeWhile_eq_take _ xs).2
  refine (loop_to (fun i => ((i : Nat) : Int)) k (k : Int) rfl (fun i hi => ?_) ?_).trans ?_
  · have hi' : i < xs.length := by omega
    have hp : decide (xs[i] < n) = true := takeWhile_get (fun x => decide (x < n)) xs i (by omega) hi'
    simp only [dlt hi', cond_true, idx_nat hi', Option.bind_some, hp, wi (show i < 4611686018427387904 by omega)]
  · by_cases hlt : k < xs.length
    · have hp : decide (xs[k] < n) = false := by
        have := takeWhile_stop (fun x => decide (x < n)) xs (by omega)
        simp only [hk] at this; exact this
      simp only [dlt hlt, cond_true, idx_nat hlt, Option.bind_some, hp, cond_false]
    · obtain rfl : k = xs.length := by omega
      simp only [dnlt, cond_false, Option.bind_some]
  · have hS1 : Sh (xs.take k) := by unfold Sh; rw [List.length_take]; omega
    have hrest : ((sliceD xs 0 (k : Int)).bind fun l_135 => (D.spec_l1Copy l_135).bind fun y_139 => (appendD y_139 ([n] : List Int)).bind fun l_154 => (sliceD xs (k : Int) (xs.length : Int)).bind fun l_160 => (appendD l_154 l_160).bind fun l_164 => some l_164) = some (xs.take k ++ n :: xs.drop k) := by
      simp only [sliceD_pre hkl, sliceD_post hkl, Option.bind_some, l1Copy_eq _ hS1]
      rw [appendD_ok (by simp; omega), Option.bind_some, appendD_ok (by simp; omega), Option.bind_some]
      simp
    by_cases hlt : k < xs.length
    · simp only [dlt hlt, cond_true, idx_nat hlt, Option.bind_some]
      by_cases he : xs[k] = n
      · have hm : n ∈ xs := by rw [← he]; exact List.getElem_mem _
        have : (xs[k] == n) = true := by simp [he]
        simp only [this, cond_true]
        unfold into; rw [if_pos hm]
      · have : (xs[k] == n) = false := by simpa using he
        simp only [this, cond_false, hrest]
        unfold into
        rw [htk, hdk, if_neg]
        intro hm
        obtain ⟨j, hj, e⟩ := List.getElem_of_mem hm
        have hst : decide (xs[k] < n) = false := by
          have := takeWhile_stop (fun x => decide (x < n)) xs (by omega)
          simp only [hk] at this; exact this
        simp at hst
        rcases Nat.lt_trichotomy j k with h1 | h1 | h1
        · have := takeWhile_get (fun x => decide (x < n)) xs j (by omega) hj
          simp at this; omega
        · subst h1; exact he e
        · have := (List.pairwise_iff_getElem.1 h) k j hlt hj h1
          omega
    · obtain rfl : k = xs.length := by omega
      simp only [dnlt, cond_false, Option.bind_some, hrest]
      unfold into
      rw [htk, hdk, if_neg]
      intro hm
      obtain ⟨j, hj, e⟩ := List.getElem_of_mem hm
      have := takeWhile_get (fun x => decide (x < n)) xs j (by omega) hj
      simp at this; omega

theorem Inc.short {s : List Int} {n : Nat} (h : Inc s) (hr : ∀ x ∈ s, 0 ≤ x ∧ x < n) : s.length ≤ n := by
  rcases SetOf.len h hr with e | e
  · subst e; simp
  · omega

end Go.Sx



/- What the laws draw with their dice: graphs that are right, orders that are right. Plain. -/
namespace Go.Sx
/-- dice in order: bytes, and a place among them -/
structure DK (b : List Int) (i : Int) : Prop where
  byte : ∀ x ∈ b, 0 ≤ x ∧ x ≤ 255
  len : b.length ≤ 4096
  i0 : 0 ≤ i
  i1 : i ≤ b.length

theorem iand_u64_le (a : Int) (n : Nat) (hn : n < 18446744073709551616) : 0 ≤ iand .u64 a (n : Int) ∧ iand .u64 a (n : Int) ≤ n := by
  have e : (BitVec.ofInt 64 (n : Int)).toNat = n := by rw [BitVec.toNat_ofInt]; omega
  have h : (BitVec.ofInt 64 a &&& BitVec.ofInt 64 (n : Int)).toNat ≤ n := by
    rw [BitVec.toNat_and, e]; exact Nat.and_le_right
  have w : ∀ m : Nat, m < 18446744073709551616 → IntKind.u64.wrap (m : Int) = m := fun m hm => by
    simp [IntKind.wrap, IntKind.signed, IntKind.bits]; omega
  have e2 : iand .u64 a (n : Int) = (((BitVec.ofInt 64 a &&& BitVec.ofInt 64 (n : Int)).toNat : Nat) : Int) := by
    show IntKind.u64.wrap (((BitVec.ofInt 64 a &&& BitVec.ofInt 64 (n : Int)).toNat : Nat) : Int) = _
    exact w _ (by omega)
  rw [e2]; omega
theorem tmod_rng {x n : Int} (hx : 0 ≤ x) (hn : 0 < n) : 0 ≤ Int.tmod x n ∧ Int.tmod x n < n :=
  ⟨Int.tmod_nonneg _ hx, Int.tmod_lt_of_pos _ hn⟩

theorem below_ok {b : List Int} {i : Int} (h : DK b i) (z n : Int) (hn : 0 < n) : ∃ r i' z', D.laws_dice_below b i z n = some (r, b, i', z') ∧ 0 ≤ r ∧ r < n ∧ DK b i' := by
  obtain ⟨h1, h2, h3, h4⟩ := h
  unfold D.laws_dice_below
  have hn0 : (n == 0) = false := by simp; omega
  have hc : ∀ y : Int, 0 ≤ iand .u64 y 16777215 ∧ iand .u64 y 16777215 ≤ 16777215 := fun y => iand_u64_le y 16777215 (by omega)
  by_cases hi : i < b.length
  · have hb := h1 _ (List.getElem_mem (show i.toNat < b.length by omega))
    simp only [hi, decide_true, cond_true, idx_int h3 hi, Option.bind_some, hn0, cond_false]
    have hy := hc (ishr .u64 (IntKind.u64.wrap ((IntKind.u64.wrap (z * 6364136223846793005)) + 1442695040888963407)) 33)
    generalize iand .u64 (ishr .u64 (IntKind.u64.wrap ((IntKind.u64.wrap (z * 6364136223846793005)) + 1442695040888963407)) 33) 16777215 = y at hy ⊢
    rw [w64 (x := y) (by omega) (by omega), w64 (x := b[i.toNat]) (by omega) (by omega), w64 (x := y + b[i.toNat]) (by omega) (by omega), w64 (x := i + 1) (by omega) (by omega)]
    have hr := tmod_rng (x := y + b[i.toNat]) (n := n) (by omega) hn
    exact ⟨_, _, _, rfl, hr.1, hr.2, h1, h2, by omega, by omega⟩
  · simp only [hi, decide_false, cond_false, hn0]
    have hy := hc (ishr .u64 (IntKind.u64.wrap ((IntKind.u64.wrap (z * 6364136223846793005)) + 1442695040888963407)) 33)
    generalize iand .u64 (ishr .u64 (IntKind.u64.wrap ((IntKind.u64.wrap (z * 6364136223846793005)) + 1442695040888963407)) 33) 16777215 = y at hy ⊢
    rw [w64 (x := y) (by omega) (by omega)]
    have hr := tmod_rng (x := y) (n := n) (by omega) hn
    exact ⟨_, _, _, rfl, hr.1, hr.2, h1, h2, h3, h4⟩

theorem below_then {b : List Int} {i : Int} (h : DK b i) (z n : Int) (hn : 0 < n) : ∃ y, D.laws_dice_below b i z n = some y ∧ (0 ≤ y.1 ∧ y.1 < n ∧ y.2.1 = b ∧ DK b y.2.2.1) := by
  obtain ⟨r, i', z', e, h1, h2, h3⟩ := below_ok h z n hn
  exact ⟨_, e, h1, h2, rfl, h3⟩
theorem roll_ok (code : List Int) (seed : Int) (h : ∀ x ∈ code, 0 ≤ x ∧ x ≤ 255) (hl : code.length ≤ 4096) : ∃ z, D.laws_roll code seed = some (code, 0, z) ∧ DK code 0 := by
  unfold D.laws_roll
  refine ⟨_, (loop_listb code (fun s i => (i, s)) (fun s e => IntKind.u64.wrap ((IntKind.u64.wrap ((IntKind.u64.wrap (s * 1099511628211)) + (IntKind.u64.wrap e))) + 3)) (fun s => s) (fun _ => True) _ trivial (fun s i hi _ => ⟨?_, trivial⟩) (fun s _ => ?_)).trans rfl, h, hl, by omega, by omega⟩
  · simp only [dlt hi, cond_true, idx_nat hi, Option.bind_some, wi (show i < 4611686018427387904 by omega)]
  · simp only [dnlt, cond_false]

/-! ### a graph out of edges -/
theorem l1Empty_eq (n : Nat) (hn : n ≤ 16) : D.spec_l1Empty (n : Int) = some (List.replicate n []) := by
  unfold D.spec_l1Empty
  refine (loop_to (fun i => ((i : Int), List.replicate i [])) n (List.replicate n []) (by simp) (fun i hi => ?_) ?_).trans rfl
  · simp only [dlt hi, cond_true, wi (show i < 4611686018427387904 by omega)]
    rw [appendD_ok (by simp; omega), Option.bind_some, ← List.replicate_succ']
  · simp only [dnlt, cond_false]

theorem row_set {g : List (List Int)} {u v : Nat} {r : List Int} (hu : u < g.length) : row (g.set u r) v = if v = u then r else row g v := by
  unfold row
  by_cases h : v = u
  · subst h; simp [hu]
  · rw [if_neg h, List.getD_eq_getElem?_getD, List.getElem?_set_ne (fun e => h e.symm), ← List.getD_eq_getElem?_getD]

theorem l1Link_ok {g : List (List Int)} (hg : GOk g) {u v : Nat} (hu : u < g.length) (hv : v < g.length) (huv : u ≠ v) :
    ∃ g', D.spec_l1Link g (u : Int) (v : Int) = some g' ∧ GOk g' ∧ g'.length = g.length ∧ ∀ a b, adj g' a b ↔ adj g a b ∨ (a = u ∧ b = v) ∨ (a = v ∧ b = u) := by
  have h16 := hg.n16
  have hru := hg.rows u hu; have hrv := hg.rows v hv
  have hlu := hg.row_len hu; have hlv := hg.row_len hv
  refine ⟨(g.set u (into (row g u) v)).set v (into (row g v) u), ?_, ?_⟩
  · unfold D.spec_l1Link
    have e1 : row (g.set u (into (row g u) v)) v = row g v := by rw [row_set hu, if_neg (Ne.symm huv)]
    simp only [idx_row hu, Option.bind_some, l1Into_eq _ _ hru.1 (show (row g u).length ≤ 4294967295 by omega), Int.toNat_natCast]
    rw [idx_row (show v < (g.set u (into (row g u) v)).length by simpa using hv), e1]
    simp only [Option.bind_some, l1Into_eq _ _ hrv.1 (show (row g v).length ≤ 4294967295 by omega)]
  · have hrow : ∀ w, row ((g.set u (into (row g u) v)).set v (into (row g v) u)) w = if w = v then into (row g v) u else if w = u then into (row g u) v else row g w := by
      intro w
      rw [row_set (by simpa using hv), row_set hu]
    have hadj : ∀ a b, adj ((g.set u (into (row g u) v)).set v (into (row g v) u)) a b ↔ adj g a b ∨ (a = u ∧ b = v) ∨ (a = v ∧ b = u) := by
      intro a b
      unfold adj
      rw [hrow]
      by_cases ha : a = v
      · subst ha
        rw [if_pos rfl, mem_into]
        constructor
        · rintro (h | h)
          · exact .inr (.inr ⟨rfl, by omega⟩)
          · exact .inl h
        · rintro (h | ⟨h, _⟩ | ⟨_, h⟩)
          · exact .inr h
          · exact absurd h.symm huv
          · exact .inl (by omega)
      · rw [if_neg ha]
        by_cases ha' : a = u
        · subst ha'
          rw [if_pos rfl, mem_into]
          constructor
          · rintro (h | h)
            · exact .inr (.inl ⟨rfl, by omega⟩)
            · exact .inl h
          · rintro (h | ⟨_, h⟩ | ⟨h, _⟩)
            · exact .inr h
            · exact .inl (by omega)
            · exact absurd h ha
        · rw [if_neg ha']
          constructor
          · exact .inl
          · rintro (h | ⟨h, _⟩ | ⟨h, _⟩)
            · exact h
            · exact absurd h ha'
            · exact absurd h ha
    refine ⟨⟨by simpa using hg.n1, by simpa using h16, fun w hw => ?_, fun w hw => ?_, fun a b ha hab => ?_⟩, by simp, hadj⟩
    · simp only [List.length_set] at hw ⊢
      rw [hrow]
      split
      · refine ⟨hrv.1.into _, fun x hx => ?_⟩
        rcases mem_into.1 hx with rfl | hx
        · omega
        · exact hrv.2 x hx
      · split
        · refine ⟨hru.1.into _, fun x hx => ?_⟩
          rcases mem_into.1 hx with rfl | hx
          · omega
          · exact hru.2 x hx
        · exact hg.rows w hw
    · simp only [List.length_set] at hw
      rw [hadj]
      rintro (h | ⟨h1, h2⟩ | ⟨h1, h2⟩)
      · exact hg.irr w hw h
      · omega
      · omega
    · simp only [List.length_set] at ha
      rw [hadj] at hab ⊢
      rcases hab with h | h | h
      · exact .inl (hg.sym a b ha h)
      · exact .inr (.inr ⟨h.2, h.1⟩)
      · exact .inr (.inl ⟨h.2, h.1⟩)

theorem GOk.empty {n : Nat} (h1 : 1 ≤ n) (h16 : n ≤ 16) : GOk (List.replicate n []) := by
  have hr : ∀ v, row (List.replicate n []) v = [] := fun v => by
    unfold row
    rw [List.getD_eq_getElem?_getD, List.getElem?_replicate]; split <;> rfl
  refine ⟨by simpa using h1, by simpa using h16, fun v _ => ?_, fun v _ => ?_, fun u v _ h => ?_⟩
  · rw [hr]; exact ⟨by simp [Inc], by simp⟩
  · unfold adj; rw [hr]; simp
  · unfold adj at h; rw [hr] at h; simp at h

/-- two vertices, the lesser one first -/
def EdgeIn (n : Nat) (e : List Int) : Prop := ∃ a b : Nat, e = [(a : Int), (b : Int)] ∧ a < b ∧ b < n
theorem setB_edge {n : Nat} {a b : Nat} (h : a < b) (hb : b < n) : setB [(a : Int), (b : Int)] n = true := by
  rw [setB_iff]
  refine ⟨by simp [Inc]; omega, fun x hx => ?_⟩
  simp at hx
  rcases hx with rfl | rfl <;> omega

theorem GraphOf_ok (n : Nat) (edges : List (List Int)) (h1 : 1 ≤ n) (h16 : n ≤ 16) (he : edges.length ≤ 120) (hE : ∀ e ∈ edges, EdgeIn n e) :
    ∃ g, D.spec_GraphOf (n : Int) edges = some (g, true) ∧ GOk g ∧ g.length = n ∧ ∀ a b : Nat, adj g a b ↔ ([(a : Int), (b : Int)] ∈ edges ∧ a < b) ∨ ([(b : Int), (a : Int)] ∈ edges ∧ b < a) := by
  unfold D.spec_GraphOf
  rw [l1In_eq]
  have e1 : (decide ((1 : Int) ≤ (n : Int)) && decide ((n : Int) ≤ 16)) = true := by simp; omega
  have e2 : decide ((120 : Int) < (edges.length : Int)) = false := by simp; omega
  simp only [Option.bind_some, e1, e2, Bool.not_true, Bool.or_false, cond_false, l1Empty_eq n h16]
  have key : ∀ (k i : Nat) (g : List (List Int)), i + k = edges.length → GOk g → g.length = n → (∀ a b : Nat, adj g a b ↔ ([(a : Int), (b : Int)] ∈ edges.take i ∧ a < b) ∨ ([(b : Int), (a : Int)] ∈ edges.take i ∧ b < a)) →
      ∃ g', loopF (σ := Int × (List (List Int))) (ρ := ((List (List Int))) ⊕ (((List (List Int))) × Bool)) (fun (s_217 : Int × (List (List Int))) => match s_217 with | (x_220, l_221) => cond (decide (x_220 < (edges.length : Int))) ((idx edges x_220).bind fun e_319 => (cond ((e_319.length : Int) != 2) (some true) ((idx edges x_220).bind fun e_356 => (D.spec_l1Set e_356 (n : Int)).bind fun y_362 => some (!y_362))).bind fun b_354 => cond b_354 (some (.inr (.inr (([] : List (List Int)), false)))) ((idx edges x_220).bind fun e_375 => (idx e_375 0).bind fun e_381 => (idx edges x_220).bind fun e_387 => (idx e_387 1).bind fun e_393 => (D.spec_l1Link l_221 e_381 e_393).bind fun y_401 => some (.inl ((IntKind.i64.wrap (x_220 + 1)), y_401)))) (some (.inr (.inl l_221)))) ((i : Int), g) = some (.inl g') ∧ GOk g' ∧ g'.length = n ∧ (∀ a b : Nat, adj g' a b ↔ ([(a : Int), (b : Int)] ∈ edges ∧ a < b) ∨ ([(b : Int), (a : Int)] ∈ edges ∧ b < a)) := by
    intro k
    induction k with
    | zero =>
      intro i g hi hg hl ha
      obtain rfl : i = edges.length := by omega
      rw [List.take_length] at ha
      exact ⟨g, loopF_done (by simp only [dnlt, cond_false]), hg, hl, ha⟩
    | succ k ih =>
      intro i g hi hg hl ha
      have hil : i < edges.length := by omega
      obtain ⟨a, b, eab, hab, hbn⟩ := hE _ (List.getElem_mem hil)
      obtain ⟨g', k1, k2, k3, k4⟩ := l1Link_ok hg (u := a) (v := b) (by omega) (by omega) (by omega)
      obtain ⟨g'', m1, m2⟩ := ih (i + 1) g' (by omega) k2 (by omega) (fun c d => by
        rw [k4, ha, List.take_succ_eq_append_getElem hil]
        simp only [List.mem_append, List.mem_singleton, eab, List.cons.injEq, and_true]
        constructor
        · rintro ((⟨h, h'⟩ | ⟨h, h'⟩) | ⟨rfl, rfl⟩ | ⟨rfl, rfl⟩)
          · exact .inl ⟨.inl h, h'⟩
          · exact .inr ⟨.inl h, h'⟩
          · exact .inl ⟨.inr ⟨rfl, rfl⟩, hab⟩
          · exact .inr ⟨.inr ⟨rfl, rfl⟩, hab⟩
        · rintro (⟨h | ⟨h, h2⟩, h'⟩ | ⟨h | ⟨h, h2⟩, h'⟩)
          · exact .inl (.inl ⟨h, h'⟩)
          · exact .inr (.inl ⟨by omega, by omega⟩)
          · exact .inl (.inr ⟨h, h'⟩)
          · exact .inr (.inr ⟨by omega, by omega⟩))
      refine ⟨g'', ?_, m2⟩
      rw [loopF_more (s' := (((i + 1 : Nat) : Int), g'))]
      · exact m1
      · have h0 : idx [(a : Int), (b : Int)] 0 = some (a : Int) := rfl
        have h1' : idx [(a : Int), (b : Int)] 1 = some (b : Int) := rfl
        have hlen : ((([(a : Int), (b : Int)]).length : Int) != 2) = false := rfl
        simp only [dlt hil, cond_true, idx_nat hil, eab, Option.bind_some, hlen, cond_false, l1Set_eq [(a : Int), (b : Int)] n (by simp [Sh]) (by omega) (by omega), setB_edge hab hbn, Bool.not_true, h0, h1', k1, wi (show i < 4611686018427387904 by omega)]
  obtain ⟨g', m1, m2, m3, m4⟩ := key edges.length 0 (List.replicate n []) (by omega) (GOk.empty h1 h16) (by simp) (fun a b => by
    unfold adj row
    rw [List.getD_eq_getElem?_getD, List.getElem?_replicate]
    split <;> simp)
  refine ⟨g', ?_, m2, m3, m4⟩
  rw [show ((0 : Nat) : Int) = 0 from rfl] at m1
  rw [m1]; rfl
end Go.Sx

/- Drawn graphs and drawn orders are right. Plain. -/
namespace Go.Sx
theorem w9Graph_ok {b : List Int} {i : Int} (h : DK b i) (z : Int) (most : Nat) (h1 : 1 ≤ most) (h8 : most ≤ 8) :
    ∃ y, D.laws_w9Graph b i z (most : Int) = some y ∧ (GOk y.1 ∧ y.1.length ≤ most ∧ y.2.1 = b ∧ DK b y.2.2.1) := by
  unfold D.laws_w9Graph
  refine bind_then _ (below_then h z most (by omega)) ?_
  rintro ⟨r, b1, i1, z1⟩ ⟨r0, r1, rfl, k1⟩
  dsimp only at r0 r1 k1 ⊢
  refine bind_then _ (below_then k1 z1 3 (by omega)) ?_
  rintro ⟨q, b2, i2, z2⟩ ⟨q0, q1, rfl, k2⟩
  dsimp only at q0 q1 k2 ⊢
  obtain ⟨n, en, en'⟩ : ∃ n : Nat, IntKind.i64.wrap (1 + r) = (n : Int) ∧ (n : Int) = 1 + r := ⟨(1 + r).toNat, by rw [w64 (by omega) (by omega)]; omega, by omega⟩
  rw [en]
  refine loop_then (fun s => ∃ v : Nat, s.2.1 = (v : Int) ∧ 1 ≤ v ∧ v ≤ n ∧ s.2.2.1 = b2 ∧ DK b2 s.2.2.2.1 ∧ s.1.length ≤ 8 * v + v ∧ ∀ e ∈ s.1, EdgeIn n e) (fun s => n - s.2.1.toNat)
    (fun r => r.2.1 = b2 ∧ DK b2 r.2.2.1 ∧ r.1.length ≤ 120 ∧ ∀ e ∈ r.1, EdgeIn n e) ?_ ?_ ?_
  · rintro ⟨l, _, b2, i, z⟩ ⟨v, rfl, g1, g2, rfl, hk, hl, hE⟩
    dsimp only at hk hl hE ⊢
    by_cases hv : v < n
    · simp only [dlt hv, cond_true]
      refine loop_then (fun s => ∃ u : Nat, s.2.1 = (u : Int) ∧ u ≤ v ∧ s.2.2.1 = b2 ∧ DK b2 s.2.2.2.1 ∧ s.1.length ≤ 8 * v + v + u ∧ ∀ e ∈ s.1, EdgeIn n e) (fun s => v - s.2.1.toNat)
        (fun r => r.2.1 = b2 ∧ DK b2 r.2.2.1 ∧ r.1.length ≤ 8 * v + v + v ∧ ∀ e ∈ r.1, EdgeIn n e) ?_ ⟨0, rfl, by omega, rfl, hk, by dsimp only; omega, hE⟩ ?_
      · rintro ⟨l, _, b2, i, z⟩ ⟨u, rfl, g3, rfl, hk, hl, hE⟩
        dsimp only at hk hl hE ⊢
        by_cases hu : u < v
        · simp only [dlt hu, cond_true]
          refine bind_then _ (below_then hk z 4 (by omega)) ?_
          rintro ⟨t, b2, i3, z3⟩ ⟨t0, t1, rfl, hk'⟩
          dsimp only at t0 t1 hk' ⊢
          by_cases hc : t < IntKind.i64.wrap (1 + q)
          · simp only [hc, decide_true, cond_true, wi (show u < 4611686018427387904 by omega)]
            rw [appendD_ok (by simp; omega), Option.bind_some]
            refine ⟨_, rfl, ⟨u + 1, rfl, by omega, rfl, hk', by simp; omega, fun e he => ?_⟩, by dsimp only; omega⟩
            rcases List.mem_append.1 he with he | he
            · exact hE e he
            · simp at he; subst he; exact ⟨u, v, rfl, hu, hv⟩
          · simp only [hc, decide_false, cond_false, wi (show u < 4611686018427387904 by omega)]
            exact ⟨_, rfl, ⟨u + 1, rfl, by omega, rfl, hk', by dsimp only; omega, hE⟩, by dsimp only; omega⟩
        · obtain rfl : u = v := by omega
          simp only [dnlt, cond_false]
          exact ⟨_, rfl, rfl, hk, by dsimp only; omega, hE⟩
      · rintro ⟨l, b2, i3, z3⟩ ⟨rfl, hk', hl', hE'⟩
        dsimp only at hk' hl' hE' ⊢
        simp only [wi (show v < 4611686018427387904 by omega)]
        exact ⟨_, rfl, ⟨v + 1, rfl, by omega, by omega, rfl, hk', by dsimp only; omega, hE'⟩, by dsimp only; omega⟩
    · obtain rfl : v = n := by omega
      simp only [dnlt, cond_false]
      exact ⟨_, rfl, rfl, hk, by dsimp only; omega, hE⟩
  · exact ⟨1, rfl, by omega, by omega, rfl, k2, by simp, by simp⟩
  · rintro ⟨l, b2, i3, z3⟩ ⟨rfl, hk, hl, hE⟩
    dsimp only at hk hl hE ⊢
    obtain ⟨g, m1, m2, m3, _⟩ := GraphOf_ok n l (by omega) (by omega) hl hE
    rw [m1, Option.bind_some]
    exact ⟨_, rfl, m2, by dsimp only; omega, rfl, hk⟩

theorem insert_perm (o : List Int) (c : Nat) (v : Int) : (o.take c ++ [v] ++ o.drop c).Perm (v :: o) := by
  rw [List.append_assoc]
  have h1 : (o.take c ++ ([v] ++ o.drop c)).Perm (v :: (o.take c ++ o.drop c)) := List.perm_middle
  rwa [List.take_append_drop] at h1

end Go.Sx



/- Drawn orders, the other way: each number is put at a drawn place, what stands there moves on. Plain. -/
namespace Go.Sx
theorem w5Graph_w9 (a : List Int) (b c d : Int) : D.laws_w5Graph a b c d = D.laws_w9Graph a b c d := rfl
theorem w5Graph_ok {b : List Int} {i : Int} (h : DK b i) (z : Int) (most : Nat) (h1 : 1 ≤ most) (h8 : most ≤ 8) :
    ∃ y, D.laws_w5Graph b i z (most : Int) = some y ∧ (GOk y.1 ∧ y.1.length ≤ most ∧ y.2.1 = b ∧ DK b y.2.2.1) := by
  rw [w5Graph_w9]; exact w9Graph_ok h z most h1 h8

theorem ext_getD {a b : List Int} (hl : a.length = b.length) (h : ∀ j, j < a.length → a.getD j 0 = b.getD j 0) : a = b := by
  apply List.ext_getElem hl
  intro j h1 h2
  have := h j h1
  rwa [getD_lt h1, getD_lt h2] at this
theorem getD_set (l : List Int) (i j : Nat) (x : Int) (hi : i < l.length) : (l.set i x).getD j 0 = if j = i then x else l.getD j 0 := by
  simp only [List.getD_eq_getElem?_getD, List.getElem?_set]
  by_cases h : j = i
  · subst h; simp [hi]
  · rw [if_neg (fun e => h e.symm), if_neg h]
theorem getD_snoc (o : List Int) (j : Nat) : (o ++ [0]).getD j 0 = o.getD j 0 := by
  simp only [List.getD_eq_getElem?_getD, List.getElem?_append]
  split
  · rfl
  · rename_i h
    rw [List.getElem?_eq_none (show o.length ≤ j by omega)]
    rcases Nat.lt_or_ge (j - o.length) 1 with h1 | h1
    · have : j - o.length = 0 := by omega
      simp [this]
    · rw [List.getElem?_eq_none (by simpa using h1)]

theorem w5Order_ok {b : List Int} {i : Int} (h : DK b i) (z : Int) (n : Nat) (h16 : n ≤ 16) :
    ∃ y, D.laws_w5Order b i z (n : Int) = some y ∧ (y.1.length = n ∧ (∀ x ∈ y.1, 0 ≤ x ∧ x < n) ∧ y.1.Nodup ∧ y.2.1 = b ∧ DK b y.2.2.1) := by
  unfold D.laws_w5Order
  refine loop_then (fun s => ∃ v : Nat, s.2.1 = (v : Int) ∧ v ≤ n ∧ s.2.2.1 = b ∧ DK b s.2.2.2.1 ∧ s.1.length = v ∧ (∀ x ∈ s.1, 0 ≤ x ∧ x < v) ∧ s.1.Nodup) (fun s => n - s.2.1.toNat)
    (fun r => r.1.length = n ∧ (∀ x ∈ r.1, 0 ≤ x ∧ x < n) ∧ r.1.Nodup ∧ r.2.1 = b ∧ DK b r.2.2.1) ?_ ?_ ?_
  · rintro ⟨o, _, b2, i, z⟩ ⟨v, rfl, g1, rfl, hk, hl, hr, hn⟩
    dsimp only at hk hl hr hn ⊢
    by_cases hv : v < n
    · have e1 : IntKind.i64.wrap ((o.length : Int) + 1) = (v : Int) + 1 := by rw [w64 (by omega) (by omega)]; omega
      simp only [dlt hv, cond_true, e1]
      refine bind_then _ (below_then hk z ((v : Int) + 1) (by omega)) ?_
      rintro ⟨t, b2, i3, z3⟩ ⟨t0, t1, rfl, hk'⟩
      dsimp only at t0 t1 hk' ⊢
      obtain ⟨c, rfl⟩ : ∃ c : Nat, t = (c : Int) := ⟨t.toNat, by omega⟩
      rw [appendD_ok (by simp; omega), Option.bind_some]
      have e3 : IntKind.i64.wrap (((o ++ [0]).length : Int) - 1) = (v : Int) := by
        rw [List.length_append, List.length_singleton, w64 (by omega) (by omega)]; omega
      rw [e3]
      refine loop_then (fun s => ∃ k : Nat, s.2 = (k : Int) ∧ c ≤ k ∧ k ≤ v ∧ s.1.length = v + 1 ∧ ∀ j, j < v + 1 → s.1.getD j 0 = if j ≤ k then o.getD j 0 else o.getD (j - 1) 0) (fun s => s.2.toNat)
        (fun r => r.length = v + 1 ∧ ∀ j, j < v + 1 → r.getD j 0 = if j ≤ c then o.getD j 0 else o.getD (j - 1) 0) ?_ ⟨v, rfl, by omega, by omega, by simp; omega, fun j hj => by rw [if_pos (by omega), getD_snoc]⟩ ?_
      · rintro ⟨l, _⟩ ⟨k, rfl, hck, hkv, hlen, hall⟩
        dsimp only at hlen hall ⊢
        by_cases hc : c < k
        · have e2 : IntKind.i64.wrap ((k : Int) - 1) = ((k - 1 : Nat) : Int) := by rw [w64 (by omega) (by omega)]; omega
          simp only [dlt hc, cond_true, e2, idx_nat (show k - 1 < l.length by omega), idx_nat (show k < l.length by omega), Option.bind_some]
          refine ⟨_, rfl, ⟨k - 1, rfl, by omega, by omega, by simp; omega, fun j hj => ?_⟩, by simp; omega⟩
          simp only [Int.toNat_natCast]
          rw [getD_set _ _ _ _ (by omega)]
          have h1 := hall (k - 1) (by omega)
          rw [getD_lt (by omega), if_pos (by omega)] at h1
          by_cases hjk : j = k
          · subst hjk; rw [if_pos rfl, h1, if_neg (by omega)]
          · rw [if_neg hjk, hall j hj]
            by_cases hjk' : j ≤ k - 1
            · rw [if_pos (by omega), if_pos hjk']
            · rw [if_neg (by omega), if_neg hjk']
        · obtain rfl : c = k := by omega
          simp only [dnlt, cond_false]
          exact ⟨_, rfl, hlen, hall⟩
      · rintro l ⟨hlen, hall⟩
        rw [idx_nat (show c < l.length by omega), Option.bind_some, wi (show v < 4611686018427387904 by omega)]
        simp only [Int.toNat_natCast]
        have e4 : l.set c (v : Int) = o.take c ++ [(v : Int)] ++ o.drop c := by
          refine ext_getD (by simp; omega) (fun j hj => ?_)
          rw [List.length_set] at hj
          rw [getD_set _ _ _ _ (by omega)]
          simp only [List.getD_eq_getElem?_getD, List.getElem?_append, List.length_append, List.length_take, List.length_cons, List.length_nil, show min c o.length = c by omega]
          have h1 := hall j (by omega)
          rw [List.getD_eq_getElem?_getD] at h1
          by_cases hjc : j = c
          · subst hjc; simp
          · rw [if_neg hjc, h1]
            by_cases hlt : j < c
            · rw [if_pos (by omega), if_pos (by omega), if_pos hlt, List.getElem?_take_of_lt hlt, List.getD_eq_getElem?_getD]
            · rw [if_neg (by omega), if_neg (by omega), List.getElem?_drop, List.getD_eq_getElem?_getD, show c + (j - (c + (0 + 1))) = j - 1 by omega]
        rw [e4]
        have hp := insert_perm o c v
        refine ⟨_, rfl, ⟨v + 1, rfl, by omega, rfl, hk', by rw [hp.length_eq]; simp; omega, fun x hx => ?_, hp.nodup_iff.2 (List.nodup_cons.2 ⟨fun hm => by have := hr _ hm; omega, hn⟩)⟩, by dsimp only; omega⟩
        rcases List.mem_cons.1 (hp.mem_iff.1 hx) with rfl | hx
        · omega
        · have := hr x hx; omega
    · obtain rfl : v = n := by omega
      simp only [dnlt, cond_false]
      exact ⟨_, rfl, hl, hr, hn, rfl, hk⟩
  · exact ⟨0, rfl, by omega, rfl, h, by simp, by simp, by simp⟩
  · rintro ⟨o, b2, i3, z3⟩ ⟨h1, h2, h3, rfl, hk⟩
    exact ⟨_, rfl, h1, h2, h3, rfl, hk⟩
end Go.Sx

/- Elimination: the filled neighbours and the later ones, by what they have. Plain. -/
namespace Go.Sx
/-- is w a neighbour of u, by masks -/
def nb (F : List Int) (u w : Nat) : Bool := has (F.getD u 0) w
/-- masks of a graph of n vertices -/
structure FOk (F : List Int) (n : Nat) : Prop where
  len : F.length = n
  vs : ∀ u, u < n → VS (F.getD u 0)
  lt : ∀ u w, u < n → nb F u w = true → w < n
  irr : ∀ u, u < n → nb F u u = false
  sym : ∀ u w, u < n → nb F u w = true → nb F w u = true

theorem FOk.ext {F F' : List Int} {n : Nat} (h : F.length = n) (h' : F'.length = n) (v : ∀ u, u < n → VS (F.getD u 0)) (v' : ∀ u, u < n → VS (F'.getD u 0)) (e : ∀ u w, u < n → nb F u w = nb F' u w) : F = F' := by
  refine ext_getD (by omega) (fun j hj => ?_)
  exact (v j (by omega)).ext (v' j (by omega)) (fun w _ => e j w (by omega))

theorem getD_map_mk (g : List (List Int)) (u : Nat) : (g.map mk).getD u 0 = mk (row g u) := by
  unfold row
  simp only [List.getD_eq_getElem?_getD, List.getElem?_map]
  cases g[u]? with
  | none => simp [mk]
  | some r => rfl
theorem nb_mk {g : List (List Int)} (hg : GOk g) {u w : Nat} (hu : u < g.length) : nb (g.map mk) u w = true ↔ adj g u w := by
  have h16 := hg.n16
  unfold nb
  rw [getD_map_mk, has_mk (fun x hx => by have := (hg.rows u hu).2 x hx; omega)]
  simp [adj]
theorem FOk.of {g : List (List Int)} (hg : GOk g) : FOk (g.map Sx.mk) g.length := by
  refine ⟨by simp, fun u _ => by rw [getD_map_mk]; exact VS.mk _, fun u w hu h => hg.lt hu ((nb_mk hg hu).1 h), fun u hu => ?_, fun u w hu h => ?_⟩
  · cases h : nb (g.map Sx.mk) u u
    · rfl
    · exact absurd ((nb_mk hg hu).1 h) (hg.irr u hu)
  · have ha := (nb_mk hg hu).1 h
    exact (nb_mk hg (hg.lt hu ha)).2 (hg.sym u w hu ha)

/-- the graph of masks -/
def grow (F : List Int) : List (List Int) := F.map elems
theorem row_grow (F : List Int) (u : Nat) : row (grow F) u = elems (F.getD u 0) := by
  unfold row grow
  simp only [List.getD_eq_getElem?_getD, List.getElem?_map]
  cases F[u]? with
  | none => simp [elems_zero]
  | some r => rfl
theorem adj_grow {F : List Int} {n u w : Nat} (h : FOk F n) (hu : u < n) : adj (grow F) u w ↔ nb F u w = true := by
  unfold adj nb
  rw [row_grow, mem_elems_nat (h.vs u hu)]
theorem GOk.grow {F : List Int} {n : Nat} (h : FOk F n) (h1 : 1 ≤ n) (h16 : n ≤ 16) : GOk (grow F) := by
  have hl : (Sx.grow F).length = n := by unfold Sx.grow; rw [List.length_map, h.len]
  refine ⟨by omega, by omega, fun v hv => ?_, fun v hv ha => ?_, fun u v hu ha => ?_⟩
  · rw [row_grow, hl]
    refine ⟨elems_inc _, fun x hx => ?_⟩
    obtain ⟨w, _, h2, rfl⟩ := mem_elems.1 hx
    have := h.lt v w (by omega) h2
    omega
  · rw [adj_grow h (by omega)] at ha
    rw [h.irr v (by omega)] at ha; cases ha
  · rw [adj_grow h (by omega)] at ha
    have := h.lt u v (by omega) ha
    rw [adj_grow h (by omega)]
    exact h.sym u v (by omega) ha
theorem mk_elems {s : Int} (h : VS s) : mk (elems s) = s := by
  refine (VS.mk _).ext h (fun v hv => ?_)
  rw [has_mk (fun x hx => by obtain ⟨w, h1, _, rfl⟩ := mem_elems.1 hx; omega), Bool.eq_iff_iff, decide_eq_true_eq, mem_elems_nat h]
theorem all_mask : ∀ n : Fin 17, ∀ v : Fin 32, has (IntKind.u32.wrap (ishl .u32 1 (n.val : Int) - 1)) v.val = decide (v.val < n.val) := by decide +kernel
theorem nets_all_eq (F : List Int) (h : F.length ≤ 16) : ∃ s, D.impl_nets_all F = some s ∧ VS s ∧ ∀ v, has s v = decide (v < F.length) := by
  refine ⟨IntKind.u32.wrap (ishl .u32 1 (F.length : Int) - 1), ?_, VS.wrap _, fun v => ?_⟩
  · unfold D.impl_nets_all D.impl_firstOf
    have : decide ((F.length : Int) < 0) = false := by simp
    rw [this]; rfl
  · by_cases hv : v < 32
    · exact all_mask ⟨F.length, by omega⟩ ⟨v, hv⟩
    · rw [has_big (VS.wrap _) (by omega)]; symm; simp; omega

/-- all of S become neighbours of each other -/
theorem inner_ok {n v : Nat} (F L : List Int) (S : Int) (h16 : n ≤ 16) (hF : F.length = n) (hV : ∀ u, u < n → VS (F.getD u 0)) (hS : VS S) (hSn : ∀ w, has S w = true → w < n) (hL : idx L (v : Int) = some S) :
    ∃ F', (loopF (σ := (List Int) × Int) (ρ := ((List Int))) (fun (s_776 : (List Int) × Int) => match s_776 with | (l_779, x_782) => cond (decide (x_782 < ((elems S).length : Int))) ((idx (elems S) x_782).bind fun e_820 => (idx l_779 e_820).bind fun e_826 => (idx L (v : Int)).bind fun e_832 => (D.impl_one e_820).bind fun y_838 => (idx l_779 e_820).bind fun e_841 => some (.inl ((l_779.set (Int.toNat e_820) (ior .u32 e_826 (iandNot .u32 e_832 y_838))), (IntKind.i64.wrap (x_782 + 1))))) (some (.inr l_779))) (F, 0)) = some F' ∧
      (F'.length = n ∧ (∀ u, u < n → VS (F'.getD u 0)) ∧ ∀ u w, u < n → nb F' u w = (nb F u w || (has S u && has S w && decide (w ≠ u)))) := by
  have key := loop_then (k := fun r => some r) (Q := fun F' : List Int => F'.length = n ∧ (∀ u, u < n → VS (F'.getD u 0)) ∧ ∀ u w, u < n → nb F' u w = (nb F u w || (has S u && has S w && decide (w ≠ u))))
    (step := (fun (s_776 : (List Int) × Int) => match s_776 with | (l_779, x_782) => cond (decide (x_782 < ((elems S).length : Int))) ((idx (elems S) x_782).bind fun e_820 => (idx l_779 e_820).bind fun e_826 => (idx L (v : Int)).bind fun e_832 => (D.impl_one e_820).bind fun y_838 => (idx l_779 e_820).bind fun e_841 => some (.inl ((l_779.set (Int.toNat e_820) (ior .u32 e_826 (iandNot .u32 e_832 y_838))), (IntKind.i64.wrap (x_782 + 1))))) (some (.inr l_779)))) (s := (F, 0))
    (fun s => ∃ i : Nat, s.2 = (i : Int) ∧ i ≤ (elems S).length ∧ s.1.length = n ∧ (∀ u, u < n → VS (s.1.getD u 0)) ∧ ∀ u w, u < n → nb s.1 u w = (nb F u w || (decide ((u : Int) ∈ (elems S).take i) && has S w && decide (w ≠ u)))) (fun s => (elems S).length - s.2.toNat)
    (fun F' => F'.length = n ∧ (∀ u, u < n → VS (F'.getD u 0)) ∧ ∀ u w, u < n → nb F' u w = (nb F u w || (has S u && has S w && decide (w ≠ u)))) ?_ ⟨0, rfl, by omega, hF, hV, fun u w _ => by simp⟩ (fun r hr => ⟨r, rfl, hr⟩)
  · obtain ⟨y, hy, hq⟩ := key
    rw [Option.bind_eq_some_iff] at hy
    obtain ⟨a, ha, hb⟩ := hy
    cases hb
    exact ⟨_, ha, hq⟩
  · rintro ⟨l, _⟩ ⟨i, rfl, hi, hl, hv, hh⟩
    dsimp only at hl hv hh ⊢
    have hle := elems_len S
    by_cases hlt : i < (elems S).length
    · obtain ⟨u0, h1, h2, h3⟩ := mem_elems.1 (List.getElem_mem hlt)
      have h4 := hSn u0 h2
      simp only [dlt hlt, cond_true, idx_nat hlt, Option.bind_some, h3, idx_nat (show u0 < l.length by omega), hL, impl_one_eq, wi (show i < 4611686018427387904 by omega), Int.toNat_natCast]
      refine ⟨_, rfl, ⟨i + 1, rfl, by omega, by simp [hl], fun u hu => ?_, fun u w hu => ?_⟩, by dsimp only; omega⟩
      · rw [getD_set _ _ _ _ (by omega)]
        split
        · exact VS.ior _ _
        · exact hv u hu
      · have hmem : ((u : Int) ∈ (elems S).take (i + 1)) ↔ ((u : Int) ∈ (elems S).take i ∨ u = u0) := by
          rw [List.take_succ_eq_append_getElem hlt, List.mem_append, h3]
          simp [Int.natCast_inj]
        unfold nb
        rw [getD_set _ _ _ _ (by omega)]
        by_cases hc : u = u0
        · subst hc
          rw [if_pos rfl]
          have hg : l[u] = l.getD u 0 := (getD_lt (by omega) 0).symm
          rw [hg, has_ior (hv u hu) (VS.iandNot _ _), has_iandNot hS (VS.ishl _ _), has_one (by omega)]
          have := hh u w hu
          unfold nb at this
          rw [this, decide_eq_true (hmem.2 (.inr rfl))]
          cases has (F.getD u 0) w <;> cases has S w <;> by_cases hw : w = u <;> simp [hw]
        · rw [if_neg hc]
          have := hh u w hu
          unfold nb at this
          rw [this]
          have : decide ((u : Int) ∈ (elems S).take (i + 1)) = decide ((u : Int) ∈ (elems S).take i) := by
            rw [Bool.eq_iff_iff, decide_eq_true_eq, decide_eq_true_eq, hmem]; simp [hc]
          rw [this]
    · obtain rfl : i = (elems S).length := by omega
      simp only [dnlt, cond_false]
      refine ⟨_, rfl, hl, hv, fun u w hu => ?_⟩
      rw [hh u w hu, List.take_length]
      congr 3
      rw [Bool.eq_iff_iff, decide_eq_true_eq, mem_elems_nat hS]

/-- the order is a perfect elimination order -/
def PEO (F : List Int) (o : List Int) : Prop := ∀ (j : Nat) (v u w : Nat), o[j]? = some (v : Int) → nb F v u = true → nb F v w = true → (u : Int) ∉ o.take (j + 1) → (w : Int) ∉ o.take (j + 1) → u ≠ w → nb F u w = true
/-- later neighbours -/
def Lat (F L : List Int) (o : List Int) (i : Nat) : Prop := ∀ (j : Nat) (v : Nat), j < i → o[j]? = some (v : Int) → ∀ w, nb L v w = (nb F v w && decide ((w : Int) ∉ o.take (j + 1)))

structure EInv (n : Nat) (F0 o : List Int) (i : Nat) (F L : List Int) (left : Int) : Prop where
  f : FOk F n
  lenL : L.length = n
  vsL : ∀ u, u < n → VS (L.getD u 0)
  vsl : VS left
  left : ∀ v, has left v = decide (v < n ∧ (v : Int) ∉ o.take i)
  mono : ∀ u w, u < n → nb F0 u w = true → nb F u w = true
  lat : Lat F L o i
  peo : ∀ (j : Nat) (v u w : Nat), j < i → o[j]? = some (v : Int) → nb F v u = true → nb F v w = true → (u : Int) ∉ o.take (j + 1) → (w : Int) ∉ o.take (j + 1) → u ≠ w → nb F u w = true
  same : PEO F0 o → F = F0

theorem mem_take_mono {o : List Int} {j i : Nat} (h : j ≤ i) {x : Int} (hx : x ∈ o.take j) : x ∈ o.take i := by
  rw [mem_take_iff] at hx ⊢
  obtain ⟨k, h1, h2, h3⟩ := hx
  exact ⟨k, h1, by omega, h3⟩

theorem EInv.step {n : Nat} {F0 o F L : List Int} {i v : Nat} {left : Int} (h16 : n ≤ 16) (hn : ∀ x ∈ o, 0 ≤ x ∧ x < n) (hnd : o.Nodup) (hi : i < o.length) (hv : o[i] = (v : Int)) (h : EInv n F0 o i F L left) {F' : List Int}
    (hl' : F'.length = n) (hv' : ∀ u, u < n → VS (F'.getD u 0)) (h' : ∀ u w, u < n → nb F' u w = (nb F u w || (has (iand .u32 (F.getD v 0) (iandNot .u32 left (ishl .u32 1 (v : Int)))) u && has (iand .u32 (F.getD v 0) (iandNot .u32 left (ishl .u32 1 (v : Int)))) w && decide (w ≠ u)))) :
    EInv n F0 o (i + 1) F' (L.set v (iand .u32 (F.getD v 0) (iandNot .u32 left (ishl .u32 1 (v : Int))))) (iandNot .u32 left (ishl .u32 1 (v : Int))) := by
  have hvn : v < n := by have := hn _ (List.getElem_mem hi); omega
  have hvt : (v : Int) ∉ o.take i := by rw [← hv]; exact nodup_iff.1 hnd i hi
  have htk : ∀ x : Nat, ((x : Int) ∈ o.take (i + 1)) ↔ ((x : Int) ∈ o.take i ∨ x = v) := fun x => by
    rw [List.take_succ_eq_append_getElem hi, List.mem_append, hv]; simp [Int.natCast_inj]
  have hleft : ∀ w, has (iandNot .u32 left (ishl .u32 1 (v : Int))) w = decide (w < n ∧ (w : Int) ∉ o.take (i + 1)) := fun w => by
    rw [has_iandNot h.vsl (VS.ishl _ _), has_one (by omega), h.left, Bool.eq_iff_iff]
    simp only [Bool.and_eq_true, decide_eq_true_eq, Bool.not_eq_true', decide_eq_false_iff_not, htk]
    constructor
    · rintro ⟨⟨a, b⟩, c⟩; exact ⟨a, fun hh => hh.elim b c⟩
    · rintro ⟨a, b⟩; exact ⟨⟨a, fun hh => b (.inl hh)⟩, fun hh => b (.inr hh)⟩
  have hS : ∀ w, has (iand .u32 (F.getD v 0) (iandNot .u32 left (ishl .u32 1 (v : Int)))) w = (nb F v w && decide ((w : Int) ∉ o.take (i + 1))) := fun w => by
    rw [has_iand (h.f.vs v hvn) (VS.iandNot _ _), hleft, Bool.eq_iff_iff]
    show (nb F v w && _) = true ↔ _
    simp only [Bool.and_eq_true, decide_eq_true_eq]
    exact ⟨fun ⟨a, b, c⟩ => ⟨a, c⟩, fun ⟨a, c⟩ => ⟨a, h.f.lt v w hvn a, c⟩⟩
  have hlV : VS (iandNot .u32 left (ishl .u32 1 (v : Int))) := VS.iandNot _ _
  generalize iandNot .u32 left (ishl .u32 1 (v : Int)) = left' at *
  generalize hSS : iand .u32 (F.getD v 0) left' = S at *
  have hSV : VS S := by rw [← hSS]; exact VS.iand _ _
  have hSlt : ∀ w, has S w = true → w < n ∧ (w : Int) ∉ o.take (i + 1) := fun w hw => by
    rw [hS] at hw
    simp only [Bool.and_eq_true, decide_eq_true_eq] at hw
    exact ⟨h.f.lt v w hvn hw.1, hw.2⟩
  have hmono : ∀ u w, u < n → nb F u w = true → nb F' u w = true := fun u w hu hh => by rw [h' u w hu, hh]; rfl
  -- rows of those that are gone do not change
  have hold : ∀ x : Nat, x < n → (x : Int) ∈ o.take (i + 1) → ∀ w, nb F' x w = nb F x w := fun x hx hm w => by
    rw [h' x w hx]
    have : has S x = false := by
      cases hc : has S x
      · rfl
      · exact absurd hm (hSlt x hc).2
    simp [this]
  have hf' : FOk F' n := by
    refine ⟨hl', hv', fun u w hu hh => ?_, fun u hu => ?_, fun u w hu hh => ?_⟩
    · rw [h' u w hu] at hh
      simp only [Bool.or_eq_true, Bool.and_eq_true] at hh
      rcases hh with hh | ⟨⟨_, hh⟩, _⟩
      · exact h.f.lt u w hu hh
      · exact (hSlt w hh).1
    · rw [h' u u hu, h.f.irr u hu]; simp
    · rw [h' u w hu] at hh
      simp only [Bool.or_eq_true, Bool.and_eq_true, decide_eq_true_eq] at hh
      rcases hh with hh | ⟨⟨h1, h2⟩, h3⟩
      · exact hmono w u (h.f.lt u w hu hh) (h.f.sym u w hu hh)
      · rw [h' w u (hSlt w h2).1, h1, h2]
        have : decide (u ≠ w) = true := by simpa using fun e => h3 e.symm
        simp [this]
  have hjv : ∀ j (x : Nat), o[j]? = some (x : Int) → j < o.length ∧ x < n ∧ (x : Int) ∈ o.take (j + 1) := fun j x hx => by
    obtain ⟨h1, h2⟩ := List.getElem?_eq_some_iff.1 hx
    have := hn _ (List.getElem_mem h1)
    refine ⟨h1, by omega, ?_⟩
    rw [mem_take_iff]; exact ⟨j, h1, by omega, h2⟩
  refine ⟨hf', by simp [h.lenL], fun u hu => ?_, hlV, hleft, fun u w hu hh => hmono u w hu (h.mono u w hu hh), fun j x hj hx w => ?_, fun j x u w hj hx h1 h2 h3 h4 h5 => ?_, fun hp => ?_⟩
  · rw [getD_set _ _ _ _ (by rw [h.lenL]; exact hvn)]
    split
    · exact hSV
    · exact h.vsL u hu
  · obtain ⟨k1, k2, k3⟩ := hjv j x hx
    have k4 := mem_take_mono (show j + 1 ≤ i + 1 by omega) k3
    rw [hold x k2 k4 w]
    unfold nb
    rw [getD_set _ _ _ _ (by rw [h.lenL]; exact hvn)]
    by_cases hji : j = i
    · subst hji
      rw [List.getElem?_eq_getElem hi, hv] at hx
      have : x = v := by
        have : (v : Int) = (x : Int) := by simpa using hx
        omega
      subst this
      rw [if_pos rfl, hS]; rfl
    · have hne : x ≠ v := fun e => by
        subst e
        exact hvt (mem_take_mono (show j + 1 ≤ i by omega) k3)
      rw [if_neg hne]
      exact h.lat j x (by omega) hx w
  · obtain ⟨k1, k2, k3⟩ := hjv j x hx
    have k4 := mem_take_mono (show j + 1 ≤ i + 1 by omega) k3
    rw [hold x k2 k4] at h1 h2
    by_cases hji : j = i
    · subst hji
      rw [List.getElem?_eq_getElem hi, hv] at hx
      have : x = v := by
        have : (v : Int) = (x : Int) := by simpa using hx
        omega
      subst this
      have hu : has S u = true := by rw [hS, h1]; simpa using h3
      have hw : has S w = true := by rw [hS, h2]; simpa using h4
      rw [h' u w (hSlt u hu).1, hu, hw]
      have : decide (w ≠ u) = true := by simpa using fun e => h5 e.symm
      simp [this]
    · exact hmono u w (h.f.lt x u k2 h1) (h.peo j x u w (by omega) hx h1 h2 h3 h4 h5)
  · have hFF := h.same hp
    subst hFF
    refine FOk.ext hl' h.f.len hv' h.f.vs (fun u w hu => ?_)
    rw [h' u w hu, Bool.eq_iff_iff]
    simp only [Bool.or_eq_true, Bool.and_eq_true, decide_eq_true_eq]
    constructor
    · rintro (hh | ⟨⟨h1, h2⟩, h3⟩)
      · exact hh
      · have k1 := (hSlt u h1).2; have k2 := (hSlt w h2).2
        rw [hS] at h1 h2
        simp only [Bool.and_eq_true] at h1 h2
        exact hp i v u w (by rw [List.getElem?_eq_getElem hi, hv]) h1.1 h2.1 k1 k2 (fun e => h3 e.symm)
    · exact .inl

theorem elim_ok {n : Nat} {F0 o : List Int} (h16 : n ≤ 16) (h0 : FOk F0 n) (hl : o.length = n) (hn : ∀ x ∈ o, 0 ≤ x ∧ x < n) (hnd : o.Nodup) :
    ∃ y, D.impl_elimination F0 o = some y ∧ ∃ left, EInv n F0 o n y.1 y.2 left := by
  have hlen := h0.len
  unfold D.impl_elimination
  rw [appendD_ok (by simp; omega), Option.bind_some]
  obtain ⟨s, e1, hs1, hs2⟩ := nets_all_eq F0 (by omega)
  rw [e1, Option.bind_some, makeD_ok (by omega) (by omega), Option.bind_some]
  simp only [Option.bind_some, List.nil_append]
  refine loop_then (fun st => ∃ i : Nat, st.2.2.2 = (i : Int) ∧ i ≤ n ∧ EInv n F0 o i st.1 st.2.1 st.2.2.1) (fun st => n - st.2.2.2.toNat) (fun r => ∃ left, EInv n F0 o n r.1 r.2 left) ?_ ?_ ?_
  · rintro ⟨F, L, left, _⟩ ⟨i, rfl, hi, h⟩
    dsimp only at h ⊢
    rw [hl]
    by_cases hlt : i < n
    · have hio : i < o.length := by omega
      obtain ⟨v, hv⟩ : ∃ v : Nat, o[i] = (v : Int) := ⟨(o[i]).toNat, by have := hn _ (List.getElem_mem hio); omega⟩
      have hvn : v < n := by have := hn _ (List.getElem_mem hio); omega
      have hFv : idx F (v : Int) = some (F.getD v 0) := by rw [idx_nat (by rw [h.f.len]; omega), getD_lt (by rw [h.f.len]; omega)]
      have hLs : idx (L.set v (iand .u32 (F.getD v 0) (iandNot .u32 left (ishl .u32 1 (v : Int))))) (v : Int) = some (iand .u32 (F.getD v 0) (iandNot .u32 left (ishl .u32 1 (v : Int)))) := by
        rw [idx_nat (by simp [h.lenL]; omega)]; simp
      simp only [dlt hlt, cond_true, idx_nat hio, hv, Option.bind_some, impl_one_eq, hFv, idx_nat (show v < L.length by rw [h.lenL]; omega), Int.toNat_natCast]
      rw [hLs]
      simp only [Option.bind_some, list_eq _ (VS.iand _ _)]
      have hSlt : ∀ w, has (iand .u32 (F.getD v 0) (iandNot .u32 left (ishl .u32 1 (v : Int)))) w = true → w < n := fun w hw => by
        rw [has_iand (h.f.vs v hvn) (VS.iandNot _ _)] at hw
        simp only [Bool.and_eq_true] at hw
        exact h.f.lt v w hvn hw.1
      obtain ⟨F', e2, k1, k2, k3⟩ := inner_ok F _ _ h16 h.f.len h.f.vs (VS.iand _ _) hSlt hLs
      rw [hLs] at e2
      refine bind_eq (x := F') e2 ?_
      rw [wi (show i < 4611686018427387904 by omega)]
      exact ⟨_, rfl, ⟨i + 1, rfl, by omega, h.step h16 hn hnd hio hv k1 k2 k3⟩, by dsimp only; omega⟩
    · obtain rfl : i = n := by omega
      simp only [dnlt, cond_false]
      exact ⟨_, rfl, _, h⟩
  · refine ⟨0, rfl, by omega, h0, by simp [hlen], fun u hu => ?_, hs1, fun v => by rw [hs2, hlen]; simp, fun u w _ h => h, fun j v hj => by omega, fun j v u w hj => by omega, fun _ => rfl⟩
    rw [List.getD_eq_getElem?_getD, List.getElem?_replicate]
    split <;> exact VS.zero
  · rintro ⟨F, L⟩ h
    exact ⟨_, rfl, h⟩
end Go.Sx

/- How many a set has. Plain. -/
namespace Go.Sx
def cnt (n k : Nat) : Nat := ((List.range k).filter (fun i => n.testBit i)).length
theorem cnt_add (n a b : Nat) : cnt n (a + b) = cnt n a + cnt (n >>> a) b := by
  unfold cnt
  rw [List.range_add, List.filter_append, List.length_append, List.filter_map, List.length_map]
  congr 2
  apply List.filter_congr
  intro i _
  simp [Nat.testBit_shiftRight]
theorem cnt_mod (n k : Nat) : cnt (n % 2 ^ k) k = cnt n k := by
  unfold cnt
  congr 1
  apply List.filter_congr
  intro i hi
  have := List.mem_range.1 hi
  rw [Nat.testBit_mod_two_pow]; simp [this]
theorem elems_length (n : Nat) : (elems (n : Int)).length = cnt n 32 := by
  unfold elems cnt
  rw [List.length_map]
  rfl
theorem pop_all : ∀ b : Fin 256, strAt popTab (b.val : Int) = some ((cnt b.val 8 : Nat) : Int) := by decide +kernel
theorem pop_at {b : Nat} (h : b < 256) : strAt popTab (b : Int) = some ((cnt b 8 : Nat) : Int) := pop_all ⟨b, h⟩
theorem cnt_le (n k : Nat) : cnt n k ≤ k := by
  unfold cnt
  exact Nat.le_trans (List.length_filter_le _ _) (by simp)
theorem wrap8 {x : Int} (h0 : 0 ≤ x) (h : x < 256) : IntKind.u8.wrap x = x := by
  simp [IntKind.wrap, IntKind.signed, IntKind.bits]; omega

theorem OnesCount32_eq {s : Int} (h : VS s) : D.math_bits_OnesCount32 s = some ((elems s).length : Int) := by
  obtain ⟨n, rfl, hn⟩ := h.nat
  have s24 : ishr .u32 (n : Int) 24 = ((n >>> 24 : Nat) : Int) := shr_eq (n : Int) 24 h (by omega)
  have s16 : ishr .u32 (n : Int) 16 = ((n >>> 16 : Nat) : Int) := shr_eq (n : Int) 16 h (by omega)
  have s8 : ishr .u32 (n : Int) 8 = ((n >>> 8 : Nat) : Int) := shr_eq (n : Int) 8 h (by omega)
  have lt : ∀ k, n >>> k < 4294967296 := fun k => by
    rw [Nat.shiftRight_eq_div_pow]; exact Nat.lt_of_le_of_lt (Nat.div_le_self _ _) hn
  have a255 : ∀ m : Nat, m < 4294967296 → iand .u32 (m : Int) 255 = ((m % 256 : Nat) : Int) := fun m hm => by
    have := iand_nat hm (show (255 : Nat) < 4294967296 by omega)
    rw [show ((255 : Nat) : Int) = 255 from rfl] at this
    rw [this]
    congr 1
    exact Nat.and_two_pow_sub_one_eq_mod (n := 8) m
  have h24 : n >>> 24 < 256 := by rw [Nat.shiftRight_eq_div_pow]; exact Nat.div_lt_of_lt_mul (by simpa using hn)
  have ec : cnt n 32 = cnt (n % 256) 8 + cnt (n >>> 8 % 256) 8 + cnt (n >>> 16 % 256) 8 + cnt (n >>> 24) 8 := by
    rw [show (32 : Nat) = 8 + (8 + (8 + 8)) from rfl, cnt_add n 8, cnt_add _ 8, cnt_add _ 8]
    have e1 := cnt_mod n 8; have e2 := cnt_mod (n >>> 8) 8; have e3 := cnt_mod (n >>> 16) 8
    simp only [show (2 : Nat) ^ 8 = 256 from rfl] at e1 e2 e3
    rw [e1, e2, e3]
    simp only [← Nat.shiftRight_add, Nat.reduceAdd]
    omega
  unfold D.math_bits_OnesCount32
  rw [s24, s16, s8, a255 _ (lt 16), a255 _ (lt 8), a255 n hn, pop_at h24, pop_at (Nat.mod_lt _ (by omega)), pop_at (Nat.mod_lt _ (by omega)), pop_at (Nat.mod_lt _ (by omega))]
  simp only [Option.bind_some]
  have c1 := cnt_le (n >>> 24) 8; have c2 := cnt_le (n >>> 16 % 256) 8; have c3 := cnt_le (n >>> 8 % 256) 8; have c4 := cnt_le (n % 256) 8
  generalize cnt (n >>> 24) 8 = a at *; generalize cnt (n >>> 16 % 256) 8 = b at *; generalize cnt (n >>> 8 % 256) 8 = c at *; generalize cnt (n % 256) 8 = d at *
  rw [wrap8 (x := (a : Int) + b) (by omega) (by omega), wrap8 (x := (a : Int) + b + c) (by omega) (by omega), wrap8 (x := (a : Int) + b + c + d) (by omega) (by omega), w64 (by omega) (by omega), elems_length, ec]
  congr 1
  omega
theorem size_eq {s : Int} (h : VS s) : D.impl_vset_size s = some ((elems s).length : Int) := by
  unfold D.impl_vset_size; rw [OnesCount32_eq h]; rfl
end Go.Sx

/- Trees of bags: the reference's own check, where it answers true. Plain. -/
namespace Go.Sx
theorem nodup_le : ∀ {l m : List Int}, l.Nodup → (∀ x ∈ l, x ∈ m) → l.length ≤ m.length
  | [], _, _, _ => by simp
  | x :: l, m, h, hs => by
    have h' := List.nodup_cons.1 h
    have hx := hs x (by simp)
    have := nodup_le (l := l) (m := m.erase x) h'.2 (fun y hy => by
      have hne : y ≠ x := fun e => h'.1 (e ▸ hy)
      exact (List.mem_erase_of_ne hne).2 (hs y (by simp [hy])))
    rw [List.length_erase_of_mem hx] at this
    have hp : 0 < m.length := List.length_pos_of_mem hx
    simp; omega
theorem nodup_all {l m : List Int} (hl : l.Nodup) (hm : m.Nodup) (h : ∀ x ∈ l, x ∈ m) (h' : ∀ x ∈ m, x ∈ l) : l.length = m.length :=
  Nat.le_antisymm (nodup_le hl h) (nodup_le hm h')
theorem Inc.nodup {l : List Int} (h : Inc l) : l.Nodup := List.Pairwise.imp (fun h e => by omega) h

/-- which bags have a vertex -/
def withV (bags : List (List Int)) (v : Int) : List Int := ((List.range bags.length).filter fun b => decide (v ∈ bags.getD b [])).map Int.ofNat
/-- linked -/
def Lk (links : List (List Int)) (x y : Int) : Prop := [x, y] ∈ links ∨ [y, x] ∈ links
/-- m has the first of sel, and with each what is linked in sel -/
structure Closed (links : List (List Int)) (sel m : List Int) : Prop where
  sub : ∀ x ∈ m, x ∈ sel
  first : ∀ x, sel.head? = some x → x ∈ m
  step : ∀ x ∈ m, ∀ y ∈ sel, Lk links x y → y ∈ m

/-- all of sel hangs together -/
def Conn (links : List (List Int)) (sel : List Int) : Prop := ∀ m, Closed links sel m → ∀ x ∈ sel, x ∈ m
end Go.Sx

/- A tree of bags that is right, by the reference's own check. Plain. -/
namespace Go.Sx
/-- a link of two bags, the lesser one first -/
def LinkIn (n : Nat) (l : List Int) : Prop := ∃ a b : Nat, l = [(a : Int), (b : Int)] ∧ a < b ∧ b < n

theorem l1Edges_ok (g : List (List Int)) (hg : GOk g) : ∃ y, D.spec_l1Edges g = some y ∧ (y.length ≤ 256 ∧ ∀ e ∈ y, ∃ u v : Nat, e = [(u : Int), (v : Int)] ∧ u < g.length ∧ adj g u v ∧ u < v) := by
  have h16 := hg.n16
  unfold D.spec_l1Edges
  refine loop_then (fun s => ∃ u : Nat, s.2 = (u : Int) ∧ u ≤ g.length ∧ s.1.length ≤ 16 * u ∧ ∀ e ∈ s.1, ∃ u v : Nat, e = [(u : Int), (v : Int)] ∧ u < g.length ∧ adj g u v ∧ u < v) (fun s => g.length - s.2.toNat)
    (fun r => r.length ≤ 256 ∧ ∀ e ∈ r, ∃ u v : Nat, e = [(u : Int), (v : Int)] ∧ u < g.length ∧ adj g u v ∧ u < v) ?_ ⟨0, rfl, by omega, by simp, by simp⟩ ?_
  · rintro ⟨l, _⟩ ⟨u, rfl, hu, hl, hE⟩
    dsimp only at hl hE ⊢
    unfold D.spec_l1Size
    simp only [Option.bind_some]
    by_cases hug : u < g.length
    · have hrl := hg.row_len hug
      simp only [dlt hug, cond_true]
      refine loop_then (fun s => ∃ i : Nat, s.2 = (i : Int) ∧ i ≤ (row g u).length ∧ s.1.length ≤ 16 * u + i ∧ ∀ e ∈ s.1, ∃ u v : Nat, e = [(u : Int), (v : Int)] ∧ u < g.length ∧ adj g u v ∧ u < v) (fun s => (row g u).length - s.2.toNat)
        (fun r => r.length ≤ 16 * u + 16 ∧ ∀ e ∈ r, ∃ u v : Nat, e = [(u : Int), (v : Int)] ∧ u < g.length ∧ adj g u v ∧ u < v) ?_ ⟨0, rfl, by omega, by dsimp only; omega, hE⟩ ?_
      · rintro ⟨l, _⟩ ⟨i, rfl, hi, hl, hE⟩
        dsimp only at hl hE ⊢
        simp only [idx_row hug, Option.bind_some]
        by_cases hir : i < (row g u).length
        · obtain ⟨v, ev, hv, hav⟩ := hg.mem hug (List.getElem_mem hir)
          simp only [dlt hir, cond_true, idx_nat hir, ev, Option.bind_some, wi (show i < 4611686018427387904 by omega)]
          by_cases huv : u < v
          · simp only [dlt huv, cond_true]
            rw [appendD_ok (by simp; omega), Option.bind_some]
            refine ⟨_, rfl, ⟨i + 1, rfl, by omega, by simp; omega, fun e he => ?_⟩, by dsimp only; omega⟩
            rcases List.mem_append.1 he with he | he
            · exact hE e he
            · simp at he; subst he; exact ⟨u, v, rfl, hug, hav, huv⟩
          · have : decide ((u : Int) < (v : Int)) = false := by simp; omega
            simp only [this, cond_false]
            exact ⟨_, rfl, ⟨i + 1, rfl, by omega, by dsimp only; omega, hE⟩, by dsimp only; omega⟩
        · obtain rfl : i = (row g u).length := by omega
          simp only [dnlt, cond_false]
          exact ⟨_, rfl, by omega, hE⟩
      · rintro r ⟨h1, h2⟩
        simp only [wi (show u < 4611686018427387904 by omega)]
        exact ⟨_, rfl, ⟨u + 1, rfl, by omega, by dsimp only; omega, h2⟩, by dsimp only; omega⟩
    · obtain rfl : u = g.length := by omega
      simp only [dnlt, cond_false]
      exact ⟨_, rfl, by omega, hE⟩
  · rintro r hr
    exact ⟨_, rfl, hr⟩

/-- what a tree of bags of a graph is -/
structure TB (g bags links : List (List Int)) : Prop where
  n1 : 1 ≤ bags.length
  n16 : bags.length ≤ 16
  many : links.length + 1 = bags.length
  lks : ∀ l ∈ links, LinkIn bags.length l
  sets : ∀ b ∈ bags, SetOf b g.length
  tree : Conn links ((List.range bags.length).map Int.ofNat)
  edges : ∀ u v : Nat, u < g.length → adj g u v → ∃ b ∈ bags, (u : Int) ∈ b ∧ (v : Int) ∈ b
  some : ∀ v, v < g.length → withV bags v ≠ []
  conn : ∀ v, v < g.length → Conn links (withV bags v)

end Go.Sx
