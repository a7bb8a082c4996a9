/- Parts of the proof: T1W, U1W, Qa, Qb, Pa, Pb, Pc, Pd, Pe, Pf, Pg. -/
import Derived.Test.YteegnmdggpcphaaDoorPd5
import Derived.Test.YteegnmdggpcphaaDoorProg
import Derived.KernelRfl
import Derived.Lib.TrailingZeros
set_option linter.unusedVariables false
set_option linter.unusedSimpArgs false
set_option linter.unusedSectionVars false
set_option maxRecDepth 100000
namespace Go.Proofs.YteegnmdggpcphaaDoor
open Go Go.Sx
theorem Wk.laws_heldInt64SS {W w : World} {G : GH} {H : List Itm} {v0 : Value} {x0 : (List (List Int))} {x1 : Int} (m : Mem W G w (H)) (h0 : RSl (RSl (RI .i64)) G v0 x0) {y : Int} (hd : D.laws_heldInt64SS x0 x1 = some y) :
  Calls Tryd.prog 29 #[v0, (.int .i64 x1)] w (Res W G H (fun _ Ho v => Ho = [] ∧ v = (.int .i64 y))) := by
 refine calls_b (args := [v0, (.int .i64 x1)]) (N := 21) [.tmp 4] Tryd.func29 rfl rfl (Nat.le_of_ble_eq_true rfl) rfl (fun a f => ?_)
 unfold D.laws_heldInt64SS at hd
 refine k_seq ?_
 refine k_region ?_
 refine l_op f rfl rfl rfl (r_assign (f.eval rfl)) (fun a f => ?_)
 refine l_nil ?_
 refine k_seq ?_
 refine k_seq ?_
 refine k_region ?_
 refine l_op f rfl rfl rfl (r_assign (f.eval rfl)) (fun a f => ?_)
 refine l_nil ?_
 obtain ⟨q_34, hl_35, hd⟩ := bind_some hd
 refine k_cut (fun a w => ∃ q_34' : Int, q_34 = .inl q_34' ∧ ∃ x_60 : Int, x_60 = q_34' ∧ ∃ (G_59 : GH), GLe G G_59 ∧ Fr a 21 [(1, (.int .i64 x_60))] ∧ Mem W G_59 w (H)) ?_ ?_
 ·refine k_block ?_
  refine k_loop (fun s_38 a w => ∃ x_41 : Int, ∃ x_42 : Int, (x_41, x_42) = s_38 ∧ ∃ (G_40 : GH), GLe G G_40 ∧ Fr a 21 [(0, v0), (1, (.int .i64 x_41)), (5, (.int .i64 x_42))] ∧ Mem W G_40 w (H)) hl_35 ⟨_, _, rfl, _, (GLe.refl _), f.weak ⟨rfl, rfl, rfl, trivial⟩, m⟩ ?_
  clear hl_35 f m
  rintro s_38 o_39 hs_36 hq_37 a w ⟨x_41, x_42, rfl, G_40, hl_43, f, m⟩
  have h0 := RSl.mono (RSl.mono (RI.mono _)) _ _ _ _ hl_43 h0
  refine k_seq ?_
  refine k_seq ?_
  refine k_region ?_
  refine l_op f rfl rfl rfl (r_move (f.eval rfl)) (fun a f => ?_)
  refine l_op f rfl rfl rfl (r_move (f.eval rfl)) (fun a f => ?_)
  refine l_len Tryd.underlying22 f rfl rfl h0 (fun a f => ?_)
  refine l_op f rfl rfl rfl (r_int (f.eval rfl) (f.eval rfl) b_lss) (fun a f => ?_)
  refine l_nil ?_
  rcases cond_some hs_36 with ⟨hc_62, hs_36⟩ | ⟨hc_62, hs_36⟩
  ·refine k_true f rfl hc_62 ?_
   refine k_skip ?_
   refine k_seq ?_
   refine k_block ?_
   refine k_seq ?_
   refine k_region ?_
   refine l_op f rfl rfl rfl (r_move (f.eval rfl)) (fun a f => ?_)
   refine l_op f rfl rfl rfl (r_move (f.eval rfl)) (fun a f => ?_)
   obtain ⟨e_63, he_64, hs_36⟩ := bind_some hs_36
   refine l_at T22 f rfl rfl rfl h0 he_64 (fun p_65 c_66 a g_67 h_68 f => ?_)
   refine l_loadAt m Pl25 f rfl rfl g_67 (fun a f => ?_)
   refine l_op f rfl rfl rfl (r_move (f.eval rfl)) (fun a f => ?_)
   obtain ⟨y_69, hy_70, hs_36⟩ := bind_some hs_36
   refine l_res f rfl rfl Tryd.call103 (Wk.laws_heldInt64S m h_68 hy_70) (fun v_74 G_71 Ho_75 w hl_72 m hQ_73 a f => ?_)
   obtain ⟨rfl, rfl⟩ := hQ_73
   have h0 := RSl.mono (RSl.mono (RI.mono _)) _ _ _ _ hl_72 h0
   have g_67 := At.mono hl_72 g_67
   have h_68 := RSl.mono (RI.mono _) _ _ _ _ hl_72 h_68
   have m : Mem W G_71 w (H) := m
   refine l_op f rfl rfl rfl (r_assign (f.eval rfl)) (fun a f => ?_)
   refine l_nil ?_
   refine k_seq ?_
   refine k_region ?_
   refine l_op f rfl rfl rfl (r_move (f.eval rfl)) (fun a f => ?_)
   refine l_op f rfl rfl rfl (r_int (f.eval rfl) (f.eval rfl) b_lss) (fun a f => ?_)
   refine l_nil ?_
   rcases cond_some hs_36 with ⟨hc_76, hs_36⟩ | ⟨hc_76, hs_36⟩
   ·refine k_true f rfl hc_76 ?_
    refine k_seq ?_
    refine k_region ?_
    refine l_op f rfl rfl rfl (r_assign (f.eval rfl)) (fun a f => ?_)
    refine l_nil ?_
    refine k_ret ?_
    obtain rfl := Option.some.inj hs_36
    obtain rfl := hq_37 _ rfl
    obtain rfl := Option.some.inj hd
    exact ⟨[(.int .i64 (-1))], ⟨f.get _ _ rfl, trivial⟩, f.defers, _, [], (GLe.trans hl_43 hl_72), m, rfl, rfl⟩
   ·refine k_false f rfl hc_76 ?_
    refine k_skip ?_
    refine k_region ?_
    refine l_op f rfl rfl rfl (r_move (f.eval rfl)) (fun a f => ?_)
    refine l_op f rfl rfl rfl (r_int (f.eval rfl) (f.eval rfl) b_add) (fun a f => ?_)
    refine l_op f rfl rfl rfl (r_assign (f.eval rfl)) (fun a f => ?_)
    refine l_nil ?_
    obtain rfl := Option.some.inj hs_36
    exact ⟨_, rfl, _, _, rfl, _, (GLe.trans hl_43 hl_72), f.weak ⟨rfl, rfl, rfl, trivial⟩, m⟩
  ·refine k_false f rfl hc_62 ?_
   refine k_exit rfl ?_
   obtain rfl := Option.some.inj hs_36
   obtain rfl := hq_37 _ rfl
   exact ⟨_, rfl, _, rfl, _, hl_43, f.weak ⟨rfl, trivial⟩, m⟩
 ·rintro a w ⟨_, rfl, x_60, rfl, G_59, hl_61, f, m⟩
  refine k_seq ?_
  refine k_region ?_
  refine l_op f rfl rfl rfl (r_move (f.eval rfl)) (fun a f => ?_)
  refine l_op f rfl rfl rfl (r_assign (f.eval rfl)) (fun a f => ?_)
  refine l_nil ?_
  refine k_ret ?_
  obtain rfl := Option.some.inj hd
  exact ⟨[(.int .i64 x_60)], ⟨f.get _ _ rfl, trivial⟩, f.defers, _, [], hl_61, m, rfl, rfl⟩

theorem Wk.laws_heldDecomp {W w : World} {G : GH} {H : List Itm} {v0_0 : Value} {v0_1 : Value} {x0_0 : (List (List Int))} {x0_1 : (List (List Int))} {x1 : Int} (m : Mem W G w (H)) (h0_0 : RSl (RSl (RI .i64)) G v0_0 x0_0) (h0_1 : RSl (RSl (RI .i64)) G v0_1 x0_1) {y : Int} (hd : D.laws_heldDecomp x0_0 x0_1 x1 = some y) :
  Calls Tryd.prog 24 #[(.agg #[v0_0, v0_1]), (.int .i64 x1)] w (Res W G H (fun _ Ho v => Ho = [] ∧ v = (.int .i64 y))) := by
 refine calls_b (args := [(.agg #[v0_0, v0_1]), (.int .i64 x1)]) (N := 18) [.tmp 4] Tryd.func24 rfl rfl (Nat.le_of_ble_eq_true rfl) rfl (fun a f => ?_)
 unfold D.laws_heldDecomp at hd
 refine k_seq ?_
 refine k_region ?_
 refine l_box (cs := [v0_0, v0_1]) m f rfl rfl rfl (fun b_2 w a m f => ?_)
 refine l_op f rfl rfl rfl (r_assign (f.eval rfl)) (fun a f => ?_)
 refine l_nil ?_
 refine k_seq ?_
 refine k_region ?_
 refine l_fieldAddr Tryd.underlying28 rfl Tryd.sizeOf22 (by decide) f rfl rfl (fun a f => ?_)
 refine l_boxCell 0 0 m Pl22 f rfl rfl rfl rfl (fun a f => ?_)
 refine l_op f rfl rfl rfl (r_move (f.eval rfl)) (fun a f => ?_)
 obtain ⟨y_3, hy_4, hd⟩ := bind_some hd
 refine l_res f rfl rfl Tryd.call29 (Wk.laws_heldInt64SS m h0_0 hy_4) (fun v_8 G_5 Ho_9 w hl_6 m hQ_7 a f => ?_)
 obtain ⟨rfl, rfl⟩ := hQ_7
 have h0_0 := RSl.mono (RSl.mono (RI.mono _)) _ _ _ _ hl_6 h0_0
 have h0_1 := RSl.mono (RSl.mono (RI.mono _)) _ _ _ _ hl_6 h0_1
 have m : Mem W G_5 w (Itm.box b_2 28 [v0_0, v0_1] :: H) := m
 refine l_op f rfl rfl rfl (r_assign (f.eval rfl)) (fun a f => ?_)
 refine l_nil ?_
 refine k_seq ?_
 refine k_seq ?_
 refine k_region ?_
 refine l_op f rfl rfl rfl (r_move (f.eval rfl)) (fun a f => ?_)
 refine l_op f rfl rfl rfl (r_int (f.eval rfl) (f.eval rfl) b_lss) (fun a f => ?_)
 refine l_nil ?_
 rcases cond_some hd with ⟨hc_10, hd⟩ | ⟨hc_10, hd⟩
 ·refine k_true f rfl hc_10 ?_
  refine k_seq ?_
  refine k_region ?_
  refine l_op f rfl rfl rfl (r_assign (f.eval rfl)) (fun a f => ?_)
  refine l_nil ?_
  refine k_ret ?_
  have m : Mem W G_5 w H := Mem.drop (H' := [Itm.box b_2 28 [v0_0, v0_1]]) m
  obtain rfl := Option.some.inj hd
  exact ⟨[(.int .i64 (-1))], ⟨f.get _ _ rfl, trivial⟩, f.defers, _, [], hl_6, m, rfl, rfl⟩
 ·refine k_false f rfl hc_10 ?_
  refine k_skip ?_
  refine k_seq ?_
  refine k_region ?_
  refine l_fieldAddr Tryd.underlying28 rfl Tryd.sizeOf22 (by decide) f rfl rfl (fun a f => ?_)
  refine l_boxCell 0 1 m Pl22 f rfl rfl rfl rfl (fun a f => ?_)
  refine l_op f rfl rfl rfl (r_move (f.eval rfl)) (fun a f => ?_)
  obtain ⟨y_11, hy_12, hd⟩ := bind_some hd
  refine l_res f rfl rfl Tryd.call29 (Wk.laws_heldInt64SS m h0_1 hy_12) (fun v_16 G_13 Ho_17 w hl_14 m hQ_15 a f => ?_)
  obtain ⟨rfl, rfl⟩ := hQ_15
  have h0_0 := RSl.mono (RSl.mono (RI.mono _)) _ _ _ _ hl_14 h0_0
  have h0_1 := RSl.mono (RSl.mono (RI.mono _)) _ _ _ _ hl_14 h0_1
  have m : Mem W G_13 w (Itm.box b_2 28 [v0_0, v0_1] :: H) := m
  refine l_op f rfl rfl rfl (r_assign (f.eval rfl)) (fun a f => ?_)
  refine l_nil ?_
  refine k_seq ?_
  refine k_seq ?_
  refine k_region ?_
  refine l_op f rfl rfl rfl (r_move (f.eval rfl)) (fun a f => ?_)
  refine l_op f rfl rfl rfl (r_int (f.eval rfl) (f.eval rfl) b_lss) (fun a f => ?_)
  refine l_nil ?_
  rcases cond_some hd with ⟨hc_18, hd⟩ | ⟨hc_18, hd⟩
  ·refine k_true f rfl hc_18 ?_
   refine k_seq ?_
   refine k_region ?_
   refine l_op f rfl rfl rfl (r_assign (f.eval rfl)) (fun a f => ?_)
   refine l_nil ?_
   refine k_ret ?_
   have m : Mem W G_13 w H := Mem.drop (H' := [Itm.box b_2 28 [v0_0, v0_1]]) m
   obtain rfl := Option.some.inj hd
   exact ⟨[(.int .i64 (-1))], ⟨f.get _ _ rfl, trivial⟩, f.defers, _, [], (GLe.trans hl_6 hl_14), m, rfl, rfl⟩
  ·refine k_false f rfl hc_18 ?_
   refine k_skip ?_
   refine k_seq ?_
   refine k_region ?_
   refine l_op f rfl rfl rfl (r_move (f.eval rfl)) (fun a f => ?_)
   refine l_op f rfl rfl rfl (r_assign (f.eval rfl)) (fun a f => ?_)
   refine l_nil ?_
   refine k_ret ?_
   have m : Mem W G_13 w H := Mem.drop (H' := [Itm.box b_2 28 [v0_0, v0_1]]) m
   obtain rfl := Option.some.inj hd
   exact ⟨[(.int .i64 y_11)], ⟨f.get _ _ rfl, trivial⟩, f.defers, _, [], (GLe.trans hl_6 hl_14), m, rfl, rfl⟩

theorem Wk.laws_toInt64S {W w : World} {G : GH} {H : List Itm} {v0 : Value} {x0 : (List Int)} (m : Mem W G w (H)) (h0 : RSl (RI .i64) G v0 x0) {y : ((List Int))} (hd : D.laws_toInt64S x0 = some y) :
  Calls Tryd.prog 16 #[v0] w (Res W G H (fun G' Ho v => ∃ r0 : Value, ∃ i0 : Itm, Ho = [i0] ∧ r0 = v ∧ Ow (RI .i64) 2 G' i0 r0 y)) := by
 refine calls_b (args := [v0]) (N := 22) [.tmp 2] Tryd.func16 rfl rfl (Nat.le_of_ble_eq_true rfl) rfl (fun a f => ?_)
 unfold D.laws_toInt64S at hd
 refine k_seq ?_
 refine k_region ?_
 refine l_op f rfl rfl rfl (r_assign (f.eval rfl)) (fun a f => ?_)
 refine l_nil ?_
 refine k_seq ?_
 refine k_region ?_
 refine l_op f rfl rfl rfl (r_move (f.eval rfl)) (fun a f => ?_)
 refine l_len Tryd.underlying25 f rfl rfl h0 (fun a f => ?_)
 obtain ⟨l_1, hx_2, hd⟩ := bind_some hd
 refine l_make (R := (RI .i64)) m T25 rfl (by decide) rfl f rfl rfl rfl hx_2 (fun it_3 v_4 w a m o_5 f => ?_)
 refine l_op f rfl rfl rfl (r_assign (f.eval rfl)) (fun a f => ?_)
 refine l_nil ?_
 refine k_seq ?_
 refine k_seq ?_
 refine k_region ?_
 refine l_op f rfl rfl rfl (r_assign (f.eval rfl)) (fun a f => ?_)
 refine l_nil ?_
 obtain ⟨q_38, hl_39, hd⟩ := bind_some hd
 refine k_cut (fun a w => ∃ l_64 : List Int, l_64 = q_38 ∧ ∃ (G_63 : GH) (it_65 : Itm), GLe G G_63 ∧ Fr a 22 [(3, v_4)] ∧ Mem W G_63 w (it_65 :: H) ∧ Ow (RI .i64) 2 G_63 it_65 v_4 l_64) ?_ ?_
 ·refine k_block ?_
  refine k_loop (fun s_42 a w => ∃ l_45 : List Int, ∃ x_48 : Int, (l_45, x_48) = s_42 ∧ ∃ (G_44 : GH) (it_46 : Itm), GLe G G_44 ∧ Fr a 22 [(0, v0), (3, v_4), (4, (.int .i64 x_48))] ∧ Mem W G_44 w (it_46 :: H) ∧ Ow (RI .i64) 2 G_44 it_46 v_4 l_45) hl_39 ⟨_, _, rfl, _, it_3, (GLe.refl _), f.weak ⟨rfl, rfl, rfl, trivial⟩, m, o_5⟩ ?_
  clear hl_39 f m
  rintro s_42 o_43 hs_40 hq_41 a w ⟨l_45, x_48, rfl, G_44, it_46, hl_49, f, m, o_47⟩
  have h0 := RSl.mono (RI.mono _) _ _ _ _ hl_49 h0
  refine k_seq ?_
  refine k_seq ?_
  refine k_region ?_
  refine l_op f rfl rfl rfl (r_move (f.eval rfl)) (fun a f => ?_)
  refine l_op f rfl rfl rfl (r_move (f.eval rfl)) (fun a f => ?_)
  refine l_len Tryd.underlying25 f rfl rfl h0 (fun a f => ?_)
  refine l_op f rfl rfl rfl (r_int (f.eval rfl) (f.eval rfl) b_lss) (fun a f => ?_)
  refine l_nil ?_
  rcases cond_some hs_40 with ⟨hc_68, hs_40⟩ | ⟨hc_68, hs_40⟩
  ·refine k_true f rfl hc_68 ?_
   refine k_skip ?_
   refine k_seq ?_
   refine k_block ?_
   refine k_region ?_
   refine l_op f rfl rfl rfl (r_move (f.eval rfl)) (fun a f => ?_)
   refine l_op f rfl rfl rfl (r_move (f.eval rfl)) (fun a f => ?_)
   refine l_op f rfl rfl rfl (r_move (f.eval rfl)) (fun a f => ?_)
   refine l_op f rfl rfl rfl (r_move (f.eval rfl)) (fun a f => ?_)
   obtain ⟨e_69, he_70, hs_40⟩ := bind_some hs_40
   refine l_at T25 f rfl rfl rfl h0 he_70 (fun p_71 c_72 a g_73 h_74 f => ?_)
   subst h_74
   refine l_loadAt m Pl2 f rfl rfl g_73 (fun a f => ?_)
   obtain ⟨e_75, he_76, hs_40⟩ := bind_some hs_40
   refine l_own_at 0 m o_47 rfl T25 f rfl rfl rfl he_76 (fun p_77 a ha_78 f => ?_)
   refine l_own_store 0 m o_47 rfl Tryd.sizeOf2 f rfl rfl ha_78 he_76 rfl rfl rfl (fun it_79 w m o_80 => ?_)
   have m : Mem W G_44 w (it_79 :: H) := m
   refine l_nil ?_
   refine k_region ?_
   refine l_op f rfl rfl rfl (r_move (f.eval rfl)) (fun a f => ?_)
   refine l_op f rfl rfl rfl (r_int (f.eval rfl) (f.eval rfl) b_add) (fun a f => ?_)
   refine l_op f rfl rfl rfl (r_assign (f.eval rfl)) (fun a f => ?_)
   refine l_nil ?_
   obtain rfl := Option.some.inj hs_40
   exact ⟨_, rfl, _, _, rfl, _, it_79, hl_49, f.weak ⟨rfl, rfl, rfl, trivial⟩, m, o_80⟩
  ·refine k_false f rfl hc_68 ?_
   refine k_exit rfl ?_
   obtain rfl := Option.some.inj hs_40
   obtain rfl := hq_41 _ rfl
   exact ⟨_, rfl, _, it_46, hl_49, f.weak ⟨rfl, trivial⟩, m, o_47⟩
 ·rintro a w ⟨l_64, rfl, G_63, it_65, hl_67, f, m, o_66⟩
  refine k_seq ?_
  refine k_region ?_
  refine l_op f rfl rfl rfl (r_move (f.eval rfl)) (fun a f => ?_)
  refine l_op f rfl rfl rfl (r_assign (f.eval rfl)) (fun a f => ?_)
  refine l_nil ?_
  refine k_ret ?_
  obtain rfl := Option.some.inj hd
  exact ⟨[v_4], ⟨f.get _ _ rfl, trivial⟩, f.defers, _, [it_65], hl_67, m, _, _, rfl, rfl, o_66⟩

theorem Wk.impl_OrderOk {W w : World} {G : GH} {H : List Itm} {v0_0 : Value} {v1 : Value} {x0_0 : (List (List Int))} {x1 : (List Int)} (m : Mem W G w (H)) (h0_0 : RSl (RSl (RI .i64)) G v0_0 x0_0) (h1 : RSl (RI .i64) G v1 x1) {y : Bool} (hd : D.impl_OrderOk x0_0 x1 = some y) :
  Calls Tryd.prog 51 #[(.agg #[v0_0]), v1] w (Res W G H (fun _ Ho v => Ho = [] ∧ v = (.bool y))) := by
 refine calls_b (args := [(.agg #[v0_0]), v1]) (N := 25) [.tmp 4] Tryd.func51 rfl rfl (Nat.le_of_ble_eq_true rfl) rfl (fun a f => ?_)
 unfold D.impl_OrderOk at hd
 refine k_seq ?_
 refine k_region ?_
 refine l_box (cs := [v0_0]) m f rfl rfl rfl (fun b_2 w a m f => ?_)
 refine l_op f rfl rfl rfl (r_assign (f.eval rfl)) (fun a f => ?_)
 refine l_nil ?_
 refine k_seq ?_
 refine k_seq ?_
 refine k_region ?_
 refine l_boxAgg 0 0 (ds := [v0_0]) m Ag31 f rfl rfl rfl rfl rfl (fun a f => ?_)
 obtain ⟨y_3, hy_4, hd⟩ := bind_some hd
 refine l_res f rfl rfl Tryd.call96 (Wk.impl_GraphOk m h0_0 hy_4) (fun v_8 G_5 Ho_9 w hl_6 m hQ_7 a f => ?_)
 obtain ⟨rfl, rfl⟩ := hQ_7
 have h0_0 := RSl.mono (RSl.mono (RI.mono _)) _ _ _ _ hl_6 h0_0
 have h1 := RSl.mono (RI.mono _) _ _ _ _ hl_6 h1
 have m : Mem W G_5 w (Itm.box b_2 31 [v0_0] :: H) := m
 refine l_op f rfl rfl rfl (r_not (f.eval rfl)) (fun a f => ?_)
 refine l_op f rfl rfl rfl (r_move (f.eval rfl)) (fun a f => ?_)
 refine l_cut 7 (fun a w => ∃ G_11, GLe G_5 G_11 ∧ Mem W G_11 w (Itm.box b_2 31 [v0_0] :: H) ∧ Fr a 25 [(0, (.agg #[v0_0])), (1, v1), (2, (.pointer (some ⟨b_2, 0, none⟩))), (6, (.agg #[v0_0])), (7, (.bool y_3)), (8, (.bool (!y_3))), (9, (.bool (!y_3))), (16, (.bool ((!y_3) || ((x1.length : Int) != (x0_0.length : Int)))))]) ?_ ?_
 ·rcases Bool.eq_false_or_eq_true (!y_3) with hc_10 | hc_10
  ·refine l_not' f rfl rfl rfl hc_10 (fun a f => ?_)
   refine l_not' f rfl rfl rfl hc_10 (fun a f => ?_)
   refine l_not' f rfl rfl rfl hc_10 (fun a f => ?_)
   refine l_not' f rfl rfl rfl hc_10 (fun a f => ?_)
   refine l_not' f rfl rfl rfl hc_10 (fun a f => ?_)
   refine l_not' f rfl rfl rfl hc_10 (fun a f => ?_)
   refine l_op f rfl rfl rfl (r_pickT (f.eval rfl) hc_10 (f.eval rfl)) (fun a f => ?_)
   exact ⟨_, (GLe.refl _), m, f.weak ⟨rfl, rfl, rfl, rfl, rfl, rfl, rfl, by rw [hc_10]; rfl, trivial⟩⟩
  ·refine l_run f rfl rfl hc_10 ?_
   refine l_op f rfl rfl rfl (r_move (f.eval rfl)) (fun a f => ?_)
   refine l_run f rfl rfl hc_10 ?_
   refine l_len Tryd.underlying25 f rfl rfl h1 (fun a f => ?_)
   refine l_run f rfl rfl hc_10 ?_
   refine l_fieldAddr Tryd.underlying31 rfl Tryd.sizeOf22 (by decide) f rfl rfl (fun a f => ?_)
   refine l_run f rfl rfl hc_10 ?_
   refine l_boxCell 0 0 m Pl22 f rfl rfl rfl rfl (fun a f => ?_)
   refine l_run f rfl rfl hc_10 ?_
   refine l_len Tryd.underlying22 f rfl rfl h0_0 (fun a f => ?_)
   refine l_run f rfl rfl hc_10 ?_
   refine l_op f rfl rfl rfl (r_int (f.eval rfl) (f.eval rfl) b_neq) (fun a f => ?_)
   refine l_op f rfl rfl rfl (r_pickF (f.eval rfl) hc_10 (f.eval rfl)) (fun a f => ?_)
   exact ⟨_, (GLe.refl _), m, f.weak ⟨rfl, rfl, rfl, rfl, rfl, rfl, rfl, by rw [hc_10]; rfl, trivial⟩⟩
 ·rintro a w ⟨G_11, hl_12, m, f⟩
  have h0_0 := RSl.mono (RSl.mono (RI.mono _)) _ _ _ _ hl_12 h0_0
  have h1 := RSl.mono (RI.mono _) _ _ _ _ hl_12 h1
  refine l_nil ?_
  rcases cond_some hd with ⟨hc_13, hd⟩ | ⟨hc_13, hd⟩
  ·refine k_true f rfl hc_13 ?_
   refine k_seq ?_
   refine k_region ?_
   refine l_op f rfl rfl rfl (r_assign (f.eval rfl)) (fun a f => ?_)
   refine l_nil ?_
   refine k_ret ?_
   have m : Mem W G_11 w H := Mem.drop (H' := [Itm.box b_2 31 [v0_0]]) m
   obtain rfl := Option.some.inj hd
   exact ⟨[(.bool false)], ⟨f.get _ _ rfl, trivial⟩, f.defers, _, [], (GLe.trans hl_6 hl_12), m, rfl, rfl⟩
  ·refine k_false f rfl hc_13 ?_
   refine k_skip ?_
   refine k_seq ?_
   refine k_region ?_
   refine l_op f rfl rfl rfl (r_move (f.eval rfl)) (fun a f => ?_)
   refine l_res f rfl rfl Tryd.call141 (Wk.slices_Values_int64_int64 m h1) (fun v_16 G_17 Ho_20 w hl_18 m hQ_19 a f => ?_)
   obtain ⟨b_14, rfl, rfl⟩ := hQ_19
   have h0_0 := RSl.mono (RSl.mono (RI.mono _)) _ _ _ _ hl_18 h0_0
   have h1 := RSl.mono (RI.mono _) _ _ _ _ hl_18 h1
   have m : Mem W G_17 w (Itm.box b_14 25 [v1] :: Itm.box b_2 31 [v0_0] :: H) := m
   obtain ⟨y_21, hy_22, hd⟩ := bind_some hd
   refine l_res f rfl rfl Tryd.call140 (Wk.slices_Sorted_int64 m h1 hy_22) (fun v_26 G_23 Ho_27 w hl_24 m hQ_25 a f => ?_)
   obtain ⟨v_31, it_28, rfl, rfl, o_29⟩ := hQ_25
   have h0_0 := RSl.mono (RSl.mono (RI.mono _)) _ _ _ _ hl_24 h0_0
   have h1 := RSl.mono (RI.mono _) _ _ _ _ hl_24 h1
   have m : Mem W G_23 w (it_28 :: Itm.box b_2 31 [v0_0] :: H) := m
   refine l_op f rfl rfl rfl (r_assign (f.eval rfl)) (fun a f => ?_)
   refine l_nil ?_
   refine k_seq ?_
   refine k_region ?_
   refine l_op f rfl rfl rfl (r_move (f.eval rfl)) (fun a f => ?_)
   refine l_fieldAddr Tryd.underlying31 rfl Tryd.sizeOf22 (by decide) f rfl rfl (fun a f => ?_)
   refine l_boxCell 1 0 m Pl22 f rfl rfl rfl rfl (fun a f => ?_)
   refine l_len Tryd.underlying22 f rfl rfl h0_0 (fun a f => ?_)
   obtain ⟨y_32, hy_33, hd⟩ := bind_some hd
   refine l_res f rfl rfl Tryd.call142 (Ow.lendCall (RI.mono _) 0 o_29 m rfl (fun G_34 hl_35 m h_36 => Wk.impl_increasing m h_36 hy_33) (fun _ _ _ _ h => h)) (fun v_40 G_37 Ho_41 w hl_38 m hQ_39 a f => ?_)
   obtain ⟨rfl, rfl⟩ := hQ_39
   have h0_0 := RSl.mono (RSl.mono (RI.mono _)) _ _ _ _ hl_38 h0_0
   have h1 := RSl.mono (RI.mono _) _ _ _ _ hl_38 h1
   have o_29 := Ow.mono (RI.mono _) hl_38 o_29
   have m : Mem W G_37 w (it_28 :: Itm.box b_2 31 [v0_0] :: H) := m
   refine l_op f rfl rfl rfl (r_assign (f.eval rfl)) (fun a f => ?_)
   refine l_nil ?_
   refine k_ret ?_
   have m : Mem W G_37 w H := Mem.drop (H' := [it_28, Itm.box b_2 31 [v0_0]]) m
   obtain rfl := Option.some.inj hd
   exact ⟨[(.bool y_32)], ⟨f.get _ _ rfl, trivial⟩, f.defers, _, [], (GLe.trans hl_6 (GLe.trans hl_12 (GLe.trans hl_18 (GLe.trans hl_24 hl_38)))), m, rfl, rfl⟩

theorem Wk.impl_PathBags {W w : World} {G : GH} {H : List Itm} {v0_0 : Value} {v1 : Value} {x0_0 : (List (List Int))} {x1 : (List Int)} (hW : TabW W) (m : Mem W G w (H)) (h0_0 : RSl (RSl (RI .i64)) G v0_0 x0_0) (h1 : RSl (RI .i64) G v1 x1) {y : ((List (List Int)))} (hd : D.impl_PathBags x0_0 x1 = some y) :
  Calls Tryd.prog 89 #[(.agg #[v0_0]), v1] w (Res W G H (fun G' Ho v => ∃ r0 : Value, ∃ i0 : Itm, Ho = [i0] ∧ r0 = v ∧ Ow2 (RI .i64) 25 2 G' i0 r0 y)) := by
 refine calls_b (args := [(.agg #[v0_0]), v1]) (N := 15) [.tmp 4] Tryd.func89 rfl rfl (Nat.le_of_ble_eq_true rfl) rfl (fun a f => ?_)
 unfold D.impl_PathBags at hd
 refine k_seq ?_
 refine k_region ?_
 refine l_box (cs := [v0_0]) m f rfl rfl rfl (fun b_2 w a m f => ?_)
 refine l_op f rfl rfl rfl (r_assign (f.eval rfl)) (fun a f => ?_)
 refine l_nil ?_
 refine k_seq ?_
 refine k_seq ?_
 refine k_region ?_
 refine l_boxAgg 0 0 (ds := [v0_0]) m Ag31 f rfl rfl rfl rfl rfl (fun a f => ?_)
 refine l_op f rfl rfl rfl (r_move (f.eval rfl)) (fun a f => ?_)
 obtain ⟨y_3, hy_4, hd⟩ := bind_some hd
 refine l_res f rfl rfl Tryd.call51 (Wk.impl_OrderOk m h0_0 h1 hy_4) (fun v_8 G_5 Ho_9 w hl_6 m hQ_7 a f => ?_)
 obtain ⟨rfl, rfl⟩ := hQ_7
 have h0_0 := RSl.mono (RSl.mono (RI.mono _)) _ _ _ _ hl_6 h0_0
 have h1 := RSl.mono (RI.mono _) _ _ _ _ hl_6 h1
 have m : Mem W G_5 w (Itm.box b_2 31 [v0_0] :: H) := m
 refine l_op f rfl rfl rfl (r_not (f.eval rfl)) (fun a f => ?_)
 refine l_nil ?_
 rcases cond_some hd with ⟨hc_10, hd⟩ | ⟨hc_10, hd⟩
 ·refine k_true f rfl hc_10 ?_
  refine k_seq ?_
  refine k_region ?_
  refine l_op f rfl rfl rfl (r_assign (f.eval rfl)) (fun a f => ?_)
  refine l_nil ?_
  refine k_ret ?_
  obtain ⟨it_11, m, o_12⟩ := Ow2.nil (RI .i64) 25 2 m
  have m : Mem W G_5 w (it_11 :: Itm.box b_2 31 [v0_0] :: H) := m
  have m : Mem W G_5 w (it_11 :: H) := m.eraseAt 1
  obtain rfl := Option.some.inj hd
  exact ⟨[(.slice none 0 0)], ⟨f.get _ _ rfl, trivial⟩, f.defers, _, [it_11], hl_6, m, _, _, rfl, rfl, o_12⟩
 ·refine k_false f rfl hc_10 ?_
  refine k_skip ?_
  refine k_seq ?_
  refine k_region ?_
  refine l_boxAgg 0 0 (ds := [v0_0]) m Ag31 f rfl rfl rfl rfl rfl (fun a f => ?_)
  obtain ⟨y_14, hy_15, hd⟩ := bind_some hd
  refine l_res f rfl rfl Tryd.call99 (Wk.impl_netsOf m h0_0 hy_15) (fun v_19 G_16 Ho_20 w hl_17 m hQ_18 a f => ?_)
  obtain ⟨v_21, it_22, rfl, rfl, o_23⟩ := hQ_18
  have h0_0 := RSl.mono (RSl.mono (RI.mono _)) _ _ _ _ hl_17 h0_0
  have h1 := RSl.mono (RI.mono _) _ _ _ _ hl_17 h1
  have m : Mem W G_16 w (it_22 :: Itm.box b_2 31 [v0_0] :: H) := m
  refine l_op f rfl rfl rfl (r_move (f.eval rfl)) (fun a f => ?_)
  obtain ⟨y_25, hy_26, hd⟩ := bind_some hd
  refine l_res f rfl rfl Tryd.call106 (Wk.impl_narrow m h1 hy_26) (fun v_30 G_27 Ho_31 w hl_28 m hQ_29 a f => ?_)
  obtain ⟨v_32, it_33, rfl, rfl, o_34⟩ := hQ_29
  have h0_0 := RSl.mono (RSl.mono (RI.mono _)) _ _ _ _ hl_28 h0_0
  have h1 := RSl.mono (RI.mono _) _ _ _ _ hl_28 h1
  have o_23 := Ow.mono (RI.mono _) hl_28 o_23
  have m : Mem W G_27 w (it_33 :: it_22 :: Itm.box b_2 31 [v0_0] :: H) := m
  obtain ⟨y_36, hy_37, hd⟩ := bind_some hd
  refine l_res f rfl rfl Tryd.call186 (Ow.lendCall (RI.mono _) 1 o_23 m rfl (fun G_38 hl_39 m h_40 => (Ow.lendCall (RI.mono _) 0 (Ow.mono (RI.mono _) hl_39 o_34) m rfl (fun G_41 hl_42 m h_43 => Wk.impl_pathBags hW m (RSl.mono (RI.mono _) _ _ _ _ hl_42 h_40) h_43 hy_37) (fun _ G' _ _ ⟨a0, a1, e1, e2, o0⟩ => ⟨a0, a1, e1, e2, Ow.free (RI.free _) G' o0⟩))) (fun _ G' _ _ ⟨a0, a1, e1, e2, o0⟩ => ⟨a0, a1, e1, e2, Ow.free (RI.free _) G' o0⟩)) (fun v_47 G_44 Ho_48 w hl_45 m hQ_46 a f => ?_)
  obtain ⟨v_49, it_50, rfl, rfl, o_51⟩ := hQ_46
  have h0_0 := RSl.mono (RSl.mono (RI.mono _)) _ _ _ _ hl_45 h0_0
  have h1 := RSl.mono (RI.mono _) _ _ _ _ hl_45 h1
  have o_34 := Ow.mono (RI.mono _) hl_45 o_34
  have o_23 := Ow.mono (RI.mono _) hl_45 o_23
  have m : Mem W G_44 w (it_50 :: it_33 :: it_22 :: Itm.box b_2 31 [v0_0] :: H) := m
  obtain ⟨y_53, hy_54, hd⟩ := bind_some hd
  refine l_res f rfl rfl Tryd.call102 (Ow.lendCall (RI.mono _) 0 o_51 m rfl (fun G_55 hl_56 m h_57 => Wk.impl_results hW m h_57 hy_54) (fun _ G' _ _ ⟨a0, a1, e1, e2, o0⟩ => ⟨a0, a1, e1, e2, Ow2.free (RI.free _) G' o0⟩)) (fun v_61 G_58 Ho_62 w hl_59 m hQ_60 a f => ?_)
  obtain ⟨v_63, it_64, rfl, rfl, o_65⟩ := hQ_60
  have h0_0 := RSl.mono (RSl.mono (RI.mono _)) _ _ _ _ hl_59 h0_0
  have h1 := RSl.mono (RI.mono _) _ _ _ _ hl_59 h1
  have o_51 := Ow.mono (RI.mono _) hl_59 o_51
  have o_34 := Ow.mono (RI.mono _) hl_59 o_34
  have o_23 := Ow.mono (RI.mono _) hl_59 o_23
  have m : Mem W G_58 w (it_64 :: it_50 :: it_33 :: it_22 :: Itm.box b_2 31 [v0_0] :: H) := m
  refine l_op f rfl rfl rfl (r_assign (f.eval rfl)) (fun a f => ?_)
  refine l_nil ?_
  refine k_ret ?_
  have m : Mem W G_58 w (it_64 :: it_50 :: it_33 :: it_22 :: H) := m.eraseAt 4
  have m : Mem W G_58 w (it_64 :: it_50 :: it_33 :: H) := m.eraseAt 3
  have m : Mem W G_58 w (it_64 :: it_50 :: H) := m.eraseAt 2
  have m : Mem W G_58 w (it_64 :: H) := m.eraseAt 1
  obtain rfl := Option.some.inj hd
  exact ⟨[v_63], ⟨f.get _ _ rfl, trivial⟩, f.defers, _, [it_64], (GLe.trans hl_6 (GLe.trans hl_17 (GLe.trans hl_28 (GLe.trans hl_45 hl_59)))), m, _, _, rfl, rfl, o_65⟩

theorem Wk.impl_PathDecomp {W w : World} {G : GH} {H : List Itm} {v0_0 : Value} {v1 : Value} {x0_0 : (List (List Int))} {x1 : (List Int)} (hW : TabW W) (m : Mem W G w (H)) (h0_0 : RSl (RSl (RI .i64)) G v0_0 x0_0) (h1 : RSl (RI .i64) G v1 x1) {y : ((List (List Int))) × ((List (List Int))) × Bool} (hd : D.impl_PathDecomp x0_0 x1 = some y) :
  Calls Tryd.prog 17 #[(.agg #[v0_0]), v1] w (Res W G H (fun G' Ho v => ∃ r0 : Value, ∃ i0 : Itm, ∃ r2 : Value, ∃ i2 : Itm, Ho = [i0, i2] ∧ v = .tuple #[(.agg #[r0, r2]), (.bool y.2.2)] ∧ Ow2 (RI .i64) 25 2 G' i0 r0 y.1 ∧ Ow2 (RI .i64) 25 2 G' i2 r2 y.2.1)) := by
 refine calls_b (args := [(.agg #[v0_0]), v1]) (N := 34) [.cell 4 28, .tmp 5] Tryd.func17 rfl rfl (Nat.le_of_ble_eq_true rfl) rfl (fun a f => ?_)
 unfold D.impl_PathDecomp at hd
 refine k_seq ?_
 refine k_region ?_
 refine l_box (cs := [v0_0]) m f rfl rfl rfl (fun b_2 w a m f => ?_)
 refine l_alloc (cs := [(.slice none 0 0), (.slice none 0 0)]) Tryd.zeroValue28 m f rfl rfl (fun b_4 w a m f => ?_)
 refine l_op f rfl rfl rfl (r_assign (f.eval rfl)) (fun a f => ?_)
 refine l_nil ?_
 refine k_seq ?_
 refine k_seq ?_
 refine k_region ?_
 refine l_boxAgg 1 0 (ds := [v0_0]) m Ag31 f rfl rfl rfl rfl rfl (fun a f => ?_)
 refine l_op f rfl rfl rfl (r_move (f.eval rfl)) (fun a f => ?_)
 obtain ⟨y_5, hy_6, hd⟩ := bind_some hd
 refine l_res f rfl rfl Tryd.call51 (Wk.impl_OrderOk m h0_0 h1 hy_6) (fun v_10 G_7 Ho_11 w hl_8 m hQ_9 a f => ?_)
 obtain ⟨rfl, rfl⟩ := hQ_9
 have h0_0 := RSl.mono (RSl.mono (RI.mono _)) _ _ _ _ hl_8 h0_0
 have h1 := RSl.mono (RI.mono _) _ _ _ _ hl_8 h1
 have m : Mem W G_7 w (Itm.box b_4 28 [(.slice none 0 0), (.slice none 0 0)] :: Itm.box b_2 31 [v0_0] :: H) := m
 refine l_op f rfl rfl rfl (r_not (f.eval rfl)) (fun a f => ?_)
 refine l_nil ?_
 rcases cond_some hd with ⟨hc_12, hd⟩ | ⟨hc_12, hd⟩
 ·refine k_true f rfl hc_12 ?_
  refine k_seq ?_
  refine k_region ?_
  have hb_13 : ∀ w, (Instr.build 28 #[]).run Tryd.prog w = .ok (.agg #[(.slice none 0 0), (.slice none 0 0)]) w := by intro w; simp [Instr.build, Instr.fill, cells_int, cells_bool, cells_string, cells_slice, cells_pointer, cells_agg]
  refine l_build f rfl rfl hb_13 (fun a f => ?_)
  refine l_boxStore 0 0 (ds := [(.slice none 0 0), (.slice none 0 0)]) m Tryd.sizeOf28 f rfl rfl rfl (ones_cons rfl (ones_cons rfl ones_nil)) rfl (Nat.le_of_ble_eq_true rfl) rfl (fun w m => ?_)
  have m : Mem W G_7 w (Itm.box b_4 28 [(.slice none 0 0), (.slice none 0 0)] :: Itm.box b_2 31 [v0_0] :: H) := m
  refine l_op f rfl rfl rfl (r_assign (f.eval rfl)) (fun a f => ?_)
  refine l_nil ?_
  refine k_ret ?_
  obtain ⟨it_14, m, o_15⟩ := Ow2.nil (RI .i64) 25 2 m
  have m : Mem W G_7 w (it_14 :: Itm.box b_4 28 [(.slice none 0 0), (.slice none 0 0)] :: Itm.box b_2 31 [v0_0] :: H) := m
  obtain ⟨it_17, m, o_18⟩ := Ow2.nil (RI .i64) 25 2 m
  have m : Mem W G_7 w (it_17 :: it_14 :: Itm.box b_4 28 [(.slice none 0 0), (.slice none 0 0)] :: Itm.box b_2 31 [v0_0] :: H) := m
  have rc_20 := rr_agg (P := Tryd.prog) 2 m Ag28 f (s := 4) rfl rfl rfl
  have m : Mem W G_7 w (it_14 :: it_17 :: Itm.box b_4 28 [(.slice none 0 0), (.slice none 0 0)] :: Itm.box b_2 31 [v0_0] :: H) := m.front 1 rfl
  have m : Mem W G_7 w (it_14 :: it_17 :: Itm.box b_4 28 [(.slice none 0 0), (.slice none 0 0)] :: H) := m.eraseAt 3
  have m : Mem W G_7 w (it_14 :: it_17 :: H) := m.eraseAt 2
  obtain rfl := Option.some.inj hd
  exact ⟨[(.agg #[(.slice none 0 0), (.slice none 0 0)]), (.bool false)], ⟨rc_20, f.get _ _ rfl, trivial⟩, f.defers, _, [it_14, it_17], hl_8, m, _, _, _, _, rfl, rfl, o_15, o_18⟩
 ·refine k_false f rfl hc_12 ?_
  refine k_skip ?_
  refine k_seq ?_
  refine k_region ?_
  refine l_boxAgg 1 0 (ds := [v0_0]) m Ag31 f rfl rfl rfl rfl rfl (fun a f => ?_)
  refine l_op f rfl rfl rfl (r_move (f.eval rfl)) (fun a f => ?_)
  obtain ⟨y_21, hy_22, hd⟩ := bind_some hd
  refine l_res f rfl rfl Tryd.call89 (Wk.impl_PathBags hW m h0_0 h1 hy_22) (fun v_26 G_23 Ho_27 w hl_24 m hQ_25 a f => ?_)
  obtain ⟨v_28, it_29, rfl, rfl, o_30⟩ := hQ_25
  have h0_0 := RSl.mono (RSl.mono (RI.mono _)) _ _ _ _ hl_24 h0_0
  have h1 := RSl.mono (RI.mono _) _ _ _ _ hl_24 h1
  have m : Mem W G_23 w (it_29 :: Itm.box b_4 28 [(.slice none 0 0), (.slice none 0 0)] :: Itm.box b_2 31 [v0_0] :: H) := m
  have hb_32 : ∀ w, (Instr.build 28 #[(0, v_28)]).run Tryd.prog w = .ok (.agg #[v_28, (.slice none 0 0)]) w := by intro w; simp [Instr.build, Instr.fill, (Ow2.cells 0 m o_30 rfl), cells_int, cells_bool, cells_string, cells_slice, cells_pointer, cells_agg]
  refine l_build f rfl rfl hb_32 (fun a f => ?_)
  refine l_alloc (cs := [(.slice none 0 0), (.slice none 0 0)]) Tryd.zeroValue28 m f rfl rfl (fun b_34 w a m f => ?_)
  refine l_boxStore 0 0 (ds := [v_28, (.slice none 0 0)]) m Tryd.sizeOf28 f rfl rfl rfl (ones_cons (Ow2.one1 1 m o_30 rfl) (ones_cons rfl ones_nil)) rfl (Nat.le_of_ble_eq_true rfl) rfl (fun w m => ?_)
  have m : Mem W G_23 w (Itm.box b_34 28 [v_28, (.slice none 0 0)] :: it_29 :: Itm.box b_4 28 [(.slice none 0 0), (.slice none 0 0)] :: Itm.box b_2 31 [v0_0] :: H) := m
  refine l_nil ?_
  refine k_seq ?_
  refine k_seq ?_
  refine k_region ?_
  refine l_op f rfl rfl rfl (r_assign (f.eval rfl)) (fun a f => ?_)
  refine l_nil ?_
  obtain ⟨it_111, m, o_112⟩ := Ow2.nil (RI .i64) 25 2 m
  obtain ⟨q_105, hl_106, hd⟩ := bind_some hd
  refine k_cut (fun a w => ∃ l_153 : List (List Int), l_153 = q_105 ∧ ∃ (G_152 : GH) (v_154 : Value) (it_155 : Itm), GLe G_23 G_152 ∧ Fr a 34 [(4, (.pointer (some ⟨b_4, 0, none⟩))), (6, (.pointer (some ⟨b_34, 0, none⟩)))] ∧ Mem W G_152 w (Itm.box b_4 28 [(.slice none 0 0), (.slice none 0 0)] :: Itm.box b_34 28 [v_28, v_154] :: it_29 :: it_155 :: H) ∧ Ow2 (RI .i64) 25 2 G_152 it_155 v_154 l_153) ?_ ?_
  ·refine k_block ?_
   have m : Mem W G_23 w (it_29 :: it_111 :: Itm.box b_34 28 [v_28, (.slice none 0 0)] :: Itm.box b_4 28 [(.slice none 0 0), (.slice none 0 0)] :: Itm.box b_2 31 [v0_0] :: H) := m.front 2 rfl
   have m : Mem W G_23 w (Itm.box b_34 28 [v_28, (.slice none 0 0)] :: it_29 :: it_111 :: Itm.box b_4 28 [(.slice none 0 0), (.slice none 0 0)] :: Itm.box b_2 31 [v0_0] :: H) := m.front 2 rfl
   have m : Mem W G_23 w (Itm.box b_4 28 [(.slice none 0 0), (.slice none 0 0)] :: Itm.box b_34 28 [v_28, (.slice none 0 0)] :: it_29 :: it_111 :: Itm.box b_2 31 [v0_0] :: H) := m.front 3 rfl
   have m : Mem W G_23 w (Itm.box b_4 28 [(.slice none 0 0), (.slice none 0 0)] :: Itm.box b_34 28 [v_28, (.slice none 0 0)] :: it_29 :: it_111 :: H) := m.eraseAt 4
   refine k_loop (fun s_109 a w => ∃ x_115 : Int, ∃ l_116 : List (List Int), (x_115, l_116) = s_109 ∧ ∃ (G_114 : GH) (v_117 : Value) (it_118 : Itm), GLe G_23 G_114 ∧ Fr a 34 [(4, (.pointer (some ⟨b_4, 0, none⟩))), (6, (.pointer (some ⟨b_34, 0, none⟩))), (7, (.int .i64 x_115))] ∧ Mem W G_114 w (Itm.box b_4 28 [(.slice none 0 0), (.slice none 0 0)] :: Itm.box b_34 28 [v_28, v_117] :: it_29 :: it_118 :: H) ∧ Ow2 (RI .i64) 25 2 G_114 it_118 v_117 l_116) hl_106 ⟨_, _, rfl, _, (.slice none 0 0), it_111, (GLe.refl _), f.weak ⟨rfl, rfl, rfl, trivial⟩, m, o_112⟩ ?_
   clear hl_106 f m
   rintro s_109 o_110 hs_107 hq_108 a w ⟨x_115, l_116, rfl, G_114, v_117, it_118, hl_121, f, m, o_119⟩
   have o_30 := Ow2.mono (RI.mono _) hl_121 o_30
   refine k_seq ?_
   refine k_seq ?_
   refine k_region ?_
   refine l_op f rfl rfl rfl (r_move (f.eval rfl)) (fun a f => ?_)
   refine l_fieldAddr Tryd.underlying28 rfl Tryd.sizeOf22 (by decide) f rfl rfl (fun a f => ?_)
   refine l_boxCell 1 0 m Pl22 f rfl rfl rfl rfl (fun a f => ?_)
   refine l_own2_len 2 m o_30 rfl Tryd.underlying22 f rfl rfl (fun a f => ?_)
   refine l_op f rfl rfl rfl (r_int (f.eval rfl) (f.eval rfl) b_lss) (fun a f => ?_)
   refine l_nil ?_
   rcases cond_some hs_107 with ⟨hc_159, hs_107⟩ | ⟨hc_159, hs_107⟩
   ·refine k_true f rfl hc_159 ?_
    refine k_skip ?_
    refine k_seq ?_
    refine k_block ?_
    refine k_draw 7 Follows (by kernel_rfl) m ?_
    refine q_fieldAddr (i := 0) (listed' := #[true, false, false, false, false, false, false, false, false, false]) 7 Tryd.underlying28 rfl Tryd.sizeOf22 (by decide) rfl (by kernel_rfl) rfl f rfl rfl rfl (fun a f => ?_)
    refine q_boxCell (i := 1) (listed' := #[true, true, false, false, false, false, false, false, false, false]) 7 1 Pl22 rfl rfl rfl (by kernel_rfl) rfl f rfl rfl rfl (fun a f => ?_)
    refine q_op (i := 2) (listed' := #[true, true, true, false, false, false, false, false, false, false]) 7 rfl (by kernel_rfl) rfl f rfl rfl rfl (fun _ _ _ _ _ => r_move (f.eval rfl)) (fun a f => ?_)
    refine q_op (i := 3) (listed' := #[true, true, true, true, false, false, false, false, false, false]) 7 rfl (by kernel_rfl) rfl f rfl rfl rfl (fun _ _ _ _ _ => r_int (f.eval rfl) (f.eval rfl) b_sub) (fun a f => ?_)
    refine q_op (i := 4) (listed' := #[true, true, true, true, true, false, false, false, false, false]) 7 rfl (by kernel_rfl) rfl f rfl rfl rfl (fun _ _ _ _ _ => r_move (f.eval rfl)) (fun a f => ?_)
    obtain ⟨y_160, hy_161, hs_107⟩ := bind_some hs_107
    refine q_res (i := 5) (listed' := #[true, true, true, true, true, true, false, false, false, false]) rfl (by kernel_rfl) rfl f rfl rfl Tryd.call90 (fun _ w hG_162 m => Wk.impl_sortedLink m  hy_161) (fun v_168 G_163 G_164 Ho_169 hl_165 hl_166 hQ_167 a f => ?_)
    have hl_170 := GLe.trans hl_165 hl_166
    clear m
    obtain ⟨v_171, it_172, rfl, rfl, o_173⟩ := hQ_167
    have o_30 := Ow2.mono (RI.mono _) hl_170 o_30
    have o_119 := Ow2.mono (RI.mono _) hl_170 o_119
    show AnyB W _ _ _ _ _ G_164 (it_172 :: Itm.box b_4 28 [(.slice none 0 0), (.slice none 0 0)] :: Itm.box b_34 28 [v_28, v_117] :: it_29 :: it_118 :: H) _ _
    refine q_slit' (i := 6) (listed' := #[true, true, true, true, true, true, true, false, false, false]) (R := RawS) (xs := [v_171]) RawS.one T22 rfl (by kernel_rfl) rfl f rfl rfl rfl (by decide) (fun _ _ hG m => All2.cons ⟨rfl, Ow.one1 0 m (Ow.mono (RI.mono _) hG o_173) rfl, Ow.cells 0 m (Ow.mono (RI.mono _) hG o_173) rfl⟩ (All2.nil _)) (fun it_175 v_176 G_179 hl_180 o_177 a f => ?_)
    have o_173 := Ow.mono (RI.mono _) hl_180 o_173
    have o_30 := Ow2.mono (RI.mono _) hl_180 o_30
    have o_119 := Ow2.mono (RI.mono _) hl_180 o_119
    refine q_end (fun G_181 w hl_182 m => ?_)
    have o_177 := Ow.mono RawS.mono hl_182 o_177
    have o_173 := Ow.mono (RI.mono _) hl_182 o_173
    have o_30 := Ow2.mono (RI.mono _) hl_182 o_30
    have o_119 := Ow2.mono (RI.mono _) hl_182 o_119
    have m : Mem W G_181 w (it_172 :: it_175 :: Itm.box b_4 28 [(.slice none 0 0), (.slice none 0 0)] :: Itm.box b_34 28 [v_28, v_117] :: it_29 :: it_118 :: H) := m.front 1 rfl
    have m : Mem W G_181 w (it_118 :: it_172 :: it_175 :: Itm.box b_4 28 [(.slice none 0 0), (.slice none 0 0)] :: Itm.box b_34 28 [v_28, v_117] :: it_29 :: H) := m.front 5 rfl
    obtain ⟨l_183, hx_184, hs_107⟩ := bind_some hs_107
    refine l_append2 m o_119 o_173 o_177 T22 rfl (by decide) f rfl rfl rfl hx_184 (fun it_185 v_186 w a m o_187 f => ?_)
    have m : Mem W G_181 w (it_185 :: Itm.box b_4 28 [(.slice none 0 0), (.slice none 0 0)] :: Itm.box b_34 28 [v_28, v_117] :: it_29 :: H) := m
    refine l_fieldAddr Tryd.underlying28 rfl Tryd.sizeOf22 (by decide) f rfl rfl (fun a f => ?_)
    refine l_boxStore 2 1 (ds := [v_186]) m Tryd.sizeOf22 f rfl rfl (Ow2.cells 0 m o_187 rfl) (ones_cons (Ow2.one1 0 m o_187 rfl) ones_nil) rfl (Nat.le_of_ble_eq_true rfl) rfl (fun w m => ?_)
    have m : Mem W G_181 w (it_185 :: Itm.box b_4 28 [(.slice none 0 0), (.slice none 0 0)] :: Itm.box b_34 28 [v_28, v_186] :: it_29 :: H) := m
    refine l_nil ?_
    refine k_region ?_
    refine l_op f rfl rfl rfl (r_move (f.eval rfl)) (fun a f => ?_)
    refine l_op f rfl rfl rfl (r_int (f.eval rfl) (f.eval rfl) b_add) (fun a f => ?_)
    refine l_op f rfl rfl rfl (r_assign (f.eval rfl)) (fun a f => ?_)
    refine l_nil ?_
    have m : Mem W G_181 w (it_29 :: it_185 :: Itm.box b_4 28 [(.slice none 0 0), (.slice none 0 0)] :: Itm.box b_34 28 [v_28, v_186] :: H) := m.front 3 rfl
    have m : Mem W G_181 w (Itm.box b_34 28 [v_28, v_186] :: it_29 :: it_185 :: Itm.box b_4 28 [(.slice none 0 0), (.slice none 0 0)] :: H) := m.front 3 rfl
    have m : Mem W G_181 w (Itm.box b_4 28 [(.slice none 0 0), (.slice none 0 0)] :: Itm.box b_34 28 [v_28, v_186] :: it_29 :: it_185 :: H) := m.front 3 rfl
    obtain rfl := Option.some.inj hs_107
    exact ⟨_, rfl, _, _, rfl, _, v_186, it_185, (GLe.trans hl_121 (GLe.trans hl_170 (GLe.trans hl_180 hl_182))), f.weak ⟨rfl, rfl, rfl, trivial⟩, m, o_187⟩
   ·refine k_false f rfl hc_159 ?_
    refine k_exit rfl ?_
    have m : Mem W G_114 w (it_118 :: Itm.box b_4 28 [(.slice none 0 0), (.slice none 0 0)] :: Itm.box b_34 28 [v_28, v_117] :: it_29 :: H) := m.front 3 rfl
    have m : Mem W G_114 w (it_29 :: it_118 :: Itm.box b_4 28 [(.slice none 0 0), (.slice none 0 0)] :: Itm.box b_34 28 [v_28, v_117] :: H) := m.front 3 rfl
    have m : Mem W G_114 w (Itm.box b_34 28 [v_28, v_117] :: it_29 :: it_118 :: Itm.box b_4 28 [(.slice none 0 0), (.slice none 0 0)] :: H) := m.front 3 rfl
    have m : Mem W G_114 w (Itm.box b_4 28 [(.slice none 0 0), (.slice none 0 0)] :: Itm.box b_34 28 [v_28, v_117] :: it_29 :: it_118 :: H) := m.front 3 rfl
    obtain rfl := Option.some.inj hs_107
    obtain rfl := hq_108 _ rfl
    exact ⟨_, rfl, _, v_117, it_118, hl_121, f.weak ⟨rfl, rfl, trivial⟩, m, o_119⟩
  ·rintro a w ⟨l_153, rfl, G_152, v_154, it_155, hl_158, f, m, o_156⟩
   have o_30 := Ow2.mono (RI.mono _) hl_158 o_30
   refine k_seq ?_
   refine k_region ?_
   refine l_boxAgg 1 0 (ds := [v_28, v_154]) m Ag28 f rfl rfl rfl rfl rfl (fun a f => ?_)
   refine l_boxStore 0 0 (ds := [v_28, v_154]) m Tryd.sizeOf28 f rfl rfl rfl (ones_cons (Ow2.one1 2 m o_30 rfl) (ones_cons (Ow2.one1 3 m o_156 rfl) ones_nil)) rfl (Nat.le_of_ble_eq_true rfl) rfl (fun w m => ?_)
   have m : Mem W G_152 w (Itm.box b_4 28 [v_28, v_154] :: Itm.box b_34 28 [v_28, v_154] :: it_29 :: it_155 :: H) := m
   refine l_op f rfl rfl rfl (r_assign (f.eval rfl)) (fun a f => ?_)
   refine l_nil ?_
   refine k_ret ?_
   have rc_189 := rr_agg (P := Tryd.prog) 0 m Ag28 f (s := 4) rfl rfl rfl
   have m : Mem W G_152 w (it_155 :: Itm.box b_4 28 [v_28, v_154] :: Itm.box b_34 28 [v_28, v_154] :: it_29 :: H) := m.front 3 rfl
   have m : Mem W G_152 w (it_29 :: it_155 :: Itm.box b_4 28 [v_28, v_154] :: Itm.box b_34 28 [v_28, v_154] :: H) := m.front 3 rfl
   have m : Mem W G_152 w (it_29 :: it_155 :: Itm.box b_4 28 [v_28, v_154] :: H) := m.eraseAt 3
   have m : Mem W G_152 w (it_29 :: it_155 :: H) := m.eraseAt 2
   obtain rfl := Option.some.inj hd
   exact ⟨[(.agg #[v_28, v_154]), (.bool true)], ⟨rc_189, f.get _ _ rfl, trivial⟩, f.defers, _, [it_29, it_155], (GLe.trans hl_8 (GLe.trans hl_24 hl_158)), m, _, _, _, _, rfl, rfl, o_30, o_156⟩

theorem Wk.laws_toInt64SS {W w : World} {G : GH} {H : List Itm} {v0 : Value} {x0 : (List (List Int))} (m : Mem W G w (H)) (h0 : RSl (RSl (RI .i64)) G v0 x0) {y : ((List (List Int)))} (hd : D.laws_toInt64SS x0 = some y) :
  Calls Tryd.prog 88 #[v0] w (Res W G H (fun G' Ho v => ∃ r0 : Value, ∃ i0 : Itm, Ho = [i0] ∧ r0 = v ∧ Ow2 (RI .i64) 25 2 G' i0 r0 y)) := by
 refine calls_b (args := [v0]) (N := 23) [.tmp 2] Tryd.func88 rfl rfl (Nat.le_of_ble_eq_true rfl) rfl (fun a f => ?_)
 unfold D.laws_toInt64SS at hd
 refine k_seq ?_
 refine k_region ?_
 refine l_op f rfl rfl rfl (r_assign (f.eval rfl)) (fun a f => ?_)
 refine l_nil ?_
 refine k_seq ?_
 refine k_region ?_
 refine l_op f rfl rfl rfl (r_move (f.eval rfl)) (fun a f => ?_)
 refine l_len Tryd.underlying22 f rfl rfl h0 (fun a f => ?_)
 obtain ⟨l_1, hx_2, hd⟩ := bind_some hd
 refine l_make2 (R := (RI .i64)) (t2 := 2) m T22 (by decide) f rfl rfl rfl hx_2 (fun it_3 v_4 w a m o_5 f => ?_)
 refine l_op f rfl rfl rfl (r_assign (f.eval rfl)) (fun a f => ?_)
 refine l_nil ?_
 refine k_seq ?_
 refine k_seq ?_
 refine k_region ?_
 refine l_op f rfl rfl rfl (r_assign (f.eval rfl)) (fun a f => ?_)
 refine l_nil ?_
 obtain ⟨q_60, hl_61, hd⟩ := bind_some hd
 refine k_cut (fun a w => ∃ l_97 : List (List Int), l_97 = q_60 ∧ ∃ (G_96 : GH) (it_98 : Itm), GLe G G_96 ∧ Fr a 23 [(3, v_4)] ∧ Mem W G_96 w (it_98 :: H) ∧ Ow2 (RI .i64) 25 2 G_96 it_98 v_4 l_97) ?_ ?_
 ·refine k_block ?_
  refine k_loop (fun s_64 a w => ∃ l_67 : List (List Int), ∃ x_70 : Int, (l_67, x_70) = s_64 ∧ ∃ (G_66 : GH) (it_68 : Itm), GLe G G_66 ∧ Fr a 23 [(0, v0), (3, v_4), (4, (.int .i64 x_70))] ∧ Mem W G_66 w (it_68 :: H) ∧ Ow2 (RI .i64) 25 2 G_66 it_68 v_4 l_67) hl_61 ⟨_, _, rfl, _, it_3, (GLe.refl _), f.weak ⟨rfl, rfl, rfl, trivial⟩, m, o_5⟩ ?_
  clear hl_61 f m
  rintro s_64 o_65 hs_62 hq_63 a w ⟨l_67, x_70, rfl, G_66, it_68, hl_71, f, m, o_69⟩
  have h0 := RSl.mono (RSl.mono (RI.mono _)) _ _ _ _ hl_71 h0
  refine k_seq ?_
  refine k_seq ?_
  refine k_region ?_
  refine l_op f rfl rfl rfl (r_move (f.eval rfl)) (fun a f => ?_)
  refine l_op f rfl rfl rfl (r_move (f.eval rfl)) (fun a f => ?_)
  refine l_len Tryd.underlying22 f rfl rfl h0 (fun a f => ?_)
  refine l_op f rfl rfl rfl (r_int (f.eval rfl) (f.eval rfl) b_lss) (fun a f => ?_)
  refine l_nil ?_
  rcases cond_some hs_62 with ⟨hc_101, hs_62⟩ | ⟨hc_101, hs_62⟩
  ·refine k_true f rfl hc_101 ?_
   refine k_skip ?_
   refine k_seq ?_
   refine k_block ?_
   refine k_region ?_
   refine l_op f rfl rfl rfl (r_move (f.eval rfl)) (fun a f => ?_)
   refine l_op f rfl rfl rfl (r_move (f.eval rfl)) (fun a f => ?_)
   refine l_op f rfl rfl rfl (r_move (f.eval rfl)) (fun a f => ?_)
   refine l_op f rfl rfl rfl (r_move (f.eval rfl)) (fun a f => ?_)
   obtain ⟨e_102, he_103, hs_62⟩ := bind_some hs_62
   refine l_at T22 f rfl rfl rfl h0 he_103 (fun p_104 c_105 a g_106 h_107 f => ?_)
   refine l_loadAt m Pl25 f rfl rfl g_106 (fun a f => ?_)
   obtain ⟨y_108, hy_109, hs_62⟩ := bind_some hs_62
   refine l_res f rfl rfl Tryd.call16 (Wk.laws_toInt64S m h_107 hy_109) (fun v_113 G_110 Ho_114 w hl_111 m hQ_112 a f => ?_)
   obtain ⟨v_115, it_116, rfl, rfl, o_117⟩ := hQ_112
   have h0 := RSl.mono (RSl.mono (RI.mono _)) _ _ _ _ hl_111 h0
   have g_106 := At.mono hl_111 g_106
   have h_107 := RSl.mono (RI.mono _) _ _ _ _ hl_111 h_107
   have o_69 := Ow2.mono (RI.mono _) hl_111 o_69
   have m : Mem W G_110 w (it_116 :: it_68 :: H) := m
   obtain ⟨e_119, he_120, hs_62⟩ := bind_some hs_62
   refine l_own2_at 1 m o_69 rfl T22 f rfl rfl rfl he_120 (fun p_121 a ha_122 f => ?_)
   have m : Mem W G_110 w (it_68 :: it_116 :: H) := m.front 1 rfl
   refine l_own2_store m o_69 o_117 Tryd.sizeOf25 f rfl rfl ha_122 he_120 (fun it_123 w m o_124 => ?_)
   have m : Mem W G_110 w (it_123 :: H) := m
   refine l_nil ?_
   refine k_region ?_
   refine l_op f rfl rfl rfl (r_move (f.eval rfl)) (fun a f => ?_)
   refine l_op f rfl rfl rfl (r_int (f.eval rfl) (f.eval rfl) b_add) (fun a f => ?_)
   refine l_op f rfl rfl rfl (r_assign (f.eval rfl)) (fun a f => ?_)
   refine l_nil ?_
   obtain rfl := Option.some.inj hs_62
   exact ⟨_, rfl, _, _, rfl, _, it_123, (GLe.trans hl_71 hl_111), f.weak ⟨rfl, rfl, rfl, trivial⟩, m, o_124⟩
  ·refine k_false f rfl hc_101 ?_
   refine k_exit rfl ?_
   obtain rfl := Option.some.inj hs_62
   obtain rfl := hq_63 _ rfl
   exact ⟨_, rfl, _, it_68, hl_71, f.weak ⟨rfl, trivial⟩, m, o_69⟩
 ·rintro a w ⟨l_97, rfl, G_96, it_98, hl_100, f, m, o_99⟩
  refine k_seq ?_
  refine k_region ?_
  refine l_op f rfl rfl rfl (r_move (f.eval rfl)) (fun a f => ?_)
  refine l_op f rfl rfl rfl (r_assign (f.eval rfl)) (fun a f => ?_)
  refine l_nil ?_
  refine k_ret ?_
  obtain rfl := Option.some.inj hd
  exact ⟨[v_4], ⟨f.get _ _ rfl, trivial⟩, f.defers, _, [it_98], hl_100, m, _, _, rfl, rfl, o_99⟩

theorem Wk.laws_toGraph {W w : World} {G : GH} {H : List Itm} {v0_0 : Value} {x0_0 : (List (List Int))} (m : Mem W G w (H)) (h0_0 : RSl (RSl (RI .i64)) G v0_0 x0_0) {y : ((List (List Int)))} (hd : D.laws_toGraph x0_0 = some y) :
  Calls Tryd.prog 15 #[(.agg #[v0_0])] w (Res W G H (fun G' Ho v => ∃ r0 : Value, ∃ i0 : Itm, Ho = [i0] ∧ v = (.agg #[r0]) ∧ Ow2 (RI .i64) 25 2 G' i0 r0 y)) := by
 refine calls_b (args := [(.agg #[v0_0])]) (N := 9) [.cell 2 31] Tryd.func15 rfl rfl (Nat.le_of_ble_eq_true rfl) rfl (fun a f => ?_)
 unfold D.laws_toGraph at hd
 refine k_seq ?_
 refine k_region ?_
 refine l_box (cs := [v0_0]) m f rfl rfl rfl (fun b_2 w a m f => ?_)
 refine l_alloc (cs := [(.slice none 0 0)]) Tryd.zeroValue31 m f rfl rfl (fun b_4 w a m f => ?_)
 refine l_nil ?_
 refine k_seq ?_
 refine k_region ?_
 refine l_alloc (cs := [(.slice none 0 0)]) Tryd.zeroValue31 m f rfl rfl (fun b_6 w a m f => ?_)
 refine l_nil ?_
 refine k_seq ?_
 refine k_region ?_
 refine l_fieldAddr Tryd.underlying24 rfl Tryd.sizeOf22 (by decide) f rfl rfl (fun a f => ?_)
 refine l_boxCell 2 0 m Pl22 f rfl rfl rfl rfl (fun a f => ?_)
 obtain ⟨y_7, hy_8, hd⟩ := bind_some hd
 refine l_res f rfl rfl Tryd.call88 (Wk.laws_toInt64SS m h0_0 hy_8) (fun v_12 G_9 Ho_13 w hl_10 m hQ_11 a f => ?_)
 obtain ⟨v_14, it_15, rfl, rfl, o_16⟩ := hQ_11
 have h0_0 := RSl.mono (RSl.mono (RI.mono _)) _ _ _ _ hl_10 h0_0
 have m : Mem W G_9 w (it_15 :: Itm.box b_6 31 [(.slice none 0 0)] :: Itm.box b_4 31 [(.slice none 0 0)] :: Itm.box b_2 24 [v0_0] :: H) := m
 refine l_fieldAddr Tryd.underlying31 rfl Tryd.sizeOf22 (by decide) f rfl rfl (fun a f => ?_)
 refine l_boxStore 1 0 (ds := [v_14]) m Tryd.sizeOf22 f rfl rfl (Ow2.cells 0 m o_16 rfl) (ones_cons (Ow2.one1 0 m o_16 rfl) ones_nil) rfl (Nat.le_of_ble_eq_true rfl) rfl (fun w m => ?_)
 have m : Mem W G_9 w (it_15 :: Itm.box b_6 31 [v_14] :: Itm.box b_4 31 [(.slice none 0 0)] :: Itm.box b_2 24 [v0_0] :: H) := m
 refine l_nil ?_
 refine k_seq ?_
 refine k_region ?_
 refine l_boxAgg 1 0 (ds := [v_14]) m Ag31 f rfl rfl rfl rfl rfl (fun a f => ?_)
 refine l_boxStore 2 0 (ds := [v_14]) m Tryd.sizeOf31 f rfl rfl rfl (ones_cons (Ow2.one1 0 m o_16 rfl) ones_nil) rfl (Nat.le_of_ble_eq_true rfl) rfl (fun w m => ?_)
 have m : Mem W G_9 w (it_15 :: Itm.box b_6 31 [v_14] :: Itm.box b_4 31 [v_14] :: Itm.box b_2 24 [v0_0] :: H) := m
 refine l_nil ?_
 refine k_ret ?_
 have rc_18 := rr_agg (P := Tryd.prog) 2 m Ag31 f (s := 2) rfl rfl rfl
 have m : Mem W G_9 w (it_15 :: Itm.box b_6 31 [v_14] :: Itm.box b_4 31 [v_14] :: H) := m.eraseAt 3
 have m : Mem W G_9 w (it_15 :: Itm.box b_6 31 [v_14] :: H) := m.eraseAt 2
 have m : Mem W G_9 w (it_15 :: H) := m.eraseAt 1
 obtain rfl := Option.some.inj hd
 exact ⟨[(.agg #[v_14])], ⟨rc_18, trivial⟩, f.defers, _, [it_15], hl_10, m, _, _, rfl, rfl, o_16⟩

theorem Wk.laws_markInt64S {W w : World} {G : GH} {H : List Itm} {v0 : Value} {it0 : Itm} {x0 : (List Int)} {x1 : Int} (m : Mem W G w (it0 :: H)) (o0 : Ow (RI .i64) 2 G it0 v0 x0) {y : Int × ((List Int))} (hd : D.laws_markInt64S x0 x1 = some y) :
  Calls Tryd.prog 22 #[v0, (.int .i64 x1)] w (Res W G H (fun G' Ho v => ∃ i0 : Itm, Ho = [i0] ∧ v = (.int .i64 y.1) ∧ Ow (RI .i64) 2 G' i0 v0 y.2)) := by
 refine calls_b (args := [v0, (.int .i64 x1)]) (N := 19) [.tmp 4] Tryd.func22 rfl rfl (Nat.le_of_ble_eq_true rfl) rfl (fun a f => ?_)
 unfold D.laws_markInt64S at hd
 refine k_seq ?_
 refine k_region ?_
 refine l_op f rfl rfl rfl (r_assign (f.eval rfl)) (fun a f => ?_)
 refine l_nil ?_
 refine k_seq ?_
 refine k_seq ?_
 refine k_region ?_
 refine l_op f rfl rfl rfl (r_assign (f.eval rfl)) (fun a f => ?_)
 refine l_nil ?_
 obtain ⟨q_21, hl_22, hd⟩ := bind_some hd
 refine k_cut (fun a w => ∃ l_42 : List Int, ∃ x_45 : Int, (l_42, x_45) = q_21 ∧ ∃ (G_41 : GH) (it_43 : Itm), GLe G G_41 ∧ Fr a 19 [(1, (.int .i64 x_45))] ∧ Mem W G_41 w (it_43 :: H) ∧ Ow (RI .i64) 2 G_41 it_43 v0 l_42) ?_ ?_
 ·refine k_block ?_
  refine k_loop (fun s_25 a w => ∃ l_28 : List Int, ∃ x_31 : Int, ∃ x_32 : Int, (l_28, x_31, x_32) = s_25 ∧ ∃ (G_27 : GH) (it_29 : Itm), GLe G G_27 ∧ Fr a 19 [(0, v0), (1, (.int .i64 x_31)), (5, (.int .i64 x_32))] ∧ Mem W G_27 w (it_29 :: H) ∧ Ow (RI .i64) 2 G_27 it_29 v0 l_28) hl_22 ⟨_, _, _, rfl, _, it0, (GLe.refl _), f.weak ⟨rfl, rfl, rfl, trivial⟩, m, o0⟩ ?_
  clear hl_22 f m
  rintro s_25 o_26 hs_23 hq_24 a w ⟨l_28, x_31, x_32, rfl, G_27, it_29, hl_33, f, m, o_30⟩
  refine k_seq ?_
  refine k_seq ?_
  refine k_region ?_
  refine l_op f rfl rfl rfl (r_move (f.eval rfl)) (fun a f => ?_)
  refine l_op f rfl rfl rfl (r_move (f.eval rfl)) (fun a f => ?_)
  refine l_own_len 0 m o_30 rfl Tryd.underlying25 f rfl rfl (fun a f => ?_)
  refine l_op f rfl rfl rfl (r_int (f.eval rfl) (f.eval rfl) b_lss) (fun a f => ?_)
  refine l_nil ?_
  rcases cond_some hs_23 with ⟨hc_47, hs_23⟩ | ⟨hc_47, hs_23⟩
  ·refine k_true f rfl hc_47 ?_
   refine k_skip ?_
   refine k_seq ?_
   refine k_block ?_
   refine k_seq ?_
   refine k_region ?_
   refine l_op f rfl rfl rfl (r_move (f.eval rfl)) (fun a f => ?_)
   refine l_op f rfl rfl rfl (r_move (f.eval rfl)) (fun a f => ?_)
   refine l_op f rfl rfl rfl (r_move (f.eval rfl)) (fun a f => ?_)
   obtain ⟨e_48, he_49, hs_23⟩ := bind_some hs_23
   refine l_own_at 0 m o_30 rfl T25 f rfl rfl rfl he_49 (fun p_50 a ha_51 f => ?_)
   refine l_own_store 0 m o_30 rfl Tryd.sizeOf2 f rfl rfl ha_51 he_49 rfl rfl rfl (fun it_52 w m o_53 => ?_)
   have m : Mem W G_27 w (it_52 :: H) := m
   refine l_nil ?_
   refine k_region ?_
   refine l_op f rfl rfl rfl (r_move (f.eval rfl)) (fun a f => ?_)
   refine l_op f rfl rfl rfl (r_int (f.eval rfl) (f.eval rfl) b_add) (fun a f => ?_)
   refine l_op f rfl rfl rfl (r_assign (f.eval rfl)) (fun a f => ?_)
   refine l_nil ?_
   refine k_region ?_
   refine l_op f rfl rfl rfl (r_move (f.eval rfl)) (fun a f => ?_)
   refine l_op f rfl rfl rfl (r_int (f.eval rfl) (f.eval rfl) b_add) (fun a f => ?_)
   refine l_op f rfl rfl rfl (r_assign (f.eval rfl)) (fun a f => ?_)
   refine l_nil ?_
   obtain rfl := Option.some.inj hs_23
   exact ⟨_, rfl, _, _, _, rfl, _, it_52, hl_33, f.weak ⟨rfl, rfl, rfl, trivial⟩, m, o_53⟩
  ·refine k_false f rfl hc_47 ?_
   refine k_exit rfl ?_
   obtain rfl := Option.some.inj hs_23
   obtain rfl := hq_24 _ rfl
   exact ⟨_, _, rfl, _, it_29, hl_33, f.weak ⟨rfl, trivial⟩, m, o_30⟩
 ·rintro a w ⟨l_42, x_45, rfl, G_41, it_43, hl_46, f, m, o_44⟩
  refine k_seq ?_
  refine k_region ?_
  refine l_op f rfl rfl rfl (r_move (f.eval rfl)) (fun a f => ?_)
  refine l_op f rfl rfl rfl (r_assign (f.eval rfl)) (fun a f => ?_)
  refine l_nil ?_
  refine k_ret ?_
  obtain rfl := Option.some.inj hd
  exact ⟨[(.int .i64 x_45)], ⟨f.get _ _ rfl, trivial⟩, f.defers, _, [it_43], hl_46, m, _, rfl, rfl, o_44⟩

theorem Wk.laws_markInt64SS {W w : World} {G : GH} {H : List Itm} {v0 : Value} {it0 : Itm} {x0 : (List (List Int))} {x1 : Int} (m : Mem W G w (it0 :: H)) (o0 : Ow2 (RI .i64) 25 2 G it0 v0 x0) {y : Int × ((List (List Int)))} (hd : D.laws_markInt64SS x0 x1 = some y) :
  Calls Tryd.prog 28 #[v0, (.int .i64 x1)] w (Res W G H (fun G' Ho v => ∃ i0 : Itm, Ho = [i0] ∧ v = (.int .i64 y.1) ∧ Ow2 (RI .i64) 25 2 G' i0 v0 y.2)) := by
 refine calls_b (args := [v0, (.int .i64 x1)]) (N := 19) [.tmp 4] Tryd.func28 rfl rfl (Nat.le_of_ble_eq_true rfl) rfl (fun a f => ?_)
 unfold D.laws_markInt64SS at hd
 refine k_seq ?_
 refine k_region ?_
 refine l_op f rfl rfl rfl (r_assign (f.eval rfl)) (fun a f => ?_)
 refine l_nil ?_
 refine k_seq ?_
 refine k_seq ?_
 refine k_region ?_
 refine l_op f rfl rfl rfl (r_assign (f.eval rfl)) (fun a f => ?_)
 refine l_nil ?_
 obtain ⟨q_39, hl_40, hd⟩ := bind_some hd
 refine k_cut (fun a w => ∃ l_69 : List (List Int), ∃ x_72 : Int, (l_69, x_72) = q_39 ∧ ∃ (G_68 : GH) (it_70 : Itm), GLe G G_68 ∧ Fr a 19 [(1, (.int .i64 x_72))] ∧ Mem W G_68 w (it_70 :: H) ∧ Ow2 (RI .i64) 25 2 G_68 it_70 v0 l_69) ?_ ?_
 ·refine k_block ?_
  refine k_loop (fun s_43 a w => ∃ l_46 : List (List Int), ∃ x_49 : Int, ∃ x_50 : Int, (l_46, x_49, x_50) = s_43 ∧ ∃ (G_45 : GH) (it_47 : Itm), GLe G G_45 ∧ Fr a 19 [(0, v0), (1, (.int .i64 x_49)), (5, (.int .i64 x_50))] ∧ Mem W G_45 w (it_47 :: H) ∧ Ow2 (RI .i64) 25 2 G_45 it_47 v0 l_46) hl_40 ⟨_, _, _, rfl, _, it0, (GLe.refl _), f.weak ⟨rfl, rfl, rfl, trivial⟩, m, o0⟩ ?_
  clear hl_40 f m
  rintro s_43 o_44 hs_41 hq_42 a w ⟨l_46, x_49, x_50, rfl, G_45, it_47, hl_51, f, m, o_48⟩
  refine k_seq ?_
  refine k_seq ?_
  refine k_region ?_
  refine l_op f rfl rfl rfl (r_move (f.eval rfl)) (fun a f => ?_)
  refine l_op f rfl rfl rfl (r_move (f.eval rfl)) (fun a f => ?_)
  refine l_own2_len 0 m o_48 rfl Tryd.underlying22 f rfl rfl (fun a f => ?_)
  refine l_op f rfl rfl rfl (r_int (f.eval rfl) (f.eval rfl) b_lss) (fun a f => ?_)
  refine l_nil ?_
  rcases cond_some hs_41 with ⟨hc_74, hs_41⟩ | ⟨hc_74, hs_41⟩
  ·refine k_true f rfl hc_74 ?_
   refine k_skip ?_
   refine k_seq ?_
   refine k_block ?_
   refine k_region ?_
   refine l_op f rfl rfl rfl (r_move (f.eval rfl)) (fun a f => ?_)
   refine l_op f rfl rfl rfl (r_move (f.eval rfl)) (fun a f => ?_)
   obtain ⟨e_75, he_76, hs_41⟩ := bind_some hs_41
   refine l_own2_at 0 m o_48 rfl T22 f rfl rfl rfl he_76 (fun p_77 a ha_78 f => ?_)
   refine l_own2_load 0 m o_48 rfl Pl25 f rfl rfl ha_78 he_76 (fun c_79 a h_80 f => ?_)
   refine l_op f rfl rfl rfl (r_move (f.eval rfl)) (fun a f => ?_)
   obtain ⟨y_81, hy_82, hs_41⟩ := bind_some hs_41
   refine l_res f rfl rfl Tryd.call22 (Ow2.callAt o_48 (RI.mono _) m he_76 h_80 (fun inn Hs m oi => Wk.laws_markInt64S m oi hy_82)) (fun v_86 G_83 Ho_87 w hl_84 m hQ_85 a f => ?_)
   obtain ⟨it_88, rfl, rfl, o_89⟩ := hQ_85
   have m : Mem W G_83 w (it_88 :: H) := m
   refine l_op f rfl rfl rfl (r_assign (f.eval rfl)) (fun a f => ?_)
   refine l_nil ?_
   refine k_region ?_
   refine l_op f rfl rfl rfl (r_move (f.eval rfl)) (fun a f => ?_)
   refine l_op f rfl rfl rfl (r_int (f.eval rfl) (f.eval rfl) b_add) (fun a f => ?_)
   refine l_op f rfl rfl rfl (r_assign (f.eval rfl)) (fun a f => ?_)
   refine l_nil ?_
   obtain rfl := Option.some.inj hs_41
   exact ⟨_, rfl, _, _, _, rfl, _, it_88, (GLe.trans hl_51 hl_84), f.weak ⟨rfl, rfl, rfl, trivial⟩, m, o_89⟩
  ·refine k_false f rfl hc_74 ?_
   refine k_exit rfl ?_
   obtain rfl := Option.some.inj hs_41
   obtain rfl := hq_42 _ rfl
   exact ⟨_, _, rfl, _, it_47, hl_51, f.weak ⟨rfl, trivial⟩, m, o_48⟩
 ·rintro a w ⟨l_69, x_72, rfl, G_68, it_70, hl_73, f, m, o_71⟩
  refine k_seq ?_
  refine k_region ?_
  refine l_op f rfl rfl rfl (r_move (f.eval rfl)) (fun a f => ?_)
  refine l_op f rfl rfl rfl (r_assign (f.eval rfl)) (fun a f => ?_)
  refine l_nil ?_
  refine k_ret ?_
  obtain rfl := Option.some.inj hd
  exact ⟨[(.int .i64 x_72)], ⟨f.get _ _ rfl, trivial⟩, f.defers, _, [it_70], hl_73, m, _, rfl, rfl, o_71⟩

theorem Wk.laws_markGraph {W w : World} {G : GH} {H : List Itm} {v0_0 : Value} {it0_0 : Itm} {x0_0 : (List (List Int))} {x1 : Int} (m : Mem W G w (it0_0 :: H)) (o0_0 : Ow2 (RI .i64) 25 2 G it0_0 v0_0 x0_0) {y : Int × ((List (List Int)))} (hd : D.laws_markGraph x0_0 x1 = some y) :
  Calls Tryd.prog 21 #[(.agg #[v0_0]), (.int .i64 x1)] w (Res W G H (fun G' Ho v => ∃ i0 : Itm, Ho = [i0] ∧ v = (.int .i64 y.1) ∧ Ow2 (RI .i64) 25 2 G' i0 v0_0 y.2)) := by
 refine calls_b (args := [(.agg #[v0_0]), (.int .i64 x1)]) (N := 10) [.tmp 4] Tryd.func21 rfl rfl (Nat.le_of_ble_eq_true rfl) rfl (fun a f => ?_)
 unfold D.laws_markGraph at hd
 refine k_seq ?_
 refine k_region ?_
 refine l_box (cs := [v0_0]) m f rfl rfl rfl (fun b_2 w a m f => ?_)
 refine l_op f rfl rfl rfl (r_assign (f.eval rfl)) (fun a f => ?_)
 refine l_nil ?_
 refine k_seq ?_
 refine k_region ?_
 refine l_fieldAddr Tryd.underlying31 rfl Tryd.sizeOf22 (by decide) f rfl rfl (fun a f => ?_)
 refine l_boxCell 0 0 m Pl22 f rfl rfl rfl rfl (fun a f => ?_)
 refine l_op f rfl rfl rfl (r_move (f.eval rfl)) (fun a f => ?_)
 have m : Mem W G w (it0_0 :: Itm.box b_2 31 [v0_0] :: H) := m.front 1 rfl
 obtain ⟨y_3, hy_4, hd⟩ := bind_some hd
 refine l_res f rfl rfl Tryd.call28 (Wk.laws_markInt64SS m o0_0 hy_4) (fun v_8 G_5 Ho_9 w hl_6 m hQ_7 a f => ?_)
 obtain ⟨it_10, rfl, rfl, o_11⟩ := hQ_7
 have m : Mem W G_5 w (it_10 :: Itm.box b_2 31 [v0_0] :: H) := m
 refine l_op f rfl rfl rfl (r_assign (f.eval rfl)) (fun a f => ?_)
 refine l_nil ?_
 refine k_seq ?_
 refine k_region ?_
 refine l_op f rfl rfl rfl (r_move (f.eval rfl)) (fun a f => ?_)
 refine l_op f rfl rfl rfl (r_assign (f.eval rfl)) (fun a f => ?_)
 refine l_nil ?_
 refine k_ret ?_
 have m : Mem W G_5 w (it_10 :: H) := m.eraseAt 1
 obtain rfl := Option.some.inj hd
 exact ⟨[(.int .i64 y_3.1)], ⟨f.get _ _ rfl, trivial⟩, f.defers, _, [it_10], hl_6, m, _, rfl, rfl, o_11⟩

theorem Wk.laws_markDecomp {W w : World} {G : GH} {H : List Itm} {v0_0 : Value} {it0_0 : Itm} {v0_1 : Value} {it0_1 : Itm} {x0_0 : (List (List Int))} {x0_1 : (List (List Int))} {x1 : Int} (m : Mem W G w (it0_0 :: it0_1 :: H)) (o0_0 : Ow2 (RI .i64) 25 2 G it0_0 v0_0 x0_0) (o0_1 : Ow2 (RI .i64) 25 2 G it0_1 v0_1 x0_1) {y : Int × ((List (List Int))) × ((List (List Int)))} (hd : D.laws_markDecomp x0_0 x0_1 x1 = some y) :
  Calls Tryd.prog 23 #[(.agg #[v0_0, v0_1]), (.int .i64 x1)] w (Res W G H (fun G' Ho v => ∃ i0 : Itm, ∃ i1 : Itm, Ho = [i0, i1] ∧ v = (.int .i64 y.1) ∧ Ow2 (RI .i64) 25 2 G' i0 v0_0 y.2.1 ∧ Ow2 (RI .i64) 25 2 G' i1 v0_1 y.2.2)) := by
 refine calls_b (args := [(.agg #[v0_0, v0_1]), (.int .i64 x1)]) (N := 14) [.tmp 4] Tryd.func23 rfl rfl (Nat.le_of_ble_eq_true rfl) rfl (fun a f => ?_)
 unfold D.laws_markDecomp at hd
 refine k_seq ?_
 refine k_region ?_
 refine l_box (cs := [v0_0, v0_1]) m f rfl rfl rfl (fun b_2 w a m f => ?_)
 refine l_op f rfl rfl rfl (r_assign (f.eval rfl)) (fun a f => ?_)
 refine l_nil ?_
 refine k_seq ?_
 refine k_region ?_
 refine l_fieldAddr Tryd.underlying28 rfl Tryd.sizeOf22 (by decide) f rfl rfl (fun a f => ?_)
 refine l_boxCell 0 0 m Pl22 f rfl rfl rfl rfl (fun a f => ?_)
 refine l_op f rfl rfl rfl (r_move (f.eval rfl)) (fun a f => ?_)
 have m : Mem W G w (it0_0 :: Itm.box b_2 28 [v0_0, v0_1] :: it0_1 :: H) := m.front 1 rfl
 obtain ⟨y_3, hy_4, hd⟩ := bind_some hd
 refine l_res f rfl rfl Tryd.call28 (Wk.laws_markInt64SS m o0_0 hy_4) (fun v_8 G_5 Ho_9 w hl_6 m hQ_7 a f => ?_)
 obtain ⟨it_10, rfl, rfl, o_11⟩ := hQ_7
 have o0_1 := Ow2.mono (RI.mono _) hl_6 o0_1
 have m : Mem W G_5 w (it_10 :: Itm.box b_2 28 [v0_0, v0_1] :: it0_1 :: H) := m
 refine l_op f rfl rfl rfl (r_assign (f.eval rfl)) (fun a f => ?_)
 refine l_nil ?_
 refine k_seq ?_
 refine k_region ?_
 refine l_fieldAddr Tryd.underlying28 rfl Tryd.sizeOf22 (by decide) f rfl rfl (fun a f => ?_)
 refine l_boxCell 1 1 m Pl22 f rfl rfl rfl rfl (fun a f => ?_)
 refine l_op f rfl rfl rfl (r_move (f.eval rfl)) (fun a f => ?_)
 have m : Mem W G_5 w (it0_1 :: it_10 :: Itm.box b_2 28 [v0_0, v0_1] :: H) := m.front 2 rfl
 obtain ⟨y_12, hy_13, hd⟩ := bind_some hd
 refine l_res f rfl rfl Tryd.call28 (Wk.laws_markInt64SS m o0_1 hy_13) (fun v_17 G_14 Ho_18 w hl_15 m hQ_16 a f => ?_)
 obtain ⟨it_19, rfl, rfl, o_20⟩ := hQ_16
 have o_11 := Ow2.mono (RI.mono _) hl_15 o_11
 have m : Mem W G_14 w (it_19 :: it_10 :: Itm.box b_2 28 [v0_0, v0_1] :: H) := m
 refine l_op f rfl rfl rfl (r_assign (f.eval rfl)) (fun a f => ?_)
 refine l_nil ?_
 refine k_seq ?_
 refine k_region ?_
 refine l_op f rfl rfl rfl (r_move (f.eval rfl)) (fun a f => ?_)
 refine l_op f rfl rfl rfl (r_assign (f.eval rfl)) (fun a f => ?_)
 refine l_nil ?_
 refine k_ret ?_
 have m : Mem W G_14 w (it_10 :: it_19 :: Itm.box b_2 28 [v0_0, v0_1] :: H) := m.front 1 rfl
 have m : Mem W G_14 w (it_10 :: it_19 :: H) := m.eraseAt 2
 obtain rfl := Option.some.inj hd
 exact ⟨[(.int .i64 y_12.1)], ⟨f.get _ _ rfl, trivial⟩, f.defers, _, [it_10, it_19], (GLe.trans hl_6 hl_15), m, _, _, rfl, rfl, o_11, o_20⟩


end Go.Proofs.YteegnmdggpcphaaDoor

set_option maxRecDepth 100000
namespace Go.Proofs.YteegnmdggpcphaaDoor
open Go Go.Sx
theorem Ag24 : Agg Tryd.prog 24 1 := ⟨Tryd.isAgg24, Tryd.sizeOf24⟩

theorem Wk.laws_FnExactPathDecomp {W w : World} {G : GH} {H : List Itm} {v0_0 : Value} {v1 : Value} {x0_0 : (List (List Int))} {x1 : (List Int)} (hW : TabW W) (m : Mem W G w (H)) (h0_0 : RSl (RSl (RI .i64)) G v0_0 x0_0) (h1 : RSl (RI .i64) G v1 x1) {y : Bool} (hd : D.laws_FnExactPathDecomp x0_0 x1 = some y) :
  Calls Tryd.prog 3 #[(.agg #[v0_0]), v1] w (Res W G H (fun _ Ho v => Ho = [] ∧ v = (.bool y))) := by
 refine calls_b (args := [(.agg #[v0_0]), v1]) (N := 117) [.tmp 4] Tryd.func3 rfl rfl (Nat.le_of_ble_eq_true rfl) rfl (fun a f => ?_)
 unfold D.laws_FnExactPathDecomp at hd
 refine k_seq ?_
 refine k_region ?_
 refine l_box (cs := [v0_0]) m f rfl rfl rfl (fun b_2 w a m f => ?_)
 refine l_op f rfl rfl rfl (r_assign (f.eval rfl)) (fun a f => ?_)
 refine l_nil ?_
 refine k_seq ?_
 refine k_seq ?_
 refine k_region ?_
 refine l_op f rfl rfl rfl (r_move (f.eval rfl)) (fun a f => ?_)
 refine l_len Tryd.underlying25 f rfl rfl h1 (fun a f => ?_)
 refine l_op f rfl rfl rfl (r_int (f.eval rfl) (f.eval rfl) b_gtr) (fun a f => ?_)
 refine l_nil ?_
 rcases cond_some hd with ⟨hc_3, hd⟩ | ⟨hc_3, hd⟩
 ·refine k_true f rfl hc_3 ?_
  refine k_seq ?_
  refine k_region ?_
  refine l_op f rfl rfl rfl (r_assign (f.eval rfl)) (fun a f => ?_)
  refine l_nil ?_
  refine k_ret ?_
  have m : Mem W G w H := Mem.drop (H' := [Itm.box b_2 24 [v0_0]]) m
  obtain rfl := Option.some.inj hd
  exact ⟨[(.bool true)], ⟨f.get _ _ rfl, trivial⟩, f.defers, _, [], (GLe.refl _), m, rfl, rfl⟩
 ·refine k_false f rfl hc_3 ?_
  refine k_skip ?_
  refine k_seq ?_
  refine k_region ?_
  refine l_op f rfl rfl rfl (r_assign (f.eval rfl)) (fun a f => ?_)
  refine l_nil ?_
  refine k_seq ?_
  refine k_region ?_
  refine l_boxAgg 0 0 (ds := [v0_0]) m Ag24 f rfl rfl rfl rfl rfl (fun a f => ?_)
  refine l_op f rfl rfl rfl (r_move (f.eval rfl)) (fun a f => ?_)
  obtain ⟨y_4, hy_5, hd⟩ := bind_some hd
  refine l_res f rfl rfl Tryd.call13 (Wk.laws_szGraph m h0_0 hy_5) (fun v_9 G_6 Ho_10 w hl_7 m hQ_8 a f => ?_)
  obtain ⟨rfl, rfl⟩ := hQ_8
  have h0_0 := RSl.mono (RSl.mono (RI.mono _)) _ _ _ _ hl_7 h0_0
  have h1 := RSl.mono (RI.mono _) _ _ _ _ hl_7 h1
  have m : Mem W G_6 w (Itm.box b_2 24 [v0_0] :: H) := m
  refine l_op f rfl rfl rfl (r_assign (f.eval rfl)) (fun a f => ?_)
  refine l_nil ?_
  refine k_seq ?_
  refine k_seq ?_
  refine k_region ?_
  refine l_op f rfl rfl rfl (r_move (f.eval rfl)) (fun a f => ?_)
  refine l_op f rfl rfl rfl (r_int (f.eval rfl) (f.eval rfl) b_lss) (fun a f => ?_)
  refine l_nil ?_
  rcases cond_some hd with ⟨hc_11, hd⟩ | ⟨hc_11, hd⟩
  ·refine k_true f rfl hc_11 ?_
   refine k_seq ?_
   refine k_region ?_
   refine l_op f rfl rfl rfl (r_assign (f.eval rfl)) (fun a f => ?_)
   refine l_nil ?_
   refine k_ret ?_
   have m : Mem W G_6 w H := Mem.drop (H' := [Itm.box b_2 24 [v0_0]]) m
   obtain rfl := Option.some.inj hd
   exact ⟨[(.bool true)], ⟨f.get _ _ rfl, trivial⟩, f.defers, _, [], hl_7, m, rfl, rfl⟩
  ·refine k_false f rfl hc_11 ?_
   refine k_skip ?_
   refine k_seq ?_
   refine k_region ?_
   refine l_boxAgg 0 0 (ds := [v0_0]) m Ag24 f rfl rfl rfl rfl rfl (fun a f => ?_)
   obtain ⟨y_12, hy_13, hd⟩ := bind_some hd
   refine l_res f rfl rfl Tryd.call15 (Wk.laws_toGraph m h0_0 hy_13) (fun v_17 G_14 Ho_18 w hl_15 m hQ_16 a f => ?_)
   obtain ⟨v_19, it_20, rfl, rfl, o_21⟩ := hQ_16
   have h0_0 := RSl.mono (RSl.mono (RI.mono _)) _ _ _ _ hl_15 h0_0
   have h1 := RSl.mono (RI.mono _) _ _ _ _ hl_15 h1
   have m : Mem W G_14 w (it_20 :: Itm.box b_2 24 [v0_0] :: H) := m
   refine l_op f rfl rfl rfl (r_move (f.eval rfl)) (fun a f => ?_)
   obtain ⟨y_23, hy_24, hd⟩ := bind_some hd
   refine l_res f rfl rfl Tryd.call16 (Wk.laws_toInt64S m h1 hy_24) (fun v_28 G_25 Ho_29 w hl_26 m hQ_27 a f => ?_)
   obtain ⟨v_30, it_31, rfl, rfl, o_32⟩ := hQ_27
   have h0_0 := RSl.mono (RSl.mono (RI.mono _)) _ _ _ _ hl_26 h0_0
   have h1 := RSl.mono (RI.mono _) _ _ _ _ hl_26 h1
   have o_21 := Ow2.mono (RI.mono _) hl_26 o_21
   have m : Mem W G_25 w (it_31 :: it_20 :: Itm.box b_2 24 [v0_0] :: H) := m
   have m : Mem W G_25 w (it_20 :: it_31 :: Itm.box b_2 24 [v0_0] :: H) := m.front 1 rfl
   obtain ⟨G_34, hl_35, m, h_36⟩ := Ow2.stamp (RI.mono _) o_21 m
   have h0_0 := RSl.mono (RSl.mono (RI.mono _)) _ _ _ _ hl_35 h0_0
   have h1 := RSl.mono (RI.mono _) _ _ _ _ hl_35 h1
   have o_32 := Ow.mono (RI.mono _) hl_35 o_32
   have m : Mem W G_34 w (it_31 :: Itm.box b_2 24 [v0_0] :: H) := m
   obtain ⟨G_37, hl_38, m, h_39⟩ := Ow.stamp (RI.mono _) o_32 m
   have h0_0 := RSl.mono (RSl.mono (RI.mono _)) _ _ _ _ hl_38 h0_0
   have h1 := RSl.mono (RI.mono _) _ _ _ _ hl_38 h1
   have h_36 := RSl.mono (RSl.mono (RI.mono _)) _ _ _ _ hl_38 h_36
   have m : Mem W G_37 w (Itm.box b_2 24 [v0_0] :: H) := m
   obtain ⟨y_40, hy_41, hd⟩ := bind_some hd
   refine l_res f rfl rfl Tryd.call14 (Wk.spec_PathDecomp m h_36 h_39 hy_41) (fun v_45 G_42 Ho_46 w hl_43 m hQ_44 a f => ?_)
   obtain ⟨v_47, it_48, v_51, it_52, rfl, rfl, o_49, o_53⟩ := hQ_44
   have h0_0 := RSl.mono (RSl.mono (RI.mono _)) _ _ _ _ hl_43 h0_0
   have h1 := RSl.mono (RI.mono _) _ _ _ _ hl_43 h1
   have h_36 := RSl.mono (RSl.mono (RI.mono _)) _ _ _ _ hl_43 h_36
   have h_39 := RSl.mono (RI.mono _) _ _ _ _ hl_43 h_39
   have m : Mem W G_42 w (it_48 :: it_52 :: Itm.box b_2 24 [v0_0] :: H) := m
   refine l_op f rfl rfl rfl (r_move (f.eval rfl)) (fun a f => ?_)
   refine l_op f rfl rfl rfl (r_extract (f.eval rfl) rfl) (fun a f => ?_)
   refine l_op f rfl rfl rfl (r_extract (f.eval rfl) rfl) (fun a f => ?_)
   refine l_alloc (cs := [(.slice none 0 0), (.slice none 0 0)]) Tryd.zeroValue28 m f rfl rfl (fun b_56 w a m f => ?_)
   refine l_boxStore 0 0 (ds := [v_47, v_51]) m Tryd.sizeOf28 f rfl rfl rfl (ones_cons (Ow.one1 1 m o_49 rfl) (ones_cons (Ow.one1 2 m o_53 rfl) ones_nil)) rfl (Nat.le_of_ble_eq_true rfl) rfl (fun w m => ?_)
   have m : Mem W G_42 w (Itm.box b_56 28 [v_47, v_51] :: it_48 :: it_52 :: Itm.box b_2 24 [v0_0] :: H) := m
   refine l_op f rfl rfl rfl (r_assign (f.eval rfl)) (fun a f => ?_)
   refine l_nil ?_
   refine k_seq ?_
   refine k_region ?_
   refine l_boxAgg 3 0 (ds := [v0_0]) m Ag24 f rfl rfl rfl rfl rfl (fun a f => ?_)
   obtain ⟨y_57, hy_58, hd⟩ := bind_some hd
   refine l_res f rfl rfl Tryd.call15 (Wk.laws_toGraph m h0_0 hy_58) (fun v_62 G_59 Ho_63 w hl_60 m hQ_61 a f => ?_)
   obtain ⟨v_64, it_65, rfl, rfl, o_66⟩ := hQ_61
   have h0_0 := RSl.mono (RSl.mono (RI.mono _)) _ _ _ _ hl_60 h0_0
   have h1 := RSl.mono (RI.mono _) _ _ _ _ hl_60 h1
   have o_49 := Ow.mono (RSl.mono (RI.mono _)) hl_60 o_49
   have o_53 := Ow.mono (RSl.mono (RI.mono _)) hl_60 o_53
   have m : Mem W G_59 w (it_65 :: Itm.box b_56 28 [v_47, v_51] :: it_48 :: it_52 :: Itm.box b_2 24 [v0_0] :: H) := m
   refine l_alloc (cs := [(.slice none 0 0)]) Tryd.zeroValue31 m f rfl rfl (fun b_69 w a m f => ?_)
   refine l_boxStore 0 0 (ds := [v_64]) m Tryd.sizeOf31 f rfl rfl rfl (ones_cons (Ow2.one1 1 m o_66 rfl) ones_nil) rfl (Nat.le_of_ble_eq_true rfl) rfl (fun w m => ?_)
   have m : Mem W G_59 w (Itm.box b_69 31 [v_64] :: it_65 :: Itm.box b_56 28 [v_47, v_51] :: it_48 :: it_52 :: Itm.box b_2 24 [v0_0] :: H) := m
   refine l_nil ?_
   refine k_seq ?_
   refine k_region ?_
   refine l_op f rfl rfl rfl (r_move (f.eval rfl)) (fun a f => ?_)
   obtain ⟨y_70, hy_71, hd⟩ := bind_some hd
   refine l_res f rfl rfl Tryd.call16 (Wk.laws_toInt64S m h1 hy_71) (fun v_75 G_72 Ho_76 w hl_73 m hQ_74 a f => ?_)
   obtain ⟨v_77, it_78, rfl, rfl, o_79⟩ := hQ_74
   have h0_0 := RSl.mono (RSl.mono (RI.mono _)) _ _ _ _ hl_73 h0_0
   have h1 := RSl.mono (RI.mono _) _ _ _ _ hl_73 h1
   have o_66 := Ow2.mono (RI.mono _) hl_73 o_66
   have o_49 := Ow.mono (RSl.mono (RI.mono _)) hl_73 o_49
   have o_53 := Ow.mono (RSl.mono (RI.mono _)) hl_73 o_53
   have m : Mem W G_72 w (it_78 :: Itm.box b_69 31 [v_64] :: it_65 :: Itm.box b_56 28 [v_47, v_51] :: it_48 :: it_52 :: Itm.box b_2 24 [v0_0] :: H) := m
   refine l_op f rfl rfl rfl (r_assign (f.eval rfl)) (fun a f => ?_)
   refine l_nil ?_
   refine k_seq ?_
   refine k_region ?_
   refine l_boxAgg 1 0 (ds := [v_64]) m Ag31 f rfl rfl rfl rfl rfl (fun a f => ?_)
   refine l_op f rfl rfl rfl (r_move (f.eval rfl)) (fun a f => ?_)
   obtain ⟨y_81, hy_82, hd⟩ := bind_some hd
   refine l_res f rfl rfl Tryd.call17 (Ow2.lendCall (RI.mono _) 2 o_66 m rfl (fun G_83 hl_84 m h_85 => (Ow.lendCall (RI.mono _) 0 (Ow.mono (RI.mono _) hl_84 o_79) m rfl (fun G_86 hl_87 m h_88 => Wk.impl_PathDecomp hW m (RSl.mono (RSl.mono (RI.mono _)) _ _ _ _ hl_87 h_85) h_88 hy_82) (fun _ G' _ _ ⟨a0, a1, a2, a3, e1, e2, o0, o1⟩ => ⟨a0, a1, a2, a3, e1, e2, Ow2.free (RI.free _) G' o0, Ow2.free (RI.free _) G' o1⟩))) (fun _ G' _ _ ⟨a0, a1, a2, a3, e1, e2, o0, o1⟩ => ⟨a0, a1, a2, a3, e1, e2, Ow2.free (RI.free _) G' o0, Ow2.free (RI.free _) G' o1⟩)) (fun v_92 G_89 Ho_93 w hl_90 m hQ_91 a f => ?_)
   obtain ⟨v_94, it_95, v_98, it_99, rfl, rfl, o_96, o_100⟩ := hQ_91
   have h0_0 := RSl.mono (RSl.mono (RI.mono _)) _ _ _ _ hl_90 h0_0
   have h1 := RSl.mono (RI.mono _) _ _ _ _ hl_90 h1
   have o_79 := Ow.mono (RI.mono _) hl_90 o_79
   have o_66 := Ow2.mono (RI.mono _) hl_90 o_66
   have o_49 := Ow.mono (RSl.mono (RI.mono _)) hl_90 o_49
   have o_53 := Ow.mono (RSl.mono (RI.mono _)) hl_90 o_53
   have m : Mem W G_89 w (it_95 :: it_99 :: it_78 :: Itm.box b_69 31 [v_64] :: it_65 :: Itm.box b_56 28 [v_47, v_51] :: it_48 :: it_52 :: Itm.box b_2 24 [v0_0] :: H) := m
   refine l_op f rfl rfl rfl (r_move (f.eval rfl)) (fun a f => ?_)
   refine l_op f rfl rfl rfl (r_extract (f.eval rfl) rfl) (fun a f => ?_)
   refine l_op f rfl rfl rfl (r_extract (f.eval rfl) rfl) (fun a f => ?_)
   refine l_alloc (cs := [(.slice none 0 0), (.slice none 0 0)]) Tryd.zeroValue28 m f rfl rfl (fun b_103 w a m f => ?_)
   refine l_boxStore 0 0 (ds := [v_94, v_98]) m Tryd.sizeOf28 f rfl rfl rfl (ones_cons (Ow2.one1 1 m o_96 rfl) (ones_cons (Ow2.one1 2 m o_100 rfl) ones_nil)) rfl (Nat.le_of_ble_eq_true rfl) rfl (fun w m => ?_)
   have m : Mem W G_89 w (Itm.box b_103 28 [v_94, v_98] :: it_95 :: it_99 :: it_78 :: Itm.box b_69 31 [v_64] :: it_65 :: Itm.box b_56 28 [v_47, v_51] :: it_48 :: it_52 :: Itm.box b_2 24 [v0_0] :: H) := m
   refine l_op f rfl rfl rfl (r_assign (f.eval rfl)) (fun a f => ?_)
   refine l_nil ?_
   refine k_seq ?_
   refine k_seq ?_
   refine k_region ?_
   refine l_boxAgg 0 0 (ds := [v_94, v_98]) m Ag28 f rfl rfl rfl rfl rfl (fun a f => ?_)
   refine l_boxAgg 6 0 (ds := [v_47, v_51]) m Ag28 f rfl rfl rfl rfl rfl (fun a f => ?_)
   obtain ⟨y_104, hy_105, hd⟩ := bind_some hd
   refine l_res f rfl rfl Tryd.call18 (Ow2.lendCall (RI.mono _) 1 o_96 m rfl (fun G_106 hl_107 m h_108 => (Ow2.lendCall (RI.mono _) 1 (Ow2.mono (RI.mono _) hl_107 o_100) m rfl (fun G_109 hl_110 m h_111 => (Ow.lendCall (RSl.mono (RI.mono _)) 5 (Ow.mono (RSl.mono (RI.mono _)) hl_110 (Ow.mono (RSl.mono (RI.mono _)) hl_107 o_49)) m rfl (fun G_112 hl_113 m h_114 => (Ow.lendCall (RSl.mono (RI.mono _)) 5 (Ow.mono (RSl.mono (RI.mono _)) hl_113 (Ow.mono (RSl.mono (RI.mono _)) hl_110 (Ow.mono (RSl.mono (RI.mono _)) hl_107 o_53))) m rfl (fun G_115 hl_116 m h_117 => Wk.laws_eqDecomp m (RSl.mono (RSl.mono (RI.mono _)) _ _ _ _ hl_116 (RSl.mono (RSl.mono (RI.mono _)) _ _ _ _ hl_113 (RSl.mono (RSl.mono (RI.mono _)) _ _ _ _ hl_110 h_108))) (RSl.mono (RSl.mono (RI.mono _)) _ _ _ _ hl_116 (RSl.mono (RSl.mono (RI.mono _)) _ _ _ _ hl_113 h_111)) (RSl.mono (RSl.mono (RI.mono _)) _ _ _ _ hl_116 h_114) h_117 hy_105) (fun _ _ _ _ h => h))) (fun _ _ _ _ h => h))) (fun _ _ _ _ h => h))) (fun _ _ _ _ h => h)) (fun v_121 G_118 Ho_122 w hl_119 m hQ_120 a f => ?_)
   obtain ⟨rfl, rfl⟩ := hQ_120
   have h0_0 := RSl.mono (RSl.mono (RI.mono _)) _ _ _ _ hl_119 h0_0
   have h1 := RSl.mono (RI.mono _) _ _ _ _ hl_119 h1
   have o_96 := Ow2.mono (RI.mono _) hl_119 o_96
   have o_100 := Ow2.mono (RI.mono _) hl_119 o_100
   have o_79 := Ow.mono (RI.mono _) hl_119 o_79
   have o_66 := Ow2.mono (RI.mono _) hl_119 o_66
   have o_49 := Ow.mono (RSl.mono (RI.mono _)) hl_119 o_49
   have o_53 := Ow.mono (RSl.mono (RI.mono _)) hl_119 o_53
   have m : Mem W G_118 w (Itm.box b_103 28 [v_94, v_98] :: it_95 :: it_99 :: it_78 :: Itm.box b_69 31 [v_64] :: it_65 :: Itm.box b_56 28 [v_47, v_51] :: it_48 :: it_52 :: Itm.box b_2 24 [v0_0] :: H) := m
   refine l_op f rfl rfl rfl (r_not (f.eval rfl)) (fun a f => ?_)
   refine l_op f rfl rfl rfl (r_move (f.eval rfl)) (fun a f => ?_)
   refine l_cut 4 (fun a w => ∃ G_124, GLe G_118 G_124 ∧ Mem W G_124 w (Itm.box b_103 28 [v_94, v_98] :: it_95 :: it_99 :: it_78 :: Itm.box b_69 31 [v_64] :: it_65 :: Itm.box b_56 28 [v_47, v_51] :: it_48 :: it_52 :: Itm.box b_2 24 [v0_0] :: H) ∧ Fr a 117 [(0, (.agg #[v0_0])), (1, v1), (2, (.pointer (some ⟨b_2, 0, none⟩))), (5, (.int .i64 y_4)), (6, (.pointer (some ⟨b_56, 0, none⟩))), (7, (.bool y_40.2.2)), (8, (.pointer (some ⟨b_69, 0, none⟩))), (9, v_77), (10, (.pointer (some ⟨b_103, 0, none⟩))), (11, (.bool y_81.2.2)), (43, (.agg #[v_94, v_98])), (44, (.agg #[v_47, v_51])), (45, (.bool y_104)), (46, (.bool (!y_104))), (47, (.bool (!y_104))), (51, (.bool ((!y_104) || (y_81.2.2 != y_40.2.2))))]) ?_ ?_
   ·rcases Bool.eq_false_or_eq_true (!y_104) with hc_123 | hc_123
    ·refine l_not' f rfl rfl rfl hc_123 (fun a f => ?_)
     refine l_not' f rfl rfl rfl hc_123 (fun a f => ?_)
     refine l_not' f rfl rfl rfl hc_123 (fun a f => ?_)
     refine l_op f rfl rfl rfl (r_pickT (f.eval rfl) hc_123 (f.eval rfl)) (fun a f => ?_)
     have m : Mem W G_118 w (Itm.box b_2 24 [v0_0] :: Itm.box b_103 28 [v_94, v_98] :: it_95 :: it_99 :: it_78 :: Itm.box b_69 31 [v_64] :: it_65 :: Itm.box b_56 28 [v_47, v_51] :: it_48 :: it_52 :: H) := m.front 9 rfl
     have m : Mem W G_118 w (it_52 :: Itm.box b_2 24 [v0_0] :: Itm.box b_103 28 [v_94, v_98] :: it_95 :: it_99 :: it_78 :: Itm.box b_69 31 [v_64] :: it_65 :: Itm.box b_56 28 [v_47, v_51] :: it_48 :: H) := m.front 9 rfl
     have m : Mem W G_118 w (it_48 :: it_52 :: Itm.box b_2 24 [v0_0] :: Itm.box b_103 28 [v_94, v_98] :: it_95 :: it_99 :: it_78 :: Itm.box b_69 31 [v_64] :: it_65 :: Itm.box b_56 28 [v_47, v_51] :: H) := m.front 9 rfl
     have m : Mem W G_118 w (Itm.box b_56 28 [v_47, v_51] :: it_48 :: it_52 :: Itm.box b_2 24 [v0_0] :: Itm.box b_103 28 [v_94, v_98] :: it_95 :: it_99 :: it_78 :: Itm.box b_69 31 [v_64] :: it_65 :: H) := m.front 9 rfl
     have m : Mem W G_118 w (it_65 :: Itm.box b_56 28 [v_47, v_51] :: it_48 :: it_52 :: Itm.box b_2 24 [v0_0] :: Itm.box b_103 28 [v_94, v_98] :: it_95 :: it_99 :: it_78 :: Itm.box b_69 31 [v_64] :: H) := m.front 9 rfl
     have m : Mem W G_118 w (Itm.box b_69 31 [v_64] :: it_65 :: Itm.box b_56 28 [v_47, v_51] :: it_48 :: it_52 :: Itm.box b_2 24 [v0_0] :: Itm.box b_103 28 [v_94, v_98] :: it_95 :: it_99 :: it_78 :: H) := m.front 9 rfl
     have m : Mem W G_118 w (it_78 :: Itm.box b_69 31 [v_64] :: it_65 :: Itm.box b_56 28 [v_47, v_51] :: it_48 :: it_52 :: Itm.box b_2 24 [v0_0] :: Itm.box b_103 28 [v_94, v_98] :: it_95 :: it_99 :: H) := m.front 9 rfl
     have m : Mem W G_118 w (it_99 :: it_78 :: Itm.box b_69 31 [v_64] :: it_65 :: Itm.box b_56 28 [v_47, v_51] :: it_48 :: it_52 :: Itm.box b_2 24 [v0_0] :: Itm.box b_103 28 [v_94, v_98] :: it_95 :: H) := m.front 9 rfl
     have m : Mem W G_118 w (it_95 :: it_99 :: it_78 :: Itm.box b_69 31 [v_64] :: it_65 :: Itm.box b_56 28 [v_47, v_51] :: it_48 :: it_52 :: Itm.box b_2 24 [v0_0] :: Itm.box b_103 28 [v_94, v_98] :: H) := m.front 9 rfl
     have m : Mem W G_118 w (Itm.box b_103 28 [v_94, v_98] :: it_95 :: it_99 :: it_78 :: Itm.box b_69 31 [v_64] :: it_65 :: Itm.box b_56 28 [v_47, v_51] :: it_48 :: it_52 :: Itm.box b_2 24 [v0_0] :: H) := m.front 9 rfl
     exact ⟨_, (GLe.refl _), m, f.weak ⟨rfl, rfl, rfl, rfl, rfl, rfl, rfl, rfl, rfl, rfl, rfl, rfl, rfl, rfl, rfl, by rw [hc_123]; rfl, trivial⟩⟩
    ·refine l_run f rfl rfl hc_123 ?_
     refine l_op f rfl rfl rfl (r_move (f.eval rfl)) (fun a f => ?_)
     refine l_run f rfl rfl hc_123 ?_
     refine l_op f rfl rfl rfl (r_move (f.eval rfl)) (fun a f => ?_)
     refine l_run f rfl rfl hc_123 ?_
     refine l_op f rfl rfl rfl (r_bool_neq (f.eval rfl) (f.eval rfl) Tryd.underlying4) (fun a f => ?_)
     refine l_op f rfl rfl rfl (r_pickF (f.eval rfl) hc_123 (f.eval rfl)) (fun a f => ?_)
     have m : Mem W G_118 w (Itm.box b_2 24 [v0_0] :: Itm.box b_103 28 [v_94, v_98] :: it_95 :: it_99 :: it_78 :: Itm.box b_69 31 [v_64] :: it_65 :: Itm.box b_56 28 [v_47, v_51] :: it_48 :: it_52 :: H) := m.front 9 rfl
     have m : Mem W G_118 w (it_52 :: Itm.box b_2 24 [v0_0] :: Itm.box b_103 28 [v_94, v_98] :: it_95 :: it_99 :: it_78 :: Itm.box b_69 31 [v_64] :: it_65 :: Itm.box b_56 28 [v_47, v_51] :: it_48 :: H) := m.front 9 rfl
     have m : Mem W G_118 w (it_48 :: it_52 :: Itm.box b_2 24 [v0_0] :: Itm.box b_103 28 [v_94, v_98] :: it_95 :: it_99 :: it_78 :: Itm.box b_69 31 [v_64] :: it_65 :: Itm.box b_56 28 [v_47, v_51] :: H) := m.front 9 rfl
     have m : Mem W G_118 w (Itm.box b_56 28 [v_47, v_51] :: it_48 :: it_52 :: Itm.box b_2 24 [v0_0] :: Itm.box b_103 28 [v_94, v_98] :: it_95 :: it_99 :: it_78 :: Itm.box b_69 31 [v_64] :: it_65 :: H) := m.front 9 rfl
     have m : Mem W G_118 w (it_65 :: Itm.box b_56 28 [v_47, v_51] :: it_48 :: it_52 :: Itm.box b_2 24 [v0_0] :: Itm.box b_103 28 [v_94, v_98] :: it_95 :: it_99 :: it_78 :: Itm.box b_69 31 [v_64] :: H) := m.front 9 rfl
     have m : Mem W G_118 w (Itm.box b_69 31 [v_64] :: it_65 :: Itm.box b_56 28 [v_47, v_51] :: it_48 :: it_52 :: Itm.box b_2 24 [v0_0] :: Itm.box b_103 28 [v_94, v_98] :: it_95 :: it_99 :: it_78 :: H) := m.front 9 rfl
     have m : Mem W G_118 w (it_78 :: Itm.box b_69 31 [v_64] :: it_65 :: Itm.box b_56 28 [v_47, v_51] :: it_48 :: it_52 :: Itm.box b_2 24 [v0_0] :: Itm.box b_103 28 [v_94, v_98] :: it_95 :: it_99 :: H) := m.front 9 rfl
     have m : Mem W G_118 w (it_99 :: it_78 :: Itm.box b_69 31 [v_64] :: it_65 :: Itm.box b_56 28 [v_47, v_51] :: it_48 :: it_52 :: Itm.box b_2 24 [v0_0] :: Itm.box b_103 28 [v_94, v_98] :: it_95 :: H) := m.front 9 rfl
     have m : Mem W G_118 w (it_95 :: it_99 :: it_78 :: Itm.box b_69 31 [v_64] :: it_65 :: Itm.box b_56 28 [v_47, v_51] :: it_48 :: it_52 :: Itm.box b_2 24 [v0_0] :: Itm.box b_103 28 [v_94, v_98] :: H) := m.front 9 rfl
     have m : Mem W G_118 w (Itm.box b_103 28 [v_94, v_98] :: it_95 :: it_99 :: it_78 :: Itm.box b_69 31 [v_64] :: it_65 :: Itm.box b_56 28 [v_47, v_51] :: it_48 :: it_52 :: Itm.box b_2 24 [v0_0] :: H) := m.front 9 rfl
     exact ⟨_, (GLe.refl _), m, f.weak ⟨rfl, rfl, rfl, rfl, rfl, rfl, rfl, rfl, rfl, rfl, rfl, rfl, rfl, rfl, rfl, by rw [hc_123]; rfl, trivial⟩⟩
   ·rintro a w ⟨G_124, hl_125, m, f⟩
    have h0_0 := RSl.mono (RSl.mono (RI.mono _)) _ _ _ _ hl_125 h0_0
    have h1 := RSl.mono (RI.mono _) _ _ _ _ hl_125 h1
    have o_96 := Ow2.mono (RI.mono _) hl_125 o_96
    have o_100 := Ow2.mono (RI.mono _) hl_125 o_100
    have o_79 := Ow.mono (RI.mono _) hl_125 o_79
    have o_66 := Ow2.mono (RI.mono _) hl_125 o_66
    have o_49 := Ow.mono (RSl.mono (RI.mono _)) hl_125 o_49
    have o_53 := Ow.mono (RSl.mono (RI.mono _)) hl_125 o_53
    refine l_nil ?_
    rcases cond_some hd with ⟨hc_126, hd⟩ | ⟨hc_126, hd⟩
    ·refine k_true f rfl hc_126 ?_
     refine k_seq ?_
     refine k_region ?_
     refine l_op f rfl rfl rfl (r_assign (f.eval rfl)) (fun a f => ?_)
     refine l_nil ?_
     refine k_ret ?_
     have m : Mem W G_124 w H := Mem.drop (H' := [Itm.box b_103 28 [v_94, v_98], it_95, it_99, it_78, Itm.box b_69 31 [v_64], it_65, Itm.box b_56 28 [v_47, v_51], it_48, it_52, Itm.box b_2 24 [v0_0]]) m
     obtain rfl := Option.some.inj hd
     exact ⟨[(.bool false)], ⟨f.get _ _ rfl, trivial⟩, f.defers, _, [], (GLe.trans hl_7 (GLe.trans hl_15 (GLe.trans hl_26 (GLe.trans hl_35 (GLe.trans hl_38 (GLe.trans hl_43 (GLe.trans hl_60 (GLe.trans hl_73 (GLe.trans hl_90 (GLe.trans hl_119 hl_125)))))))))), m, rfl, rfl⟩
    ·refine k_false f rfl hc_126 ?_
     refine k_skip ?_
     refine k_seq ?_
     refine k_seq ?_
     refine k_draw 5 Follows (by kernel_rfl) m ?_
     refine q_boxAgg (i := 0) (listed' := #[true, false, false, false, false]) (ds := [v_64]) 5 4 Ag31 rfl rfl rfl rfl (by kernel_rfl) rfl f rfl rfl rfl (fun a f => ?_)
     refine q_boxAgg (i := 1) (listed' := #[true, true, false, false, false]) (ds := [v0_0]) 5 9 Ag24 rfl rfl rfl rfl (by kernel_rfl) rfl f rfl rfl rfl (fun a f => ?_)
     obtain ⟨y_127, hy_128, hd⟩ := bind_some hd
     refine q_res (i := 2) (listed' := #[true, true, true, false, false]) rfl (by kernel_rfl) rfl f rfl rfl Tryd.call15 (fun _ w hG_129 m => Wk.laws_toGraph m (RSl.mono (RSl.mono (RI.mono _)) _ _ _ _ hG_129 h0_0) hy_128) (fun v_135 G_130 G_131 Ho_136 hl_132 hl_133 hQ_134 a f => ?_)
     have hl_137 := GLe.trans hl_132 hl_133
     clear m
     obtain ⟨v_138, it_139, rfl, rfl, o_140⟩ := hQ_134
     have h0_0 := RSl.mono (RSl.mono (RI.mono _)) _ _ _ _ hl_137 h0_0
     have h1 := RSl.mono (RI.mono _) _ _ _ _ hl_137 h1
     have o_96 := Ow2.mono (RI.mono _) hl_137 o_96
     have o_100 := Ow2.mono (RI.mono _) hl_137 o_100
     have o_79 := Ow.mono (RI.mono _) hl_137 o_79
     have o_66 := Ow2.mono (RI.mono _) hl_137 o_66
     have o_49 := Ow.mono (RSl.mono (RI.mono _)) hl_137 o_49
     have o_53 := Ow.mono (RSl.mono (RI.mono _)) hl_137 o_53
     show AnyB W _ _ _ _ _ G_131 (it_139 :: Itm.box b_103 28 [v_94, v_98] :: it_95 :: it_99 :: it_78 :: Itm.box b_69 31 [v_64] :: it_65 :: Itm.box b_56 28 [v_47, v_51] :: it_48 :: it_52 :: Itm.box b_2 24 [v0_0] :: H) _ _
     obtain ⟨y_142, hy_143, hd⟩ := bind_some hd
     refine q_call (i := 3) (listed' := #[true, true, true, true, false]) 5 rfl (by kernel_rfl) rfl f rfl rfl rfl Tryd.call19 (fun _ _ w hG_144 m => (Ow2.lendCallR (RI.mono _) 6 (Ow2.mono (RI.mono _) hG_144 o_66) m rfl (fun G_145 hl_146 m h_147 => (Ow2.lendCallR (RI.mono _) 0 (Ow2.mono (RI.mono _) hl_146 (Ow2.mono (RI.mono _) hG_144 o_140)) m rfl (fun G_148 hl_149 m h_150 => Wk.laws_eqGraph m (RSl.mono (RSl.mono (RI.mono _)) _ _ _ _ hl_149 h_147) h_150 hy_143) (fun _ _ _ _ h => h))) (fun _ _ _ _ h => h))) (fun a f => ?_)
     refine q_op (i := 4) (listed' := #[true, true, true, true, true]) 5 rfl (by kernel_rfl) rfl f rfl rfl rfl (fun _ _ _ _ _ => r_not (f.eval rfl)) (fun a f => ?_)
     refine q_end (fun G_151 w hl_152 m => ?_)
     have h0_0 := RSl.mono (RSl.mono (RI.mono _)) _ _ _ _ hl_152 h0_0
     have h1 := RSl.mono (RI.mono _) _ _ _ _ hl_152 h1
     have o_140 := Ow2.mono (RI.mono _) hl_152 o_140
     have o_96 := Ow2.mono (RI.mono _) hl_152 o_96
     have o_100 := Ow2.mono (RI.mono _) hl_152 o_100
     have o_79 := Ow.mono (RI.mono _) hl_152 o_79
     have o_66 := Ow2.mono (RI.mono _) hl_152 o_66
     have o_49 := Ow.mono (RSl.mono (RI.mono _)) hl_152 o_49
     have o_53 := Ow.mono (RSl.mono (RI.mono _)) hl_152 o_53
     refine l_nil ?_
     rcases cond_some hd with ⟨hc_153, hd⟩ | ⟨hc_153, hd⟩
     ·refine k_true f rfl hc_153 ?_
      refine k_seq ?_
      refine k_region ?_
      refine l_op f rfl rfl rfl (r_assign (f.eval rfl)) (fun a f => ?_)
      refine l_nil ?_
      refine k_ret ?_
      have m : Mem W G_151 w H := Mem.drop (H' := [it_139, Itm.box b_103 28 [v_94, v_98], it_95, it_99, it_78, Itm.box b_69 31 [v_64], it_65, Itm.box b_56 28 [v_47, v_51], it_48, it_52, Itm.box b_2 24 [v0_0]]) m
      obtain rfl := Option.some.inj hd
      exact ⟨[(.bool false)], ⟨f.get _ _ rfl, trivial⟩, f.defers, _, [], (GLe.trans hl_7 (GLe.trans hl_15 (GLe.trans hl_26 (GLe.trans hl_35 (GLe.trans hl_38 (GLe.trans hl_43 (GLe.trans hl_60 (GLe.trans hl_73 (GLe.trans hl_90 (GLe.trans hl_119 (GLe.trans hl_125 (GLe.trans hl_137 hl_152)))))))))))), m, rfl, rfl⟩
     ·refine k_false f rfl hc_153 ?_
      refine k_skip ?_
      refine k_seq ?_
      refine k_seq ?_
      refine k_region ?_
      refine l_op f rfl rfl rfl (r_move (f.eval rfl)) (fun a f => ?_)
      refine l_op f rfl rfl rfl (r_move (f.eval rfl)) (fun a f => ?_)
      obtain ⟨y_154, hy_155, hd⟩ := bind_some hd
      refine l_res f rfl rfl Tryd.call16 (Wk.laws_toInt64S m h1 hy_155) (fun v_159 G_156 Ho_160 w hl_157 m hQ_158 a f => ?_)
      obtain ⟨v_161, it_162, rfl, rfl, o_163⟩ := hQ_158
      have h0_0 := RSl.mono (RSl.mono (RI.mono _)) _ _ _ _ hl_157 h0_0
      have h1 := RSl.mono (RI.mono _) _ _ _ _ hl_157 h1
      have o_140 := Ow2.mono (RI.mono _) hl_157 o_140
      have o_96 := Ow2.mono (RI.mono _) hl_157 o_96
      have o_100 := Ow2.mono (RI.mono _) hl_157 o_100
      have o_79 := Ow.mono (RI.mono _) hl_157 o_79
      have o_66 := Ow2.mono (RI.mono _) hl_157 o_66
      have o_49 := Ow.mono (RSl.mono (RI.mono _)) hl_157 o_49
      have o_53 := Ow.mono (RSl.mono (RI.mono _)) hl_157 o_53
      have m : Mem W G_156 w (it_162 :: it_139 :: Itm.box b_103 28 [v_94, v_98] :: it_95 :: it_99 :: it_78 :: Itm.box b_69 31 [v_64] :: it_65 :: Itm.box b_56 28 [v_47, v_51] :: it_48 :: it_52 :: Itm.box b_2 24 [v0_0] :: H) := m
      obtain ⟨y_165, hy_166, hd⟩ := bind_some hd
      refine l_res f rfl rfl Tryd.call20 (Ow.lendCall (RI.mono _) 5 o_79 m rfl (fun G_167 hl_168 m h_169 => (Ow.lendCall (RI.mono _) 0 (Ow.mono (RI.mono _) hl_168 o_163) m rfl (fun G_170 hl_171 m h_172 => Wk.laws_eqInt64S m (RSl.mono (RI.mono _) _ _ _ _ hl_171 h_169) h_172 hy_166) (fun _ _ _ _ h => h))) (fun _ _ _ _ h => h)) (fun v_176 G_173 Ho_177 w hl_174 m hQ_175 a f => ?_)
      obtain ⟨rfl, rfl⟩ := hQ_175
      have h0_0 := RSl.mono (RSl.mono (RI.mono _)) _ _ _ _ hl_174 h0_0
      have h1 := RSl.mono (RI.mono _) _ _ _ _ hl_174 h1
      have o_163 := Ow.mono (RI.mono _) hl_174 o_163
      have o_140 := Ow2.mono (RI.mono _) hl_174 o_140
      have o_96 := Ow2.mono (RI.mono _) hl_174 o_96
      have o_100 := Ow2.mono (RI.mono _) hl_174 o_100
      have o_79 := Ow.mono (RI.mono _) hl_174 o_79
      have o_66 := Ow2.mono (RI.mono _) hl_174 o_66
      have o_49 := Ow.mono (RSl.mono (RI.mono _)) hl_174 o_49
      have o_53 := Ow.mono (RSl.mono (RI.mono _)) hl_174 o_53
      have m : Mem W G_173 w (it_162 :: it_139 :: Itm.box b_103 28 [v_94, v_98] :: it_95 :: it_99 :: it_78 :: Itm.box b_69 31 [v_64] :: it_65 :: Itm.box b_56 28 [v_47, v_51] :: it_48 :: it_52 :: Itm.box b_2 24 [v0_0] :: H) := m
      refine l_op f rfl rfl rfl (r_not (f.eval rfl)) (fun a f => ?_)
      refine l_nil ?_
      rcases cond_some hd with ⟨hc_178, hd⟩ | ⟨hc_178, hd⟩
      ·refine k_true f rfl hc_178 ?_
       refine k_seq ?_
       refine k_region ?_
       refine l_op f rfl rfl rfl (r_assign (f.eval rfl)) (fun a f => ?_)
       refine l_nil ?_
       refine k_ret ?_
       have m : Mem W G_173 w H := Mem.drop (H' := [it_162, it_139, Itm.box b_103 28 [v_94, v_98], it_95, it_99, it_78, Itm.box b_69 31 [v_64], it_65, Itm.box b_56 28 [v_47, v_51], it_48, it_52, Itm.box b_2 24 [v0_0]]) m
       obtain rfl := Option.some.inj hd
       exact ⟨[(.bool false)], ⟨f.get _ _ rfl, trivial⟩, f.defers, _, [], (GLe.trans hl_7 (GLe.trans hl_15 (GLe.trans hl_26 (GLe.trans hl_35 (GLe.trans hl_38 (GLe.trans hl_43 (GLe.trans hl_60 (GLe.trans hl_73 (GLe.trans hl_90 (GLe.trans hl_119 (GLe.trans hl_125 (GLe.trans hl_137 (GLe.trans hl_152 (GLe.trans hl_157 hl_174)))))))))))))), m, rfl, rfl⟩
      ·refine k_false f rfl hc_178 ?_
       refine k_skip ?_
       refine k_seq ?_
       refine k_region ?_
       refine l_op f rfl rfl rfl (r_assign (f.eval rfl)) (fun a f => ?_)
       refine l_nil ?_
       refine k_seq ?_
       refine k_region ?_
       refine l_boxAgg 6 0 (ds := [v_64]) m Ag31 f rfl rfl rfl rfl rfl (fun a f => ?_)
       refine l_op f rfl rfl rfl (r_move (f.eval rfl)) (fun a f => ?_)
       have m : Mem W G_173 w (it_65 :: it_162 :: it_139 :: Itm.box b_103 28 [v_94, v_98] :: it_95 :: it_99 :: it_78 :: Itm.box b_69 31 [v_64] :: Itm.box b_56 28 [v_47, v_51] :: it_48 :: it_52 :: Itm.box b_2 24 [v0_0] :: H) := m.front 7 rfl
       obtain ⟨y_179, hy_180, hd⟩ := bind_some hd
       refine l_res f rfl rfl Tryd.call21 (Wk.laws_markGraph m o_66 hy_180) (fun v_184 G_181 Ho_185 w hl_182 m hQ_183 a f => ?_)
       obtain ⟨it_186, rfl, rfl, o_187⟩ := hQ_183
       have h0_0 := RSl.mono (RSl.mono (RI.mono _)) _ _ _ _ hl_182 h0_0
       have h1 := RSl.mono (RI.mono _) _ _ _ _ hl_182 h1
       have o_163 := Ow.mono (RI.mono _) hl_182 o_163
       have o_140 := Ow2.mono (RI.mono _) hl_182 o_140
       have o_96 := Ow2.mono (RI.mono _) hl_182 o_96
       have o_100 := Ow2.mono (RI.mono _) hl_182 o_100
       have o_79 := Ow.mono (RI.mono _) hl_182 o_79
       have o_49 := Ow.mono (RSl.mono (RI.mono _)) hl_182 o_49
       have o_53 := Ow.mono (RSl.mono (RI.mono _)) hl_182 o_53
       have m : Mem W G_181 w (it_186 :: it_162 :: it_139 :: Itm.box b_103 28 [v_94, v_98] :: it_95 :: it_99 :: it_78 :: Itm.box b_69 31 [v_64] :: Itm.box b_56 28 [v_47, v_51] :: it_48 :: it_52 :: Itm.box b_2 24 [v0_0] :: H) := m
       refine l_op f rfl rfl rfl (r_assign (f.eval rfl)) (fun a f => ?_)
       refine l_nil ?_
       refine k_seq ?_
       refine k_region ?_
       refine l_op f rfl rfl rfl (r_move (f.eval rfl)) (fun a f => ?_)
       refine l_op f rfl rfl rfl (r_move (f.eval rfl)) (fun a f => ?_)
       have m : Mem W G_181 w (it_78 :: it_186 :: it_162 :: it_139 :: Itm.box b_103 28 [v_94, v_98] :: it_95 :: it_99 :: Itm.box b_69 31 [v_64] :: Itm.box b_56 28 [v_47, v_51] :: it_48 :: it_52 :: Itm.box b_2 24 [v0_0] :: H) := m.front 6 rfl
       obtain ⟨y_188, hy_189, hd⟩ := bind_some hd
       refine l_res f rfl rfl Tryd.call22 (Wk.laws_markInt64S m o_79 hy_189) (fun v_193 G_190 Ho_194 w hl_191 m hQ_192 a f => ?_)
       obtain ⟨it_195, rfl, rfl, o_196⟩ := hQ_192
       have h0_0 := RSl.mono (RSl.mono (RI.mono _)) _ _ _ _ hl_191 h0_0
       have h1 := RSl.mono (RI.mono _) _ _ _ _ hl_191 h1
       have o_187 := Ow2.mono (RI.mono _) hl_191 o_187
       have o_163 := Ow.mono (RI.mono _) hl_191 o_163
       have o_140 := Ow2.mono (RI.mono _) hl_191 o_140
       have o_96 := Ow2.mono (RI.mono _) hl_191 o_96
       have o_100 := Ow2.mono (RI.mono _) hl_191 o_100
       have o_49 := Ow.mono (RSl.mono (RI.mono _)) hl_191 o_49
       have o_53 := Ow.mono (RSl.mono (RI.mono _)) hl_191 o_53
       have m : Mem W G_190 w (it_195 :: it_186 :: it_162 :: it_139 :: Itm.box b_103 28 [v_94, v_98] :: it_95 :: it_99 :: Itm.box b_69 31 [v_64] :: Itm.box b_56 28 [v_47, v_51] :: it_48 :: it_52 :: Itm.box b_2 24 [v0_0] :: H) := m
       refine l_op f rfl rfl rfl (r_assign (f.eval rfl)) (fun a f => ?_)
       refine l_nil ?_
       refine k_seq ?_
       refine k_seq ?_
       refine k_region ?_
       refine l_op f rfl rfl rfl (r_move (f.eval rfl)) (fun a f => ?_)
       refine l_op f rfl rfl rfl (r_int (f.eval rfl) (f.eval rfl) b_lss) (fun a f => ?_)
       refine l_op f rfl rfl rfl (r_move (f.eval rfl)) (fun a f => ?_)
       obtain ⟨b_238, hj_239, hd⟩ := bind_some hd
       refine l_cut 5 (fun a w => ∃ G_236, GLe G_190 G_236 ∧ Mem W G_236 w (it_195 :: it_186 :: it_162 :: it_139 :: Itm.box b_103 28 [v_94, v_98] :: it_95 :: it_99 :: Itm.box b_69 31 [v_64] :: Itm.box b_56 28 [v_47, v_51] :: it_48 :: it_52 :: Itm.box b_2 24 [v0_0] :: H) ∧ Fr a 117 [(0, (.agg #[v0_0])), (1, v1), (2, (.pointer (some ⟨b_2, 0, none⟩))), (5, (.int .i64 y_4)), (6, (.pointer (some ⟨b_56, 0, none⟩))), (7, (.bool y_40.2.2)), (8, (.pointer (some ⟨b_69, 0, none⟩))), (9, v_77), (10, (.pointer (some ⟨b_103, 0, none⟩))), (11, (.bool y_81.2.2)), (12, (.int .i64 y_188.1)), (68, (.int .i64 y_188.1)), (69, (.bool (decide (y_188.1 < 0)))), (70, (.bool (decide (y_188.1 < 0)))), (75, (.bool b_238))]) ?_ ?_
       ·rcases cond_some hj_239 with ⟨hc_197, hj_239⟩ | ⟨hc_197, hj_239⟩
        ·refine l_not' f rfl rfl rfl hc_197 (fun a f => ?_)
         refine l_not' f rfl rfl rfl hc_197 (fun a f => ?_)
         refine l_not' f rfl rfl rfl hc_197 (fun a f => ?_)
         refine l_not' f rfl rfl rfl hc_197 (fun a f => ?_)
         refine l_op f rfl rfl rfl (r_pickT (f.eval rfl) hc_197 (f.eval rfl)) (fun a f => ?_)
         obtain rfl := Option.some.inj hj_239
         have m : Mem W G_190 w (Itm.box b_2 24 [v0_0] :: it_195 :: it_186 :: it_162 :: it_139 :: Itm.box b_103 28 [v_94, v_98] :: it_95 :: it_99 :: Itm.box b_69 31 [v_64] :: Itm.box b_56 28 [v_47, v_51] :: it_48 :: it_52 :: H) := m.front 11 rfl
         have m : Mem W G_190 w (it_52 :: Itm.box b_2 24 [v0_0] :: it_195 :: it_186 :: it_162 :: it_139 :: Itm.box b_103 28 [v_94, v_98] :: it_95 :: it_99 :: Itm.box b_69 31 [v_64] :: Itm.box b_56 28 [v_47, v_51] :: it_48 :: H) := m.front 11 rfl
         have m : Mem W G_190 w (it_48 :: it_52 :: Itm.box b_2 24 [v0_0] :: it_195 :: it_186 :: it_162 :: it_139 :: Itm.box b_103 28 [v_94, v_98] :: it_95 :: it_99 :: Itm.box b_69 31 [v_64] :: Itm.box b_56 28 [v_47, v_51] :: H) := m.front 11 rfl
         have m : Mem W G_190 w (Itm.box b_56 28 [v_47, v_51] :: it_48 :: it_52 :: Itm.box b_2 24 [v0_0] :: it_195 :: it_186 :: it_162 :: it_139 :: Itm.box b_103 28 [v_94, v_98] :: it_95 :: it_99 :: Itm.box b_69 31 [v_64] :: H) := m.front 11 rfl
         have m : Mem W G_190 w (Itm.box b_69 31 [v_64] :: Itm.box b_56 28 [v_47, v_51] :: it_48 :: it_52 :: Itm.box b_2 24 [v0_0] :: it_195 :: it_186 :: it_162 :: it_139 :: Itm.box b_103 28 [v_94, v_98] :: it_95 :: it_99 :: H) := m.front 11 rfl
         have m : Mem W G_190 w (it_99 :: Itm.box b_69 31 [v_64] :: Itm.box b_56 28 [v_47, v_51] :: it_48 :: it_52 :: Itm.box b_2 24 [v0_0] :: it_195 :: it_186 :: it_162 :: it_139 :: Itm.box b_103 28 [v_94, v_98] :: it_95 :: H) := m.front 11 rfl
         have m : Mem W G_190 w (it_95 :: it_99 :: Itm.box b_69 31 [v_64] :: Itm.box b_56 28 [v_47, v_51] :: it_48 :: it_52 :: Itm.box b_2 24 [v0_0] :: it_195 :: it_186 :: it_162 :: it_139 :: Itm.box b_103 28 [v_94, v_98] :: H) := m.front 11 rfl
         have m : Mem W G_190 w (Itm.box b_103 28 [v_94, v_98] :: it_95 :: it_99 :: Itm.box b_69 31 [v_64] :: Itm.box b_56 28 [v_47, v_51] :: it_48 :: it_52 :: Itm.box b_2 24 [v0_0] :: it_195 :: it_186 :: it_162 :: it_139 :: H) := m.front 11 rfl
         have m : Mem W G_190 w (it_139 :: Itm.box b_103 28 [v_94, v_98] :: it_95 :: it_99 :: Itm.box b_69 31 [v_64] :: Itm.box b_56 28 [v_47, v_51] :: it_48 :: it_52 :: Itm.box b_2 24 [v0_0] :: it_195 :: it_186 :: it_162 :: H) := m.front 11 rfl
         have m : Mem W G_190 w (it_162 :: it_139 :: Itm.box b_103 28 [v_94, v_98] :: it_95 :: it_99 :: Itm.box b_69 31 [v_64] :: Itm.box b_56 28 [v_47, v_51] :: it_48 :: it_52 :: Itm.box b_2 24 [v0_0] :: it_195 :: it_186 :: H) := m.front 11 rfl
         have m : Mem W G_190 w (it_186 :: it_162 :: it_139 :: Itm.box b_103 28 [v_94, v_98] :: it_95 :: it_99 :: Itm.box b_69 31 [v_64] :: Itm.box b_56 28 [v_47, v_51] :: it_48 :: it_52 :: Itm.box b_2 24 [v0_0] :: it_195 :: H) := m.front 11 rfl
         have m : Mem W G_190 w (it_195 :: it_186 :: it_162 :: it_139 :: Itm.box b_103 28 [v_94, v_98] :: it_95 :: it_99 :: Itm.box b_69 31 [v_64] :: Itm.box b_56 28 [v_47, v_51] :: it_48 :: it_52 :: Itm.box b_2 24 [v0_0] :: H) := m.front 11 rfl
         exact ⟨_, (GLe.refl _), m, f.weak ⟨rfl, rfl, rfl, rfl, rfl, rfl, rfl, rfl, rfl, rfl, rfl, rfl, rfl, rfl, rfl, trivial⟩⟩
        ·refine l_run f rfl rfl hc_197 ?_
         refine l_boxAgg 4 0 (ds := [v_94, v_98]) m Ag28 f rfl rfl rfl rfl rfl (fun a f => ?_)
         refine l_run f rfl rfl hc_197 ?_
         refine l_boxAgg 8 0 (ds := [v_47, v_51]) m Ag28 f rfl rfl rfl rfl rfl (fun a f => ?_)
         refine l_run f rfl rfl hc_197 ?_
         obtain ⟨y_240, hy_241, hj_239⟩ := bind_some hj_239
         refine l_res f rfl rfl Tryd.call18 (Ow2.lendCall (RI.mono _) 5 o_96 m rfl (fun G_242 hl_243 m h_244 => (Ow2.lendCall (RI.mono _) 5 (Ow2.mono (RI.mono _) hl_243 o_100) m rfl (fun G_245 hl_246 m h_247 => (Ow.lendCall (RSl.mono (RI.mono _)) 7 (Ow.mono (RSl.mono (RI.mono _)) hl_246 (Ow.mono (RSl.mono (RI.mono _)) hl_243 o_49)) m rfl (fun G_248 hl_249 m h_250 => (Ow.lendCall (RSl.mono (RI.mono _)) 7 (Ow.mono (RSl.mono (RI.mono _)) hl_249 (Ow.mono (RSl.mono (RI.mono _)) hl_246 (Ow.mono (RSl.mono (RI.mono _)) hl_243 o_53))) m rfl (fun G_251 hl_252 m h_253 => Wk.laws_eqDecomp m (RSl.mono (RSl.mono (RI.mono _)) _ _ _ _ hl_252 (RSl.mono (RSl.mono (RI.mono _)) _ _ _ _ hl_249 (RSl.mono (RSl.mono (RI.mono _)) _ _ _ _ hl_246 h_244))) (RSl.mono (RSl.mono (RI.mono _)) _ _ _ _ hl_252 (RSl.mono (RSl.mono (RI.mono _)) _ _ _ _ hl_249 h_247)) (RSl.mono (RSl.mono (RI.mono _)) _ _ _ _ hl_252 h_250) h_253 hy_241) (fun _ _ _ _ h => h))) (fun _ _ _ _ h => h))) (fun _ _ _ _ h => h))) (fun _ _ _ _ h => h)) (fun v_257 G_254 Ho_258 w hl_255 m hQ_256 a f => ?_)
         obtain ⟨rfl, rfl⟩ := hQ_256
         have h0_0 := RSl.mono (RSl.mono (RI.mono _)) _ _ _ _ hl_255 h0_0
         have h1 := RSl.mono (RI.mono _) _ _ _ _ hl_255 h1
         have o_196 := Ow.mono (RI.mono _) hl_255 o_196
         have o_187 := Ow2.mono (RI.mono _) hl_255 o_187
         have o_163 := Ow.mono (RI.mono _) hl_255 o_163
         have o_140 := Ow2.mono (RI.mono _) hl_255 o_140
         have o_96 := Ow2.mono (RI.mono _) hl_255 o_96
         have o_100 := Ow2.mono (RI.mono _) hl_255 o_100
         have o_49 := Ow.mono (RSl.mono (RI.mono _)) hl_255 o_49
         have o_53 := Ow.mono (RSl.mono (RI.mono _)) hl_255 o_53
         have m : Mem W G_254 w (it_195 :: it_186 :: it_162 :: it_139 :: Itm.box b_103 28 [v_94, v_98] :: it_95 :: it_99 :: Itm.box b_69 31 [v_64] :: Itm.box b_56 28 [v_47, v_51] :: it_48 :: it_52 :: Itm.box b_2 24 [v0_0] :: H) := m
         refine l_run f rfl rfl hc_197 ?_
         refine l_op f rfl rfl rfl (r_not (f.eval rfl)) (fun a f => ?_)
         refine l_op f rfl rfl rfl (r_pickF (f.eval rfl) hc_197 (f.eval rfl)) (fun a f => ?_)
         obtain rfl := Option.some.inj hj_239
         have m : Mem W G_254 w (Itm.box b_2 24 [v0_0] :: it_195 :: it_186 :: it_162 :: it_139 :: Itm.box b_103 28 [v_94, v_98] :: it_95 :: it_99 :: Itm.box b_69 31 [v_64] :: Itm.box b_56 28 [v_47, v_51] :: it_48 :: it_52 :: H) := m.front 11 rfl
         have m : Mem W G_254 w (it_52 :: Itm.box b_2 24 [v0_0] :: it_195 :: it_186 :: it_162 :: it_139 :: Itm.box b_103 28 [v_94, v_98] :: it_95 :: it_99 :: Itm.box b_69 31 [v_64] :: Itm.box b_56 28 [v_47, v_51] :: it_48 :: H) := m.front 11 rfl
         have m : Mem W G_254 w (it_48 :: it_52 :: Itm.box b_2 24 [v0_0] :: it_195 :: it_186 :: it_162 :: it_139 :: Itm.box b_103 28 [v_94, v_98] :: it_95 :: it_99 :: Itm.box b_69 31 [v_64] :: Itm.box b_56 28 [v_47, v_51] :: H) := m.front 11 rfl
         have m : Mem W G_254 w (Itm.box b_56 28 [v_47, v_51] :: it_48 :: it_52 :: Itm.box b_2 24 [v0_0] :: it_195 :: it_186 :: it_162 :: it_139 :: Itm.box b_103 28 [v_94, v_98] :: it_95 :: it_99 :: Itm.box b_69 31 [v_64] :: H) := m.front 11 rfl
         have m : Mem W G_254 w (Itm.box b_69 31 [v_64] :: Itm.box b_56 28 [v_47, v_51] :: it_48 :: it_52 :: Itm.box b_2 24 [v0_0] :: it_195 :: it_186 :: it_162 :: it_139 :: Itm.box b_103 28 [v_94, v_98] :: it_95 :: it_99 :: H) := m.front 11 rfl
         have m : Mem W G_254 w (it_99 :: Itm.box b_69 31 [v_64] :: Itm.box b_56 28 [v_47, v_51] :: it_48 :: it_52 :: Itm.box b_2 24 [v0_0] :: it_195 :: it_186 :: it_162 :: it_139 :: Itm.box b_103 28 [v_94, v_98] :: it_95 :: H) := m.front 11 rfl
         have m : Mem W G_254 w (it_95 :: it_99 :: Itm.box b_69 31 [v_64] :: Itm.box b_56 28 [v_47, v_51] :: it_48 :: it_52 :: Itm.box b_2 24 [v0_0] :: it_195 :: it_186 :: it_162 :: it_139 :: Itm.box b_103 28 [v_94, v_98] :: H) := m.front 11 rfl
         have m : Mem W G_254 w (Itm.box b_103 28 [v_94, v_98] :: it_95 :: it_99 :: Itm.box b_69 31 [v_64] :: Itm.box b_56 28 [v_47, v_51] :: it_48 :: it_52 :: Itm.box b_2 24 [v0_0] :: it_195 :: it_186 :: it_162 :: it_139 :: H) := m.front 11 rfl
         have m : Mem W G_254 w (it_139 :: Itm.box b_103 28 [v_94, v_98] :: it_95 :: it_99 :: Itm.box b_69 31 [v_64] :: Itm.box b_56 28 [v_47, v_51] :: it_48 :: it_52 :: Itm.box b_2 24 [v0_0] :: it_195 :: it_186 :: it_162 :: H) := m.front 11 rfl
         have m : Mem W G_254 w (it_162 :: it_139 :: Itm.box b_103 28 [v_94, v_98] :: it_95 :: it_99 :: Itm.box b_69 31 [v_64] :: Itm.box b_56 28 [v_47, v_51] :: it_48 :: it_52 :: Itm.box b_2 24 [v0_0] :: it_195 :: it_186 :: H) := m.front 11 rfl
         have m : Mem W G_254 w (it_186 :: it_162 :: it_139 :: Itm.box b_103 28 [v_94, v_98] :: it_95 :: it_99 :: Itm.box b_69 31 [v_64] :: Itm.box b_56 28 [v_47, v_51] :: it_48 :: it_52 :: Itm.box b_2 24 [v0_0] :: it_195 :: H) := m.front 11 rfl
         have m : Mem W G_254 w (it_195 :: it_186 :: it_162 :: it_139 :: Itm.box b_103 28 [v_94, v_98] :: it_95 :: it_99 :: Itm.box b_69 31 [v_64] :: Itm.box b_56 28 [v_47, v_51] :: it_48 :: it_52 :: Itm.box b_2 24 [v0_0] :: H) := m.front 11 rfl
         exact ⟨_, hl_255, m, f.weak ⟨rfl, rfl, rfl, rfl, rfl, rfl, rfl, rfl, rfl, rfl, rfl, rfl, rfl, rfl, rfl, trivial⟩⟩
       ·rintro a w ⟨G_236, hl_237, m, f⟩
        have h0_0 := RSl.mono (RSl.mono (RI.mono _)) _ _ _ _ hl_237 h0_0
        have h1 := RSl.mono (RI.mono _) _ _ _ _ hl_237 h1
        have o_196 := Ow.mono (RI.mono _) hl_237 o_196
        have o_187 := Ow2.mono (RI.mono _) hl_237 o_187
        have o_163 := Ow.mono (RI.mono _) hl_237 o_163
        have o_140 := Ow2.mono (RI.mono _) hl_237 o_140
        have o_96 := Ow2.mono (RI.mono _) hl_237 o_96
        have o_100 := Ow2.mono (RI.mono _) hl_237 o_100
        have o_49 := Ow.mono (RSl.mono (RI.mono _)) hl_237 o_49
        have o_53 := Ow.mono (RSl.mono (RI.mono _)) hl_237 o_53
        refine l_op f rfl rfl rfl (r_move (f.eval rfl)) (fun a f => ?_)
        refine l_cut 4 (fun a w => ∃ G_260, GLe G_236 G_260 ∧ Mem W G_260 w (it_195 :: it_186 :: it_162 :: it_139 :: Itm.box b_103 28 [v_94, v_98] :: it_95 :: it_99 :: Itm.box b_69 31 [v_64] :: Itm.box b_56 28 [v_47, v_51] :: it_48 :: it_52 :: Itm.box b_2 24 [v0_0] :: H) ∧ Fr a 117 [(0, (.agg #[v0_0])), (1, v1), (2, (.pointer (some ⟨b_2, 0, none⟩))), (5, (.int .i64 y_4)), (6, (.pointer (some ⟨b_56, 0, none⟩))), (7, (.bool y_40.2.2)), (8, (.pointer (some ⟨b_69, 0, none⟩))), (9, v_77), (10, (.pointer (some ⟨b_103, 0, none⟩))), (11, (.bool y_81.2.2)), (12, (.int .i64 y_188.1)), (68, (.int .i64 y_188.1)), (69, (.bool (decide (y_188.1 < 0)))), (70, (.bool (decide (y_188.1 < 0)))), (75, (.bool b_238)), (76, (.bool b_238)), (80, (.bool (b_238 || (y_81.2.2 != y_40.2.2))))]) ?_ ?_
        ·rcases Bool.eq_false_or_eq_true b_238 with hc_259 | hc_259
         ·refine l_not' f rfl rfl rfl hc_259 (fun a f => ?_)
          refine l_not' f rfl rfl rfl hc_259 (fun a f => ?_)
          refine l_not' f rfl rfl rfl hc_259 (fun a f => ?_)
          refine l_op f rfl rfl rfl (r_pickT (f.eval rfl) hc_259 (f.eval rfl)) (fun a f => ?_)
          have m : Mem W G_236 w (Itm.box b_2 24 [v0_0] :: it_195 :: it_186 :: it_162 :: it_139 :: Itm.box b_103 28 [v_94, v_98] :: it_95 :: it_99 :: Itm.box b_69 31 [v_64] :: Itm.box b_56 28 [v_47, v_51] :: it_48 :: it_52 :: H) := m.front 11 rfl
          have m : Mem W G_236 w (it_52 :: Itm.box b_2 24 [v0_0] :: it_195 :: it_186 :: it_162 :: it_139 :: Itm.box b_103 28 [v_94, v_98] :: it_95 :: it_99 :: Itm.box b_69 31 [v_64] :: Itm.box b_56 28 [v_47, v_51] :: it_48 :: H) := m.front 11 rfl
          have m : Mem W G_236 w (it_48 :: it_52 :: Itm.box b_2 24 [v0_0] :: it_195 :: it_186 :: it_162 :: it_139 :: Itm.box b_103 28 [v_94, v_98] :: it_95 :: it_99 :: Itm.box b_69 31 [v_64] :: Itm.box b_56 28 [v_47, v_51] :: H) := m.front 11 rfl
          have m : Mem W G_236 w (Itm.box b_56 28 [v_47, v_51] :: it_48 :: it_52 :: Itm.box b_2 24 [v0_0] :: it_195 :: it_186 :: it_162 :: it_139 :: Itm.box b_103 28 [v_94, v_98] :: it_95 :: it_99 :: Itm.box b_69 31 [v_64] :: H) := m.front 11 rfl
          have m : Mem W G_236 w (Itm.box b_69 31 [v_64] :: Itm.box b_56 28 [v_47, v_51] :: it_48 :: it_52 :: Itm.box b_2 24 [v0_0] :: it_195 :: it_186 :: it_162 :: it_139 :: Itm.box b_103 28 [v_94, v_98] :: it_95 :: it_99 :: H) := m.front 11 rfl
          have m : Mem W G_236 w (it_99 :: Itm.box b_69 31 [v_64] :: Itm.box b_56 28 [v_47, v_51] :: it_48 :: it_52 :: Itm.box b_2 24 [v0_0] :: it_195 :: it_186 :: it_162 :: it_139 :: Itm.box b_103 28 [v_94, v_98] :: it_95 :: H) := m.front 11 rfl
          have m : Mem W G_236 w (it_95 :: it_99 :: Itm.box b_69 31 [v_64] :: Itm.box b_56 28 [v_47, v_51] :: it_48 :: it_52 :: Itm.box b_2 24 [v0_0] :: it_195 :: it_186 :: it_162 :: it_139 :: Itm.box b_103 28 [v_94, v_98] :: H) := m.front 11 rfl
          have m : Mem W G_236 w (Itm.box b_103 28 [v_94, v_98] :: it_95 :: it_99 :: Itm.box b_69 31 [v_64] :: Itm.box b_56 28 [v_47, v_51] :: it_48 :: it_52 :: Itm.box b_2 24 [v0_0] :: it_195 :: it_186 :: it_162 :: it_139 :: H) := m.front 11 rfl
          have m : Mem W G_236 w (it_139 :: Itm.box b_103 28 [v_94, v_98] :: it_95 :: it_99 :: Itm.box b_69 31 [v_64] :: Itm.box b_56 28 [v_47, v_51] :: it_48 :: it_52 :: Itm.box b_2 24 [v0_0] :: it_195 :: it_186 :: it_162 :: H) := m.front 11 rfl
          have m : Mem W G_236 w (it_162 :: it_139 :: Itm.box b_103 28 [v_94, v_98] :: it_95 :: it_99 :: Itm.box b_69 31 [v_64] :: Itm.box b_56 28 [v_47, v_51] :: it_48 :: it_52 :: Itm.box b_2 24 [v0_0] :: it_195 :: it_186 :: H) := m.front 11 rfl
          have m : Mem W G_236 w (it_186 :: it_162 :: it_139 :: Itm.box b_103 28 [v_94, v_98] :: it_95 :: it_99 :: Itm.box b_69 31 [v_64] :: Itm.box b_56 28 [v_47, v_51] :: it_48 :: it_52 :: Itm.box b_2 24 [v0_0] :: it_195 :: H) := m.front 11 rfl
          have m : Mem W G_236 w (it_195 :: it_186 :: it_162 :: it_139 :: Itm.box b_103 28 [v_94, v_98] :: it_95 :: it_99 :: Itm.box b_69 31 [v_64] :: Itm.box b_56 28 [v_47, v_51] :: it_48 :: it_52 :: Itm.box b_2 24 [v0_0] :: H) := m.front 11 rfl
          exact ⟨_, (GLe.refl _), m, f.weak ⟨rfl, rfl, rfl, rfl, rfl, rfl, rfl, rfl, rfl, rfl, rfl, rfl, rfl, rfl, rfl, rfl, by rw [hc_259]; rfl, trivial⟩⟩
         ·refine l_run f rfl rfl hc_259 ?_
          refine l_op f rfl rfl rfl (r_move (f.eval rfl)) (fun a f => ?_)
          refine l_run f rfl rfl hc_259 ?_
          refine l_op f rfl rfl rfl (r_move (f.eval rfl)) (fun a f => ?_)
          refine l_run f rfl rfl hc_259 ?_
          refine l_op f rfl rfl rfl (r_bool_neq (f.eval rfl) (f.eval rfl) Tryd.underlying4) (fun a f => ?_)
          refine l_op f rfl rfl rfl (r_pickF (f.eval rfl) hc_259 (f.eval rfl)) (fun a f => ?_)
          have m : Mem W G_236 w (Itm.box b_2 24 [v0_0] :: it_195 :: it_186 :: it_162 :: it_139 :: Itm.box b_103 28 [v_94, v_98] :: it_95 :: it_99 :: Itm.box b_69 31 [v_64] :: Itm.box b_56 28 [v_47, v_51] :: it_48 :: it_52 :: H) := m.front 11 rfl
          have m : Mem W G_236 w (it_52 :: Itm.box b_2 24 [v0_0] :: it_195 :: it_186 :: it_162 :: it_139 :: Itm.box b_103 28 [v_94, v_98] :: it_95 :: it_99 :: Itm.box b_69 31 [v_64] :: Itm.box b_56 28 [v_47, v_51] :: it_48 :: H) := m.front 11 rfl
          have m : Mem W G_236 w (it_48 :: it_52 :: Itm.box b_2 24 [v0_0] :: it_195 :: it_186 :: it_162 :: it_139 :: Itm.box b_103 28 [v_94, v_98] :: it_95 :: it_99 :: Itm.box b_69 31 [v_64] :: Itm.box b_56 28 [v_47, v_51] :: H) := m.front 11 rfl
          have m : Mem W G_236 w (Itm.box b_56 28 [v_47, v_51] :: it_48 :: it_52 :: Itm.box b_2 24 [v0_0] :: it_195 :: it_186 :: it_162 :: it_139 :: Itm.box b_103 28 [v_94, v_98] :: it_95 :: it_99 :: Itm.box b_69 31 [v_64] :: H) := m.front 11 rfl
          have m : Mem W G_236 w (Itm.box b_69 31 [v_64] :: Itm.box b_56 28 [v_47, v_51] :: it_48 :: it_52 :: Itm.box b_2 24 [v0_0] :: it_195 :: it_186 :: it_162 :: it_139 :: Itm.box b_103 28 [v_94, v_98] :: it_95 :: it_99 :: H) := m.front 11 rfl
          have m : Mem W G_236 w (it_99 :: Itm.box b_69 31 [v_64] :: Itm.box b_56 28 [v_47, v_51] :: it_48 :: it_52 :: Itm.box b_2 24 [v0_0] :: it_195 :: it_186 :: it_162 :: it_139 :: Itm.box b_103 28 [v_94, v_98] :: it_95 :: H) := m.front 11 rfl
          have m : Mem W G_236 w (it_95 :: it_99 :: Itm.box b_69 31 [v_64] :: Itm.box b_56 28 [v_47, v_51] :: it_48 :: it_52 :: Itm.box b_2 24 [v0_0] :: it_195 :: it_186 :: it_162 :: it_139 :: Itm.box b_103 28 [v_94, v_98] :: H) := m.front 11 rfl
          have m : Mem W G_236 w (Itm.box b_103 28 [v_94, v_98] :: it_95 :: it_99 :: Itm.box b_69 31 [v_64] :: Itm.box b_56 28 [v_47, v_51] :: it_48 :: it_52 :: Itm.box b_2 24 [v0_0] :: it_195 :: it_186 :: it_162 :: it_139 :: H) := m.front 11 rfl
          have m : Mem W G_236 w (it_139 :: Itm.box b_103 28 [v_94, v_98] :: it_95 :: it_99 :: Itm.box b_69 31 [v_64] :: Itm.box b_56 28 [v_47, v_51] :: it_48 :: it_52 :: Itm.box b_2 24 [v0_0] :: it_195 :: it_186 :: it_162 :: H) := m.front 11 rfl
          have m : Mem W G_236 w (it_162 :: it_139 :: Itm.box b_103 28 [v_94, v_98] :: it_95 :: it_99 :: Itm.box b_69 31 [v_64] :: Itm.box b_56 28 [v_47, v_51] :: it_48 :: it_52 :: Itm.box b_2 24 [v0_0] :: it_195 :: it_186 :: H) := m.front 11 rfl
          have m : Mem W G_236 w (it_186 :: it_162 :: it_139 :: Itm.box b_103 28 [v_94, v_98] :: it_95 :: it_99 :: Itm.box b_69 31 [v_64] :: Itm.box b_56 28 [v_47, v_51] :: it_48 :: it_52 :: Itm.box b_2 24 [v0_0] :: it_195 :: H) := m.front 11 rfl
          have m : Mem W G_236 w (it_195 :: it_186 :: it_162 :: it_139 :: Itm.box b_103 28 [v_94, v_98] :: it_95 :: it_99 :: Itm.box b_69 31 [v_64] :: Itm.box b_56 28 [v_47, v_51] :: it_48 :: it_52 :: Itm.box b_2 24 [v0_0] :: H) := m.front 11 rfl
          exact ⟨_, (GLe.refl _), m, f.weak ⟨rfl, rfl, rfl, rfl, rfl, rfl, rfl, rfl, rfl, rfl, rfl, rfl, rfl, rfl, rfl, rfl, by rw [hc_259]; rfl, trivial⟩⟩
        ·rintro a w ⟨G_260, hl_261, m, f⟩
         have h0_0 := RSl.mono (RSl.mono (RI.mono _)) _ _ _ _ hl_261 h0_0
         have h1 := RSl.mono (RI.mono _) _ _ _ _ hl_261 h1
         have o_196 := Ow.mono (RI.mono _) hl_261 o_196
         have o_187 := Ow2.mono (RI.mono _) hl_261 o_187
         have o_163 := Ow.mono (RI.mono _) hl_261 o_163
         have o_140 := Ow2.mono (RI.mono _) hl_261 o_140
         have o_96 := Ow2.mono (RI.mono _) hl_261 o_96
         have o_100 := Ow2.mono (RI.mono _) hl_261 o_100
         have o_49 := Ow.mono (RSl.mono (RI.mono _)) hl_261 o_49
         have o_53 := Ow.mono (RSl.mono (RI.mono _)) hl_261 o_53
         refine l_nil ?_
         rcases cond_some hd with ⟨hc_262, hd⟩ | ⟨hc_262, hd⟩
         ·refine k_true f rfl hc_262 ?_
          refine k_seq ?_
          refine k_region ?_
          refine l_op f rfl rfl rfl (r_assign (f.eval rfl)) (fun a f => ?_)
          refine l_nil ?_
          refine k_ret ?_
          have m : Mem W G_260 w H := Mem.drop (H' := [it_195, it_186, it_162, it_139, Itm.box b_103 28 [v_94, v_98], it_95, it_99, Itm.box b_69 31 [v_64], Itm.box b_56 28 [v_47, v_51], it_48, it_52, Itm.box b_2 24 [v0_0]]) m
          obtain rfl := Option.some.inj hd
          exact ⟨[(.bool false)], ⟨f.get _ _ rfl, trivial⟩, f.defers, _, [], (GLe.trans hl_7 (GLe.trans hl_15 (GLe.trans hl_26 (GLe.trans hl_35 (GLe.trans hl_38 (GLe.trans hl_43 (GLe.trans hl_60 (GLe.trans hl_73 (GLe.trans hl_90 (GLe.trans hl_119 (GLe.trans hl_125 (GLe.trans hl_137 (GLe.trans hl_152 (GLe.trans hl_157 (GLe.trans hl_174 (GLe.trans hl_182 (GLe.trans hl_191 (GLe.trans hl_237 hl_261)))))))))))))))))), m, rfl, rfl⟩
         ·refine k_false f rfl hc_262 ?_
          refine k_skip ?_
          refine k_seq ?_
          refine k_region ?_
          refine l_op f rfl rfl rfl (r_assign (f.eval rfl)) (fun a f => ?_)
          refine l_nil ?_
          refine k_seq ?_
          refine k_region ?_
          refine l_boxAgg 4 0 (ds := [v_94, v_98]) m Ag28 f rfl rfl rfl rfl rfl (fun a f => ?_)
          refine l_op f rfl rfl rfl (r_move (f.eval rfl)) (fun a f => ?_)
          have m : Mem W G_260 w (it_99 :: it_195 :: it_186 :: it_162 :: it_139 :: Itm.box b_103 28 [v_94, v_98] :: it_95 :: Itm.box b_69 31 [v_64] :: Itm.box b_56 28 [v_47, v_51] :: it_48 :: it_52 :: Itm.box b_2 24 [v0_0] :: H) := m.front 6 rfl
          have m : Mem W G_260 w (it_95 :: it_99 :: it_195 :: it_186 :: it_162 :: it_139 :: Itm.box b_103 28 [v_94, v_98] :: Itm.box b_69 31 [v_64] :: Itm.box b_56 28 [v_47, v_51] :: it_48 :: it_52 :: Itm.box b_2 24 [v0_0] :: H) := m.front 6 rfl
          obtain ⟨y_263, hy_264, hd⟩ := bind_some hd
          refine l_res f rfl rfl Tryd.call23 (Wk.laws_markDecomp m o_96 o_100 hy_264) (fun v_268 G_265 Ho_269 w hl_266 m hQ_267 a f => ?_)
          obtain ⟨it_270, it_272, rfl, rfl, o_271, o_273⟩ := hQ_267
          have h0_0 := RSl.mono (RSl.mono (RI.mono _)) _ _ _ _ hl_266 h0_0
          have h1 := RSl.mono (RI.mono _) _ _ _ _ hl_266 h1
          have o_196 := Ow.mono (RI.mono _) hl_266 o_196
          have o_187 := Ow2.mono (RI.mono _) hl_266 o_187
          have o_163 := Ow.mono (RI.mono _) hl_266 o_163
          have o_140 := Ow2.mono (RI.mono _) hl_266 o_140
          have o_49 := Ow.mono (RSl.mono (RI.mono _)) hl_266 o_49
          have o_53 := Ow.mono (RSl.mono (RI.mono _)) hl_266 o_53
          have m : Mem W G_265 w (it_270 :: it_272 :: it_195 :: it_186 :: it_162 :: it_139 :: Itm.box b_103 28 [v_94, v_98] :: Itm.box b_69 31 [v_64] :: Itm.box b_56 28 [v_47, v_51] :: it_48 :: it_52 :: Itm.box b_2 24 [v0_0] :: H) := m
          refine l_op f rfl rfl rfl (r_assign (f.eval rfl)) (fun a f => ?_)
          refine l_nil ?_
          refine k_seq ?_
          refine k_region ?_
          refine l_op f rfl rfl rfl (r_assign (f.eval rfl)) (fun a f => ?_)
          refine l_nil ?_
          refine k_seq ?_
          refine k_region ?_
          refine l_boxAgg 6 0 (ds := [v_94, v_98]) m Ag28 f rfl rfl rfl rfl rfl (fun a f => ?_)
          refine l_op f rfl rfl rfl (r_move (f.eval rfl)) (fun a f => ?_)
          obtain ⟨y_274, hy_275, hd⟩ := bind_some hd
          refine l_res f rfl rfl Tryd.call24 (Ow2.lendCall (RI.mono _) 0 o_271 m rfl (fun G_276 hl_277 m h_278 => (Ow2.lendCall (RI.mono _) 0 (Ow2.mono (RI.mono _) hl_277 o_273) m rfl (fun G_279 hl_280 m h_281 => Wk.laws_heldDecomp m (RSl.mono (RSl.mono (RI.mono _)) _ _ _ _ hl_280 h_278) h_281 hy_275) (fun _ _ _ _ h => h))) (fun _ _ _ _ h => h)) (fun v_285 G_282 Ho_286 w hl_283 m hQ_284 a f => ?_)
          obtain ⟨rfl, rfl⟩ := hQ_284
          have h0_0 := RSl.mono (RSl.mono (RI.mono _)) _ _ _ _ hl_283 h0_0
          have h1 := RSl.mono (RI.mono _) _ _ _ _ hl_283 h1
          have o_271 := Ow2.mono (RI.mono _) hl_283 o_271
          have o_273 := Ow2.mono (RI.mono _) hl_283 o_273
          have o_196 := Ow.mono (RI.mono _) hl_283 o_196
          have o_187 := Ow2.mono (RI.mono _) hl_283 o_187
          have o_163 := Ow.mono (RI.mono _) hl_283 o_163
          have o_140 := Ow2.mono (RI.mono _) hl_283 o_140
          have o_49 := Ow.mono (RSl.mono (RI.mono _)) hl_283 o_49
          have o_53 := Ow.mono (RSl.mono (RI.mono _)) hl_283 o_53
          have m : Mem W G_282 w (it_270 :: it_272 :: it_195 :: it_186 :: it_162 :: it_139 :: Itm.box b_103 28 [v_94, v_98] :: Itm.box b_69 31 [v_64] :: Itm.box b_56 28 [v_47, v_51] :: it_48 :: it_52 :: Itm.box b_2 24 [v0_0] :: H) := m
          refine l_op f rfl rfl rfl (r_assign (f.eval rfl)) (fun a f => ?_)
          refine l_nil ?_
          refine k_seq ?_
          refine k_seq ?_
          refine k_region ?_
          refine l_op f rfl rfl rfl (r_move (f.eval rfl)) (fun a f => ?_)
          refine l_op f rfl rfl rfl (r_int (f.eval rfl) (f.eval rfl) b_lss) (fun a f => ?_)
          refine l_nil ?_
          rcases cond_some hd with ⟨hc_287, hd⟩ | ⟨hc_287, hd⟩
          ·refine k_true f rfl hc_287 ?_
           refine k_seq ?_
           refine k_region ?_
           refine l_op f rfl rfl rfl (r_assign (f.eval rfl)) (fun a f => ?_)
           refine l_nil ?_
           refine k_ret ?_
           have m : Mem W G_282 w H := Mem.drop (H' := [it_270, it_272, it_195, it_186, it_162, it_139, Itm.box b_103 28 [v_94, v_98], Itm.box b_69 31 [v_64], Itm.box b_56 28 [v_47, v_51], it_48, it_52, Itm.box b_2 24 [v0_0]]) m
           obtain rfl := Option.some.inj hd
           exact ⟨[(.bool false)], ⟨f.get _ _ rfl, trivial⟩, f.defers, _, [], (GLe.trans hl_7 (GLe.trans hl_15 (GLe.trans hl_26 (GLe.trans hl_35 (GLe.trans hl_38 (GLe.trans hl_43 (GLe.trans hl_60 (GLe.trans hl_73 (GLe.trans hl_90 (GLe.trans hl_119 (GLe.trans hl_125 (GLe.trans hl_137 (GLe.trans hl_152 (GLe.trans hl_157 (GLe.trans hl_174 (GLe.trans hl_182 (GLe.trans hl_191 (GLe.trans hl_237 (GLe.trans hl_261 (GLe.trans hl_266 hl_283)))))))))))))))))))), m, rfl, rfl⟩
          ·refine k_false f rfl hc_287 ?_
           refine k_skip ?_
           refine k_seq ?_
           refine k_seq ?_
           refine k_region ?_
           refine l_op f rfl rfl rfl (r_move (f.eval rfl)) (fun a f => ?_)
           refine l_op f rfl rfl rfl (r_move (f.eval rfl)) (fun a f => ?_)
           refine l_op f rfl rfl rfl (r_int (f.eval rfl) (f.eval rfl) b_neq) (fun a f => ?_)
           refine l_nil ?_
           rcases cond_some hd with ⟨hc_288, hd⟩ | ⟨hc_288, hd⟩
           ·refine k_true f rfl hc_288 ?_
            refine k_seq ?_
            refine k_region ?_
            refine l_op f rfl rfl rfl (r_assign (f.eval rfl)) (fun a f => ?_)
            refine l_nil ?_
            refine k_ret ?_
            have m : Mem W G_282 w H := Mem.drop (H' := [it_270, it_272, it_195, it_186, it_162, it_139, Itm.box b_103 28 [v_94, v_98], Itm.box b_69 31 [v_64], Itm.box b_56 28 [v_47, v_51], it_48, it_52, Itm.box b_2 24 [v0_0]]) m
            obtain rfl := Option.some.inj hd
            exact ⟨[(.bool false)], ⟨f.get _ _ rfl, trivial⟩, f.defers, _, [], (GLe.trans hl_7 (GLe.trans hl_15 (GLe.trans hl_26 (GLe.trans hl_35 (GLe.trans hl_38 (GLe.trans hl_43 (GLe.trans hl_60 (GLe.trans hl_73 (GLe.trans hl_90 (GLe.trans hl_119 (GLe.trans hl_125 (GLe.trans hl_137 (GLe.trans hl_152 (GLe.trans hl_157 (GLe.trans hl_174 (GLe.trans hl_182 (GLe.trans hl_191 (GLe.trans hl_237 (GLe.trans hl_261 (GLe.trans hl_266 hl_283)))))))))))))))))))), m, rfl, rfl⟩
           ·refine k_false f rfl hc_288 ?_
            refine k_skip ?_
            refine k_seq ?_
            refine k_region ?_
            refine l_boxAgg 11 0 (ds := [v0_0]) m Ag24 f rfl rfl rfl rfl rfl (fun a f => ?_)
            obtain ⟨y_289, hy_290, hd⟩ := bind_some hd
            refine l_res f rfl rfl Tryd.call15 (Wk.laws_toGraph m h0_0 hy_290) (fun v_294 G_291 Ho_295 w hl_292 m hQ_293 a f => ?_)
            obtain ⟨v_296, it_297, rfl, rfl, o_298⟩ := hQ_293
            have h0_0 := RSl.mono (RSl.mono (RI.mono _)) _ _ _ _ hl_292 h0_0
            have h1 := RSl.mono (RI.mono _) _ _ _ _ hl_292 h1
            have o_271 := Ow2.mono (RI.mono _) hl_292 o_271
            have o_273 := Ow2.mono (RI.mono _) hl_292 o_273
            have o_196 := Ow.mono (RI.mono _) hl_292 o_196
            have o_187 := Ow2.mono (RI.mono _) hl_292 o_187
            have o_163 := Ow.mono (RI.mono _) hl_292 o_163
            have o_140 := Ow2.mono (RI.mono _) hl_292 o_140
            have o_49 := Ow.mono (RSl.mono (RI.mono _)) hl_292 o_49
            have o_53 := Ow.mono (RSl.mono (RI.mono _)) hl_292 o_53
            have m : Mem W G_291 w (it_297 :: it_270 :: it_272 :: it_195 :: it_186 :: it_162 :: it_139 :: Itm.box b_103 28 [v_94, v_98] :: Itm.box b_69 31 [v_64] :: Itm.box b_56 28 [v_47, v_51] :: it_48 :: it_52 :: Itm.box b_2 24 [v0_0] :: H) := m
            refine l_op f rfl rfl rfl (r_move (f.eval rfl)) (fun a f => ?_)
            obtain ⟨y_300, hy_301, hd⟩ := bind_some hd
            refine l_res f rfl rfl Tryd.call16 (Wk.laws_toInt64S m h1 hy_301) (fun v_305 G_302 Ho_306 w hl_303 m hQ_304 a f => ?_)
            obtain ⟨v_307, it_308, rfl, rfl, o_309⟩ := hQ_304
            have h0_0 := RSl.mono (RSl.mono (RI.mono _)) _ _ _ _ hl_303 h0_0
            have h1 := RSl.mono (RI.mono _) _ _ _ _ hl_303 h1
            have o_298 := Ow2.mono (RI.mono _) hl_303 o_298
            have o_271 := Ow2.mono (RI.mono _) hl_303 o_271
            have o_273 := Ow2.mono (RI.mono _) hl_303 o_273
            have o_196 := Ow.mono (RI.mono _) hl_303 o_196
            have o_187 := Ow2.mono (RI.mono _) hl_303 o_187
            have o_163 := Ow.mono (RI.mono _) hl_303 o_163
            have o_140 := Ow2.mono (RI.mono _) hl_303 o_140
            have o_49 := Ow.mono (RSl.mono (RI.mono _)) hl_303 o_49
            have o_53 := Ow.mono (RSl.mono (RI.mono _)) hl_303 o_53
            have m : Mem W G_302 w (it_308 :: it_297 :: it_270 :: it_272 :: it_195 :: it_186 :: it_162 :: it_139 :: Itm.box b_103 28 [v_94, v_98] :: Itm.box b_69 31 [v_64] :: Itm.box b_56 28 [v_47, v_51] :: it_48 :: it_52 :: Itm.box b_2 24 [v0_0] :: H) := m
            obtain ⟨y_311, hy_312, hd⟩ := bind_some hd
            refine l_res f rfl rfl Tryd.call17 (Ow2.lendCall (RI.mono _) 1 o_298 m rfl (fun G_313 hl_314 m h_315 => (Ow.lendCall (RI.mono _) 0 (Ow.mono (RI.mono _) hl_314 o_309) m rfl (fun G_316 hl_317 m h_318 => Wk.impl_PathDecomp hW m (RSl.mono (RSl.mono (RI.mono _)) _ _ _ _ hl_317 h_315) h_318 hy_312) (fun _ G' _ _ ⟨a0, a1, a2, a3, e1, e2, o0, o1⟩ => ⟨a0, a1, a2, a3, e1, e2, Ow2.free (RI.free _) G' o0, Ow2.free (RI.free _) G' o1⟩))) (fun _ G' _ _ ⟨a0, a1, a2, a3, e1, e2, o0, o1⟩ => ⟨a0, a1, a2, a3, e1, e2, Ow2.free (RI.free _) G' o0, Ow2.free (RI.free _) G' o1⟩)) (fun v_322 G_319 Ho_323 w hl_320 m hQ_321 a f => ?_)
            obtain ⟨v_324, it_325, v_328, it_329, rfl, rfl, o_326, o_330⟩ := hQ_321
            have h0_0 := RSl.mono (RSl.mono (RI.mono _)) _ _ _ _ hl_320 h0_0
            have h1 := RSl.mono (RI.mono _) _ _ _ _ hl_320 h1
            have o_309 := Ow.mono (RI.mono _) hl_320 o_309
            have o_298 := Ow2.mono (RI.mono _) hl_320 o_298
            have o_271 := Ow2.mono (RI.mono _) hl_320 o_271
            have o_273 := Ow2.mono (RI.mono _) hl_320 o_273
            have o_196 := Ow.mono (RI.mono _) hl_320 o_196
            have o_187 := Ow2.mono (RI.mono _) hl_320 o_187
            have o_163 := Ow.mono (RI.mono _) hl_320 o_163
            have o_140 := Ow2.mono (RI.mono _) hl_320 o_140
            have o_49 := Ow.mono (RSl.mono (RI.mono _)) hl_320 o_49
            have o_53 := Ow.mono (RSl.mono (RI.mono _)) hl_320 o_53
            have m : Mem W G_319 w (it_325 :: it_329 :: it_308 :: it_297 :: it_270 :: it_272 :: it_195 :: it_186 :: it_162 :: it_139 :: Itm.box b_103 28 [v_94, v_98] :: Itm.box b_69 31 [v_64] :: Itm.box b_56 28 [v_47, v_51] :: it_48 :: it_52 :: Itm.box b_2 24 [v0_0] :: H) := m
            refine l_op f rfl rfl rfl (r_move (f.eval rfl)) (fun a f => ?_)
            refine l_op f rfl rfl rfl (r_extract (f.eval rfl) rfl) (fun a f => ?_)
            refine l_op f rfl rfl rfl (r_extract (f.eval rfl) rfl) (fun a f => ?_)
            refine l_alloc (cs := [(.slice none 0 0), (.slice none 0 0)]) Tryd.zeroValue28 m f rfl rfl (fun b_333 w a m f => ?_)
            refine l_boxStore 0 0 (ds := [v_324, v_328]) m Tryd.sizeOf28 f rfl rfl rfl (ones_cons (Ow2.one1 1 m o_326 rfl) (ones_cons (Ow2.one1 2 m o_330 rfl) ones_nil)) rfl (Nat.le_of_ble_eq_true rfl) rfl (fun w m => ?_)
            have m : Mem W G_319 w (Itm.box b_333 28 [v_324, v_328] :: it_325 :: it_329 :: it_308 :: it_297 :: it_270 :: it_272 :: it_195 :: it_186 :: it_162 :: it_139 :: Itm.box b_103 28 [v_94, v_98] :: Itm.box b_69 31 [v_64] :: Itm.box b_56 28 [v_47, v_51] :: it_48 :: it_52 :: Itm.box b_2 24 [v0_0] :: H) := m
            refine l_op f rfl rfl rfl (r_assign (f.eval rfl)) (fun a f => ?_)
            refine l_nil ?_
            refine k_seq ?_
            refine k_seq ?_
            refine k_region ?_
            refine l_boxAgg 0 0 (ds := [v_324, v_328]) m Ag28 f rfl rfl rfl rfl rfl (fun a f => ?_)
            refine l_boxAgg 13 0 (ds := [v_47, v_51]) m Ag28 f rfl rfl rfl rfl rfl (fun a f => ?_)
            obtain ⟨y_334, hy_335, hd⟩ := bind_some hd
            refine l_res f rfl rfl Tryd.call18 (Ow2.lendCall (RI.mono _) 1 o_326 m rfl (fun G_336 hl_337 m h_338 => (Ow2.lendCall (RI.mono _) 1 (Ow2.mono (RI.mono _) hl_337 o_330) m rfl (fun G_339 hl_340 m h_341 => (Ow.lendCall (RSl.mono (RI.mono _)) 12 (Ow.mono (RSl.mono (RI.mono _)) hl_340 (Ow.mono (RSl.mono (RI.mono _)) hl_337 o_49)) m rfl (fun G_342 hl_343 m h_344 => (Ow.lendCall (RSl.mono (RI.mono _)) 12 (Ow.mono (RSl.mono (RI.mono _)) hl_343 (Ow.mono (RSl.mono (RI.mono _)) hl_340 (Ow.mono (RSl.mono (RI.mono _)) hl_337 o_53))) m rfl (fun G_345 hl_346 m h_347 => Wk.laws_eqDecomp m (RSl.mono (RSl.mono (RI.mono _)) _ _ _ _ hl_346 (RSl.mono (RSl.mono (RI.mono _)) _ _ _ _ hl_343 (RSl.mono (RSl.mono (RI.mono _)) _ _ _ _ hl_340 h_338))) (RSl.mono (RSl.mono (RI.mono _)) _ _ _ _ hl_346 (RSl.mono (RSl.mono (RI.mono _)) _ _ _ _ hl_343 h_341)) (RSl.mono (RSl.mono (RI.mono _)) _ _ _ _ hl_346 h_344) h_347 hy_335) (fun _ _ _ _ h => h))) (fun _ _ _ _ h => h))) (fun _ _ _ _ h => h))) (fun _ _ _ _ h => h)) (fun v_351 G_348 Ho_352 w hl_349 m hQ_350 a f => ?_)
            obtain ⟨rfl, rfl⟩ := hQ_350
            have h0_0 := RSl.mono (RSl.mono (RI.mono _)) _ _ _ _ hl_349 h0_0
            have h1 := RSl.mono (RI.mono _) _ _ _ _ hl_349 h1
            have o_326 := Ow2.mono (RI.mono _) hl_349 o_326
            have o_330 := Ow2.mono (RI.mono _) hl_349 o_330
            have o_309 := Ow.mono (RI.mono _) hl_349 o_309
            have o_298 := Ow2.mono (RI.mono _) hl_349 o_298
            have o_271 := Ow2.mono (RI.mono _) hl_349 o_271
            have o_273 := Ow2.mono (RI.mono _) hl_349 o_273
            have o_196 := Ow.mono (RI.mono _) hl_349 o_196
            have o_187 := Ow2.mono (RI.mono _) hl_349 o_187
            have o_163 := Ow.mono (RI.mono _) hl_349 o_163
            have o_140 := Ow2.mono (RI.mono _) hl_349 o_140
            have o_49 := Ow.mono (RSl.mono (RI.mono _)) hl_349 o_49
            have o_53 := Ow.mono (RSl.mono (RI.mono _)) hl_349 o_53
            have m : Mem W G_348 w (Itm.box b_333 28 [v_324, v_328] :: it_325 :: it_329 :: it_308 :: it_297 :: it_270 :: it_272 :: it_195 :: it_186 :: it_162 :: it_139 :: Itm.box b_103 28 [v_94, v_98] :: Itm.box b_69 31 [v_64] :: Itm.box b_56 28 [v_47, v_51] :: it_48 :: it_52 :: Itm.box b_2 24 [v0_0] :: H) := m
            refine l_op f rfl rfl rfl (r_not (f.eval rfl)) (fun a f => ?_)
            refine l_op f rfl rfl rfl (r_move (f.eval rfl)) (fun a f => ?_)
            refine l_cut 4 (fun a w => ∃ G_354, GLe G_348 G_354 ∧ Mem W G_354 w (Itm.box b_333 28 [v_324, v_328] :: it_325 :: it_329 :: it_308 :: it_297 :: it_270 :: it_272 :: it_195 :: it_186 :: it_162 :: it_139 :: Itm.box b_103 28 [v_94, v_98] :: Itm.box b_69 31 [v_64] :: Itm.box b_56 28 [v_47, v_51] :: it_48 :: it_52 :: Itm.box b_2 24 [v0_0] :: H) ∧ Fr a 117 [(0, (.agg #[v0_0])), (1, v1), (2, (.pointer (some ⟨b_2, 0, none⟩))), (5, (.int .i64 y_4)), (6, (.pointer (some ⟨b_56, 0, none⟩))), (7, (.bool y_40.2.2)), (8, (.pointer (some ⟨b_69, 0, none⟩))), (9, v_77), (10, (.pointer (some ⟨b_103, 0, none⟩))), (11, (.bool y_81.2.2)), (12, (.int .i64 y_188.1)), (13, (.int .i64 y_263.1)), (14, (.int .i64 y_274)), (15, (.pointer (some ⟨b_333, 0, none⟩))), (16, (.bool y_311.2.2)), (100, (.agg #[v_324, v_328])), (101, (.agg #[v_47, v_51])), (102, (.bool y_334)), (103, (.bool (!y_334))), (104, (.bool (!y_334))), (108, (.bool ((!y_334) || (y_311.2.2 != y_40.2.2))))]) ?_ ?_
            ·rcases Bool.eq_false_or_eq_true (!y_334) with hc_353 | hc_353
             ·refine l_not' f rfl rfl rfl hc_353 (fun a f => ?_)
              refine l_not' f rfl rfl rfl hc_353 (fun a f => ?_)
              refine l_not' f rfl rfl rfl hc_353 (fun a f => ?_)
              refine l_op f rfl rfl rfl (r_pickT (f.eval rfl) hc_353 (f.eval rfl)) (fun a f => ?_)
              have m : Mem W G_348 w (Itm.box b_2 24 [v0_0] :: Itm.box b_333 28 [v_324, v_328] :: it_325 :: it_329 :: it_308 :: it_297 :: it_270 :: it_272 :: it_195 :: it_186 :: it_162 :: it_139 :: Itm.box b_103 28 [v_94, v_98] :: Itm.box b_69 31 [v_64] :: Itm.box b_56 28 [v_47, v_51] :: it_48 :: it_52 :: H) := m.front 16 rfl
              have m : Mem W G_348 w (it_52 :: Itm.box b_2 24 [v0_0] :: Itm.box b_333 28 [v_324, v_328] :: it_325 :: it_329 :: it_308 :: it_297 :: it_270 :: it_272 :: it_195 :: it_186 :: it_162 :: it_139 :: Itm.box b_103 28 [v_94, v_98] :: Itm.box b_69 31 [v_64] :: Itm.box b_56 28 [v_47, v_51] :: it_48 :: H) := m.front 16 rfl
              have m : Mem W G_348 w (it_48 :: it_52 :: Itm.box b_2 24 [v0_0] :: Itm.box b_333 28 [v_324, v_328] :: it_325 :: it_329 :: it_308 :: it_297 :: it_270 :: it_272 :: it_195 :: it_186 :: it_162 :: it_139 :: Itm.box b_103 28 [v_94, v_98] :: Itm.box b_69 31 [v_64] :: Itm.box b_56 28 [v_47, v_51] :: H) := m.front 16 rfl
              have m : Mem W G_348 w (Itm.box b_56 28 [v_47, v_51] :: it_48 :: it_52 :: Itm.box b_2 24 [v0_0] :: Itm.box b_333 28 [v_324, v_328] :: it_325 :: it_329 :: it_308 :: it_297 :: it_270 :: it_272 :: it_195 :: it_186 :: it_162 :: it_139 :: Itm.box b_103 28 [v_94, v_98] :: Itm.box b_69 31 [v_64] :: H) := m.front 16 rfl
              have m : Mem W G_348 w (Itm.box b_69 31 [v_64] :: Itm.box b_56 28 [v_47, v_51] :: it_48 :: it_52 :: Itm.box b_2 24 [v0_0] :: Itm.box b_333 28 [v_324, v_328] :: it_325 :: it_329 :: it_308 :: it_297 :: it_270 :: it_272 :: it_195 :: it_186 :: it_162 :: it_139 :: Itm.box b_103 28 [v_94, v_98] :: H) := m.front 16 rfl
              have m : Mem W G_348 w (Itm.box b_103 28 [v_94, v_98] :: Itm.box b_69 31 [v_64] :: Itm.box b_56 28 [v_47, v_51] :: it_48 :: it_52 :: Itm.box b_2 24 [v0_0] :: Itm.box b_333 28 [v_324, v_328] :: it_325 :: it_329 :: it_308 :: it_297 :: it_270 :: it_272 :: it_195 :: it_186 :: it_162 :: it_139 :: H) := m.front 16 rfl
              have m : Mem W G_348 w (it_139 :: Itm.box b_103 28 [v_94, v_98] :: Itm.box b_69 31 [v_64] :: Itm.box b_56 28 [v_47, v_51] :: it_48 :: it_52 :: Itm.box b_2 24 [v0_0] :: Itm.box b_333 28 [v_324, v_328] :: it_325 :: it_329 :: it_308 :: it_297 :: it_270 :: it_272 :: it_195 :: it_186 :: it_162 :: H) := m.front 16 rfl
              have m : Mem W G_348 w (it_162 :: it_139 :: Itm.box b_103 28 [v_94, v_98] :: Itm.box b_69 31 [v_64] :: Itm.box b_56 28 [v_47, v_51] :: it_48 :: it_52 :: Itm.box b_2 24 [v0_0] :: Itm.box b_333 28 [v_324, v_328] :: it_325 :: it_329 :: it_308 :: it_297 :: it_270 :: it_272 :: it_195 :: it_186 :: H) := m.front 16 rfl
              have m : Mem W G_348 w (it_186 :: it_162 :: it_139 :: Itm.box b_103 28 [v_94, v_98] :: Itm.box b_69 31 [v_64] :: Itm.box b_56 28 [v_47, v_51] :: it_48 :: it_52 :: Itm.box b_2 24 [v0_0] :: Itm.box b_333 28 [v_324, v_328] :: it_325 :: it_329 :: it_308 :: it_297 :: it_270 :: it_272 :: it_195 :: H) := m.front 16 rfl
              have m : Mem W G_348 w (it_195 :: it_186 :: it_162 :: it_139 :: Itm.box b_103 28 [v_94, v_98] :: Itm.box b_69 31 [v_64] :: Itm.box b_56 28 [v_47, v_51] :: it_48 :: it_52 :: Itm.box b_2 24 [v0_0] :: Itm.box b_333 28 [v_324, v_328] :: it_325 :: it_329 :: it_308 :: it_297 :: it_270 :: it_272 :: H) := m.front 16 rfl
              have m : Mem W G_348 w (it_272 :: it_195 :: it_186 :: it_162 :: it_139 :: Itm.box b_103 28 [v_94, v_98] :: Itm.box b_69 31 [v_64] :: Itm.box b_56 28 [v_47, v_51] :: it_48 :: it_52 :: Itm.box b_2 24 [v0_0] :: Itm.box b_333 28 [v_324, v_328] :: it_325 :: it_329 :: it_308 :: it_297 :: it_270 :: H) := m.front 16 rfl
              have m : Mem W G_348 w (it_270 :: it_272 :: it_195 :: it_186 :: it_162 :: it_139 :: Itm.box b_103 28 [v_94, v_98] :: Itm.box b_69 31 [v_64] :: Itm.box b_56 28 [v_47, v_51] :: it_48 :: it_52 :: Itm.box b_2 24 [v0_0] :: Itm.box b_333 28 [v_324, v_328] :: it_325 :: it_329 :: it_308 :: it_297 :: H) := m.front 16 rfl
              have m : Mem W G_348 w (it_297 :: it_270 :: it_272 :: it_195 :: it_186 :: it_162 :: it_139 :: Itm.box b_103 28 [v_94, v_98] :: Itm.box b_69 31 [v_64] :: Itm.box b_56 28 [v_47, v_51] :: it_48 :: it_52 :: Itm.box b_2 24 [v0_0] :: Itm.box b_333 28 [v_324, v_328] :: it_325 :: it_329 :: it_308 :: H) := m.front 16 rfl
              have m : Mem W G_348 w (it_308 :: it_297 :: it_270 :: it_272 :: it_195 :: it_186 :: it_162 :: it_139 :: Itm.box b_103 28 [v_94, v_98] :: Itm.box b_69 31 [v_64] :: Itm.box b_56 28 [v_47, v_51] :: it_48 :: it_52 :: Itm.box b_2 24 [v0_0] :: Itm.box b_333 28 [v_324, v_328] :: it_325 :: it_329 :: H) := m.front 16 rfl
              have m : Mem W G_348 w (it_329 :: it_308 :: it_297 :: it_270 :: it_272 :: it_195 :: it_186 :: it_162 :: it_139 :: Itm.box b_103 28 [v_94, v_98] :: Itm.box b_69 31 [v_64] :: Itm.box b_56 28 [v_47, v_51] :: it_48 :: it_52 :: Itm.box b_2 24 [v0_0] :: Itm.box b_333 28 [v_324, v_328] :: it_325 :: H) := m.front 16 rfl
              have m : Mem W G_348 w (it_325 :: it_329 :: it_308 :: it_297 :: it_270 :: it_272 :: it_195 :: it_186 :: it_162 :: it_139 :: Itm.box b_103 28 [v_94, v_98] :: Itm.box b_69 31 [v_64] :: Itm.box b_56 28 [v_47, v_51] :: it_48 :: it_52 :: Itm.box b_2 24 [v0_0] :: Itm.box b_333 28 [v_324, v_328] :: H) := m.front 16 rfl
              have m : Mem W G_348 w (Itm.box b_333 28 [v_324, v_328] :: it_325 :: it_329 :: it_308 :: it_297 :: it_270 :: it_272 :: it_195 :: it_186 :: it_162 :: it_139 :: Itm.box b_103 28 [v_94, v_98] :: Itm.box b_69 31 [v_64] :: Itm.box b_56 28 [v_47, v_51] :: it_48 :: it_52 :: Itm.box b_2 24 [v0_0] :: H) := m.front 16 rfl
              exact ⟨_, (GLe.refl _), m, f.weak ⟨rfl, rfl, rfl, rfl, rfl, rfl, rfl, rfl, rfl, rfl, rfl, rfl, rfl, rfl, rfl, rfl, rfl, rfl, rfl, rfl, by rw [hc_353]; rfl, trivial⟩⟩
             ·refine l_run f rfl rfl hc_353 ?_
              refine l_op f rfl rfl rfl (r_move (f.eval rfl)) (fun a f => ?_)
              refine l_run f rfl rfl hc_353 ?_
              refine l_op f rfl rfl rfl (r_move (f.eval rfl)) (fun a f => ?_)
              refine l_run f rfl rfl hc_353 ?_
              refine l_op f rfl rfl rfl (r_bool_neq (f.eval rfl) (f.eval rfl) Tryd.underlying4) (fun a f => ?_)
              refine l_op f rfl rfl rfl (r_pickF (f.eval rfl) hc_353 (f.eval rfl)) (fun a f => ?_)
              have m : Mem W G_348 w (Itm.box b_2 24 [v0_0] :: Itm.box b_333 28 [v_324, v_328] :: it_325 :: it_329 :: it_308 :: it_297 :: it_270 :: it_272 :: it_195 :: it_186 :: it_162 :: it_139 :: Itm.box b_103 28 [v_94, v_98] :: Itm.box b_69 31 [v_64] :: Itm.box b_56 28 [v_47, v_51] :: it_48 :: it_52 :: H) := m.front 16 rfl
              have m : Mem W G_348 w (it_52 :: Itm.box b_2 24 [v0_0] :: Itm.box b_333 28 [v_324, v_328] :: it_325 :: it_329 :: it_308 :: it_297 :: it_270 :: it_272 :: it_195 :: it_186 :: it_162 :: it_139 :: Itm.box b_103 28 [v_94, v_98] :: Itm.box b_69 31 [v_64] :: Itm.box b_56 28 [v_47, v_51] :: it_48 :: H) := m.front 16 rfl
              have m : Mem W G_348 w (it_48 :: it_52 :: Itm.box b_2 24 [v0_0] :: Itm.box b_333 28 [v_324, v_328] :: it_325 :: it_329 :: it_308 :: it_297 :: it_270 :: it_272 :: it_195 :: it_186 :: it_162 :: it_139 :: Itm.box b_103 28 [v_94, v_98] :: Itm.box b_69 31 [v_64] :: Itm.box b_56 28 [v_47, v_51] :: H) := m.front 16 rfl
              have m : Mem W G_348 w (Itm.box b_56 28 [v_47, v_51] :: it_48 :: it_52 :: Itm.box b_2 24 [v0_0] :: Itm.box b_333 28 [v_324, v_328] :: it_325 :: it_329 :: it_308 :: it_297 :: it_270 :: it_272 :: it_195 :: it_186 :: it_162 :: it_139 :: Itm.box b_103 28 [v_94, v_98] :: Itm.box b_69 31 [v_64] :: H) := m.front 16 rfl
              have m : Mem W G_348 w (Itm.box b_69 31 [v_64] :: Itm.box b_56 28 [v_47, v_51] :: it_48 :: it_52 :: Itm.box b_2 24 [v0_0] :: Itm.box b_333 28 [v_324, v_328] :: it_325 :: it_329 :: it_308 :: it_297 :: it_270 :: it_272 :: it_195 :: it_186 :: it_162 :: it_139 :: Itm.box b_103 28 [v_94, v_98] :: H) := m.front 16 rfl
              have m : Mem W G_348 w (Itm.box b_103 28 [v_94, v_98] :: Itm.box b_69 31 [v_64] :: Itm.box b_56 28 [v_47, v_51] :: it_48 :: it_52 :: Itm.box b_2 24 [v0_0] :: Itm.box b_333 28 [v_324, v_328] :: it_325 :: it_329 :: it_308 :: it_297 :: it_270 :: it_272 :: it_195 :: it_186 :: it_162 :: it_139 :: H) := m.front 16 rfl
              have m : Mem W G_348 w (it_139 :: Itm.box b_103 28 [v_94, v_98] :: Itm.box b_69 31 [v_64] :: Itm.box b_56 28 [v_47, v_51] :: it_48 :: it_52 :: Itm.box b_2 24 [v0_0] :: Itm.box b_333 28 [v_324, v_328] :: it_325 :: it_329 :: it_308 :: it_297 :: it_270 :: it_272 :: it_195 :: it_186 :: it_162 :: H) := m.front 16 rfl
              have m : Mem W G_348 w (it_162 :: it_139 :: Itm.box b_103 28 [v_94, v_98] :: Itm.box b_69 31 [v_64] :: Itm.box b_56 28 [v_47, v_51] :: it_48 :: it_52 :: Itm.box b_2 24 [v0_0] :: Itm.box b_333 28 [v_324, v_328] :: it_325 :: it_329 :: it_308 :: it_297 :: it_270 :: it_272 :: it_195 :: it_186 :: H) := m.front 16 rfl
              have m : Mem W G_348 w (it_186 :: it_162 :: it_139 :: Itm.box b_103 28 [v_94, v_98] :: Itm.box b_69 31 [v_64] :: Itm.box b_56 28 [v_47, v_51] :: it_48 :: it_52 :: Itm.box b_2 24 [v0_0] :: Itm.box b_333 28 [v_324, v_328] :: it_325 :: it_329 :: it_308 :: it_297 :: it_270 :: it_272 :: it_195 :: H) := m.front 16 rfl
              have m : Mem W G_348 w (it_195 :: it_186 :: it_162 :: it_139 :: Itm.box b_103 28 [v_94, v_98] :: Itm.box b_69 31 [v_64] :: Itm.box b_56 28 [v_47, v_51] :: it_48 :: it_52 :: Itm.box b_2 24 [v0_0] :: Itm.box b_333 28 [v_324, v_328] :: it_325 :: it_329 :: it_308 :: it_297 :: it_270 :: it_272 :: H) := m.front 16 rfl
              have m : Mem W G_348 w (it_272 :: it_195 :: it_186 :: it_162 :: it_139 :: Itm.box b_103 28 [v_94, v_98] :: Itm.box b_69 31 [v_64] :: Itm.box b_56 28 [v_47, v_51] :: it_48 :: it_52 :: Itm.box b_2 24 [v0_0] :: Itm.box b_333 28 [v_324, v_328] :: it_325 :: it_329 :: it_308 :: it_297 :: it_270 :: H) := m.front 16 rfl
              have m : Mem W G_348 w (it_270 :: it_272 :: it_195 :: it_186 :: it_162 :: it_139 :: Itm.box b_103 28 [v_94, v_98] :: Itm.box b_69 31 [v_64] :: Itm.box b_56 28 [v_47, v_51] :: it_48 :: it_52 :: Itm.box b_2 24 [v0_0] :: Itm.box b_333 28 [v_324, v_328] :: it_325 :: it_329 :: it_308 :: it_297 :: H) := m.front 16 rfl
              have m : Mem W G_348 w (it_297 :: it_270 :: it_272 :: it_195 :: it_186 :: it_162 :: it_139 :: Itm.box b_103 28 [v_94, v_98] :: Itm.box b_69 31 [v_64] :: Itm.box b_56 28 [v_47, v_51] :: it_48 :: it_52 :: Itm.box b_2 24 [v0_0] :: Itm.box b_333 28 [v_324, v_328] :: it_325 :: it_329 :: it_308 :: H) := m.front 16 rfl
              have m : Mem W G_348 w (it_308 :: it_297 :: it_270 :: it_272 :: it_195 :: it_186 :: it_162 :: it_139 :: Itm.box b_103 28 [v_94, v_98] :: Itm.box b_69 31 [v_64] :: Itm.box b_56 28 [v_47, v_51] :: it_48 :: it_52 :: Itm.box b_2 24 [v0_0] :: Itm.box b_333 28 [v_324, v_328] :: it_325 :: it_329 :: H) := m.front 16 rfl
              have m : Mem W G_348 w (it_329 :: it_308 :: it_297 :: it_270 :: it_272 :: it_195 :: it_186 :: it_162 :: it_139 :: Itm.box b_103 28 [v_94, v_98] :: Itm.box b_69 31 [v_64] :: Itm.box b_56 28 [v_47, v_51] :: it_48 :: it_52 :: Itm.box b_2 24 [v0_0] :: Itm.box b_333 28 [v_324, v_328] :: it_325 :: H) := m.front 16 rfl
              have m : Mem W G_348 w (it_325 :: it_329 :: it_308 :: it_297 :: it_270 :: it_272 :: it_195 :: it_186 :: it_162 :: it_139 :: Itm.box b_103 28 [v_94, v_98] :: Itm.box b_69 31 [v_64] :: Itm.box b_56 28 [v_47, v_51] :: it_48 :: it_52 :: Itm.box b_2 24 [v0_0] :: Itm.box b_333 28 [v_324, v_328] :: H) := m.front 16 rfl
              have m : Mem W G_348 w (Itm.box b_333 28 [v_324, v_328] :: it_325 :: it_329 :: it_308 :: it_297 :: it_270 :: it_272 :: it_195 :: it_186 :: it_162 :: it_139 :: Itm.box b_103 28 [v_94, v_98] :: Itm.box b_69 31 [v_64] :: Itm.box b_56 28 [v_47, v_51] :: it_48 :: it_52 :: Itm.box b_2 24 [v0_0] :: H) := m.front 16 rfl
              exact ⟨_, (GLe.refl _), m, f.weak ⟨rfl, rfl, rfl, rfl, rfl, rfl, rfl, rfl, rfl, rfl, rfl, rfl, rfl, rfl, rfl, rfl, rfl, rfl, rfl, rfl, by rw [hc_353]; rfl, trivial⟩⟩
            ·rintro a w ⟨G_354, hl_355, m, f⟩
             have h0_0 := RSl.mono (RSl.mono (RI.mono _)) _ _ _ _ hl_355 h0_0
             have h1 := RSl.mono (RI.mono _) _ _ _ _ hl_355 h1
             have o_326 := Ow2.mono (RI.mono _) hl_355 o_326
             have o_330 := Ow2.mono (RI.mono _) hl_355 o_330
             have o_309 := Ow.mono (RI.mono _) hl_355 o_309
             have o_298 := Ow2.mono (RI.mono _) hl_355 o_298
             have o_271 := Ow2.mono (RI.mono _) hl_355 o_271
             have o_273 := Ow2.mono (RI.mono _) hl_355 o_273
             have o_196 := Ow.mono (RI.mono _) hl_355 o_196
             have o_187 := Ow2.mono (RI.mono _) hl_355 o_187
             have o_163 := Ow.mono (RI.mono _) hl_355 o_163
             have o_140 := Ow2.mono (RI.mono _) hl_355 o_140
             have o_49 := Ow.mono (RSl.mono (RI.mono _)) hl_355 o_49
             have o_53 := Ow.mono (RSl.mono (RI.mono _)) hl_355 o_53
             refine l_nil ?_
             rcases cond_some hd with ⟨hc_356, hd⟩ | ⟨hc_356, hd⟩
             ·refine k_true f rfl hc_356 ?_
              refine k_seq ?_
              refine k_region ?_
              refine l_op f rfl rfl rfl (r_assign (f.eval rfl)) (fun a f => ?_)
              refine l_nil ?_
              refine k_ret ?_
              have m : Mem W G_354 w H := Mem.drop (H' := [Itm.box b_333 28 [v_324, v_328], it_325, it_329, it_308, it_297, it_270, it_272, it_195, it_186, it_162, it_139, Itm.box b_103 28 [v_94, v_98], Itm.box b_69 31 [v_64], Itm.box b_56 28 [v_47, v_51], it_48, it_52, Itm.box b_2 24 [v0_0]]) m
              obtain rfl := Option.some.inj hd
              exact ⟨[(.bool false)], ⟨f.get _ _ rfl, trivial⟩, f.defers, _, [], (GLe.trans hl_7 (GLe.trans hl_15 (GLe.trans hl_26 (GLe.trans hl_35 (GLe.trans hl_38 (GLe.trans hl_43 (GLe.trans hl_60 (GLe.trans hl_73 (GLe.trans hl_90 (GLe.trans hl_119 (GLe.trans hl_125 (GLe.trans hl_137 (GLe.trans hl_152 (GLe.trans hl_157 (GLe.trans hl_174 (GLe.trans hl_182 (GLe.trans hl_191 (GLe.trans hl_237 (GLe.trans hl_261 (GLe.trans hl_266 (GLe.trans hl_283 (GLe.trans hl_292 (GLe.trans hl_303 (GLe.trans hl_320 (GLe.trans hl_349 hl_355))))))))))))))))))))))))), m, rfl, rfl⟩
             ·refine k_false f rfl hc_356 ?_
              refine k_skip ?_
              refine k_seq ?_
              refine k_region ?_
              refine l_op f rfl rfl rfl (r_assign (f.eval rfl)) (fun a f => ?_)
              refine l_nil ?_
              refine k_seq ?_
              refine k_region ?_
              refine l_boxAgg 11 0 (ds := [v_94, v_98]) m Ag28 f rfl rfl rfl rfl rfl (fun a f => ?_)
              refine l_op f rfl rfl rfl (r_move (f.eval rfl)) (fun a f => ?_)
              obtain ⟨y_357, hy_358, hd⟩ := bind_some hd
              refine l_res f rfl rfl Tryd.call24 (Ow2.lendCall (RI.mono _) 5 o_271 m rfl (fun G_359 hl_360 m h_361 => (Ow2.lendCall (RI.mono _) 5 (Ow2.mono (RI.mono _) hl_360 o_273) m rfl (fun G_362 hl_363 m h_364 => Wk.laws_heldDecomp m (RSl.mono (RSl.mono (RI.mono _)) _ _ _ _ hl_363 h_361) h_364 hy_358) (fun _ _ _ _ h => h))) (fun _ _ _ _ h => h)) (fun v_368 G_365 Ho_369 w hl_366 m hQ_367 a f => ?_)
              obtain ⟨rfl, rfl⟩ := hQ_367
              have h0_0 := RSl.mono (RSl.mono (RI.mono _)) _ _ _ _ hl_366 h0_0
              have h1 := RSl.mono (RI.mono _) _ _ _ _ hl_366 h1
              have o_326 := Ow2.mono (RI.mono _) hl_366 o_326
              have o_330 := Ow2.mono (RI.mono _) hl_366 o_330
              have o_309 := Ow.mono (RI.mono _) hl_366 o_309
              have o_298 := Ow2.mono (RI.mono _) hl_366 o_298
              have o_271 := Ow2.mono (RI.mono _) hl_366 o_271
              have o_273 := Ow2.mono (RI.mono _) hl_366 o_273
              have o_196 := Ow.mono (RI.mono _) hl_366 o_196
              have o_187 := Ow2.mono (RI.mono _) hl_366 o_187
              have o_163 := Ow.mono (RI.mono _) hl_366 o_163
              have o_140 := Ow2.mono (RI.mono _) hl_366 o_140
              have o_49 := Ow.mono (RSl.mono (RI.mono _)) hl_366 o_49
              have o_53 := Ow.mono (RSl.mono (RI.mono _)) hl_366 o_53
              have m : Mem W G_365 w (Itm.box b_333 28 [v_324, v_328] :: it_325 :: it_329 :: it_308 :: it_297 :: it_270 :: it_272 :: it_195 :: it_186 :: it_162 :: it_139 :: Itm.box b_103 28 [v_94, v_98] :: Itm.box b_69 31 [v_64] :: Itm.box b_56 28 [v_47, v_51] :: it_48 :: it_52 :: Itm.box b_2 24 [v0_0] :: H) := m
              refine l_op f rfl rfl rfl (r_assign (f.eval rfl)) (fun a f => ?_)
              refine l_nil ?_
              refine k_seq ?_
              refine k_seq ?_
              refine k_region ?_
              refine l_op f rfl rfl rfl (r_move (f.eval rfl)) (fun a f => ?_)
              refine l_op f rfl rfl rfl (r_int (f.eval rfl) (f.eval rfl) b_lss) (fun a f => ?_)
              refine l_nil ?_
              rcases cond_some hd with ⟨hc_370, hd⟩ | ⟨hc_370, hd⟩
              ·refine k_true f rfl hc_370 ?_
               refine k_seq ?_
               refine k_region ?_
               refine l_op f rfl rfl rfl (r_assign (f.eval rfl)) (fun a f => ?_)
               refine l_nil ?_
               refine k_ret ?_
               have m : Mem W G_365 w H := Mem.drop (H' := [Itm.box b_333 28 [v_324, v_328], it_325, it_329, it_308, it_297, it_270, it_272, it_195, it_186, it_162, it_139, Itm.box b_103 28 [v_94, v_98], Itm.box b_69 31 [v_64], Itm.box b_56 28 [v_47, v_51], it_48, it_52, Itm.box b_2 24 [v0_0]]) m
               obtain rfl := Option.some.inj hd
               exact ⟨[(.bool false)], ⟨f.get _ _ rfl, trivial⟩, f.defers, _, [], (GLe.trans hl_7 (GLe.trans hl_15 (GLe.trans hl_26 (GLe.trans hl_35 (GLe.trans hl_38 (GLe.trans hl_43 (GLe.trans hl_60 (GLe.trans hl_73 (GLe.trans hl_90 (GLe.trans hl_119 (GLe.trans hl_125 (GLe.trans hl_137 (GLe.trans hl_152 (GLe.trans hl_157 (GLe.trans hl_174 (GLe.trans hl_182 (GLe.trans hl_191 (GLe.trans hl_237 (GLe.trans hl_261 (GLe.trans hl_266 (GLe.trans hl_283 (GLe.trans hl_292 (GLe.trans hl_303 (GLe.trans hl_320 (GLe.trans hl_349 (GLe.trans hl_355 hl_366)))))))))))))))))))))))))), m, rfl, rfl⟩
              ·refine k_false f rfl hc_370 ?_
               refine k_skip ?_
               refine k_seq ?_
               refine k_seq ?_
               refine k_region ?_
               refine l_op f rfl rfl rfl (r_move (f.eval rfl)) (fun a f => ?_)
               refine l_op f rfl rfl rfl (r_move (f.eval rfl)) (fun a f => ?_)
               refine l_op f rfl rfl rfl (r_int (f.eval rfl) (f.eval rfl) b_neq) (fun a f => ?_)
               refine l_nil ?_
               rcases cond_some hd with ⟨hc_371, hd⟩ | ⟨hc_371, hd⟩
               ·refine k_true f rfl hc_371 ?_
                refine k_seq ?_
                refine k_region ?_
                refine l_op f rfl rfl rfl (r_assign (f.eval rfl)) (fun a f => ?_)
                refine l_nil ?_
                refine k_ret ?_
                have m : Mem W G_365 w H := Mem.drop (H' := [Itm.box b_333 28 [v_324, v_328], it_325, it_329, it_308, it_297, it_270, it_272, it_195, it_186, it_162, it_139, Itm.box b_103 28 [v_94, v_98], Itm.box b_69 31 [v_64], Itm.box b_56 28 [v_47, v_51], it_48, it_52, Itm.box b_2 24 [v0_0]]) m
                obtain rfl := Option.some.inj hd
                exact ⟨[(.bool false)], ⟨f.get _ _ rfl, trivial⟩, f.defers, _, [], (GLe.trans hl_7 (GLe.trans hl_15 (GLe.trans hl_26 (GLe.trans hl_35 (GLe.trans hl_38 (GLe.trans hl_43 (GLe.trans hl_60 (GLe.trans hl_73 (GLe.trans hl_90 (GLe.trans hl_119 (GLe.trans hl_125 (GLe.trans hl_137 (GLe.trans hl_152 (GLe.trans hl_157 (GLe.trans hl_174 (GLe.trans hl_182 (GLe.trans hl_191 (GLe.trans hl_237 (GLe.trans hl_261 (GLe.trans hl_266 (GLe.trans hl_283 (GLe.trans hl_292 (GLe.trans hl_303 (GLe.trans hl_320 (GLe.trans hl_349 (GLe.trans hl_355 hl_366)))))))))))))))))))))))))), m, rfl, rfl⟩
               ·refine k_false f rfl hc_371 ?_
                refine k_skip ?_
                refine k_seq ?_
                refine k_region ?_
                refine l_op f rfl rfl rfl (r_assign (f.eval rfl)) (fun a f => ?_)
                refine l_nil ?_
                refine k_ret ?_
                have m : Mem W G_365 w H := Mem.drop (H' := [Itm.box b_333 28 [v_324, v_328], it_325, it_329, it_308, it_297, it_270, it_272, it_195, it_186, it_162, it_139, Itm.box b_103 28 [v_94, v_98], Itm.box b_69 31 [v_64], Itm.box b_56 28 [v_47, v_51], it_48, it_52, Itm.box b_2 24 [v0_0]]) m
                obtain rfl := Option.some.inj hd
                exact ⟨[(.bool true)], ⟨f.get _ _ rfl, trivial⟩, f.defers, _, [], (GLe.trans hl_7 (GLe.trans hl_15 (GLe.trans hl_26 (GLe.trans hl_35 (GLe.trans hl_38 (GLe.trans hl_43 (GLe.trans hl_60 (GLe.trans hl_73 (GLe.trans hl_90 (GLe.trans hl_119 (GLe.trans hl_125 (GLe.trans hl_137 (GLe.trans hl_152 (GLe.trans hl_157 (GLe.trans hl_174 (GLe.trans hl_182 (GLe.trans hl_191 (GLe.trans hl_237 (GLe.trans hl_261 (GLe.trans hl_266 (GLe.trans hl_283 (GLe.trans hl_292 (GLe.trans hl_303 (GLe.trans hl_320 (GLe.trans hl_349 (GLe.trans hl_355 hl_366)))))))))))))))))))))))))), m, rfl, rfl⟩

end Go.Proofs.YteegnmdggpcphaaDoor

/- Loops in closed form: over the elements of a list, over the numbers below one, with a way out. Plain facts, no program in sight. -/
namespace Go.Sx
theorem w64 {x : Int} (h1 : -9223372036854775808 ≤ x) (h2 : x < 9223372036854775808) : IntKind.i64.wrap x = x := by
  simp only [IntKind.wrap, IntKind.bits, IntKind.signed]
  have e : (2 : Int) ^ 64 = 18446744073709551616 := by decide
  have e' : (2 : Int) ^ (64 - 1) = 9223372036854775808 := by decide
  simp
  omega

theorem dlt {i n : Nat} (h : i < n) : decide ((i : Int) < (n : Int)) = true := by simp; omega
theorem dnlt {n : Nat} : decide ((n : Int) < (n : Int)) = false := by simp
theorem idx_nat {α : Type} {xs : List α} {i : Nat} (h : i < xs.length) : idx xs (i : Int) = some xs[i] := by
  unfold idx; rw [if_pos (by omega)]; simp [h]
theorem idx_int {α : Type} {xs : List α} {i : Int} (h0 : 0 ≤ i) (h : i < xs.length) : idx xs i = some (xs[i.toNat]'(by omega)) := by
  unfold idx; rw [if_pos h0]; simp
theorem wi {i : Nat} (h : i < 4611686018427387904) : IntKind.i64.wrap ((i : Int) + 1) = ((i + 1 : Nat) : Int) := by
  rw [w64 (by omega) (by omega)]; rfl
theorem wi' {i n : Nat} (h : i < n) (hn : n ≤ 4611686018427387904) : IntKind.i64.wrap ((i : Int) + 1) = ((i + 1 : Nat) : Int) := wi (by omega)
theorem getD_lt {α : Type} {xs : List α} {i : Nat} (h : i < xs.length) (d : α) : xs.getD i d = xs[i] := by simp [h]
theorem appendD_ok {α : Type} {xs ys : List α} (h : xs.length + ys.length ≤ 4294967296) : appendD xs ys = some (xs ++ ys) := by
  unfold appendD; rw [if_pos h]
theorem sliceD_pre {α : Type} {xs : List α} {i : Nat} (h : i ≤ xs.length) : sliceD xs 0 (i : Int) = some (xs.take i) := by
  unfold sliceD; rw [if_pos ⟨by omega, by omega, by omega⟩]; simp
theorem sliceD_post {α : Type} {xs : List α} {i : Nat} (h : i ≤ xs.length) : sliceD xs (i : Int) (xs.length : Int) = some (xs.drop i) := by
  unfold sliceD; rw [if_pos ⟨by omega, by omega, by omega⟩]; simp
theorem makeD_ok {α : Type} {z : α} {n : Nat} {c : Int} (h : (n : Int) ≤ c) (h2 : c ≤ 4294967296) : makeD z (n : Int) c = some (List.replicate n z) := by
  unfold makeD; rw [if_pos ⟨by omega, h, h2⟩]; simp
theorem makeD_zero {α : Type} {z : α} {c : Int} (h : 0 ≤ c) (h2 : c ≤ 4294967296) : makeD z 0 c = some [] := by
  unfold makeD; rw [if_pos ⟨by omega, h, h2⟩]; simp

/-- from state a to state b in so many rounds -/
theorem loop_steps {S ρ : Type} {step : S → Option (S ⊕ ρ)} (st : Nat → S) (n : Nat) (h : ∀ i, i < n → step (st i) = some (.inl (st (i + 1)))) : loopF step (st 0) = loopF step (st n) := by
  have key : ∀ k, k ≤ n → loopF step (st 0) = loopF step (st k) := by
    intro k
    induction k with
    | zero => intro _; rfl
    | succ k ih => intro hk; rw [ih (by omega), loopF_more (h k (by omega))]
  exact key n (Nat.le_refl n)

/-- and out of it -/
theorem loop_to {S ρ β : Type} {step : S → Option (S ⊕ ρ)} {k : ρ → Option β} {s0 : S} (st : Nat → S) (n : Nat) (r : ρ) (h0 : st 0 = s0) (h : ∀ i, i < n → step (st i) = some (.inl (st (i + 1)))) (he : step (st n) = some (.inr r)) :
    (loopF step s0).bind k = k r := by
  rw [← h0, loop_steps st n h, loopF_done he]; rfl

/-- a loop over the elements of a list, that goes to its end -/
theorem loop_list {α σ S ρ : Type} {step : S → Option (S ⊕ ρ)} (xs : List α) (enc : σ → Int → S) (f : σ → α → σ) (fin : σ → ρ) (I : σ → Prop) (s0 : σ)
    (h0 : I s0) (hstep : ∀ s (i : Nat) (h : i < xs.length), I s → step (enc s i) = some (.inl (enc (f s xs[i]) ((i + 1 : Nat) : Int))) ∧ I (f s xs[i]))
    (hend : ∀ s, I s → step (enc s xs.length) = some (.inr (fin s))) : loopF step (enc s0 0) = some (fin (xs.foldl f s0)) ∧ I (xs.foldl f s0) := by
  have key : ∀ (k i : Nat) (s : σ), i + k = xs.length → I s → loopF step (enc s i) = some (fin ((xs.drop i).foldl f s)) ∧ I ((xs.drop i).foldl f s) := by
    intro k
    induction k with
    | zero =>
      intro i s hk hs
      obtain rfl : i = xs.length := by omega
      simp only [List.drop_length, List.foldl_nil]
      exact ⟨loopF_done (hend s hs), hs⟩
    | succ k ih =>
      intro i s hk hs
      have hi : i < xs.length := by omega
      obtain ⟨h1, h2⟩ := hstep s i hi hs
      rw [loopF_more h1, List.drop_eq_getElem_cons hi, List.foldl_cons]
      exact ih (i + 1) _ (by omega) h2
  have := key xs.length 0 s0 (by omega) h0
  simpa using this

/-- and what comes behind -/
theorem loop_listb {α σ S ρ β : Type} {step : S → Option (S ⊕ ρ)} {k : ρ → Option β} (xs : List α) (enc : σ → Int → S) (f : σ → α → σ) (fin : σ → ρ) (I : σ → Prop) (s0 : σ)
    (h0 : I s0) (hstep : ∀ s (i : Nat) (h : i < xs.length), I s → step (enc s i) = some (.inl (enc (f s xs[i]) ((i + 1 : Nat) : Int))) ∧ I (f s xs[i]))
    (hend : ∀ s, I s → step (enc s xs.length) = some (.inr (fin s))) : (loopF step (enc s0 0)).bind k = k (fin (xs.foldl f s0)) := by
  rw [(loop_list xs enc f fin I s0 h0 hstep hend).1]; rfl

/-- a loop that makes one element for each element -/
theorem loop_map {α β γ S : Type} {step : S → Option (S ⊕ List β)} {k : List β → Option γ} (xs : List α) (enc : List β → Int → S) (f : α → β) (hx : xs.length ≤ 4294967296)
    (hstep : ∀ s (i : Nat) (h : i < xs.length), s.length = i → step (enc s i) = (appendD s [f xs[i]]).bind fun l => some (.inl (enc l ((i + 1 : Nat) : Int))))
    (hend : ∀ s, step (enc s xs.length) = some (.inr s)) : (loopF step (enc [] 0)).bind k = k (xs.map f) := by
  have key : ∀ i, i ≤ xs.length → loopF step (enc [] 0) = loopF step (enc ((xs.take i).map f) i) := by
    intro i
    induction i with
    | zero => intro _; simp
    | succ i ih =>
      intro hi
      rw [ih (by omega)]
      have h1 := hstep ((xs.take i).map f) i (by omega) (by simp; omega)
      have h2 : appendD ((xs.take i).map f) [f xs[i]] = some ((xs.take (i + 1)).map f) := by
        unfold appendD
        rw [if_pos (by simp; omega)]
        rw [List.take_succ_eq_append_getElem (show i < xs.length by omega), List.map_append]; rfl
      rw [h2] at h1
      rw [loopF_more h1]
  rw [key xs.length (Nat.le_refl _), List.take_length, loopF_done (hend _)]; rfl

/-- as above, where the round's effect depends on the place -/
theorem loop_nat {σ S ρ : Type} {step : S → Option (S ⊕ ρ)} (n : Nat) (enc : σ → Int → S) (f : σ → Nat → σ) (fin : σ → ρ) (I : Nat → σ → Prop) (s0 : σ)
    (h0 : I 0 s0) (hstep : ∀ s (i : Nat), i < n → I i s → step (enc s i) = some (.inl (enc (f s i) ((i + 1 : Nat) : Int))) ∧ I (i + 1) (f s i))
    (hend : ∀ s, I n s → step (enc s n) = some (.inr (fin s))) : loopF step (enc s0 0) = some (fin ((List.range n).foldl f s0)) ∧ I n ((List.range n).foldl f s0) := by
  have key : ∀ k, k ≤ n → loopF step (enc s0 0) = loopF step (enc ((List.range k).foldl f s0) k) ∧ I k ((List.range k).foldl f s0) := by
    intro k
    induction k with
    | zero => intro _; exact ⟨rfl, h0⟩
    | succ k ih =>
      intro hk
      obtain ⟨h1, h2⟩ := ih (by omega)
      obtain ⟨h3, h4⟩ := hstep _ k (by omega) h2
      rw [List.range_succ, List.foldl_append, List.foldl_cons, List.foldl_nil]
      exact ⟨by rw [h1, loopF_more h3], h4⟩
  obtain ⟨h1, h2⟩ := key n (Nat.le_refl n)
  exact ⟨by rw [h1, loopF_done (hend _ h2)], h2⟩

/-- a loop that looks for the first place where something is so -/
theorem loop_find {ρ : Type} {step : Int → Option (Int ⊕ ρ)} (n : Nat) (c : Nat → Option ρ) (fin : ρ)
    (hstep : ∀ i, i < n → step (i : Int) = match c i with | some r => some (.inr r) | none => some (.inl ((i + 1 : Nat) : Int)))
    (hend : step (n : Int) = some (.inr fin)) : loopF step 0 = some (((List.range n).findSome? c).getD fin) := by
  have key : ∀ (k i : Nat), i + k = n → loopF step (i : Int) = some (((List.range' i k).findSome? c).getD fin) := by
    intro k
    induction k with
    | zero => intro i h; obtain rfl : i = n := by omega
              simpa using loopF_done hend
    | succ k ih =>
      intro i h
      have h1 := hstep i (by omega)
      rw [List.range'_succ, List.findSome?_cons]
      cases hc : c i with
      | some r => rw [hc] at h1; simpa using loopF_done h1
      | none => rw [hc] at h1; rw [loopF_more h1]; exact ih (i + 1) (by omega)
  have := key n 0 (by omega)
  simpa [List.range_eq_range'] using this

/-- all places are good, or the first bad one ends it -/
theorem loop_allb {β : Type} {step : Int → Option (Int ⊕ (Unit ⊕ β))} {k : Unit ⊕ β → Option Bool} (n : Nat) (c : Nat → Bool) (bad : β)
    (hstep : ∀ i, i < n → step (i : Int) = if c i then some (.inl ((i + 1 : Nat) : Int)) else some (.inr (.inr bad)))
    (hend : step (n : Int) = some (.inr (.inl ()))) (hk1 : k (.inl ()) = some true) (hk2 : k (.inr bad) = some false) :
    (loopF step 0).bind k = some ((List.range n).all c) := by
  rw [loop_find n (fun i => if c i then none else some (.inr bad)) (.inl ()) (fun i hi => by rw [hstep i hi]; cases c i <;> rfl) hend]
  simp only [Option.bind_some]
  cases h : (List.range n).all c with
  | true =>
    rw [List.findSome?_eq_none_iff.2 (fun x hx => by rw [if_pos (List.all_eq_true.1 h x hx)])]
    exact hk1
  | false =>
    cases h2 : (List.range n).findSome? (fun i => if c i then none else some (Sum.inr bad)) with
    | none =>
      rw [List.findSome?_eq_none_iff] at h2
      have : (List.range n).all c = true := List.all_eq_true.2 fun x hx => by
        have := h2 x hx
        cases hc : c x
        · rw [hc] at this; cases this
        · rfl
      rw [this] at h; cases h
    | some r =>
      obtain ⟨x, _, hx⟩ := List.exists_of_findSome?_eq_some h2
      cases hc : c x
      · rw [hc] at hx; simp at hx; subst hx; exact hk2
      · rw [hc] at hx; simp at hx

/-- all places are good, or the first bad one ends it: what comes behind -/
theorem loop_ck {ρ β : Type} {step : Int → Option (Int ⊕ ρ)} {k : ρ → Option β} (n : Nat) (c : Nat → Bool) (fine bad : ρ)
    (hstep : ∀ i, i < n → step (i : Int) = if c i then some (.inl ((i + 1 : Nat) : Int)) else some (.inr bad))
    (hend : step (n : Int) = some (.inr fine)) : (loopF step 0).bind k = cond ((List.range n).all c) (k fine) (k bad) := by
  rw [loop_find n (fun i => if c i then none else some bad) fine (fun i hi => by rw [hstep i hi]; cases c i <;> rfl) hend]
  simp only [Option.bind_some]
  cases h : (List.range n).all c with
  | true =>
    rw [List.findSome?_eq_none_iff.2 (fun x hx => by rw [if_pos (List.all_eq_true.1 h x hx)])]
    rfl
  | false =>
    cases h2 : (List.range n).findSome? (fun i => if c i then none else some bad) with
    | none =>
      rw [List.findSome?_eq_none_iff] at h2
      have : (List.range n).all c = true := List.all_eq_true.2 fun x hx => by
        have := h2 x hx
        cases hc : c x
        · rw [hc] at this; cases this
        · rfl
      rw [this] at h; cases h
    | some r =>
      obtain ⟨x, _, hx⟩ := List.exists_of_findSome?_eq_some h2
      cases hc : c x
      · rw [hc] at hx; simp at hx; subst hx; rfl
      · rw [hc] at hx; simp at hx

/-- some place is so -/
theorem loop_anyb {β : Type} {step : Int → Option (Int ⊕ (Unit ⊕ β))} {k : Unit ⊕ β → Option Bool} (n : Nat) (c : Nat → Bool) (good : β)
    (hstep : ∀ i, i < n → step (i : Int) = if c i then some (.inr (.inr good)) else some (.inl ((i + 1 : Nat) : Int)))
    (hend : step (n : Int) = some (.inr (.inl ()))) (hk1 : k (.inl ()) = some false) (hk2 : k (.inr good) = some true) :
    (loopF step 0).bind k = some ((List.range n).any c) := by
  rw [loop_find n (fun i => if c i then some (.inr good) else none) (.inl ()) (fun i hi => by rw [hstep i hi]; cases c i <;> rfl) hend]
  simp only [Option.bind_some]
  cases h : (List.range n).any c with
  | false =>
    rw [List.findSome?_eq_none_iff.2 (fun x hx => by
      have : c x = false := by
        cases hc : c x
        · rfl
        · rw [List.any_eq_true.2 ⟨x, hx, hc⟩] at h; cases h
      rw [this]; rfl)]
    exact hk1
  | true =>
    obtain ⟨x, hx, hc⟩ := List.any_eq_true.1 h
    cases h2 : (List.range n).findSome? (fun i => if c i then some (Sum.inr good) else none) with
    | none =>
      rw [List.findSome?_eq_none_iff] at h2
      have := h2 x hx
      rw [hc] at this; cases this
    | some r =>
      obtain ⟨y, _, hy⟩ := List.exists_of_findSome?_eq_some h2
      cases hc : c y
      · rw [hc] at hy; simp at hy
      · rw [hc] at hy; simp at hy; subst hy; exact hk2

theorem range_all_list {α : Type} (xs : List α) (p : α → Bool) (c : Nat → Bool) (h : ∀ i (hi : i < xs.length), c i = p xs[i]) : (List.range xs.length).all c = xs.all p := by
  rw [Bool.eq_iff_iff, List.all_eq_true, List.all_eq_true]
  constructor
  · intro hh x hx
    obtain ⟨i, hi, rfl⟩ := List.getElem_of_mem hx
    rw [← h i hi]; exact hh i (List.mem_range.2 hi)
  · intro hh i hi
    have hi' := List.mem_range.1 hi
    rw [h i hi']; exact hh _ (List.getElem_mem _)
theorem range_any_list {α : Type} (xs : List α) (p : α → Bool) (c : Nat → Bool) (h : ∀ i (hi : i < xs.length), c i = p xs[i]) : (List.range xs.length).any c = xs.any p := by
  rw [Bool.eq_iff_iff, List.any_eq_true, List.any_eq_true]
  constructor
  · rintro ⟨i, hi, hc⟩
    have hi' := List.mem_range.1 hi
    exact ⟨_, List.getElem_mem hi', by rw [← h i hi']; exact hc⟩
  · rintro ⟨x, hx, hc⟩
    obtain ⟨i, hi, rfl⟩ := List.getElem_of_mem hx
    exact ⟨i, List.mem_range.2 hi, by rw [h i hi]; exact hc⟩
theorem all_forall (n : Nat) (c : Nat → Bool) : (List.range n).all c = true ↔ ∀ i, i < n → c i = true := by
  rw [List.all_eq_true]
  exact ⟨fun h i hi => h i (List.mem_range.2 hi), fun h i hi => h i (List.mem_range.1 hi)⟩

theorem foldl_snoc_map {α β : Type} (f : α → β) : ∀ (xs : List α) (acc : List β), xs.foldl (fun s x => s ++ [f x]) acc = acc ++ xs.map f
  | [], acc => by simp
  | x :: xs, acc => by rw [List.foldl_cons, foldl_snoc_map f xs]; simp
end Go.Sx

/- Sets of vertices as numbers: what the bit operations do to membership. Plain facts. -/
namespace Go.Sx
theorem wrap32 (n : Int) : IntKind.u32.wrap n = n % 4294967296 := by simp [IntKind.wrap, IntKind.signed, IntKind.bits]

/-- a word of 32 bits -/
def VS (s : Int) : Prop := 0 ≤ s ∧ s < 4294967296
/-- is a vertex in a set -/
def has (s : Int) (v : Nat) : Bool := s.toNat.testBit v

theorem VS.nat {s : Int} (h : VS s) : ∃ n : Nat, s = n ∧ n < 4294967296 := ⟨s.toNat, by have := h.1; omega, by have := h.1; have := h.2; omega⟩
theorem VS.zero : VS 0 := ⟨by omega, by omega⟩
theorem VS.wrap (n : Int) : VS (IntKind.u32.wrap n) := by rw [wrap32]; exact ⟨by omega, by omega⟩
theorem VS.ofNat {n : Nat} (h : n < 4294967296) : VS (n : Int) := ⟨by omega, by omega⟩
theorem has_nat (n v : Nat) : has (n : Int) v = n.testBit v := by simp [has]
theorem has_zero (v : Nat) : has 0 v = false := by simp [has]

theorem ofInt_nat (n : Nat) (h : n < 4294967296) : (BitVec.ofInt 32 (n : Int)).toNat = n := by
  rw [BitVec.toNat_ofInt]
  omega

theorem ior_nat {a b : Nat} (ha : a < 4294967296) (hb : b < 4294967296) : ior .u32 (a : Int) (b : Int) = ((a ||| b : Nat) : Int) := by
  have hw : a ||| b < 4294967296 := Nat.or_lt_two_pow (n := 32) ha hb
  show IntKind.u32.wrap (((BitVec.ofInt 32 (a : Int) ||| BitVec.ofInt 32 (b : Int)).toNat : Nat) : Int) = _
  rw [BitVec.toNat_or, ofInt_nat a ha, ofInt_nat b hb, wrap32]; omega
theorem iand_nat {a b : Nat} (ha : a < 4294967296) (hb : b < 4294967296) : iand .u32 (a : Int) (b : Int) = ((a &&& b : Nat) : Int) := by
  have hw : a &&& b < 4294967296 := Nat.and_lt_two_pow (n := 32) _ hb
  show IntKind.u32.wrap (((BitVec.ofInt 32 (a : Int) &&& BitVec.ofInt 32 (b : Int)).toNat : Nat) : Int) = _
  rw [BitVec.toNat_and, ofInt_nat a ha, ofInt_nat b hb, wrap32]; omega
theorem ixor_nat {a b : Nat} (ha : a < 4294967296) (hb : b < 4294967296) : ixor .u32 (a : Int) (b : Int) = ((a ^^^ b : Nat) : Int) := by
  have hw : a ^^^ b < 4294967296 := Nat.xor_lt_two_pow (n := 32) ha hb
  show IntKind.u32.wrap (((BitVec.ofInt 32 (a : Int) ^^^ BitVec.ofInt 32 (b : Int)).toNat : Nat) : Int) = _
  rw [BitVec.toNat_xor, ofInt_nat a ha, ofInt_nat b hb, wrap32]; omega

theorem VS.ior (a b : Int) : VS (ior .u32 a b) := VS.wrap _
theorem VS.iand (a b : Int) : VS (iand .u32 a b) := VS.wrap _
theorem VS.ixor (a b : Int) : VS (ixor .u32 a b) := VS.wrap _
theorem VS.iandNot (a b : Int) : VS (iandNot .u32 a b) := VS.wrap _
theorem VS.ishl (a b : Int) : VS (ishl .u32 a b) := VS.wrap _

theorem has_ior {a b : Int} (ha : VS a) (hb : VS b) (v : Nat) : has (ior .u32 a b) v = (has a v || has b v) := by
  obtain ⟨m, rfl, hm⟩ := ha.nat; obtain ⟨n, rfl, hn⟩ := hb.nat
  rw [ior_nat hm hn]; simp only [has_nat, Nat.testBit_or]
theorem has_iand {a b : Int} (ha : VS a) (hb : VS b) (v : Nat) : has (iand .u32 a b) v = (has a v && has b v) := by
  obtain ⟨m, rfl, hm⟩ := ha.nat; obtain ⟨n, rfl, hn⟩ := hb.nat
  rw [iand_nat hm hn]; simp only [has_nat, Nat.testBit_and]
theorem has_ixor {a b : Int} (ha : VS a) (hb : VS b) (v : Nat) : has (ixor .u32 a b) v = (has a v ^^ has b v) := by
  obtain ⟨m, rfl, hm⟩ := ha.nat; obtain ⟨n, rfl, hn⟩ := hb.nat
  rw [ixor_nat hm hn]; simp only [has_nat, Nat.testBit_xor]
theorem has_iandNot {a b : Int} (ha : VS a) (hb : VS b) (v : Nat) : has (iandNot .u32 a b) v = (has a v && !has b v) := by
  obtain ⟨m, rfl, hm⟩ := ha.nat; obtain ⟨n, rfl, hn⟩ := hb.nat
  have e : iandNot .u32 (m : Int) (n : Int) = (((BitVec.ofInt 32 (m : Int) &&& ~~~(BitVec.ofInt 32 (n : Int))).toNat : Nat) : Int) := by
    have hw := (BitVec.ofInt 32 (m : Int) &&& ~~~(BitVec.ofInt 32 (n : Int))).isLt
    show IntKind.u32.wrap (((BitVec.ofInt 32 (m : Int) &&& ~~~(BitVec.ofInt 32 (n : Int))).toNat : Nat) : Int) = _
    rw [wrap32]; omega
  rw [e, has_nat, has_nat, has_nat]
  have h1 : ∀ i, (BitVec.ofInt 32 (m : Int)).getLsbD i = m.testBit i := fun i => by rw [BitVec.getLsbD, ofInt_nat m hm]
  have h2 : ∀ i, (BitVec.ofInt 32 (n : Int)).getLsbD i = n.testBit i := fun i => by rw [BitVec.getLsbD, ofInt_nat n hn]
  rw [← BitVec.getLsbD, BitVec.getLsbD_and, BitVec.getLsbD_not, h1, h2]
  by_cases hv : v < 32
  · simp [hv]
  · have : m.testBit v = false := Nat.testBit_lt_two_pow (Nat.lt_of_lt_of_le hm (Nat.pow_le_pow_right (n := 2) (by omega) (show 32 ≤ v by omega)))
    simp [this]
theorem has_big {a : Int} (ha : VS a) {v : Nat} (hv : 32 ≤ v) : has a v = false := by
  obtain ⟨m, rfl, hm⟩ := ha.nat
  rw [has_nat]
  exact Nat.testBit_lt_two_pow (Nat.lt_of_lt_of_le hm (Nat.pow_le_pow_right (n := 2) (by omega) hv))
theorem VS.ext {a b : Int} (ha : VS a) (hb : VS b) (h : ∀ v, v < 32 → has a v = has b v) : a = b := by
  have : ∀ v, has a v = has b v := fun v => by
    by_cases hv : v < 32
    · exact h v hv
    · rw [has_big ha (by omega), has_big hb (by omega)]
  obtain ⟨m, rfl, hm⟩ := ha.nat; obtain ⟨n, rfl, hn⟩ := hb.nat
  congr 1
  apply Nat.eq_of_testBit_eq
  intro v
  have := this v
  rwa [has_nat, has_nat] at this
theorem VS.eq_zero {a : Int} (ha : VS a) : a = 0 ↔ ∀ v, v < 32 → has a v = false :=
  ⟨fun h v _ => by rw [h, has_zero], fun h => ha.ext VS.zero (fun v hv => by rw [h v hv, has_zero])⟩

/-- the set of one vertex -/
theorem one_eq {v : Nat} (hv : v < 32) : ishl .u32 1 (v : Int) = ((2 ^ v : Nat) : Int) := by
  have h : (2 : Nat) ^ v < 2 ^ 32 := Nat.pow_lt_pow_right (by omega) hv
  have h' : (2 : Nat) ^ 32 = 4294967296 := by decide
  rw [h'] at h
  show IntKind.u32.wrap (1 * 2 ^ (min ((v : Int)).toNat 32)) = _
  rw [wrap32, show min ((v : Int)).toNat 32 = v by simp; omega, Int.one_mul]
  have e : ((2 ^ v : Nat) : Int) = (2 : Int) ^ v := by simp
  rw [← e]
  generalize 2 ^ v = p at h ⊢
  omega
theorem has_one {v : Nat} (hv : v < 32) (u : Nat) : has (ishl .u32 1 (v : Int)) u = decide (u = v) := by
  rw [one_eq hv, has_nat, Nat.testBit_two_pow]
  simp [eq_comm]
theorem shr_eq (s : Int) (v : Nat) (h : VS s) (hv : v < 32) : ishr .u32 s (v : Int) = ((s.toNat >>> v : Nat) : Int) := by
  obtain ⟨m, rfl, hm⟩ := h.nat
  show Int.fdiv (m : Int) (2 ^ (min ((v : Int)).toNat 32)) = _
  rw [show min ((v : Int)).toNat 32 = v by simp; omega]
  have e : ((2 ^ v : Nat) : Int) = (2 : Int) ^ v := by simp
  rw [← e, Int.fdiv_eq_ediv_of_nonneg _ (Int.natCast_nonneg _), Nat.shiftRight_eq_div_pow]
  simp
theorem bitAt_eq {s : Int} {v : Nat} (h : VS s) (hv : v < 32) : (iand .u32 (ishr .u32 s (v : Int)) 1 == 1) = has s v := by
  rw [shr_eq s v h hv]
  have hs : s.toNat >>> v < 4294967296 := by
    obtain ⟨m, rfl, hm⟩ := h.nat
    rw [Nat.shiftRight_eq_div_pow]
    exact Nat.lt_of_le_of_lt (Nat.div_le_self _ _) hm
  have := iand_nat hs (show (1 : Nat) < 4294967296 by omega)
  rw [show (1 : Int) = ((1 : Nat) : Int) from rfl, this, has, Nat.testBit]
  rw [Nat.and_comm]
  have h1 : 1 &&& (s.toNat >>> v) = 0 ∨ 1 &&& (s.toNat >>> v) = 1 := by
    rw [Nat.and_comm, Nat.and_one_is_mod]; omega
  rcases h1 with e | e <;> rw [e] <;> rfl

/-- the numbers in a set, rising -/
def elems (s : Int) : List Int := ((List.range 32).filter (has s)).map Int.ofNat
theorem mem_elems {s : Int} {x : Int} : x ∈ elems s ↔ ∃ v : Nat, v < 32 ∧ has s v = true ∧ x = v := by
  unfold elems
  rw [List.mem_map]
  constructor
  · rintro ⟨v, hv, rfl⟩
    rw [List.mem_filter, List.mem_range] at hv
    exact ⟨v, hv.1, hv.2, rfl⟩
  · rintro ⟨v, h1, h2, rfl⟩
    exact ⟨v, List.mem_filter.2 ⟨List.mem_range.2 h1, h2⟩, rfl⟩
theorem mem_elems_nat {s : Int} (h : VS s) {v : Nat} : (v : Int) ∈ elems s ↔ has s v = true := by
  rw [mem_elems]
  constructor
  · rintro ⟨u, _, h2, h3⟩; obtain rfl : v = u := by omega
    exact h2
  · intro h2
    refine ⟨v, ?_, h2, rfl⟩
    by_cases hv : v < 32
    · exact hv
    · rw [has_big h (by omega)] at h2; cases h2
theorem elems_len (s : Int) : (elems s).length ≤ 32 := by
  unfold elems
  rw [List.length_map]
  exact Nat.le_trans (List.length_filter_le _ _) (by simp)

/-- rising lists -/
def Inc (l : List Int) : Prop := l.Pairwise (· < ·)
theorem elems_inc (s : Int) : Inc (elems s) := by
  unfold elems Inc
  rw [List.pairwise_map]
  refine List.Pairwise.filter _ ?_
  refine List.Pairwise.imp ?_ (List.pairwise_lt_range (n := 32))
  intro a b h
  show (a : Int) < (b : Int)
  omega
theorem Inc.ext : ∀ {l l' : List Int}, Inc l → Inc l' → (∀ x, x ∈ l ↔ x ∈ l') → l = l'
  | [], [], _, _, _ => rfl
  | [], y :: l', _, _, h => by have := (h y).2 (by simp); simp at this
  | x :: l, [], _, _, h => by have := (h x).1 (by simp); simp at this
  | x :: l, y :: l', h1, h2, h => by
    have h1' := List.pairwise_cons.1 h1; have h2' := List.pairwise_cons.1 h2
    have e : x = y := by
      rcases List.mem_cons.1 ((h x).1 (by simp)) with e | e
      · exact e
      · rcases List.mem_cons.1 ((h y).2 (by simp)) with e' | e'
        · exact e'.symm
        · have := h2'.1 x e; have := h1'.1 y e'; omega
    subst e
    have : l = l' := by
      refine Inc.ext h1'.2 h2'.2 (fun z => ?_)
      constructor
      · intro hz
        rcases List.mem_cons.1 ((h z).1 (List.mem_cons_of_mem _ hz)) with e | e
        · have := h1'.1 z hz; omega
        · exact e
      · intro hz
        rcases List.mem_cons.1 ((h z).2 (List.mem_cons_of_mem _ hz)) with e | e
        · have := h2'.1 z hz; omega
        · exact e
    rw [this]

/-- the least of a set, and what is left -/
theorem least_spec {s : Int} (h : VS s) (h0 : s ≠ 0) : ∃ k : Nat, k < 32 ∧ has s k = true ∧ (∀ v, v < k → has s v = false) ∧
    iand .u32 s (IntKind.u32.wrap (0 - s)) = ((2 ^ k : Nat) : Int) ∧ (∀ v, has (iand .u32 s (IntKind.u32.wrap (s - 1))) v = (has s v && !decide (v = k))) := by
  obtain ⟨m, rfl, hm⟩ := h.nat
  have hm0 : m ≠ 0 := by omega
  obtain ⟨q, hq, hk⟩ := Lib.ctzFrom_spec 32 m (by omega) hm
  have hc : Lib.ctz 32 m = Lib.ctzFrom 32 m := by unfold Lib.ctz; rw [if_neg hm0]
  obtain ⟨hl, _⟩ := Lib.lowest_bit 32 m hm0 hm
  rw [hc] at hl
  generalize Lib.ctzFrom 32 m = k at *
  have hpos : 0 < 2 ^ k := Nat.pow_pos (by omega)
  have hb : ∀ v, m.testBit v = (decide (v ≥ k) && (2 * q + 1).testBit (v - k)) := fun v => by rw [hq, Nat.mul_comm, Nat.testBit_mul_two_pow, Bool.and_comm]
  refine ⟨k, hk, ?_, fun v hv => ?_, ?_, fun v => ?_⟩
  · rw [has_nat, hb]; simp
  · rw [has_nat, hb]; simp; intro hc; omega
  · have e : IntKind.u32.wrap (0 - (m : Int)) = ((4294967296 - m : Nat) : Int) := by rw [wrap32]; omega
    rw [e, iand_nat hm (by omega)]
    rw [← hl]
  · have e : IntKind.u32.wrap ((m : Int) - 1) = ((m - 1 : Nat) : Int) := by rw [wrap32]; omega
    rw [e, iand_nat hm (by omega), has_nat, has_nat, Nat.testBit_and]
    have hm1 : m - 1 = 2 ^ k * (2 * q) + (2 ^ k - 1) := by rw [hq, Nat.mul_add]; omega
    have hb1 : (m - 1).testBit v = if v < k then true else (2 * q).testBit (v - k) := by
      rw [hm1, Nat.testBit_two_pow_mul_add _ (by omega)]
      split
      · rename_i hv; rw [Nat.testBit_two_pow_sub_one]; simp [hv]
      · rfl
    rw [hb1, hb]
    by_cases hv : v < k
    · simp [hv]; intro hc; omega
    · rw [if_neg hv]
      by_cases hvk : v = k
      · subst hvk; simp
      · obtain ⟨t, ht⟩ : ∃ t, v - k = t + 1 := ⟨v - k - 1, by omega⟩
        rw [ht, Nat.testBit_succ, Nat.testBit_succ]
        have e1 : (2 * q + 1) / 2 = q := by omega
        have e2 : 2 * q / 2 = q := by omega
        rw [e1, e2]
        simp [hvk]

theorem elems_least {s t : Int} {k : Nat} (hk : k < 32) (h1 : has s k = true) (h2 : ∀ v, v < k → has s v = false) (h3 : ∀ v, has t v = (has s v && !decide (v = k))) :
    elems s = (k : Int) :: elems t := by
  refine Inc.ext (elems_inc s) ?_ (fun x => ?_)
  · refine List.pairwise_cons.2 ⟨fun x hx => ?_, elems_inc t⟩
    obtain ⟨v, hv, h4, rfl⟩ := mem_elems.1 hx
    rw [h3] at h4
    simp at h4
    by_cases hc : v < k
    · rw [h2 v hc] at h4; simp at h4
    · omega
  · rw [List.mem_cons, mem_elems, mem_elems]
    constructor
    · rintro ⟨v, hv, h4, rfl⟩
      by_cases e : v = k
      · left; omega
      · right; exact ⟨v, hv, by rw [h3, h4]; simp [e], rfl⟩
    · rintro (rfl | ⟨v, hv, h4, rfl⟩)
      · exact ⟨k, hk, h1, rfl⟩
      · rw [h3] at h4; simp at h4
        exact ⟨v, hv, h4.1, rfl⟩
theorem elems_zero : elems 0 = [] := by
  unfold elems
  rw [List.filter_eq_nil_iff.2 (fun v _ => by simp [has_zero])]; rfl

theorem tz_table : ∀ k : Nat, k < 32 → idx tab32 (ishr .u32 (IntKind.u32.wrap (((2 ^ k : Nat) : Int) * 125613361)) 27) = some (k : Int) := by decide +kernel
end Go.Sx

/- Plain facts on lists of numbers: reading, swapping, what a sort may do. No program in sight. -/
namespace Go.Sx
def at' (l : List Int) (i : Int) : Int := l.getD i.toNat 0
theorem idx_at {l : List Int} {i : Int} (h0 : 0 ≤ i) (h1 : i < l.length) : idx l i = some (at' l i) := by
  unfold idx at'
  rw [if_pos h0]
  have : i.toNat < l.length := by omega
  simp [this]
theorem idx_get {α : Type} {l : List α} {i : Int} (h0 : 0 ≤ i) (h1 : i < l.length) : ∃ x, idx l i = some x ∧ l[i.toNat]? = some x := by
  have : i.toNat < l.length := by omega
  exact ⟨l[i.toNat], by unfold idx; rw [if_pos h0]; simp [this], by simp [this]⟩

theorem at_set {l : List Int} {i k x : Int} (h0 : 0 ≤ i) (h1 : i < l.length) (hk : 0 ≤ k) : at' (l.set i.toNat x) k = if k = i then x else at' l k := by
  unfold at'
  by_cases h : k = i
  · subst h
    have : k.toNat < l.length := by omega
    simp [this]
  · rw [if_neg h]
    have : i.toNat ≠ k.toNat := by omega
    simp [List.getD_eq_getElem?_getD, List.getElem?_set_ne this]

def sw (l : List Int) (i j : Int) : List Int := (l.set i.toNat (at' l j)).set j.toNat (at' l i)
theorem sw_len (l : List Int) (i j : Int) : (sw l i j).length = l.length := by simp [sw]
theorem sw_at {l : List Int} {i j k : Int} (hi : 0 ≤ i) (hi' : i < l.length) (hj : 0 ≤ j) (hj' : j < l.length) (hk : 0 ≤ k) :
    at' (sw l i j) k = if k = j then at' l i else if k = i then at' l j else at' l k := by
  unfold sw
  rw [at_set hj (by simpa using hj') hk]
  split
  · rfl
  · rw [at_set hi hi' hk]

theorem ext_at {l l' : List Int} (hl : l.length = l'.length) (h : ∀ k : Int, 0 ≤ k → k < l.length → at' l k = at' l' k) : l = l' := by
  apply List.ext_getElem hl
  intro i h1 h2
  have := h i (by omega) (by omega)
  simpa [at', h1, h2] using this

theorem set_perm_erase (z : Int) : ∀ (l : List Int) (j : Nat), j < l.length → List.Perm (l.set j z) (z :: l.eraseIdx j)
  | [], j, h => by simp at h
  | x :: l, 0, _ => by simp
  | x :: l, j + 1, h => by
    simp only [List.set_cons_succ, List.eraseIdx_cons_succ]
    exact ((set_perm_erase z l j (by simpa using h)).cons x).trans (List.Perm.swap _ _ _)
theorem perm_erase (l : List Int) (j : Nat) (h : j < l.length) : List.Perm l (l[j] :: l.eraseIdx j) := by
  have := set_perm_erase l[j] l j h
  rwa [List.set_getElem_self] at this

theorem set_perm : ∀ (l : List Int) (i j : Nat) (x y : Int), l[i]? = some x → l[j]? = some y → List.Perm ((l.set i y).set j x) l
  | [], i, j, x, y, h, _ => by simp at h
  | z :: l, 0, 0, x, y, h, h' => by simp at h h'; subst h; simp
  | z :: l, 0, j + 1, x, y, h, h' => by
    simp at h h'
    subst h
    simp only [List.set_cons_zero, List.set_cons_succ]
    obtain ⟨hj, rfl⟩ := List.getElem?_eq_some_iff.1 h'
    have h1 := set_perm_erase z l j hj
    have h2 := perm_erase l j hj
    exact ((h1.cons _).trans (List.Perm.swap _ _ _)).trans (h2.symm.cons z)
  | z :: l, i + 1, 0, x, y, h, h' => by
    simp at h h'
    subst h'
    simp only [List.set_cons_zero, List.set_cons_succ]
    obtain ⟨hj, rfl⟩ := List.getElem?_eq_some_iff.1 h
    have h1 := set_perm_erase z l i hj
    have h2 := perm_erase l i hj
    exact ((h1.cons _).trans (List.Perm.swap _ _ _)).trans (h2.symm.cons z)
  | z :: l, i + 1, j + 1, x, y, h, h' => by
    simp at h h'
    simp only [List.set_cons_succ]
    exact (set_perm l i j x y h h').cons z

theorem sw_perm {l : List Int} {i j : Int} (hi : 0 ≤ i) (hi' : i < l.length) (hj : 0 ≤ j) (hj' : j < l.length) : List.Perm (sw l i j) l := by
  have h1 : i.toNat < l.length := by omega
  have h2 : j.toNat < l.length := by omega
  exact set_perm l i.toNat j.toNat _ _ (by simp [at', h1]) (by simp [at', h2])

/-- what a sort may do to the places from a to b -/
structure Rg (a b : Int) (l l' : List Int) : Prop where
  len : l'.length = l.length
  perm : List.Perm l' l
  out : ∀ k, 0 ≤ k → (k < a ∨ b ≤ k) → at' l' k = at' l k
  all : ∀ Q : Int → Prop, (∀ k, a ≤ k → k < b → Q (at' l k)) → ∀ k, a ≤ k → k < b → Q (at' l' k)

theorem Rg.refl (a b : Int) (l : List Int) : Rg a b l l := ⟨rfl, List.Perm.refl _, fun _ _ _ => rfl, fun _ h => h⟩
theorem Rg.trans {a b : Int} {l l' l'' : List Int} (h : Rg a b l l') (h' : Rg a b l' l'') : Rg a b l l'' :=
  ⟨h'.len.trans h.len, h'.perm.trans h.perm, fun k h0 hk => (h'.out k h0 hk).trans (h.out k h0 hk), fun Q hQ => h'.all Q (h.all Q hQ)⟩
theorem Rg.swap {a b i j : Int} {l : List Int} (ha : 0 ≤ a) (hb : b ≤ l.length) (hi : a ≤ i) (hi' : i < b) (hj : a ≤ j) (hj' : j < b) : Rg a b l (sw l i j) := by
  refine ⟨sw_len _ _ _, sw_perm (by omega) (by omega) (by omega) (by omega), fun k h0 hk => ?_, fun Q hQ k h1 h2 => ?_⟩
  · rw [sw_at (by omega) (by omega) (by omega) (by omega) h0, if_neg (by omega), if_neg (by omega)]
  · rw [sw_at (by omega) (by omega) (by omega) (by omega) (by omega)]
    split
    · exact hQ i hi hi'
    · split
      · exact hQ j hj hj'
      · exact hQ k h1 h2
theorem Rg.widen {a b a' b' : Int} {l l' : List Int} (h : Rg a b l l') (ha : a' ≤ a) (hb : b ≤ b') (h0 : 0 ≤ a') : Rg a' b' l l' := by
  refine ⟨h.len, h.perm, fun k h0 hk => h.out k h0 (by omega), fun Q hQ k h1 h2 => ?_⟩
  by_cases hk : a ≤ k ∧ k < b
  · exact h.all Q (fun k h3 h4 => hQ k (by omega) (by omega)) k hk.1 hk.2
  · rw [h.out k (by omega) (by omega)]; exact hQ k h1 h2

/-- sorted from a to b -/
def Srt (l : List Int) (a b : Int) : Prop := ∀ i j, a ≤ i → i < j → j < b → at' l i ≤ at' l j

/-- a round either goes on, nearer to the end, or leaves with what was promised -/
def Stp {σ ρ : Type} (I : σ → Prop) (μ : σ → Nat) (Post : ρ → Prop) (s : σ) : σ ⊕ ρ → Prop
  | .inl s' => I s' ∧ μ s' < μ s
  | .inr r => Post r

theorem loop_then {σ ρ β : Type} {step : σ → Option (σ ⊕ ρ)} {s : σ} {k : ρ → Option β} {Q : β → Prop} (I : σ → Prop) (μ : σ → Nat) (Post : ρ → Prop)
    (hstep : ∀ s, I s → ∃ y, step s = some y ∧ Stp I μ Post s y) (h0 : I s) (hk : ∀ r, Post r → ∃ y, k r = some y ∧ Q y) : ∃ y, (loopF step s).bind k = some y ∧ Q y := by
  obtain ⟨r, hr, hp⟩ := loopF_inv (step := step) I μ Post (fun s hs => by
    obtain ⟨y, hy, hq⟩ := hstep s hs
    cases y with
    | inl s' => exact .inl ⟨s', hy, hq.1, hq.2⟩
    | inr r => exact .inr ⟨r, hy, hq⟩) s h0
  rw [hr]
  exact hk r hp
end Go.Sx

/- What Go's sort at []int64 comes to. Plain. -/
namespace Go.Sx
theorem less_eq (x y : Int) : D.cmp_Less_int64 x y = some (decide (x < y)) := by
  simp [D.cmp_Less_int64, D.cmp_isNaN_int64]

theorem idx_set_at {l : List Int} {i j x : Int} (h0 : 0 ≤ i) (h1 : i < l.length) : idx (l.set j.toNat x) i = some (at' (l.set j.toNat x) i) := idx_at h0 (by simpa using h1)

theorem insertionSort_spec (l0 : List Int) (a b : Int) (ha : 0 ≤ a) (hab : a ≤ b) (hb : b ≤ l0.length) (hlen : l0.length ≤ 1000000) :
    ∃ l', D.slices_insertionSortOrdered_int64 l0 a b = some l' ∧ Rg a b l0 l' ∧ Srt l' a b := by
  unfold D.slices_insertionSortOrdered_int64
  rw [w64 (show -9223372036854775808 ≤ a + 1 by omega) (by omega)]
  refine loop_then (fun s => Rg a b l0 s.1 ∧ Srt s.1 a s.2 ∧ a + 1 ≤ s.2 ∧ s.2 ≤ b + 1) (fun s => (b - s.2).toNat) (fun r => Rg a b l0 r ∧ Srt r a b) ?_ ?_ ?_
  · rintro ⟨l, i⟩ ⟨hR, hS, h1, h2⟩
    dsimp only at hR hS h1 h2 ⊢
    have hll := hR.len
    by_cases hi : i < b
    · simp only [hi, decide_true, cond_true]
      rw [w64 (show -9223372036854775808 ≤ i + 1 by omega) (by omega)]
      refine loop_then (fun s => Rg a b l0 s.1 ∧ a ≤ s.2 ∧ s.2 ≤ i ∧ ∀ p q, a ≤ p → p < q → q ≤ i → q ≠ s.2 → at' s.1 p ≤ at' s.1 q) (fun s => (s.2 - a).toNat) (fun r => Rg a b l0 r ∧ Srt r a (i + 1)) ?_ ?_ ?_
      · rintro ⟨m, j⟩ ⟨hR', g1, g2, hS'⟩
        dsimp only at hR' g1 g2 hS' ⊢
        have hml := hR'.len
        rw [w64 (show -9223372036854775808 ≤ j - 1 by omega) (by omega)]
        by_cases hj : a < j
        · have r1 : idx m j = some (at' m j) := idx_at (by omega) (by omega)
          have r2 : idx m (j - 1) = some (at' m (j - 1)) := idx_at (by omega) (by omega)
          have r3 : ∀ x, idx (m.set j.toNat x) (j - 1) = some (at' (m.set j.toNat x) (j - 1)) := fun x => idx_set_at (by omega) (by omega)
          by_cases hlt : at' m j < at' m (j - 1)
          · refine ⟨.inl (sw m j (j - 1), j - 1), ?_, ⟨hR'.trans (Rg.swap ha (by omega) (by omega) (by omega) (by omega) (by omega)), by dsimp only; omega, by dsimp only; omega, ?_⟩, by dsimp only; omega⟩
            · simp only [r1, r2, r3, hj, less_eq, hlt, decide_true, cond_true, Option.bind_some]
              rfl
            · intro p q k1 k2 k3 k4
              dsimp only at k4 ⊢
              rw [sw_at (by omega) (by omega) (by omega) (by omega) (by omega), sw_at (by omega) (by omega) (by omega) (by omega) (by omega)]
              by_cases c1 : q = j
              · subst c1
                rw [if_neg (show ¬ q = q - 1 by omega), if_pos rfl]
                by_cases c2 : p = q - 1
                · rw [if_pos c2]; omega
                · rw [if_neg c2, if_neg (by omega)]
                  exact hS' p (q - 1) k1 (by omega) (by omega) (by omega)
              · rw [if_neg (show ¬ q = j - 1 by omega), if_neg c1]
                by_cases c2 : p = j - 1
                · rw [if_pos c2]
                  exact hS' j q (by omega) (by omega) k3 c1
                · rw [if_neg c2]
                  by_cases c3 : p = j
                  · rw [if_pos c3]
                    exact hS' (j - 1) q (by omega) (by omega) k3 c1
                  · rw [if_neg c3]
                    exact hS' p q k1 k2 k3 c1
          · refine ⟨.inr m, ?_, hR', ?_⟩
            · simp only [r1, r2, hj, less_eq, hlt, decide_true, decide_false, cond_true, cond_false, Option.bind_some]
            · intro p q k1 k2 k3
              by_cases c1 : q = j
              · subst c1
                by_cases c2 : p = q - 1
                · subst c2; omega
                · have := hS' p (q - 1) k1 (by omega) (by omega) (by omega)
                  omega
              · exact hS' p q k1 k2 (by omega) c1
        · refine ⟨.inr m, ?_, hR', ?_⟩
          · simp only [hj, decide_false, cond_false, Option.bind_some]
          · intro p q k1 k2 k3
            exact hS' p q k1 k2 (by omega) (by omega)
      · exact ⟨hR, by dsimp only; omega, Int.le_refl _, fun p q k1 k2 k3 k4 => hS p q k1 k2 (by dsimp only at k4 ⊢; omega)⟩
      · rintro r ⟨hR', hS'⟩
        exact ⟨.inl (r, i + 1), rfl, ⟨hR', hS', by dsimp only; omega, by dsimp only; omega⟩, by dsimp only; omega⟩
    · refine ⟨.inr l, by simp only [hi, decide_false, cond_false], hR, ?_⟩
      intro p q k1 k2 k3
      exact hS p q k1 k2 (by omega)
  · exact ⟨Rg.refl _ _ _, fun p q k1 k2 k3 => by dsimp only at k3; omega, by dsimp only; omega, by dsimp only; omega⟩
  · rintro r hr
    exact ⟨r, rfl, hr⟩
end Go.Sx

namespace Go.Sx
theorem reverseRange_spec (l0 : List Int) (a b : Int) (ha : 0 ≤ a) (hab : a ≤ b) (hb : b ≤ l0.length) (hlen : l0.length ≤ 1000000) :
    ∃ l', D.slices_reverseRangeOrdered_int64 l0 a b = some l' ∧ Rg a b l0 l' := by
  unfold D.slices_reverseRangeOrdered_int64
  rw [w64 (show -9223372036854775808 ≤ b - 1 by omega) (by omega)]
  refine loop_then (fun s => Rg a b l0 s.1 ∧ a ≤ s.2.1 ∧ s.2.1 ≤ b ∧ s.2.2 < b ∧ a - 1 ≤ s.2.2) (fun s => (s.2.2 - s.2.1).toNat) (fun r => Rg a b l0 r) ?_ ?_ ?_
  · rintro ⟨l, i, j⟩ ⟨hR, h1, h2, h3, h4⟩
    dsimp only at hR h1 h2 h3 h4 ⊢
    have hll := hR.len
    by_cases hi : i < j
    · have r1 : idx l i = some (at' l i) := idx_at (by omega) (by omega)
      have r2 : idx l j = some (at' l j) := idx_at (by omega) (by omega)
      have r3 : ∀ x, idx (l.set i.toNat x) j = some (at' (l.set i.toNat x) j) := fun x => idx_set_at (by omega) (by omega)
      rw [w64 (show -9223372036854775808 ≤ i + 1 by omega) (by omega), w64 (show -9223372036854775808 ≤ j - 1 by omega) (by omega)]
      refine ⟨.inl (sw l i j, i + 1, j - 1), ?_, ⟨hR.trans (Rg.swap ha (by omega) (by omega) (by omega) (by omega) (by omega)), by dsimp only; omega, by dsimp only; omega, by dsimp only; omega, by dsimp only; omega⟩, by dsimp only; omega⟩
      simp only [r1, r2, r3, hi, decide_true, cond_true, Option.bind_some]
      rfl
    · exact ⟨.inr l, by simp only [hi, decide_false, cond_false], hR⟩
  · exact ⟨Rg.refl _ _ _, by dsimp only; omega, by dsimp only; omega, by dsimp only; omega, by dsimp only; omega⟩
  · rintro r hr
    exact ⟨r, rfl, hr⟩

/-- up, while what is read is less than the pivot -/
theorem scanUp {β : Type} {k : Int → Option β} {Q : β → Prop} (l : List Int) (a hi i0 : Int) (ha : 0 ≤ a) (ha' : a < l.length) (h0 : 0 ≤ i0) (h1 : i0 ≤ hi + 1) (h2 : hi < l.length) (hlen : l.length ≤ 1000000)
    (hk : ∀ i, i0 ≤ i → i ≤ hi + 1 → (∀ q, i0 ≤ q → q < i → at' l q < at' l a) → (i ≤ hi → ¬ at' l i < at' l a) → ∃ y, k i = some y ∧ Q y) :
    ∃ y, (loopF (σ := Int) (ρ := (Int)) (fun (x : Int) => (cond (decide (x ≤ hi)) ((idx l x).bind fun e => (idx l a).bind fun e' => (D.cmp_Less_int64 e e').bind fun y => some y) (some false)).bind fun b => cond b (some (.inl (IntKind.i64.wrap (x + 1)))) (some (.inr x))) i0).bind k = some y ∧ Q y := by
  refine loop_then (fun i => i0 ≤ i ∧ i ≤ hi + 1 ∧ ∀ q, i0 ≤ q → q < i → at' l q < at' l a) (fun i => (hi + 1 - i).toNat) (fun i => i0 ≤ i ∧ i ≤ hi + 1 ∧ (∀ q, i0 ≤ q → q < i → at' l q < at' l a) ∧ (i ≤ hi → ¬ at' l i < at' l a)) ?_ ?_ ?_
  · rintro i ⟨g1, g2, g3⟩
    by_cases hi' : i ≤ hi
    · have r1 : idx l i = some (at' l i) := idx_at (by omega) (by omega)
      have r2 : idx l a = some (at' l a) := idx_at (by omega) (by omega)
      by_cases hlt : at' l i < at' l a
      · refine ⟨.inl (i + 1), ?_, ⟨by omega, by omega, fun q q1 q2 => ?_⟩, by dsimp only; omega⟩
        · simp only [r1, r2, hi', less_eq, hlt, decide_true, cond_true, Option.bind_some]
          rw [w64 (by omega) (by omega)]
        · by_cases e : q = i
          · rw [e]; exact hlt
          · exact g3 q q1 (by omega)
      · exact ⟨.inr i, by simp only [r1, r2, hi', less_eq, hlt, decide_true, decide_false, cond_true, cond_false, Option.bind_some], g1, g2, g3, fun _ => hlt⟩
    · exact ⟨.inr i, by simp only [hi', decide_false, cond_false, Option.bind_some], g1, g2, g3, fun h => absurd h hi'⟩
  · exact ⟨Int.le_refl _, h1, fun q q1 q2 => by omega⟩
  · rintro i ⟨g1, g2, g3, g4⟩
    exact hk i g1 g2 g3 g4

/-- down, while what is read is not less than the pivot -/
theorem scanDown {β : Type} {k : Int → Option β} {Q : β → Prop} (l : List Int) (a lo j0 : Int) (ha : 0 ≤ a) (ha' : a < l.length) (h0 : 0 ≤ lo) (h1 : lo ≤ j0 + 1) (h2 : j0 < l.length) (hlen : l.length ≤ 1000000)
    (hk : ∀ j, lo ≤ j + 1 → j ≤ j0 → (∀ q, j < q → q ≤ j0 → ¬ at' l q < at' l a) → (lo ≤ j → at' l j < at' l a) → ∃ y, k j = some y ∧ Q y) :
    ∃ y, (loopF (σ := Int) (ρ := (Int)) (fun (x : Int) => (cond (decide (lo ≤ x)) ((idx l x).bind fun e => (idx l a).bind fun e' => (D.cmp_Less_int64 e e').bind fun y => some (!y)) (some false)).bind fun b => cond b (some (.inl (IntKind.i64.wrap (x - 1)))) (some (.inr x))) j0).bind k = some y ∧ Q y := by
  refine loop_then (fun j => lo ≤ j + 1 ∧ j ≤ j0 ∧ ∀ q, j < q → q ≤ j0 → ¬ at' l q < at' l a) (fun j => (j + 1 - lo).toNat) (fun j => lo ≤ j + 1 ∧ j ≤ j0 ∧ (∀ q, j < q → q ≤ j0 → ¬ at' l q < at' l a) ∧ (lo ≤ j → at' l j < at' l a)) ?_ ?_ ?_
  · rintro j ⟨g1, g2, g3⟩
    by_cases hi' : lo ≤ j
    · have r1 : idx l j = some (at' l j) := idx_at (by omega) (by omega)
      have r2 : idx l a = some (at' l a) := idx_at (by omega) (by omega)
      by_cases hlt : at' l j < at' l a
      · exact ⟨.inr j, by simp only [r1, r2, hi', less_eq, hlt, decide_true, Bool.not_true, cond_true, cond_false, Option.bind_some], g1, g2, g3, fun _ => hlt⟩
      · refine ⟨.inl (j - 1), ?_, ⟨by omega, by omega, fun q q1 q2 => ?_⟩, by dsimp only; omega⟩
        · simp only [r1, r2, hi', less_eq, hlt, decide_true, decide_false, Bool.not_false, cond_true, Option.bind_some]
          rw [w64 (by omega) (by omega)]
        · by_cases e : q = j
          · rw [e]; exact hlt
          · exact g3 q (by omega) q2
    · exact ⟨.inr j, by simp only [hi', decide_false, cond_false, Option.bind_some], g1, g2, g3, fun h => absurd h hi'⟩
  · exact ⟨h1, Int.le_refl _, fun q q1 q2 => by omega⟩
  · rintro j ⟨g1, g2, g3, g4⟩
    exact hk j g1 g2 g3 g4

/-- what a partition comes to -/
structure Parted (l0 l' : List Int) (a b mid : Int) : Prop where
  rg : Rg a b l0 l'
  lo : a ≤ mid
  hi : mid < b
  left : ∀ k, a ≤ k → k < mid → at' l' k ≤ at' l' mid
  right : ∀ k, mid < k → k < b → at' l' mid ≤ at' l' k

theorem partition_spec (l0 : List Int) (a b p : Int) (ha : 0 ≤ a) (hb : b ≤ l0.length) (hlen : l0.length ≤ 1000000) (hp : a ≤ p) (hp' : p < b) :
    ∃ y, D.slices_partitionOrdered_int64 l0 a b p = some y ∧ Parted l0 y.2.2 a b y.1 := by
  unfold D.slices_partitionOrdered_int64
  have r1 : idx l0 p = some (at' l0 p) := idx_at (by omega) (by omega)
  have r2 : idx l0 a = some (at' l0 a) := idx_at (by omega) (by omega)
  have r3 : ∀ x, idx (l0.set a.toNat x) p = some (at' (l0.set a.toNat x) p) := fun x => idx_set_at (by omega) (by omega)
  simp only [r1, r2, r3, Option.bind_some]
  rw [show (l0.set a.toNat (at' l0 p)).set p.toNat (at' l0 a) = sw l0 a p from rfl]
  have hR0 : Rg a b l0 (sw l0 a p) := Rg.swap ha hb (by omega) (by omega) hp hp'
  generalize sw l0 a p = m0 at hR0 ⊢
  have hm0 := hR0.len
  rw [w64 (show -9223372036854775808 ≤ b - 1 by omega) (by omega), w64 (show -9223372036854775808 ≤ a + 1 by omega) (by omega)]
  refine scanUp m0 a (b - 1) (a + 1) ha (by omega) (by omega) (by omega) (by omega) (by omega) (fun i i1 i2 i3 i4 => ?_)
  refine scanDown m0 a i (b - 1) ha (by omega) (by omega) (by omega) (by omega) (by omega) (fun j j1 j2 j3 j4 => ?_)
  have q1 : idx m0 a = some (at' m0 a) := idx_at (by omega) (by omega)
  have q2 : idx m0 j = some (at' m0 j) := idx_at (by omega) (by omega)
  by_cases hij : j < i
  · have q3 : ∀ x, idx (m0.set j.toNat x) a = some (at' (m0.set j.toNat x) a) := fun x => idx_set_at (by omega) (by omega)
    refine ⟨(j, true, sw m0 j a), ?_, ⟨hR0.trans (Rg.swap ha (by omega) (by omega) (by omega) (by omega) (by omega)), by dsimp only; omega, by dsimp only; omega, fun k k1 k2 => ?_, fun k k1 k2 => ?_⟩⟩
    · simp only [q1, q2, q3, hij, decide_true, cond_true, Option.bind_some]
      rfl
    · dsimp only at k1 k2 ⊢
      rw [sw_at (by omega) (by omega) (by omega) (by omega) (by omega), sw_at (by omega) (by omega) (by omega) (by omega) (by omega)]
      rw [if_neg (show ¬ j = a by omega), if_pos rfl]
      by_cases e : k = a
      · rw [if_pos e]
        have := i3 j (by omega) (by omega); omega
      · rw [if_neg e, if_neg (by omega)]
        have := i3 k (by omega) (by omega); omega
    · dsimp only at k1 k2 ⊢
      rw [sw_at (by omega) (by omega) (by omega) (by omega) (by omega), sw_at (by omega) (by omega) (by omega) (by omega) (by omega)]
      rw [if_neg (show ¬ k = a by omega), if_neg (show ¬ k = j by omega)]
      have hk := j3 k (by omega) (by omega)
      by_cases e : j = a
      · rw [if_pos e]; subst e; omega
      · rw [if_neg e, if_pos rfl]; omega
  · have q4 : idx m0 i = some (at' m0 i) := idx_at (by omega) (by omega)
    have q5 : ∀ x, idx (m0.set i.toNat x) j = some (at' (m0.set i.toNat x) j) := fun x => idx_set_at (by omega) (by omega)
    simp only [q1, q2, q4, q5, hij, decide_false, cond_false, Option.bind_some]
    rw [show (m0.set i.toNat (at' m0 j)).set j.toNat (at' m0 i) = sw m0 i j from rfl]
    have hia := i4 (by omega)
    have hja := j4 (by omega)
    have hne : i < j := by
      rcases Int.lt_or_eq_of_le (show i ≤ j by omega) with h | h
      · exact h
      · subst h; exact absurd hja hia
    have hR1 : Rg a b l0 (sw m0 i j) := hR0.trans (Rg.swap ha (by omega) (by omega) (by omega) (by omega) (by omega))
    have ea : at' (sw m0 i j) a = at' m0 a := by rw [sw_at (by omega) (by omega) (by omega) (by omega) (by omega), if_neg (by omega), if_neg (by omega)]
    have hlo : ∀ q, a + 1 ≤ q → q < i + 1 → at' (sw m0 i j) q < at' (sw m0 i j) a := fun q h1 h2 => by
      rw [ea, sw_at (by omega) (by omega) (by omega) (by omega) (by omega), if_neg (by omega)]
      by_cases e : q = i
      · rw [if_pos e]; exact hja
      · rw [if_neg e]; exact i3 q h1 (by omega)
    have hhi : ∀ q, j - 1 < q → q < b → ¬ at' (sw m0 i j) q < at' (sw m0 i j) a := fun q h1 h2 => by
      rw [ea, sw_at (by omega) (by omega) (by omega) (by omega) (by omega)]
      by_cases e : q = j
      · rw [if_pos e]; exact hia
      · rw [if_neg e, if_neg (by omega)]; exact j3 q (by omega) (by omega)
    rw [w64 (show -9223372036854775808 ≤ i + 1 by omega) (by omega), w64 (show -9223372036854775808 ≤ j - 1 by omega) (by omega)]
    generalize sw m0 i j = m1 at hR1 hlo hhi ⊢
    refine loop_then (fun s => Rg a b l0 s.1 ∧ a + 1 ≤ s.2.1 ∧ s.2.1 ≤ s.2.2 + 1 ∧ s.2.2 < b ∧ (∀ q, a + 1 ≤ q → q < s.2.1 → at' s.1 q < at' s.1 a) ∧ (∀ q, s.2.2 < q → q < b → ¬ at' s.1 q < at' s.1 a)) (fun s => (s.2.2 + 1 - s.2.1).toNat)
      (fun s => Rg a b l0 s.1 ∧ a ≤ s.2 ∧ s.2 < b ∧ (∀ q, a + 1 ≤ q → q ≤ s.2 → at' s.1 q < at' s.1 a) ∧ (∀ q, s.2 < q → q < b → ¬ at' s.1 q < at' s.1 a)) ?_ ?_ ?_
    · rintro ⟨m, u, v⟩ ⟨hR, g1, g2, g3, g4, g5⟩
      dsimp only at hR g1 g2 g3 g4 g5 ⊢
      have hml := hR.len
      refine scanUp m a v u ha (by omega) (by omega) (by omega) (by omega) (by omega) (fun i i1 i2 i3 i4 => ?_)
      refine scanDown m a i v ha (by omega) (by omega) (by omega) (by omega) (by omega) (fun j j1 j2 j3 j4 => ?_)
      have f1 : ∀ q, a + 1 ≤ q → q < i → at' m q < at' m a := fun q h1 h2 => by
        by_cases h : q < u
        · exact g4 q h1 h
        · exact i3 q (by omega) h2
      have f2 : ∀ q, j < q → q < b → ¬ at' m q < at' m a := fun q h1 h2 => by
        by_cases h : q ≤ v
        · exact j3 q h1 h
        · exact g5 q (by omega) h2
      by_cases hij : j < i
      · exact ⟨.inr (m, j), by simp only [hij, decide_true, cond_true], hR, by dsimp only; omega, by dsimp only; omega, fun q h1 h2 => f1 q h1 (by dsimp only at h2; omega), f2⟩
      · have t1 : idx m i = some (at' m i) := idx_at (by omega) (by omega)
        have t2 : idx m j = some (at' m j) := idx_at (by omega) (by omega)
        have t3 : ∀ x, idx (m.set i.toNat x) j = some (at' (m.set i.toNat x) j) := fun x => idx_set_at (by omega) (by omega)
        have hia := i4 (by omega)
        have hja := j4 (by omega)
        have hne : i < j := by
          rcases Int.lt_or_eq_of_le (show i ≤ j by omega) with h | h
          · exact h
          · subst h; exact absurd hja hia
        have ea : at' (sw m i j) a = at' m a := by rw [sw_at (by omega) (by omega) (by omega) (by omega) (by omega), if_neg (by omega), if_neg (by omega)]
        rw [w64 (show -9223372036854775808 ≤ i + 1 by omega) (by omega), w64 (show -9223372036854775808 ≤ j - 1 by omega) (by omega)]
        refine ⟨.inl (sw m i j, i + 1, j - 1), ?_, ⟨hR.trans (Rg.swap ha (by omega) (by omega) (by omega) (by omega) (by omega)), by dsimp only; omega, by dsimp only; omega, by dsimp only; omega, fun q h1 h2 => ?_, fun q h1 h2 => ?_⟩, by dsimp only; omega⟩
        · simp only [t1, t2, t3, hij, decide_false, cond_false, Option.bind_some]
          rfl
        · dsimp only at h2 ⊢
          rw [ea, sw_at (by omega) (by omega) (by omega) (by omega) (by omega), if_neg (by omega)]
          by_cases e : q = i
          · rw [if_pos e]; exact hja
          · rw [if_neg e]; exact f1 q h1 (by omega)
        · dsimp only at h1 ⊢
          rw [ea, sw_at (by omega) (by omega) (by omega) (by omega) (by omega)]
          by_cases e : q = j
          · rw [if_pos e]; exact hia
          · rw [if_neg e, if_neg (by omega)]; exact f2 q (by omega) h2
    · exact ⟨hR1, by dsimp only; omega, by dsimp only; omega, by dsimp only; omega, hlo, hhi⟩
    · rintro ⟨m, v⟩ ⟨hR, g1, g2, g3, g4⟩
      dsimp only at hR g1 g2 g3 g4 ⊢
      have hml := hR.len
      have t1 : idx m a = some (at' m a) := idx_at (by omega) (by omega)
      have t2 : idx m v = some (at' m v) := idx_at (by omega) (by omega)
      have t3 : ∀ x, idx (m.set v.toNat x) a = some (at' (m.set v.toNat x) a) := fun x => idx_set_at (by omega) (by omega)
      refine ⟨(v, false, sw m v a), ?_, ⟨hR.trans (Rg.swap ha (by omega) (by omega) (by omega) (by omega) (by omega)), g1, g2, fun k k1 k2 => ?_, fun k k1 k2 => ?_⟩⟩
      · simp only [t1, t2, t3, Option.bind_some]
        rfl
      · dsimp only at k1 k2 ⊢
        rw [sw_at (by omega) (by omega) (by omega) (by omega) (by omega), sw_at (by omega) (by omega) (by omega) (by omega) (by omega)]
        rw [if_neg (show ¬ v = a by omega), if_pos rfl]
        by_cases e : k = a
        · rw [if_pos e]
          have := g3 v (by omega) (by omega); omega
        · rw [if_neg e, if_neg (by omega)]
          have := g3 k (by omega) (by omega); omega
      · dsimp only at k1 k2 ⊢
        rw [sw_at (by omega) (by omega) (by omega) (by omega) (by omega), sw_at (by omega) (by omega) (by omega) (by omega) (by omega)]
        rw [if_neg (show ¬ k = a by omega), if_neg (show ¬ k = v by omega)]
        have hk := g4 k (by omega) (by omega)
        by_cases e : v = a
        · rw [if_pos e]; subst e; omega
        · rw [if_neg e, if_pos rfl]; omega
end Go.Sx

namespace Go.Sx
/-- up, while the pivot is not less than what is read -/
theorem scanUp2 {β : Type} {k : Int → Option β} {Q : β → Prop} (l : List Int) (a hi i0 : Int) (ha : 0 ≤ a) (ha' : a < l.length) (h0 : 0 ≤ i0) (h1 : i0 ≤ hi + 1) (h2 : hi < l.length) (hlen : l.length ≤ 1000000)
    (hk : ∀ i, i0 ≤ i → i ≤ hi + 1 → (∀ q, i0 ≤ q → q < i → ¬ at' l a < at' l q) → (i ≤ hi → at' l a < at' l i) → ∃ y, k i = some y ∧ Q y) :
    ∃ y, (loopF (σ := Int) (ρ := (Int)) (fun (x : Int) => (cond (decide (x ≤ hi)) ((idx l a).bind fun e => (idx l x).bind fun e' => (D.cmp_Less_int64 e e').bind fun y => some (!y)) (some false)).bind fun b => cond b (some (.inl (IntKind.i64.wrap (x + 1)))) (some (.inr x))) i0).bind k = some y ∧ Q y := by
  refine loop_then (fun i => i0 ≤ i ∧ i ≤ hi + 1 ∧ ∀ q, i0 ≤ q → q < i → ¬ at' l a < at' l q) (fun i => (hi + 1 - i).toNat) (fun i => i0 ≤ i ∧ i ≤ hi + 1 ∧ (∀ q, i0 ≤ q → q < i → ¬ at' l a < at' l q) ∧ (i ≤ hi → at' l a < at' l i)) ?_ ?_ ?_
  · rintro i ⟨g1, g2, g3⟩
    by_cases hi' : i ≤ hi
    · have r1 : idx l i = some (at' l i) := idx_at (by omega) (by omega)
      have r2 : idx l a = some (at' l a) := idx_at (by omega) (by omega)
      by_cases hlt : at' l a < at' l i
      · exact ⟨.inr i, by simp only [r1, r2, hi', less_eq, hlt, decide_true, Bool.not_true, cond_true, cond_false, Option.bind_some], g1, g2, g3, fun _ => hlt⟩
      · refine ⟨.inl (i + 1), ?_, ⟨by omega, by omega, fun q q1 q2 => ?_⟩, by dsimp only; omega⟩
        · simp only [r1, r2, hi', less_eq, hlt, decide_true, decide_false, Bool.not_false, cond_true, Option.bind_some]
          rw [w64 (by omega) (by omega)]
        · by_cases e : q = i
          · rw [e]; exact hlt
          · exact g3 q q1 (by omega)
    · exact ⟨.inr i, by simp only [hi', decide_false, cond_false, Option.bind_some], g1, g2, g3, fun h => absurd h hi'⟩
  · exact ⟨Int.le_refl _, h1, fun q q1 q2 => by omega⟩
  · rintro i ⟨g1, g2, g3, g4⟩
    exact hk i g1 g2 g3 g4

/-- down, while the pivot is less than what is read -/
theorem scanDown2 {β : Type} {k : Int → Option β} {Q : β → Prop} (l : List Int) (a lo j0 : Int) (ha : 0 ≤ a) (ha' : a < l.length) (h0 : 0 ≤ lo) (h1 : lo ≤ j0 + 1) (h2 : j0 < l.length) (hlen : l.length ≤ 1000000)
    (hk : ∀ j, lo ≤ j + 1 → j ≤ j0 → (∀ q, j < q → q ≤ j0 → at' l a < at' l q) → (lo ≤ j → ¬ at' l a < at' l j) → ∃ y, k j = some y ∧ Q y) :
    ∃ y, (loopF (σ := Int) (ρ := (Int)) (fun (x : Int) => (cond (decide (lo ≤ x)) ((idx l a).bind fun e => (idx l x).bind fun e' => (D.cmp_Less_int64 e e').bind fun y => some y) (some false)).bind fun b => cond b (some (.inl (IntKind.i64.wrap (x - 1)))) (some (.inr x))) j0).bind k = some y ∧ Q y := by
  refine loop_then (fun j => lo ≤ j + 1 ∧ j ≤ j0 ∧ ∀ q, j < q → q ≤ j0 → at' l a < at' l q) (fun j => (j + 1 - lo).toNat) (fun j => lo ≤ j + 1 ∧ j ≤ j0 ∧ (∀ q, j < q → q ≤ j0 → at' l a < at' l q) ∧ (lo ≤ j → ¬ at' l a < at' l j)) ?_ ?_ ?_
  · rintro j ⟨g1, g2, g3⟩
    by_cases hi' : lo ≤ j
    · have r1 : idx l j = some (at' l j) := idx_at (by omega) (by omega)
      have r2 : idx l a = some (at' l a) := idx_at (by omega) (by omega)
      by_cases hlt : at' l a < at' l j
      · refine ⟨.inl (j - 1), ?_, ⟨by omega, by omega, fun q q1 q2 => ?_⟩, by dsimp only; omega⟩
        · simp only [r1, r2, hi', less_eq, hlt, decide_true, cond_true, Option.bind_some]
          rw [w64 (by omega) (by omega)]
        · by_cases e : q = j
          · rw [e]; exact hlt
          · exact g3 q (by omega) q2
      · exact ⟨.inr j, by simp only [r1, r2, hi', less_eq, hlt, decide_true, decide_false, cond_true, cond_false, Option.bind_some], g1, g2, g3, fun _ => hlt⟩
    · exact ⟨.inr j, by simp only [hi', decide_false, cond_false, Option.bind_some], g1, g2, g3, fun h => absurd h hi'⟩
  · exact ⟨h1, Int.le_refl _, fun q q1 q2 => by omega⟩
  · rintro j ⟨g1, g2, g3, g4⟩
    exact hk j g1 g2 g3 g4

theorem partitionEqual_spec (l0 : List Int) (a b p : Int) (ha : 0 ≤ a) (hb : b ≤ l0.length) (hlen : l0.length ≤ 1000000) (hp : a ≤ p) (hp' : p < b) :
    ∃ y, D.slices_partitionEqualOrdered_int64 l0 a b p = some y ∧ Rg a b l0 y.2 ∧ a < y.1 ∧ y.1 ≤ b ∧ (∀ k, a ≤ k → k < y.1 → at' y.2 k ≤ at' l0 p) ∧ (∀ k, y.1 ≤ k → k < b → at' l0 p < at' y.2 k) := by
  unfold D.slices_partitionEqualOrdered_int64
  have r1 : idx l0 p = some (at' l0 p) := idx_at (by omega) (by omega)
  have r2 : idx l0 a = some (at' l0 a) := idx_at (by omega) (by omega)
  have r3 : ∀ x, idx (l0.set a.toNat x) p = some (at' (l0.set a.toNat x) p) := fun x => idx_set_at (by omega) (by omega)
  simp only [r1, r2, r3, Option.bind_some]
  rw [show (l0.set a.toNat (at' l0 p)).set p.toNat (at' l0 a) = sw l0 a p from rfl]
  have hR0 : Rg a b l0 (sw l0 a p) := Rg.swap ha hb (by omega) (by omega) hp hp'
  have ep : at' (sw l0 a p) a = at' l0 p := by
    rw [sw_at (by omega) (by omega) (by omega) (by omega) (by omega)]
    by_cases e : a = p
    · rw [if_pos e, e]
    · rw [if_neg e, if_pos rfl]
  generalize sw l0 a p = m0 at hR0 ep ⊢
  rw [w64 (show -9223372036854775808 ≤ b - 1 by omega) (by omega), w64 (show -9223372036854775808 ≤ a + 1 by omega) (by omega)]
  refine loop_then (fun s => Rg a b l0 s.1 ∧ a + 1 ≤ s.2.1 ∧ s.2.1 ≤ s.2.2 + 1 ∧ s.2.2 < b ∧ at' s.1 a = at' l0 p ∧ (∀ q, a + 1 ≤ q → q < s.2.1 → ¬ at' s.1 a < at' s.1 q) ∧ (∀ q, s.2.2 < q → q < b → at' s.1 a < at' s.1 q)) (fun s => (s.2.2 + 1 - s.2.1).toNat)
    (fun s => Rg a b l0 s.1 ∧ a + 1 ≤ s.2 ∧ s.2 ≤ b ∧ at' s.1 a = at' l0 p ∧ (∀ q, a + 1 ≤ q → q < s.2 → ¬ at' s.1 a < at' s.1 q) ∧ (∀ q, s.2 ≤ q → q < b → at' s.1 a < at' s.1 q)) ?_ ?_ ?_
  · rintro ⟨m, u, v⟩ ⟨hR, g1, g2, g3, g6, g4, g5⟩
    dsimp only at hR g1 g2 g3 g4 g5 g6 ⊢
    have hml := hR.len
    refine scanUp2 m a v u ha (by omega) (by omega) (by omega) (by omega) (by omega) (fun i i1 i2 i3 i4 => ?_)
    refine scanDown2 m a i v ha (by omega) (by omega) (by omega) (by omega) (by omega) (fun j j1 j2 j3 j4 => ?_)
    have f1 : ∀ q, a + 1 ≤ q → q < i → ¬ at' m a < at' m q := fun q h1 h2 => by
      by_cases h : q < u
      · exact g4 q h1 h
      · exact i3 q (by omega) h2
    have f2 : ∀ q, j < q → q < b → at' m a < at' m q := fun q h1 h2 => by
      by_cases h : q ≤ v
      · exact j3 q h1 h
      · exact g5 q (by omega) h2
    by_cases hij : j < i
    · exact ⟨.inr (m, i), by simp only [hij, decide_true, cond_true], hR, by dsimp only; omega, by dsimp only; omega, g6, f1, fun q h1 h2 => f2 q (by dsimp only at h1; omega) h2⟩
    · have t1 : idx m i = some (at' m i) := idx_at (by omega) (by omega)
      have t2 : idx m j = some (at' m j) := idx_at (by omega) (by omega)
      have t3 : ∀ x, idx (m.set i.toNat x) j = some (at' (m.set i.toNat x) j) := fun x => idx_set_at (by omega) (by omega)
      have hia := i4 (by omega)
      have hja := j4 (by omega)
      have hne : i < j := by
        rcases Int.lt_or_eq_of_le (show i ≤ j by omega) with h | h
        · exact h
        · subst h; exact absurd hia hja
      have ea : at' (sw m i j) a = at' m a := by rw [sw_at (by omega) (by omega) (by omega) (by omega) (by omega), if_neg (by omega), if_neg (by omega)]
      rw [w64 (show -9223372036854775808 ≤ i + 1 by omega) (by omega), w64 (show -9223372036854775808 ≤ j - 1 by omega) (by omega)]
      refine ⟨.inl (sw m i j, i + 1, j - 1), ?_, ⟨hR.trans (Rg.swap ha (by omega) (by omega) (by omega) (by omega) (by omega)), by dsimp only; omega, by dsimp only; omega, by dsimp only; omega, by dsimp only; rw [ea]; exact g6, fun q h1 h2 => ?_, fun q h1 h2 => ?_⟩, by dsimp only; omega⟩
      · simp only [t1, t2, t3, hij, decide_false, cond_false, Option.bind_some]
        rfl
      · dsimp only at h2 ⊢
        rw [ea, sw_at (by omega) (by omega) (by omega) (by omega) (by omega), if_neg (by omega)]
        by_cases e : q = i
        · rw [if_pos e]; exact hja
        · rw [if_neg e]; exact f1 q h1 (by omega)
      · dsimp only at h1 ⊢
        rw [ea, sw_at (by omega) (by omega) (by omega) (by omega) (by omega)]
        by_cases e : q = j
        · rw [if_pos e]; exact hia
        · rw [if_neg e, if_neg (by omega)]; exact f2 q (by omega) h2
  · exact ⟨hR0, by dsimp only; omega, by dsimp only; omega, by dsimp only; omega, ep, fun q h1 h2 => by dsimp only at h2; omega, fun q h1 h2 => by dsimp only at h1; omega⟩
  · rintro ⟨m, v⟩ ⟨hR, g1, g2, g3, g4, g5⟩
    refine ⟨(v, m), rfl, hR, by dsimp only at *; omega, g2, fun k k1 k2 => ?_, fun k k1 k2 => ?_⟩
    · dsimp only at *
      by_cases e : k = a
      · rw [e, g3]; exact Int.le_refl _
      · have := g4 k (by omega) k2; omega
    · dsimp only at *
      have := g5 k k1 k2; omega

theorem order2_spec (l : List Int) (a b s : Int) (ha : 0 ≤ a) (ha' : a < l.length) (hb : 0 ≤ b) (hb' : b < l.length) :
    ∃ y, D.slices_order2Ordered_int64 l a b s = some y ∧ y.2.2.1 = l ∧ ((y.1 = a ∧ y.2.1 = b) ∨ (y.1 = b ∧ y.2.1 = a)) := by
  have r1 : idx l a = some (at' l a) := idx_at ha ha'
  have r2 : idx l b = some (at' l b) := idx_at hb hb'
  unfold D.slices_order2Ordered_int64
  simp only [r1, r2, less_eq, Option.bind_some]
  by_cases h : at' l b < at' l a
  · simp only [h, decide_true, cond_true]; exact ⟨_, rfl, rfl, .inr ⟨rfl, rfl⟩⟩
  · simp only [h, decide_false, cond_false]; exact ⟨_, rfl, rfl, .inl ⟨rfl, rfl⟩⟩

theorem median_spec (l : List Int) (a b c s : Int) (ha : 0 ≤ a) (ha' : a < l.length) (hb : 0 ≤ b) (hb' : b < l.length) (hc : 0 ≤ c) (hc' : c < l.length) :
    ∃ y, D.slices_medianOrdered_int64 l a b c s = some y ∧ y.2.1 = l ∧ (y.1 = a ∨ y.1 = b ∨ y.1 = c) := by
  unfold D.slices_medianOrdered_int64
  obtain ⟨y1, h1, e1, c1⟩ := order2_spec l a b s ha ha' hb hb'
  rw [h1, Option.bind_some, e1]
  have b1 : 0 ≤ y1.2.1 ∧ y1.2.1 < l.length ∧ 0 ≤ y1.1 ∧ y1.1 < l.length := by rcases c1 with ⟨c, d⟩ | ⟨c, d⟩ <;> rw [c, d] <;> exact ⟨by assumption, by assumption, by assumption, by assumption⟩
  obtain ⟨y2, h2, e2, c2⟩ := order2_spec l y1.2.1 c y1.2.2.2 b1.1 b1.2.1 hc hc'
  rw [h2, Option.bind_some, e2]
  have b2 : 0 ≤ y2.1 ∧ y2.1 < l.length := by rcases c2 with ⟨c, d⟩ | ⟨c, d⟩ <;> rw [c] <;> exact ⟨by omega, by omega⟩
  obtain ⟨y3, h3, e3, c3⟩ := order2_spec l y1.1 y2.1 y2.2.2.2 b1.2.2.1 b1.2.2.2 b2.1 b2.2
  rw [h3, Option.bind_some]
  refine ⟨_, rfl, e3, ?_⟩
  dsimp only
  omega

theorem choosePivot_spec (l : List Int) (a b : Int) (ha : 0 ≤ a) (hb : b ≤ l.length) (h8 : 8 ≤ b - a) (h50 : b - a < 50) (hlen : l.length ≤ 1000000) :
    ∃ y, D.slices_choosePivotOrdered_int64 l a b = some y ∧ y.2.2 = l ∧ a ≤ y.1 ∧ y.1 < b := by
  unfold D.slices_choosePivotOrdered_int64
  rw [w64 (show -9223372036854775808 ≤ b - a by omega) (by omega)]
  have e4 : (b - a).tdiv 4 = (b - a) / 4 := Int.tdiv_eq_ediv_of_nonneg (by omega)
  rw [e4, w64 (show -9223372036854775808 ≤ (b - a) / 4 by omega) (by omega)]
  rw [w64 (show -9223372036854775808 ≤ (b - a) / 4 * 1 by omega) (by omega), w64 (show -9223372036854775808 ≤ (b - a) / 4 * 2 by omega) (by omega), w64 (show -9223372036854775808 ≤ (b - a) / 4 * 3 by omega) (by omega)]
  rw [w64 (show -9223372036854775808 ≤ a + (b - a) / 4 * 1 by omega) (by omega), w64 (show -9223372036854775808 ≤ a + (b - a) / 4 * 2 by omega) (by omega), w64 (show -9223372036854775808 ≤ a + (b - a) / 4 * 3 by omega) (by omega)]
  simp only [h8, show ¬ (50 ≤ b - a) by omega, decide_true, decide_false, cond_true, cond_false, Option.bind_some]
  obtain ⟨y, h1, e1, c1⟩ := median_spec l (a + (b - a) / 4 * 1) (a + (b - a) / 4 * 2) (a + (b - a) / 4 * 3) 0 (by omega) (by omega) (by omega) (by omega) (by omega) (by omega)
  rw [h1, Option.bind_some, e1]
  have hy : a ≤ y.1 ∧ y.1 < b := by omega
  cases (y.2.2 == 0)
  · cases (y.2.2 == 12)
    · exact ⟨_, rfl, rfl, hy⟩
    · exact ⟨_, rfl, rfl, hy⟩
  · exact ⟨_, rfl, rfl, hy⟩

theorem partialInsertion_spec (l : List Int) (a b : Int) (ha : 0 ≤ a) (hab : a < b) (hb : b ≤ l.length) (h50 : b - a < 50) (hlen : l.length ≤ 1000000) :
    ∃ y, D.slices_partialInsertionSortOrdered_int64 l a b = some y ∧ y.2 = l ∧ (y.1 = true → Srt l a b) := by
  unfold D.slices_partialInsertionSortOrdered_int64
  rw [w64 (show -9223372036854775808 ≤ a + 1 by omega) (by omega)]
  refine loop_then (fun s => s = (l, a + 1, 0)) (fun _ => 0) (fun r => ∃ y : Bool × List Int, r = .inr y ∧ y.2 = l ∧ (y.1 = true → Srt l a b)) ?_ rfl ?_
  · rintro s rfl
    dsimp only
    simp only [show ((0 : Int) < 5) from by decide, decide_true, cond_true]
    refine loop_then (fun i => a + 1 ≤ i ∧ i ≤ b ∧ Srt l a i) (fun i => (b - i).toNat) (fun i => a + 1 ≤ i ∧ i ≤ b ∧ Srt l a i) ?_ ?_ ?_
    · rintro i ⟨g1, g2, g3⟩
      by_cases hi : i < b
      · have r1 : idx l i = some (at' l i) := idx_at (by omega) (by omega)
        have r2 : idx l (i - 1) = some (at' l (i - 1)) := idx_at (by omega) (by omega)
        have e1 : IntKind.i64.wrap (i - 1) = i - 1 := w64 (by omega) (by omega)
        by_cases hlt : at' l i < at' l (i - 1)
        · exact ⟨.inr i, by simp only [r1, r2, e1, hi, less_eq, hlt, decide_true, Bool.not_true, cond_true, cond_false, Option.bind_some], g1, g2, g3⟩
        · refine ⟨.inl (i + 1), ?_, ⟨by omega, by omega, fun p q k1 k2 k3 => ?_⟩, by dsimp only; omega⟩
          · simp only [r1, r2, e1, hi, less_eq, hlt, decide_true, decide_false, Bool.not_false, cond_true, Option.bind_some]
            rw [w64 (by omega) (by omega)]
          · by_cases e : q = i
            · subst e
              by_cases e2 : p = q - 1
              · subst e2; omega
              · have := g3 p (q - 1) k1 (by omega) (by omega); omega
            · exact g3 p q k1 k2 (by omega)
      · exact ⟨.inr i, by simp only [hi, decide_false, cond_false, Option.bind_some], g1, g2, g3⟩
    · exact ⟨Int.le_refl _, by omega, fun p q k1 k2 k3 => by omega⟩
    · rintro i ⟨g1, g2, g3⟩
      rw [w64 (show -9223372036854775808 ≤ b - a by omega) (by omega)]
      by_cases he : i = b
      · refine ⟨.inr (.inr (true, l)), ?_, _, rfl, rfl, fun _ => by rw [← he]; exact g3⟩
        have : (i == b) = true := by simp [he]
        simp only [this, cond_true]
      · refine ⟨.inr (.inr (false, l)), ?_, _, rfl, rfl, fun h => by cases h⟩
        have : (i == b) = false := by simp [he]
        simp only [this, h50, decide_true, cond_true, cond_false]
  · rintro r ⟨y, rfl, h1, h2⟩
    exact ⟨y, rfl, h1, h2⟩
end Go.Sx

namespace Go.Sx
theorem iand_small (y m : Int) (h0 : 0 ≤ m) (h1 : m < 4294967296) : 0 ≤ iand .u64 y m ∧ iand .u64 y m ≤ m := by
  unfold iand
  have e : (BitVec.ofInt IntKind.u64.bits y &&& BitVec.ofInt IntKind.u64.bits m).toNat ≤ (BitVec.ofInt IntKind.u64.bits m).toNat := by
    rw [BitVec.toNat_and]; exact Nat.and_le_right
  have e2 : (BitVec.ofInt IntKind.u64.bits m).toNat = m.toNat := by
    rw [BitVec.toNat_ofInt]
    show (m % (2 ^ 64 : Nat)).toNat = m.toNat
    congr 1
    omega
  rw [e2] at e
  generalize (BitVec.ofInt IntKind.u64.bits y &&& BitVec.ofInt IntKind.u64.bits m).toNat = t at e
  have : IntKind.u64.wrap (t : Int) = t := by
    simp only [IntKind.wrap, IntKind.bits, IntKind.signed]
    simp
    omega
  rw [this]
  omega

theorem wu64 {x : Int} (h1 : 0 ≤ x) (h2 : x < 18446744073709551616) : IntKind.u64.wrap x = x := by
  simp only [IntKind.wrap, IntKind.bits, IntKind.signed]
  simp
  omega

theorem pow2_spec (n : Int) (h1 : 8 ≤ n) (h2 : n ≤ 16) : ∃ y, D.slices_nextPowerOfTwo n = some y ∧ n < y ∧ y ≤ 2 * n := by
  unfold D.slices_nextPowerOfTwo
  rw [wu64 (by omega) (by omega)]
  have key : ∀ k : Int, k = 8 ∨ k = 9 ∨ k = 10 ∨ k = 11 ∨ k = 12 ∨ k = 13 ∨ k = 14 ∨ k = 15 ∨ k = 16 → k < ishl .u64 1 (Lib.bitLen k.toNat : Nat) ∧ ishl .u64 1 (Lib.bitLen k.toNat : Nat) ≤ 2 * k := by
    rintro k (rfl | rfl | rfl | rfl | rfl | rfl | rfl | rfl | rfl) <;> decide
  obtain ⟨k1, k2⟩ := key n (by omega)
  refine ⟨_, ?_, k1, k2⟩
  unfold D.math_bits_Len
  rw [if_pos (by omega), Option.bind_some]
  have : decide (((Lib.bitLen n.toNat : Nat) : Int) < 0) = false := by simp
  rw [this]
  rfl

theorem breakPatterns_spec (l0 : List Int) (a b : Int) (ha : 0 ≤ a) (hb : b ≤ l0.length) (h8 : 8 ≤ b - a) (h16 : b - a ≤ 16) (hlen : l0.length ≤ 1000000) :
    ∃ l', D.slices_breakPatternsOrdered_int64 l0 a b = some l' ∧ Rg a b l0 l' := by
  unfold D.slices_breakPatternsOrdered_int64
  rw [w64 (show -9223372036854775808 ≤ b - a by omega) (by omega)]
  have e4 : (b - a).tdiv 4 = (b - a) / 4 := Int.tdiv_eq_ediv_of_nonneg (by omega)
  rw [e4, w64 (show -9223372036854775808 ≤ (b - a) / 4 by omega) (by omega)]
  rw [w64 (show -9223372036854775808 ≤ (b - a) / 4 * 2 by omega) (by omega)]
  rw [w64 (show -9223372036854775808 ≤ a + (b - a) / 4 * 2 by omega) (by omega)]
  rw [w64 (show -9223372036854775808 ≤ a + (b - a) / 4 * 2 + 1 by omega) (by omega), w64 (show -9223372036854775808 ≤ a + (b - a) / 4 * 2 - 1 by omega) (by omega)]
  simp only [h8, decide_true, cond_true]
  obtain ⟨y, hy, g1, g2⟩ := pow2_spec (b - a) h8 h16
  rw [hy, Option.bind_some, wu64 (show 0 ≤ y - 1 by omega) (by omega)]
  refine loop_then (fun s => Rg a b l0 s.1 ∧ a + (b - a) / 4 * 2 - 1 ≤ s.2.1 ∧ s.2.1 ≤ a + (b - a) / 4 * 2 + 2) (fun s => (a + (b - a) / 4 * 2 + 2 - s.2.1).toNat) (fun r => Rg a b l0 r) ?_ ?_ ?_
  · rintro ⟨l, i, z⟩ ⟨hR, k1, k2⟩
    dsimp only at hR k1 k2 ⊢
    have hll := hR.len
    by_cases hi : i ≤ a + (b - a) / 4 * 2 + 1
    · simp only [hi, decide_true, cond_true, D.slices_xorshift_Next, Option.bind_some]
      obtain ⟨t1, t2⟩ := iand_small (ixor .u64 (ixor .u64 (ixor .u64 z (ishl .u64 z 13)) (ishr .u64 (ixor .u64 z (ishl .u64 z 13)) 7)) (ishl .u64 (ixor .u64 (ixor .u64 z (ishl .u64 z 13)) (ishr .u64 (ixor .u64 z (ishl .u64 z 13)) 7)) 17)) (y - 1) (by omega) (by omega)
      revert t1 t2
      generalize iand .u64 (ixor .u64 (ixor .u64 (ixor .u64 z (ishl .u64 z 13)) (ishr .u64 (ixor .u64 z (ishl .u64 z 13)) 7)) (ishl .u64 (ixor .u64 (ixor .u64 z (ishl .u64 z 13)) (ishr .u64 (ixor .u64 z (ishl .u64 z 13)) 7)) 17)) (y - 1) = t
      generalize (ixor .u64 (ixor .u64 (ixor .u64 z (ishl .u64 z 13)) (ishr .u64 (ixor .u64 z (ishl .u64 z 13)) 7)) (ishl .u64 (ixor .u64 (ixor .u64 z (ishl .u64 z 13)) (ishr .u64 (ixor .u64 z (ishl .u64 z 13)) 7)) 17)) = z'
      intro t1 t2
      rw [w64 (show -9223372036854775808 ≤ t by omega) (by omega), w64 (show -9223372036854775808 ≤ t - (b - a) by omega) (by omega)]
      have hc : ∃ o, (bif decide (b - a ≤ t) then some (t - (b - a)) else some t) = some o ∧ 0 ≤ o ∧ o < b - a := by
        by_cases h : b - a ≤ t
        · exact ⟨t - (b - a), by simp [h], by omega, by omega⟩
        · exact ⟨t, by simp [h], by omega, by omega⟩
      obtain ⟨o, ho, o1, o2⟩ := hc
      rw [ho, Option.bind_some, w64 (show -9223372036854775808 ≤ a + o by omega) (by omega), w64 (show -9223372036854775808 ≤ i + 1 by omega) (by omega)]
      have r1 : idx l i = some (at' l i) := idx_at (by omega) (by omega)
      have r2 : idx l (a + o) = some (at' l (a + o)) := idx_at (by omega) (by omega)
      have r3 : ∀ x, idx (l.set i.toNat x) (a + o) = some (at' (l.set i.toNat x) (a + o)) := fun x => idx_set_at (by omega) (by omega)
      refine ⟨.inl (sw l i (a + o), i + 1, z'), ?_, ⟨hR.trans (Rg.swap ha (by omega) (by omega) (by omega) (by omega) (by omega)), by dsimp only; omega, by dsimp only; omega⟩, by dsimp only; omega⟩
      simp only [r1, r2, r3, Option.bind_some]
      rfl
    · exact ⟨.inr l, by simp only [hi, decide_false, cond_false], hR⟩
  · exact ⟨Rg.refl _ _ _, by dsimp only; omega, by dsimp only; omega⟩
  · rintro r hr
    exact ⟨r, rfl, hr⟩
end Go.Sx

namespace Go.Sx
theorem bind_then {α β : Type} {e : Option α} {k : α → Option β} {Q : β → Prop} (R : α → Prop) (h : ∃ x, e = some x ∧ R x) (hk : ∀ x, R x → ∃ y, k x = some y ∧ Q y) : ∃ y, e.bind k = some y ∧ Q y := by
  obtain ⟨x, rfl, hx⟩ := h
  exact hk x hx

/-- from a0 to b0 all pairs are in order, but for those from a to b -/
def Out (l : List Int) (a0 b0 a b : Int) : Prop := ∀ i j, a0 ≤ i → i < j → j < b0 → ¬ (a ≤ i ∧ j < b) → at' l i ≤ at' l j

theorem Out.keep {a0 a b b0 : Int} {l l' : List Int} (h : Rg a b l l') (h0 : 0 ≤ a0) (ha : a0 ≤ a) (hb : b ≤ b0) (c : Out l a0 b0 a b) : Out l' a0 b0 a b := by
  intro i j h1 h2 h3 h4
  by_cases hi : a ≤ i ∧ i < b
  · rw [h.out j (by omega) (by omega)]
    exact h.all (fun x => x ≤ at' l j) (fun k k1 k2 => c k j (by omega) (by omega) h3 (by omega)) i hi.1 hi.2
  · rw [h.out i (by omega) (by omega)]
    by_cases hj : a ≤ j ∧ j < b
    · exact h.all (fun x => at' l i ≤ x) (fun k k1 k2 => c i k (by omega) (by omega) (by omega) (by omega)) j hj.1 hj.2
    · rw [h.out j (by omega) (by omega)]; exact c i j h1 h2 h3 h4

theorem pdqsort_spec : ∀ (n : Nat) (l0 : List Int) (a0 b0 lim : Int), 0 ≤ a0 → a0 ≤ b0 → b0 ≤ l0.length → l0.length ≤ 1000000 → b0 - a0 ≤ 16 → b0 - a0 ≤ 12 + lim → 0 ≤ lim → lim ≤ 64 →
    (0 < a0 → ∀ k, a0 ≤ k → k < b0 → at' l0 (a0 - 1) ≤ at' l0 k) → b0 - a0 < n → ∃ l', D.slices_pdqsortOrdered_int64R n l0 a0 b0 lim = some l' ∧ Rg a0 b0 l0 l' ∧ Srt l' a0 b0 := by
  intro n
  induction n with
  | zero => intro l0 a0 b0 lim h1 h2 h3 h4 h5 h6 h7 h8 h9 h10; omega
  | succ n ih =>
    intro l0 a0 b0 lim h1 h2 h3 h4 h5 h6 h7 h8 h9 h10
    unfold D.slices_pdqsortOrdered_int64R
    refine loop_then (fun s => Rg a0 b0 l0 s.1 ∧ Out s.1 a0 b0 s.2.1 s.2.2.1 ∧ a0 ≤ s.2.1 ∧ s.2.1 ≤ s.2.2.1 ∧ s.2.2.1 ≤ b0 ∧ s.2.2.1 - s.2.1 ≤ 12 + s.2.2.2.1 ∧ 0 ≤ s.2.2.2.1 ∧ s.2.2.2.1 ≤ 64 ∧ (0 < s.2.1 → ∀ k, s.2.1 ≤ k → k < s.2.2.1 → at' s.1 (s.2.1 - 1) ≤ at' s.1 k))
      (fun s => (s.2.2.1 - s.2.1).toNat) (fun r => Rg a0 b0 l0 r ∧ Srt r a0 b0) ?_ ?_ ?_
    · rintro ⟨l, a, b, lm, bal, par⟩ ⟨hR, hO, g1, g2, g3, g4, g5, g6, g7⟩
      dsimp only at hR hO g1 g2 g3 g4 g5 g6 g7 ⊢
      have hll := hR.len
      have fin : ∀ l', Rg a b l l' → Srt l' a b → Rg a0 b0 l0 l' ∧ Srt l' a0 b0 := fun l' hr hs =>
        ⟨hR.trans (hr.widen g1 g3 h1), fun i j k1 k2 k3 => by
          by_cases hc : a ≤ i ∧ j < b
          · exact hs i j hc.1 k2 hc.2
          · exact (hO.keep hr h1 g1 g3) i j k1 k2 k3 hc⟩
      rw [w64 (show -9223372036854775808 ≤ b - a by omega) (by omega)]
      by_cases hs : b - a ≤ 12
      · obtain ⟨l', e, r1, r2⟩ := insertionSort_spec l a b (by omega) g2 (by omega) (by omega)
        refine ⟨.inr l', ?_, fin l' r1 r2⟩
        simp only [hs, decide_true, cond_true, e, Option.bind_some]
      · have hl0 : (lm == 0) = false := by simp; omega
        simp only [hs, decide_false, cond_false, hl0]
        refine bind_then (fun q : List Int × Int => Rg a b l q.1 ∧ b - a ≤ 13 + q.2 ∧ 0 ≤ q.2 ∧ q.2 ≤ 64) ?_ ?_
        · cases bal
          · obtain ⟨l1, e, r1⟩ := breakPatterns_spec l a b (by omega) (by omega) (by omega) (by omega) (by omega)
            refine ⟨(l1, lm - 1), ?_, r1, by dsimp only; omega, by dsimp only; omega, by dsimp only; omega⟩
            simp only [Bool.not_false, cond_true, e, Option.bind_some]
            rw [w64 (by omega) (by omega)]
          · exact ⟨(l, lm), rfl, Rg.refl _ _ _, by dsimp only; omega, by dsimp only; omega, by dsimp only; omega⟩
        rintro ⟨l1, lm1⟩ ⟨hr1, k1, k2, k3⟩
        dsimp only at hr1 k1 k2 k3 ⊢
        have hl1 := hr1.len
        obtain ⟨y, ey, c1, c2, c3⟩ := choosePivot_spec l1 a b (by omega) (by omega) (by omega) (by omega) (by omega)
        rw [ey, Option.bind_some]
        refine bind_then (fun q : List Int × Int × Int => Rg a b l q.1 ∧ a ≤ q.2.1 ∧ q.2.1 < b) ?_ ?_
        · cases (y.2.1 == 2)
          · exact ⟨_, rfl, by dsimp only; rw [c1]; exact hr1, c2, c3⟩
          · obtain ⟨l2, e2, r2⟩ := reverseRange_spec l1 a b (by omega) (by omega) (by omega) (by omega)
            rw [c1]
            simp only [cond_true, e2, Option.bind_some]
            rw [w64 (show -9223372036854775808 ≤ b - 1 by omega) (by omega), w64 (show -9223372036854775808 ≤ y.1 - a by omega) (by omega), w64 (show -9223372036854775808 ≤ b - 1 - (y.1 - a) by omega) (by omega)]
            exact ⟨_, rfl, hr1.trans r2, by dsimp only; omega, by dsimp only; omega⟩
        rintro ⟨l2, p, hint⟩ ⟨hr2, p1, p2⟩
        dsimp only at hr2 p1 p2 ⊢
        have hl2 := hr2.len
        refine bind_then (fun q : List Int ⊕ List Int => match q with | .inl q => q = l2 | .inr q => q = l2 ∧ Srt l2 a b) ?_ ?_
        · cases ((bal && par) && (hint == 1))
          · exact ⟨.inl l2, rfl, rfl⟩
          · obtain ⟨y2, e2, d1, d2⟩ := partialInsertion_spec l2 a b (by omega) (by omega) (by omega) (by omega) (by omega)
            simp only [cond_true, e2, Option.bind_some, d1]
            cases hy : y2.1
            · exact ⟨.inl l2, rfl, rfl⟩
            · exact ⟨.inr l2, rfl, rfl, d2 hy⟩
        rintro (q | q) hq
        case inr =>
          obtain ⟨rfl, hq⟩ := hq
          exact ⟨.inr q, rfl, fin q hr2 hq⟩
        dsimp only at hq ⊢
        subst hq
        have hO2 := hO.keep hr2 h1 g1 g3
        have g7' : 0 < a → ∀ k, a ≤ k → k < b → at' q (a - 1) ≤ at' q k := fun ha k m1 m2 => by
          rw [hr2.out (a - 1) (by omega) (.inl (by omega))]
          exact hr2.all (fun x => at' l (a - 1) ≤ x) (g7 ha) k m1 m2
        refine bind_then (fun c : Bool => c = true → 0 < a ∧ at' q p ≤ at' q (a - 1)) ?_ ?_
        · by_cases ha : 0 < a
          · have r1 : idx q (a - 1) = some (at' q (a - 1)) := idx_at (by omega) (by omega)
            have r2 : idx q p = some (at' q p) := idx_at (by omega) (by omega)
            rw [w64 (show -9223372036854775808 ≤ a - 1 by omega) (by omega)]
            simp only [ha, decide_true, cond_true, r1, r2, less_eq, Option.bind_some]
            exact ⟨_, rfl, fun h => ⟨by trivial, by simpa using h⟩⟩
          · simp only [ha, decide_false, cond_false]
            exact ⟨_, rfl, fun h => by cases h⟩
        intro c hc
        cases c
        · -- the pivot parts
          simp only [cond_false]
          obtain ⟨⟨mid, par', l3⟩, e3, P⟩ := partition_spec q a b p (by omega) (by omega) (by omega) p1 p2
          rw [e3, Option.bind_some]
          obtain ⟨hr3, m1, m2, m3, m4⟩ := P
          dsimp only at hr3 m1 m2 m3 m4 ⊢
          have hl3 := hr3.len
          have hO3 := hO2.keep hr3 h1 g1 g3
          have g7'' : 0 < a → ∀ k, a ≤ k → k < b → at' l3 (a - 1) ≤ at' l3 k := fun ha k n1 n2 => by
            rw [hr3.out (a - 1) (by omega) (.inl (by omega))]
            exact hr3.all (fun x => at' q (a - 1) ≤ x) (g7' ha) k n1 n2
          have hR3 : Rg a0 b0 l0 l3 := hR.trans ((hr2.trans hr3).widen g1 g3 h1)
          rw [w64 (show -9223372036854775808 ≤ mid - a by omega) (by omega), w64 (show -9223372036854775808 ≤ b - mid by omega) (by omega), w64 (show -9223372036854775808 ≤ mid + 1 by omega) (by omega)]
          by_cases hside : mid - a < b - mid
          · simp only [hside, decide_true, cond_true]
            obtain ⟨l4, e4, r4, s4⟩ := ih l3 a mid lm1 (by omega) m1 (by omega) (by omega) (by omega) (by omega) k2 k3 (fun ha k n1 n2 => g7'' ha k n1 (by omega)) (by omega)
            rw [e4, Option.bind_some]
            have hl4 := r4.len
            have em : ∀ k, mid ≤ k → at' l4 k = at' l3 k := fun k hk => r4.out k (by omega) (.inr hk)
            have lf : ∀ k, a ≤ k → k < mid → at' l4 k ≤ at' l4 mid := fun k n1 n2 => by
              rw [em mid (Int.le_refl _)]; exact r4.all (fun x => x ≤ at' l3 mid) m3 k n1 n2
            refine ⟨.inl _, rfl, ⟨hR3.trans (r4.widen g1 (by omega) h1), ?_, by dsimp only; omega, by dsimp only; omega, g3, by dsimp only; omega, k2, k3, ?_⟩, by dsimp only; omega⟩
            · have hO4 := hO3.keep (r4.widen (Int.le_refl a) (by omega) (by omega)) h1 g1 g3
              intro i j n1 n2 n3 n4
              dsimp only at n4 ⊢
              by_cases hin : a ≤ i ∧ j < b
              · by_cases hj : j < mid
                · exact s4 i j hin.1 n2 hj
                · have hi : i ≤ mid := by omega
                  have e1 : at' l4 i ≤ at' l4 mid := by
                    by_cases e : i = mid
                    · rw [e]; exact Int.le_refl _
                    · exact lf i hin.1 (by omega)
                  have e2 : at' l4 mid ≤ at' l4 j := by
                    by_cases e : j = mid
                    · rw [e]; exact Int.le_refl _
                    · rw [em mid (Int.le_refl _), em j (by omega)]; exact m4 j (by omega) hin.2
                  omega
              · exact hO4 i j n1 n2 n3 hin
            · intro _ k n1 n2
              dsimp only at n1 n2 ⊢
              rw [show mid + 1 - 1 = mid by omega, em mid (Int.le_refl _), em k (by omega)]
              exact m4 k (by omega) n2
          · simp only [hside, decide_false, cond_false]
            obtain ⟨l4, e4, r4, s4⟩ := ih l3 (mid + 1) b lm1 (by omega) (by omega) (by omega) (by omega) (by omega) (by omega) k2 k3 (fun _ k n1 n2 => by rw [show mid + 1 - 1 = mid by omega]; exact m4 k (by omega) n2) (by omega)
            rw [e4, Option.bind_some]
            have hl4 := r4.len
            have em : ∀ k, 0 ≤ k → k ≤ mid → at' l4 k = at' l3 k := fun k h0 hk => r4.out k h0 (.inl (by omega))
            have rt : ∀ k, mid < k → k < b → at' l4 mid ≤ at' l4 k := fun k n1 n2 => by
              rw [em mid (by omega) (Int.le_refl _)]; exact r4.all (fun x => at' l3 mid ≤ x) (fun k q1 q2 => m4 k (by omega) q2) k (by omega) n2
            refine ⟨.inl _, rfl, ⟨hR3.trans (r4.widen (by omega) g3 h1), ?_, g1, m1, by dsimp only; omega, by dsimp only; omega, k2, k3, ?_⟩, by dsimp only; omega⟩
            · have hO4 := hO3.keep (r4.widen (by omega) (Int.le_refl b) (by omega)) h1 g1 g3
              intro i j n1 n2 n3 n4
              dsimp only at n4 ⊢
              by_cases hin : a ≤ i ∧ j < b
              · by_cases hi : mid < i
                · exact s4 i j (by omega) n2 hin.2
                · have hj : mid ≤ j := by omega
                  have e1 : at' l4 i ≤ at' l4 mid := by
                    by_cases e : i = mid
                    · rw [e]; exact Int.le_refl _
                    · rw [em i (by omega) (by omega), em mid (by omega) (Int.le_refl _)]; exact m3 i hin.1 (by omega)
                  have e2 : at' l4 mid ≤ at' l4 j := by
                    by_cases e : j = mid
                    · rw [e]; exact Int.le_refl _
                    · exact rt j (by omega) hin.2
                  omega
              · exact hO4 i j n1 n2 n3 hin
            · intro ha k n1 n2
              dsimp only at ha n1 n2 ⊢
              rw [em (a - 1) (by omega) (by omega), em k (by omega) (by omega)]
              exact g7'' ha k n1 (by omega)
        · -- many are equal to the pivot
          simp only [cond_true]
          obtain ⟨hc1, hc2⟩ := hc rfl
          obtain ⟨⟨mid, l3⟩, e3, hr3, m1, m2, m3, m4⟩ := partitionEqual_spec q a b p (by omega) (by omega) (by omega) p1 p2
          rw [e3, Option.bind_some]
          dsimp only at hr3 m1 m2 m3 m4 ⊢
          have hl3 := hr3.len
          have hO3 := hO2.keep hr3 h1 g1 g3
          have lw : ∀ k, a ≤ k → k < b → at' q p ≤ at' l3 k := fun k n1 n2 =>
            hr3.all (fun x => at' q p ≤ x) (fun k q1 q2 => Int.le_trans hc2 (g7' hc1 k q1 q2)) k n1 n2
          refine ⟨.inl _, rfl, ⟨hR.trans ((hr2.trans hr3).widen g1 g3 h1), ?_, by dsimp only; omega, m2, g3, by dsimp only; omega, k2, k3, ?_⟩, by dsimp only; omega⟩
          · intro i j n1 n2 n3 n4
            dsimp only at n4 ⊢
            by_cases hin : a ≤ i ∧ j < b
            · have := m3 i hin.1 (by omega)
              have := lw j (by omega) hin.2
              omega
            · exact hO3 i j n1 n2 n3 hin
          · intro _ k n1 n2
            dsimp only at n1 n2 ⊢
            have := m3 (mid - 1) (by omega) (by omega)
            have := m4 k n1 n2
            omega
    · exact ⟨Rg.refl _ _ _, fun i j n1 n2 n3 n4 => by dsimp only at n4; omega, Int.le_refl _, h2, Int.le_refl _, h6, h7, h8, h9⟩
    · rintro r hr
      exact ⟨r, rfl, hr⟩
end Go.Sx

namespace Go.Sx
/-- slices.Sorted(slices.Values(l)), of a list that is not long -/
theorem sorted_spec (l : List Int) (hl : l.length ≤ 16) : ∃ y, D.slices_Sorted_int64 l = some y ∧ List.Perm y l ∧ Srt y 0 y.length := by
  unfold D.slices_Sorted_int64 D.slices_Collect_int64 D.slices_AppendSeq_int64_int64 D.slices_Sort_int64_int64 D.slices_pdqsortOrdered_int64 D.math_bits_Len
  rw [if_pos (show l.length ≤ 1000000 by omega)]
  simp only [Option.bind_some]
  rw [wu64 (by omega) (by omega), if_pos (by omega)]
  simp only [Option.bind_some]
  have hk : ∀ k : Nat, k ≤ 16 → k ≤ 12 + Lib.bitLen k ∧ Lib.bitLen k ≤ 64 := by decide
  obtain ⟨k1, k2⟩ := hk l.length hl
  have e : ((l.length : Int)).toNat = l.length := by omega
  have hb := recFuel_big
  obtain ⟨y, hy, hr, hs⟩ := pdqsort_spec recFuel l 0 l.length (Lib.bitLen l.length : Nat) (by omega) (by omega) (by omega) (by omega) (by omega) (by omega) (by omega) (by omega) (fun h => absurd h (by omega)) (by omega)
  rw [e, hy]
  refine ⟨y, rfl, hr.perm, ?_⟩
  rw [hr.len]; exact hs
end Go.Sx
