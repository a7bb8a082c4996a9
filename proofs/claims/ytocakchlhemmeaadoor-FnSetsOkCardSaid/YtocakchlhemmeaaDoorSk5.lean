/- Parts of the proof: CFW, Qa, Qb, Pa, S1D, Pb, Pc, Pd, Pe, Pf, Pg, T1D, Qc, Qd, Qe, V1D, Ra, Rb, Rc. -/
import Derived.Test.YtocakchlhemmeaaDoorSk4
import Derived.Test.YtocakchlhemmeaaDoorProg
import Derived.KernelRfl
import Derived.Lib.TrailingZeros
set_option linter.unusedVariables false
set_option linter.unusedSimpArgs false
set_option linter.unusedSectionVars false
set_option maxRecDepth 100000
namespace Go.Proofs.YtocakchlhemmeaaDoor
open Go Go.Sx


theorem Wk.impl_OrderOk {W w : World} {G : GH} {H : List Itm} {v0_0 : Value} {v1 : Value} {x0_0 : (List (List Int))} {x1 : (List Int)} (m : Mem W G w (H)) (h0_0 : RSl (RSl (RI .i64)) G v0_0 x0_0) (h1 : RSl (RI .i64) G v1 x1) {y : Bool} (hd : D.impl_OrderOk x0_0 x1 = some y) :
  Calls Tryd.prog 17 #[(.agg #[v0_0]), v1] w (Res W G H (fun _ Ho v => Ho = [] ∧ v = (.bool y))) := by
 refine calls_b (args := [(.agg #[v0_0]), v1]) (N := 25) [.tmp 4] Tryd.func17 rfl rfl (Nat.le_of_ble_eq_true rfl) rfl fun a f => ?_
 unfold D.impl_OrderOk at hd
 refine k_seq (k_region ?_)
 refine l_box (cs := [v0_0]) m f rfl rfl rfl fun b_2 w a m f => ?_
 refine l_as f rfl rfl fun a f => ?_
 refine l_nil (k_seq (k_seq (k_region ?_)))
 refine l_boxAgg 0 0 (ds := [v0_0]) m Ag27 f rfl rfl rfl rfl rfl fun a f => ?_
 obtain ⟨y_3, hy_4, hd⟩ := bind_some hd
 refine l_res f rfl rfl Tryd.call40 (Wk.impl_GraphOk m h0_0 hy_4) fun v_8 G_5 Ho_9 w hl_6 m hQ_7 a f => ?_
 obtain ⟨rfl, rfl⟩ := hQ_7
 have h0_0 := RSl.mono (RSl.mono (RI.mono _)) _ _ _ _ hl_6 h0_0
 have h1 := RSl.mono (RI.mono _) _ _ _ _ hl_6 h1
 refine l_op f rfl rfl rfl (r_not (f.eval rfl)) fun a f => ?_
 refine l_mv f rfl rfl fun a f => ?_
 refine l_cut 7 (fun a w => ∃ G_11, GLe G_5 G_11 ∧ Mem W G_11 w (Itm.box b_2 27 [v0_0] :: H) ∧ Fr a 25 [(0, (.agg #[v0_0])), (1, v1), (2, (.pointer (some ⟨b_2, 0, none⟩))), (6, (.agg #[v0_0])), (7, (.bool y_3)), (8, (.bool (!y_3))), (9, (.bool (!y_3))), (16, (.bool ((!y_3) || ((x1.length : Int) != (x0_0.length : Int)))))]) ?_ ?_
 ·rcases Bool.eq_false_or_eq_true (!y_3) with hc_10 | hc_10
  ·refine l_not' f rfl rfl rfl hc_10 fun a f => ?_
   refine l_not' f rfl rfl rfl hc_10 fun a f => ?_
   refine l_not' f rfl rfl rfl hc_10 fun a f => ?_
   refine l_not' f rfl rfl rfl hc_10 fun a f => ?_
   refine l_not' f rfl rfl rfl hc_10 fun a f => ?_
   refine l_not' f rfl rfl rfl hc_10 fun a f => ?_
   refine l_op f rfl rfl rfl (r_pickT (f.eval rfl) hc_10 (f.eval rfl)) fun a f => ?_
   exact ⟨_, (GLe.refl _), m, f.weak ⟨rfl, rfl, rfl, rfl, rfl, rfl, rfl, by rw [hc_10]; rfl, trivial⟩⟩
  ·refine l_run f rfl rfl hc_10 ?_
   refine l_mv f rfl rfl fun a f => ?_
   refine l_run f rfl rfl hc_10 ?_
   refine l_len Tryd.underlying36 f rfl rfl h1 fun a f => ?_
   refine l_run f rfl rfl hc_10 ?_
   refine l_fieldAddr Tryd.underlying27 rfl Tryd.sizeOf22 (by decide) f rfl rfl fun a f => ?_
   refine l_run f rfl rfl hc_10 ?_
   refine l_boxCell 0 0 m Pl22 f rfl rfl rfl rfl fun a f => ?_
   refine l_run f rfl rfl hc_10 ?_
   refine l_len Tryd.underlying22 f rfl rfl h0_0 fun a f => ?_
   refine l_run f rfl rfl hc_10 ?_
   refine l_in f rfl rfl rfl b_neq fun a f => ?_
   refine l_op f rfl rfl rfl (r_pickF (f.eval rfl) hc_10 (f.eval rfl)) fun a f => ?_
   exact ⟨_, (GLe.refl _), m, f.weak ⟨rfl, rfl, rfl, rfl, rfl, rfl, rfl, by rw [hc_10]; rfl, trivial⟩⟩
 ·rintro a w ⟨G_11, hl_12, m, f⟩
  have h0_0 := RSl.mono (RSl.mono (RI.mono _)) _ _ _ _ hl_12 h0_0
  have h1 := RSl.mono (RI.mono _) _ _ _ _ hl_12 h1
  refine l_nil ?_
  rcases cond_some hd with ⟨hc_13, hd⟩ | ⟨hc_13, hd⟩
  ·refine k_true f rfl hc_13 ?_
   refine k_seq (k_region ?_)
   refine l_as f rfl rfl fun a f => ?_
   refine l_nil ?_
   refine k_ret ?_
   have m : Mem W G_11 w H := Mem.drop (H' := [Itm.box b_2 27 [v0_0]]) m
   obtain rfl := sj hd
   exact ⟨[(.bool false)], ⟨f.get _ _ rfl, trivial⟩, f.defers, _, [], (GLe.trans hl_6 hl_12), m, rfl, rfl⟩
  ·refine k_false f rfl hc_13 ?_
   refine k_skip ?_
   refine k_seq (k_region ?_)
   refine l_mv f rfl rfl fun a f => ?_
   refine l_res f rfl rfl Tryd.call54 (Wk.slices_Values_int64_int64 m h1) fun v_16 G_17 Ho_20 w hl_18 m hQ_19 a f => ?_
   obtain ⟨b_14, rfl, rfl⟩ := hQ_19
   have h0_0 := RSl.mono (RSl.mono (RI.mono _)) _ _ _ _ hl_18 h0_0
   have h1 := RSl.mono (RI.mono _) _ _ _ _ hl_18 h1
   obtain ⟨y_21, hy_22, hd⟩ := bind_some hd
   refine l_res f rfl rfl Tryd.call53 (Wk.slices_Sorted_int64 m h1 hy_22) fun v_26 G_23 Ho_27 w hl_24 m hQ_25 a f => ?_
   obtain ⟨v_31, it_28, rfl, rfl, o_29⟩ := hQ_25
   have h0_0 := RSl.mono (RSl.mono (RI.mono _)) _ _ _ _ hl_24 h0_0
   have h1 := RSl.mono (RI.mono _) _ _ _ _ hl_24 h1
   refine l_as f rfl rfl fun a f => ?_
   refine l_nil (k_seq (k_region ?_))
   refine l_mv f rfl rfl fun a f => ?_
   refine l_fieldAddr Tryd.underlying27 rfl Tryd.sizeOf22 (by decide) f rfl rfl fun a f => ?_
   refine l_boxCell 1 0 m Pl22 f rfl rfl rfl rfl fun a f => ?_
   refine l_len Tryd.underlying22 f rfl rfl h0_0 fun a f => ?_
   obtain ⟨y_32, hy_33, hd⟩ := bind_some hd
   refine l_res f rfl rfl Tryd.call55 (Ow.lendCall (RI.mono _) 0 o_29 m rfl (fun G_34 hl_35 m h_36 => Wk.impl_increasing m h_36 hy_33) (fun _ _ _ _ h => h)) fun v_40 G_37 Ho_41 w hl_38 m hQ_39 a f => ?_
   obtain ⟨rfl, rfl⟩ := hQ_39
   have h0_0 := RSl.mono (RSl.mono (RI.mono _)) _ _ _ _ hl_38 h0_0
   have h1 := RSl.mono (RI.mono _) _ _ _ _ hl_38 h1
   have o_29 := Ow.mono (RI.mono _) hl_38 o_29
   refine l_as f rfl rfl fun a f => ?_
   refine l_nil ?_
   refine k_ret ?_
   have m : Mem W G_37 w H := Mem.drop (H' := [it_28, Itm.box b_2 27 [v0_0]]) m
   obtain rfl := sj hd
   exact ⟨[(.bool y_32)], ⟨f.get _ _ rfl, trivial⟩, f.defers, _, [], (GLe.trans hl_6 (GLe.trans hl_12 (GLe.trans hl_18 (GLe.trans hl_24 hl_38)))), m, rfl, rfl⟩

theorem Wk.spec_l1There {W w : World} {G : GH} {H : List Itm} {v0_0 : Value} {x0_0 : (List (List Int))} {x1 : Int} (m : Mem W G w (H)) (h0_0 : RSl (RSl (RI .i64)) G v0_0 x0_0) {y : Bool} (hd : D.spec_l1There x0_0 x1 = some y) :
  Calls Tryd.prog 98 #[(.agg #[v0_0]), (.int .i64 x1)] w (Res W G H (fun _ Ho v => Ho = [] ∧ v = (.bool y))) := by
 refine calls_b (args := [(.agg #[v0_0]), (.int .i64 x1)]) (N := 10) [.tmp 4] Tryd.func98 rfl rfl (Nat.le_of_ble_eq_true rfl) rfl fun a f => ?_
 unfold D.spec_l1There at hd
 refine k_seq (k_region ?_)
 refine l_box (cs := [v0_0]) m f rfl rfl rfl fun b_2 w a m f => ?_
 refine l_as f rfl rfl fun a f => ?_
 refine l_nil (k_seq (k_region ?_))
 refine l_mv f rfl rfl fun a f => ?_
 refine l_boxAgg 0 0 (ds := [v0_0]) m Ag27 f rfl rfl rfl rfl rfl fun a f => ?_
 obtain ⟨y_3, hy_4, hd⟩ := bind_some hd
 refine l_res f rfl rfl Tryd.call62 (Wk.spec_l1Size m h0_0 hy_4) fun v_8 G_5 Ho_9 w hl_6 m hQ_7 a f => ?_
 obtain ⟨rfl, rfl⟩ := hQ_7
 have h0_0 := RSl.mono (RSl.mono (RI.mono _)) _ _ _ _ hl_6 h0_0
 refine l_in f rfl rfl rfl b_sub fun a f => ?_
 obtain ⟨y_10, hy_11, hd⟩ := bind_some hd
 refine l_res f rfl rfl Tryd.call63 (Wk.spec_l1In m  hy_11) fun v_15 G_12 Ho_16 w hl_13 m hQ_14 a f => ?_
 obtain ⟨rfl, rfl⟩ := hQ_14
 have h0_0 := RSl.mono (RSl.mono (RI.mono _)) _ _ _ _ hl_13 h0_0
 refine l_as f rfl rfl fun a f => ?_
 refine l_nil ?_
 refine k_ret ?_
 have m : Mem W G_12 w H := Mem.drop (H' := [Itm.box b_2 27 [v0_0]]) m
 obtain rfl := sj hd
 exact ⟨[(.bool y_10)], ⟨f.get _ _ rfl, trivial⟩, f.defers, _, [], (GLe.trans hl_6 hl_13), m, rfl, rfl⟩

theorem Wk.spec_l1Order {W w : World} {G : GH} {H : List Itm} {v0_0 : Value} {v1 : Value} {x0_0 : (List (List Int))} {x1 : (List Int)} (m : Mem W G w (H)) (h0_0 : RSl (RSl (RI .i64)) G v0_0 x0_0) (h1 : RSl (RI .i64) G v1 x1) {y : Bool} (hd : D.spec_l1Order x0_0 x1 = some y) :
  Calls Tryd.prog 56 #[(.agg #[v0_0]), v1] w (Res W G H (fun _ Ho v => Ho = [] ∧ v = (.bool y))) := by
 refine calls_b (args := [(.agg #[v0_0]), v1]) (N := 34) [.tmp 4] Tryd.func56 rfl rfl (Nat.le_of_ble_eq_true rfl) rfl fun a f => ?_
 unfold D.spec_l1Order at hd
 refine k_seq (k_region ?_)
 refine l_box (cs := [v0_0]) m f rfl rfl rfl fun b_2 w a m f => ?_
 refine l_as f rfl rfl fun a f => ?_
 refine l_nil (k_seq (k_seq (k_region ?_)))
 refine l_mv f rfl rfl fun a f => ?_
 refine l_len Tryd.underlying36 f rfl rfl h1 fun a f => ?_
 refine l_boxAgg 0 0 (ds := [v0_0]) m Ag27 f rfl rfl rfl rfl rfl fun a f => ?_
 obtain ⟨y_3, hy_4, hd⟩ := bind_some hd
 refine l_res f rfl rfl Tryd.call62 (Wk.spec_l1Size m h0_0 hy_4) fun v_8 G_5 Ho_9 w hl_6 m hQ_7 a f => ?_
 obtain ⟨rfl, rfl⟩ := hQ_7
 have h0_0 := RSl.mono (RSl.mono (RI.mono _)) _ _ _ _ hl_6 h0_0
 have h1 := RSl.mono (RI.mono _) _ _ _ _ hl_6 h1
 refine l_in f rfl rfl rfl b_neq fun a f => ?_
 refine l_nil ?_
 rcases cond_some hd with ⟨hc_10, hd⟩ | ⟨hc_10, hd⟩
 ·refine k_true f rfl hc_10 ?_
  refine k_seq (k_region ?_)
  refine l_as f rfl rfl fun a f => ?_
  refine l_nil ?_
  refine k_ret ?_
  have m : Mem W G_5 w H := Mem.drop (H' := [Itm.box b_2 27 [v0_0]]) m
  obtain rfl := sj hd
  exact ⟨[(.bool false)], ⟨f.get _ _ rfl, trivial⟩, f.defers, _, [], hl_6, m, rfl, rfl⟩
 ·refine k_false f rfl hc_10 ?_
  refine k_skip ?_
  refine k_seq (k_seq (k_region ?_))
  refine l_as f rfl rfl fun a f => ?_
  refine l_nil ?_
  obtain ⟨q_99, hl_100, hd⟩ := bind_some hd
  refine k_cut (fun a w => ∃ q_99' : Unit, q_99 = .inl q_99' ∧ ∃ (G_151 : GH), GLe G_5 G_151 ∧ Fr a 34 [] ∧ Mem W G_151 w (H)) ?_ ?_
  ·refine k_block ?_
   refine k_loop (fun s_103 a w => ∃ x_106 : Int, x_106 = s_103 ∧ ∃ (G_105 : GH), GLe G_5 G_105 ∧ Fr a 34 [(1, v1), (2, (.pointer (some ⟨b_2, 0, none⟩))), (5, (.int .i64 x_106))] ∧ Mem W G_105 w (Itm.box b_2 27 [v0_0] :: H)) hl_100 ⟨_, rfl, _, (GLe.refl _), f.weak ⟨rfl, rfl, rfl, trivial⟩, m⟩ ?_
   clear hl_100 f m
   rintro s_103 o_104 hs_101 hq_102 a w ⟨x_106, rfl, G_105, hl_107, f, m⟩
   have h1 := RSl.mono (RI.mono _) _ _ _ _ hl_107 h1
   have h0_0 := RSl.mono (RSl.mono (RI.mono _)) _ _ _ _ hl_107 h0_0
   refine k_seq (k_seq (k_region ?_))
   refine l_mv f rfl rfl fun a f => ?_
   refine l_mv f rfl rfl fun a f => ?_
   refine l_len Tryd.underlying36 f rfl rfl h1 fun a f => ?_
   refine l_in f rfl rfl rfl b_lss fun a f => ?_
   refine l_nil ?_
   rcases cond_some hs_101 with ⟨hc_153, hs_101⟩ | ⟨hc_153, hs_101⟩
   ·refine k_true f rfl hc_153 ?_
    refine k_skip ?_
    refine k_seq (k_block (k_seq ?_))
    refine k_draw 17 Follows (by kernel_rfl) m ?_
    refine q_boxAgg (i := 0) (ds := [v0_0]) 17 0 Ag27 rfl rfl rfl rfl (by kernel_rfl) rfl f rfl rfl rfl fun a f => ?_
    refine q_mv 1 17 rfl (by kernel_rfl) f rfl rfl rfl fun a f => ?_
    refine q_mv 2 17 rfl (by kernel_rfl) f rfl rfl rfl fun a f => ?_
    obtain ⟨e_154, he_155, hs_101⟩ := bind_some hs_101
    refine q_at (i := 3) 17 T36 h1 he_155 rfl (by kernel_rfl) rfl f rfl rfl rfl rfl fun p_156 c_157 a g_158 h_159 f => ?_
    subst h_159
    refine q_loadAt (i := 4) 17 Pl2 g_158 rfl (by kernel_rfl) rfl f rfl rfl rfl fun a f => ?_
    obtain ⟨y_160, hy_161, hs_101⟩ := bind_some hs_101
    refine q_call (i := 5) 17 rfl (by kernel_rfl) rfl f rfl rfl rfl Tryd.call98 (fun _ _ w hG_162 m => Wk.spec_l1There m (RSl.mono (RSl.mono (RI.mono _)) _ _ _ _ hG_162 h0_0) hy_161) fun a f => ?_
    refine q_p 6 17 rfl (by kernel_rfl) f rfl rfl rfl (fun _ => r_not (f.eval rfl)) fun a f => ?_
    refine q_mv 7 17 rfl (by kernel_rfl) f rfl rfl rfl fun a f => ?_
    obtain ⟨b_178, hj_179, hs_101⟩ := bind_some hs_101
    refine q_cut (fuel' := 0) (listed' := #[true, true, true, true, true, true, true, true, true, true, true, true, true, true, true, true, true]) (fun a => Fr a 34 [(1, v1), (2, (.pointer (some ⟨b_2, 0, none⟩))), (5, (.int .i64 x_106)), (14, (.bool (decide (x_106 < (x1.length : Int))))), (17, (.agg #[v0_0])), (18, v1), (19, (.int .i64 x_106)), (20, p_156), (21, (.int .i64 e_154)), (22, (.bool y_160)), (23, (.bool (!y_160))), (24, (.bool (!y_160))), (33, (.bool b_178))]) ?_ ?_
    ·intro a f
     refine q_end fun G_193 w hl_194 m => ?_
     have h1 := RSl.mono (RI.mono _) _ _ _ _ hl_194 h1
     have h0_0 := RSl.mono (RSl.mono (RI.mono _)) _ _ _ _ hl_194 h0_0
     have g_158 := At.mono hl_194 g_158
     refine l_nil ?_
     rcases cond_some hs_101 with ⟨hc_195, hs_101⟩ | ⟨hc_195, hs_101⟩
     ·refine k_true f rfl hc_195 ?_
      refine k_seq (k_region ?_)
      refine l_as f rfl rfl fun a f => ?_
      refine l_nil ?_
      refine k_ret ?_
      have m : Mem W G_193 w H := Mem.drop (H' := [Itm.box b_2 27 [v0_0]]) m
      obtain rfl := sj hs_101
      obtain rfl := hq_102 _ rfl
      obtain rfl := sj hd
      exact ⟨[(.bool false)], ⟨f.get _ _ rfl, trivial⟩, f.defers, _, [], (GLe.trans hl_6 (GLe.trans hl_107 hl_194)), m, rfl, rfl⟩
     ·refine k_false f rfl hc_195 ?_
      refine k_skip ?_
      refine k_region ?_
      refine l_mv f rfl rfl fun a f => ?_
      refine l_in f rfl rfl rfl b_add fun a f => ?_
      refine l_as f rfl rfl fun a f => ?_
      refine l_nil ?_
      obtain rfl := sj hs_101
      exact ⟨_, rfl, _, rfl, _, (GLe.trans hl_107 hl_194), f.weak ⟨rfl, rfl, rfl, trivial⟩, m⟩
    ·intro K_177
     rcases cond_some hj_179 with ⟨hc_163, hj_179⟩ | ⟨hc_163, hj_179⟩
     ·refine q_ng 8 17 rfl (by kernel_rfl) f rfl rfl hc_163 rfl fun a f => ?_
      refine q_ng 9 17 rfl (by kernel_rfl) f rfl rfl hc_163 rfl fun a f => ?_
      refine q_ng 10 17 rfl (by kernel_rfl) f rfl rfl hc_163 rfl fun a f => ?_
      refine q_ng 11 17 rfl (by kernel_rfl) f rfl rfl hc_163 rfl fun a f => ?_
      refine q_ng 12 17 rfl (by kernel_rfl) f rfl rfl hc_163 rfl fun a f => ?_
      refine q_ng 13 17 rfl (by kernel_rfl) f rfl rfl hc_163 rfl fun a f => ?_
      refine q_ng 14 17 rfl (by kernel_rfl) f rfl rfl hc_163 rfl fun a f => ?_
      refine q_ng 15 17 rfl (by kernel_rfl) f rfl rfl hc_163 rfl fun a f => ?_
      refine q_p 16 17 rfl (by kernel_rfl) f rfl rfl rfl (fun _ => r_pickT (f.eval rfl) hc_163 (f.eval rfl)) fun a f => ?_
      obtain rfl := sj hj_179
      exact K_177 _ (f.weak ⟨rfl, rfl, rfl, rfl, rfl, rfl, rfl, rfl, rfl, rfl, rfl, rfl, rfl, trivial⟩)
     ·refine q_mv 8 17 rfl (by kernel_rfl) f (wanted_of f rfl rfl rfl hc_163) rfl rfl fun a f => ?_
      refine q_mv 9 17 rfl (by kernel_rfl) f (wanted_of f rfl rfl rfl hc_163) rfl rfl fun a f => ?_
      obtain ⟨l_180, hx_181, hj_179⟩ := bind_some hj_179
      refine q_slice (i := 10) 17 T36 h1 hx_181 rfl (by kernel_rfl) rfl f (wanted_of f rfl rfl rfl hc_163) rfl rfl (.inl ⟨rfl, rfl⟩) (.inr ⟨_, _, rfl, rfl⟩) fun v_182 a h_183 f => ?_
      refine q_mv 11 17 rfl (by kernel_rfl) f (wanted_of f rfl rfl rfl hc_163) rfl rfl fun a f => ?_
      refine q_mv 12 17 rfl (by kernel_rfl) f (wanted_of f rfl rfl rfl hc_163) rfl rfl fun a f => ?_
      obtain ⟨e_184, he_185, hj_179⟩ := bind_some hj_179
      refine q_at (i := 13) 17 T36 h1 he_185 rfl (by kernel_rfl) rfl f (wanted_of f rfl rfl rfl hc_163) rfl rfl rfl fun p_186 c_187 a g_188 h_189 f => ?_
      subst h_189
      refine q_loadAt (i := 14) 17 Pl2 g_188 rfl (by kernel_rfl) rfl f (wanted_of f rfl rfl rfl hc_163) rfl rfl fun a f => ?_
      obtain ⟨y_190, hy_191, hj_179⟩ := bind_some hj_179
      refine q_call (i := 15) 17 rfl (by kernel_rfl) rfl f (wanted_of f rfl rfl rfl hc_163) rfl rfl Tryd.call64 (fun _ _ w hG_192 m => Wk.spec_l1Has m (RSl.mono (RI.mono _) _ _ _ _ hG_192 h_183) hy_191) fun a f => ?_
      refine q_p 16 17 rfl (by kernel_rfl) f rfl rfl rfl (fun _ => r_pickF (f.eval rfl) hc_163 (f.eval rfl)) fun a f => ?_
      obtain rfl := sj hj_179
      exact K_177 _ (f.weak ⟨rfl, rfl, rfl, rfl, rfl, rfl, rfl, rfl, rfl, rfl, rfl, rfl, rfl, trivial⟩)
   ·refine k_false f rfl hc_153 ?_
    refine k_exit rfl ?_
    have m : Mem W G_105 w H := Mem.drop (H' := [Itm.box b_2 27 [v0_0]]) m
    obtain rfl := sj hs_101
    obtain rfl := hq_102 _ rfl
    exact ⟨_, rfl, _, hl_107, f.weak trivial, m⟩
  ·rintro a w ⟨_, rfl, G_151, hl_152, f, m⟩
   refine k_seq (k_region ?_)
   refine l_as f rfl rfl fun a f => ?_
   refine l_nil ?_
   refine k_ret ?_
   obtain rfl := sj hd
   exact ⟨[(.bool true)], ⟨f.get _ _ rfl, trivial⟩, f.defers, _, [], (GLe.trans hl_6 hl_152), m, rfl, rfl⟩

theorem Wk.spec_OrderOk {W w : World} {G : GH} {H : List Itm} {v0_0 : Value} {v1 : Value} {x0_0 : (List (List Int))} {x1 : (List Int)} (m : Mem W G w (H)) (h0_0 : RSl (RSl (RI .i64)) G v0_0 x0_0) (h1 : RSl (RI .i64) G v1 x1) {y : Bool} (hd : D.spec_OrderOk x0_0 x1 = some y) :
  Calls Tryd.prog 18 #[(.agg #[v0_0]), v1] w (Res W G H (fun _ Ho v => Ho = [] ∧ v = (.bool y))) := by
 refine calls_b (args := [(.agg #[v0_0]), v1]) (N := 12) [.tmp 4] Tryd.func18 rfl rfl (Nat.le_of_ble_eq_true rfl) rfl fun a f => ?_
 unfold D.spec_OrderOk at hd
 refine k_seq (k_region ?_)
 refine l_box (cs := [v0_0]) m f rfl rfl rfl fun b_2 w a m f => ?_
 refine l_as f rfl rfl fun a f => ?_
 refine l_nil (k_seq (k_region ?_))
 refine l_boxAgg 0 0 (ds := [v0_0]) m Ag27 f rfl rfl rfl rfl rfl fun a f => ?_
 obtain ⟨y_3, hy_4, hd⟩ := bind_some hd
 refine l_res f rfl rfl Tryd.call23 (Wk.spec_GraphOk m h0_0 hy_4) fun v_8 G_5 Ho_9 w hl_6 m hQ_7 a f => ?_
 obtain ⟨rfl, rfl⟩ := hQ_7
 have h0_0 := RSl.mono (RSl.mono (RI.mono _)) _ _ _ _ hl_6 h0_0
 have h1 := RSl.mono (RI.mono _) _ _ _ _ hl_6 h1
 refine l_mv f rfl rfl fun a f => ?_
 obtain ⟨b_27, hj_28, hd⟩ := bind_some hd
 refine l_cut 4 (fun a w => ∃ G_25, GLe G_5 G_25 ∧ Mem W G_25 w (Itm.box b_2 27 [v0_0] :: H) ∧ Fr a 12 [(0, (.agg #[v0_0])), (1, v1), (2, (.pointer (some ⟨b_2, 0, none⟩))), (5, (.agg #[v0_0])), (6, (.bool y_3)), (7, (.bool y_3)), (11, (.bool b_27))]) ?_ ?_
 ·rcases cond_some hj_28 with ⟨hc_10, hj_28⟩ | ⟨hc_10, hj_28⟩
  ·refine l_run f rfl rfl hc_10 ?_
   refine l_boxAgg 0 0 (ds := [v0_0]) m Ag27 f rfl rfl rfl rfl rfl fun a f => ?_
   refine l_run f rfl rfl hc_10 ?_
   refine l_mv f rfl rfl fun a f => ?_
   refine l_run f rfl rfl hc_10 ?_
   obtain ⟨y_29, hy_30, hj_28⟩ := bind_some hj_28
   refine l_res f rfl rfl Tryd.call56 (Wk.spec_l1Order m h0_0 h1 hy_30) fun v_34 G_31 Ho_35 w hl_32 m hQ_33 a f => ?_
   obtain ⟨rfl, rfl⟩ := hQ_33
   have h0_0 := RSl.mono (RSl.mono (RI.mono _)) _ _ _ _ hl_32 h0_0
   have h1 := RSl.mono (RI.mono _) _ _ _ _ hl_32 h1
   refine l_op f rfl rfl rfl (r_pickT (f.eval rfl) hc_10 (f.eval rfl)) fun a f => ?_
   obtain rfl := sj hj_28
   exact ⟨_, hl_32, m, f.weak ⟨rfl, rfl, rfl, rfl, rfl, rfl, rfl, trivial⟩⟩
  ·refine l_not' f rfl rfl rfl hc_10 fun a f => ?_
   refine l_not' f rfl rfl rfl hc_10 fun a f => ?_
   refine l_not' f rfl rfl rfl hc_10 fun a f => ?_
   refine l_op f rfl rfl rfl (r_pickF (f.eval rfl) hc_10 (f.eval rfl)) fun a f => ?_
   obtain rfl := sj hj_28
   exact ⟨_, (GLe.refl _), m, f.weak ⟨rfl, rfl, rfl, rfl, rfl, rfl, rfl, trivial⟩⟩
 ·rintro a w ⟨G_25, hl_26, m, f⟩
  have h0_0 := RSl.mono (RSl.mono (RI.mono _)) _ _ _ _ hl_26 h0_0
  have h1 := RSl.mono (RI.mono _) _ _ _ _ hl_26 h1
  refine l_as f rfl rfl fun a f => ?_
  refine l_nil ?_
  refine k_ret ?_
  have m : Mem W G_25 w H := Mem.drop (H' := [Itm.box b_2 27 [v0_0]]) m
  obtain rfl := sj hd
  exact ⟨[(.bool b_27)], ⟨f.get _ _ rfl, trivial⟩, f.defers, _, [], (GLe.trans hl_6 hl_26), m, rfl, rfl⟩

theorem Wk.spec_l1DrawSet {W w : World} {G : GH} {H : List Itm} {v0_0 : Value} {b0 : Nat} {v1_0 : Value} {x0_0 : (List Int)} {x0_1 : Int} {x0_2 : Int} {x1_0 : (List (List Int))} (m : Mem W G w (Itm.box b0 94 [v0_0, (.int .i64 x0_1), (.int .i64 x0_2)] :: H)) (h0_0 : RSl (RI .u8) G v0_0 x0_0) (h1_0 : RSl (RSl (RI .i64)) G v1_0 x1_0) {y : ((List Int)) × ((List Int)) × Int × Int} (hd : D.spec_l1DrawSet x0_0 x0_1 x0_2 x1_0 = some y) :
  Calls Tryd.prog 57 #[(.pointer (some ⟨b0, 0, none⟩)), (.agg #[v1_0])] w (Res W G H (fun G' Ho v => ∃ r0 : Value, ∃ i0 : Itm, ∃ r2 : Value, Ho = [i0, Itm.box b0 94 [r2, (.int .i64 y.2.2.1), (.int .i64 y.2.2.2)]] ∧ r0 = v ∧ Ow (RI .i64) 2 G' i0 r0 y.1 ∧ RSl (RI .u8) G' r2 y.2.1)) := by
 refine calls_b (args := [(.pointer (some ⟨b0, 0, none⟩)), (.agg #[v1_0])]) (N := 32) [.tmp 4] Tryd.func57 rfl rfl (Nat.le_of_ble_eq_true rfl) rfl fun a f => ?_
 unfold D.spec_l1DrawSet at hd
 refine k_seq (k_region ?_)
 refine l_box (cs := [v1_0]) m f rfl rfl rfl fun b_2 w a m f => ?_
 refine l_as f rfl rfl fun a f => ?_
 refine l_nil (k_seq (k_region ?_))
 refine l_slit (R := (RI .i64)) (xs := ([] : List Int)) (RI.one _) m T36 f rfl rfl rfl (by decide) (All2.nil _) fun it_3 v_4 w a m o_5 f => ?_
 refine l_as f rfl rfl fun a f => ?_
 refine l_nil (k_seq (k_seq (k_region ?_)))
 refine l_as f rfl rfl fun a f => ?_
 refine l_nil ?_
 obtain ⟨q_61, hl_62, hd⟩ := bind_some hd
 refine k_cut (fun a w => ∃ l_102 : List Int, ∃ l_107 : List Int, ∃ x_110 : Int, ∃ x_111 : Int, (l_102, l_107, x_110, x_111) = q_61 ∧ ∃ (G_101 : GH) (v_103 : Value) (it_104 : Itm) (v_108 : Value), GLe G G_101 ∧ Fr a 32 [(0, (.pointer (some ⟨b0, 0, none⟩))), (3, (.pointer (some ⟨b_2, 0, none⟩))), (5, v_103)] ∧ Mem W G_101 w (Itm.box b0 94 [v_108, (.int .i64 x_110), (.int .i64 x_111)] :: Itm.box b_2 27 [v1_0] :: it_104 :: H) ∧ Ow (RI .i64) 2 G_101 it_104 v_103 l_102 ∧ RSl (RI .u8) G_101 v_108 l_107) ?_ ?_
 ·refine k_block ?_
  have m := m.front 1 rfl
  have m := m.front 2 rfl
  refine k_loop (fun s_65 a w => ∃ l_68 : List Int, ∃ x_73 : Int, ∃ l_74 : List Int, ∃ x_77 : Int, ∃ x_78 : Int, (l_68, x_73, l_74, x_77, x_78) = s_65 ∧ ∃ (G_67 : GH) (v_69 : Value) (it_70 : Itm) (v_75 : Value), GLe G G_67 ∧ Fr a 32 [(0, (.pointer (some ⟨b0, 0, none⟩))), (3, (.pointer (some ⟨b_2, 0, none⟩))), (5, v_69), (6, (.int .i64 x_73))] ∧ Mem W G_67 w (Itm.box b0 94 [v_75, (.int .i64 x_77), (.int .i64 x_78)] :: Itm.box b_2 27 [v1_0] :: it_70 :: H) ∧ Ow (RI .i64) 2 G_67 it_70 v_69 l_68 ∧ RSl (RI .u8) G_67 v_75 l_74) hl_62 ⟨_, _, _, _, _, rfl, _, v_4, it_3, v0_0, (GLe.refl _), f.weak ⟨rfl, rfl, rfl, rfl, trivial⟩, m, o_5, h0_0⟩ ?_
  clear hl_62 f m
  rintro s_65 o_66 hs_63 hq_64 a w ⟨l_68, x_73, l_74, x_77, x_78, rfl, G_67, v_69, it_70, v_75, hl_79, f, m, o_71, h_76⟩
  have h1_0 := RSl.mono (RSl.mono (RI.mono _)) _ _ _ _ hl_79 h1_0
  refine k_seq (k_seq (k_region ?_))
  refine l_mv f rfl rfl fun a f => ?_
  refine l_fieldAddr Tryd.underlying27 rfl Tryd.sizeOf22 (by decide) f rfl rfl fun a f => ?_
  refine l_boxCell 1 0 m Pl22 f rfl rfl rfl rfl fun a f => ?_
  refine l_len Tryd.underlying22 f rfl rfl h1_0 fun a f => ?_
  refine l_in f rfl rfl rfl b_lss fun a f => ?_
  refine l_nil ?_
  rcases cond_some hs_63 with ⟨hc_113, hs_63⟩ | ⟨hc_113, hs_63⟩
  ·refine k_true f rfl hc_113 ?_
   refine k_skip ?_
   refine k_seq (k_block (k_seq (k_region ?_)))
   refine l_mv f rfl rfl fun a f => ?_
   obtain ⟨y_114, hy_115, hs_63⟩ := bind_some hs_63
   refine l_res f rfl rfl Tryd.call88 (Wk.spec_l1Once m h_76 hy_115) fun v_119 G_116 Ho_120 w hl_117 m hQ_118 a f => ?_
   obtain ⟨v_121, rfl, rfl, h_122⟩ := hQ_118
   have h1_0 := RSl.mono (RSl.mono (RI.mono _)) _ _ _ _ hl_117 h1_0
   have o_71 := Ow.mono (RI.mono _) hl_117 o_71
   refine l_nil ?_
   rcases cond_some hs_63 with ⟨hc_123, hs_63⟩ | ⟨hc_123, hs_63⟩
   ·refine k_true f rfl hc_123 ?_
    refine k_region ?_
    refine l_mv f rfl rfl fun a f => ?_
    refine l_mv f rfl rfl fun a f => ?_
    refine l_slit (R := (RI .i64)) (xs := ([x_73] : List Int)) (RI.one _) m T36 f rfl rfl rfl (by decide) (All2.cons rfl (All2.nil _)) fun it_124 v_125 w a m o_126 f => ?_
    obtain ⟨l_128, hx_129, hs_63⟩ := bind_some hs_63
    refine l_append (RI.one _) 3 m o_71 rfl T36 rfl (by decide) f rfl rfl rfl (Ow.src (j := 0) o_126 m rfl) hx_129 fun it_130 v_131 w a m o_132 f => ?_
    refine l_as f rfl rfl fun a f => ?_
    refine l_nil (k_region ?_)
    refine l_mv f rfl rfl fun a f => ?_
    refine l_in f rfl rfl rfl b_add fun a f => ?_
    refine l_as f rfl rfl fun a f => ?_
    refine l_nil ?_
    have m := m.front 3 rfl
    have m := m.front 3 rfl
    have m := m.front 3 rfl
    have m := m.eraseAt 3
    obtain rfl := sj hs_63
    exact ⟨_, rfl, _, _, _, _, _, rfl, _, v_131, it_130, v_121, (GLe.trans hl_79 hl_117), f.weak ⟨rfl, rfl, rfl, rfl, trivial⟩, m, o_132, h_122⟩
   ·refine k_false f rfl hc_123 ?_
    refine k_skip ?_
    refine k_region ?_
    refine l_mv f rfl rfl fun a f => ?_
    refine l_in f rfl rfl rfl b_add fun a f => ?_
    refine l_as f rfl rfl fun a f => ?_
    refine l_nil ?_
    have m := m.front 2 rfl
    have m := m.front 2 rfl
    have m := m.front 2 rfl
    obtain rfl := sj hs_63
    exact ⟨_, rfl, _, _, _, _, _, rfl, _, v_69, it_70, v_121, (GLe.trans hl_79 hl_117), f.weak ⟨rfl, rfl, rfl, rfl, trivial⟩, m, o_71, h_122⟩
  ·refine k_false f rfl hc_113 ?_
   refine k_exit rfl ?_
   have m := m.front 2 rfl
   have m := m.front 2 rfl
   have m := m.front 2 rfl
   obtain rfl := sj hs_63
   obtain rfl := hq_64 _ rfl
   exact ⟨_, _, _, _, rfl, _, v_69, it_70, v_75, hl_79, f.weak ⟨rfl, rfl, rfl, trivial⟩, m, o_71, h_76⟩
 ·rintro a w ⟨l_102, l_107, x_110, x_111, rfl, G_101, v_103, it_104, v_108, hl_112, f, m, o_105, h_109⟩
  have h1_0 := RSl.mono (RSl.mono (RI.mono _)) _ _ _ _ hl_112 h1_0
  refine k_seq (k_seq (k_region ?_))
  refine l_mv f rfl rfl fun a f => ?_
  obtain ⟨y_134, hy_135, hd⟩ := bind_some hd
  refine l_res f rfl rfl Tryd.call88 (Wk.spec_l1Once m h_109 hy_135) fun v_139 G_136 Ho_140 w hl_137 m hQ_138 a f => ?_
  obtain ⟨v_141, rfl, rfl, h_142⟩ := hQ_138
  have h1_0 := RSl.mono (RSl.mono (RI.mono _)) _ _ _ _ hl_137 h1_0
  have o_105 := Ow.mono (RI.mono _) hl_137 o_105
  refine l_nil ?_
  rcases cond_some hd with ⟨hc_143, hd⟩ | ⟨hc_143, hd⟩
  ·refine k_true f rfl hc_143 ?_
   refine k_region ?_
   refine l_mv f rfl rfl fun a f => ?_
   refine l_mv f rfl rfl fun a f => ?_
   refine l_fieldAddr Tryd.underlying27 rfl Tryd.sizeOf22 (by decide) f rfl rfl fun a f => ?_
   refine l_boxCell 1 0 m Pl22 f rfl rfl rfl rfl fun a f => ?_
   refine l_len Tryd.underlying22 f rfl rfl h1_0 fun a f => ?_
   obtain ⟨y_144, hy_145, hd⟩ := bind_some hd
   refine l_res f rfl rfl Tryd.call90 (Wk.spec_l1Num m h_142 hy_145) fun v_149 G_146 Ho_150 w hl_147 m hQ_148 a f => ?_
   obtain ⟨v_151, rfl, rfl, h_152⟩ := hQ_148
   have h1_0 := RSl.mono (RSl.mono (RI.mono _)) _ _ _ _ hl_147 h1_0
   have o_105 := Ow.mono (RI.mono _) hl_147 o_105
   refine l_slit (R := (RI .i64)) (xs := ([y_144.1] : List Int)) (RI.one _) m T36 f rfl rfl rfl (by decide) (All2.cons rfl (All2.nil _)) fun it_153 v_154 w a m o_155 f => ?_
   obtain ⟨l_157, hx_158, hd⟩ := bind_some hd
   refine l_append (RI.one _) 3 m o_105 rfl T36 rfl (by decide) f rfl rfl rfl (Ow.src (j := 0) o_155 m rfl) hx_158 fun it_159 v_160 w a m o_161 f => ?_
   refine l_as f rfl rfl fun a f => ?_
   refine l_nil (k_seq (k_region ?_))
   refine l_mv f rfl rfl fun a f => ?_
   refine l_as f rfl rfl fun a f => ?_
   refine l_nil ?_
   refine k_ret ?_
   have m := m.front 1 rfl
   have m := m.front 3 rfl
   have m := m.eraseAt 3
   have m := m.eraseAt 2
   obtain rfl := sj hd
   exact ⟨[v_160], ⟨f.get _ _ rfl, trivial⟩, f.defers, _, [it_159, Itm.box b0 94 [v_151, (.int .i64 y_144.2.2.1), (.int .i64 y_144.2.2.2)]], (GLe.trans hl_112 (GLe.trans hl_137 hl_147)), m, _, _, _, rfl, rfl, o_161, h_152⟩
  ·refine k_false f rfl hc_143 ?_
   refine k_skip ?_
   refine k_seq (k_region ?_)
   refine l_mv f rfl rfl fun a f => ?_
   refine l_as f rfl rfl fun a f => ?_
   refine l_nil ?_
   refine k_ret ?_
   have m := m.front 2 rfl
   have m := m.eraseAt 2
   obtain rfl := sj hd
   exact ⟨[v_103], ⟨f.get _ _ rfl, trivial⟩, f.defers, _, [it_104, Itm.box b0 94 [v_141, (.int .i64 y_134.2.2.1), (.int .i64 y_134.2.2.2)]], (GLe.trans hl_112 hl_137), m, _, _, _, rfl, rfl, o_105, h_142⟩

theorem Wk.spec_DrawSetOk {W w : World} {G : GH} {H : List Itm} {v0 : Value} {x0 : (List Int)} (m : Mem W G w (H)) (h0 : RSl (RI .u8) G v0 x0) {y : ((List (List Int))) × ((List Int))} (hd : D.spec_DrawSetOk x0 = some y) :
  Calls Tryd.prog 19 #[v0] w (Res W G H (fun G' Ho v => ∃ r0 : Value, ∃ r1 : Value, ∃ i1 : Itm, Ho = [i1] ∧ v = .tuple #[(.agg #[r0]), r1] ∧ RSl (RSl (RI .i64)) G' r0 y.1 ∧ Ow (RI .i64) 2 G' i1 r1 y.2)) := by
 refine calls_b (args := [v0]) (N := 14) [.cell 2 27, .tmp 3] Tryd.func19 rfl rfl (Nat.le_of_ble_eq_true rfl) rfl fun a f => ?_
 unfold D.spec_DrawSetOk at hd
 refine k_seq (k_region ?_)
 refine l_alloc (cs := [(.slice none 0 0)]) Tryd.zeroValue27 m f rfl rfl fun b_2 w a m f => ?_
 refine l_as f rfl rfl fun a f => ?_
 refine l_nil (k_seq (k_region ?_))
 refine l_mv f rfl rfl fun a f => ?_
 obtain ⟨y_3, hy_4, hd⟩ := bind_some hd
 refine l_res f rfl rfl Tryd.call50 (Wk.spec_l1New m h0 hy_4) fun v_8 G_5 Ho_9 w hl_6 m hQ_7 a f => ?_
 obtain ⟨v_10, b_12, rfl, rfl, h_11⟩ := hQ_7
 have h0 := RSl.mono (RI.mono _) _ _ _ _ hl_6 h0
 refine l_as f rfl rfl fun a f => ?_
 refine l_nil (k_seq (k_region ?_))
 refine l_mv f rfl rfl fun a f => ?_
 obtain ⟨y_14, hy_15, hd⟩ := bind_some hd
 refine l_res f rfl rfl Tryd.call51 (Wk.spec_l1DrawAny m h_11 hy_15) fun v_19 G_16 Ho_20 w hl_17 m hQ_18 a f => ?_
 obtain ⟨v_21, it_22, v_25, rfl, rfl, o_23, h_26⟩ := hQ_18
 have h0 := RSl.mono (RI.mono _) _ _ _ _ hl_17 h0
 refine l_alloc (cs := [(.slice none 0 0)]) Tryd.zeroValue27 m f rfl rfl fun b_28 w a m f => ?_
 refine l_boxStore 0 0 (ds := [v_21]) m Tryd.sizeOf27 f rfl rfl rfl (ones_cons (Ow2.one1 1 m o_23 rfl) ones_nil) rfl (Nat.le_of_ble_eq_true rfl) rfl fun w m => ?_
 refine l_nil (k_seq ?_)
 have m := m.front 1 rfl
 obtain ⟨G_48, hl_49, m, h_50⟩ := Ow2.stamp (RI.mono _) o_23 m
 have h0 := RSl.mono (RI.mono _) _ _ _ _ hl_49 h0
 have h_26 := RSl.mono (RI.mono _) _ _ _ _ hl_49 h_26
 have m := m.front 1 rfl
 refine k_drawE [Itm.box b_12 94 [v_25, (.int .i64 y_14.2.2.1), (.int .i64 y_14.2.2.2)]] (Itm.box b_28 27 [v_21] :: Itm.box b_2 27 [(.slice none 0 0)] :: H) 4 Follows (by kernel_rfl) m ?_
 refine q_boxAgg (i := 0) (ds := [v_21]) 4 0 Ag27 rfl rfl rfl rfl (by kernel_rfl) rfl f rfl rfl rfl fun a f => ?_
 refine q_mv 1 4 rfl (by kernel_rfl) f rfl rfl rfl fun a f => ?_
 refine q_boxAgg (i := 2) (ds := [v_21]) 4 0 Ag27 rfl rfl rfl rfl (by kernel_rfl) rfl f rfl rfl rfl fun a f => ?_
 refine q_one (i := 3) rfl (by kernel_rfl) rfl fun G_67 w hl_68 m K_69 K_69 => ?_
 have h0 := RSl.mono (RI.mono _) _ _ _ _ hl_68 h0
 have h_50 := RSl.mono (RSl.mono (RI.mono _)) _ _ _ _ hl_68 h_50
 have h_26 := RSl.mono (RI.mono _) _ _ _ _ hl_68 h_26
 obtain ⟨y_70, hy_71, hd⟩ := bind_some hd
 refine l_res f rfl rfl Tryd.call57 (Wk.spec_l1DrawSet m h_26 h_50 hy_71) fun v_75 G_72 Ho_76 w hl_73 m hQ_74 a f => ?_
 obtain ⟨v_77, it_78, v_81, rfl, rfl, o_79, h_82⟩ := hQ_74
 have h0 := RSl.mono (RI.mono _) _ _ _ _ hl_73 h0
 have h_50 := RSl.mono (RSl.mono (RI.mono _)) _ _ _ _ hl_73 h_50
 refine l_nil ?_
 refine K_69 G_72 [it_78, Itm.box b_12 94 [v_81, (.int .i64 y_70.2.2.1), (.int .i64 y_70.2.2.2)]] _ _ hl_73 m ?_
 refine q_end fun G_83 w hl_84 m => ?_
 have h0 := RSl.mono (RI.mono _) _ _ _ _ hl_84 h0
 have h_50 := RSl.mono (RSl.mono (RI.mono _)) _ _ _ _ hl_84 h_50
 have o_79 := Ow.mono (RI.mono _) hl_84 o_79
 have h_82 := RSl.mono (RI.mono _) _ _ _ _ hl_84 h_82
 refine l_boxStore 3 0 (ds := [v_21]) m Tryd.sizeOf27 f rfl rfl rfl (ones_cons h_50.one1 ones_nil) rfl (Nat.le_of_ble_eq_true rfl) rfl fun w m => ?_
 refine l_as f rfl rfl fun a f => ?_
 refine l_nil ?_
 refine k_ret ?_
 have rc_85 := rr_agg (P := Tryd.prog) 3 m Ag27 f (s := 2) rfl rfl rfl
 have m := m.eraseAt 3
 have m := m.eraseAt 2
 have m := m.eraseAt 1
 obtain rfl := sj hd
 exact ⟨[(.agg #[v_21]), v_77], ⟨rc_85, f.get _ _ rfl, trivial⟩, f.defers, _, [it_78], (GLe.trans hl_6 (GLe.trans hl_17 (GLe.trans hl_49 (GLe.trans hl_68 (GLe.trans hl_73 hl_84))))), m, _, _, _, rfl, rfl, h_50, o_79⟩

theorem Wk.impl_narrow {W w : World} {G : GH} {H : List Itm} {v0 : Value} {x0 : (List Int)} (m : Mem W G w (H)) (h0 : RSl (RI .i64) G v0 x0) {y : ((List Int))} (hd : D.impl_narrow x0 = some y) :
  Calls Tryd.prog 59 #[v0] w (Res W G H (fun G' Ho v => ∃ r0 : Value, ∃ i0 : Itm, Ho = [i0] ∧ r0 = v ∧ Ow (RI .i64) 3 G' i0 r0 y)) := by
 refine calls_b (args := [v0]) (N := 21) [.tmp 2] Tryd.func59 rfl rfl (Nat.le_of_ble_eq_true rfl) rfl fun a f => ?_
 unfold D.impl_narrow at hd
 refine k_seq (k_region ?_)
 refine l_as f rfl rfl fun a f => ?_
 refine l_nil (k_seq (k_region ?_))
 refine l_mv f rfl rfl fun a f => ?_
 refine l_len Tryd.underlying36 f rfl rfl h0 fun a f => ?_
 obtain ⟨l_1, hx_2, hd⟩ := bind_some hd
 refine l_make (R := (RI .i64)) m T74 rfl (by decide) rfl f rfl rfl rfl hx_2 fun it_3 v_4 w a m o_5 f => ?_
 refine l_as f rfl rfl fun a f => ?_
 refine l_nil (k_seq (k_seq (k_region ?_)))
 refine l_mv f rfl rfl fun a f => ?_
 refine l_len Tryd.underlying36 f rfl rfl h0 fun a f => ?_
 refine l_mv f rfl rfl fun a f => ?_
 refine l_nil ?_
 obtain ⟨q_48, hl_49, hd⟩ := bind_some hd
 refine k_cut (fun a w => ∃ l_80 : List Int, l_80 = q_48 ∧ ∃ (G_79 : GH) (v_81 : Value) (it_82 : Itm), GLe G G_79 ∧ Fr a 21 [(3, v_81)] ∧ Mem W G_79 w (it_82 :: H) ∧ Ow (RI .i64) 3 G_79 it_82 v_81 l_80) ?_ ?_
 ·refine k_block ?_
  refine k_loop (fun s_52 a w => ∃ l_55 : List Int, ∃ x_60 : Int, (l_55, x_60) = s_52 ∧ ∃ (G_54 : GH) (v_56 : Value) (it_57 : Itm), GLe G G_54 ∧ Fr a 21 [(3, v_56), (9, v0), (10, (.int .i64 (x0.length : Int))), (11, (.int .i64 x_60))] ∧ Mem W G_54 w (it_57 :: H) ∧ Ow (RI .i64) 3 G_54 it_57 v_56 l_55) hl_49 ⟨_, _, rfl, _, v_4, it_3, (GLe.refl _), f.weak ⟨rfl, rfl, rfl, rfl, trivial⟩, m, o_5⟩ ?_
  clear hl_49 f m
  rintro s_52 o_53 hs_50 hq_51 a w ⟨l_55, x_60, rfl, G_54, v_56, it_57, hl_61, f, m, o_58⟩
  have h0 := RSl.mono (RI.mono _) _ _ _ _ hl_61 h0
  refine k_seq (k_region ?_)
  refine l_in f rfl rfl rfl b_lss fun a f => ?_
  refine l_nil (k_seq ?_)
  rcases cond_some hs_50 with ⟨hc_86, hs_50⟩ | ⟨hc_86, hs_50⟩
  ·refine k_true f rfl hc_86 ?_
   refine k_skip ?_
   refine k_seq (k_block (k_seq (k_region ?_)))
   obtain ⟨e_87, he_88, hs_50⟩ := bind_some hs_50
   refine l_at T36 f rfl rfl rfl h0 he_88 fun p_89 c_90 a g_91 h_92 f => ?_
   subst h_92
   refine l_loadAt m Pl2 f rfl rfl g_91 fun a f => ?_
   refine l_as f rfl rfl fun a f => ?_
   refine l_nil (k_region ?_)
   refine l_mv f rfl rfl fun a f => ?_
   refine l_mv f rfl rfl fun a f => ?_
   refine l_slit (R := (RI .i64)) (xs := ([e_87] : List Int)) (RI.one _) m T74 f rfl rfl rfl (by decide) (All2.cons rfl (All2.nil _)) fun it_93 v_94 w a m o_95 f => ?_
   obtain ⟨l_97, hx_98, hs_50⟩ := bind_some hs_50
   refine l_append (RI.one _) 1 m o_58 rfl T74 rfl (by decide) f rfl rfl rfl (Ow.src (j := 0) o_95 m rfl) hx_98 fun it_99 v_100 w a m o_101 f => ?_
   refine l_as f rfl rfl fun a f => ?_
   refine l_nil (k_region ?_)
   refine l_in f rfl rfl rfl b_add fun a f => ?_
   refine l_mv f rfl rfl fun a f => ?_
   refine l_nil ?_
   have m := m.front 1 rfl
   have m := m.eraseAt 1
   obtain rfl := sj hs_50
   exact ⟨_, rfl, _, _, rfl, _, v_100, it_99, hl_61, f.weak ⟨rfl, rfl, rfl, rfl, trivial⟩, m, o_101⟩
  ·refine k_false f rfl hc_86 ?_
   refine k_exit rfl ?_
   obtain rfl := sj hs_50
   obtain rfl := hq_51 _ rfl
   exact ⟨_, rfl, _, v_56, it_57, hl_61, f.weak ⟨rfl, trivial⟩, m, o_58⟩
 ·rintro a w ⟨l_80, rfl, G_79, v_81, it_82, hl_85, f, m, o_83⟩
  refine k_seq (k_region ?_)
  refine l_mv f rfl rfl fun a f => ?_
  refine l_as f rfl rfl fun a f => ?_
  refine l_nil ?_
  refine k_ret ?_
  obtain rfl := sj hd
  exact ⟨[v_81], ⟨f.get _ _ rfl, trivial⟩, f.defers, _, [it_82], hl_85, m, _, _, rfl, rfl, o_83⟩

theorem Wk.impl_vset_has {W w : World} {G : GH} {H : List Itm} {x0 : Int} {x1 : Int} (m : Mem W G w (H))  {y : Bool} (hd : D.impl_vset_has x0 x1 = some y) :
  Calls Tryd.prog 99 #[(.int .u32 x0), (.int .i64 x1)] w (Res W G H (fun _ Ho v => Ho = [] ∧ v = (.bool y))) := by
 refine calls_b (args := [(.int .u32 x0), (.int .i64 x1)]) (N := 10) [.tmp 4] Tryd.func99 rfl rfl (Nat.le_of_ble_eq_true rfl) rfl fun a f => ?_
 unfold D.impl_vset_has at hd
 refine k_seq (k_region ?_)
 refine l_as f rfl rfl fun a f => ?_
 refine l_nil (k_seq (k_region ?_))
 refine l_mv f rfl rfl fun a f => ?_
 refine l_mv f rfl rfl fun a f => ?_
 obtain ⟨hn_1, hd⟩ := cond_none hd
 refine l_op f rfl rfl rfl (r_shr (f.eval rfl) (f.eval rfl) hn_1) fun a f => ?_
 refine l_in f rfl rfl rfl b_and fun a f => ?_
 refine l_in f rfl rfl rfl b_eql fun a f => ?_
 refine l_as f rfl rfl fun a f => ?_
 refine l_nil ?_
 refine k_ret ?_
 obtain rfl := sj hd
 exact ⟨[(.bool ((iand .u32 (ishr .u32 x0 x1) 1) == 1))], ⟨f.get _ _ rfl, trivial⟩, f.defers, _, [], (GLe.refl _), m, rfl, rfl⟩

theorem Wk.impl_induced {W w : World} {G : GH} {H : List Itm} {v0 : Value} {v1 : Value} {x0 : (List Int)} {x1 : (List Int)} (m : Mem W G w (H)) (h0 : RSl (RI .u32) G v0 x0) (h1 : RSl (RI .i64) G v1 x1) {y : ((List Int))} (hd : D.impl_induced x0 x1 = some y) :
  Calls Tryd.prog 58 #[v0, v1] w (Res W G H (fun G' Ho v => ∃ r0 : Value, ∃ i0 : Itm, Ho = [i0] ∧ r0 = v ∧ Ow (RI .u32) 59 G' i0 r0 y)) := by
 refine calls_b (args := [v0, v1]) (N := 44) [.tmp 4] Tryd.func58 rfl rfl (Nat.le_of_ble_eq_true rfl) rfl fun a f => ?_
 unfold D.impl_induced at hd
 refine k_seq (k_region ?_)
 refine l_as f rfl rfl fun a f => ?_
 refine l_nil (k_seq (k_region ?_))
 refine l_mv f rfl rfl fun a f => ?_
 refine l_len Tryd.underlying74 f rfl rfl h1 fun a f => ?_
 obtain ⟨l_1, hx_2, hd⟩ := bind_some hd
 refine l_make (R := (RI .u32)) m T54 rfl (by decide) rfl f rfl rfl rfl hx_2 fun it_3 v_4 w a m o_5 f => ?_
 refine l_as f rfl rfl fun a f => ?_
 refine l_nil (k_seq (k_seq (k_region ?_)))
 refine l_mv f rfl rfl fun a f => ?_
 refine l_len Tryd.underlying74 f rfl rfl h1 fun a f => ?_
 refine l_mv f rfl rfl fun a f => ?_
 refine l_nil ?_
 obtain ⟨q_374, hl_375, hd⟩ := bind_some hd
 refine k_cut (fun a w => ∃ l_568 : List Int, l_568 = q_374 ∧ ∃ (G_567 : GH) (it_569 : Itm), GLe G G_567 ∧ Fr a 44 [(5, v_4)] ∧ Mem W G_567 w (it_569 :: H) ∧ Ow (RI .u32) 59 G_567 it_569 v_4 l_568) ?_ ?_
 ·refine k_block ?_
  refine k_loop (fun s_378 a w => ∃ l_381 : List Int, ∃ x_384 : Int, (l_381, x_384) = s_378 ∧ ∃ (G_380 : GH) (it_382 : Itm), GLe G G_380 ∧ Fr a 44 [(0, v0), (1, v1), (5, v_4), (13, v1), (14, (.int .i64 (x1.length : Int))), (15, (.int .i64 x_384))] ∧ Mem W G_380 w (it_382 :: H) ∧ Ow (RI .u32) 59 G_380 it_382 v_4 l_381) hl_375 ⟨_, _, rfl, _, it_3, (GLe.refl _), f.weak ⟨rfl, rfl, rfl, rfl, rfl, rfl, trivial⟩, m, o_5⟩ ?_
  clear hl_375 f m
  rintro s_378 o_379 hs_376 hq_377 a w ⟨l_381, x_384, rfl, G_380, it_382, hl_385, f, m, o_383⟩
  have h0 := RSl.mono (RI.mono _) _ _ _ _ hl_385 h0
  have h1 := RSl.mono (RI.mono _) _ _ _ _ hl_385 h1
  refine k_seq (k_region ?_)
  refine l_in f rfl rfl rfl b_lss fun a f => ?_
  refine l_nil (k_seq ?_)
  rcases cond_some hs_376 with ⟨hc_572, hs_376⟩ | ⟨hc_572, hs_376⟩
  ·refine k_true f rfl hc_572 ?_
   refine k_skip ?_
   refine k_seq (k_block (k_seq (k_region ?_)))
   refine l_mv f rfl rfl fun a f => ?_
   obtain ⟨e_573, he_574, hs_376⟩ := bind_some hs_376
   refine l_at T74 f rfl rfl rfl h1 he_574 fun p_575 c_576 a g_577 h_578 f => ?_
   subst h_578
   refine l_loadAt m Pl3 f rfl rfl g_577 fun a f => ?_
   refine l_as f rfl rfl fun a f => ?_
   refine l_as f rfl rfl fun a f => ?_
   refine l_nil (k_seq (k_region ?_))
   refine l_mv f rfl rfl fun a f => ?_
   refine l_len Tryd.underlying74 f rfl rfl h1 fun a f => ?_
   refine l_mv f rfl rfl fun a f => ?_
   refine l_nil ?_
   obtain ⟨q_660, hl_661, hs_376⟩ := bind_some hs_376
   refine k_cut (fun a w => ∃ l_711 : List Int, l_711 = q_660 ∧ ∃ (G_710 : GH) (it_712 : Itm), GLe G_380 G_710 ∧ Fr a 44 [(0, v0), (1, v1), (5, v_4), (13, v1), (14, (.int .i64 (x1.length : Int))), (15, (.int .i64 x_384))] ∧ Mem W G_710 w (it_712 :: H) ∧ Ow (RI .u32) 59 G_710 it_712 v_4 l_711) ?_ ?_
   ·refine k_block ?_
    refine k_loop (fun s_664 a w => ∃ l_667 : List Int, ∃ x_670 : Int, (l_667, x_670) = s_664 ∧ ∃ (G_666 : GH) (it_668 : Itm), GLe G_380 G_666 ∧ Fr a 44 [(0, v0), (1, v1), (5, v_4), (6, (.int .i64 x_384)), (7, (.int .i64 e_573)), (13, v1), (14, (.int .i64 (x1.length : Int))), (15, (.int .i64 x_384)), (20, v1), (21, (.int .i64 (x1.length : Int))), (22, (.int .i64 x_670))] ∧ Mem W G_666 w (it_668 :: H) ∧ Ow (RI .u32) 59 G_666 it_668 v_4 l_667) hl_661 ⟨_, _, rfl, _, it_382, (GLe.refl _), f.weak ⟨rfl, rfl, rfl, rfl, rfl, rfl, rfl, rfl, rfl, rfl, rfl, trivial⟩, m, o_383⟩ ?_
    clear hl_661 f m
    rintro s_664 o_665 hs_662 hq_663 a w ⟨l_667, x_670, rfl, G_666, it_668, hl_671, f, m, o_669⟩
    have h0 := RSl.mono (RI.mono _) _ _ _ _ hl_671 h0
    have h1 := RSl.mono (RI.mono _) _ _ _ _ hl_671 h1
    refine k_seq (k_region ?_)
    refine l_in f rfl rfl rfl b_lss fun a f => ?_
    refine l_nil (k_seq ?_)
    rcases cond_some hs_662 with ⟨hc_715, hs_662⟩ | ⟨hc_715, hs_662⟩
    ·refine k_true f rfl hc_715 ?_
     refine k_skip ?_
     refine k_seq (k_block (k_seq (k_region ?_)))
     refine l_mv f rfl rfl fun a f => ?_
     obtain ⟨e_716, he_717, hs_662⟩ := bind_some hs_662
     refine l_at T74 f rfl rfl rfl h1 he_717 fun p_718 c_719 a g_720 h_721 f => ?_
     subst h_721
     refine l_loadAt m Pl3 f rfl rfl g_720 fun a f => ?_
     refine l_as f rfl rfl fun a f => ?_
     refine l_as f rfl rfl fun a f => ?_
     refine l_nil (k_seq (k_region ?_))
     refine l_mv f rfl rfl fun a f => ?_
     refine l_mv f rfl rfl fun a f => ?_
     obtain ⟨e_722, he_723, hs_662⟩ := bind_some hs_662
     refine l_at T54 f rfl rfl rfl h0 he_723 fun p_724 c_725 a g_726 h_727 f => ?_
     subst h_727
     refine l_loadAt m Pl59 f rfl rfl g_726 fun a f => ?_
     refine l_mv f rfl rfl fun a f => ?_
     obtain ⟨y_728, hy_729, hs_662⟩ := bind_some hs_662
     refine l_res f rfl rfl Tryd.call99 (Wk.impl_vset_has m  hy_729) fun v_733 G_730 Ho_734 w hl_731 m hQ_732 a f => ?_
     obtain ⟨rfl, rfl⟩ := hQ_732
     have h0 := RSl.mono (RI.mono _) _ _ _ _ hl_731 h0
     have h1 := RSl.mono (RI.mono _) _ _ _ _ hl_731 h1
     have g_726 := At.mono hl_731 g_726
     have o_669 := Ow.mono (RI.mono _) hl_731 o_669
     refine l_nil ?_
     rcases cond_some hs_662 with ⟨hc_735, hs_662⟩ | ⟨hc_735, hs_662⟩
     ·refine k_true f rfl hc_735 ?_
      refine k_draw 8 Follows (by kernel_rfl) m ?_
      refine q_mv 0 8 rfl (by kernel_rfl) f rfl rfl rfl fun a f => ?_
      refine q_mv 1 8 rfl (by kernel_rfl) f rfl rfl rfl fun a f => ?_
      obtain ⟨e_736, he_737, hs_662⟩ := bind_some hs_662
      refine q_own_at (i := 2) 8 0 m o_669 rfl T54 he_737 rfl (by kernel_rfl) rfl f rfl rfl rfl rfl fun p_738 a ha_739 f => ?_
      refine q_own_load (i := 3) 8 0 o_669 rfl Pl59 ha_739 he_737 rfl (by kernel_rfl) rfl f rfl rfl rfl fun c_740 a h_741 f => ?_
      subst h_741
      refine q_mv 4 8 rfl (by kernel_rfl) f rfl rfl rfl fun a f => ?_
      obtain ⟨y_742, hy_743, hs_662⟩ := bind_some hs_662
      refine q_call (i := 5) 8 rfl (by kernel_rfl) rfl f rfl rfl rfl Tryd.call82 (fun _ _ w hG_744 m => Wk.impl_one m  hy_743) fun a f => ?_
      refine q_p 6 8 rfl (by kernel_rfl) f rfl rfl rfl (fun _ => r_int (f.eval rfl) (f.eval rfl) b_or) fun a f => ?_
      obtain ⟨e_745, he_746, hs_662⟩ := bind_some hs_662
      refine q_own_at (i := 7) 8 0 m o_669 rfl T54 he_746 rfl (by kernel_rfl) rfl f rfl rfl rfl rfl fun p_747 a ha_748 f => ?_
      refine q_end fun G_749 w hl_750 m => ?_
      have h0 := RSl.mono (RI.mono _) _ _ _ _ hl_750 h0
      have h1 := RSl.mono (RI.mono _) _ _ _ _ hl_750 h1
      have o_669 := Ow.mono (RI.mono _) hl_750 o_669
      refine l_own_store 0 m o_669 rfl Tryd.sizeOf59 f rfl rfl ha_748 he_746 rfl rfl rfl fun it_751 w m o_752 => ?_
      refine l_nil (k_region ?_)
      refine l_in f rfl rfl rfl b_add fun a f => ?_
      refine l_mv f rfl rfl fun a f => ?_
      refine l_nil ?_
      obtain rfl := sj hs_662
      exact ⟨_, rfl, _, _, rfl, _, it_751, (GLe.trans hl_671 (GLe.trans hl_731 hl_750)), f.weak ⟨rfl, rfl, rfl, rfl, rfl, rfl, rfl, rfl, rfl, rfl, rfl, trivial⟩, m, o_752⟩
     ·refine k_false f rfl hc_735 ?_
      refine k_skip ?_
      refine k_region ?_
      refine l_in f rfl rfl rfl b_add fun a f => ?_
      refine l_mv f rfl rfl fun a f => ?_
      refine l_nil ?_
      obtain rfl := sj hs_662
      exact ⟨_, rfl, _, _, rfl, _, it_668, (GLe.trans hl_671 hl_731), f.weak ⟨rfl, rfl, rfl, rfl, rfl, rfl, rfl, rfl, rfl, rfl, rfl, trivial⟩, m, o_669⟩
    ·refine k_false f rfl hc_715 ?_
     refine k_exit rfl ?_
     obtain rfl := sj hs_662
     obtain rfl := hq_663 _ rfl
     exact ⟨_, rfl, _, it_668, hl_671, f.weak ⟨rfl, rfl, rfl, rfl, rfl, rfl, trivial⟩, m, o_669⟩
   ·rintro a w ⟨l_711, rfl, G_710, it_712, hl_714, f, m, o_713⟩
    have h0 := RSl.mono (RI.mono _) _ _ _ _ hl_714 h0
    have h1 := RSl.mono (RI.mono _) _ _ _ _ hl_714 h1
    refine k_region ?_
    refine l_in f rfl rfl rfl b_add fun a f => ?_
    refine l_mv f rfl rfl fun a f => ?_
    refine l_nil ?_
    obtain rfl := sj hs_376
    exact ⟨_, rfl, _, _, rfl, _, it_712, (GLe.trans hl_385 hl_714), f.weak ⟨rfl, rfl, rfl, rfl, rfl, rfl, trivial⟩, m, o_713⟩
  ·refine k_false f rfl hc_572 ?_
   refine k_exit rfl ?_
   obtain rfl := sj hs_376
   obtain rfl := hq_377 _ rfl
   exact ⟨_, rfl, _, it_382, hl_385, f.weak ⟨rfl, trivial⟩, m, o_383⟩
 ·rintro a w ⟨l_568, rfl, G_567, it_569, hl_571, f, m, o_570⟩
  refine k_seq (k_region ?_)
  refine l_mv f rfl rfl fun a f => ?_
  refine l_as f rfl rfl fun a f => ?_
  refine l_nil ?_
  refine k_ret ?_
  obtain rfl := sj hd
  exact ⟨[v_4], ⟨f.get _ _ rfl, trivial⟩, f.defers, _, [it_569], hl_571, m, _, _, rfl, rfl, o_570⟩

theorem Wk.impl_nets_graph {W w : World} {G : GH} {H : List Itm} {v0 : Value} {x0 : (List Int)} (hW : TabW W) (m : Mem W G w (H)) (h0 : RSl (RI .u32) G v0 x0) {y : ((List (List Int)))} (hd : D.impl_nets_graph x0 = some y) :
  Calls Tryd.prog 60 #[v0] w (Res W G H (fun G' Ho v => ∃ r0 : Value, ∃ i0 : Itm, Ho = [i0] ∧ v = (.agg #[r0]) ∧ Ow (RSl (RI .i64)) 36 G' i0 r0 y)) := by
 refine calls_b (args := [v0]) (N := 22) [.cell 2 27] Tryd.func60 rfl rfl (Nat.le_of_ble_eq_true rfl) rfl fun a f => ?_
 unfold D.impl_nets_graph at hd
 refine k_seq (k_region ?_)
 refine l_alloc (cs := [(.slice none 0 0)]) Tryd.zeroValue27 m f rfl rfl fun b_2 w a m f => ?_
 refine l_nil (k_seq (k_region ?_))
 have hb_3 : ∀ w, (Instr.build 27 #[]).run Tryd.prog w = .ok (.agg #[(.slice none 0 0)]) w := by intro w; simp [Instr.build, Instr.fill, cells_int, cells_bool, cells_string, cells_slice, cells_pointer, cells_agg]
 refine l_build f rfl rfl hb_3 fun a f => ?_
 refine l_alloc (cs := [(.slice none 0 0)]) Tryd.zeroValue27 m f rfl rfl fun b_5 w a m f => ?_
 refine l_boxStore 0 0 (ds := [(.slice none 0 0)]) m Tryd.sizeOf27 f rfl rfl rfl (ones_cons rfl ones_nil) rfl (Nat.le_of_ble_eq_true rfl) rfl fun w m => ?_
 refine l_nil (k_seq (k_seq (k_region ?_)))
 refine l_mv f rfl rfl fun a f => ?_
 refine l_len Tryd.underlying54 f rfl rfl h0 fun a f => ?_
 refine l_mv f rfl rfl fun a f => ?_
 refine l_nil ?_
 obtain ⟨it_100, m, o_101⟩ := Ow.nil (RSl (RI .i64)) 36 m
 obtain ⟨q_94, hl_95, hd⟩ := bind_some hd
 refine k_cut (fun a w => ∃ l_151 : List (List Int), l_151 = q_94 ∧ ∃ (G_150 : GH) (v_152 : Value) (it_153 : Itm), GLe G G_150 ∧ Fr a 22 [(2, (.pointer (some ⟨b_2, 0, none⟩))), (3, (.pointer (some ⟨b_5, 0, none⟩)))] ∧ Mem W G_150 w (Itm.box b_2 27 [(.slice none 0 0)] :: Itm.box b_5 27 [v_152] :: it_153 :: H) ∧ Ow (RSl (RI .i64)) 36 G_150 it_153 v_152 l_151) ?_ ?_
 ·refine k_block ?_
  have m := m.front 1 rfl
  have m := m.front 2 rfl
  refine k_loop (fun s_98 a w => ∃ x_104 : Int, ∃ l_105 : List (List Int), (x_104, l_105) = s_98 ∧ ∃ (G_103 : GH) (v_106 : Value) (it_107 : Itm), GLe G G_103 ∧ Fr a 22 [(2, (.pointer (some ⟨b_2, 0, none⟩))), (3, (.pointer (some ⟨b_5, 0, none⟩))), (7, v0), (8, (.int .i64 (x0.length : Int))), (9, (.int .i64 x_104))] ∧ Mem W G_103 w (Itm.box b_2 27 [(.slice none 0 0)] :: Itm.box b_5 27 [v_106] :: it_107 :: H) ∧ Ow (RSl (RI .i64)) 36 G_103 it_107 v_106 l_105) hl_95 ⟨_, _, rfl, _, (.slice none 0 0), it_100, (GLe.refl _), f.weak ⟨rfl, rfl, rfl, rfl, rfl, trivial⟩, m, o_101⟩ ?_
  clear hl_95 f m
  rintro s_98 o_99 hs_96 hq_97 a w ⟨x_104, l_105, rfl, G_103, v_106, it_107, hl_110, f, m, o_108⟩
  have h0 := RSl.mono (RI.mono _) _ _ _ _ hl_110 h0
  refine k_seq (k_region ?_)
  refine l_in f rfl rfl rfl b_lss fun a f => ?_
  refine l_nil (k_seq ?_)
  rcases cond_some hs_96 with ⟨hc_157, hs_96⟩ | ⟨hc_157, hs_96⟩
  ·refine k_true f rfl hc_157 ?_
   refine k_skip ?_
   refine k_seq (k_block (k_seq (k_region ?_)))
   obtain ⟨e_158, he_159, hs_96⟩ := bind_some hs_96
   refine l_at T54 f rfl rfl rfl h0 he_159 fun p_160 c_161 a g_162 h_163 f => ?_
   subst h_163
   refine l_loadAt m Pl59 f rfl rfl g_162 fun a f => ?_
   refine l_as f rfl rfl fun a f => ?_
   refine l_nil ?_
   refine k_draw 5 Follows (by kernel_rfl) m ?_
   refine q_fieldAddr (i := 0) 5 Tryd.underlying27 rfl Tryd.sizeOf22 (by decide) rfl (by kernel_rfl) rfl f rfl rfl rfl fun a f => ?_
   refine q_boxCell (i := 1) 5 1 Pl22 rfl rfl rfl (by kernel_rfl) rfl f rfl rfl rfl fun a f => ?_
   refine q_mv 2 5 rfl (by kernel_rfl) f rfl rfl rfl fun a f => ?_
   refine q_one (i := 3) rfl (by kernel_rfl) rfl fun G_164 w hl_165 m K_166 K_166 => ?_
   have h0 := RSl.mono (RI.mono _) _ _ _ _ hl_165 h0
   have o_108 := Ow.mono (RSl.mono (RI.mono _)) hl_165 o_108
   obtain ⟨y_167, hy_168, hs_96⟩ := bind_some hs_96
   refine l_res f rfl rfl Tryd.call86 (Wk.impl_vset_numbers hW m  hy_168) fun v_172 G_169 Ho_173 w hl_170 m hQ_171 a f => ?_
   obtain ⟨v_174, it_175, rfl, rfl, o_176⟩ := hQ_171
   have h0 := RSl.mono (RI.mono _) _ _ _ _ hl_170 h0
   have o_108 := Ow.mono (RSl.mono (RI.mono _)) hl_170 o_108
   refine l_nil ?_
   refine K_166 G_169 [it_175] _ _ hl_170 m ?_
   refine q_one (i := 4) rfl (by kernel_rfl) rfl fun G_178 w hl_179 m K_180 K_180 => ?_
   have h0 := RSl.mono (RI.mono _) _ _ _ _ hl_179 h0
   have o_176 := Ow.mono (RI.mono _) hl_179 o_176
   have o_108 := Ow.mono (RSl.mono (RI.mono _)) hl_179 o_108
   obtain ⟨G_181, hl_182, m, h_183⟩ := Ow.stamp (RI.mono _) o_176 m
   have h0 := RSl.mono (RI.mono _) _ _ _ _ hl_182 h0
   have o_108 := Ow.mono (RSl.mono (RI.mono _)) hl_182 o_108
   refine l_slit (R := (RSl (RI .i64))) (xs := ([y_167] : List (List Int))) (RSl.one _) m T22 f rfl rfl rfl (by decide) (All2.cons h_183 (All2.nil _)) fun it_184 v_185 w a m o_186 f => ?_
   refine l_nil ?_
   refine K_180 G_181 [it_184] _ _ hl_182 m ?_
   refine q_end fun G_188 w hl_189 m => ?_
   have h0 := RSl.mono (RI.mono _) _ _ _ _ hl_189 h0
   have h_183 := RSl.mono (RI.mono _) _ _ _ _ hl_189 h_183
   have o_186 := Ow.mono (RSl.mono (RI.mono _)) hl_189 o_186
   have o_108 := Ow.mono (RSl.mono (RI.mono _)) hl_189 o_108
   obtain ⟨l_190, hx_191, hs_96⟩ := bind_some hs_96
   refine l_append (RSl.one _) 3 m o_108 rfl T22 rfl (by decide) f rfl rfl rfl (Ow.src (j := 0) o_186 m rfl) hx_191 fun it_192 v_193 w a m o_194 f => ?_
   refine l_fieldAddr Tryd.underlying27 rfl Tryd.sizeOf22 (by decide) f rfl rfl fun a f => ?_
   refine l_boxStore 2 0 (ds := [v_193]) m Tryd.sizeOf22 f rfl rfl (Ow.cells 3 m o_194 rfl) (ones_cons (Ow.one1 3 m o_194 rfl) ones_nil) rfl (Nat.le_of_ble_eq_true rfl) rfl fun w m => ?_
   refine l_nil (k_region ?_)
   refine l_in f rfl rfl rfl b_add fun a f => ?_
   refine l_mv f rfl rfl fun a f => ?_
   refine l_nil ?_
   have m := m.front 3 rfl
   have m := m.front 3 rfl
   have m := m.front 3 rfl
   have m := m.eraseAt 3
   obtain rfl := sj hs_96
   exact ⟨_, rfl, _, _, rfl, _, v_193, it_192, (GLe.trans hl_110 (GLe.trans hl_165 (GLe.trans hl_170 (GLe.trans hl_179 (GLe.trans hl_182 hl_189))))), f.weak ⟨rfl, rfl, rfl, rfl, rfl, trivial⟩, m, o_194⟩
  ·refine k_false f rfl hc_157 ?_
   refine k_exit rfl ?_
   have m := m.front 2 rfl
   have m := m.front 2 rfl
   have m := m.front 2 rfl
   obtain rfl := sj hs_96
   obtain rfl := hq_97 _ rfl
   exact ⟨_, rfl, _, v_106, it_107, hl_110, f.weak ⟨rfl, rfl, trivial⟩, m, o_108⟩
 ·rintro a w ⟨l_151, rfl, G_150, v_152, it_153, hl_156, f, m, o_154⟩
  refine k_seq (k_region ?_)
  refine l_boxAgg 1 0 (ds := [v_152]) m Ag27 f rfl rfl rfl rfl rfl fun a f => ?_
  refine l_boxStore 0 0 (ds := [v_152]) m Tryd.sizeOf27 f rfl rfl rfl (ones_cons (Ow.one1 2 m o_154 rfl) ones_nil) rfl (Nat.le_of_ble_eq_true rfl) rfl fun w m => ?_
  refine l_nil ?_
  refine k_ret ?_
  have rc_196 := rr_agg (P := Tryd.prog) 0 m Ag27 f (s := 2) rfl rfl rfl
  have m := m.front 2 rfl
  have m := m.eraseAt 2
  have m := m.eraseAt 1
  obtain rfl := sj hd
  exact ⟨[(.agg #[v_152])], ⟨rc_196, trivial⟩, f.defers, _, [it_153], hl_156, m, _, _, rfl, rfl, o_154⟩

theorem Wk.impl_Renamed {W w : World} {G : GH} {H : List Itm} {v0_0 : Value} {v1 : Value} {x0_0 : (List (List Int))} {x1 : (List Int)} (hW : TabW W) (m : Mem W G w (H)) (h0_0 : RSl (RSl (RI .i64)) G v0_0 x0_0) (h1 : RSl (RI .i64) G v1 x1) {y : ((List (List Int))) × Bool} (hd : D.impl_Renamed x0_0 x1 = some y) :
  Calls Tryd.prog 20 #[(.agg #[v0_0]), v1] w (Res W G H (fun G' Ho v => ∃ r0 : Value, ∃ i0 : Itm, Ho = [i0] ∧ v = .tuple #[(.agg #[r0]), (.bool y.2)] ∧ Ow (RSl (RI .i64)) 36 G' i0 r0 y.1)) := by
 refine calls_b (args := [(.agg #[v0_0]), v1]) (N := 17) [.cell 4 27, .tmp 5] Tryd.func20 rfl rfl (Nat.le_of_ble_eq_true rfl) rfl fun a f => ?_
 unfold D.impl_Renamed at hd
 refine k_seq (k_region ?_)
 refine l_box (cs := [v0_0]) m f rfl rfl rfl fun b_2 w a m f => ?_
 refine l_alloc (cs := [(.slice none 0 0)]) Tryd.zeroValue27 m f rfl rfl fun b_4 w a m f => ?_
 refine l_as f rfl rfl fun a f => ?_
 refine l_nil (k_seq (k_seq (k_region ?_)))
 refine l_boxAgg 1 0 (ds := [v0_0]) m Ag27 f rfl rfl rfl rfl rfl fun a f => ?_
 refine l_mv f rfl rfl fun a f => ?_
 obtain ⟨y_5, hy_6, hd⟩ := bind_some hd
 refine l_res f rfl rfl Tryd.call17 (Wk.impl_OrderOk m h0_0 h1 hy_6) fun v_10 G_7 Ho_11 w hl_8 m hQ_9 a f => ?_
 obtain ⟨rfl, rfl⟩ := hQ_9
 have h0_0 := RSl.mono (RSl.mono (RI.mono _)) _ _ _ _ hl_8 h0_0
 have h1 := RSl.mono (RI.mono _) _ _ _ _ hl_8 h1
 refine l_op f rfl rfl rfl (r_not (f.eval rfl)) fun a f => ?_
 refine l_nil ?_
 rcases cond_some hd with ⟨hc_12, hd⟩ | ⟨hc_12, hd⟩
 ·refine k_true f rfl hc_12 ?_
  refine k_seq (k_region ?_)
  have hb_13 : ∀ w, (Instr.build 27 #[]).run Tryd.prog w = .ok (.agg #[(.slice none 0 0)]) w := by intro w; simp [Instr.build, Instr.fill, cells_int, cells_bool, cells_string, cells_slice, cells_pointer, cells_agg]
  refine l_build f rfl rfl hb_13 fun a f => ?_
  refine l_boxStore 0 0 (ds := [(.slice none 0 0)]) m Tryd.sizeOf27 f rfl rfl rfl (ones_cons rfl ones_nil) rfl (Nat.le_of_ble_eq_true rfl) rfl fun w m => ?_
  refine l_as f rfl rfl fun a f => ?_
  refine l_nil ?_
  refine k_ret ?_
  obtain ⟨it_14, m, o_15⟩ := Ow.nil (RSl (RI .i64)) 36 m
  have rc_17 := rr_agg (P := Tryd.prog) 1 m Ag27 f (s := 4) rfl rfl rfl
  have m := m.eraseAt 2
  have m := m.eraseAt 1
  obtain rfl := sj hd
  exact ⟨[(.agg #[(.slice none 0 0)]), (.bool false)], ⟨rc_17, f.get _ _ rfl, trivial⟩, f.defers, _, [it_14], hl_8, m, _, _, rfl, rfl, o_15⟩
 ·refine k_false f rfl hc_12 ?_
  refine k_skip ?_
  refine k_seq (k_region ?_)
  refine l_boxAgg 1 0 (ds := [v0_0]) m Ag27 f rfl rfl rfl rfl rfl fun a f => ?_
  obtain ⟨y_18, hy_19, hd⟩ := bind_some hd
  refine l_res f rfl rfl Tryd.call43 (Wk.impl_netsOf m h0_0 hy_19) fun v_23 G_20 Ho_24 w hl_21 m hQ_22 a f => ?_
  obtain ⟨v_25, it_26, rfl, rfl, o_27⟩ := hQ_22
  have h0_0 := RSl.mono (RSl.mono (RI.mono _)) _ _ _ _ hl_21 h0_0
  have h1 := RSl.mono (RI.mono _) _ _ _ _ hl_21 h1
  refine l_mv f rfl rfl fun a f => ?_
  obtain ⟨y_29, hy_30, hd⟩ := bind_some hd
  refine l_res f rfl rfl Tryd.call59 (Wk.impl_narrow m h1 hy_30) fun v_34 G_31 Ho_35 w hl_32 m hQ_33 a f => ?_
  obtain ⟨v_36, it_37, rfl, rfl, o_38⟩ := hQ_33
  have h0_0 := RSl.mono (RSl.mono (RI.mono _)) _ _ _ _ hl_32 h0_0
  have h1 := RSl.mono (RI.mono _) _ _ _ _ hl_32 h1
  have o_27 := Ow.mono (RI.mono _) hl_32 o_27
  obtain ⟨y_40, hy_41, hd⟩ := bind_some hd
  refine l_res f rfl rfl Tryd.call58 (Ow.lendCall (RI.mono _) 1 o_27 m rfl (fun G_42 hl_43 m h_44 => (Ow.lendCall (RI.mono _) 0 (Ow.mono (RI.mono _) hl_43 o_38) m rfl (fun G_45 hl_46 m h_47 => Wk.impl_induced m (RSl.mono (RI.mono _) _ _ _ _ hl_46 h_44) h_47 hy_41) (fun _ G' _ _ ⟨a0, a1, e1, e2, o0⟩ => ⟨a0, a1, e1, e2, Ow.free (RI.free _) G' o0⟩))) (fun _ G' _ _ ⟨a0, a1, e1, e2, o0⟩ => ⟨a0, a1, e1, e2, Ow.free (RI.free _) G' o0⟩)) fun v_51 G_48 Ho_52 w hl_49 m hQ_50 a f => ?_
  obtain ⟨v_53, it_54, rfl, rfl, o_55⟩ := hQ_50
  have h0_0 := RSl.mono (RSl.mono (RI.mono _)) _ _ _ _ hl_49 h0_0
  have h1 := RSl.mono (RI.mono _) _ _ _ _ hl_49 h1
  have o_38 := Ow.mono (RI.mono _) hl_49 o_38
  have o_27 := Ow.mono (RI.mono _) hl_49 o_27
  obtain ⟨G_57, hl_58, m, h_59⟩ := Ow.stamp (RI.mono _) o_55 m
  have h0_0 := RSl.mono (RSl.mono (RI.mono _)) _ _ _ _ hl_58 h0_0
  have h1 := RSl.mono (RI.mono _) _ _ _ _ hl_58 h1
  have o_38 := Ow.mono (RI.mono _) hl_58 o_38
  have o_27 := Ow.mono (RI.mono _) hl_58 o_27
  obtain ⟨y_60, hy_61, hd⟩ := bind_some hd
  refine l_res f rfl rfl Tryd.call60 (Wk.impl_nets_graph hW m h_59 hy_61) fun v_65 G_62 Ho_66 w hl_63 m hQ_64 a f => ?_
  obtain ⟨v_67, it_68, rfl, rfl, o_69⟩ := hQ_64
  have h0_0 := RSl.mono (RSl.mono (RI.mono _)) _ _ _ _ hl_63 h0_0
  have h1 := RSl.mono (RI.mono _) _ _ _ _ hl_63 h1
  have h_59 := RSl.mono (RI.mono _) _ _ _ _ hl_63 h_59
  have o_38 := Ow.mono (RI.mono _) hl_63 o_38
  have o_27 := Ow.mono (RI.mono _) hl_63 o_27
  refine l_boxStore 3 0 (ds := [v_67]) m Tryd.sizeOf27 f rfl rfl rfl (ones_cons (Ow.one1 0 m o_69 rfl) ones_nil) rfl (Nat.le_of_ble_eq_true rfl) rfl fun w m => ?_
  refine l_as f rfl rfl fun a f => ?_
  refine l_nil ?_
  refine k_ret ?_
  have rc_71 := rr_agg (P := Tryd.prog) 3 m Ag27 f (s := 4) rfl rfl rfl
  have m := m.eraseAt 4
  have m := m.eraseAt 3
  have m := m.eraseAt 2
  have m := m.eraseAt 1
  obtain rfl := sj hd
  exact ⟨[(.agg #[v_67]), (.bool true)], ⟨rc_71, f.get _ _ rfl, trivial⟩, f.defers, _, [it_68], (GLe.trans hl_8 (GLe.trans hl_21 (GLe.trans hl_32 (GLe.trans hl_49 (GLe.trans hl_58 hl_63))))), m, _, _, rfl, rfl, o_69⟩

theorem Wk.impl_SetOk {W w : World} {G : GH} {H : List Itm} {v0_0 : Value} {v1 : Value} {x0_0 : (List (List Int))} {x1 : (List Int)} (m : Mem W G w (H)) (h0_0 : RSl (RSl (RI .i64)) G v0_0 x0_0) (h1 : RSl (RI .i64) G v1 x1) {y : Bool} (hd : D.impl_SetOk x0_0 x1 = some y) :
  Calls Tryd.prog 21 #[(.agg #[v0_0]), v1] w (Res W G H (fun _ Ho v => Ho = [] ∧ v = (.bool y))) := by
 refine calls_b (args := [(.agg #[v0_0]), v1]) (N := 14) [.tmp 4] Tryd.func21 rfl rfl (Nat.le_of_ble_eq_true rfl) rfl fun a f => ?_
 unfold D.impl_SetOk at hd
 refine k_seq (k_region ?_)
 refine l_box (cs := [v0_0]) m f rfl rfl rfl fun b_2 w a m f => ?_
 refine l_as f rfl rfl fun a f => ?_
 refine l_nil (k_seq (k_region ?_))
 refine l_boxAgg 0 0 (ds := [v0_0]) m Ag27 f rfl rfl rfl rfl rfl fun a f => ?_
 obtain ⟨y_3, hy_4, hd⟩ := bind_some hd
 refine l_res f rfl rfl Tryd.call40 (Wk.impl_GraphOk m h0_0 hy_4) fun v_8 G_5 Ho_9 w hl_6 m hQ_7 a f => ?_
 obtain ⟨rfl, rfl⟩ := hQ_7
 have h0_0 := RSl.mono (RSl.mono (RI.mono _)) _ _ _ _ hl_6 h0_0
 have h1 := RSl.mono (RI.mono _) _ _ _ _ hl_6 h1
 refine l_mv f rfl rfl fun a f => ?_
 obtain ⟨b_27, hj_28, hd⟩ := bind_some hd
 refine l_cut 6 (fun a w => ∃ G_25, GLe G_5 G_25 ∧ Mem W G_25 w (Itm.box b_2 27 [v0_0] :: H) ∧ Fr a 14 [(0, (.agg #[v0_0])), (1, v1), (2, (.pointer (some ⟨b_2, 0, none⟩))), (5, (.agg #[v0_0])), (6, (.bool y_3)), (7, (.bool y_3)), (13, (.bool b_27))]) ?_ ?_
 ·rcases cond_some hj_28 with ⟨hc_10, hj_28⟩ | ⟨hc_10, hj_28⟩
  ·refine l_run f rfl rfl hc_10 ?_
   refine l_mv f rfl rfl fun a f => ?_
   refine l_run f rfl rfl hc_10 ?_
   refine l_fieldAddr Tryd.underlying27 rfl Tryd.sizeOf22 (by decide) f rfl rfl fun a f => ?_
   refine l_run f rfl rfl hc_10 ?_
   refine l_boxCell 0 0 m Pl22 f rfl rfl rfl rfl fun a f => ?_
   refine l_run f rfl rfl hc_10 ?_
   refine l_len Tryd.underlying22 f rfl rfl h0_0 fun a f => ?_
   refine l_run f rfl rfl hc_10 ?_
   obtain ⟨y_29, hy_30, hj_28⟩ := bind_some hj_28
   refine l_res f rfl rfl Tryd.call55 (Wk.impl_increasing m h1 hy_30) fun v_34 G_31 Ho_35 w hl_32 m hQ_33 a f => ?_
   obtain ⟨rfl, rfl⟩ := hQ_33
   have h0_0 := RSl.mono (RSl.mono (RI.mono _)) _ _ _ _ hl_32 h0_0
   have h1 := RSl.mono (RI.mono _) _ _ _ _ hl_32 h1
   refine l_op f rfl rfl rfl (r_pickT (f.eval rfl) hc_10 (f.eval rfl)) fun a f => ?_
   obtain rfl := sj hj_28
   exact ⟨_, hl_32, m, f.weak ⟨rfl, rfl, rfl, rfl, rfl, rfl, rfl, trivial⟩⟩
  ·refine l_not' f rfl rfl rfl hc_10 fun a f => ?_
   refine l_not' f rfl rfl rfl hc_10 fun a f => ?_
   refine l_not' f rfl rfl rfl hc_10 fun a f => ?_
   refine l_not' f rfl rfl rfl hc_10 fun a f => ?_
   refine l_not' f rfl rfl rfl hc_10 fun a f => ?_
   refine l_op f rfl rfl rfl (r_pickF (f.eval rfl) hc_10 (f.eval rfl)) fun a f => ?_
   obtain rfl := sj hj_28
   exact ⟨_, (GLe.refl _), m, f.weak ⟨rfl, rfl, rfl, rfl, rfl, rfl, rfl, trivial⟩⟩
 ·rintro a w ⟨G_25, hl_26, m, f⟩
  have h0_0 := RSl.mono (RSl.mono (RI.mono _)) _ _ _ _ hl_26 h0_0
  have h1 := RSl.mono (RI.mono _) _ _ _ _ hl_26 h1
  refine l_as f rfl rfl fun a f => ?_
  refine l_nil ?_
  refine k_ret ?_
  have m : Mem W G_25 w H := Mem.drop (H' := [Itm.box b_2 27 [v0_0]]) m
  obtain rfl := sj hd
  exact ⟨[(.bool b_27)], ⟨f.get _ _ rfl, trivial⟩, f.defers, _, [], (GLe.trans hl_6 hl_26), m, rfl, rfl⟩

theorem Wk.spec_SetOk {W w : World} {G : GH} {H : List Itm} {v0_0 : Value} {v1 : Value} {x0_0 : (List (List Int))} {x1 : (List Int)} (m : Mem W G w (H)) (h0_0 : RSl (RSl (RI .i64)) G v0_0 x0_0) (h1 : RSl (RI .i64) G v1 x1) {y : Bool} (hd : D.spec_SetOk x0_0 x1 = some y) :
  Calls Tryd.prog 22 #[(.agg #[v0_0]), v1] w (Res W G H (fun _ Ho v => Ho = [] ∧ v = (.bool y))) := by
 refine calls_b (args := [(.agg #[v0_0]), v1]) (N := 13) [.tmp 4] Tryd.func22 rfl rfl (Nat.le_of_ble_eq_true rfl) rfl fun a f => ?_
 unfold D.spec_SetOk at hd
 refine k_seq (k_region ?_)
 refine l_box (cs := [v0_0]) m f rfl rfl rfl fun b_2 w a m f => ?_
 refine l_as f rfl rfl fun a f => ?_
 refine l_nil (k_seq (k_region ?_))
 refine l_boxAgg 0 0 (ds := [v0_0]) m Ag27 f rfl rfl rfl rfl rfl fun a f => ?_
 obtain ⟨y_3, hy_4, hd⟩ := bind_some hd
 refine l_res f rfl rfl Tryd.call23 (Wk.spec_GraphOk m h0_0 hy_4) fun v_8 G_5 Ho_9 w hl_6 m hQ_7 a f => ?_
 obtain ⟨rfl, rfl⟩ := hQ_7
 have h0_0 := RSl.mono (RSl.mono (RI.mono _)) _ _ _ _ hl_6 h0_0
 have h1 := RSl.mono (RI.mono _) _ _ _ _ hl_6 h1
 refine l_mv f rfl rfl fun a f => ?_
 obtain ⟨b_41, hj_42, hd⟩ := bind_some hd
 refine l_cut 5 (fun a w => ∃ G_39, GLe G_5 G_39 ∧ Mem W G_39 w (Itm.box b_2 27 [v0_0] :: H) ∧ Fr a 13 [(0, (.agg #[v0_0])), (1, v1), (2, (.pointer (some ⟨b_2, 0, none⟩))), (5, (.agg #[v0_0])), (6, (.bool y_3)), (7, (.bool y_3)), (12, (.bool b_41))]) ?_ ?_
 ·rcases cond_some hj_42 with ⟨hc_10, hj_42⟩ | ⟨hc_10, hj_42⟩
  ·refine l_run f rfl rfl hc_10 ?_
   refine l_mv f rfl rfl fun a f => ?_
   refine l_run f rfl rfl hc_10 ?_
   refine l_boxAgg 0 0 (ds := [v0_0]) m Ag27 f rfl rfl rfl rfl rfl fun a f => ?_
   refine l_run f rfl rfl hc_10 ?_
   obtain ⟨y_43, hy_44, hj_42⟩ := bind_some hj_42
   refine l_res f rfl rfl Tryd.call62 (Wk.spec_l1Size m h0_0 hy_44) fun v_48 G_45 Ho_49 w hl_46 m hQ_47 a f => ?_
   obtain ⟨rfl, rfl⟩ := hQ_47
   have h0_0 := RSl.mono (RSl.mono (RI.mono _)) _ _ _ _ hl_46 h0_0
   have h1 := RSl.mono (RI.mono _) _ _ _ _ hl_46 h1
   refine l_run f rfl rfl hc_10 ?_
   obtain ⟨y_50, hy_51, hj_42⟩ := bind_some hj_42
   refine l_res f rfl rfl Tryd.call61 (Wk.spec_l1Set m h1 hy_51) fun v_55 G_52 Ho_56 w hl_53 m hQ_54 a f => ?_
   obtain ⟨rfl, rfl⟩ := hQ_54
   have h0_0 := RSl.mono (RSl.mono (RI.mono _)) _ _ _ _ hl_53 h0_0
   have h1 := RSl.mono (RI.mono _) _ _ _ _ hl_53 h1
   refine l_op f rfl rfl rfl (r_pickT (f.eval rfl) hc_10 (f.eval rfl)) fun a f => ?_
   obtain rfl := sj hj_42
   exact ⟨_, (GLe.trans hl_46 hl_53), m, f.weak ⟨rfl, rfl, rfl, rfl, rfl, rfl, rfl, trivial⟩⟩
  ·refine l_not' f rfl rfl rfl hc_10 fun a f => ?_
   refine l_not' f rfl rfl rfl hc_10 fun a f => ?_
   refine l_not' f rfl rfl rfl hc_10 fun a f => ?_
   refine l_not' f rfl rfl rfl hc_10 fun a f => ?_
   refine l_op f rfl rfl rfl (r_pickF (f.eval rfl) hc_10 (f.eval rfl)) fun a f => ?_
   obtain rfl := sj hj_42
   exact ⟨_, (GLe.refl _), m, f.weak ⟨rfl, rfl, rfl, rfl, rfl, rfl, rfl, trivial⟩⟩
 ·rintro a w ⟨G_39, hl_40, m, f⟩
  have h0_0 := RSl.mono (RSl.mono (RI.mono _)) _ _ _ _ hl_40 h0_0
  have h1 := RSl.mono (RI.mono _) _ _ _ _ hl_40 h1
  refine l_as f rfl rfl fun a f => ?_
  refine l_nil ?_
  refine k_ret ?_
  have m : Mem W G_39 w H := Mem.drop (H' := [Itm.box b_2 27 [v0_0]]) m
  obtain rfl := sj hd
  exact ⟨[(.bool b_41)], ⟨f.get _ _ rfl, trivial⟩, f.defers, _, [], (GLe.trans hl_6 hl_40), m, rfl, rfl⟩

theorem Wk.impl_edgesOf {W w : World} {G : GH} {H : List Itm} {v0_0 : Value} {x0_0 : (List (List Int))} (m : Mem W G w (H)) (h0_0 : RSl (RSl (RI .i64)) G v0_0 x0_0) {y : ((List (List Int)))} (hd : D.impl_edgesOf x0_0 = some y) :
  Calls Tryd.prog 100 #[(.agg #[v0_0])] w (Res W G H (fun G' Ho v => ∃ r0 : Value, ∃ i0 : Itm, Ho = [i0] ∧ r0 = v ∧ Ow (RSl (RI .i64)) 36 G' i0 r0 y)) := by
 refine calls_b (args := [(.agg #[v0_0])]) (N := 35) [.tmp 2] Tryd.func100 rfl rfl (Nat.le_of_ble_eq_true rfl) rfl fun a f => ?_
 unfold D.impl_edgesOf at hd
 refine k_seq (k_region ?_)
 refine l_box (cs := [v0_0]) m f rfl rfl rfl fun b_2 w a m f => ?_
 refine l_as f rfl rfl fun a f => ?_
 refine l_nil (k_seq (k_region ?_))
 refine l_slit (R := (RSl (RI .i64))) (xs := ([] : List (List Int))) (RSl.one _) m T22 f rfl rfl rfl (by decide) (All2.nil _) fun it_3 v_4 w a m o_5 f => ?_
 refine l_as f rfl rfl fun a f => ?_
 refine l_nil (k_seq (k_seq (k_region ?_)))
 refine l_fieldAddr Tryd.underlying27 rfl Tryd.sizeOf22 (by decide) f rfl rfl fun a f => ?_
 refine l_boxCell 1 0 m Pl22 f rfl rfl rfl rfl fun a f => ?_
 refine l_len Tryd.underlying22 f rfl rfl h0_0 fun a f => ?_
 refine l_mv f rfl rfl fun a f => ?_
 refine l_nil ?_
 obtain ⟨q_284, hl_285, hd⟩ := bind_some hd
 refine k_cut (fun a w => ∃ l_434 : List (List Int), l_434 = q_284 ∧ ∃ (G_433 : GH) (v_435 : Value) (it_436 : Itm), GLe G G_433 ∧ Fr a 35 [(3, v_435)] ∧ Mem W G_433 w (it_436 :: H) ∧ Ow (RSl (RI .i64)) 36 G_433 it_436 v_435 l_434) ?_ ?_
 ·refine k_block ?_
  have m := m.eraseAt 1
  refine k_loop (fun s_288 a w => ∃ l_291 : List (List Int), ∃ x_296 : Int, (l_291, x_296) = s_288 ∧ ∃ (G_290 : GH) (v_292 : Value) (it_293 : Itm), GLe G G_290 ∧ Fr a 35 [(3, v_292), (10, v0_0), (11, (.int .i64 (x0_0.length : Int))), (12, (.int .i64 x_296))] ∧ Mem W G_290 w (it_293 :: H) ∧ Ow (RSl (RI .i64)) 36 G_290 it_293 v_292 l_291) hl_285 ⟨_, _, rfl, _, v_4, it_3, (GLe.refl _), f.weak ⟨rfl, rfl, rfl, rfl, trivial⟩, m, o_5⟩ ?_
  clear hl_285 f m
  rintro s_288 o_289 hs_286 hq_287 a w ⟨l_291, x_296, rfl, G_290, v_292, it_293, hl_297, f, m, o_294⟩
  have h0_0 := RSl.mono (RSl.mono (RI.mono _)) _ _ _ _ hl_297 h0_0
  refine k_seq (k_region ?_)
  refine l_in f rfl rfl rfl b_lss fun a f => ?_
  refine l_nil (k_seq ?_)
  rcases cond_some hs_286 with ⟨hc_440, hs_286⟩ | ⟨hc_440, hs_286⟩
  ·refine k_true f rfl hc_440 ?_
   refine k_skip ?_
   refine k_seq (k_block (k_seq (k_region ?_)))
   refine l_mv f rfl rfl fun a f => ?_
   obtain ⟨e_441, he_442, hs_286⟩ := bind_some hs_286
   refine l_at T22 f rfl rfl rfl h0_0 he_442 fun p_443 c_444 a g_445 h_446 f => ?_
   refine l_loadAt m Pl36 f rfl rfl g_445 fun a f => ?_
   refine l_as f rfl rfl fun a f => ?_
   refine l_as f rfl rfl fun a f => ?_
   refine l_nil (k_seq (k_region ?_))
   refine l_mv f rfl rfl fun a f => ?_
   refine l_len Tryd.underlying36 f rfl rfl h_446 fun a f => ?_
   refine l_mv f rfl rfl fun a f => ?_
   refine l_nil ?_
   obtain ⟨q_504, hl_505, hs_286⟩ := bind_some hs_286
   refine k_cut (fun a w => ∃ l_544 : List (List Int), l_544 = q_504 ∧ ∃ (G_543 : GH) (v_545 : Value) (it_546 : Itm), GLe G_290 G_543 ∧ Fr a 35 [(3, v_545), (10, v0_0), (11, (.int .i64 (x0_0.length : Int))), (12, (.int .i64 x_296))] ∧ Mem W G_543 w (it_546 :: H) ∧ Ow (RSl (RI .i64)) 36 G_543 it_546 v_545 l_544) ?_ ?_
   ·refine k_block ?_
    refine k_loop (fun s_508 a w => ∃ l_511 : List (List Int), ∃ x_516 : Int, (l_511, x_516) = s_508 ∧ ∃ (G_510 : GH) (v_512 : Value) (it_513 : Itm), GLe G_290 G_510 ∧ Fr a 35 [(3, v_512), (4, (.int .i64 x_296)), (10, v0_0), (11, (.int .i64 (x0_0.length : Int))), (12, (.int .i64 x_296)), (17, c_444), (18, (.int .i64 (e_441.length : Int))), (19, (.int .i64 x_516))] ∧ Mem W G_510 w (it_513 :: H) ∧ Ow (RSl (RI .i64)) 36 G_510 it_513 v_512 l_511) hl_505 ⟨_, _, rfl, _, v_292, it_293, (GLe.refl _), f.weak ⟨rfl, rfl, rfl, rfl, rfl, rfl, rfl, rfl, trivial⟩, m, o_294⟩ ?_
    clear hl_505 f m
    rintro s_508 o_509 hs_506 hq_507 a w ⟨l_511, x_516, rfl, G_510, v_512, it_513, hl_517, f, m, o_514⟩
    have h0_0 := RSl.mono (RSl.mono (RI.mono _)) _ _ _ _ hl_517 h0_0
    have h_446 := RSl.mono (RI.mono _) _ _ _ _ hl_517 h_446
    refine k_seq (k_region ?_)
    refine l_in f rfl rfl rfl b_lss fun a f => ?_
    refine l_nil (k_seq ?_)
    rcases cond_some hs_506 with ⟨hc_550, hs_506⟩ | ⟨hc_550, hs_506⟩
    ·refine k_true f rfl hc_550 ?_
     refine k_skip ?_
     refine k_seq (k_block (k_seq (k_region ?_)))
     obtain ⟨e_551, he_552, hs_506⟩ := bind_some hs_506
     refine l_at T36 f rfl rfl rfl h_446 he_552 fun p_553 c_554 a g_555 h_556 f => ?_
     subst h_556
     refine l_loadAt m Pl2 f rfl rfl g_555 fun a f => ?_
     refine l_as f rfl rfl fun a f => ?_
     refine l_nil (k_seq (k_region ?_))
     refine l_mv f rfl rfl fun a f => ?_
     refine l_mv f rfl rfl fun a f => ?_
     refine l_in f rfl rfl rfl b_lss fun a f => ?_
     refine l_nil ?_
     rcases cond_some hs_506 with ⟨hc_557, hs_506⟩ | ⟨hc_557, hs_506⟩
     ·refine k_true f rfl hc_557 ?_
      refine k_region ?_
      refine l_mv f rfl rfl fun a f => ?_
      refine l_mv f rfl rfl fun a f => ?_
      refine l_mv f rfl rfl fun a f => ?_
      refine l_slit (R := (RI .i64)) (xs := ([x_296, e_551] : List Int)) (RI.one _) m T36 f rfl rfl rfl (by decide) (All2.cons rfl (All2.cons rfl (All2.nil _))) fun it_558 v_559 w a m o_560 f => ?_
      obtain ⟨G_562, hl_563, m, h_564⟩ := Ow.stamp (RI.mono _) o_560 m
      have h0_0 := RSl.mono (RSl.mono (RI.mono _)) _ _ _ _ hl_563 h0_0
      have h_446 := RSl.mono (RI.mono _) _ _ _ _ hl_563 h_446
      have o_514 := Ow.mono (RSl.mono (RI.mono _)) hl_563 o_514
      refine l_slit (R := (RSl (RI .i64))) (xs := ([([x_296, e_551] : List Int)] : List (List Int))) (RSl.one _) m T22 f rfl rfl rfl (by decide) (All2.cons h_564 (All2.nil _)) fun it_565 v_566 w a m o_567 f => ?_
      obtain ⟨l_569, hx_570, hs_506⟩ := bind_some hs_506
      refine l_append (RSl.one _) 1 m o_514 rfl T22 rfl (by decide) f rfl rfl rfl (Ow.src (j := 0) o_567 m rfl) hx_570 fun it_571 v_572 w a m o_573 f => ?_
      refine l_as f rfl rfl fun a f => ?_
      refine l_nil (k_region ?_)
      refine l_in f rfl rfl rfl b_add fun a f => ?_
      refine l_mv f rfl rfl fun a f => ?_
      refine l_nil ?_
      have m := m.front 1 rfl
      have m := m.eraseAt 1
      obtain rfl := sj hs_506
      exact ⟨_, rfl, _, _, rfl, _, v_572, it_571, (GLe.trans hl_517 hl_563), f.weak ⟨rfl, rfl, rfl, rfl, rfl, rfl, rfl, rfl, trivial⟩, m, o_573⟩
     ·refine k_false f rfl hc_557 ?_
      refine k_skip ?_
      refine k_region ?_
      refine l_in f rfl rfl rfl b_add fun a f => ?_
      refine l_mv f rfl rfl fun a f => ?_
      refine l_nil ?_
      obtain rfl := sj hs_506
      exact ⟨_, rfl, _, _, rfl, _, v_512, it_513, hl_517, f.weak ⟨rfl, rfl, rfl, rfl, rfl, rfl, rfl, rfl, trivial⟩, m, o_514⟩
    ·refine k_false f rfl hc_550 ?_
     refine k_exit rfl ?_
     obtain rfl := sj hs_506
     obtain rfl := hq_507 _ rfl
     exact ⟨_, rfl, _, v_512, it_513, hl_517, f.weak ⟨rfl, rfl, rfl, rfl, trivial⟩, m, o_514⟩
   ·rintro a w ⟨l_544, rfl, G_543, v_545, it_546, hl_549, f, m, o_547⟩
    have h0_0 := RSl.mono (RSl.mono (RI.mono _)) _ _ _ _ hl_549 h0_0
    refine k_region ?_
    refine l_in f rfl rfl rfl b_add fun a f => ?_
    refine l_mv f rfl rfl fun a f => ?_
    refine l_nil ?_
    obtain rfl := sj hs_286
    exact ⟨_, rfl, _, _, rfl, _, v_545, it_546, (GLe.trans hl_297 hl_549), f.weak ⟨rfl, rfl, rfl, rfl, trivial⟩, m, o_547⟩
  ·refine k_false f rfl hc_440 ?_
   refine k_exit rfl ?_
   obtain rfl := sj hs_286
   obtain rfl := hq_287 _ rfl
   exact ⟨_, rfl, _, v_292, it_293, hl_297, f.weak ⟨rfl, trivial⟩, m, o_294⟩
 ·rintro a w ⟨l_434, rfl, G_433, v_435, it_436, hl_439, f, m, o_437⟩
  refine k_seq (k_region ?_)
  refine l_mv f rfl rfl fun a f => ?_
  refine l_as f rfl rfl fun a f => ?_
  refine l_nil ?_
  refine k_ret ?_
  obtain rfl := sj hd
  exact ⟨[v_435], ⟨f.get _ _ rfl, trivial⟩, f.defers, _, [it_436], hl_439, m, _, _, rfl, rfl, o_437⟩

theorem Wk.impl_EdgesOf {W w : World} {G : GH} {H : List Itm} {v0_0 : Value} {x0_0 : (List (List Int))} (m : Mem W G w (H)) (h0_0 : RSl (RSl (RI .i64)) G v0_0 x0_0) {y : ((List (List Int)))} (hd : D.impl_EdgesOf x0_0 = some y) :
  Calls Tryd.prog 65 #[(.agg #[v0_0])] w (Res W G H (fun G' Ho v => ∃ r0 : Value, ∃ i0 : Itm, Ho = [i0] ∧ r0 = v ∧ Ow (RSl (RI .i64)) 36 G' i0 r0 y)) := by
 refine calls_b (args := [(.agg #[v0_0])]) (N := 8) [.tmp 2] Tryd.func65 rfl rfl (Nat.le_of_ble_eq_true rfl) rfl fun a f => ?_
 unfold D.impl_EdgesOf at hd
 refine k_seq (k_region ?_)
 refine l_box (cs := [v0_0]) m f rfl rfl rfl fun b_2 w a m f => ?_
 refine l_as f rfl rfl fun a f => ?_
 refine l_nil (k_seq (k_seq (k_region ?_)))
 refine l_boxAgg 0 0 (ds := [v0_0]) m Ag27 f rfl rfl rfl rfl rfl fun a f => ?_
 obtain ⟨y_3, hy_4, hd⟩ := bind_some hd
 refine l_res f rfl rfl Tryd.call40 (Wk.impl_GraphOk m h0_0 hy_4) fun v_8 G_5 Ho_9 w hl_6 m hQ_7 a f => ?_
 obtain ⟨rfl, rfl⟩ := hQ_7
 have h0_0 := RSl.mono (RSl.mono (RI.mono _)) _ _ _ _ hl_6 h0_0
 refine l_op f rfl rfl rfl (r_not (f.eval rfl)) fun a f => ?_
 refine l_nil ?_
 rcases cond_some hd with ⟨hc_10, hd⟩ | ⟨hc_10, hd⟩
 ·refine k_true f rfl hc_10 ?_
  refine k_seq (k_region ?_)
  refine l_as f rfl rfl fun a f => ?_
  refine l_nil ?_
  refine k_ret ?_
  obtain ⟨it_11, m, o_12⟩ := Ow.nil (RSl (RI .i64)) 36 m
  have m := m.eraseAt 1
  obtain rfl := sj hd
  exact ⟨[(.slice none 0 0)], ⟨f.get _ _ rfl, trivial⟩, f.defers, _, [it_11], hl_6, m, _, _, rfl, rfl, o_12⟩
 ·refine k_false f rfl hc_10 ?_
  refine k_skip ?_
  refine k_seq (k_region ?_)
  refine l_boxAgg 0 0 (ds := [v0_0]) m Ag27 f rfl rfl rfl rfl rfl fun a f => ?_
  obtain ⟨y_14, hy_15, hd⟩ := bind_some hd
  refine l_res f rfl rfl Tryd.call100 (Wk.impl_edgesOf m h0_0 hy_15) fun v_19 G_16 Ho_20 w hl_17 m hQ_18 a f => ?_
  obtain ⟨v_21, it_22, rfl, rfl, o_23⟩ := hQ_18
  have h0_0 := RSl.mono (RSl.mono (RI.mono _)) _ _ _ _ hl_17 h0_0
  refine l_as f rfl rfl fun a f => ?_
  refine l_nil ?_
  refine k_ret ?_
  have m := m.eraseAt 1
  obtain rfl := sj hd
  exact ⟨[v_21], ⟨f.get _ _ rfl, trivial⟩, f.defers, _, [it_22], (GLe.trans hl_6 hl_17), m, _, _, rfl, rfl, o_23⟩

theorem Wk.impl_ManyEdges {W w : World} {G : GH} {H : List Itm} {v0_0 : Value} {x0_0 : (List (List Int))} (m : Mem W G w (H)) (h0_0 : RSl (RSl (RI .i64)) G v0_0 x0_0) {y : Int} (hd : D.impl_ManyEdges x0_0 = some y) :
  Calls Tryd.prog 24 #[(.agg #[v0_0])] w (Res W G H (fun _ Ho v => Ho = [] ∧ v = (.int .i64 y))) := by
 refine calls_b (args := [(.agg #[v0_0])]) (N := 6) [.tmp 2] Tryd.func24 rfl rfl (Nat.le_of_ble_eq_true rfl) rfl fun a f => ?_
 unfold D.impl_ManyEdges at hd
 refine k_seq (k_region ?_)
 refine l_box (cs := [v0_0]) m f rfl rfl rfl fun b_2 w a m f => ?_
 refine l_as f rfl rfl fun a f => ?_
 refine l_nil (k_seq (k_region ?_))
 refine l_boxAgg 0 0 (ds := [v0_0]) m Ag27 f rfl rfl rfl rfl rfl fun a f => ?_
 obtain ⟨y_3, hy_4, hd⟩ := bind_some hd
 refine l_res f rfl rfl Tryd.call65 (Wk.impl_EdgesOf m h0_0 hy_4) fun v_8 G_5 Ho_9 w hl_6 m hQ_7 a f => ?_
 obtain ⟨v_10, it_11, rfl, rfl, o_12⟩ := hQ_7
 have h0_0 := RSl.mono (RSl.mono (RI.mono _)) _ _ _ _ hl_6 h0_0
 refine l_own_len 0 m o_12 rfl Tryd.underlying22 f rfl rfl fun a f => ?_
 refine l_as f rfl rfl fun a f => ?_
 refine l_nil ?_
 refine k_ret ?_
 have m : Mem W G_5 w H := Mem.drop (H' := [it_11, Itm.box b_2 27 [v0_0]]) m
 obtain rfl := sj hd
 exact ⟨[(.int .i64 (y_3.length : Int))], ⟨f.get _ _ rfl, trivial⟩, f.defers, _, [], hl_6, m, rfl, rfl⟩

theorem Wk.spec_l1Edges {W w : World} {G : GH} {H : List Itm} {v0_0 : Value} {x0_0 : (List (List Int))} (m : Mem W G w (H)) (h0_0 : RSl (RSl (RI .i64)) G v0_0 x0_0) {y : ((List (List Int)))} (hd : D.spec_l1Edges x0_0 = some y) :
  Calls Tryd.prog 66 #[(.agg #[v0_0])] w (Res W G H (fun G' Ho v => ∃ r0 : Value, ∃ i0 : Itm, Ho = [i0] ∧ r0 = v ∧ Ow (RSl (RI .i64)) 36 G' i0 r0 y)) := by
 refine calls_b (args := [(.agg #[v0_0])]) (N := 47) [.tmp 2] Tryd.func66 rfl rfl (Nat.le_of_ble_eq_true rfl) rfl fun a f => ?_
 unfold D.spec_l1Edges at hd
 refine k_seq (k_region ?_)
 refine l_box (cs := [v0_0]) m f rfl rfl rfl fun b_2 w a m f => ?_
 refine l_as f rfl rfl fun a f => ?_
 refine l_nil (k_seq (k_region ?_))
 refine l_slit (R := (RSl (RI .i64))) (xs := ([] : List (List Int))) (RSl.one _) m T22 f rfl rfl rfl (by decide) (All2.nil _) fun it_3 v_4 w a m o_5 f => ?_
 refine l_as f rfl rfl fun a f => ?_
 refine l_nil (k_seq (k_seq (k_region ?_)))
 refine l_as f rfl rfl fun a f => ?_
 refine l_nil ?_
 obtain ⟨q_478, hl_479, hd⟩ := bind_some hd
 refine k_cut (fun a w => ∃ l_725 : List (List Int), l_725 = q_478 ∧ ∃ (G_724 : GH) (v_726 : Value) (it_727 : Itm), GLe G G_724 ∧ Fr a 47 [(3, v_726)] ∧ Mem W G_724 w (it_727 :: H) ∧ Ow (RSl (RI .i64)) 36 G_724 it_727 v_726 l_725) ?_ ?_
 ·refine k_block ?_
  have m := m.front 1 rfl
  refine k_loop (fun s_482 a w => ∃ l_485 : List (List Int), ∃ x_490 : Int, (l_485, x_490) = s_482 ∧ ∃ (G_484 : GH) (v_486 : Value) (it_487 : Itm), GLe G G_484 ∧ Fr a 47 [(1, (.pointer (some ⟨b_2, 0, none⟩))), (3, v_486), (4, (.int .i64 x_490))] ∧ Mem W G_484 w (Itm.box b_2 27 [v0_0] :: it_487 :: H) ∧ Ow (RSl (RI .i64)) 36 G_484 it_487 v_486 l_485) hl_479 ⟨_, _, rfl, _, v_4, it_3, (GLe.refl _), f.weak ⟨rfl, rfl, rfl, trivial⟩, m, o_5⟩ ?_
  clear hl_479 f m
  rintro s_482 o_483 hs_480 hq_481 a w ⟨l_485, x_490, rfl, G_484, v_486, it_487, hl_491, f, m, o_488⟩
  have h0_0 := RSl.mono (RSl.mono (RI.mono _)) _ _ _ _ hl_491 h0_0
  refine k_seq (k_seq (k_region ?_))
  refine l_mv f rfl rfl fun a f => ?_
  refine l_boxAgg 0 0 (ds := [v0_0]) m Ag27 f rfl rfl rfl rfl rfl fun a f => ?_
  obtain ⟨y_731, hy_732, hs_480⟩ := bind_some hs_480
  refine l_res f rfl rfl Tryd.call62 (Wk.spec_l1Size m h0_0 hy_732) fun v_736 G_733 Ho_737 w hl_734 m hQ_735 a f => ?_
  obtain ⟨rfl, rfl⟩ := hQ_735
  have h0_0 := RSl.mono (RSl.mono (RI.mono _)) _ _ _ _ hl_734 h0_0
  have o_488 := Ow.mono (RSl.mono (RI.mono _)) hl_734 o_488
  refine l_in f rfl rfl rfl b_lss fun a f => ?_
  refine l_nil ?_
  rcases cond_some hs_480 with ⟨hc_738, hs_480⟩ | ⟨hc_738, hs_480⟩
  ·refine k_true f rfl hc_738 ?_
   refine k_skip ?_
   refine k_seq (k_block (k_seq (k_region ?_)))
   refine l_as f rfl rfl fun a f => ?_
   refine l_nil ?_
   obtain ⟨q_844, hl_845, hs_480⟩ := bind_some hs_480
   refine k_cut (fun a w => ∃ l_908 : List (List Int), l_908 = q_844 ∧ ∃ (G_907 : GH) (v_909 : Value) (it_910 : Itm), GLe G_733 G_907 ∧ Fr a 47 [(1, (.pointer (some ⟨b_2, 0, none⟩))), (3, v_909), (4, (.int .i64 x_490))] ∧ Mem W G_907 w (Itm.box b_2 27 [v0_0] :: it_910 :: H) ∧ Ow (RSl (RI .i64)) 36 G_907 it_910 v_909 l_908) ?_ ?_
   ·refine k_block ?_
    have m := m.front 1 rfl
    have m := m.front 1 rfl
    refine k_loop (fun s_848 a w => ∃ l_851 : List (List Int), ∃ x_856 : Int, (l_851, x_856) = s_848 ∧ ∃ (G_850 : GH) (v_852 : Value) (it_853 : Itm), GLe G_733 G_850 ∧ Fr a 47 [(1, (.pointer (some ⟨b_2, 0, none⟩))), (3, v_852), (4, (.int .i64 x_490)), (5, (.int .i64 x_856))] ∧ Mem W G_850 w (Itm.box b_2 27 [v0_0] :: it_853 :: H) ∧ Ow (RSl (RI .i64)) 36 G_850 it_853 v_852 l_851) hl_845 ⟨_, _, rfl, _, v_486, it_487, (GLe.refl _), f.weak ⟨rfl, rfl, rfl, rfl, trivial⟩, m, o_488⟩ ?_
    clear hl_845 f m
    rintro s_848 o_849 hs_846 hq_847 a w ⟨l_851, x_856, rfl, G_850, v_852, it_853, hl_857, f, m, o_854⟩
    have h0_0 := RSl.mono (RSl.mono (RI.mono _)) _ _ _ _ hl_857 h0_0
    refine k_seq (k_seq (k_region ?_))
    refine l_mv f rfl rfl fun a f => ?_
    refine l_fieldAddr Tryd.underlying27 rfl Tryd.sizeOf22 (by decide) f rfl rfl fun a f => ?_
    refine l_boxCell 0 0 m Pl22 f rfl rfl rfl rfl fun a f => ?_
    refine l_mv f rfl rfl fun a f => ?_
    obtain ⟨e_914, he_915, hs_846⟩ := bind_some hs_846
    refine l_at T22 f rfl rfl rfl h0_0 he_915 fun p_916 c_917 a g_918 h_919 f => ?_
    refine l_loadAt m Pl36 f rfl rfl g_918 fun a f => ?_
    refine l_len Tryd.underlying36 f rfl rfl h_919 fun a f => ?_
    refine l_in f rfl rfl rfl b_lss fun a f => ?_
    refine l_nil ?_
    rcases cond_some hs_846 with ⟨hc_920, hs_846⟩ | ⟨hc_920, hs_846⟩
    ·refine k_true f rfl hc_920 ?_
     refine k_skip ?_
     refine k_seq (k_block (k_seq (k_region ?_)))
     refine l_fieldAddr Tryd.underlying27 rfl Tryd.sizeOf22 (by decide) f rfl rfl fun a f => ?_
     refine l_boxCell 0 0 m Pl22 f rfl rfl rfl rfl fun a f => ?_
     refine l_mv f rfl rfl fun a f => ?_
     obtain ⟨e_921, he_922, hs_846⟩ := bind_some hs_846
     refine l_at T22 f rfl rfl rfl h0_0 he_922 fun p_923 c_924 a g_925 h_926 f => ?_
     refine l_loadAt m Pl36 f rfl rfl g_925 fun a f => ?_
     refine l_mv f rfl rfl fun a f => ?_
     obtain ⟨e_927, he_928, hs_846⟩ := bind_some hs_846
     refine l_at T36 f rfl rfl rfl h_926 he_928 fun p_929 c_930 a g_931 h_932 f => ?_
     subst h_932
     refine l_loadAt m Pl2 f rfl rfl g_931 fun a f => ?_
     refine l_mv f rfl rfl fun a f => ?_
     refine l_in f rfl rfl rfl b_gtr fun a f => ?_
     refine l_nil ?_
     rcases cond_some hs_846 with ⟨hc_933, hs_846⟩ | ⟨hc_933, hs_846⟩
     ·refine k_true f rfl hc_933 ?_
      refine k_region ?_
      refine l_mv f rfl rfl fun a f => ?_
      refine l_mv f rfl rfl fun a f => ?_
      refine l_fieldAddr Tryd.underlying27 rfl Tryd.sizeOf22 (by decide) f rfl rfl fun a f => ?_
      refine l_boxCell 0 0 m Pl22 f rfl rfl rfl rfl fun a f => ?_
      refine l_mv f rfl rfl fun a f => ?_
      obtain ⟨e_934, he_935, hs_846⟩ := bind_some hs_846
      refine l_at T22 f rfl rfl rfl h0_0 he_935 fun p_936 c_937 a g_938 h_939 f => ?_
      refine l_loadAt m Pl36 f rfl rfl g_938 fun a f => ?_
      refine l_mv f rfl rfl fun a f => ?_
      obtain ⟨e_940, he_941, hs_846⟩ := bind_some hs_846
      refine l_at T36 f rfl rfl rfl h_939 he_941 fun p_942 c_943 a g_944 h_945 f => ?_
      subst h_945
      refine l_loadAt m Pl2 f rfl rfl g_944 fun a f => ?_
      refine l_slit (R := (RI .i64)) (xs := ([x_490, e_940] : List Int)) (RI.one _) m T36 f rfl rfl rfl (by decide) (All2.cons rfl (All2.cons rfl (All2.nil _))) fun it_946 v_947 w a m o_948 f => ?_
      obtain ⟨G_950, hl_951, m, h_952⟩ := Ow.stamp (RI.mono _) o_948 m
      have h0_0 := RSl.mono (RSl.mono (RI.mono _)) _ _ _ _ hl_951 h0_0
      have g_938 := At.mono hl_951 g_938
      have h_939 := RSl.mono (RI.mono _) _ _ _ _ hl_951 h_939
      have g_944 := At.mono hl_951 g_944
      have o_854 := Ow.mono (RSl.mono (RI.mono _)) hl_951 o_854
      refine l_slit (R := (RSl (RI .i64))) (xs := ([([x_490, e_940] : List Int)] : List (List Int))) (RSl.one _) m T22 f rfl rfl rfl (by decide) (All2.cons h_952 (All2.nil _)) fun it_953 v_954 w a m o_955 f => ?_
      obtain ⟨l_957, hx_958, hs_846⟩ := bind_some hs_846
      refine l_append (RSl.one _) 2 m o_854 rfl T22 rfl (by decide) f rfl rfl rfl (Ow.src (j := 0) o_955 m rfl) hx_958 fun it_959 v_960 w a m o_961 f => ?_
      refine l_as f rfl rfl fun a f => ?_
      refine l_nil (k_region ?_)
      refine l_mv f rfl rfl fun a f => ?_
      refine l_in f rfl rfl rfl b_add fun a f => ?_
      refine l_as f rfl rfl fun a f => ?_
      refine l_nil ?_
      have m := m.front 2 rfl
      have m := m.front 2 rfl
      have m := m.eraseAt 2
      obtain rfl := sj hs_846
      exact ⟨_, rfl, _, _, rfl, _, v_960, it_959, (GLe.trans hl_857 hl_951), f.weak ⟨rfl, rfl, rfl, rfl, trivial⟩, m, o_961⟩
     ·refine k_false f rfl hc_933 ?_
      refine k_skip ?_
      refine k_region ?_
      refine l_mv f rfl rfl fun a f => ?_
      refine l_in f rfl rfl rfl b_add fun a f => ?_
      refine l_as f rfl rfl fun a f => ?_
      refine l_nil ?_
      have m := m.front 1 rfl
      have m := m.front 1 rfl
      obtain rfl := sj hs_846
      exact ⟨_, rfl, _, _, rfl, _, v_852, it_853, hl_857, f.weak ⟨rfl, rfl, rfl, rfl, trivial⟩, m, o_854⟩
    ·refine k_false f rfl hc_920 ?_
     refine k_exit rfl ?_
     have m := m.front 1 rfl
     have m := m.front 1 rfl
     obtain rfl := sj hs_846
     obtain rfl := hq_847 _ rfl
     exact ⟨_, rfl, _, v_852, it_853, hl_857, f.weak ⟨rfl, rfl, rfl, trivial⟩, m, o_854⟩
   ·rintro a w ⟨l_908, rfl, G_907, v_909, it_910, hl_913, f, m, o_911⟩
    have h0_0 := RSl.mono (RSl.mono (RI.mono _)) _ _ _ _ hl_913 h0_0
    refine k_region ?_
    refine l_mv f rfl rfl fun a f => ?_
    refine l_in f rfl rfl rfl b_add fun a f => ?_
    refine l_as f rfl rfl fun a f => ?_
    refine l_nil ?_
    have m := m.front 1 rfl
    have m := m.front 1 rfl
    obtain rfl := sj hs_480
    exact ⟨_, rfl, _, _, rfl, _, v_909, it_910, (GLe.trans hl_491 (GLe.trans hl_734 hl_913)), f.weak ⟨rfl, rfl, rfl, trivial⟩, m, o_911⟩
  ·refine k_false f rfl hc_738 ?_
   refine k_exit rfl ?_
   have m := m.front 1 rfl
   have m := m.eraseAt 1
   obtain rfl := sj hs_480
   obtain rfl := hq_481 _ rfl
   exact ⟨_, rfl, _, v_486, it_487, (GLe.trans hl_491 hl_734), f.weak ⟨rfl, trivial⟩, m, o_488⟩
 ·rintro a w ⟨l_725, rfl, G_724, v_726, it_727, hl_730, f, m, o_728⟩
  refine k_seq (k_region ?_)
  refine l_mv f rfl rfl fun a f => ?_
  refine l_as f rfl rfl fun a f => ?_
  refine l_nil ?_
  refine k_ret ?_
  obtain rfl := sj hd
  exact ⟨[v_726], ⟨f.get _ _ rfl, trivial⟩, f.defers, _, [it_727], hl_730, m, _, _, rfl, rfl, o_728⟩

theorem Wk.spec_ManyEdges {W w : World} {G : GH} {H : List Itm} {v0_0 : Value} {x0_0 : (List (List Int))} (m : Mem W G w (H)) (h0_0 : RSl (RSl (RI .i64)) G v0_0 x0_0) {y : Int} (hd : D.spec_ManyEdges x0_0 = some y) :
  Calls Tryd.prog 25 #[(.agg #[v0_0])] w (Res W G H (fun _ Ho v => Ho = [] ∧ v = (.int .i64 y))) := by
 refine calls_b (args := [(.agg #[v0_0])]) (N := 9) [.tmp 2] Tryd.func25 rfl rfl (Nat.le_of_ble_eq_true rfl) rfl fun a f => ?_
 unfold D.spec_ManyEdges at hd
 refine k_seq (k_region ?_)
 refine l_box (cs := [v0_0]) m f rfl rfl rfl fun b_2 w a m f => ?_
 refine l_as f rfl rfl fun a f => ?_
 refine l_nil (k_seq (k_seq (k_region ?_)))
 refine l_boxAgg 0 0 (ds := [v0_0]) m Ag27 f rfl rfl rfl rfl rfl fun a f => ?_
 obtain ⟨y_3, hy_4, hd⟩ := bind_some hd
 refine l_res f rfl rfl Tryd.call23 (Wk.spec_GraphOk m h0_0 hy_4) fun v_8 G_5 Ho_9 w hl_6 m hQ_7 a f => ?_
 obtain ⟨rfl, rfl⟩ := hQ_7
 have h0_0 := RSl.mono (RSl.mono (RI.mono _)) _ _ _ _ hl_6 h0_0
 refine l_op f rfl rfl rfl (r_not (f.eval rfl)) fun a f => ?_
 refine l_nil ?_
 rcases cond_some hd with ⟨hc_10, hd⟩ | ⟨hc_10, hd⟩
 ·refine k_true f rfl hc_10 ?_
  refine k_seq (k_region ?_)
  refine l_as f rfl rfl fun a f => ?_
  refine l_nil ?_
  refine k_ret ?_
  have m : Mem W G_5 w H := Mem.drop (H' := [Itm.box b_2 27 [v0_0]]) m
  obtain rfl := sj hd
  exact ⟨[(.int .i64 0)], ⟨f.get _ _ rfl, trivial⟩, f.defers, _, [], hl_6, m, rfl, rfl⟩
 ·refine k_false f rfl hc_10 ?_
  refine k_skip ?_
  refine k_seq (k_region ?_)
  refine l_boxAgg 0 0 (ds := [v0_0]) m Ag27 f rfl rfl rfl rfl rfl fun a f => ?_
  obtain ⟨y_11, hy_12, hd⟩ := bind_some hd
  refine l_res f rfl rfl Tryd.call66 (Wk.spec_l1Edges m h0_0 hy_12) fun v_16 G_13 Ho_17 w hl_14 m hQ_15 a f => ?_
  obtain ⟨v_18, it_19, rfl, rfl, o_20⟩ := hQ_15
  have h0_0 := RSl.mono (RSl.mono (RI.mono _)) _ _ _ _ hl_14 h0_0
  refine l_own_len 0 m o_20 rfl Tryd.underlying22 f rfl rfl fun a f => ?_
  refine l_as f rfl rfl fun a f => ?_
  refine l_nil ?_
  refine k_ret ?_
  have m : Mem W G_13 w H := Mem.drop (H' := [it_19, Itm.box b_2 27 [v0_0]]) m
  obtain rfl := sj hd
  exact ⟨[(.int .i64 (y_11.length : Int))], ⟨f.get _ _ rfl, trivial⟩, f.defers, _, [], (GLe.trans hl_6 hl_14), m, rfl, rfl⟩

theorem Wk.laws_FnSetsOk {W w : World} {G : GH} {H : List Itm} {v0 : Value} {x0 : (List Int)} (hW : TabW W) (m : Mem W G w (H)) (h0 : RSl (RI .u8) G v0 x0) {y : Bool} (hd : D.laws_FnSetsOk x0 = some y) :
  Calls Tryd.prog 4 #[v0] w (Res W G H (fun _ Ho v => Ho = [] ∧ v = (.bool y))) := by
 refine calls_b (args := [v0]) (N := 63) [.tmp 2] Tryd.func4 rfl rfl (Nat.le_of_ble_eq_true rfl) rfl fun a f => ?_
 unfold D.laws_FnSetsOk at hd
 refine k_seq (k_region ?_)
 refine l_as f rfl rfl fun a f => ?_
 refine l_nil (k_seq (k_seq (k_region ?_)))
 refine l_mv f rfl rfl fun a f => ?_
 obtain ⟨y_1, hy_2, hd⟩ := bind_some hd
 refine l_res f rfl rfl Tryd.call15 (Wk.laws_big m h0 hy_2) fun v_6 G_3 Ho_7 w hl_4 m hQ_5 a f => ?_
 obtain ⟨rfl, rfl⟩ := hQ_5
 have h0 := RSl.mono (RI.mono _) _ _ _ _ hl_4 h0
 refine l_nil ?_
 rcases cond_some hd with ⟨hc_8, hd⟩ | ⟨hc_8, hd⟩
 ·refine k_true f rfl hc_8 ?_
  refine k_seq (k_region ?_)
  refine l_as f rfl rfl fun a f => ?_
  refine l_nil ?_
  refine k_ret ?_
  obtain rfl := sj hd
  exact ⟨[(.bool true)], ⟨f.get _ _ rfl, trivial⟩, f.defers, _, [], hl_4, m, rfl, rfl⟩
 ·refine k_false f rfl hc_8 ?_
  refine k_skip ?_
  refine k_seq (k_region ?_)
  refine l_mv f rfl rfl fun a f => ?_
  obtain ⟨y_9, hy_10, hd⟩ := bind_some hd
  refine l_res f rfl rfl Tryd.call16 (Wk.spec_DrawOrderOk m h0 hy_10) fun v_14 G_11 Ho_15 w hl_12 m hQ_13 a f => ?_
  obtain ⟨v_16, v_18, it_19, rfl, rfl, h_17, o_20⟩ := hQ_13
  have h0 := RSl.mono (RI.mono _) _ _ _ _ hl_12 h0
  refine l_mv f rfl rfl fun a f => ?_
  refine l_op f rfl rfl rfl (r_extract (f.eval rfl) rfl) fun a f => ?_
  refine l_op f rfl rfl rfl (r_extract (f.eval rfl) rfl) fun a f => ?_
  refine l_alloc (cs := [(.slice none 0 0)]) Tryd.zeroValue27 m f rfl rfl fun b_23 w a m f => ?_
  refine l_boxStore 0 0 (ds := [v_16]) m Tryd.sizeOf27 f rfl rfl rfl (ones_cons h_17.one1 ones_nil) rfl (Nat.le_of_ble_eq_true rfl) rfl fun w m => ?_
  refine l_as f rfl rfl fun a f => ?_
  refine l_nil (k_seq (k_region ?_))
  refine l_boxAgg 0 0 (ds := [v_16]) m Ag27 f rfl rfl rfl rfl rfl fun a f => ?_
  refine l_mv f rfl rfl fun a f => ?_
  obtain ⟨y_24, hy_25, hd⟩ := bind_some hd
  refine l_res f rfl rfl Tryd.call17 (Ow.lendCall (RI.mono _) 1 o_20 m rfl (fun G_26 hl_27 m h_28 => Wk.impl_OrderOk m (RSl.mono (RSl.mono (RI.mono _)) _ _ _ _ hl_27 h_17) h_28 hy_25) (fun _ _ _ _ h => h)) fun v_32 G_29 Ho_33 w hl_30 m hQ_31 a f => ?_
  obtain ⟨rfl, rfl⟩ := hQ_31
  have h0 := RSl.mono (RI.mono _) _ _ _ _ hl_30 h0
  have h_17 := RSl.mono (RSl.mono (RI.mono _)) _ _ _ _ hl_30 h_17
  have o_20 := Ow.mono (RI.mono _) hl_30 o_20
  refine l_as f rfl rfl fun a f => ?_
  refine l_nil (k_seq (k_seq (k_region ?_)))
  refine l_mv f rfl rfl fun a f => ?_
  refine l_boxAgg 0 0 (ds := [v_16]) m Ag27 f rfl rfl rfl rfl rfl fun a f => ?_
  refine l_mv f rfl rfl fun a f => ?_
  obtain ⟨y_34, hy_35, hd⟩ := bind_some hd
  refine l_res f rfl rfl Tryd.call18 (Ow.lendCall (RI.mono _) 1 o_20 m rfl (fun G_36 hl_37 m h_38 => Wk.spec_OrderOk m (RSl.mono (RSl.mono (RI.mono _)) _ _ _ _ hl_37 h_17) h_38 hy_35) (fun _ _ _ _ h => h)) fun v_42 G_39 Ho_43 w hl_40 m hQ_41 a f => ?_
  obtain ⟨rfl, rfl⟩ := hQ_41
  have h0 := RSl.mono (RI.mono _) _ _ _ _ hl_40 h0
  have h_17 := RSl.mono (RSl.mono (RI.mono _)) _ _ _ _ hl_40 h_17
  have o_20 := Ow.mono (RI.mono _) hl_40 o_20
  refine l_op f rfl rfl rfl (r_bool_neq (f.eval rfl) (f.eval rfl) Tryd.underlying4) fun a f => ?_
  refine l_nil ?_
  rcases cond_some hd with ⟨hc_44, hd⟩ | ⟨hc_44, hd⟩
  ·refine k_true f rfl hc_44 ?_
   refine k_seq (k_region ?_)
   refine l_as f rfl rfl fun a f => ?_
   refine l_nil ?_
   refine k_ret ?_
   have m : Mem W G_39 w H := Mem.drop (H' := [Itm.box b_23 27 [v_16], it_19]) m
   obtain rfl := sj hd
   exact ⟨[(.bool false)], ⟨f.get _ _ rfl, trivial⟩, f.defers, _, [], (GLe.trans hl_4 (GLe.trans hl_12 (GLe.trans hl_30 hl_40))), m, rfl, rfl⟩
  ·refine k_false f rfl hc_44 ?_
   refine k_skip ?_
   refine k_seq (k_region ?_)
   refine l_mv f rfl rfl fun a f => ?_
   obtain ⟨y_45, hy_46, hd⟩ := bind_some hd
   refine l_res f rfl rfl Tryd.call19 (Wk.spec_DrawSetOk m h0 hy_46) fun v_50 G_47 Ho_51 w hl_48 m hQ_49 a f => ?_
   obtain ⟨v_52, v_54, it_55, rfl, rfl, h_53, o_56⟩ := hQ_49
   have h0 := RSl.mono (RI.mono _) _ _ _ _ hl_48 h0
   have h_17 := RSl.mono (RSl.mono (RI.mono _)) _ _ _ _ hl_48 h_17
   have o_20 := Ow.mono (RI.mono _) hl_48 o_20
   refine l_mv f rfl rfl fun a f => ?_
   refine l_op f rfl rfl rfl (r_extract (f.eval rfl) rfl) fun a f => ?_
   refine l_op f rfl rfl rfl (r_extract (f.eval rfl) rfl) fun a f => ?_
   refine l_alloc (cs := [(.slice none 0 0)]) Tryd.zeroValue27 m f rfl rfl fun b_59 w a m f => ?_
   refine l_boxStore 0 0 (ds := [v_52]) m Tryd.sizeOf27 f rfl rfl rfl (ones_cons h_53.one1 ones_nil) rfl (Nat.le_of_ble_eq_true rfl) rfl fun w m => ?_
   refine l_as f rfl rfl fun a f => ?_
   refine l_nil (k_seq (k_region ?_))
   refine l_boxAgg 2 0 (ds := [v_16]) m Ag27 f rfl rfl rfl rfl rfl fun a f => ?_
   refine l_mv f rfl rfl fun a f => ?_
   have m := m.front 3 rfl
   obtain ⟨G_60, hl_61, m, h_62⟩ := Ow.stamp (RI.mono _) o_20 m
   have h0 := RSl.mono (RI.mono _) _ _ _ _ hl_61 h0
   have h_17 := RSl.mono (RSl.mono (RI.mono _)) _ _ _ _ hl_61 h_17
   have h_53 := RSl.mono (RSl.mono (RI.mono _)) _ _ _ _ hl_61 h_53
   have o_56 := Ow.mono (RI.mono _) hl_61 o_56
   obtain ⟨y_63, hy_64, hd⟩ := bind_some hd
   refine l_res f rfl rfl Tryd.call20 (Wk.impl_Renamed hW m h_17 h_62 hy_64) fun v_68 G_65 Ho_69 w hl_66 m hQ_67 a f => ?_
   obtain ⟨v_70, it_71, rfl, rfl, o_72⟩ := hQ_67
   have h0 := RSl.mono (RI.mono _) _ _ _ _ hl_66 h0
   have h_62 := RSl.mono (RI.mono _) _ _ _ _ hl_66 h_62
   have h_17 := RSl.mono (RSl.mono (RI.mono _)) _ _ _ _ hl_66 h_17
   have h_53 := RSl.mono (RSl.mono (RI.mono _)) _ _ _ _ hl_66 h_53
   have o_56 := Ow.mono (RI.mono _) hl_66 o_56
   refine l_mv f rfl rfl fun a f => ?_
   refine l_op f rfl rfl rfl (r_extract (f.eval rfl) rfl) fun a f => ?_
   refine l_op f rfl rfl rfl (r_extract (f.eval rfl) rfl) fun a f => ?_
   refine l_alloc (cs := [(.slice none 0 0)]) Tryd.zeroValue27 m f rfl rfl fun b_75 w a m f => ?_
   refine l_boxStore 0 0 (ds := [v_70]) m Tryd.sizeOf27 f rfl rfl rfl (ones_cons (Ow.one1 1 m o_72 rfl) ones_nil) rfl (Nat.le_of_ble_eq_true rfl) rfl fun w m => ?_
   refine l_as f rfl rfl fun a f => ?_
   refine l_nil (k_seq ?_)
   refine k_draw 28 Follows (by kernel_rfl) m ?_
   refine q_boxAgg (i := 0) (ds := [v_52]) 28 2 Ag27 rfl rfl rfl rfl (by kernel_rfl) rfl f rfl rfl rfl fun a f => ?_
   refine q_mv 1 28 rfl (by kernel_rfl) f rfl rfl rfl fun a f => ?_
   obtain ⟨y_76, hy_77, hd⟩ := bind_some hd
   refine q_call (i := 2) 28 rfl (by kernel_rfl) rfl f rfl rfl rfl Tryd.call21 (fun _ _ w hG_78 m => (Ow.lendCallR (RI.mono _) 3 (Ow.mono (RI.mono _) hG_78 o_56) m rfl (fun G_79 hl_80 m h_81 => Wk.impl_SetOk m (RSl.mono (RSl.mono (RI.mono _)) _ _ _ _ hl_80 (RSl.mono (RSl.mono (RI.mono _)) _ _ _ _ hG_78 h_53)) h_81 hy_77) (fun _ _ _ _ h => h))) fun a f => ?_
   refine q_boxAgg (i := 3) (ds := [v_52]) 28 2 Ag27 rfl rfl rfl rfl (by kernel_rfl) rfl f rfl rfl rfl fun a f => ?_
   refine q_mv 4 28 rfl (by kernel_rfl) f rfl rfl rfl fun a f => ?_
   obtain ⟨y_82, hy_83, hd⟩ := bind_some hd
   refine q_call (i := 5) 28 rfl (by kernel_rfl) rfl f rfl rfl rfl Tryd.call22 (fun _ _ w hG_84 m => (Ow.lendCallR (RI.mono _) 3 (Ow.mono (RI.mono _) hG_84 o_56) m rfl (fun G_85 hl_86 m h_87 => Wk.spec_SetOk m (RSl.mono (RSl.mono (RI.mono _)) _ _ _ _ hl_86 (RSl.mono (RSl.mono (RI.mono _)) _ _ _ _ hG_84 h_53)) h_87 hy_83) (fun _ _ _ _ h => h))) fun a f => ?_
   refine q_p 6 28 rfl (by kernel_rfl) f rfl rfl rfl (fun _ => r_bool_eql (f.eval rfl) (f.eval rfl) Tryd.underlying4) fun a f => ?_
   refine q_mv 7 28 rfl (by kernel_rfl) f rfl rfl rfl fun a f => ?_
   refine q_cut (fuel' := 16) (listed' := #[true, true, true, true, true, true, true, true, true, true, true, true, false, false, false, false, false, false, false, false, false, false, false, false, false, false, false, false]) (fun a => Fr a 63 [(0, v0), (3, (.pointer (some ⟨b_23, 0, none⟩))), (4, v_18), (5, (.bool y_24)), (6, (.pointer (some ⟨b_59, 0, none⟩))), (7, v_54), (8, (.pointer (some ⟨b_75, 0, none⟩))), (9, (.bool y_63.2)), (36, (.agg #[v_52])), (37, v_54), (38, (.bool y_76)), (39, (.agg #[v_52])), (40, v_54), (41, (.bool y_82)), (42, (.bool (y_76 == y_82))), (43, (.bool (y_76 == y_82))), (47, (.bool ((y_76 == y_82) && (y_63.2 == y_24))))]) ?_ ?_
   ·intro a f
    refine q_mv 12 28 rfl (by kernel_rfl) f rfl rfl rfl fun a f => ?_
    obtain ⟨b_152, hj_153, hd⟩ := bind_some hd
    refine q_cut (fuel' := 1) (listed' := #[true, true, true, true, true, true, true, true, true, true, true, true, true, true, true, true, true, true, true, true, true, true, true, true, true, true, true, false]) (fun a => Fr a 63 [(0, v0), (3, (.pointer (some ⟨b_23, 0, none⟩))), (4, v_18), (5, (.bool y_24)), (6, (.pointer (some ⟨b_59, 0, none⟩))), (7, v_54), (8, (.pointer (some ⟨b_75, 0, none⟩))), (9, (.bool y_63.2)), (36, (.agg #[v_52])), (37, v_54), (38, (.bool y_76)), (39, (.agg #[v_52])), (40, v_54), (41, (.bool y_82)), (42, (.bool (y_76 == y_82))), (43, (.bool (y_76 == y_82))), (47, (.bool ((y_76 == y_82) && (y_63.2 == y_24)))), (48, (.bool ((y_76 == y_82) && (y_63.2 == y_24)))), (62, (.bool b_152))]) ?_ ?_
    ·intro a f
     refine q_p 27 28 rfl (by kernel_rfl) f rfl rfl rfl (fun _ => r_assign (f.eval rfl)) fun a f => ?_
     refine q_end fun G_214 w hl_215 m => ?_
     have h0 := RSl.mono (RI.mono _) _ _ _ _ hl_215 h0
     have h_62 := RSl.mono (RI.mono _) _ _ _ _ hl_215 h_62
     have h_53 := RSl.mono (RSl.mono (RI.mono _)) _ _ _ _ hl_215 h_53
     have o_72 := Ow.mono (RSl.mono (RI.mono _)) hl_215 o_72
     have o_56 := Ow.mono (RI.mono _) hl_215 o_56
     have h_17 := RSl.mono (RSl.mono (RI.mono _)) _ _ _ _ hl_215 h_17
     refine l_nil ?_
     refine k_ret ?_
     have m : Mem W G_214 w H := Mem.drop (H' := [Itm.box b_75 27 [v_70], it_71, Itm.box b_59 27 [v_52], it_55, Itm.box b_23 27 [v_16]]) m
     obtain rfl := sj hd
     exact ⟨[(.bool b_152)], ⟨f.get _ _ rfl, trivial⟩, f.defers, _, [], (GLe.trans hl_4 (GLe.trans hl_12 (GLe.trans hl_30 (GLe.trans hl_40 (GLe.trans hl_48 (GLe.trans hl_61 (GLe.trans hl_66 hl_215))))))), m, rfl, rfl⟩
    ·intro K_151
     rcases cond_some hj_153 with ⟨hc_90, hj_153⟩ | ⟨hc_90, hj_153⟩
     ·refine q_mv 13 28 rfl (by kernel_rfl) f (wanted_of f rfl rfl rfl hc_90) rfl rfl fun a f => ?_
      refine q_p 14 28 rfl (by kernel_rfl) f (wanted_of f rfl rfl rfl hc_90) rfl rfl (fun _ => r_not (f.eval rfl)) fun a f => ?_
      refine q_mv 15 28 rfl (by kernel_rfl) f (wanted_of f rfl rfl rfl hc_90) rfl rfl fun a f => ?_
      obtain ⟨b_184, hj_185, hj_153⟩ := bind_some hj_153
      refine q_cut (fuel' := 2) (listed' := #[true, true, true, true, true, true, true, true, true, true, true, true, true, true, true, true, true, true, true, true, true, true, true, true, true, true, false, false]) (fun a => Fr a 63 [(0, v0), (3, (.pointer (some ⟨b_23, 0, none⟩))), (4, v_18), (5, (.bool y_24)), (6, (.pointer (some ⟨b_59, 0, none⟩))), (7, v_54), (8, (.pointer (some ⟨b_75, 0, none⟩))), (9, (.bool y_63.2)), (36, (.agg #[v_52])), (37, v_54), (38, (.bool y_76)), (39, (.agg #[v_52])), (40, v_54), (41, (.bool y_82)), (42, (.bool (y_76 == y_82))), (43, (.bool (y_76 == y_82))), (47, (.bool ((y_76 == y_82) && (y_63.2 == y_24)))), (48, (.bool ((y_76 == y_82) && (y_63.2 == y_24)))), (49, (.bool y_24)), (50, (.bool (!y_24))), (51, (.bool (!y_24))), (61, (.bool b_184))]) ?_ ?_
      ·intro a f
       refine q_p 26 28 rfl (by kernel_rfl) f rfl rfl rfl (fun _ => r_pickT (f.eval rfl) hc_90 (f.eval rfl)) fun a f => ?_
       obtain rfl := sj hj_153
       exact K_151 _ (f.weak ⟨rfl, rfl, rfl, rfl, rfl, rfl, rfl, rfl, rfl, rfl, rfl, rfl, rfl, rfl, rfl, rfl, rfl, rfl, rfl, trivial⟩)
      ·intro K_183
       rcases cond_some hj_185 with ⟨hc_154, hj_185⟩ | ⟨hc_154, hj_185⟩
       ·refine q_ng 16 28 rfl (by kernel_rfl) f rfl rfl hc_154 rfl fun a f => ?_
        refine q_ng 17 28 rfl (by kernel_rfl) f rfl rfl hc_154 rfl fun a f => ?_
        refine q_ng 18 28 rfl (by kernel_rfl) f rfl rfl hc_154 rfl fun a f => ?_
        refine q_nu 19 28 rfl (by kernel_rfl) f rfl rfl rfl fun a f => ?_
        refine q_nu 20 28 rfl (by kernel_rfl) f rfl rfl rfl fun a f => ?_
        refine q_nu 21 28 rfl (by kernel_rfl) f rfl rfl rfl fun a f => ?_
        refine q_nu 22 28 rfl (by kernel_rfl) f rfl rfl rfl fun a f => ?_
        refine q_nu 23 28 rfl (by kernel_rfl) f rfl rfl rfl fun a f => ?_
        refine q_ng 24 28 rfl (by kernel_rfl) f rfl rfl hc_154 rfl fun a f => ?_
        refine q_p 25 28 rfl (by kernel_rfl) f (wanted_of f rfl rfl rfl hc_90) rfl rfl (fun _ => r_pickT (f.eval rfl) hc_154 (f.eval rfl)) fun a f => ?_
        obtain rfl := sj hj_185
        exact K_183 _ (f.weak ⟨rfl, rfl, rfl, rfl, rfl, rfl, rfl, rfl, rfl, rfl, rfl, rfl, rfl, rfl, rfl, rfl, rfl, rfl, rfl, rfl, rfl, rfl, trivial⟩)
       ·refine q_boxAgg (i := 16) (ds := [v_70]) 28 0 Ag27 rfl rfl rfl rfl (by kernel_rfl) rfl f (wanted_of f rfl rfl rfl hc_154) rfl rfl fun a f => ?_
        obtain ⟨y_186, hy_187, hj_185⟩ := bind_some hj_185
        refine q_call (i := 17) 28 rfl (by kernel_rfl) rfl f (wanted_of f rfl rfl rfl hc_154) rfl rfl Tryd.call23 (fun _ _ w hG_188 m => (Ow.lendCallR (RSl.mono (RI.mono _)) 1 (Ow.mono (RSl.mono (RI.mono _)) hG_188 o_72) m rfl (fun G_189 hl_190 m h_191 => Wk.spec_GraphOk m h_191 hy_187) (fun _ _ _ _ h => h))) fun a f => ?_
        refine q_mv 18 28 rfl (by kernel_rfl) f (wanted_of f rfl rfl rfl hc_154) rfl rfl fun a f => ?_
        obtain ⟨b_203, hj_204, hj_185⟩ := bind_some hj_185
        refine q_cut (fuel' := 3) (listed' := #[true, true, true, true, true, true, true, true, true, true, true, true, true, true, true, true, true, true, true, true, true, true, true, true, true, false, false, false]) (fun a => Fr a 63 [(0, v0), (3, (.pointer (some ⟨b_23, 0, none⟩))), (4, v_18), (5, (.bool y_24)), (6, (.pointer (some ⟨b_59, 0, none⟩))), (7, v_54), (8, (.pointer (some ⟨b_75, 0, none⟩))), (9, (.bool y_63.2)), (36, (.agg #[v_52])), (37, v_54), (38, (.bool y_76)), (39, (.agg #[v_52])), (40, v_54), (41, (.bool y_82)), (42, (.bool (y_76 == y_82))), (43, (.bool (y_76 == y_82))), (47, (.bool ((y_76 == y_82) && (y_63.2 == y_24)))), (48, (.bool ((y_76 == y_82) && (y_63.2 == y_24)))), (49, (.bool y_24)), (50, (.bool (!y_24))), (51, (.bool (!y_24))), (52, (.agg #[v_70])), (53, (.bool y_186)), (54, (.bool y_186)), (60, (.bool b_203))]) ?_ ?_
        ·intro a f
         refine q_p 25 28 rfl (by kernel_rfl) f (wanted_of f rfl rfl rfl hc_90) rfl rfl (fun _ => r_pickF (f.eval rfl) hc_154 (f.eval rfl)) fun a f => ?_
         obtain rfl := sj hj_185
         exact K_183 _ (f.weak ⟨rfl, rfl, rfl, rfl, rfl, rfl, rfl, rfl, rfl, rfl, rfl, rfl, rfl, rfl, rfl, rfl, rfl, rfl, rfl, rfl, rfl, rfl, trivial⟩)
        ·intro K_202
         rcases cond_some hj_204 with ⟨hc_192, hj_204⟩ | ⟨hc_192, hj_204⟩
         ·refine q_boxAgg (i := 19) (ds := [v_70]) 28 0 Ag27 rfl rfl rfl rfl (by kernel_rfl) rfl f (wanted_of f rfl rfl rfl hc_192) rfl rfl fun a f => ?_
          obtain ⟨y_205, hy_206, hj_204⟩ := bind_some hj_204
          refine q_call (i := 20) 28 rfl (by kernel_rfl) rfl f (wanted_of f rfl rfl rfl hc_192) rfl rfl Tryd.call24 (fun _ _ w hG_207 m => (Ow.lendCallR (RSl.mono (RI.mono _)) 1 (Ow.mono (RSl.mono (RI.mono _)) hG_207 o_72) m rfl (fun G_208 hl_209 m h_210 => Wk.impl_ManyEdges m h_210 hy_206) (fun _ _ _ _ h => h))) fun a f => ?_
          refine q_boxAgg (i := 21) (ds := [v_16]) 28 4 Ag27 rfl rfl rfl rfl (by kernel_rfl) rfl f (wanted_of f rfl rfl rfl hc_192) rfl rfl fun a f => ?_
          obtain ⟨y_211, hy_212, hj_204⟩ := bind_some hj_204
          refine q_call (i := 22) 28 rfl (by kernel_rfl) rfl f (wanted_of f rfl rfl rfl hc_192) rfl rfl Tryd.call25 (fun _ _ w hG_213 m => Wk.spec_ManyEdges m (RSl.mono (RSl.mono (RI.mono _)) _ _ _ _ hG_213 h_17) hy_212) fun a f => ?_
          refine q_p 23 28 rfl (by kernel_rfl) f (wanted_of f rfl rfl rfl hc_192) rfl rfl (fun _ => r_int (f.eval rfl) (f.eval rfl) b_eql) fun a f => ?_
          refine q_p 24 28 rfl (by kernel_rfl) f (wanted_of f rfl rfl rfl hc_154) rfl rfl (fun _ => r_pickT (f.eval rfl) hc_192 (f.eval rfl)) fun a f => ?_
          obtain rfl := sj hj_204
          exact K_202 _ (f.weak ⟨rfl, rfl, rfl, rfl, rfl, rfl, rfl, rfl, rfl, rfl, rfl, rfl, rfl, rfl, rfl, rfl, rfl, rfl, rfl, rfl, rfl, rfl, rfl, rfl, rfl, trivial⟩)
         ·refine q_ng 19 28 rfl (by kernel_rfl) f rfl rfl hc_192 rfl fun a f => ?_
          refine q_ng 20 28 rfl (by kernel_rfl) f rfl rfl hc_192 rfl fun a f => ?_
          refine q_ng 21 28 rfl (by kernel_rfl) f rfl rfl hc_192 rfl fun a f => ?_
          refine q_ng 22 28 rfl (by kernel_rfl) f rfl rfl hc_192 rfl fun a f => ?_
          refine q_ng 23 28 rfl (by kernel_rfl) f rfl rfl hc_192 rfl fun a f => ?_
          refine q_p 24 28 rfl (by kernel_rfl) f (wanted_of f rfl rfl rfl hc_154) rfl rfl (fun _ => r_pickF (f.eval rfl) hc_192 (f.eval rfl)) fun a f => ?_
          obtain rfl := sj hj_204
          exact K_202 _ (f.weak ⟨rfl, rfl, rfl, rfl, rfl, rfl, rfl, rfl, rfl, rfl, rfl, rfl, rfl, rfl, rfl, rfl, rfl, rfl, rfl, rfl, rfl, rfl, rfl, rfl, rfl, trivial⟩)
     ·refine q_ng 13 28 rfl (by kernel_rfl) f rfl rfl hc_90 rfl fun a f => ?_
      refine q_ng 14 28 rfl (by kernel_rfl) f rfl rfl hc_90 rfl fun a f => ?_
      refine q_ng 15 28 rfl (by kernel_rfl) f rfl rfl hc_90 rfl fun a f => ?_
      refine q_nu 16 28 rfl (by kernel_rfl) f rfl rfl rfl fun a f => ?_
      refine q_nu 17 28 rfl (by kernel_rfl) f rfl rfl rfl fun a f => ?_
      refine q_nu 18 28 rfl (by kernel_rfl) f rfl rfl rfl fun a f => ?_
      refine q_nu 19 28 rfl (by kernel_rfl) f rfl rfl rfl fun a f => ?_
      refine q_nu 20 28 rfl (by kernel_rfl) f rfl rfl rfl fun a f => ?_
      refine q_nu 21 28 rfl (by kernel_rfl) f rfl rfl rfl fun a f => ?_
      refine q_nu 22 28 rfl (by kernel_rfl) f rfl rfl rfl fun a f => ?_
      refine q_nu 23 28 rfl (by kernel_rfl) f rfl rfl rfl fun a f => ?_
      refine q_nu 24 28 rfl (by kernel_rfl) f rfl rfl rfl fun a f => ?_
      refine q_ng 25 28 rfl (by kernel_rfl) f rfl rfl hc_90 rfl fun a f => ?_
      refine q_p 26 28 rfl (by kernel_rfl) f rfl rfl rfl (fun _ => r_pickF (f.eval rfl) hc_90 (f.eval rfl)) fun a f => ?_
      obtain rfl := sj hj_153
      exact K_151 _ (f.weak ⟨rfl, rfl, rfl, rfl, rfl, rfl, rfl, rfl, rfl, rfl, rfl, rfl, rfl, rfl, rfl, rfl, rfl, rfl, rfl, trivial⟩)
   ·intro K_89
    rcases Bool.eq_false_or_eq_true (y_76 == y_82) with hc_88 | hc_88
    ·refine q_mv 8 28 rfl (by kernel_rfl) f (wanted_of f rfl rfl rfl hc_88) rfl rfl fun a f => ?_
     refine q_mv 9 28 rfl (by kernel_rfl) f (wanted_of f rfl rfl rfl hc_88) rfl rfl fun a f => ?_
     refine q_p 10 28 rfl (by kernel_rfl) f (wanted_of f rfl rfl rfl hc_88) rfl rfl (fun _ => r_bool_eql (f.eval rfl) (f.eval rfl) Tryd.underlying4) fun a f => ?_
     refine q_p 11 28 rfl (by kernel_rfl) f rfl rfl rfl (fun _ => r_pickT (f.eval rfl) hc_88 (f.eval rfl)) fun a f => ?_
     exact K_89 _ (f.weak ⟨rfl, rfl, rfl, rfl, rfl, rfl, rfl, rfl, rfl, rfl, rfl, rfl, rfl, rfl, rfl, rfl, by rw [hc_88]; rfl, trivial⟩)
    ·refine q_ng 8 28 rfl (by kernel_rfl) f rfl rfl hc_88 rfl fun a f => ?_
     refine q_ng 9 28 rfl (by kernel_rfl) f rfl rfl hc_88 rfl fun a f => ?_
     refine q_ng 10 28 rfl (by kernel_rfl) f rfl rfl hc_88 rfl fun a f => ?_
     refine q_p 11 28 rfl (by kernel_rfl) f rfl rfl rfl (fun _ => r_pickF (f.eval rfl) hc_88 (f.eval rfl)) fun a f => ?_
     exact K_89 _ (f.weak ⟨rfl, rfl, rfl, rfl, rfl, rfl, rfl, rfl, rfl, rfl, rfl, rfl, rfl, rfl, rfl, rfl, by rw [hc_88]; rfl, trivial⟩)

end Go.Proofs.YtocakchlhemmeaaDoor

/- Loops in closed form: over the elements of a list, over the numbers below one, with a way out. Plain facts, no program in sight. -/
namespace Go.Sx
theorem w64 {x : Int} (h1 : -9223372036854775808 ≤ x) (h2 : x < 9223372036854775808) : IntKind.i64.wrap x = x := by
  simp only [IntKind.wrap, IntKind.bits, IntKind.signed]
  have e : (2 : Int) ^ 64 = 18446744073709551616 := by decide
  have e' : (2 : Int) ^ (64 - 1) = 9223372036854775808 := by decide
  simp
  omega

theorem dlt {i n : Nat} (h : i < n) : decide ((i : Int) < (n : Int)) = true := by simp; omega
theorem dnlt {n : Nat} : decide ((n : Int) < (n : Int)) = false := by simp
theorem idx_nat {α : Type} {xs : List α} {i : Nat} (h : i < xs.length) : idx xs (i : Int) = some xs[i] := by
  unfold idx; rw [if_pos (by omega)]; simp [h]
theorem idx_int {α : Type} {xs : List α} {i : Int} (h0 : 0 ≤ i) (h : i < xs.length) : idx xs i = some (xs[i.toNat]'(by omega)) := by
  unfold idx; rw [if_pos h0]; simp
theorem wi {i : Nat} (h : i < 4611686018427387904) : IntKind.i64.wrap ((i : Int) + 1) = ((i + 1 : Nat) : Int) := by
  rw [w64 (by omega) (by omega)]; rfl
theorem wi' {i n : Nat} (h : i < n) (hn : n ≤ 4611686018427387904) : IntKind.i64.wrap ((i : Int) + 1) = ((i + 1 : Nat) : Int) := wi (by omega)
theorem getD_lt {α : Type} {xs : List α} {i : Nat} (h : i < xs.length) (d : α) : xs.getD i d = xs[i] := by simp [h]
theorem appendD_ok {α : Type} {xs ys : List α} (h : xs.length + ys.length ≤ 4294967296) : appendD xs ys = some (xs ++ ys) := by
  unfold appendD; rw [if_pos h]
theorem sliceD_pre {α : Type} {xs : List α} {i : Nat} (h : i ≤ xs.length) : sliceD xs 0 (i : Int) = some (xs.take i) := by
  unfold sliceD; rw [if_pos ⟨by omega, by omega, by omega⟩]; simp
theorem sliceD_post {α : Type} {xs : List α} {i : Nat} (h : i ≤ xs.length) : sliceD xs (i : Int) (xs.length : Int) = some (xs.drop i) := by
  unfold sliceD; rw [if_pos ⟨by omega, by omega, by omega⟩]; simp
theorem makeD_ok {α : Type} {z : α} {n : Nat} {c : Int} (h : (n : Int) ≤ c) (h2 : c ≤ 4294967296) : makeD z (n : Int) c = some (List.replicate n z) := by
  unfold makeD; rw [if_pos ⟨by omega, h, h2⟩]; simp
theorem makeD_zero {α : Type} {z : α} {c : Int} (h : 0 ≤ c) (h2 : c ≤ 4294967296) : makeD z 0 c = some [] := by
  unfold makeD; rw [if_pos ⟨by omega, h, h2⟩]; simp

/-- a round either goes on, nearer to the end, or leaves with what was promised -/
def Stp {σ ρ : Type} (I : σ → Prop) (μ : σ → Nat) (Post : ρ → Prop) (s : σ) : σ ⊕ ρ → Prop
  | .inl s' => I s' ∧ μ s' < μ s
  | .inr r => Post r

theorem loop_then {σ ρ β : Type} {step : σ → Option (σ ⊕ ρ)} {s : σ} {k : ρ → Option β} {Q : β → Prop} (I : σ → Prop) (μ : σ → Nat) (Post : ρ → Prop)
    (hstep : ∀ s, I s → ∃ y, step s = some y ∧ Stp I μ Post s y) (h0 : I s) (hk : ∀ r, Post r → ∃ y, k r = some y ∧ Q y) : ∃ y, (loopF step s).bind k = some y ∧ Q y := by
  obtain ⟨r, hr, hp⟩ := loopF_inv (step := step) I μ Post (fun s hs => by
    obtain ⟨y, hy, hq⟩ := hstep s hs
    cases y with
    | inl s' => exact .inl ⟨s', hy, hq.1, hq.2⟩
    | inr r => exact .inr ⟨r, hy, hq⟩) s h0
  rw [hr]
  exact hk r hp
theorem bind_then {α β : Type} {e : Option α} {k : α → Option β} {Q : β → Prop} (R : α → Prop) (h : ∃ x, e = some x ∧ R x) (hk : ∀ x, R x → ∃ y, k x = some y ∧ Q y) : ∃ y, e.bind k = some y ∧ Q y := by
  obtain ⟨x, rfl, hx⟩ := h
  exact hk x hx

/-- from state a to state b in so many rounds -/
theorem loop_steps {S ρ : Type} {step : S → Option (S ⊕ ρ)} (st : Nat → S) (n : Nat) (h : ∀ i, i < n → step (st i) = some (.inl (st (i + 1)))) : loopF step (st 0) = loopF step (st n) := by
  have key : ∀ k, k ≤ n → loopF step (st 0) = loopF step (st k) := by
    intro k
    induction k with
    | zero => intro _; rfl
    | succ k ih => intro hk; rw [ih (by omega), loopF_more (h k (by omega))]
  exact key n (Nat.le_refl n)

/-- and out of it -/
theorem loop_to {S ρ β : Type} {step : S → Option (S ⊕ ρ)} {k : ρ → Option β} {s0 : S} (st : Nat → S) (n : Nat) (r : ρ) (h0 : st 0 = s0) (h : ∀ i, i < n → step (st i) = some (.inl (st (i + 1)))) (he : step (st n) = some (.inr r)) :
    (loopF step s0).bind k = k r := by
  rw [← h0, loop_steps st n h, loopF_done he]; rfl

/-- a loop over the elements of a list, that goes to its end -/
theorem loop_list {α σ S ρ : Type} {step : S → Option (S ⊕ ρ)} (xs : List α) (enc : σ → Int → S) (f : σ → α → σ) (fin : σ → ρ) (I : σ → Prop) (s0 : σ)
    (h0 : I s0) (hstep : ∀ s (i : Nat) (h : i < xs.length), I s → step (enc s i) = some (.inl (enc (f s xs[i]) ((i + 1 : Nat) : Int))) ∧ I (f s xs[i]))
    (hend : ∀ s, I s → step (enc s xs.length) = some (.inr (fin s))) : loopF step (enc s0 0) = some (fin (xs.foldl f s0)) ∧ I (xs.foldl f s0) := by
  have key : ∀ (k i : Nat) (s : σ), i + k = xs.length → I s → loopF step (enc s i) = some (fin ((xs.drop i).foldl f s)) ∧ I ((xs.drop i).foldl f s) := by
    intro k
    induction k with
    | zero =>
      intro i s hk hs
      obtain rfl : i = xs.length := by omega
      simp only [List.drop_length, List.foldl_nil]
      exact ⟨loopF_done (hend s hs), hs⟩
    | succ k ih =>
      intro i s hk hs
      have hi : i < xs.length := by omega
      obtain ⟨h1, h2⟩ := hstep s i hi hs
      rw [loopF_more h1, List.drop_eq_getElem_cons hi, List.foldl_cons]
      exact ih (i + 1) _ (by omega) h2
  have := key xs.length 0 s0 (by omega) h0
  simpa using this

/-- and what comes behind -/
theorem loop_listb {α σ S ρ β : Type} {step : S → Option (S ⊕ ρ)} {k : ρ → Option β} (xs : List α) (enc : σ → Int → S) (f : σ → α → σ) (fin : σ → ρ) (I : σ → Prop) (s0 : σ)
    (h0 : I s0) (hstep : ∀ s (i : Nat) (h : i < xs.length), I s → step (enc s i) = some (.inl (enc (f s xs[i]) ((i + 1 : Nat) : Int))) ∧ I (f s xs[i]))
    (hend : ∀ s, I s → step (enc s xs.length) = some (.inr (fin s))) : (loopF step (enc s0 0)).bind k = k (fin (xs.foldl f s0)) := by
  rw [(loop_list xs enc f fin I s0 h0 hstep hend).1]; rfl

/-- a loop that makes one element for each element -/
theorem loop_map {α β γ S : Type} {step : S → Option (S ⊕ List β)} {k : List β → Option γ} (xs : List α) (enc : List β → Int → S) (f : α → β) (hx : xs.length ≤ 4294967296)
    (hstep : ∀ s (i : Nat) (h : i < xs.length), s.length = i → step (enc s i) = (appendD s [f xs[i]]).bind fun l => some (.inl (enc l ((i + 1 : Nat) : Int))))
    (hend : ∀ s, step (enc s xs.length) = some (.inr s)) : (loopF step (enc [] 0)).bind k = k (xs.map f) := by
  have key : ∀ i, i ≤ xs.length → loopF step (enc [] 0) = loopF step (enc ((xs.take i).map f) i) := by
    intro i
    induction i with
    | zero => intro _; simp
    | succ i ih =>
      intro hi
      rw [ih (by omega)]
      have h1 := hstep ((xs.take i).map f) i (by omega) (by simp; omega)
      have h2 : appendD ((xs.take i).map f) [f xs[i]] = some ((xs.take (i + 1)).map f) := by
        unfold appendD
        rw [if_pos (by simp; omega)]
        rw [List.take_succ_eq_append_getElem (show i < xs.length by omega), List.map_append]; rfl
      rw [h2] at h1
      rw [loopF_more h1]
  rw [key xs.length (Nat.le_refl _), List.take_length, loopF_done (hend _)]; rfl

/-- as above, where the round's effect depends on the place -/
theorem loop_nat {σ S ρ : Type} {step : S → Option (S ⊕ ρ)} (n : Nat) (enc : σ → Int → S) (f : σ → Nat → σ) (fin : σ → ρ) (I : Nat → σ → Prop) (s0 : σ)
    (h0 : I 0 s0) (hstep : ∀ s (i : Nat), i < n → I i s → step (enc s i) = some (.inl (enc (f s i) ((i + 1 : Nat) : Int))) ∧ I (i + 1) (f s i))
    (hend : ∀ s, I n s → step (enc s n) = some (.inr (fin s))) : loopF step (enc s0 0) = some (fin ((List.range n).foldl f s0)) ∧ I n ((List.range n).foldl f s0) := by
  have key : ∀ k, k ≤ n → loopF step (enc s0 0) = loopF step (enc ((List.range k).foldl f s0) k) ∧ I k ((List.range k).foldl f s0) := by
    intro k
    induction k with
    | zero => intro _; exact ⟨rfl, h0⟩
    | succ k ih =>
      intro hk
      obtain ⟨h1, h2⟩ := ih (by omega)
      obtain ⟨h3, h4⟩ := hstep _ k (by omega) h2
      rw [List.range_succ, List.foldl_append, List.foldl_cons, List.foldl_nil]
      exact ⟨by rw [h1, loopF_more h3], h4⟩
  obtain ⟨h1, h2⟩ := key n (Nat.le_refl n)
  exact ⟨by rw [h1, loopF_done (hend _ h2)], h2⟩

/-- a loop that looks for the first place where something is so -/
theorem loop_find {ρ : Type} {step : Int → Option (Int ⊕ ρ)} (n : Nat) (c : Nat → Option ρ) (fin : ρ)
    (hstep : ∀ i, i < n → step (i : Int) = match c i with | some r => some (.inr r) | none => some (.inl ((i + 1 : Nat) : Int)))
    (hend : step (n : Int) = some (.inr fin)) : loopF step 0 = some (((List.range n).findSome? c).getD fin) := by
  have key : ∀ (k i : Nat), i + k = n → loopF step (i : Int) = some (((List.range' i k).findSome? c).getD fin) := by
    intro k
    induction k with
    | zero => intro i h; obtain rfl : i = n := by omega
              simpa using loopF_done hend
    | succ k ih =>
      intro i h
      have h1 := hstep i (by omega)
      rw [List.range'_succ, List.findSome?_cons]
      cases hc : c i with
      | some r => rw [hc] at h1; simpa using loopF_done h1
      | none => rw [hc] at h1; rw [loopF_more h1]; exact ih (i + 1) (by omega)
  have := key n 0 (by omega)
  simpa [List.range_eq_range'] using this

/-- all places are good, or the first bad one ends it -/
theorem loop_allb {β : Type} {step : Int → Option (Int ⊕ (Unit ⊕ β))} {k : Unit ⊕ β → Option Bool} (n : Nat) (c : Nat → Bool) (bad : β)
    (hstep : ∀ i, i < n → step (i : Int) = if c i then some (.inl ((i + 1 : Nat) : Int)) else some (.inr (.inr bad)))
    (hend : step (n : Int) = some (.inr (.inl ()))) (hk1 : k (.inl ()) = some true) (hk2 : k (.inr bad) = some false) :
    (loopF step 0).bind k = some ((List.range n).all c) := by
  rw [loop_find n (fun i => if c i then none else some (.inr bad)) (.inl ()) (fun i hi => by rw [hstep i hi]; cases c i <;> rfl) hend]
  simp only [Option.bind_some]
  cases h : (List.range n).all c with
  | true =>
    rw [List.findSome?_eq_none_iff.2 (fun x hx => by rw [if_pos (List.all_eq_true.1 h x hx)])]
    exact hk1
  | false =>
    cases h2 : (List.range n).findSome? (fun i => if c i then none else some (Sum.inr bad)) with
    | none =>
      rw [List.findSome?_eq_none_iff] at h2
      have : (List.range n).all c = true := List.all_eq_true.2 fun x hx => by
        have := h2 x hx
        cases hc : c x
        · rw [hc] at this; cases this
        · rfl
      rw [this] at h; cases h
    | some r =>
      obtain ⟨x, _, hx⟩ := List.exists_of_findSome?_eq_some h2
      cases hc : c x
      · rw [hc] at hx; simp at hx; subst hx; exact hk2
      · rw [hc] at hx; simp at hx

/-- all places are good, or the first bad one ends it: what comes behind -/
theorem loop_ck {ρ β : Type} {step : Int → Option (Int ⊕ ρ)} {k : ρ → Option β} (n : Nat) (c : Nat → Bool) (fine bad : ρ)
    (hstep : ∀ i, i < n → step (i : Int) = if c i then some (.inl ((i + 1 : Nat) : Int)) else some (.inr bad))
    (hend : step (n : Int) = some (.inr fine)) : (loopF step 0).bind k = cond ((List.range n).all c) (k fine) (k bad) := by
  rw [loop_find n (fun i => if c i then none else some bad) fine (fun i hi => by rw [hstep i hi]; cases c i <;> rfl) hend]
  simp only [Option.bind_some]
  cases h : (List.range n).all c with
  | true =>
    rw [List.findSome?_eq_none_iff.2 (fun x hx => by rw [if_pos (List.all_eq_true.1 h x hx)])]
    rfl
  | false =>
    cases h2 : (List.range n).findSome? (fun i => if c i then none else some bad) with
    | none =>
      rw [List.findSome?_eq_none_iff] at h2
      have : (List.range n).all c = true := List.all_eq_true.2 fun x hx => by
        have := h2 x hx
        cases hc : c x
        · rw [hc] at this; cases this
        · rfl
      rw [this] at h; cases h
    | some r =>
      obtain ⟨x, _, hx⟩ := List.exists_of_findSome?_eq_some h2
      cases hc : c x
      · rw [hc] at hx; simp at hx; subst hx; rfl
      · rw [hc] at hx; simp at hx

/-- some place is so -/
theorem loop_anyb {β : Type} {step : Int → Option (Int ⊕ (Unit ⊕ β))} {k : Unit ⊕ β → Option Bool} (n : Nat) (c : Nat → Bool) (good : β)
    (hstep : ∀ i, i < n → step (i : Int) = if c i then some (.inr (.inr good)) else some (.inl ((i + 1 : Nat) : Int)))
    (hend : step (n : Int) = some (.inr (.inl ()))) (hk1 : k (.inl ()) = some false) (hk2 : k (.inr good) = some true) :
    (loopF step 0).bind k = some ((List.range n).any c) := by
  rw [loop_find n (fun i => if c i then some (.inr good) else none) (.inl ()) (fun i hi => by rw [hstep i hi]; cases c i <;> rfl) hend]
  simp only [Option.bind_some]
  cases h : (List.range n).any c with
  | false =>
    rw [List.findSome?_eq_none_iff.2 (fun x hx => by
      have : c x = false := by
        cases hc : c x
        · rfl
        · rw [List.any_eq_true.2 ⟨x, hx, hc⟩] at h; cases h
      rw [this]; rfl)]
    exact hk1
  | true =>
    obtain ⟨x, hx, hc⟩ := List.any_eq_true.1 h
    cases h2 : (List.range n).findSome? (fun i => if c i then some (Sum.inr good) else none) with
    | none =>
      rw [List.findSome?_eq_none_iff] at h2
      have := h2 x hx
      rw [hc] at this; cases this
    | some r =>
      obtain ⟨y, _, hy⟩ := List.exists_of_findSome?_eq_some h2
      cases hc : c y
      · rw [hc] at hy; simp at hy
      · rw [hc] at hy; simp at hy; subst hy; exact hk2

theorem range_all_list {α : Type} (xs : List α) (p : α → Bool) (c : Nat → Bool) (h : ∀ i (hi : i < xs.length), c i = p xs[i]) : (List.range xs.length).all c = xs.all p := by
  rw [Bool.eq_iff_iff, List.all_eq_true, List.all_eq_true]
  constructor
  · intro hh x hx
    obtain ⟨i, hi, rfl⟩ := List.getElem_of_mem hx
    rw [← h i hi]; exact hh i (List.mem_range.2 hi)
  · intro hh i hi
    have hi' := List.mem_range.1 hi
    rw [h i hi']; exact hh _ (List.getElem_mem _)
theorem range_any_list {α : Type} (xs : List α) (p : α → Bool) (c : Nat → Bool) (h : ∀ i (hi : i < xs.length), c i = p xs[i]) : (List.range xs.length).any c = xs.any p := by
  rw [Bool.eq_iff_iff, List.any_eq_true, List.any_eq_true]
  constructor
  · rintro ⟨i, hi, hc⟩
    have hi' := List.mem_range.1 hi
    exact ⟨_, List.getElem_mem hi', by rw [← h i hi']; exact hc⟩
  · rintro ⟨x, hx, hc⟩
    obtain ⟨i, hi, rfl⟩ := List.getElem_of_mem hx
    exact ⟨i, List.mem_range.2 hi, by rw [h i hi]; exact hc⟩
theorem all_forall (n : Nat) (c : Nat → Bool) : (List.range n).all c = true ↔ ∀ i, i < n → c i = true := by
  rw [List.all_eq_true]
  exact ⟨fun h i hi => h i (List.mem_range.2 hi), fun h i hi => h i (List.mem_range.1 hi)⟩

end Go.Sx

/- Sets of vertices as numbers: what the bit operations do to membership. Plain facts. -/
namespace Go.Sx
theorem wrap32 (n : Int) : IntKind.u32.wrap n = n % 4294967296 := by simp [IntKind.wrap, IntKind.signed, IntKind.bits]

/-- a word of 32 bits -/
def VS (s : Int) : Prop := 0 ≤ s ∧ s < 4294967296
/-- is a vertex in a set -/
def has (s : Int) (v : Nat) : Bool := s.toNat.testBit v

theorem VS.nat {s : Int} (h : VS s) : ∃ n : Nat, s = n ∧ n < 4294967296 := ⟨s.toNat, by have := h.1; omega, by have := h.1; have := h.2; omega⟩
theorem VS.zero : VS 0 := ⟨by omega, by omega⟩
theorem VS.wrap (n : Int) : VS (IntKind.u32.wrap n) := by rw [wrap32]; exact ⟨by omega, by omega⟩
theorem VS.ofNat {n : Nat} (h : n < 4294967296) : VS (n : Int) := ⟨by omega, by omega⟩
theorem has_nat (n v : Nat) : has (n : Int) v = n.testBit v := by simp [has]
theorem has_zero (v : Nat) : has 0 v = false := by simp [has]

theorem ofInt_nat (n : Nat) (h : n < 4294967296) : (BitVec.ofInt 32 (n : Int)).toNat = n := by
  rw [BitVec.toNat_ofInt]
  omega

theorem ior_nat {a b : Nat} (ha : a < 4294967296) (hb : b < 4294967296) : ior .u32 (a : Int) (b : Int) = ((a ||| b : Nat) : Int) := by
  have hw : a ||| b < 4294967296 := Nat.or_lt_two_pow (n := 32) ha hb
  show IntKind.u32.wrap (((BitVec.ofInt 32 (a : Int) ||| BitVec.ofInt 32 (b : Int)).toNat : Nat) : Int) = _
  rw [BitVec.toNat_or, ofInt_nat a ha, ofInt_nat b hb, wrap32]; omega
theorem iand_nat {a b : Nat} (ha : a < 4294967296) (hb : b < 4294967296) : iand .u32 (a : Int) (b : Int) = ((a &&& b : Nat) : Int) := by
  have hw : a &&& b < 4294967296 := Nat.and_lt_two_pow (n := 32) _ hb
  show IntKind.u32.wrap (((BitVec.ofInt 32 (a : Int) &&& BitVec.ofInt 32 (b : Int)).toNat : Nat) : Int) = _
  rw [BitVec.toNat_and, ofInt_nat a ha, ofInt_nat b hb, wrap32]; omega
theorem VS.ior (a b : Int) : VS (ior .u32 a b) := VS.wrap _
theorem VS.iand (a b : Int) : VS (iand .u32 a b) := VS.wrap _
theorem VS.ixor (a b : Int) : VS (ixor .u32 a b) := VS.wrap _
theorem VS.iandNot (a b : Int) : VS (iandNot .u32 a b) := VS.wrap _
theorem VS.ishl (a b : Int) : VS (ishl .u32 a b) := VS.wrap _

theorem has_ior {a b : Int} (ha : VS a) (hb : VS b) (v : Nat) : has (ior .u32 a b) v = (has a v || has b v) := by
  obtain ⟨m, rfl, hm⟩ := ha.nat; obtain ⟨n, rfl, hn⟩ := hb.nat
  rw [ior_nat hm hn]; simp only [has_nat, Nat.testBit_or]
theorem has_iand {a b : Int} (ha : VS a) (hb : VS b) (v : Nat) : has (iand .u32 a b) v = (has a v && has b v) := by
  obtain ⟨m, rfl, hm⟩ := ha.nat; obtain ⟨n, rfl, hn⟩ := hb.nat
  rw [iand_nat hm hn]; simp only [has_nat, Nat.testBit_and]
theorem has_iandNot {a b : Int} (ha : VS a) (hb : VS b) (v : Nat) : has (iandNot .u32 a b) v = (has a v && !has b v) := by
  obtain ⟨m, rfl, hm⟩ := ha.nat; obtain ⟨n, rfl, hn⟩ := hb.nat
  have e : iandNot .u32 (m : Int) (n : Int) = (((BitVec.ofInt 32 (m : Int) &&& ~~~(BitVec.ofInt 32 (n : Int))).toNat : Nat) : Int) := by
    have hw := (BitVec.ofInt 32 (m : Int) &&& ~~~(BitVec.ofInt 32 (n : Int))).isLt
    show IntKind.u32.wrap (((BitVec.ofInt 32 (m : Int) &&& ~~~(BitVec.ofInt 32 (n : Int))).toNat : Nat) : Int) = _
    rw [wrap32]; omega
  rw [e, has_nat, has_nat, has_nat]
  have h1 : ∀ i, (BitVec.ofInt 32 (m : Int)).getLsbD i = m.testBit i := fun i => by rw [BitVec.getLsbD, ofInt_nat m hm]
  have h2 : ∀ i, (BitVec.ofInt 32 (n : Int)).getLsbD i = n.testBit i := fun i => by rw [BitVec.getLsbD, ofInt_nat n hn]
  rw [← BitVec.getLsbD, BitVec.getLsbD_and, BitVec.getLsbD_not, h1, h2]
  by_cases hv : v < 32
  · simp [hv]
  · have : m.testBit v = false := Nat.testBit_lt_two_pow (Nat.lt_of_lt_of_le hm (Nat.pow_le_pow_right (n := 2) (by omega) (show 32 ≤ v by omega)))
    simp [this]
theorem has_big {a : Int} (ha : VS a) {v : Nat} (hv : 32 ≤ v) : has a v = false := by
  obtain ⟨m, rfl, hm⟩ := ha.nat
  rw [has_nat]
  exact Nat.testBit_lt_two_pow (Nat.lt_of_lt_of_le hm (Nat.pow_le_pow_right (n := 2) (by omega) hv))
theorem VS.ext {a b : Int} (ha : VS a) (hb : VS b) (h : ∀ v, v < 32 → has a v = has b v) : a = b := by
  have : ∀ v, has a v = has b v := fun v => by
    by_cases hv : v < 32
    · exact h v hv
    · rw [has_big ha (by omega), has_big hb (by omega)]
  obtain ⟨m, rfl, hm⟩ := ha.nat; obtain ⟨n, rfl, hn⟩ := hb.nat
  congr 1
  apply Nat.eq_of_testBit_eq
  intro v
  have := this v
  rwa [has_nat, has_nat] at this
theorem VS.eq_zero {a : Int} (ha : VS a) : a = 0 ↔ ∀ v, v < 32 → has a v = false :=
  ⟨fun h v _ => by rw [h, has_zero], fun h => ha.ext VS.zero (fun v hv => by rw [h v hv, has_zero])⟩

/-- the set of one vertex -/
theorem one_eq {v : Nat} (hv : v < 32) : ishl .u32 1 (v : Int) = ((2 ^ v : Nat) : Int) := by
  have h : (2 : Nat) ^ v < 2 ^ 32 := Nat.pow_lt_pow_right (by omega) hv
  have h' : (2 : Nat) ^ 32 = 4294967296 := by decide
  rw [h'] at h
  show IntKind.u32.wrap (1 * 2 ^ (min ((v : Int)).toNat 32)) = _
  rw [wrap32, show min ((v : Int)).toNat 32 = v by simp; omega, Int.one_mul]
  have e : ((2 ^ v : Nat) : Int) = (2 : Int) ^ v := by simp
  rw [← e]
  generalize 2 ^ v = p at h ⊢
  omega
theorem has_one {v : Nat} (hv : v < 32) (u : Nat) : has (ishl .u32 1 (v : Int)) u = decide (u = v) := by
  rw [one_eq hv, has_nat, Nat.testBit_two_pow]
  simp [eq_comm]
theorem shr_eq (s : Int) (v : Nat) (h : VS s) (hv : v < 32) : ishr .u32 s (v : Int) = ((s.toNat >>> v : Nat) : Int) := by
  obtain ⟨m, rfl, hm⟩ := h.nat
  show Int.fdiv (m : Int) (2 ^ (min ((v : Int)).toNat 32)) = _
  rw [show min ((v : Int)).toNat 32 = v by simp; omega]
  have e : ((2 ^ v : Nat) : Int) = (2 : Int) ^ v := by simp
  rw [← e, Int.fdiv_eq_ediv_of_nonneg _ (Int.natCast_nonneg _), Nat.shiftRight_eq_div_pow]
  simp
theorem bitAt_eq {s : Int} {v : Nat} (h : VS s) (hv : v < 32) : (iand .u32 (ishr .u32 s (v : Int)) 1 == 1) = has s v := by
  rw [shr_eq s v h hv]
  have hs : s.toNat >>> v < 4294967296 := by
    obtain ⟨m, rfl, hm⟩ := h.nat
    rw [Nat.shiftRight_eq_div_pow]
    exact Nat.lt_of_le_of_lt (Nat.div_le_self _ _) hm
  have := iand_nat hs (show (1 : Nat) < 4294967296 by omega)
  rw [show (1 : Int) = ((1 : Nat) : Int) from rfl, this, has, Nat.testBit]
  rw [Nat.and_comm]
  have h1 : 1 &&& (s.toNat >>> v) = 0 ∨ 1 &&& (s.toNat >>> v) = 1 := by
    rw [Nat.and_comm, Nat.and_one_is_mod]; omega
  rcases h1 with e | e <;> rw [e] <;> rfl

/-- the numbers in a set, rising -/
def elems (s : Int) : List Int := ((List.range 32).filter (has s)).map Int.ofNat
theorem mem_elems {s : Int} {x : Int} : x ∈ elems s ↔ ∃ v : Nat, v < 32 ∧ has s v = true ∧ x = v := by
  unfold elems
  rw [List.mem_map]
  constructor
  · rintro ⟨v, hv, rfl⟩
    rw [List.mem_filter, List.mem_range] at hv
    exact ⟨v, hv.1, hv.2, rfl⟩
  · rintro ⟨v, h1, h2, rfl⟩
    exact ⟨v, List.mem_filter.2 ⟨List.mem_range.2 h1, h2⟩, rfl⟩
theorem mem_elems_nat {s : Int} (h : VS s) {v : Nat} : (v : Int) ∈ elems s ↔ has s v = true := by
  rw [mem_elems]
  constructor
  · rintro ⟨u, _, h2, h3⟩; obtain rfl : v = u := by omega
    exact h2
  · intro h2
    refine ⟨v, ?_, h2, rfl⟩
    by_cases hv : v < 32
    · exact hv
    · rw [has_big h (by omega)] at h2; cases h2
theorem elems_len (s : Int) : (elems s).length ≤ 32 := by
  unfold elems
  rw [List.length_map]
  exact Nat.le_trans (List.length_filter_le _ _) (by simp)

/-- rising lists -/
def Inc (l : List Int) : Prop := l.Pairwise (· < ·)
theorem elems_inc (s : Int) : Inc (elems s) := by
  unfold elems Inc
  rw [List.pairwise_map]
  refine List.Pairwise.filter _ ?_
  refine List.Pairwise.imp ?_ (List.pairwise_lt_range (n := 32))
  intro a b h
  show (a : Int) < (b : Int)
  omega
theorem Inc.ext : ∀ {l l' : List Int}, Inc l → Inc l' → (∀ x, x ∈ l ↔ x ∈ l') → l = l'
  | [], [], _, _, _ => rfl
  | [], y :: l', _, _, h => by have := (h y).2 (by simp); simp at this
  | x :: l, [], _, _, h => by have := (h x).1 (by simp); simp at this
  | x :: l, y :: l', h1, h2, h => by
    have h1' := List.pairwise_cons.1 h1; have h2' := List.pairwise_cons.1 h2
    have e : x = y := by
      rcases List.mem_cons.1 ((h x).1 (by simp)) with e | e
      · exact e
      · rcases List.mem_cons.1 ((h y).2 (by simp)) with e' | e'
        · exact e'.symm
        · have := h2'.1 x e; have := h1'.1 y e'; omega
    subst e
    have : l = l' := by
      refine Inc.ext h1'.2 h2'.2 (fun z => ?_)
      constructor
      · intro hz
        rcases List.mem_cons.1 ((h z).1 (List.mem_cons_of_mem _ hz)) with e | e
        · have := h1'.1 z hz; omega
        · exact e
      · intro hz
        rcases List.mem_cons.1 ((h z).2 (List.mem_cons_of_mem _ hz)) with e | e
        · have := h2'.1 z hz; omega
        · exact e
    rw [this]

/-- the least of a set, and what is left -/
theorem least_spec {s : Int} (h : VS s) (h0 : s ≠ 0) : ∃ k : Nat, k < 32 ∧ has s k = true ∧ (∀ v, v < k → has s v = false) ∧
    iand .u32 s (IntKind.u32.wrap (0 - s)) = ((2 ^ k : Nat) : Int) ∧ (∀ v, has (iand .u32 s (IntKind.u32.wrap (s - 1))) v = (has s v && !decide (v = k))) := by
  obtain ⟨m, rfl, hm⟩ := h.nat
  have hm0 : m ≠ 0 := by omega
  obtain ⟨q, hq, hk⟩ := Lib.ctzFrom_spec 32 m (by omega) hm
  have hc : Lib.ctz 32 m = Lib.ctzFrom 32 m := by unfold Lib.ctz; rw [if_neg hm0]
  obtain ⟨hl, _⟩ := Lib.lowest_bit 32 m hm0 hm
  rw [hc] at hl
  generalize Lib.ctzFrom 32 m = k at *
  have hpos : 0 < 2 ^ k := Nat.pow_pos (by omega)
  have hb : ∀ v, m.testBit v = (decide (v ≥ k) && (2 * q + 1).testBit (v - k)) := fun v => by rw [hq, Nat.mul_comm, Nat.testBit_mul_two_pow, Bool.and_comm]
  refine ⟨k, hk, ?_, fun v hv => ?_, ?_, fun v => ?_⟩
  · rw [has_nat, hb]; simp
  · rw [has_nat, hb]; simp; intro hc; omega
  · have e : IntKind.u32.wrap (0 - (m : Int)) = ((4294967296 - m : Nat) : Int) := by rw [wrap32]; omega
    rw [e, iand_nat hm (by omega)]
    rw [← hl]
  · have e : IntKind.u32.wrap ((m : Int) - 1) = ((m - 1 : Nat) : Int) := by rw [wrap32]; omega
    rw [e, iand_nat hm (by omega), has_nat, has_nat, Nat.testBit_and]
    have hm1 : m - 1 = 2 ^ k * (2 * q) + (2 ^ k - 1) := by rw [hq, Nat.mul_add]; omega
    have hb1 : (m - 1).testBit v = if v < k then true else (2 * q).testBit (v - k) := by
      rw [hm1, Nat.testBit_two_pow_mul_add _ (by omega)]
      split
      · rename_i hv; rw [Nat.testBit_two_pow_sub_one]; simp [hv]
      · rfl
    rw [hb1, hb]
    by_cases hv : v < k
    · simp [hv]; intro hc; omega
    · rw [if_neg hv]
      by_cases hvk : v = k
      · subst hvk; simp
      · obtain ⟨t, ht⟩ : ∃ t, v - k = t + 1 := ⟨v - k - 1, by omega⟩
        rw [ht, Nat.testBit_succ, Nat.testBit_succ]
        have e1 : (2 * q + 1) / 2 = q := by omega
        have e2 : 2 * q / 2 = q := by omega
        rw [e1, e2]
        simp [hvk]

theorem elems_least {s t : Int} {k : Nat} (hk : k < 32) (h1 : has s k = true) (h2 : ∀ v, v < k → has s v = false) (h3 : ∀ v, has t v = (has s v && !decide (v = k))) :
    elems s = (k : Int) :: elems t := by
  refine Inc.ext (elems_inc s) ?_ (fun x => ?_)
  · refine List.pairwise_cons.2 ⟨fun x hx => ?_, elems_inc t⟩
    obtain ⟨v, hv, h4, rfl⟩ := mem_elems.1 hx
    rw [h3] at h4
    simp at h4
    by_cases hc : v < k
    · rw [h2 v hc] at h4; simp at h4
    · omega
  · rw [List.mem_cons, mem_elems, mem_elems]
    constructor
    · rintro ⟨v, hv, h4, rfl⟩
      by_cases e : v = k
      · left; omega
      · right; exact ⟨v, hv, by rw [h3, h4]; simp [e], rfl⟩
    · rintro (rfl | ⟨v, hv, h4, rfl⟩)
      · exact ⟨k, hk, h1, rfl⟩
      · rw [h3] at h4; simp at h4
        exact ⟨v, hv, h4.1, rfl⟩
theorem elems_zero : elems 0 = [] := by
  unfold elems
  rw [List.filter_eq_nil_iff.2 (fun v _ => by simp [has_zero])]; rfl

theorem tz_table : ∀ k : Nat, k < 32 → idx tab32 (ishr .u32 (IntKind.u32.wrap (((2 ^ k : Nat) : Int) * 125613361)) 27) = some (k : Int) := by decide +kernel
end Go.Sx

/- Plain facts on lists of numbers: reading, swapping, what a sort may do. No program in sight. -/
namespace Go.Sx
def at' (l : List Int) (i : Int) : Int := l.getD i.toNat 0
theorem idx_at {l : List Int} {i : Int} (h0 : 0 ≤ i) (h1 : i < l.length) : idx l i = some (at' l i) := by
  unfold idx at'
  rw [if_pos h0]
  have : i.toNat < l.length := by omega
  simp [this]
theorem at_set {l : List Int} {i k x : Int} (h0 : 0 ≤ i) (h1 : i < l.length) (hk : 0 ≤ k) : at' (l.set i.toNat x) k = if k = i then x else at' l k := by
  unfold at'
  by_cases h : k = i
  · subst h
    have : k.toNat < l.length := by omega
    simp [this]
  · rw [if_neg h]
    have : i.toNat ≠ k.toNat := by omega
    simp [List.getD_eq_getElem?_getD, List.getElem?_set_ne this]

def sw (l : List Int) (i j : Int) : List Int := (l.set i.toNat (at' l j)).set j.toNat (at' l i)
theorem sw_len (l : List Int) (i j : Int) : (sw l i j).length = l.length := by simp [sw]
theorem sw_at {l : List Int} {i j k : Int} (hi : 0 ≤ i) (hi' : i < l.length) (hj : 0 ≤ j) (hj' : j < l.length) (hk : 0 ≤ k) :
    at' (sw l i j) k = if k = j then at' l i else if k = i then at' l j else at' l k := by
  unfold sw
  rw [at_set hj (by simpa using hj') hk]
  split
  · rfl
  · rw [at_set hi hi' hk]

theorem set_perm_erase (z : Int) : ∀ (l : List Int) (j : Nat), j < l.length → List.Perm (l.set j z) (z :: l.eraseIdx j)
  | [], j, h => by simp at h
  | x :: l, 0, _ => by simp
  | x :: l, j + 1, h => by
    simp only [List.set_cons_succ, List.eraseIdx_cons_succ]
    exact ((set_perm_erase z l j (by simpa using h)).cons x).trans (List.Perm.swap _ _ _)
theorem perm_erase (l : List Int) (j : Nat) (h : j < l.length) : List.Perm l (l[j] :: l.eraseIdx j) := by
  have := set_perm_erase l[j] l j h
  rwa [List.set_getElem_self] at this

theorem set_perm : ∀ (l : List Int) (i j : Nat) (x y : Int), l[i]? = some x → l[j]? = some y → List.Perm ((l.set i y).set j x) l
  | [], i, j, x, y, h, _ => by simp at h
  | z :: l, 0, 0, x, y, h, h' => by simp at h h'; subst h; simp
  | z :: l, 0, j + 1, x, y, h, h' => by
    simp at h h'
    subst h
    simp only [List.set_cons_zero, List.set_cons_succ]
    obtain ⟨hj, rfl⟩ := List.getElem?_eq_some_iff.1 h'
    have h1 := set_perm_erase z l j hj
    have h2 := perm_erase l j hj
    exact ((h1.cons _).trans (List.Perm.swap _ _ _)).trans (h2.symm.cons z)
  | z :: l, i + 1, 0, x, y, h, h' => by
    simp at h h'
    subst h'
    simp only [List.set_cons_zero, List.set_cons_succ]
    obtain ⟨hj, rfl⟩ := List.getElem?_eq_some_iff.1 h
    have h1 := set_perm_erase z l i hj
    have h2 := perm_erase l i hj
    exact ((h1.cons _).trans (List.Perm.swap _ _ _)).trans (h2.symm.cons z)
  | z :: l, i + 1, j + 1, x, y, h, h' => by
    simp at h h'
    simp only [List.set_cons_succ]
    exact (set_perm l i j x y h h').cons z

theorem sw_perm {l : List Int} {i j : Int} (hi : 0 ≤ i) (hi' : i < l.length) (hj : 0 ≤ j) (hj' : j < l.length) : List.Perm (sw l i j) l := by
  have h1 : i.toNat < l.length := by omega
  have h2 : j.toNat < l.length := by omega
  exact set_perm l i.toNat j.toNat _ _ (by simp [at', h1]) (by simp [at', h2])

/-- what a sort may do to the places from a to b -/
structure Rg (a b : Int) (l l' : List Int) : Prop where
  len : l'.length = l.length
  perm : List.Perm l' l
  out : ∀ k, 0 ≤ k → (k < a ∨ b ≤ k) → at' l' k = at' l k
  all : ∀ Q : Int → Prop, (∀ k, a ≤ k → k < b → Q (at' l k)) → ∀ k, a ≤ k → k < b → Q (at' l' k)

theorem Rg.refl (a b : Int) (l : List Int) : Rg a b l l := ⟨rfl, List.Perm.refl _, fun _ _ _ => rfl, fun _ h => h⟩
theorem Rg.trans {a b : Int} {l l' l'' : List Int} (h : Rg a b l l') (h' : Rg a b l' l'') : Rg a b l l'' :=
  ⟨h'.len.trans h.len, h'.perm.trans h.perm, fun k h0 hk => (h'.out k h0 hk).trans (h.out k h0 hk), fun Q hQ => h'.all Q (h.all Q hQ)⟩
theorem Rg.swap {a b i j : Int} {l : List Int} (ha : 0 ≤ a) (hb : b ≤ l.length) (hi : a ≤ i) (hi' : i < b) (hj : a ≤ j) (hj' : j < b) : Rg a b l (sw l i j) := by
  refine ⟨sw_len _ _ _, sw_perm (by omega) (by omega) (by omega) (by omega), fun k h0 hk => ?_, fun Q hQ k h1 h2 => ?_⟩
  · rw [sw_at (by omega) (by omega) (by omega) (by omega) h0, if_neg (by omega), if_neg (by omega)]
  · rw [sw_at (by omega) (by omega) (by omega) (by omega) (by omega)]
    split
    · exact hQ i hi hi'
    · split
      · exact hQ j hj hj'
      · exact hQ k h1 h2
theorem Rg.widen {a b a' b' : Int} {l l' : List Int} (h : Rg a b l l') (ha : a' ≤ a) (hb : b ≤ b') (h0 : 0 ≤ a') : Rg a' b' l l' := by
  refine ⟨h.len, h.perm, fun k h0 hk => h.out k h0 (by omega), fun Q hQ k h1 h2 => ?_⟩
  by_cases hk : a ≤ k ∧ k < b
  · exact h.all Q (fun k h3 h4 => hQ k (by omega) (by omega)) k hk.1 hk.2
  · rw [h.out k (by omega) (by omega)]; exact hQ k h1 h2

/-- sorted from a to b -/
def Srt (l : List Int) (a b : Int) : Prop := ∀ i j, a ≤ i → i < j → j < b → at' l i ≤ at' l j

end Go.Sx



/- What Go's sort at []int64 comes to. Plain. -/
namespace Go.Sx
theorem less_eq (x y : Int) : D.cmp_Less_int64 x y = some (decide (x < y)) := by
  simp [D.cmp_Less_int64, D.cmp_isNaN_int64]

theorem idx_set_at {l : List Int} {i j x : Int} (h0 : 0 ≤ i) (h1 : i < l.length) : idx (l.set j.toNat x) i = some (at' (l.set j.toNat x) i) := idx_at h0 (by simpa using h1)

theorem insertionSort_spec (l0 : List Int) (a b : Int) (ha : 0 ≤ a) (hab : a ≤ b) (hb : b ≤ l0.length) (hlen : l0.length ≤ 1000000) :
    ∃ l', D.slices_insertionSortOrdered_int64 l0 a b = some l' ∧ Rg a b l0 l' ∧ Srt l' a b := by
  unfold D.slices_insertionSortOrdered_int64
  rw [w64 (show -9223372036854775808 ≤ a + 1 by omega) (by omega)]
  refine loop_then (fun s => Rg a b l0 s.1 ∧ Srt s.1 a s.2 ∧ a + 1 ≤ s.2 ∧ s.2 ≤ b + 1) (fun s => (b - s.2).toNat) (fun r => Rg a b l0 r ∧ Srt r a b) ?_ ?_ ?_
  · rintro ⟨l, i⟩ ⟨hR, hS, h1, h2⟩
    dsimp only at hR hS h1 h2 ⊢
    have hll := hR.len
    by_cases hi : i < b
    · simp only [hi, decide_true, cond_true]
      rw [w64 (show -9223372036854775808 ≤ i + 1 by omega) (by omega)]
      refine loop_then (fun s => Rg a b l0 s.1 ∧ a ≤ s.2 ∧ s.2 ≤ i ∧ ∀ p q, a ≤ p → p < q → q ≤ i → q ≠ s.2 → at' s.1 p ≤ at' s.1 q) (fun s => (s.2 - a).toNat) (fun r => Rg a b l0 r ∧ Srt r a (i + 1)) ?_ ?_ ?_
      · rintro ⟨m, j⟩ ⟨hR', g1, g2, hS'⟩
        dsimp only at hR' g1 g2 hS' ⊢
        have hml := hR'.len
        rw [w64 (show -9223372036854775808 ≤ j - 1 by omega) (by omega)]
        by_cases hj : a < j
        · have r1 : idx m j = some (at' m j) := idx_at (by omega) (by omega)
          have r2 : idx m (j - 1) = some (at' m (j - 1)) := idx_at (by omega) (by omega)
          have r3 : ∀ x, idx (m.set j.toNat x) (j - 1) = some (at' (m.set j.toNat x) (j - 1)) := fun x => idx_set_at (by omega) (by omega)
          by_cases hlt : at' m j < at' m (j - 1)
          · refine ⟨.inl (sw m j (j - 1), j - 1), ?_, ⟨hR'.trans (Rg.swap ha (by omega) (by omega) (by omega) (by omega) (by omega)), by dsimp only; omega, by dsimp only; omega, ?_⟩, by dsimp only; omega⟩
            · simp only [r1, r2, r3, hj, less_eq, hlt, decide_true, cond_true, Option.bind_some]
              rfl
            · intro p q k1 k2 k3 k4
              dsimp only at k4 ⊢
              rw [sw_at (by omega) (by omega) (by omega) (by omega) (by omega), sw_at (by omega) (by omega) (by omega) (by omega) (by omega)]
              by_cases c1 : q = j
              · subst c1
                rw [if_neg (show ¬ q = q - 1 by omega), if_pos rfl]
                by_cases c2 : p = q - 1
                · rw [if_pos c2]; omega
                · rw [if_neg c2, if_neg (by omega)]
                  exact hS' p (q - 1) k1 (by omega) (by omega) (by omega)
              · rw [if_neg (show ¬ q = j - 1 by omega), if_neg c1]
                by_cases c2 : p = j - 1
                · rw [if_pos c2]
                  exact hS' j q (by omega) (by omega) k3 c1
                · rw [if_neg c2]
                  by_cases c3 : p = j
                  · rw [if_pos c3]
                    exact hS' (j - 1) q (by omega) (by omega) k3 c1
                  · rw [if_neg c3]
                    exact hS' p q k1 k2 k3 c1
          · refine ⟨.inr m, ?_, hR', ?_⟩
            · simp only [r1, r2, hj, less_eq, hlt, decide_true, decide_false, cond_true, cond_false, Option.bind_some]
            · intro p q k1 k2 k3
              by_cases c1 : q = j
              · subst c1
                by_cases c2 : p = q - 1
                · subst c2; omega
                · have := hS' p (q - 1) k1 (by omega) (by omega) (by omega)
                  omega
              · exact hS' p q k1 k2 (by omega) c1
        · refine ⟨.inr m, ?_, hR', ?_⟩
          · simp only [hj, decide_false, cond_false, Option.bind_some]
          · intro p q k1 k2 k3
            exact hS' p q k1 k2 (by omega) (by omega)
      · exact ⟨hR, by dsimp only; omega, Int.le_refl _, fun p q k1 k2 k3 k4 => hS p q k1 k2 (by dsimp only at k4 ⊢; omega)⟩
      · rintro r ⟨hR', hS'⟩
        exact ⟨.inl (r, i + 1), rfl, ⟨hR', hS', by dsimp only; omega, by dsimp only; omega⟩, by dsimp only; omega⟩
    · refine ⟨.inr l, by simp only [hi, decide_false, cond_false], hR, ?_⟩
      intro p q k1 k2 k3
      exact hS p q k1 k2 (by omega)
  · exact ⟨Rg.refl _ _ _, fun p q k1 k2 k3 => by dsimp only at k3; omega, by dsimp only; omega, by dsimp only; omega⟩
  · rintro r hr
    exact ⟨r, rfl, hr⟩
end Go.Sx

namespace Go.Sx
theorem reverseRange_spec (l0 : List Int) (a b : Int) (ha : 0 ≤ a) (hab : a ≤ b) (hb : b ≤ l0.length) (hlen : l0.length ≤ 1000000) :
    ∃ l', D.slices_reverseRangeOrdered_int64 l0 a b = some l' ∧ Rg a b l0 l' := by
  unfold D.slices_reverseRangeOrdered_int64
  rw [w64 (show -9223372036854775808 ≤ b - 1 by omega) (by omega)]
  refine loop_then (fun s => Rg a b l0 s.1 ∧ a ≤ s.2.1 ∧ s.2.1 ≤ b ∧ s.2.2 < b ∧ a - 1 ≤ s.2.2) (fun s => (s.2.2 - s.2.1).toNat) (fun r => Rg a b l0 r) ?_ ?_ ?_
  · rintro ⟨l, i, j⟩ ⟨hR, h1, h2, h3, h4⟩
    dsimp only at hR h1 h2 h3 h4 ⊢
    have hll := hR.len
    by_cases hi : i < j
    · have r1 : idx l i = some (at' l i) := idx_at (by omega) (by omega)
      have r2 : idx l j = some (at' l j) := idx_at (by omega) (by omega)
      have r3 : ∀ x, idx (l.set i.toNat x) j = some (at' (l.set i.toNat x) j) := fun x => idx_set_at (by omega) (by omega)
      rw [w64 (show -9223372036854775808 ≤ i + 1 by omega) (by omega), w64 (show -9223372036854775808 ≤ j - 1 by omega) (by omega)]
      refine ⟨.inl (sw l i j, i + 1, j - 1), ?_, ⟨hR.trans (Rg.swap ha (by omega) (by omega) (by omega) (by omega) (by omega)), by dsimp only; omega, by dsimp only; omega, by dsimp only; omega, by dsimp only; omega⟩, by dsimp only; omega⟩
      simp only [r1, r2, r3, hi, decide_true, cond_true, Option.bind_some]
      rfl
    · exact ⟨.inr l, by simp only [hi, decide_false, cond_false], hR⟩
  · exact ⟨Rg.refl _ _ _, by dsimp only; omega, by dsimp only; omega, by dsimp only; omega, by dsimp only; omega⟩
  · rintro r hr
    exact ⟨r, rfl, hr⟩

/-- up, while what is read is less than the pivot -/
theorem scanUp {β : Type} {k : Int → Option β} {Q : β → Prop} (l : List Int) (a hi i0 : Int) (ha : 0 ≤ a) (ha' : a < l.length) (h0 : 0 ≤ i0) (h1 : i0 ≤ hi + 1) (h2 : hi < l.length) (hlen : l.length ≤ 1000000)
    (hk : ∀ i, i0 ≤ i → i ≤ hi + 1 → (∀ q, i0 ≤ q → q < i → at' l q < at' l a) → (i ≤ hi → ¬ at' l i < at' l a) → ∃ y, k i = some y ∧ Q y) :
    ∃ y, (loopF (σ := Int) (ρ := (Int)) (fun (x : Int) => (cond (decide (x ≤ hi)) ((idx l x).bind fun e => (idx l a).bind fun e' => (D.cmp_Less_int64 e e').bind fun y => some y) (some false)).bind fun b => cond b (some (.inl (IntKind.i64.wrap (x + 1)))) (some (.inr x))) i0).bind k = some y ∧ Q y := by
  refine loop_then (fun i => i0 ≤ i ∧ i ≤ hi + 1 ∧ ∀ q, i0 ≤ q → q < i → at' l q < at' l a) (fun i => (hi + 1 - i).toNat) (fun i => i0 ≤ i ∧ i ≤ hi + 1 ∧ (∀ q, i0 ≤ q → q < i → at' l q < at' l a) ∧ (i ≤ hi → ¬ at' l i < at' l a)) ?_ ?_ ?_
  · rintro i ⟨g1, g2, g3⟩
    by_cases hi' : i ≤ hi
    · have r1 : idx l i = some (at' l i) := idx_at (by omega) (by omega)
      have r2 : idx l a = some (at' l a) := idx_at (by omega) (by omega)
      by_cases hlt : at' l i < at' l a
      · refine ⟨.inl (i + 1), ?_, ⟨by omega, by omega, fun q q1 q2 => ?_⟩, by dsimp only; omega⟩
        · simp only [r1, r2, hi', less_eq, hlt, decide_true, cond_true, Option.bind_some]
          rw [w64 (by omega) (by omega)]
        · by_cases e : q = i
          · rw [e]; exact hlt
          · exact g3 q q1 (by omega)
      · exact ⟨.inr i, by simp only [r1, r2, hi', less_eq, hlt, decide_true, decide_false, cond_true, cond_false, Option.bind_some], g1, g2, g3, fun _ => hlt⟩
    · exact ⟨.inr i, by simp only [hi', decide_false, cond_false, Option.bind_some], g1, g2, g3, fun h => absurd h hi'⟩
  · exact ⟨Int.le_refl _, h1, fun q q1 q2 => by omega⟩
  · rintro i ⟨g1, g2, g3, g4⟩
    exact hk i g1 g2 g3 g4

/-- down, while what is read is not less than the pivot -/
theorem scanDown {β : Type} {k : Int → Option β} {Q : β → Prop} (l : List Int) (a lo j0 : Int) (ha : 0 ≤ a) (ha' : a < l.length) (h0 : 0 ≤ lo) (h1 : lo ≤ j0 + 1) (h2 : j0 < l.length) (hlen : l.length ≤ 1000000)
    (hk : ∀ j, lo ≤ j + 1 → j ≤ j0 → (∀ q, j < q → q ≤ j0 → ¬ at' l q < at' l a) → (lo ≤ j → at' l j < at' l a) → ∃ y, k j = some y ∧ Q y) :
    ∃ y, (loopF (σ := Int) (ρ := (Int)) (fun (x : Int) => (cond (decide (lo ≤ x)) ((idx l x).bind fun e => (idx l a).bind fun e' => (D.cmp_Less_int64 e e').bind fun y => some (!y)) (some false)).bind fun b => cond b (some (.inl (IntKind.i64.wrap (x - 1)))) (some (.inr x))) j0).bind k = some y ∧ Q y := by
  refine loop_then (fun j => lo ≤ j + 1 ∧ j ≤ j0 ∧ ∀ q, j < q → q ≤ j0 → ¬ at' l q < at' l a) (fun j => (j + 1 - lo).toNat) (fun j => lo ≤ j + 1 ∧ j ≤ j0 ∧ (∀ q, j < q → q ≤ j0 → ¬ at' l q < at' l a) ∧ (lo ≤ j → at' l j < at' l a)) ?_ ?_ ?_
  · rintro j ⟨g1, g2, g3⟩
    by_cases hi' : lo ≤ j
    · have r1 : idx l j = some (at' l j) := idx_at (by omega) (by omega)
      have r2 : idx l a = some (at' l a) := idx_at (by omega) (by omega)
      by_cases hlt : at' l j < at' l a
      · exact ⟨.inr j, by simp only [r1, r2, hi', less_eq, hlt, decide_true, Bool.not_true, cond_true, cond_false, Option.bind_some], g1, g2, g3, fun _ => hlt⟩
      · refine ⟨.inl (j - 1), ?_, ⟨by omega, by omega, fun q q1 q2 => ?_⟩, by dsimp only; omega⟩
        · simp only [r1, r2, hi', less_eq, hlt, decide_true, decide_false, Bool.not_false, cond_true, Option.bind_some]
          rw [w64 (by omega) (by omega)]
        · by_cases e : q = j
          · rw [e]; exact hlt
          · exact g3 q (by omega) q2
    · exact ⟨.inr j, by simp only [hi', decide_false, cond_false, Option.bind_some], g1, g2, g3, fun h => absurd h hi'⟩
  · exact ⟨h1, Int.le_refl _, fun q q1 q2 => by omega⟩
  · rintro j ⟨g1, g2, g3, g4⟩
    exact hk j g1 g2 g3 g4

/-- what a partition comes to -/
structure Parted (l0 l' : List Int) (a b mid : Int) : Prop where
  rg : Rg a b l0 l'
  lo : a ≤ mid
  hi : mid < b
  left : ∀ k, a ≤ k → k < mid → at' l' k ≤ at' l' mid
  right : ∀ k, mid < k → k < b → at' l' mid ≤ at' l' k

theorem partition_spec (l0 : List Int) (a b p : Int) (ha : 0 ≤ a) (hb : b ≤ l0.length) (hlen : l0.length ≤ 1000000) (hp : a ≤ p) (hp' : p < b) :
    ∃ y, D.slices_partitionOrdered_int64 l0 a b p = some y ∧ Parted l0 y.2.2 a b y.1 := by
  unfold D.slices_partitionOrdered_int64
  have r1 : idx l0 p = some (at' l0 p) := idx_at (by omega) (by omega)
  have r2 : idx l0 a = some (at' l0 a) := idx_at (by omega) (by omega)
  have r3 : ∀ x, idx (l0.set a.toNat x) p = some (at' (l0.set a.toNat x) p) := fun x => idx_set_at (by omega) (by omega)
  simp only [r1, r2, r3, Option.bind_some]
  rw [show (l0.set a.toNat (at' l0 p)).set p.toNat (at' l0 a) = sw l0 a p from rfl]
  have hR0 : Rg a b l0 (sw l0 a p) := Rg.swap ha hb (by omega) (by omega) hp hp'
  generalize sw l0 a p = m0 at hR0 ⊢
  have hm0 := hR0.len
  rw [w64 (show -9223372036854775808 ≤ b - 1 by omega) (by omega), w64 (show -9223372036854775808 ≤ a + 1 by omega) (by omega)]
  refine scanUp m0 a (b - 1) (a + 1) ha (by omega) (by omega) (by omega) (by omega) (by omega) (fun i i1 i2 i3 i4 => ?_)
  refine scanDown m0 a i (b - 1) ha (by omega) (by omega) (by omega) (by omega) (by omega) (fun j j1 j2 j3 j4 => ?_)
  have q1 : idx m0 a = some (at' m0 a) := idx_at (by omega) (by omega)
  have q2 : idx m0 j = some (at' m0 j) := idx_at (by omega) (by omega)
  by_cases hij : j < i
  · have q3 : ∀ x, idx (m0.set j.toNat x) a = some (at' (m0.set j.toNat x) a) := fun x => idx_set_at (by omega) (by omega)
    refine ⟨(j, true, sw m0 j a), ?_, ⟨hR0.trans (Rg.swap ha (by omega) (by omega) (by omega) (by omega) (by omega)), by dsimp only; omega, by dsimp only; omega, fun k k1 k2 => ?_, fun k k1 k2 => ?_⟩⟩
    · simp only [q1, q2, q3, hij, decide_true, cond_true, Option.bind_some]
      rfl
    · dsimp only at k1 k2 ⊢
      rw [sw_at (by omega) (by omega) (by omega) (by omega) (by omega), sw_at (by omega) (by omega) (by omega) (by omega) (by omega)]
      rw [if_neg (show ¬ j = a by omega), if_pos rfl]
      by_cases e : k = a
      · rw [if_pos e]
        have := i3 j (by omega) (by omega); omega
      · rw [if_neg e, if_neg (by omega)]
        have := i3 k (by omega) (by omega); omega
    · dsimp only at k1 k2 ⊢
      rw [sw_at (by omega) (by omega) (by omega) (by omega) (by omega), sw_at (by omega) (by omega) (by omega) (by omega) (by omega)]
      rw [if_neg (show ¬ k = a by omega), if_neg (show ¬ k = j by omega)]
      have hk := j3 k (by omega) (by omega)
      by_cases e : j = a
      · rw [if_pos e]; subst e; omega
      · rw [if_neg e, if_pos rfl]; omega
  · have q4 : idx m0 i = some (at' m0 i) := idx_at (by omega) (by omega)
    have q5 : ∀ x, idx (m0.set i.toNat x) j = some (at' (m0.set i.toNat x) j) := fun x => idx_set_at (by omega) (by omega)
    simp only [q1, q2, q4, q5, hij, decide_false, cond_false, Option.bind_some]
    rw [show (m0.set i.toNat (at' m0 j)).set j.toNat (at' m0 i) = sw m0 i j from rfl]
    have hia := i4 (by omega)
    have hja := j4 (by omega)
    have hne : i < j := by
      rcases Int.lt_or_eq_of_le (show i ≤ j by omega) with h | h
      · exact h
      · subst h; exact absurd hja hia
    have hR1 : Rg a b l0 (sw m0 i j) := hR0.trans (Rg.swap ha (by omega) (by omega) (by omega) (by omega) (by omega))
    have ea : at' (sw m0 i j) a = at' m0 a := by rw [sw_at (by omega) (by omega) (by omega) (by omega) (by omega), if_neg (by omega), if_neg (by omega)]
    have hlo : ∀ q, a + 1 ≤ q → q < i + 1 → at' (sw m0 i j) q < at' (sw m0 i j) a := fun q h1 h2 => by
      rw [ea, sw_at (by omega) (by omega) (by omega) (by omega) (by omega), if_neg (by omega)]
      by_cases e : q = i
      · rw [if_pos e]; exact hja
      · rw [if_neg e]; exact i3 q h1 (by omega)
    have hhi : ∀ q, j - 1 < q → q < b → ¬ at' (sw m0 i j) q < at' (sw m0 i j) a := fun q h1 h2 => by
      rw [ea, sw_at (by omega) (by omega) (by omega) (by omega) (by omega)]
      by_cases e : q = j
      · rw [if_pos e]; exact hia
      · rw [if_neg e, if_neg (by omega)]; exact j3 q (by omega) (by omega)
    rw [w64 (show -9223372036854775808 ≤ i + 1 by omega) (by omega), w64 (show -9223372036854775808 ≤ j - 1 by omega) (by omega)]
    generalize sw m0 i j = m1 at hR1 hlo hhi ⊢
    refine loop_then (fun s => Rg a b l0 s.1 ∧ a + 1 ≤ s.2.1 ∧ s.2.1 ≤ s.2.2 + 1 ∧ s.2.2 < b ∧ (∀ q, a + 1 ≤ q → q < s.2.1 → at' s.1 q < at' s.1 a) ∧ (∀ q, s.2.2 < q → q < b → ¬ at' s.1 q < at' s.1 a)) (fun s => (s.2.2 + 1 - s.2.1).toNat)
      (fun s => Rg a b l0 s.1 ∧ a ≤ s.2 ∧ s.2 < b ∧ (∀ q, a + 1 ≤ q → q ≤ s.2 → at' s.1 q < at' s.1 a) ∧ (∀ q, s.2 < q → q < b → ¬ at' s.1 q < at' s.1 a)) ?_ ?_ ?_
    · rintro ⟨m, u, v⟩ ⟨hR, g1, g2, g3, g4, g5⟩
      dsimp only at hR g1 g2 g3 g4 g5 ⊢
      have hml := hR.len
      refine scanUp m a v u ha (by omega) (by omega) (by omega) (by omega) (by omega) (fun i i1 i2 i3 i4 => ?_)
      refine scanDown m a i v ha (by omega) (by omega) (by omega) (by omega) (by omega) (fun j j1 j2 j3 j4 => ?_)
      have f1 : ∀ q, a + 1 ≤ q → q < i → at' m q < at' m a := fun q h1 h2 => by
        by_cases h : q < u
        · exact g4 q h1 h
        · exact i3 q (by omega) h2
      have f2 : ∀ q, j < q → q < b → ¬ at' m q < at' m a := fun q h1 h2 => by
        by_cases h : q ≤ v
        · exact j3 q h1 h
        · exact g5 q (by omega) h2
      by_cases hij : j < i
      · exact ⟨.inr (m, j), by simp only [hij, decide_true, cond_true], hR, by dsimp only; omega, by dsimp only; omega, fun q h1 h2 => f1 q h1 (by dsimp only at h2; omega), f2⟩
      · have t1 : idx m i = some (at' m i) := idx_at (by omega) (by omega)
        have t2 : idx m j = some (at' m j) := idx_at (by omega) (by omega)
        have t3 : ∀ x, idx (m.set i.toNat x) j = some (at' (m.set i.toNat x) j) := fun x => idx_set_at (by omega) (by omega)
        have hia := i4 (by omega)
        have hja := j4 (by omega)
        have hne : i < j := by
          rcases Int.lt_or_eq_of_le (show i ≤ j by omega) with h | h
          · exact h
          · subst h; exact absurd hja hia
        have ea : at' (sw m i j) a = at' m a := by rw [sw_at (by omega) (by omega) (by omega) (by omega) (by omega), if_neg (by omega), if_neg (by omega)]
        rw [w64 (show -9223372036854775808 ≤ i + 1 by omega) (by omega), w64 (show -9223372036854775808 ≤ j - 1 by omega) (by omega)]
        refine ⟨.inl (sw m i j, i + 1, j - 1), ?_, ⟨hR.trans (Rg.swap ha (by omega) (by omega) (by omega) (by omega) (by omega)), by dsimp only; omega, by dsimp only; omega, by dsimp only; omega, fun q h1 h2 => ?_, fun q h1 h2 => ?_⟩, by dsimp only; omega⟩
        · simp only [t1, t2, t3, hij, decide_false, cond_false, Option.bind_some]
          rfl
        · dsimp only at h2 ⊢
          rw [ea, sw_at (by omega) (by omega) (by omega) (by omega) (by omega), if_neg (by omega)]
          by_cases e : q = i
          · rw [if_pos e]; exact hja
          · rw [if_neg e]; exact f1 q h1 (by omega)
        · dsimp only at h1 ⊢
          rw [ea, sw_at (by omega) (by omega) (by omega) (by omega) (by omega)]
          by_cases e : q = j
          · rw [if_pos e]; exact hia
          · rw [if_neg e, if_neg (by omega)]; exact f2 q (by omega) h2
    · exact ⟨hR1, by dsimp only; omega, by dsimp only; omega, by dsimp only; omega, hlo, hhi⟩
    · rintro ⟨m, v⟩ ⟨hR, g1, g2, g3, g4⟩
      dsimp only at hR g1 g2 g3 g4 ⊢
      have hml := hR.len
      have t1 : idx m a = some (at' m a) := idx_at (by omega) (by omega)
      have t2 : idx m v = some (at' m v) := idx_at (by omega) (by omega)
      have t3 : ∀ x, idx (m.set v.toNat x) a = some (at' (m.set v.toNat x) a) := fun x => idx_set_at (by omega) (by omega)
      refine ⟨(v, false, sw m v a), ?_, ⟨hR.trans (Rg.swap ha (by omega) (by omega) (by omega) (by omega) (by omega)), g1, g2, fun k k1 k2 => ?_, fun k k1 k2 => ?_⟩⟩
      · simp only [t1, t2, t3, Option.bind_some]
        rfl
      · dsimp only at k1 k2 ⊢
        rw [sw_at (by omega) (by omega) (by omega) (by omega) (by omega), sw_at (by omega) (by omega) (by omega) (by omega) (by omega)]
        rw [if_neg (show ¬ v = a by omega), if_pos rfl]
        by_cases e : k = a
        · rw [if_pos e]
          have := g3 v (by omega) (by omega); omega
        · rw [if_neg e, if_neg (by omega)]
          have := g3 k (by omega) (by omega); omega
      · dsimp only at k1 k2 ⊢
        rw [sw_at (by omega) (by omega) (by omega) (by omega) (by omega), sw_at (by omega) (by omega) (by omega) (by omega) (by omega)]
        rw [if_neg (show ¬ k = a by omega), if_neg (show ¬ k = v by omega)]
        have hk := g4 k (by omega) (by omega)
        by_cases e : v = a
        · rw [if_pos e]; subst e; omega
        · rw [if_neg e, if_pos rfl]; omega
end Go.Sx

namespace Go.Sx
/-- up, while the pivot is not less than what is read -/
theorem scanUp2 {β : Type} {k : Int → Option β} {Q : β → Prop} (l : List Int) (a hi i0 : Int) (ha : 0 ≤ a) (ha' : a < l.length) (h0 : 0 ≤ i0) (h1 : i0 ≤ hi + 1) (h2 : hi < l.length) (hlen : l.length ≤ 1000000)
    (hk : ∀ i, i0 ≤ i → i ≤ hi + 1 → (∀ q, i0 ≤ q → q < i → ¬ at' l a < at' l q) → (i ≤ hi → at' l a < at' l i) → ∃ y, k i = some y ∧ Q y) :
    ∃ y, (loopF (σ := Int) (ρ := (Int)) (fun (x : Int) => (cond (decide (x ≤ hi)) ((idx l a).bind fun e => (idx l x).bind fun e' => (D.cmp_Less_int64 e e').bind fun y => some (!y)) (some false)).bind fun b => cond b (some (.inl (IntKind.i64.wrap (x + 1)))) (some (.inr x))) i0).bind k = some y ∧ Q y := by
  refine loop_then (fun i => i0 ≤ i ∧ i ≤ hi + 1 ∧ ∀ q, i0 ≤ q → q < i → ¬ at' l a < at' l q) (fun i => (hi + 1 - i).toNat) (fun i => i0 ≤ i ∧ i ≤ hi + 1 ∧ (∀ q, i0 ≤ q → q < i → ¬ at' l a < at' l q) ∧ (i ≤ hi → at' l a < at' l i)) ?_ ?_ ?_
  · rintro i ⟨g1, g2, g3⟩
    by_cases hi' : i ≤ hi
    · have r1 : idx l i = some (at' l i) := idx_at (by omega) (by omega)
      have r2 : idx l a = some (at' l a) := idx_at (by omega) (by omega)
      by_cases hlt : at' l a < at' l i
      · exact ⟨.inr i, by simp only [r1, r2, hi', less_eq, hlt, decide_true, Bool.not_true, cond_true, cond_false, Option.bind_some], g1, g2, g3, fun _ => hlt⟩
      · refine ⟨.inl (i + 1), ?_, ⟨by omega, by omega, fun q q1 q2 => ?_⟩, by dsimp only; omega⟩
        · simp only [r1, r2, hi', less_eq, hlt, decide_true, decide_false, Bool.not_false, cond_true, Option.bind_some]
          rw [w64 (by omega) (by omega)]
        · by_cases e : q = i
          · rw [e]; exact hlt
          · exact g3 q q1 (by omega)
    · exact ⟨.inr i, by simp only [hi', decide_false, cond_false, Option.bind_some], g1, g2, g3, fun h => absurd h hi'⟩
  · exact ⟨Int.le_refl _, h1, fun q q1 q2 => by omega⟩
  · rintro i ⟨g1, g2, g3, g4⟩
    exact hk i g1 g2 g3 g4

/-- down, while the pivot is less than what is read -/
theorem scanDown2 {β : Type} {k : Int → Option β} {Q : β → Prop} (l : List Int) (a lo j0 : Int) (ha : 0 ≤ a) (ha' : a < l.length) (h0 : 0 ≤ lo) (h1 : lo ≤ j0 + 1) (h2 : j0 < l.length) (hlen : l.length ≤ 1000000)
    (hk : ∀ j, lo ≤ j + 1 → j ≤ j0 → (∀ q, j < q → q ≤ j0 → at' l a < at' l q) → (lo ≤ j → ¬ at' l a < at' l j) → ∃ y, k j = some y ∧ Q y) :
    ∃ y, (loopF (σ := Int) (ρ := (Int)) (fun (x : Int) => (cond (decide (lo ≤ x)) ((idx l a).bind fun e => (idx l x).bind fun e' => (D.cmp_Less_int64 e e').bind fun y => some y) (some false)).bind fun b => cond b (some (.inl (IntKind.i64.wrap (x - 1)))) (some (.inr x))) j0).bind k = some y ∧ Q y := by
  refine loop_then (fun j => lo ≤ j + 1 ∧ j ≤ j0 ∧ ∀ q, j < q → q ≤ j0 → at' l a < at' l q) (fun j => (j + 1 - lo).toNat) (fun j => lo ≤ j + 1 ∧ j ≤ j0 ∧ (∀ q, j < q → q ≤ j0 → at' l a < at' l q) ∧ (lo ≤ j → ¬ at' l a < at' l j)) ?_ ?_ ?_
  · rintro j ⟨g1, g2, g3⟩
    by_cases hi' : lo ≤ j
    · have r1 : idx l j = some (at' l j) := idx_at (by omega) (by omega)
      have r2 : idx l a = some (at' l a) := idx_at (by omega) (by omega)
      by_cases hlt : at' l a < at' l j
      · refine ⟨.inl (j - 1), ?_, ⟨by omega, by omega, fun q q1 q2 => ?_⟩, by dsimp only; omega⟩
        · simp only [r1, r2, hi', less_eq, hlt, decide_true, cond_true, Option.bind_some]
          rw [w64 (by omega) (by omega)]
        · by_cases e : q = j
          · rw [e]; exact hlt
          · exact g3 q (by omega) q2
      · exact ⟨.inr j, by simp only [r1, r2, hi', less_eq, hlt, decide_true, decide_false, cond_true, cond_false, Option.bind_some], g1, g2, g3, fun _ => hlt⟩
    · exact ⟨.inr j, by simp only [hi', decide_false, cond_false, Option.bind_some], g1, g2, g3, fun h => absurd h hi'⟩
  · exact ⟨h1, Int.le_refl _, fun q q1 q2 => by omega⟩
  · rintro j ⟨g1, g2, g3, g4⟩
    exact hk j g1 g2 g3 g4

theorem partitionEqual_spec (l0 : List Int) (a b p : Int) (ha : 0 ≤ a) (hb : b ≤ l0.length) (hlen : l0.length ≤ 1000000) (hp : a ≤ p) (hp' : p < b) :
    ∃ y, D.slices_partitionEqualOrdered_int64 l0 a b p = some y ∧ Rg a b l0 y.2 ∧ a < y.1 ∧ y.1 ≤ b ∧ (∀ k, a ≤ k → k < y.1 → at' y.2 k ≤ at' l0 p) ∧ (∀ k, y.1 ≤ k → k < b → at' l0 p < at' y.2 k) := by
  unfold D.slices_partitionEqualOrdered_int64
  have r1 : idx l0 p = some (at' l0 p) := idx_at (by omega) (by omega)
  have r2 : idx l0 a = some (at' l0 a) := idx_at (by omega) (by omega)
  have r3 : ∀ x, idx (l0.set a.toNat x) p = some (at' (l0.set a.toNat x) p) := fun x => idx_set_at (by omega) (by omega)
  simp only [r1, r2, r3, Option.bind_some]
  rw [show (l0.set a.toNat (at' l0 p)).set p.toNat (at' l0 a) = sw l0 a p from rfl]
  have hR0 : Rg a b l0 (sw l0 a p) := Rg.swap ha hb (by omega) (by omega) hp hp'
  have ep : at' (sw l0 a p) a = at' l0 p := by
    rw [sw_at (by omega) (by omega) (by omega) (by omega) (by omega)]
    by_cases e : a = p
    · rw [if_pos e, e]
    · rw [if_neg e, if_pos rfl]
  generalize sw l0 a p = m0 at hR0 ep ⊢
  rw [w64 (show -9223372036854775808 ≤ b - 1 by omega) (by omega), w64 (show -9223372036854775808 ≤ a + 1 by omega) (by omega)]
  refine loop_then (fun s => Rg a b l0 s.1 ∧ a + 1 ≤ s.2.1 ∧ s.2.1 ≤ s.2.2 + 1 ∧ s.2.2 < b ∧ at' s.1 a = at' l0 p ∧ (∀ q, a + 1 ≤ q → q < s.2.1 → ¬ at' s.1 a < at' s.1 q) ∧ (∀ q, s.2.2 < q → q < b → at' s.1 a < at' s.1 q)) (fun s => (s.2.2 + 1 - s.2.1).toNat)
    (fun s => Rg a b l0 s.1 ∧ a + 1 ≤ s.2 ∧ s.2 ≤ b ∧ at' s.1 a = at' l0 p ∧ (∀ q, a + 1 ≤ q → q < s.2 → ¬ at' s.1 a < at' s.1 q) ∧ (∀ q, s.2 ≤ q → q < b → at' s.1 a < at' s.1 q)) ?_ ?_ ?_
  · rintro ⟨m, u, v⟩ ⟨hR, g1, g2, g3, g6, g4, g5⟩
    dsimp only at hR g1 g2 g3 g4 g5 g6 ⊢
    have hml := hR.len
    refine scanUp2 m a v u ha (by omega) (by omega) (by omega) (by omega) (by omega) (fun i i1 i2 i3 i4 => ?_)
    refine scanDown2 m a i v ha (by omega) (by omega) (by omega) (by omega) (by omega) (fun j j1 j2 j3 j4 => ?_)
    have f1 : ∀ q, a + 1 ≤ q → q < i → ¬ at' m a < at' m q := fun q h1 h2 => by
      by_cases h : q < u
      · exact g4 q h1 h
      · exact i3 q (by omega) h2
    have f2 : ∀ q, j < q → q < b → at' m a < at' m q := fun q h1 h2 => by
      by_cases h : q ≤ v
      · exact j3 q h1 h
      · exact g5 q (by omega) h2
    by_cases hij : j < i
    · exact ⟨.inr (m, i), by simp only [hij, decide_true, cond_true], hR, by dsimp only; omega, by dsimp only; omega, g6, f1, fun q h1 h2 => f2 q (by dsimp only at h1; omega) h2⟩
    · have t1 : idx m i = some (at' m i) := idx_at (by omega) (by omega)
      have t2 : idx m j = some (at' m j) := idx_at (by omega) (by omega)
      have t3 : ∀ x, idx (m.set i.toNat x) j = some (at' (m.set i.toNat x) j) := fun x => idx_set_at (by omega) (by omega)
      have hia := i4 (by omega)
      have hja := j4 (by omega)
      have hne : i < j := by
        rcases Int.lt_or_eq_of_le (show i ≤ j by omega) with h | h
        · exact h
        · subst h; exact absurd hia hja
      have ea : at' (sw m i j) a = at' m a := by rw [sw_at (by omega) (by omega) (by omega) (by omega) (by omega), if_neg (by omega), if_neg (by omega)]
      rw [w64 (show -9223372036854775808 ≤ i + 1 by omega) (by omega), w64 (show -9223372036854775808 ≤ j - 1 by omega) (by omega)]
      refine ⟨.inl (sw m i j, i + 1, j - 1), ?_, ⟨hR.trans (Rg.swap ha (by omega) (by omega) (by omega) (by omega) (by omega)), by dsimp only; omega, by dsimp only; omega, by dsimp only; omega, by dsimp only; rw [ea]; exact g6, fun q h1 h2 => ?_, fun q h1 h2 => ?_⟩, by dsimp only; omega⟩
      · simp only [t1, t2, t3, hij, decide_false, cond_false, Option.bind_some]
        rfl
      · dsimp only at h2 ⊢
        rw [ea, sw_at (by omega) (by omega) (by omega) (by omega) (by omega), if_neg (by omega)]
        by_cases e : q = i
        · rw [if_pos e]; exact hja
        · rw [if_neg e]; exact f1 q h1 (by omega)
      · dsimp only at h1 ⊢
        rw [ea, sw_at (by omega) (by omega) (by omega) (by omega) (by omega)]
        by_cases e : q = j
        · rw [if_pos e]; exact hia
        · rw [if_neg e, if_neg (by omega)]; exact f2 q (by omega) h2
  · exact ⟨hR0, by dsimp only; omega, by dsimp only; omega, by dsimp only; omega, ep, fun q h1 h2 => by dsimp only at h2; omega, fun q h1 h2 => by dsimp only at h1; omega⟩
  · rintro ⟨m, v⟩ ⟨hR, g1, g2, g3, g4, g5⟩
    refine ⟨(v, m), rfl, hR, by dsimp only at *; omega, g2, fun k k1 k2 => ?_, fun k k1 k2 => ?_⟩
    · dsimp only at *
      by_cases e : k = a
      · rw [e, g3]; exact Int.le_refl _
      · have := g4 k (by omega) k2; omega
    · dsimp only at *
      have := g5 k k1 k2; omega

theorem order2_spec (l : List Int) (a b s : Int) (ha : 0 ≤ a) (ha' : a < l.length) (hb : 0 ≤ b) (hb' : b < l.length) :
    ∃ y, D.slices_order2Ordered_int64 l a b s = some y ∧ y.2.2.1 = l ∧ ((y.1 = a ∧ y.2.1 = b) ∨ (y.1 = b ∧ y.2.1 = a)) := by
  have r1 : idx l a = some (at' l a) := idx_at ha ha'
  have r2 : idx l b = some (at' l b) := idx_at hb hb'
  unfold D.slices_order2Ordered_int64
  simp only [r1, r2, less_eq, Option.bind_some]
  by_cases h : at' l b < at' l a
  · simp only [h, decide_true, cond_true]; exact ⟨_, rfl, rfl, .inr ⟨rfl, rfl⟩⟩
  · simp only [h, decide_false, cond_false]; exact ⟨_, rfl, rfl, .inl ⟨rfl, rfl⟩⟩

theorem median_spec (l : List Int) (a b c s : Int) (ha : 0 ≤ a) (ha' : a < l.length) (hb : 0 ≤ b) (hb' : b < l.length) (hc : 0 ≤ c) (hc' : c < l.length) :
    ∃ y, D.slices_medianOrdered_int64 l a b c s = some y ∧ y.2.1 = l ∧ (y.1 = a ∨ y.1 = b ∨ y.1 = c) := by
  unfold D.slices_medianOrdered_int64
  obtain ⟨y1, h1, e1, c1⟩ := order2_spec l a b s ha ha' hb hb'
  rw [h1, Option.bind_some, e1]
  have b1 : 0 ≤ y1.2.1 ∧ y1.2.1 < l.length ∧ 0 ≤ y1.1 ∧ y1.1 < l.length := by rcases c1 with ⟨c, d⟩ | ⟨c, d⟩ <;> rw [c, d] <;> exact ⟨by assumption, by assumption, by assumption, by assumption⟩
  obtain ⟨y2, h2, e2, c2⟩ := order2_spec l y1.2.1 c y1.2.2.2 b1.1 b1.2.1 hc hc'
  rw [h2, Option.bind_some, e2]
  have b2 : 0 ≤ y2.1 ∧ y2.1 < l.length := by rcases c2 with ⟨c, d⟩ | ⟨c, d⟩ <;> rw [c] <;> exact ⟨by omega, by omega⟩
  obtain ⟨y3, h3, e3, c3⟩ := order2_spec l y1.1 y2.1 y2.2.2.2 b1.2.2.1 b1.2.2.2 b2.1 b2.2
  rw [h3, Option.bind_some]
  refine ⟨_, rfl, e3, ?_⟩
  dsimp only
  omega

theorem choosePivot_spec (l : List Int) (a b : Int) (ha : 0 ≤ a) (hb : b ≤ l.length) (h8 : 8 ≤ b - a) (h50 : b - a < 50) (hlen : l.length ≤ 1000000) :
    ∃ y, D.slices_choosePivotOrdered_int64 l a b = some y ∧ y.2.2 = l ∧ a ≤ y.1 ∧ y.1 < b := by
  unfold D.slices_choosePivotOrdered_int64
  rw [w64 (show -9223372036854775808 ≤ b - a by omega) (by omega)]
  have e4 : (b - a).tdiv 4 = (b - a) / 4 := Int.tdiv_eq_ediv_of_nonneg (by omega)
  rw [e4, w64 (show -9223372036854775808 ≤ (b - a) / 4 by omega) (by omega)]
  rw [w64 (show -9223372036854775808 ≤ (b - a) / 4 * 1 by omega) (by omega), w64 (show -9223372036854775808 ≤ (b - a) / 4 * 2 by omega) (by omega), w64 (show -9223372036854775808 ≤ (b - a) / 4 * 3 by omega) (by omega)]
  rw [w64 (show -9223372036854775808 ≤ a + (b - a) / 4 * 1 by omega) (by omega), w64 (show -9223372036854775808 ≤ a + (b - a) / 4 * 2 by omega) (by omega), w64 (show -9223372036854775808 ≤ a + (b - a) / 4 * 3 by omega) (by omega)]
  simp only [h8, show ¬ (50 ≤ b - a) by omega, decide_true, decide_false, cond_true, cond_false, Option.bind_some]
  obtain ⟨y, h1, e1, c1⟩ := median_spec l (a + (b - a) / 4 * 1) (a + (b - a) / 4 * 2) (a + (b - a) / 4 * 3) 0 (by omega) (by omega) (by omega) (by omega) (by omega) (by omega)
  rw [h1, Option.bind_some, e1]
  have hy : a ≤ y.1 ∧ y.1 < b := by omega
  cases (y.2.2 == 0)
  · cases (y.2.2 == 12)
    · exact ⟨_, rfl, rfl, hy⟩
    · exact ⟨_, rfl, rfl, hy⟩
  · exact ⟨_, rfl, rfl, hy⟩

theorem partialInsertion_spec (l : List Int) (a b : Int) (ha : 0 ≤ a) (hab : a < b) (hb : b ≤ l.length) (h50 : b - a < 50) (hlen : l.length ≤ 1000000) :
    ∃ y, D.slices_partialInsertionSortOrdered_int64 l a b = some y ∧ y.2 = l ∧ (y.1 = true → Srt l a b) := by
  unfold D.slices_partialInsertionSortOrdered_int64
  rw [w64 (show -9223372036854775808 ≤ a + 1 by omega) (by omega)]
  refine loop_then (fun s => s = (l, a + 1, 0)) (fun _ => 0) (fun r => ∃ y : Bool × List Int, r = .inr y ∧ y.2 = l ∧ (y.1 = true → Srt l a b)) ?_ rfl ?_
  · rintro s rfl
    dsimp only
    simp only [show ((0 : Int) < 5) from by decide, decide_true, cond_true]
    refine loop_then (fun i => a + 1 ≤ i ∧ i ≤ b ∧ Srt l a i) (fun i => (b - i).toNat) (fun i => a + 1 ≤ i ∧ i ≤ b ∧ Srt l a i) ?_ ?_ ?_
    · rintro i ⟨g1, g2, g3⟩
      by_cases hi : i < b
      · have r1 : idx l i = some (at' l i) := idx_at (by omega) (by omega)
        have r2 : idx l (i - 1) = some (at' l (i - 1)) := idx_at (by omega) (by omega)
        have e1 : IntKind.i64.wrap (i - 1) = i - 1 := w64 (by omega) (by omega)
        by_cases hlt : at' l i < at' l (i - 1)
        · exact ⟨.inr i, by simp only [r1, r2, e1, hi, less_eq, hlt, decide_true, Bool.not_true, cond_true, cond_false, Option.bind_some], g1, g2, g3⟩
        · refine ⟨.inl (i + 1), ?_, ⟨by omega, by omega, fun p q k1 k2 k3 => ?_⟩, by dsimp only; omega⟩
          · simp only [r1, r2, e1, hi, less_eq, hlt, decide_true, decide_false, Bool.not_false, cond_true, Option.bind_some]
            rw [w64 (by omega) (by omega)]
          · by_cases e : q = i
            · subst e
              by_cases e2 : p = q - 1
              · subst e2; omega
              · have := g3 p (q - 1) k1 (by omega) (by omega); omega
            · exact g3 p q k1 k2 (by omega)
      · exact ⟨.inr i, by simp only [hi, decide_false, cond_false, Option.bind_some], g1, g2, g3⟩
    · exact ⟨Int.le_refl _, by omega, fun p q k1 k2 k3 => by omega⟩
    · rintro i ⟨g1, g2, g3⟩
      rw [w64 (show -9223372036854775808 ≤ b - a by omega) (by omega)]
      by_cases he : i = b
      · refine ⟨.inr (.inr (true, l)), ?_, _, rfl, rfl, fun _ => by rw [← he]; exact g3⟩
        have : (i == b) = true := by simp [he]
        simp only [this, cond_true]
      · refine ⟨.inr (.inr (false, l)), ?_, _, rfl, rfl, fun h => by cases h⟩
        have : (i == b) = false := by simp [he]
        simp only [this, h50, decide_true, cond_true, cond_false]
  · rintro r ⟨y, rfl, h1, h2⟩
    exact ⟨y, rfl, h1, h2⟩
end Go.Sx

namespace Go.Sx
theorem iand_small (y m : Int) (h0 : 0 ≤ m) (h1 : m < 4294967296) : 0 ≤ iand .u64 y m ∧ iand .u64 y m ≤ m := by
  unfold iand
  have e : (BitVec.ofInt IntKind.u64.bits y &&& BitVec.ofInt IntKind.u64.bits m).toNat ≤ (BitVec.ofInt IntKind.u64.bits m).toNat := by
    rw [BitVec.toNat_and]; exact Nat.and_le_right
  have e2 : (BitVec.ofInt IntKind.u64.bits m).toNat = m.toNat := by
    rw [BitVec.toNat_ofInt]
    show (m % (2 ^ 64 : Nat)).toNat = m.toNat
    congr 1
    omega
  rw [e2] at e
  generalize (BitVec.ofInt IntKind.u64.bits y &&& BitVec.ofInt IntKind.u64.bits m).toNat = t at e
  have : IntKind.u64.wrap (t : Int) = t := by
    simp only [IntKind.wrap, IntKind.bits, IntKind.signed]
    simp
    omega
  rw [this]
  omega

theorem wu64 {x : Int} (h1 : 0 ≤ x) (h2 : x < 18446744073709551616) : IntKind.u64.wrap x = x := by
  simp only [IntKind.wrap, IntKind.bits, IntKind.signed]
  simp
  omega

theorem pow2_spec (n : Int) (h1 : 8 ≤ n) (h2 : n ≤ 16) : ∃ y, D.slices_nextPowerOfTwo n = some y ∧ n < y ∧ y ≤ 2 * n := by
  unfold D.slices_nextPowerOfTwo
  rw [wu64 (by omega) (by omega)]
  have key : ∀ k : Int, k = 8 ∨ k = 9 ∨ k = 10 ∨ k = 11 ∨ k = 12 ∨ k = 13 ∨ k = 14 ∨ k = 15 ∨ k = 16 → k < ishl .u64 1 (Lib.bitLen k.toNat : Nat) ∧ ishl .u64 1 (Lib.bitLen k.toNat : Nat) ≤ 2 * k := by
    rintro k (rfl | rfl | rfl | rfl | rfl | rfl | rfl | rfl | rfl) <;> decide
  obtain ⟨k1, k2⟩ := key n (by omega)
  refine ⟨_, ?_, k1, k2⟩
  unfold D.math_bits_Len
  rw [if_pos (by omega), Option.bind_some]
  have : decide (((Lib.bitLen n.toNat : Nat) : Int) < 0) = false := by simp
  rw [this]
  rfl

theorem breakPatterns_spec (l0 : List Int) (a b : Int) (ha : 0 ≤ a) (hb : b ≤ l0.length) (h8 : 8 ≤ b - a) (h16 : b - a ≤ 16) (hlen : l0.length ≤ 1000000) :
    ∃ l', D.slices_breakPatternsOrdered_int64 l0 a b = some l' ∧ Rg a b l0 l' := by
  unfold D.slices_breakPatternsOrdered_int64
  rw [w64 (show -9223372036854775808 ≤ b - a by omega) (by omega)]
  have e4 : (b - a).tdiv 4 = (b - a) / 4 := Int.tdiv_eq_ediv_of_nonneg (by omega)
  rw [e4, w64 (show -9223372036854775808 ≤ (b - a) / 4 by omega) (by omega)]
  rw [w64 (show -9223372036854775808 ≤ (b - a) / 4 * 2 by omega) (by omega)]
  rw [w64 (show -9223372036854775808 ≤ a + (b - a) / 4 * 2 by omega) (by omega)]
  rw [w64 (show -9223372036854775808 ≤ a + (b - a) / 4 * 2 + 1 by omega) (by omega), w64 (show -9223372036854775808 ≤ a + (b - a) / 4 * 2 - 1 by omega) (by omega)]
  simp only [h8, decide_true, cond_true]
  obtain ⟨y, hy, g1, g2⟩ := pow2_spec (b - a) h8 h16
  rw [hy, Option.bind_some, wu64 (show 0 ≤ y - 1 by omega) (by omega)]
  refine loop_then (fun s => Rg a b l0 s.1 ∧ a + (b - a) / 4 * 2 - 1 ≤ s.2.1 ∧ s.2.1 ≤ a + (b - a) / 4 * 2 + 2) (fun s => (a + (b - a) / 4 * 2 + 2 - s.2.1).toNat) (fun r => Rg a b l0 r) ?_ ?_ ?_
  · rintro ⟨l, i, z⟩ ⟨hR, k1, k2⟩
    dsimp only at hR k1 k2 ⊢
    have hll := hR.len
    by_cases hi : i ≤ a + (b - a) / 4 * 2 + 1
    · simp only [hi, decide_true, cond_true, D.slices_xorshift_Next, Option.bind_some]
      obtain ⟨t1, t2⟩ := iand_small (ixor .u64 (ixor .u64 (ixor .u64 z (ishl .u64 z 13)) (ishr .u64 (ixor .u64 z (ishl .u64 z 13)) 7)) (ishl .u64 (ixor .u64 (ixor .u64 z (ishl .u64 z 13)) (ishr .u64 (ixor .u64 z (ishl .u64 z 13)) 7)) 17)) (y - 1) (by omega) (by omega)
      revert t1 t2
      generalize iand .u64 (ixor .u64 (ixor .u64 (ixor .u64 z (ishl .u64 z 13)) (ishr .u64 (ixor .u64 z (ishl .u64 z 13)) 7)) (ishl .u64 (ixor .u64 (ixor .u64 z (ishl .u64 z 13)) (ishr .u64 (ixor .u64 z (ishl .u64 z 13)) 7)) 17)) (y - 1) = t
      generalize (ixor .u64 (ixor .u64 (ixor .u64 z (ishl .u64 z 13)) (ishr .u64 (ixor .u64 z (ishl .u64 z 13)) 7)) (ishl .u64 (ixor .u64 (ixor .u64 z (ishl .u64 z 13)) (ishr .u64 (ixor .u64 z (ishl .u64 z 13)) 7)) 17)) = z'
      intro t1 t2
      rw [w64 (show -9223372036854775808 ≤ t by omega) (by omega), w64 (show -9223372036854775808 ≤ t - (b - a) by omega) (by omega)]
      have hc : ∃ o, (bif decide (b - a ≤ t) then some (t - (b - a)) else some t) = some o ∧ 0 ≤ o ∧ o < b - a := by
        by_cases h : b - a ≤ t
        · exact ⟨t - (b - a), by simp [h], by omega, by omega⟩
        · exact ⟨t, by simp [h], by omega, by omega⟩
      obtain ⟨o, ho, o1, o2⟩ := hc
      rw [ho, Option.bind_some, w64 (show -9223372036854775808 ≤ a + o by omega) (by omega), w64 (show -9223372036854775808 ≤ i + 1 by omega) (by omega)]
      have r1 : idx l i = some (at' l i) := idx_at (by omega) (by omega)
      have r2 : idx l (a + o) = some (at' l (a + o)) := idx_at (by omega) (by omega)
      have r3 : ∀ x, idx (l.set i.toNat x) (a + o) = some (at' (l.set i.toNat x) (a + o)) := fun x => idx_set_at (by omega) (by omega)
      refine ⟨.inl (sw l i (a + o), i + 1, z'), ?_, ⟨hR.trans (Rg.swap ha (by omega) (by omega) (by omega) (by omega) (by omega)), by dsimp only; omega, by dsimp only; omega⟩, by dsimp only; omega⟩
      simp only [r1, r2, r3, Option.bind_some]
      rfl
    · exact ⟨.inr l, by simp only [hi, decide_false, cond_false], hR⟩
  · exact ⟨Rg.refl _ _ _, by dsimp only; omega, by dsimp only; omega⟩
  · rintro r hr
    exact ⟨r, rfl, hr⟩
end Go.Sx

namespace Go.Sx
/-- from a0 to b0 all pairs are in order, but for those from a to b -/
def Out (l : List Int) (a0 b0 a b : Int) : Prop := ∀ i j, a0 ≤ i → i < j → j < b0 → ¬ (a ≤ i ∧ j < b) → at' l i ≤ at' l j

theorem Out.keep {a0 a b b0 : Int} {l l' : List Int} (h : Rg a b l l') (h0 : 0 ≤ a0) (ha : a0 ≤ a) (hb : b ≤ b0) (c : Out l a0 b0 a b) : Out l' a0 b0 a b := by
  intro i j h1 h2 h3 h4
  by_cases hi : a ≤ i ∧ i < b
  · rw [h.out j (by omega) (by omega)]
    exact h.all (fun x => x ≤ at' l j) (fun k k1 k2 => c k j (by omega) (by omega) h3 (by omega)) i hi.1 hi.2
  · rw [h.out i (by omega) (by omega)]
    by_cases hj : a ≤ j ∧ j < b
    · exact h.all (fun x => at' l i ≤ x) (fun k k1 k2 => c i k (by omega) (by omega) (by omega) (by omega)) j hj.1 hj.2
    · rw [h.out j (by omega) (by omega)]; exact c i j h1 h2 h3 h4

theorem pdqsort_spec : ∀ (n : Nat) (l0 : List Int) (a0 b0 lim : Int), 0 ≤ a0 → a0 ≤ b0 → b0 ≤ l0.length → l0.length ≤ 1000000 → b0 - a0 ≤ 16 → b0 - a0 ≤ 12 + lim → 0 ≤ lim → lim ≤ 64 →
    (0 < a0 → ∀ k, a0 ≤ k → k < b0 → at' l0 (a0 - 1) ≤ at' l0 k) → b0 - a0 < n → ∃ l', D.slices_pdqsortOrdered_int64R n l0 a0 b0 lim = some l' ∧ Rg a0 b0 l0 l' ∧ Srt l' a0 b0 := by
  intro n
  induction n with
  | zero => intro l0 a0 b0 lim h1 h2 h3 h4 h5 h6 h7 h8 h9 h10; omega
  | succ n ih =>
    intro l0 a0 b0 lim h1 h2 h3 h4 h5 h6 h7 h8 h9 h10
    unfold D.slices_pdqsortOrdered_int64R
    refine loop_then (fun s => Rg a0 b0 l0 s.1 ∧ Out s.1 a0 b0 s.2.1 s.2.2.1 ∧ a0 ≤ s.2.1 ∧ s.2.1 ≤ s.2.2.1 ∧ s.2.2.1 ≤ b0 ∧ s.2.2.1 - s.2.1 ≤ 12 + s.2.2.2.1 ∧ 0 ≤ s.2.2.2.1 ∧ s.2.2.2.1 ≤ 64 ∧ (0 < s.2.1 → ∀ k, s.2.1 ≤ k → k < s.2.2.1 → at' s.1 (s.2.1 - 1) ≤ at' s.1 k))
      (fun s => (s.2.2.1 - s.2.1).toNat) (fun r => Rg a0 b0 l0 r ∧ Srt r a0 b0) ?_ ?_ ?_
    · rintro ⟨l, a, b, lm, bal, par⟩ ⟨hR, hO, g1, g2, g3, g4, g5, g6, g7⟩
      dsimp only at hR hO g1 g2 g3 g4 g5 g6 g7 ⊢
      have hll := hR.len
      have fin : ∀ l', Rg a b l l' → Srt l' a b → Rg a0 b0 l0 l' ∧ Srt l' a0 b0 := fun l' hr hs =>
        ⟨hR.trans (hr.widen g1 g3 h1), fun i j k1 k2 k3 => by
          by_cases hc : a ≤ i ∧ j < b
          · exact hs i j hc.1 k2 hc.2
          · exact (hO.keep hr h1 g1 g3) i j k1 k2 k3 hc⟩
      rw [w64 (show -9223372036854775808 ≤ b - a by omega) (by omega)]
      by_cases hs : b - a ≤ 12
      · obtain ⟨l', e, r1, r2⟩ := insertionSort_spec l a b (by omega) g2 (by omega) (by omega)
        refine ⟨.inr l', ?_, fin l' r1 r2⟩
        simp only [hs, decide_true, cond_true, e, Option.bind_some]
      · have hl0 : (lm == 0) = false := by simp; omega
        simp only [hs, decide_false, cond_false, hl0]
        refine bind_then (fun q : List Int × Int => Rg a b l q.1 ∧ b - a ≤ 13 + q.2 ∧ 0 ≤ q.2 ∧ q.2 ≤ 64) ?_ ?_
        · cases bal
          · obtain ⟨l1, e, r1⟩ := breakPatterns_spec l a b (by omega) (by omega) (by omega) (by omega) (by omega)
            refine ⟨(l1, lm - 1), ?_, r1, by dsimp only; omega, by dsimp only; omega, by dsimp only; omega⟩
            simp only [Bool.not_false, cond_true, e, Option.bind_some]
            rw [w64 (by omega) (by omega)]
          · exact ⟨(l, lm), rfl, Rg.refl _ _ _, by dsimp only; omega, by dsimp only; omega, by dsimp only; omega⟩
        rintro ⟨l1, lm1⟩ ⟨hr1, k1, k2, k3⟩
        dsimp only at hr1 k1 k2 k3 ⊢
        have hl1 := hr1.len
        obtain ⟨y, ey, c1, c2, c3⟩ := choosePivot_spec l1 a b (by omega) (by omega) (by omega) (by omega) (by omega)
        rw [ey, Option.bind_some]
        refine bind_then (fun q : List Int × Int × Int => Rg a b l q.1 ∧ a ≤ q.2.1 ∧ q.2.1 < b) ?_ ?_
        · cases (y.2.1 == 2)
          · exact ⟨_, rfl, by dsimp only; rw [c1]; exact hr1, c2, c3⟩
          · obtain ⟨l2, e2, r2⟩ := reverseRange_spec l1 a b (by omega) (by omega) (by omega) (by omega)
            rw [c1]
            simp only [cond_true, e2, Option.bind_some]
            rw [w64 (show -9223372036854775808 ≤ b - 1 by omega) (by omega), w64 (show -9223372036854775808 ≤ y.1 - a by omega) (by omega), w64 (show -9223372036854775808 ≤ b - 1 - (y.1 - a) by omega) (by omega)]
            exact ⟨_, rfl, hr1.trans r2, by dsimp only; omega, by dsimp only; omega⟩
        rintro ⟨l2, p, hint⟩ ⟨hr2, p1, p2⟩
        dsimp only at hr2 p1 p2 ⊢
        have hl2 := hr2.len
        refine bind_then (fun q : List Int ⊕ List Int => match q with | .inl q => q = l2 | .inr q => q = l2 ∧ Srt l2 a b) ?_ ?_
        · cases ((bal && par) && (hint == 1))
          · exact ⟨.inl l2, rfl, rfl⟩
          · obtain ⟨y2, e2, d1, d2⟩ := partialInsertion_spec l2 a b (by omega) (by omega) (by omega) (by omega) (by omega)
            simp only [cond_true, e2, Option.bind_some, d1]
            cases hy : y2.1
            · exact ⟨.inl l2, rfl, rfl⟩
            · exact ⟨.inr l2, rfl, rfl, d2 hy⟩
        rintro (q | q) hq
        case inr =>
          obtain ⟨rfl, hq⟩ := hq
          exact ⟨.inr q, rfl, fin q hr2 hq⟩
        dsimp only at hq ⊢
        subst hq
        have hO2 := hO.keep hr2 h1 g1 g3
        have g7' : 0 < a → ∀ k, a ≤ k → k < b → at' q (a - 1) ≤ at' q k := fun ha k m1 m2 => by
          rw [hr2.out (a - 1) (by omega) (.inl (by omega))]
          exact hr2.all (fun x => at' l (a - 1) ≤ x) (g7 ha) k m1 m2
        refine bind_then (fun c : Bool => c = true → 0 < a ∧ at' q p ≤ at' q (a - 1)) ?_ ?_
        · by_cases ha : 0 < a
          · have r1 : idx q (a - 1) = some (at' q (a - 1)) := idx_at (by omega) (by omega)
            have r2 : idx q p = some (at' q p) := idx_at (by omega) (by omega)
            rw [w64 (show -9223372036854775808 ≤ a - 1 by omega) (by omega)]
            simp only [ha, decide_true, cond_true, r1, r2, less_eq, Option.bind_some]
            exact ⟨_, rfl, fun h => ⟨by trivial, by simpa using h⟩⟩
          · simp only [ha, decide_false, cond_false]
            exact ⟨_, rfl, fun h => by cases h⟩
        intro c hc
        cases c
        · -- the pivot parts
          simp only [cond_false]
          obtain ⟨⟨mid, par', l3⟩, e3, P⟩ := partition_spec q a b p (by omega) (by omega) (by omega) p1 p2
          rw [e3, Option.bind_some]
          obtain ⟨hr3, m1, m2, m3, m4⟩ := P
          dsimp only at hr3 m1 m2 m3 m4 ⊢
          have hl3 := hr3.len
          have hO3 := hO2.keep hr3 h1 g1 g3
          have g7'' : 0 < a → ∀ k, a ≤ k → k < b → at' l3 (a - 1) ≤ at' l3 k := fun ha k n1 n2 => by
            rw [hr3.out (a - 1) (by omega) (.inl (by omega))]
            exact hr3.all (fun x => at' q (a - 1) ≤ x) (g7' ha) k n1 n2
          have hR3 : Rg a0 b0 l0 l3 := hR.trans ((hr2.trans hr3).widen g1 g3 h1)
          rw [w64 (show -9223372036854775808 ≤ mid - a by omega) (by omega), w64 (show -9223372036854775808 ≤ b - mid by omega) (by omega), w64 (show -9223372036854775808 ≤ mid + 1 by omega) (by omega)]
          by_cases hside : mid - a < b - mid
          · simp only [hside, decide_true, cond_true]
            obtain ⟨l4, e4, r4, s4⟩ := ih l3 a mid lm1 (by omega) m1 (by omega) (by omega) (by omega) (by omega) k2 k3 (fun ha k n1 n2 => g7'' ha k n1 (by omega)) (by omega)
            rw [e4, Option.bind_some]
            have hl4 := r4.len
            have em : ∀ k, mid ≤ k → at' l4 k = at' l3 k := fun k hk => r4.out k (by omega) (.inr hk)
            have lf : ∀ k, a ≤ k → k < mid → at' l4 k ≤ at' l4 mid := fun k n1 n2 => by
              rw [em mid (Int.le_refl _)]; exact r4.all (fun x => x ≤ at' l3 mid) m3 k n1 n2
            refine ⟨.inl _, rfl, ⟨hR3.trans (r4.widen g1 (by omega) h1), ?_, by dsimp only; omega, by dsimp only; omega, g3, by dsimp only; omega, k2, k3, ?_⟩, by dsimp only; omega⟩
            · have hO4 := hO3.keep (r4.widen (Int.le_refl a) (by omega) (by omega)) h1 g1 g3
              intro i j n1 n2 n3 n4
              dsimp only at n4 ⊢
              by_cases hin : a ≤ i ∧ j < b
              · by_cases hj : j < mid
                · exact s4 i j hin.1 n2 hj
                · have hi : i ≤ mid := by omega
                  have e1 : at' l4 i ≤ at' l4 mid := by
                    by_cases e : i = mid
                    · rw [e]; exact Int.le_refl _
                    · exact lf i hin.1 (by omega)
                  have e2 : at' l4 mid ≤ at' l4 j := by
                    by_cases e : j = mid
                    · rw [e]; exact Int.le_refl _
                    · rw [em mid (Int.le_refl _), em j (by omega)]; exact m4 j (by omega) hin.2
                  omega
              · exact hO4 i j n1 n2 n3 hin
            · intro _ k n1 n2
              dsimp only at n1 n2 ⊢
              rw [show mid + 1 - 1 = mid by omega, em mid (Int.le_refl _), em k (by omega)]
              exact m4 k (by omega) n2
          · simp only [hside, decide_false, cond_false]
            obtain ⟨l4, e4, r4, s4⟩ := ih l3 (mid + 1) b lm1 (by omega) (by omega) (by omega) (by omega) (by omega) (by omega) k2 k3 (fun _ k n1 n2 => by rw [show mid + 1 - 1 = mid by omega]; exact m4 k (by omega) n2) (by omega)
            rw [e4, Option.bind_some]
            have hl4 := r4.len
            have em : ∀ k, 0 ≤ k → k ≤ mid → at' l4 k = at' l3 k := fun k h0 hk => r4.out k h0 (.inl (by omega))
            have rt : ∀ k, mid < k → k < b → at' l4 mid ≤ at' l4 k := fun k n1 n2 => by
              rw [em mid (by omega) (Int.le_refl _)]; exact r4.all (fun x => at' l3 mid ≤ x) (fun k q1 q2 => m4 k (by omega) q2) k (by omega) n2
            refine ⟨.inl _, rfl, ⟨hR3.trans (r4.widen (by omega) g3 h1), ?_, g1, m1, by dsimp only; omega, by dsimp only; omega, k2, k3, ?_⟩, by dsimp only; omega⟩
            · have hO4 := hO3.keep (r4.widen (by omega) (Int.le_refl b) (by omega)) h1 g1 g3
              intro i j n1 n2 n3 n4
              dsimp only at n4 ⊢
              by_cases hin : a ≤ i ∧ j < b
              · by_cases hi : mid < i
                · exact s4 i j (by omega) n2 hin.2
                · have hj : mid ≤ j := by omega
                  have e1 : at' l4 i ≤ at' l4 mid := by
                    by_cases e : i = mid
                    · rw [e]; exact Int.le_refl _
                    · rw [em i (by omega) (by omega), em mid (by omega) (Int.le_refl _)]; exact m3 i hin.1 (by omega)
                  have e2 : at' l4 mid ≤ at' l4 j := by
                    by_cases e : j = mid
                    · rw [e]; exact Int.le_refl _
                    · exact rt j (by omega) hin.2
                  omega
              · exact hO4 i j n1 n2 n3 hin
            · intro ha k n1 n2
              dsimp only at ha n1 n2 ⊢
              rw [em (a - 1) (by omega) (by omega), em k (by omega) (by omega)]
              exact g7'' ha k n1 (by omega)
        · -- many are equal to the pivot
          simp only [cond_true]
          obtain ⟨hc1, hc2⟩ := hc rfl
          obtain ⟨⟨mid, l3⟩, e3, hr3, m1, m2, m3, m4⟩ := partitionEqual_spec q a b p (by omega) (by omega) (by omega) p1 p2
          rw [e3, Option.bind_some]
          dsimp only at hr3 m1 m2 m3 m4 ⊢
          have hl3 := hr3.len
          have hO3 := hO2.keep hr3 h1 g1 g3
          have lw : ∀ k, a ≤ k → k < b → at' q p ≤ at' l3 k := fun k n1 n2 =>
            hr3.all (fun x => at' q p ≤ x) (fun k q1 q2 => Int.le_trans hc2 (g7' hc1 k q1 q2)) k n1 n2
          refine ⟨.inl _, rfl, ⟨hR.trans ((hr2.trans hr3).widen g1 g3 h1), ?_, by dsimp only; omega, m2, g3, by dsimp only; omega, k2, k3, ?_⟩, by dsimp only; omega⟩
          · intro i j n1 n2 n3 n4
            dsimp only at n4 ⊢
            by_cases hin : a ≤ i ∧ j < b
            · have := m3 i hin.1 (by omega)
              have := lw j (by omega) hin.2
              omega
            · exact hO3 i j n1 n2 n3 hin
          · intro _ k n1 n2
            dsimp only at n1 n2 ⊢
            have := m3 (mid - 1) (by omega) (by omega)
            have := m4 k n1 n2
            omega
    · exact ⟨Rg.refl _ _ _, fun i j n1 n2 n3 n4 => by dsimp only at n4; omega, Int.le_refl _, h2, Int.le_refl _, h6, h7, h8, h9⟩
    · rintro r hr
      exact ⟨r, rfl, hr⟩
end Go.Sx

namespace Go.Sx
/-- slices.Sorted(slices.Values(l)), of a list that is not long -/
theorem sorted_spec (l : List Int) (hl : l.length ≤ 16) : ∃ y, D.slices_Sorted_int64 l = some y ∧ List.Perm y l ∧ Srt y 0 y.length := by
  unfold D.slices_Sorted_int64 D.slices_Collect_int64 D.slices_AppendSeq_int64_int64 D.slices_Sort_int64_int64 D.slices_pdqsortOrdered_int64 D.math_bits_Len
  rw [if_pos (show l.length ≤ 1000000 by omega)]
  simp only [Option.bind_some]
  rw [wu64 (by omega) (by omega), if_pos (by omega)]
  simp only [Option.bind_some]
  have hk : ∀ k : Nat, k ≤ 16 → k ≤ 12 + Lib.bitLen k ∧ Lib.bitLen k ≤ 64 := by decide
  obtain ⟨k1, k2⟩ := hk l.length hl
  have e : ((l.length : Int)).toNat = l.length := by omega
  have hb := recFuel_big
  obtain ⟨y, hy, hr, hs⟩ := pdqsort_spec recFuel l 0 l.length (Lib.bitLen l.length : Nat) (by omega) (by omega) (by omega) (by omega) (by omega) (by omega) (by omega) (by omega) (fun h => absurd h (by omega)) (by omega)
  rw [e, hy]
  refine ⟨y, rfl, hr.perm, ?_⟩
  rw [hr.len]; exact hs
end Go.Sx



/- The program's and the reference's first helpers in closed form: sets, graphs, orders. Plain. -/
namespace Go.Sx
/-- short enough for every loop -/
def Sh {α : Type} (xs : List α) : Prop := xs.length ≤ 4294967296

theorem l1In_eq (a b c : Int) : D.spec_l1In a b c = some (decide (b ≤ a) && decide (a ≤ c)) := rfl
theorem inRange_eq (a b c : Int) : D.impl_inRange a b c = some (decide (b ≤ a) && decide (a ≤ c)) := rfl

theorem any_beq (xs : List Int) (n : Int) : xs.any (fun x => x == n) = decide (n ∈ xs) := by
  rw [Bool.eq_iff_iff, List.any_eq_true]; simp
theorem l1Has_eq (xs : List Int) (n : Int) (h : Sh xs) : D.spec_l1Has xs n = some (decide (n ∈ xs)) := by
  unfold Sh at h
  unfold D.spec_l1Has
  refine (loop_anyb xs.length (fun i => xs.getD i 0 == n) true (fun i hi => ?_) ?_ rfl rfl).trans ?_
  · simp only [dlt hi, cond_true, idx_nat hi, Option.bind_some, wi' hi (by omega), getD_lt hi]
    cases xs[i] == n <;> rfl
  · simp only [dnlt, cond_false]
  · rw [range_any_list xs (fun x => x == n) _ (fun i hi => by rw [getD_lt hi]), any_beq]
theorem contains_eq (xs : List Int) (n : Int) (h : Sh xs) : D.slices_Contains_int64_int64 xs n = some (decide (n ∈ xs)) := by
  unfold Sh at h
  unfold D.slices_Contains_int64_int64 D.slices_Index_int64_int64
  have e : loopF (σ := Int) (ρ := (Unit) ⊕ (Int)) (fun (x_26 : Int) => cond (decide (x_26 < (xs.length : Int))) ((idx xs x_26).bind fun e_39 => cond (n == e_39) (some (.inr (.inr x_26))) (some (.inl (IntKind.i64.wrap (x_26 + 1))))) (some (.inr (.inl ())))) 0 =
      some (((List.range xs.length).findSome? (fun i => if xs.getD i 0 == n then some (Sum.inr (i : Int)) else none)).getD (.inl ())) := by
    refine loop_find xs.length _ _ (fun i hi => ?_) ?_
    · simp only [dlt hi, cond_true, idx_nat hi, Option.bind_some, wi' hi (by omega), getD_lt hi]
      rw [show (n == xs[i]) = (xs[i] == n) from Bool.beq_comm ..]
      cases xs[i] == n <;> rfl
    · simp only [dnlt, cond_false]
  rw [e, Option.bind_some]
  cases hf : (List.range xs.length).findSome? (fun i => if xs.getD i 0 == n then some (Sum.inr (i : Int) : Unit ⊕ Int) else none) with
  | none =>
    have : n ∉ xs := fun hm => by
      obtain ⟨i, hi, e⟩ := List.getElem_of_mem hm
      have := (List.findSome?_eq_none_iff.1 hf) i (List.mem_range.2 hi)
      rw [getD_lt hi, e] at this
      simp at this
    simp [this]
  | some r =>
    obtain ⟨i, hi, hr⟩ := List.exists_of_findSome?_eq_some hf
    have hi' := List.mem_range.1 hi
    rw [getD_lt hi'] at hr
    split at hr
    · rename_i hc
      cases hr
      have : n ∈ xs := by rw [← (beq_iff_eq.1 hc)]; exact List.getElem_mem _
      simp [this]
    · cases hr

/-- a set of numbers below n, as a list -/
def SetOf (xs : List Int) (n : Int) : Prop := Inc xs ∧ ∀ x ∈ xs, 0 ≤ x ∧ x < n
theorem SetOf.len : ∀ {xs : List Int} {n a : Int}, Inc xs → (∀ x ∈ xs, a ≤ x ∧ x < n) → xs = [] ∨ (xs.length : Int) ≤ n - a
  | [], _, _, _, _ => .inl rfl
  | x :: xs, n, a, h, hr => by
    right
    have h' := List.pairwise_cons.1 h
    have hx := hr x (by simp)
    rcases SetOf.len (a := x + 1) (n := n) h'.2 (fun y hy => ⟨by have := h'.1 y hy; omega, (hr y (by simp [hy])).2⟩) with e | e
    · subst e; simp; omega
    · simp; omega
theorem SetOf.length_le {xs : List Int} {n : Int} (h : SetOf xs n) (hn : 0 ≤ n) : (xs.length : Int) ≤ n := by
  rcases SetOf.len h.1 h.2 with e | e
  · subst e; simpa using hn
  · omega

theorem inc_iff (xs : List Int) : Inc xs ↔ ∀ i (hi : i + 1 < xs.length), xs[i] < xs[i + 1] := by
  unfold Inc
  constructor
  · intro h i hi
    exact List.pairwise_iff_getElem.1 h i (i + 1) (by omega) hi (by omega)
  · intro h
    rw [List.pairwise_iff_getElem]
    intro i j hi hj hij
    have key : ∀ k, ∀ hk : i + k + 1 < xs.length, xs[i] < xs[i + k + 1] := by
      intro k
      induction k with
      | zero => intro hk; exact h i hk
      | succ k ih => intro hk; have := ih (by omega); have := h (i + k + 1) hk; exact Int.lt_trans (ih (by omega)) this
    obtain ⟨k, rfl⟩ : ∃ k, j = i + k + 1 := ⟨j - i - 1, by omega⟩
    exact key k hj

def setB (xs : List Int) (n : Int) : Bool := (List.range xs.length).all fun i => (decide (0 ≤ xs.getD i 0) && decide (xs.getD i 0 ≤ n - 1)) && !(decide (0 < i) && decide (xs.getD i 0 ≤ xs.getD (i - 1) 0))
theorem setB_iff (xs : List Int) (n : Int) : setB xs n = true ↔ SetOf xs n := by
  unfold setB SetOf
  rw [all_forall, inc_iff]
  constructor
  · intro h
    refine ⟨fun i hi => ?_, fun x hx => ?_⟩
    · have := h (i + 1) hi
      simp [hi, show i < xs.length by omega] at this
      omega
    · obtain ⟨i, hi, rfl⟩ := List.getElem_of_mem hx
      have := h i hi
      simp [hi] at this
      omega
  · rintro ⟨h1, h2⟩ i hi
    have h3 := h2 _ (List.getElem_mem hi)
    simp [hi]
    refine ⟨by omega, ?_⟩
    rcases Nat.eq_zero_or_pos i with h0 | h0
    · exact .inl h0
    · right
      have := h1 (i - 1) (by omega)
      have e : i - 1 + 1 = i := by omega
      simp only [e] at this
      have e2 : xs[i - 1]?.getD 0 = xs[i - 1] := by rw [List.getElem?_eq_getElem (by omega)]; rfl
      rw [e2]; exact this

theorem increasing_eq (xs : List Int) (n : Int) (h : Sh xs) (h0 : 0 ≤ n) (hn : n ≤ 4294967296) : D.impl_increasing xs n = some (setB xs n) := by
  unfold Sh at h
  unfold D.impl_increasing
  refine loop_allb xs.length _ false (fun i hi => ?_) ?_ rfl rfl
  · simp only [dlt hi, cond_true, idx_nat hi, Option.bind_some, wi' hi (by omega), getD_lt hi, inRange_eq]
    rw [w64 (x := n - 1) (by omega) (by omega)]
    cases (decide (0 ≤ xs[i]) && decide (xs[i] ≤ n - 1))
    · simp
    · by_cases h0 : 0 < i
      · have e1 : IntKind.i64.wrap ((i : Int) - 1) = ((i - 1 : Nat) : Int) := by rw [w64 (by omega) (by omega)]; omega
        have hd : decide ((0 : Int) < (i : Int)) = true := by simp; omega
        simp only [Bool.not_true, cond_false, hd, cond_true, e1, idx_nat (show i - 1 < xs.length by omega), Option.bind_some, getD_lt (show i - 1 < xs.length by omega), h0, decide_true, Bool.true_and]
        cases decide (xs[i] ≤ xs[i - 1]) <;> rfl
      · have hd : decide ((0 : Int) < (i : Int)) = false := by simp; omega
        simp only [Bool.not_true, cond_false, hd, Option.bind_some, h0, decide_false, Bool.false_and, Bool.not_false, Bool.and_true, if_true]
  · simp only [dnlt, cond_false]

theorem l1Set_eq (xs : List Int) (n : Int) (h : Sh xs) (h0 : 0 ≤ n) (hn : n ≤ 4294967296) : D.spec_l1Set xs n = some (setB xs n) := by
  have hh := h
  unfold Sh at h
  unfold D.spec_l1Set
  by_cases hl : n < xs.length
  · have : setB xs n = false := by
      cases hb : setB xs n
      · rfl
      · have := ((setB_iff xs n).1 hb).length_le h0; omega
    simp [hl, this]
  · simp only [hl, decide_false, cond_false]
    refine loop_allb xs.length _ false (fun i hi => ?_) ?_ rfl rfl
    · simp only [dlt hi, cond_true, idx_nat hi, Option.bind_some, wi' hi (by omega), getD_lt hi, l1In_eq]
      rw [w64 (x := n - 1) (by omega) (by omega)]
      cases (decide (0 ≤ xs[i]) && decide (xs[i] ≤ n - 1))
      · simp
      · by_cases h0 : 0 < i
        · have e1 : IntKind.i64.wrap ((i : Int) - 1) = ((i - 1 : Nat) : Int) := by rw [w64 (by omega) (by omega)]; omega
          have hd : decide ((0 : Int) < (i : Int)) = true := by simp; omega
          simp only [Bool.not_true, cond_false, hd, cond_true, e1, idx_nat (show i - 1 < xs.length by omega), Option.bind_some, getD_lt (show i - 1 < xs.length by omega), h0, decide_true, Bool.true_and]
          cases decide (xs[i] ≤ xs[i - 1]) <;> rfl
        · have hd : decide ((0 : Int) < (i : Int)) = false := by simp; omega
          simp only [Bool.not_true, cond_false, hd, Option.bind_some, h0, decide_false, Bool.false_and, Bool.not_false, Bool.and_true, if_true]
    · simp only [dnlt, cond_false]

/-- row v of a graph -/
def row (g : List (List Int)) (v : Nat) : List Int := g.getD v []
theorem row_eq {g : List (List Int)} {v : Nat} (h : v < g.length) : row g v = g[v] := getD_lt h _
def adj (g : List (List Int)) (u v : Nat) : Prop := (v : Int) ∈ row g u

/-- a valid graph -/
structure GOk (g : List (List Int)) : Prop where
  n1 : 1 ≤ g.length
  n16 : g.length ≤ 16
  rows : ∀ v, v < g.length → SetOf (row g v) g.length
  irr : ∀ v, v < g.length → ¬ adj g v v
  sym : ∀ u v, u < g.length → adj g u v → adj g v u

theorem GOk.mem {g : List (List Int)} (h : GOk g) {u : Nat} (hu : u < g.length) {x : Int} (hx : x ∈ row g u) : ∃ v : Nat, x = v ∧ v < g.length ∧ adj g u v := by
  have := (h.rows u hu).2 x hx
  refine ⟨x.toNat, by omega, by omega, ?_⟩
  unfold adj
  rw [show ((x.toNat : Nat) : Int) = x by omega]; exact hx
theorem GOk.row_len {g : List (List Int)} (h : GOk g) {u : Nat} (hu : u < g.length) : (row g u).length ≤ 16 := by
  have := (h.rows u hu).length_le (by omega)
  have := h.n16
  omega
theorem GOk.lt {g : List (List Int)} (h : GOk g) {u v : Nat} (hu : u < g.length) (ha : adj g u v) : v < g.length := by
  obtain ⟨w, h1, h2, _⟩ := h.mem hu ha
  omega

/-- short in both ways -/
def Sh2 (g : List (List Int)) : Prop := Sh g ∧ ∀ r ∈ g, Sh r
theorem Sh2.row {g : List (List Int)} (h : Sh2 g) {v : Nat} (hv : v < g.length) : Sh (row g v) := by
  rw [row_eq hv]; exact h.2 _ (List.getElem_mem hv)
theorem idx_row {g : List (List Int)} {v : Nat} (h : v < g.length) : idx g (v : Int) = some (row g v) := by rw [row_eq h, idx_nat h]

def gB1 (g : List (List Int)) : Bool := (List.range g.length).all fun v => setB (row g v) g.length && !decide ((v : Int) ∈ row g v)
def gB2 (g : List (List Int)) : Bool := (List.range g.length).all fun v => (row g v).all fun x => decide ((v : Int) ∈ row g x.toNat)
def gB (g : List (List Int)) : Bool := decide (1 ≤ g.length) && decide (g.length ≤ 16) && gB1 g && gB2 g
theorem gB_iff (g : List (List Int)) : gB g = true ↔ GOk g := by
  unfold gB gB1 gB2
  simp only [Bool.and_eq_true, decide_eq_true_eq, setB_iff, Bool.not_eq_true', decide_eq_false_iff_not, List.all_eq_true, List.mem_range]
  constructor
  · rintro ⟨⟨⟨h1, h2⟩, h3⟩, h4⟩
    refine ⟨h1, h2, fun v hv => (h3 v hv).1, fun v hv => (h3 v hv).2, fun u v hu ha => ?_⟩
    have := h4 u hu v ha
    unfold adj
    simpa using this
  · intro h
    refine ⟨⟨⟨h.n1, h.n16⟩, fun v hv => ⟨h.rows v hv, h.irr v hv⟩⟩, fun v hv x hx => ?_⟩
    obtain ⟨u, rfl, hu, ha⟩ := h.mem hv hx
    have := h.sym v u hv ha
    simpa [adj] using this

theorem spec_GraphOk_eq (g : List (List Int)) (h : Sh2 g) : D.spec_GraphOk g = some (gB g) := by
  have hl : g.length ≤ 4294967296 := h.1
  unfold D.spec_GraphOk D.spec_l1Size
  simp only [Option.bind_some, l1In_eq]
  by_cases hn : 1 ≤ g.length ∧ g.length ≤ 16
  · have e : (decide ((1 : Int) ≤ (g.length : Int)) && decide ((g.length : Int) ≤ 16)) = true := by simp; omega
    simp only [e, Bool.not_true, cond_false]
    refine (loop_ck g.length (fun v => setB (row g v) g.length && !decide ((v : Int) ∈ row g v)) (.inl ()) (.inr false) (fun v hv => ?_) ?_).trans ?_
    rotate_left
    · simp only [dnlt, cond_false]
    · show cond (gB1 g) _ _ = _
      have e4 : gB g = (gB1 g && gB2 g) := by unfold gB; simp [hn.1, hn.2]
      rw [e4]
      cases hc : gB1 g with
      | false => rfl
      | true =>
        rw [cond_true, Bool.true_and]
        refine loop_allb g.length _ false (fun v hv => ?_) ?_ rfl rfl
        · have hset : SetOf (row g v) g.length := by
            have := (all_forall _ _).1 hc v hv
            simp only [Bool.and_eq_true] at this
            exact (setB_iff _ _).1 this.1
          simp only [dlt hv, cond_true]
          refine (loop_ck (row g v).length (fun i => decide ((v : Int) ∈ row g ((row g v).getD i 0).toNat)) (.inl ()) (.inr false) (fun i hi => ?_) ?_).trans ?_
          · have hx := hset.2 _ (List.getElem_mem hi)
            have e5 : idx g (row g v)[i] = some (row g ((row g v)[i]).toNat) := by
              have := idx_row (g := g) (v := ((row g v)[i]).toNat) (by omega)
              rwa [show ((((row g v)[i]).toNat : Nat) : Int) = (row g v)[i] by omega] at this
            have hs := h.row (v := ((row g v)[i]).toNat) (by omega)
            simp only [idx_row hv, Option.bind_some, dlt hi, cond_true, idx_nat hi, e5, l1Has_eq _ _ hs, wi (show i < 4611686018427387904 by have := h.row hv; unfold Sh at this; omega), getD_lt hi]
            cases decide ((v : Int) ∈ row g ((row g v)[i]).toNat) <;> rfl
          · simp only [idx_row hv, Option.bind_some, dnlt, cond_false]
          · rw [range_all_list (row g v) (fun x => decide ((v : Int) ∈ row g x.toNat)) _ (fun i hi => by rw [getD_lt hi]), wi' hv (by omega)]
            cases (row g v).all fun x => decide ((v : Int) ∈ row g x.toNat) <;> rfl
        · simp only [dnlt, cond_false]
    · simp only [dlt hv, cond_true, idx_row hv, Option.bind_some, l1Set_eq _ _ (h.row hv) (show (0 : Int) ≤ (g.length : Int) by omega) (by omega), l1Has_eq _ _ (h.row hv), wi' hv (by omega)]
      cases setB (row g v) g.length
      · rfl
      · cases decide ((v : Int) ∈ row g v) <;> rfl
  · have e : (decide ((1 : Int) ≤ (g.length : Int)) && decide ((g.length : Int) ≤ 16)) = false := by
      rw [Bool.eq_false_iff]; simp; omega
    simp only [e, Bool.not_false, cond_true]
    unfold gB
    congr 1
    symm
    rw [Bool.eq_false_iff]
    simp
    omega

theorem impl_GraphOk_eq (g : List (List Int)) (h : Sh2 g) : D.impl_GraphOk g = some (gB g) := by
  have hl : g.length ≤ 4294967296 := h.1
  unfold D.impl_GraphOk
  by_cases hn : 1 ≤ g.length ∧ g.length ≤ 16
  · have e : (decide ((g.length : Int) < (1 : Int)) || decide ((16 : Int) < (g.length : Int))) = false := by simp; omega
    simp only [e, cond_false]
    refine (loop_ck g.length (fun v => setB (row g v) g.length && !decide ((v : Int) ∈ row g v)) (.inl ()) (.inr false) (fun v hv => ?_) ?_).trans ?_
    rotate_left
    · simp only [dnlt, cond_false]
    · show cond (gB1 g) _ _ = _
      have e4 : gB g = (gB1 g && gB2 g) := by unfold gB; simp [hn.1, hn.2]
      rw [e4]
      cases hc : gB1 g with
      | false => rfl
      | true =>
        rw [cond_true, Bool.true_and]
        refine loop_allb g.length _ false (fun v hv => ?_) ?_ rfl rfl
        · have hset : SetOf (row g v) g.length := by
            have := (all_forall _ _).1 hc v hv
            simp only [Bool.and_eq_true] at this
            exact (setB_iff _ _).1 this.1
          simp only [dlt hv, cond_true, idx_row hv, Option.bind_some]
          refine (loop_ck (row g v).length (fun i => decide ((v : Int) ∈ row g ((row g v).getD i 0).toNat)) (.inl ()) (.inr false) (fun i hi => ?_) ?_).trans ?_
          · have hx := hset.2 _ (List.getElem_mem hi)
            have e5 : idx g (row g v)[i] = some (row g ((row g v)[i]).toNat) := by
              have := idx_row (g := g) (v := ((row g v)[i]).toNat) (by omega)
              rwa [show ((((row g v)[i]).toNat : Nat) : Int) = (row g v)[i] by omega] at this
            have hs := h.row (v := ((row g v)[i]).toNat) (by omega)
            simp only [Option.bind_some, dlt hi, cond_true, idx_nat hi, e5, contains_eq _ _ hs, wi (show i < 4611686018427387904 by have := h.row hv; unfold Sh at this; omega), getD_lt hi]
            cases decide ((v : Int) ∈ row g ((row g v)[i]).toNat) <;> rfl
          · simp only [dnlt, cond_false]
          · rw [range_all_list (row g v) (fun x => decide ((v : Int) ∈ row g x.toNat)) _ (fun i hi => by rw [getD_lt hi]), wi' hv (by omega)]
            cases (row g v).all fun x => decide ((v : Int) ∈ row g x.toNat) <;> rfl
        · simp only [dnlt, cond_false]
    · simp only [dlt hv, cond_true, idx_row hv, Option.bind_some, increasing_eq _ _ (h.row hv) (show (0 : Int) ≤ (g.length : Int) by omega) (by omega), contains_eq _ _ (h.row hv), wi' hv (by omega)]
      cases setB (row g v) g.length
      · rfl
      · cases decide ((v : Int) ∈ row g v) <;> rfl
  · have e : (decide ((g.length : Int) < (1 : Int)) || decide ((16 : Int) < (g.length : Int))) = true := by
      simp; omega
    simp only [e, cond_true]
    unfold gB
    congr 1
    symm
    rw [Bool.eq_false_iff]
    simp
    omega
end Go.Sx

/- Orders; the program's sets as bit masks; the reference's rising lists. Plain. -/
namespace Go.Sx
/-- an order of a graph -/
structure OOk (g : List (List Int)) (o : List Int) : Prop where
  len : o.length = g.length
  rng : ∀ x ∈ o, 0 ≤ x ∧ x < g.length
  nd : o.Nodup

def oB (g : List (List Int)) (o : List Int) : Bool := (List.range o.length).all fun i => (decide (0 ≤ o.getD i 0) && decide (o.getD i 0 ≤ (g.length : Int) - 1)) && !decide (o.getD i 0 ∈ o.take i)
theorem mem_take_iff {α : Type} {l : List α} {i : Nat} {x : α} : x ∈ l.take i ↔ ∃ j, ∃ h : j < l.length, j < i ∧ l[j] = x := by
  rw [List.mem_take_iff_getElem]
  constructor
  · rintro ⟨j, h, e⟩; exact ⟨j, by omega, by omega, e⟩
  · rintro ⟨j, h, h2, e⟩; exact ⟨j, by omega, e⟩
theorem nodup_iff {l : List Int} : l.Nodup ↔ ∀ i (hi : i < l.length), l[i] ∉ l.take i := by
  constructor
  · intro h i hi hm
    obtain ⟨j, hj, hji, e⟩ := mem_take_iff.1 hm
    have := (List.pairwise_iff_getElem.1 h) j i hj hi hji
    exact this e
  · intro h
    refine List.pairwise_iff_getElem.2 (fun i j hi hj hij e => h j hj (mem_take_iff.2 ⟨i, hi, hij, e⟩))
theorem oB_iff (g : List (List Int)) (o : List Int) (hl : o.length = g.length) : oB g o = true ↔ OOk g o := by
  unfold oB
  rw [all_forall]
  constructor
  · intro h
    refine ⟨hl, fun x hx => ?_, nodup_iff.2 fun i hi => ?_⟩
    · obtain ⟨i, hi, rfl⟩ := List.getElem_of_mem hx
      have := h i hi
      rw [getD_lt hi] at this
      simp at this; omega
    · have := h i hi
      rw [getD_lt hi] at this
      simp at this; exact this.2
  · intro h i hi
    have h1 := h.rng _ (List.getElem_mem hi)
    have h2 := nodup_iff.1 h.nd i hi
    rw [getD_lt hi]
    simp [h2]; omega

def ordB (g : List (List Int)) (o : List Int) : Bool := decide (o.length = g.length) && oB g o
theorem ordB_iff (g : List (List Int)) (o : List Int) : ordB g o = true ↔ OOk g o := by
  unfold ordB
  by_cases hl : o.length = g.length
  · simp [hl, oB_iff g o hl]
  · simp [hl]; intro h; exact hl h.len

theorem spec_OrderOk_eq (g : List (List Int)) (o : List Int) (h : Sh2 g) (ho : Sh o) : D.spec_OrderOk g o = some (gB g && ordB g o) := by
  have hl : g.length ≤ 4294967296 := h.1
  have hol : o.length ≤ 4294967296 := ho
  unfold D.spec_OrderOk
  rw [spec_GraphOk_eq g h, Option.bind_some]
  cases hg : gB g
  · rfl
  · have hg' := (gB_iff g).1 hg
    simp only [cond_true]
    unfold D.spec_l1Order D.spec_l1Size ordB
    simp only [Option.bind_some]
    by_cases hl : o.length = g.length
    · have e : ((o.length : Int) != (g.length : Int)) = false := by simp [hl]
      simp only [e, cond_false]
      simp only [Option.bind_fun_some, hl, decide_true, Bool.true_and]
      unfold oB
      rw [← hl]
      refine loop_allb o.length _ false (fun i hi => ?_) ?_ rfl rfl
      · have hsh : Sh (o.take i) := by unfold Sh; rw [List.length_take]; omega
        simp only [dlt hi, cond_true, idx_nat hi, Option.bind_some, wi' hi (by omega), getD_lt hi, ← hl, D.spec_l1There, D.spec_l1Size, l1In_eq, sliceD_pre (show i ≤ o.length by omega), l1Has_eq _ _ hsh]
        rw [w64 (x := (o.length : Int) - 1) (by omega) (by omega)]
        cases (decide (0 ≤ o[i]) && decide (o[i] ≤ (o.length : Int) - 1))
        · rfl
        · cases decide (o[i] ∈ o.take i) <;> rfl
      · simp only [dnlt, cond_false]
    · have e : ((o.length : Int) != (g.length : Int)) = true := by simp; omega
      simp [e, hl]

theorem sorted_inc {y : List Int} (hs : Srt y 0 y.length) (hn : y.Nodup) : Inc y := by
  unfold Inc
  rw [List.pairwise_iff_getElem]
  intro i j hi hj hij
  have h1 := hs i j (by omega) (by omega) (by omega)
  have h2 := (List.pairwise_iff_getElem.1 hn) i j hi hj hij
  simp [at', hi, hj] at h1
  have : y[i] ≠ y[j] := h2
  omega
theorem impl_OrderOk_eq (g : List (List Int)) (o : List Int) (h : Sh2 g) (ho : Sh o) : D.impl_OrderOk g o = some (gB g && ordB g o) := by
  unfold D.impl_OrderOk
  rw [impl_GraphOk_eq g h, Option.bind_some]
  cases hg : gB g
  · rfl
  · have hg' := (gB_iff g).1 hg
    by_cases hl : o.length = g.length
    · have e : ((o.length : Int) != (g.length : Int)) = false := by simp [hl]
      have h16 := hg'.n16
      obtain ⟨y, h1, h2, h3⟩ := sorted_spec o (by omega)
      have hyl := h2.length_eq
      simp only [Bool.not_true, e, Bool.or_false, cond_false, h1, Option.bind_some, Bool.true_and]
      rw [increasing_eq y _ (by unfold Sh; omega) (by omega) (by omega), Option.bind_some]
      congr 1
      unfold ordB
      simp only [hl, decide_true, Bool.true_and]
      rw [Bool.eq_iff_iff, setB_iff, oB_iff g o hl]
      constructor
      · rintro ⟨k1, k2⟩
        refine ⟨hl, fun x hx => k2 x (h2.mem_iff.2 hx), h2.nodup_iff.1 ?_⟩
        exact List.Pairwise.imp (fun h e => by omega) k1
      · intro k
        exact ⟨sorted_inc h3 (h2.nodup_iff.2 k.nd), fun x hx => k.rng x (h2.mem_iff.1 hx)⟩
    · have e : ((o.length : Int) != (g.length : Int)) = true := by simp; omega
      simp [e, ordB, hl]

/-! ### masks -/
theorem impl_one_eq (v : Nat) : D.impl_one (v : Int) = some (ishl .u32 1 (v : Int)) := by
  unfold D.impl_one
  have : decide ((v : Int) < 0) = false := by simp
  rw [this]; rfl
theorem impl_one_eq' {x : Int} (h : 0 ≤ x) : D.impl_one x = some (ishl .u32 1 x) := by
  have := impl_one_eq x.toNat
  rwa [show ((x.toNat : Nat) : Int) = x by omega] at this
def mk (xs : List Int) : Int := xs.foldl (fun s v => ior .u32 s (ishl .u32 1 v)) 0
theorem maskOf_eq (xs : List Int) (h : Sh xs) (h0 : ∀ x ∈ xs, 0 ≤ x) : D.impl_maskOf xs = some (mk xs) := by
  unfold Sh at h
  unfold D.impl_maskOf
  refine (loop_listb xs (fun s i => (s, i)) (fun s v => ior .u32 s (ishl .u32 1 v)) (fun s => s) (fun _ => True) 0 trivial (fun s i hi _ => ⟨?_, trivial⟩) (fun s _ => ?_)).trans rfl
  · simp only [dlt hi, cond_true, idx_nat hi, Option.bind_some, wi' hi (by omega), impl_one_eq' (h0 _ (List.getElem_mem hi))]
  · simp only [dnlt, cond_false]
theorem VS_foldl_ior : ∀ (xs : List Int) (s : Int), VS s → VS (xs.foldl (fun s v => ior .u32 s (ishl .u32 1 v)) s)
  | [], s, h => h
  | x :: xs, s, _ => VS_foldl_ior xs _ (VS.ior _ _)
theorem VS.mk (xs : List Int) : VS (mk xs) := VS_foldl_ior xs 0 VS.zero
theorem has_foldl_ior (u : Nat) : ∀ (xs : List Int) (s : Int), VS s → (∀ x ∈ xs, 0 ≤ x ∧ x < 32) → has (xs.foldl (fun s v => ior .u32 s (ishl .u32 1 v)) s) u = (has s u || decide ((u : Int) ∈ xs))
  | [], s, _, _ => by simp
  | x :: xs, s, hs, h => by
    have hx := h x (by simp)
    rw [List.foldl_cons, has_foldl_ior u xs _ (VS.ior _ _) (fun y hy => h y (by simp [hy])), has_ior hs (VS.ishl _ _)]
    obtain ⟨k, rfl⟩ : ∃ k : Nat, x = k := ⟨x.toNat, by omega⟩
    rw [has_one (by omega)]
    by_cases hu : u = k
    · subst hu; simp
    · have : ¬ (u : Int) = (k : Int) := by omega
      simp [hu, this]
theorem has_mk {xs : List Int} (h : ∀ x ∈ xs, 0 ≤ x ∧ x < 32) (u : Nat) : has (mk xs) u = decide ((u : Int) ∈ xs) := by
  unfold mk; rw [has_foldl_ior u xs 0 VS.zero h, has_zero, Bool.false_or]

theorem GOk.mem0 {g : List (List Int)} (hg : GOk g) {r : List Int} (hr : r ∈ g) : r.length ≤ 16 ∧ ∀ x ∈ r, 0 ≤ x ∧ x < g.length := by
  obtain ⟨v, hv, rfl⟩ := List.getElem_of_mem hr
  rw [← row_eq hv]
  exact ⟨hg.row_len hv, (hg.rows v hv).2⟩
theorem netsOf_eq (g : List (List Int)) (hg : GOk g) : D.impl_netsOf g = some (g.map mk) := by
  have h16 := hg.n16
  unfold D.impl_netsOf
  refine (loop_map g (fun s i => (s, i)) mk (by omega) (fun s i hi _ => ?_) (fun s => ?_)).trans rfl
  · obtain ⟨h1, h2⟩ := hg.mem0 (List.getElem_mem hi)
    simp only [dlt hi, cond_true, idx_nat hi, Option.bind_some, wi' hi (by omega), maskOf_eq g[i] (by unfold Sh; omega) (fun x hx => (h2 x hx).1)]
  · simp only [dnlt, cond_false]
theorem narrow_eq (xs : List Int) (h : Sh xs) : D.impl_narrow xs = some xs := by
  unfold Sh at h
  unfold D.impl_narrow
  rw [makeD_zero (by omega) (by omega), Option.bind_some]
  refine (loop_map xs (fun s i => (s, i)) (fun x => x) h (fun s i hi _ => ?_) (fun s => ?_)).trans (by simp)
  · simp only [dlt hi, cond_true, idx_nat hi, Option.bind_some, wi' hi (by omega)]
  · simp only [dnlt, cond_false]
theorem wide_eq (xs : List Int) (h : Sh xs) : D.impl_wide xs = some xs := by
  unfold Sh at h
  unfold D.impl_wide
  rw [makeD_zero (by omega) (by omega), Option.bind_some]
  refine (loop_map xs (fun s i => (s, i)) (fun x => x) h (fun s i hi _ => ?_) (fun s => ?_)).trans (by simp)
  · simp only [dlt hi, cond_true, idx_nat hi, Option.bind_some, wi' hi (by omega)]
  · simp only [dnlt, cond_false]

theorem least_eq {s : Int} (h : VS s) (h0 : s ≠ 0) : ∃ k : Nat, k < 32 ∧ D.impl_vset_least s = some (k : Int) ∧ has s k = true ∧ (∀ v, v < k → has s v = false) ∧
    (∀ v, has (iand .u32 s (IntKind.u32.wrap (s - 1))) v = (has s v && !decide (v = k))) := by
  obtain ⟨k, h1, h2, h3, h4, h5⟩ := least_spec h h0
  refine ⟨k, h1, ?_, h2, h3, h5⟩
  unfold D.impl_vset_least D.math_bits_TrailingZeros32
  have e : (s == 0) = false := by simpa using h0
  simp only [e, cond_false, h4, tz_table k h1, Option.bind_some]
  rw [w64 (by omega) (by omega)]

theorem list_eq (s : Int) (h : VS s) : D.impl_vset_list s = some (elems s) := by
  unfold D.impl_vset_list
  have key : ∀ (n : Nat) (x : Int) (l : List Int), VS x → (elems x).length = n → l.length + n ≤ 32 →
      loopF (σ := Int × (List Int)) (ρ := ((List Int))) (fun (s_52 : Int × (List Int)) => match s_52 with | (x_55, l_56) => cond (x_55 != 0) ((D.impl_vset_least x_55).bind fun y_88 => (appendD l_56 ([y_88] : List Int)).bind fun l_99 => some (.inl ((iand .u32 x_55 (IntKind.u32.wrap (x_55 - 1))), l_99))) (some (.inr l_56))) (x, l) = some (l ++ elems x) := by
    intro n
    induction n with
    | zero =>
      intro x l hx hn _
      have e : elems x = [] := List.eq_nil_of_length_eq_zero hn
      have e0 : x = 0 := hx.eq_zero.2 fun v hv => by
        cases hc : has x v
        · rfl
        · have := mem_elems.2 ⟨v, hv, hc, rfl⟩; rw [e] at this; simp at this
      rw [e]
      refine loopF_done ?_
      have : (x != 0) = false := by simp [e0]
      simp only [this, cond_false, List.append_nil]
    | succ n ih =>
      intro x l hx hn hl
      have h0 : x ≠ 0 := by rintro rfl; rw [elems_zero] at hn; simp at hn
      obtain ⟨k, h1, h2, h3, h4, h5⟩ := least_eq hx h0
      have e := elems_least h1 h3 h4 h5
      have en : (elems (iand .u32 x (IntKind.u32.wrap (x - 1)))).length = n := by rw [e] at hn; simpa using hn
      have hstep := ih (iand .u32 x (IntKind.u32.wrap (x - 1))) (l ++ [(k : Int)]) (VS.iand _ _) en (by simp; omega)
      have e1 : (x != 0) = true := by simpa using h0
      rw [loopF_more (s' := (iand .u32 x (IntKind.u32.wrap (x - 1)), l ++ [(k : Int)]))]
      · rw [hstep, e]; simp
      · simp only [e1, cond_true, h2, Option.bind_some, appendD_ok (xs := l) (ys := [(k : Int)]) (by simp; omega)]
  have := key (elems s).length s [] h rfl (by simpa using elems_len s)
  rw [this]; simp
theorem elems_sh (s : Int) : Sh (elems s) := by have := elems_len s; unfold Sh; omega
theorem numbers_eq (s : Int) (h : VS s) : D.impl_vset_numbers s = some (elems s) := by
  unfold D.impl_vset_numbers
  rw [list_eq s h, Option.bind_some, wide_eq _ (elems_sh s)]; rfl
/-! ### rising lists -/
theorem l1Copy_eq (xs : List Int) (h : Sh xs) : D.spec_l1Copy xs = some xs := by
  unfold Sh at h
  unfold D.spec_l1Copy
  rw [appendD_ok (by simpa using h)]; rfl
/-- with one more -/
def into (xs : List Int) (n : Int) : List Int := if n ∈ xs then xs else xs.takeWhile (fun x => decide (x < n)) ++ n :: xs.dropWhile (fun x => decide (x < n))
theorem mem_into {xs : List Int} {n x : Int} : x ∈ into xs n ↔ x = n ∨ x ∈ xs := by
  unfold into
  split
  · constructor
    · intro h; exact .inr h
    · rintro (rfl | h)
      · assumption
      · exact h
  · have e : x ∈ xs ↔ x ∈ xs.takeWhile (fun x => decide (x < n)) ++ xs.dropWhile (fun x => decide (x < n)) := by rw [List.takeWhile_append_dropWhile]
    rw [e]; simp only [List.mem_append, List.mem_cons]
    constructor
    · rintro (h | h | h) <;> simp [h]
    · rintro (h | h | h) <;> simp [h]
theorem inc_dropWhile {xs : List Int} {n : Int} (h : Inc xs) : ∀ y ∈ xs.dropWhile (fun x => decide (x < n)), n ≤ y := by
  induction xs with
  | nil => simp
  | cons x xs ih =>
    have h' := List.pairwise_cons.1 h
    intro y hy
    rw [List.dropWhile_cons] at hy
    split at hy
    · exact ih h'.2 y hy
    · rename_i hc
      simp at hc
      rcases List.mem_cons.1 hy with rfl | hy
      · exact hc
      · have := h'.1 y hy; omega
theorem inc_takeWhile {xs : List Int} {n : Int} : ∀ y ∈ xs.takeWhile (fun x => decide (x < n)), y < n := by
  intro y hy
  induction xs with
  | nil => simp at hy
  | cons x xs ih =>
    rw [List.takeWhile_cons] at hy
    split at hy
    · rename_i hc
      rcases List.mem_cons.1 hy with rfl | hy
      · simpa using hc
      · exact ih hy
    · simp at hy
theorem Inc.into {xs : List Int} (h : Inc xs) (n : Int) : Inc (into xs n) := by
  unfold Sx.into
  split
  · exact h
  · rename_i hn
    unfold Inc
    rw [List.pairwise_append]
    refine ⟨List.Pairwise.sublist (List.takeWhile_sublist _) h, List.pairwise_cons.2 ⟨fun y hy => ?_, List.Pairwise.sublist (List.dropWhile_sublist _) h⟩, fun a ha b hb => ?_⟩
    · have h1 := inc_dropWhile h y hy
      have h2 : y ≠ n := fun e => hn (e ▸ (List.dropWhile_sublist _).mem hy)
      omega
    · have h1 := inc_takeWhile a ha
      rcases List.mem_cons.1 hb with rfl | hb
      · exact h1
      · have := inc_dropWhile h b hb; omega
end Go.Sx

/- Open vertices, bags of an order: the reference's and the program's. Plain. -/
namespace Go.Sx
theorem takeWhile_eq_take {α : Type} (p : α → Bool) : ∀ (xs : List α), xs.takeWhile p = xs.take (xs.takeWhile p).length ∧ xs.dropWhile p = xs.drop (xs.takeWhile p).length
  | [] => by simp
  | x :: xs => by
    rw [List.takeWhile_cons, List.dropWhile_cons]
    cases p x
    · simp
    · have := takeWhile_eq_take p xs
      simp only [if_true, List.length_cons, List.take_succ_cons, List.drop_succ_cons, ← this.1, ← this.2, and_self]
theorem takeWhile_get {α : Type} (p : α → Bool) : ∀ (xs : List α) (i : Nat) (h : i < (xs.takeWhile p).length) (h' : i < xs.length), p xs[i] = true
  | x :: xs, i, h, h' => by
    rw [List.takeWhile_cons] at h
    cases hp : p x
    · rw [hp] at h; simp at h
    · rw [hp] at h
      cases i with
      | zero => simpa using hp
      | succ i => simp only [if_true, List.length_cons] at h; simpa using takeWhile_get p xs i (by omega) (by simpa using h')
theorem takeWhile_stop {α : Type} (p : α → Bool) : ∀ (xs : List α) (h : (xs.takeWhile p).length < xs.length), p (xs[(xs.takeWhile p).length]) = false
  | x :: xs, h => by
    cases hp : p x
    · simp [List.takeWhile_cons, hp]
    · have h2 : (xs.takeWhile p).length < xs.length := by simpa [List.takeWhile_cons, hp] using h
      simpa [List.takeWhile_cons, hp] using takeWhile_stop p xs h2
theorem takeWhile_len_le {α : Type} (p : α → Bool) (xs : List α) : (xs.takeWhile p).length ≤ xs.length := (List.takeWhile_sublist _).length_le

theorem l1Into_eq (xs : List Int) (n : Int) (h : Inc xs) (hl : xs.length ≤ 4294967295) : D.spec_l1Into xs n = some (into xs n) := by
  unfold D.spec_l1Into
  generalize hk : (xs.takeWhile (fun x => decide (x < n))).length = k
  have hkl : k ≤ xs.length := by rw [← hk]; exact takeWhile_len_le _ _
  have htk : xs.takeWhile (fun x => decide (x < n)) = xs.take k := by rw [← hk]; exact (takeWhile_eq_take _ xs).1
  have hdk : xs.dropWhile (fun x => decide (x < n)) = xs.drop k := by rw [← hk]; exact (takeWhile_eq_take _ xs).2
  refine (loop_to (fun i => ((i : Nat) : Int)) k (k : Int) rfl (fun i hi => ?_) ?_).trans ?_
  · have hi' : i < xs.length := by omega
    have hp : decide (xs[i] < n) = true := takeWhile_get (fun x => decide (x < n)) xs i (by omega) hi'
    simp only [dlt hi', cond_true, idx_nat hi', Option.bind_some, hp, wi (show i < 4611686018427387904 by omega)]
  · by_cases hlt : k < xs.length
    · have hp : decide (xs[k] < n) = false := by
        have := takeWhile_stop (fun x => decide (x < n)) xs (by omega)
        simp only [hk] at this; exact this
      simp only [dlt hlt, cond_true, idx_nat hlt, Option.bind_some, hp, cond_false]
    · obtain rfl : k = xs.length := by omega
      simp only [dnlt, cond_false, Option.bind_some]
  · have hS1 : Sh (xs.take k) := by unfold Sh; rw [List.length_take]; omega
    have hrest : ((sliceD xs 0 (k : Int)).bind fun l_135 => (D.spec_l1Copy l_135).bind fun y_139 => (appendD y_139 ([n] : List Int)).bind fun l_154 => (sliceD xs (k : Int) (xs.length : Int)).bind fun l_160 => (appendD l_154 l_160).bind fun l_164 => some l_164) = some (xs.take k ++ n :: xs.drop k) := by
      simp only [sliceD_pre hkl, sliceD_post hkl, Option.bind_some, l1Copy_eq _ hS1]
      rw [appendD_ok (by simp; omega), Option.bind_some, appendD_ok (by simp; omega), Option.bind_some]
      simp
    by_cases hlt : k < xs.length
    · simp only [dlt hlt, cond_true, idx_nat hlt, Option.bind_some]
      by_cases he : xs[k] = n
      · have hm : n ∈ xs := by rw [← he]; exact List.getElem_mem _
        have : (xs[k] == n) = true := by simp [he]
        simp only [this, cond_true]
        unfold into; rw [if_pos hm]
      · have : (xs[k] == n) = false := by simpa using he
        simp only [this, cond_false, hrest]
        unfold into
        rw [htk, hdk, if_neg]
        intro hm
        obtain ⟨j, hj, e⟩ := List.getElem_of_mem hm
        have hst : decide (xs[k] < n) = false := by
          have := takeWhile_stop (fun x => decide (x < n)) xs (by omega)
          simp only [hk] at this; exact this
        simp at hst
        rcases Nat.lt_trichotomy j k with h1 | h1 | h1
        · have := takeWhile_get (fun x => decide (x < n)) xs j (by omega) hj
          simp at this; omega
        · subst h1; exact he e
        · have := (List.pairwise_iff_getElem.1 h) k j hlt hj h1
          omega
    · obtain rfl : k = xs.length := by omega
      simp only [dnlt, cond_false, Option.bind_some, hrest]
      unfold into
      rw [htk, hdk, if_neg]
      intro hm
      obtain ⟨j, hj, e⟩ := List.getElem_of_mem hm
      have := takeWhile_get (fun x => decide (x < n)) xs j (by omega) hj
      simp at this; omega

end Go.Sx



/- What the laws draw with their dice: graphs that are right, orders that are right. Plain. -/
namespace Go.Sx
/-- dice in order: bytes, and a place among them -/
structure DK (b : List Int) (i : Int) : Prop where
  byte : ∀ x ∈ b, 0 ≤ x ∧ x ≤ 255
  len : b.length ≤ 4096
  i0 : 0 ≤ i
  i1 : i ≤ b.length

theorem tmod_rng {x n : Int} (hx : 0 ≤ x) (hn : 0 < n) : 0 ≤ Int.tmod x n ∧ Int.tmod x n < n :=
  ⟨Int.tmod_nonneg _ hx, Int.tmod_lt_of_pos _ hn⟩

theorem row_set {g : List (List Int)} {u v : Nat} {r : List Int} (hu : u < g.length) : row (g.set u r) v = if v = u then r else row g v := by
  unfold row
  by_cases h : v = u
  · subst h; simp [hu]
  · rw [if_neg h, List.getD_eq_getElem?_getD, List.getElem?_set_ne (fun e => h e.symm), ← List.getD_eq_getElem?_getD]

theorem l1Link_ok {g : List (List Int)} (hg : GOk g) {u v : Nat} (hu : u < g.length) (hv : v < g.length) (huv : u ≠ v) :
    ∃ g', D.spec_l1Link g (u : Int) (v : Int) = some g' ∧ GOk g' ∧ g'.length = g.length ∧ ∀ a b, adj g' a b ↔ adj g a b ∨ (a = u ∧ b = v) ∨ (a = v ∧ b = u) := by
  have h16 := hg.n16
  have hru := hg.rows u hu; have hrv := hg.rows v hv
  have hlu := hg.row_len hu; have hlv := hg.row_len hv
  refine ⟨(g.set u (into (row g u) v)).set v (into (row g v) u), ?_, ?_⟩
  · unfold D.spec_l1Link
    have e1 : row (g.set u (into (row g u) v)) v = row g v := by rw [row_set hu, if_neg (Ne.symm huv)]
    simp only [idx_row hu, Option.bind_some, l1Into_eq _ _ hru.1 (show (row g u).length ≤ 4294967295 by omega), Int.toNat_natCast]
    rw [idx_row (show v < (g.set u (into (row g u) v)).length by simpa using hv), e1]
    simp only [Option.bind_some, l1Into_eq _ _ hrv.1 (show (row g v).length ≤ 4294967295 by omega)]
  · have hrow : ∀ w, row ((g.set u (into (row g u) v)).set v (into (row g v) u)) w = if w = v then into (row g v) u else if w = u then into (row g u) v else row g w := by
      intro w
      rw [row_set (by simpa using hv), row_set hu]
    have hadj : ∀ a b, adj ((g.set u (into (row g u) v)).set v (into (row g v) u)) a b ↔ adj g a b ∨ (a = u ∧ b = v) ∨ (a = v ∧ b = u) := by
      intro a b
      unfold adj
      rw [hrow]
      by_cases ha : a = v
      · subst ha
        rw [if_pos rfl, mem_into]
        constructor
        · rintro (h | h)
          · exact .inr (.inr ⟨rfl, by omega⟩)
          · exact .inl h
        · rintro (h | ⟨h, _⟩ | ⟨_, h⟩)
          · exact .inr h
          · exact absurd h.symm huv
          · exact .inl (by omega)
      · rw [if_neg ha]
        by_cases ha' : a = u
        · subst ha'
          rw [if_pos rfl, mem_into]
          constructor
          · rintro (h | h)
            · exact .inr (.inl ⟨rfl, by omega⟩)
            · exact .inl h
          · rintro (h | ⟨_, h⟩ | ⟨h, _⟩)
            · exact .inr h
            · exact .inl (by omega)
            · exact absurd h ha
        · rw [if_neg ha']
          constructor
          · exact .inl
          · rintro (h | ⟨h, _⟩ | ⟨h, _⟩)
            · exact h
            · exact absurd h ha'
            · exact absurd h ha
    refine ⟨⟨by simpa using hg.n1, by simpa using h16, fun w hw => ?_, fun w hw => ?_, fun a b ha hab => ?_⟩, by simp, hadj⟩
    · simp only [List.length_set] at hw ⊢
      rw [hrow]
      split
      · refine ⟨hrv.1.into _, fun x hx => ?_⟩
        rcases mem_into.1 hx with rfl | hx
        · omega
        · exact hrv.2 x hx
      · split
        · refine ⟨hru.1.into _, fun x hx => ?_⟩
          rcases mem_into.1 hx with rfl | hx
          · omega
          · exact hru.2 x hx
        · exact hg.rows w hw
    · simp only [List.length_set] at hw
      rw [hadj]
      rintro (h | ⟨h1, h2⟩ | ⟨h1, h2⟩)
      · exact hg.irr w hw h
      · omega
      · omega
    · simp only [List.length_set] at ha
      rw [hadj] at hab ⊢
      rcases hab with h | h | h
      · exact .inl (hg.sym a b ha h)
      · exact .inr (.inr ⟨h.2, h.1⟩)
      · exact .inr (.inl ⟨h.2, h.1⟩)

theorem GOk.empty {n : Nat} (h1 : 1 ≤ n) (h16 : n ≤ 16) : GOk (List.replicate n []) := by
  have hr : ∀ v, row (List.replicate n []) v = [] := fun v => by
    unfold row
    rw [List.getD_eq_getElem?_getD, List.getElem?_replicate]; split <;> rfl
  refine ⟨by simpa using h1, by simpa using h16, fun v _ => ?_, fun v _ => ?_, fun u v _ h => ?_⟩
  · rw [hr]; exact ⟨by simp [Inc], by simp⟩
  · unfold adj; rw [hr]; simp
  · unfold adj at h; rw [hr] at h; simp at h

end Go.Sx

/- Drawn graphs and drawn orders are right. Plain. -/
namespace Go.Sx
end Go.Sx

/- Trees of bags: the reference's own check, where it answers true. Plain. -/
namespace Go.Sx
theorem nodup_le : ∀ {l m : List Int}, l.Nodup → (∀ x ∈ l, x ∈ m) → l.length ≤ m.length
  | [], _, _, _ => by simp
  | x :: l, m, h, hs => by
    have h' := List.nodup_cons.1 h
    have hx := hs x (by simp)
    have := nodup_le (l := l) (m := m.erase x) h'.2 (fun y hy => by
      have hne : y ≠ x := fun e => h'.1 (e ▸ hy)
      exact (List.mem_erase_of_ne hne).2 (hs y (by simp [hy])))
    rw [List.length_erase_of_mem hx] at this
    have hp : 0 < m.length := List.length_pos_of_mem hx
    simp; omega
theorem l1All_eq (n : Nat) (hn : n ≤ 4294967295) : D.spec_l1All (n : Int) = some ((List.range n).map Int.ofNat) := by
  unfold D.spec_l1All
  refine (loop_to (fun i => ((List.range i).map Int.ofNat, (i : Int))) n ((List.range n).map Int.ofNat) (by simp) (fun i hi => ?_) ?_).trans rfl
  · simp only [dlt hi, cond_true, wi (show i < 4611686018427387904 by omega)]
    rw [appendD_ok (by simp; omega), Option.bind_some, List.range_succ, List.map_append]; rfl
  · simp only [dnlt, cond_false]

/-- which bags have a vertex -/
def withV (bags : List (List Int)) (v : Int) : List Int := ((List.range bags.length).filter fun b => decide (v ∈ bags.getD b [])).map Int.ofNat
/-- linked -/
def Lk (links : List (List Int)) (x y : Int) : Prop := [x, y] ∈ links ∨ [y, x] ∈ links
/-- m has the first of sel, and with each what is linked in sel -/
structure Closed (links : List (List Int)) (sel m : List Int) : Prop where
  sub : ∀ x ∈ m, x ∈ sel
  first : ∀ x, sel.head? = some x → x ∈ m
  step : ∀ x ∈ m, ∀ y ∈ sel, Lk links x y → y ∈ m

/-- all of sel hangs together -/
def Conn (links : List (List Int)) (sel : List Int) : Prop := ∀ m, Closed links sel m → ∀ x ∈ sel, x ∈ m
end Go.Sx
