/- Parts of the proof: KCW, KDW, Qa, S1D, Ga, Gb, Gc. -/
import Derived.Test.YtehnblgkgaakeaaDoorGr4
import Derived.Test.YtehnblgkgaakeaaDoorProg
import Derived.KernelRfl
set_option linter.unusedVariables false
set_option linter.unusedSimpArgs false
set_option linter.unusedSectionVars false
set_option maxRecDepth 100000
namespace Go.Proofs.YtehnblgkgaakeaaDoor
open Go Go.Sx
theorem T63 : SlT Tryd.prog 63 3 1 8 (.int .i64 0) := ⟨Tryd.underlying63, Tryd.t3, by kernel_rfl, by kernel_rfl, by kernel_rfl, by kernel_rfl⟩
theorem T61 : SlT Tryd.prog 61 66 1 4 (.int .u32 0) := ⟨Tryd.underlying61, Tryd.t66, by kernel_rfl, by kernel_rfl, by kernel_rfl, by kernel_rfl⟩
theorem Pl66 : Plain Tryd.prog 66 := Tryd.isAgg66

theorem Wk.impl_vset_least {W w : World} {G : GH} {H : List Itm} {x0 : Int} (hW : TabW W) (m : Mem W G w (H))  {y : Int} (hd : D.impl_vset_least x0 = some y) :
  Calls Tryd.prog 85 #[(.int .u32 x0)] w (Res W G H (fun _ Ho v => Ho = [] ∧ v = (.int .i64 y))) := by
 refine calls_b (args := [(.int .u32 x0)]) (N := 5) [.tmp 2] Tryd.func85 rfl rfl (Nat.le_of_ble_eq_true rfl) rfl fun a f => ?_
 unfold D.impl_vset_least at hd
 refine k_seq (k_region ?_)
 refine l_as f rfl rfl fun a f => ?_
 refine l_nil (k_seq (k_region ?_))
 refine l_mv f rfl rfl fun a f => ?_
 obtain ⟨y_1, hy_2, hd⟩ := bind_some hd
 refine l_res f rfl rfl Tryd.call118 (Wk.math_bits_TrailingZeros32 hW m  hy_2) fun v_6 G_3 Ho_7 w hl_4 m hQ_5 a f => ?_
 obtain ⟨rfl, rfl⟩ := hQ_5
 refine l_as f rfl rfl fun a f => ?_
 refine l_nil ?_
 refine k_ret ?_
 obtain rfl := sj hd
 exact ⟨[(.int .i64 y_1)], ⟨f.get _ _ rfl, trivial⟩, f.defers, _, [], hl_4, m, rfl, rfl⟩

theorem Wk.impl_vset_list {W w : World} {G : GH} {H : List Itm} {x0 : Int} (hW : TabW W) (m : Mem W G w (H))  {y : ((List Int))} (hd : D.impl_vset_list x0 = some y) :
  Calls Tryd.prog 62 #[(.int .u32 x0)] w (Res W G H (fun G' Ho v => ∃ r0 : Value, ∃ i0 : Itm, Ho = [i0] ∧ r0 = v ∧ Ow (RI .i64) 3 G' i0 r0 y)) := by
 refine calls_b (args := [(.int .u32 x0)]) (N := 17) [.tmp 2] Tryd.func62 rfl rfl (Nat.le_of_ble_eq_true rfl) rfl fun a f => ?_
 unfold D.impl_vset_list at hd
 refine k_seq (k_region ?_)
 refine l_as f rfl rfl fun a f => ?_
 refine l_nil (k_seq (k_region ?_))
 refine l_slit (R := (RI .i64)) (xs := ([] : List Int)) (RI.one _) m T63 f rfl rfl rfl (by decide) (All2.nil _) fun it_1 v_2 w a m o_3 f => ?_
 refine l_as f rfl rfl fun a f => ?_
 refine l_nil (k_seq ?_)
 obtain ⟨q_48, hl_49, hd⟩ := bind_some hd
 refine k_cut (fun a w => ∃ l_81 : List Int, l_81 = q_48 ∧ ∃ (G_80 : GH) (v_82 : Value) (it_83 : Itm), GLe G G_80 ∧ Fr a 17 [(3, v_82)] ∧ Mem W G_80 w (it_83 :: H) ∧ Ow (RI .i64) 3 G_80 it_83 v_82 l_81) ?_ ?_
 ·refine k_block ?_
  refine k_loop (fun s_52 a w => ∃ x_55 : Int, ∃ l_56 : List Int, (x_55, l_56) = s_52 ∧ ∃ (G_54 : GH) (v_57 : Value) (it_58 : Itm), GLe G G_54 ∧ Fr a 17 [(0, (.int .u32 x_55)), (3, v_57)] ∧ Mem W G_54 w (it_58 :: H) ∧ Ow (RI .i64) 3 G_54 it_58 v_57 l_56) hl_49 ⟨_, _, rfl, _, v_2, it_1, (GLe.refl _), f.weak ⟨rfl, rfl, trivial⟩, m, o_3⟩ ?_
  clear hl_49 f m
  rintro s_52 o_53 hs_50 hq_51 a w ⟨x_55, l_56, rfl, G_54, v_57, it_58, hl_61, f, m, o_59⟩
  refine k_seq (k_seq (k_region ?_))
  refine l_mv f rfl rfl fun a f => ?_
  refine l_in f rfl rfl rfl b_neq fun a f => ?_
  refine l_nil ?_
  rcases cond_some hs_50 with ⟨hc_87, hs_50⟩ | ⟨hc_87, hs_50⟩
  ·refine k_true f rfl hc_87 ?_
   refine k_skip ?_
   refine k_seq (k_block (k_region ?_))
   refine l_mv f rfl rfl fun a f => ?_
   refine l_mv f rfl rfl fun a f => ?_
   obtain ⟨y_88, hy_89, hs_50⟩ := bind_some hs_50
   refine l_res f rfl rfl Tryd.call85 (Wk.impl_vset_least hW m  hy_89) fun v_93 G_90 Ho_94 w hl_91 m hQ_92 a f => ?_
   obtain ⟨rfl, rfl⟩ := hQ_92
   have o_59 := Ow.mono (RI.mono _) hl_91 o_59
   refine l_slit (R := (RI .i64)) (xs := ([y_88] : List Int)) (RI.one _) m T63 f rfl rfl rfl (by decide) (All2.cons rfl (All2.nil _)) fun it_95 v_96 w a m o_97 f => ?_
   obtain ⟨l_99, hx_100, hs_50⟩ := bind_some hs_50
   refine l_append (RI.one _) 1 m o_59 rfl T63 rfl (by decide) f rfl rfl rfl (Ow.src (j := 0) o_97 m rfl) hx_100 fun it_101 v_102 w a m o_103 f => ?_
   refine l_as f rfl rfl fun a f => ?_
   refine l_nil (k_region ?_)
   refine l_mv f rfl rfl fun a f => ?_
   refine l_mv f rfl rfl fun a f => ?_
   refine l_in f rfl rfl rfl b_sub fun a f => ?_
   refine l_in f rfl rfl rfl b_and fun a f => ?_
   refine l_as f rfl rfl fun a f => ?_
   refine l_nil ?_
   have m := m.front 1 rfl
   have m := m.eraseAt 1
   obtain rfl := sj hs_50
   exact ⟨_, rfl, _, _, rfl, _, v_102, it_101, (GLe.trans hl_61 hl_91), f.weak ⟨rfl, rfl, trivial⟩, m, o_103⟩
  ·refine k_false f rfl hc_87 ?_
   refine k_exit rfl ?_
   obtain rfl := sj hs_50
   obtain rfl := hq_51 _ rfl
   exact ⟨_, rfl, _, v_57, it_58, hl_61, f.weak ⟨rfl, trivial⟩, m, o_59⟩
 ·rintro a w ⟨l_81, rfl, G_80, v_82, it_83, hl_86, f, m, o_84⟩
  refine k_seq (k_region ?_)
  refine l_mv f rfl rfl fun a f => ?_
  refine l_as f rfl rfl fun a f => ?_
  refine l_nil ?_
  refine k_ret ?_
  obtain rfl := sj hd
  exact ⟨[v_82], ⟨f.get _ _ rfl, trivial⟩, f.defers, _, [it_83], hl_86, m, _, _, rfl, rfl, o_84⟩

theorem Wk.impl_nets_join {W w : World} {G : GH} {H : List Itm} {v0 : Value} {it0 : Itm} {x0 : (List Int)} {x1 : Int} {x2 : Int} (m : Mem W G w (it0 :: H)) (o0 : Ow (RI .u32) 66 G it0 v0 x0) {y : ((List Int))} (hd : D.impl_nets_join x0 x1 x2 = some y) :
  Calls Tryd.prog 77 #[v0, (.int .i64 x1), (.int .i64 x2)] w (Res W G H (fun G' Ho _ => ∃ i0 : Itm, Ho = [i0] ∧ Ow (RI .u32) 66 G' i0 v0 y)) := by
 refine calls_b (args := [v0, (.int .i64 x1), (.int .i64 x2)]) (N := 22) [] Tryd.func77 rfl rfl (Nat.le_of_ble_eq_true rfl) rfl fun a f => ?_
 unfold D.impl_nets_join at hd
 refine k_seq ?_
 refine k_draw 8 Follows (by kernel_rfl) m ?_
 refine q_mv 0 8 rfl (by kernel_rfl) f rfl rfl rfl fun a f => ?_
 refine q_mv 1 8 rfl (by kernel_rfl) f rfl rfl rfl fun a f => ?_
 obtain ⟨e_1, he_2, hd⟩ := bind_some hd
 refine q_own_at (i := 2) 8 0 m o0 rfl T61 he_2 rfl (by kernel_rfl) rfl f rfl rfl rfl rfl fun p_3 a ha_4 f => ?_
 refine q_own_load (i := 3) 8 0 o0 rfl Pl66 ha_4 he_2 rfl (by kernel_rfl) rfl f rfl rfl rfl fun c_5 a h_6 f => ?_
 subst h_6
 refine q_mv 4 8 rfl (by kernel_rfl) f rfl rfl rfl fun a f => ?_
 obtain ⟨y_7, hy_8, hd⟩ := bind_some hd
 refine q_call (i := 5) 8 rfl (by kernel_rfl) rfl f rfl rfl rfl Tryd.call48 (fun _ _ w hG_9 m => Wk.impl_one m  hy_8) fun a f => ?_
 refine q_p 6 8 rfl (by kernel_rfl) f rfl rfl rfl (fun _ => r_int (f.eval rfl) (f.eval rfl) b_or) fun a f => ?_
 obtain ⟨e_10, he_11, hd⟩ := bind_some hd
 refine q_own_at (i := 7) 8 0 m o0 rfl T61 he_11 rfl (by kernel_rfl) rfl f rfl rfl rfl rfl fun p_12 a ha_13 f => ?_
 refine q_end fun G_14 w hl_15 m => ?_
 have o0 := Ow.mono (RI.mono _) hl_15 o0
 refine l_own_store 0 m o0 rfl Tryd.sizeOf66 f rfl rfl ha_13 he_11 rfl rfl rfl fun it_16 w m o_17 => ?_
 refine l_nil ?_
 refine k_draw 8 Follows (by kernel_rfl) m ?_
 refine q_mv 0 8 rfl (by kernel_rfl) f rfl rfl rfl fun a f => ?_
 refine q_mv 1 8 rfl (by kernel_rfl) f rfl rfl rfl fun a f => ?_
 obtain ⟨e_18, he_19, hd⟩ := bind_some hd
 refine q_own_at (i := 2) 8 0 m o_17 rfl T61 he_19 rfl (by kernel_rfl) rfl f rfl rfl rfl rfl fun p_20 a ha_21 f => ?_
 refine q_own_load (i := 3) 8 0 o_17 rfl Pl66 ha_21 he_19 rfl (by kernel_rfl) rfl f rfl rfl rfl fun c_22 a h_23 f => ?_
 subst h_23
 refine q_mv 4 8 rfl (by kernel_rfl) f rfl rfl rfl fun a f => ?_
 obtain ⟨y_24, hy_25, hd⟩ := bind_some hd
 refine q_call (i := 5) 8 rfl (by kernel_rfl) rfl f rfl rfl rfl Tryd.call48 (fun _ _ w hG_26 m => Wk.impl_one m  hy_25) fun a f => ?_
 refine q_p 6 8 rfl (by kernel_rfl) f rfl rfl rfl (fun _ => r_int (f.eval rfl) (f.eval rfl) b_or) fun a f => ?_
 obtain ⟨e_27, he_28, hd⟩ := bind_some hd
 refine q_own_at (i := 7) 8 0 m o_17 rfl T61 he_28 rfl (by kernel_rfl) rfl f rfl rfl rfl rfl fun p_29 a ha_30 f => ?_
 refine q_end fun G_31 w hl_32 m => ?_
 have o_17 := Ow.mono (RI.mono _) hl_32 o_17
 refine l_own_store 0 m o_17 rfl Tryd.sizeOf66 f rfl rfl ha_30 he_28 rfl rfl rfl fun it_33 w m o_34 => ?_
 refine l_nil ?_
 obtain rfl := sj hd
 exact ⟨[], trivial, f.defers, _, [it_33], (GLe.trans hl_15 hl_32), m, _, rfl, o_34⟩

theorem Wk.impl_wide {W w : World} {G : GH} {H : List Itm} {v0 : Value} {x0 : (List Int)} (m : Mem W G w (H)) (h0 : RSl (RI .i64) G v0 x0) {y : ((List Int))} (hd : D.impl_wide x0 = some y) :
  Calls Tryd.prog 63 #[v0] w (Res W G H (fun G' Ho v => ∃ r0 : Value, ∃ i0 : Itm, Ho = [i0] ∧ r0 = v ∧ Ow (RI .i64) 2 G' i0 r0 y)) := by
 refine calls_b (args := [v0]) (N := 21) [.tmp 2] Tryd.func63 rfl rfl (Nat.le_of_ble_eq_true rfl) rfl fun a f => ?_
 unfold D.impl_wide at hd
 refine k_seq (k_region ?_)
 refine l_as f rfl rfl fun a f => ?_
 refine l_nil (k_seq (k_region ?_))
 refine l_mv f rfl rfl fun a f => ?_
 refine l_len Tryd.underlying63 f rfl rfl h0 fun a f => ?_
 obtain ⟨l_1, hx_2, hd⟩ := bind_some hd
 refine l_make (R := (RI .i64)) m T31 rfl (by decide) rfl f rfl rfl rfl hx_2 fun it_3 v_4 w a m o_5 f => ?_
 refine l_as f rfl rfl fun a f => ?_
 refine l_nil (k_seq (k_seq (k_region ?_)))
 refine l_mv f rfl rfl fun a f => ?_
 refine l_len Tryd.underlying63 f rfl rfl h0 fun a f => ?_
 refine l_mv f rfl rfl fun a f => ?_
 refine l_nil ?_
 obtain ⟨q_48, hl_49, hd⟩ := bind_some hd
 refine k_cut (fun a w => ∃ l_80 : List Int, l_80 = q_48 ∧ ∃ (G_79 : GH) (v_81 : Value) (it_82 : Itm), GLe G G_79 ∧ Fr a 21 [(3, v_81)] ∧ Mem W G_79 w (it_82 :: H) ∧ Ow (RI .i64) 2 G_79 it_82 v_81 l_80) ?_ ?_
 ·refine k_block ?_
  refine k_loop (fun s_52 a w => ∃ l_55 : List Int, ∃ x_60 : Int, (l_55, x_60) = s_52 ∧ ∃ (G_54 : GH) (v_56 : Value) (it_57 : Itm), GLe G G_54 ∧ Fr a 21 [(3, v_56), (9, v0), (10, (.int .i64 (x0.length : Int))), (11, (.int .i64 x_60))] ∧ Mem W G_54 w (it_57 :: H) ∧ Ow (RI .i64) 2 G_54 it_57 v_56 l_55) hl_49 ⟨_, _, rfl, _, v_4, it_3, (GLe.refl _), f.weak ⟨rfl, rfl, rfl, rfl, trivial⟩, m, o_5⟩ ?_
  clear hl_49 f m
  rintro s_52 o_53 hs_50 hq_51 a w ⟨l_55, x_60, rfl, G_54, v_56, it_57, hl_61, f, m, o_58⟩
  have h0 := RSl.mono (RI.mono _) _ _ _ _ hl_61 h0
  refine k_seq (k_region ?_)
  refine l_in f rfl rfl rfl b_lss fun a f => ?_
  refine l_nil (k_seq ?_)
  rcases cond_some hs_50 with ⟨hc_86, hs_50⟩ | ⟨hc_86, hs_50⟩
  ·refine k_true f rfl hc_86 ?_
   refine k_skip ?_
   refine k_seq (k_block (k_seq (k_region ?_)))
   obtain ⟨e_87, he_88, hs_50⟩ := bind_some hs_50
   refine l_at T63 f rfl rfl rfl h0 he_88 fun p_89 c_90 a g_91 h_92 f => ?_
   subst h_92
   refine l_loadAt m Pl3 f rfl rfl g_91 fun a f => ?_
   refine l_as f rfl rfl fun a f => ?_
   refine l_nil (k_region ?_)
   refine l_mv f rfl rfl fun a f => ?_
   refine l_mv f rfl rfl fun a f => ?_
   refine l_slit (R := (RI .i64)) (xs := ([e_87] : List Int)) (RI.one _) m T31 f rfl rfl rfl (by decide) (All2.cons rfl (All2.nil _)) fun it_93 v_94 w a m o_95 f => ?_
   obtain ⟨l_97, hx_98, hs_50⟩ := bind_some hs_50
   refine l_append (RI.one _) 1 m o_58 rfl T31 rfl (by decide) f rfl rfl rfl (Ow.src (j := 0) o_95 m rfl) hx_98 fun it_99 v_100 w a m o_101 f => ?_
   refine l_as f rfl rfl fun a f => ?_
   refine l_nil (k_region ?_)
   refine l_in f rfl rfl rfl b_add fun a f => ?_
   refine l_mv f rfl rfl fun a f => ?_
   refine l_nil ?_
   have m := m.front 1 rfl
   have m := m.eraseAt 1
   obtain rfl := sj hs_50
   exact ⟨_, rfl, _, _, rfl, _, v_100, it_99, hl_61, f.weak ⟨rfl, rfl, rfl, rfl, trivial⟩, m, o_101⟩
  ·refine k_false f rfl hc_86 ?_
   refine k_exit rfl ?_
   obtain rfl := sj hs_50
   obtain rfl := hq_51 _ rfl
   exact ⟨_, rfl, _, v_56, it_57, hl_61, f.weak ⟨rfl, trivial⟩, m, o_58⟩
 ·rintro a w ⟨l_80, rfl, G_79, v_81, it_82, hl_85, f, m, o_83⟩
  refine k_seq (k_region ?_)
  refine l_mv f rfl rfl fun a f => ?_
  refine l_as f rfl rfl fun a f => ?_
  refine l_nil ?_
  refine k_ret ?_
  obtain rfl := sj hd
  exact ⟨[v_81], ⟨f.get _ _ rfl, trivial⟩, f.defers, _, [it_82], hl_85, m, _, _, rfl, rfl, o_83⟩

theorem Wk.impl_vset_numbers {W w : World} {G : GH} {H : List Itm} {x0 : Int} (hW : TabW W) (m : Mem W G w (H))  {y : ((List Int))} (hd : D.impl_vset_numbers x0 = some y) :
  Calls Tryd.prog 100 #[(.int .u32 x0)] w (Res W G H (fun G' Ho v => ∃ r0 : Value, ∃ i0 : Itm, Ho = [i0] ∧ r0 = v ∧ Ow (RI .i64) 2 G' i0 r0 y)) := by
 refine calls_b (args := [(.int .u32 x0)]) (N := 6) [.tmp 2] Tryd.func100 rfl rfl (Nat.le_of_ble_eq_true rfl) rfl fun a f => ?_
 unfold D.impl_vset_numbers at hd
 refine k_seq (k_region ?_)
 refine l_as f rfl rfl fun a f => ?_
 refine l_nil (k_seq (k_region ?_))
 refine l_mv f rfl rfl fun a f => ?_
 obtain ⟨y_1, hy_2, hd⟩ := bind_some hd
 refine l_res f rfl rfl Tryd.call62 (Wk.impl_vset_list hW m  hy_2) fun v_6 G_3 Ho_7 w hl_4 m hQ_5 a f => ?_
 obtain ⟨v_8, it_9, rfl, rfl, o_10⟩ := hQ_5
 obtain ⟨y_12, hy_13, hd⟩ := bind_some hd
 refine l_res f rfl rfl Tryd.call63 (Ow.lendCall (RI.mono _) 0 o_10 m rfl (fun G_14 hl_15 m h_16 => Wk.impl_wide m h_16 hy_13) (fun _ G' _ _ ⟨a0, a1, e1, e2, o0⟩ => ⟨a0, a1, e1, e2, Ow.free (RI.free _) G' o0⟩)) fun v_20 G_17 Ho_21 w hl_18 m hQ_19 a f => ?_
 obtain ⟨v_22, it_23, rfl, rfl, o_24⟩ := hQ_19
 have o_10 := Ow.mono (RI.mono _) hl_18 o_10
 refine l_as f rfl rfl fun a f => ?_
 refine l_nil ?_
 refine k_ret ?_
 have m := m.eraseAt 1
 obtain rfl := sj hd
 exact ⟨[v_22], ⟨f.get _ _ rfl, trivial⟩, f.defers, _, [it_23], (GLe.trans hl_4 hl_18), m, _, _, rfl, rfl, o_24⟩

theorem Wk.impl_GraphOk {W w : World} {G : GH} {H : List Itm} {v0_0 : Value} {x0_0 : (List (List Int))} (m : Mem W G w (H)) (h0_0 : RSl (RSl (RI .i64)) G v0_0 x0_0) {y : Bool} (hd : D.impl_GraphOk x0_0 = some y) :
  Calls Tryd.prog 55 #[(.agg #[v0_0])] w (Res W G H (fun _ Ho v => Ho = [] ∧ v = (.bool y))) := by
 refine calls_b (args := [(.agg #[v0_0])]) (N := 61) [.tmp 2] Tryd.func55 rfl rfl (Nat.le_of_ble_eq_true rfl) rfl fun a f => ?_
 unfold D.impl_GraphOk at hd
 refine k_seq (k_region ?_)
 refine l_box (cs := [v0_0]) m f rfl rfl rfl fun b_2 w a m f => ?_
 refine l_as f rfl rfl fun a f => ?_
 refine l_nil (k_seq (k_region ?_))
 refine l_fieldAddr Tryd.underlying29 rfl Tryd.sizeOf27 (by decide) f rfl rfl fun a f => ?_
 refine l_boxCell 0 0 m Pl27 f rfl rfl rfl rfl fun a f => ?_
 refine l_len Tryd.underlying27 f rfl rfl h0_0 fun a f => ?_
 refine l_as f rfl rfl fun a f => ?_
 refine l_nil (k_seq (k_seq (k_region ?_)))
 refine l_mv f rfl rfl fun a f => ?_
 refine l_in f rfl rfl rfl b_lss fun a f => ?_
 refine l_mv f rfl rfl fun a f => ?_
 refine l_cut 3 (fun a w => ∃ G_4, GLe G G_4 ∧ Mem W G_4 w (Itm.box b_2 29 [v0_0] :: H) ∧ Fr a 61 [(0, (.agg #[v0_0])), (1, (.pointer (some ⟨b_2, 0, none⟩))), (3, (.int .i64 (x0_0.length : Int))), (13, (.int .i64 (x0_0.length : Int))), (14, (.bool (decide ((x0_0.length : Int) < 1)))), (15, (.bool (decide ((x0_0.length : Int) < 1)))), (18, (.bool ((decide ((x0_0.length : Int) < 1)) || (decide ((16 : Int) < (x0_0.length : Int))))))]) ?_ ?_
 ·rcases Bool.eq_false_or_eq_true (decide ((x0_0.length : Int) < 1)) with hc_3 | hc_3
  ·refine l_not' f rfl rfl rfl hc_3 fun a f => ?_
   refine l_not' f rfl rfl rfl hc_3 fun a f => ?_
   refine l_op f rfl rfl rfl (r_pickT (f.eval rfl) hc_3 (f.eval rfl)) fun a f => ?_
   exact ⟨_, (GLe.refl _), m, f.weak ⟨rfl, rfl, rfl, rfl, rfl, rfl, by rw [hc_3]; rfl, trivial⟩⟩
  ·refine l_run f rfl rfl hc_3 ?_
   refine l_mv f rfl rfl fun a f => ?_
   refine l_run f rfl rfl hc_3 ?_
   refine l_in f rfl rfl rfl b_gtr fun a f => ?_
   refine l_op f rfl rfl rfl (r_pickF (f.eval rfl) hc_3 (f.eval rfl)) fun a f => ?_
   exact ⟨_, (GLe.refl _), m, f.weak ⟨rfl, rfl, rfl, rfl, rfl, rfl, by rw [hc_3]; rfl, trivial⟩⟩
 ·rintro a w ⟨G_4, hl_5, m, f⟩
  have h0_0 := RSl.mono (RSl.mono (RI.mono _)) _ _ _ _ hl_5 h0_0
  refine l_nil ?_
  rcases cond_some hd with ⟨hc_6, hd⟩ | ⟨hc_6, hd⟩
  ·refine k_true f rfl hc_6 ?_
   refine k_seq (k_region ?_)
   refine l_as f rfl rfl fun a f => ?_
   refine l_nil ?_
   refine k_ret ?_
   have m : Mem W G_4 w H := Mem.drop (H' := [Itm.box b_2 29 [v0_0]]) m
   obtain rfl := sj hd
   exact ⟨[(.bool false)], ⟨f.get _ _ rfl, trivial⟩, f.defers, _, [], hl_5, m, rfl, rfl⟩
  ·refine k_false f rfl hc_6 ?_
   refine k_skip ?_
   refine k_seq (k_seq (k_region ?_))
   refine l_fieldAddr Tryd.underlying29 rfl Tryd.sizeOf27 (by decide) f rfl rfl fun a f => ?_
   refine l_boxCell 0 0 m Pl27 f rfl rfl rfl rfl fun a f => ?_
   refine l_len Tryd.underlying27 f rfl rfl h0_0 fun a f => ?_
   refine l_mv f rfl rfl fun a f => ?_
   refine l_nil ?_
   obtain ⟨q_91, hl_92, hd⟩ := bind_some hd
   refine k_cut (fun a w => ∃ q_91' : Unit, q_91 = .inl q_91' ∧ ∃ (G_141 : GH), GLe G_4 G_141 ∧ Fr a 61 [(1, (.pointer (some ⟨b_2, 0, none⟩)))] ∧ Mem W G_141 w (Itm.box b_2 29 [v0_0] :: H)) ?_ ?_
   ·refine k_block ?_
    refine k_loop (fun s_95 a w => ∃ x_98 : Int, x_98 = s_95 ∧ ∃ (G_97 : GH), GLe G_4 G_97 ∧ Fr a 61 [(1, (.pointer (some ⟨b_2, 0, none⟩))), (3, (.int .i64 (x0_0.length : Int))), (20, v0_0), (21, (.int .i64 (x0_0.length : Int))), (22, (.int .i64 x_98))] ∧ Mem W G_97 w (Itm.box b_2 29 [v0_0] :: H)) hl_92 ⟨_, rfl, _, (GLe.refl _), f.weak ⟨rfl, rfl, rfl, rfl, rfl, trivial⟩, m⟩ ?_
    clear hl_92 f m
    rintro s_95 o_96 hs_93 hq_94 a w ⟨x_98, rfl, G_97, hl_99, f, m⟩
    have h0_0 := RSl.mono (RSl.mono (RI.mono _)) _ _ _ _ hl_99 h0_0
    refine k_seq (k_region ?_)
    refine l_in f rfl rfl rfl b_lss fun a f => ?_
    refine l_nil (k_seq ?_)
    rcases cond_some hs_93 with ⟨hc_143, hs_93⟩ | ⟨hc_143, hs_93⟩
    ·refine k_true f rfl hc_143 ?_
     refine k_skip ?_
     refine k_seq (k_block (k_seq (k_region ?_)))
     refine l_mv f rfl rfl fun a f => ?_
     obtain ⟨e_144, he_145, hs_93⟩ := bind_some hs_93
     refine l_at T27 f rfl rfl rfl h0_0 he_145 fun p_146 c_147 a g_148 h_149 f => ?_
     refine l_loadAt m Pl31 f rfl rfl g_148 fun a f => ?_
     refine l_as f rfl rfl fun a f => ?_
     refine l_as f rfl rfl fun a f => ?_
     refine l_nil (k_seq (k_region ?_))
     refine l_mv f rfl rfl fun a f => ?_
     refine l_mv f rfl rfl fun a f => ?_
     obtain ⟨y_150, hy_151, hs_93⟩ := bind_some hs_93
     refine l_res f rfl rfl Tryd.call56 (Wk.impl_increasing m h_149 hy_151) fun v_155 G_152 Ho_156 w hl_153 m hQ_154 a f => ?_
     obtain ⟨rfl, rfl⟩ := hQ_154
     have h_149 := RSl.mono (RI.mono _) _ _ _ _ hl_153 h_149
     have h0_0 := RSl.mono (RSl.mono (RI.mono _)) _ _ _ _ hl_153 h0_0
     refine l_op f rfl rfl rfl (r_not (f.eval rfl)) fun a f => ?_
     refine l_mv f rfl rfl fun a f => ?_
     obtain ⟨b_174, hj_175, hs_93⟩ := bind_some hs_93
     refine l_cut 4 (fun a w => ∃ G_172, GLe G_152 G_172 ∧ Mem W G_172 w (Itm.box b_2 29 [v0_0] :: H) ∧ Fr a 61 [(1, (.pointer (some ⟨b_2, 0, none⟩))), (3, (.int .i64 (x0_0.length : Int))), (4, (.int .i64 x_98)), (5, c_147), (20, v0_0), (21, (.int .i64 (x0_0.length : Int))), (22, (.int .i64 x_98)), (27, c_147), (28, (.int .i64 (x0_0.length : Int))), (29, (.bool y_150)), (30, (.bool (!y_150))), (31, (.bool (!y_150))), (35, (.bool b_174))]) ?_ ?_
     ·rcases cond_some hj_175 with ⟨hc_157, hj_175⟩ | ⟨hc_157, hj_175⟩
      ·refine l_not' f rfl rfl rfl hc_157 fun a f => ?_
       refine l_not' f rfl rfl rfl hc_157 fun a f => ?_
       refine l_not' f rfl rfl rfl hc_157 fun a f => ?_
       refine l_op f rfl rfl rfl (r_pickT (f.eval rfl) hc_157 (f.eval rfl)) fun a f => ?_
       obtain rfl := sj hj_175
       exact ⟨_, (GLe.refl _), m, f.weak ⟨rfl, rfl, rfl, rfl, rfl, rfl, rfl, rfl, rfl, rfl, rfl, rfl, rfl, trivial⟩⟩
      ·refine l_run f rfl rfl hc_157 ?_
       refine l_mv f rfl rfl fun a f => ?_
       refine l_run f rfl rfl hc_157 ?_
       refine l_mv f rfl rfl fun a f => ?_
       refine l_run f rfl rfl hc_157 ?_
       obtain ⟨y_176, hy_177, hj_175⟩ := bind_some hj_175
       refine l_res f rfl rfl Tryd.call103 (Wk.slices_Contains_int64_int64 m h_149 hy_177) fun v_181 G_178 Ho_182 w hl_179 m hQ_180 a f => ?_
       obtain ⟨rfl, rfl⟩ := hQ_180
       have h_149 := RSl.mono (RI.mono _) _ _ _ _ hl_179 h_149
       have h0_0 := RSl.mono (RSl.mono (RI.mono _)) _ _ _ _ hl_179 h0_0
       refine l_op f rfl rfl rfl (r_pickF (f.eval rfl) hc_157 (f.eval rfl)) fun a f => ?_
       obtain rfl := sj hj_175
       exact ⟨_, hl_179, m, f.weak ⟨rfl, rfl, rfl, rfl, rfl, rfl, rfl, rfl, rfl, rfl, rfl, rfl, rfl, trivial⟩⟩
     ·rintro a w ⟨G_172, hl_173, m, f⟩
      have h_149 := RSl.mono (RI.mono _) _ _ _ _ hl_173 h_149
      have h0_0 := RSl.mono (RSl.mono (RI.mono _)) _ _ _ _ hl_173 h0_0
      refine l_nil ?_
      rcases cond_some hs_93 with ⟨hc_183, hs_93⟩ | ⟨hc_183, hs_93⟩
      ·refine k_true f rfl hc_183 ?_
       refine k_seq (k_region ?_)
       refine l_as f rfl rfl fun a f => ?_
       refine l_nil ?_
       refine k_ret ?_
       have m : Mem W G_172 w H := Mem.drop (H' := [Itm.box b_2 29 [v0_0]]) m
       obtain rfl := sj hs_93
       obtain rfl := hq_94 _ rfl
       obtain rfl := sj hd
       exact ⟨[(.bool false)], ⟨f.get _ _ rfl, trivial⟩, f.defers, _, [], (GLe.trans hl_5 (GLe.trans hl_99 (GLe.trans hl_153 hl_173))), m, rfl, rfl⟩
      ·refine k_false f rfl hc_183 ?_
       refine k_skip ?_
       refine k_region ?_
       refine l_in f rfl rfl rfl b_add fun a f => ?_
       refine l_mv f rfl rfl fun a f => ?_
       refine l_nil ?_
       obtain rfl := sj hs_93
       exact ⟨_, rfl, _, rfl, _, (GLe.trans hl_99 (GLe.trans hl_153 hl_173)), f.weak ⟨rfl, rfl, rfl, rfl, rfl, trivial⟩, m⟩
    ·refine k_false f rfl hc_143 ?_
     refine k_exit rfl ?_
     obtain rfl := sj hs_93
     obtain rfl := hq_94 _ rfl
     exact ⟨_, rfl, _, hl_99, f.weak ⟨rfl, trivial⟩, m⟩
   ·rintro a w ⟨_, rfl, G_141, hl_142, f, m⟩
    have h0_0 := RSl.mono (RSl.mono (RI.mono _)) _ _ _ _ hl_142 h0_0
    refine k_seq (k_seq (k_region ?_))
    refine l_fieldAddr Tryd.underlying29 rfl Tryd.sizeOf27 (by decide) f rfl rfl fun a f => ?_
    refine l_boxCell 0 0 m Pl27 f rfl rfl rfl rfl fun a f => ?_
    refine l_len Tryd.underlying27 f rfl rfl h0_0 fun a f => ?_
    refine l_mv f rfl rfl fun a f => ?_
    refine l_nil ?_
    obtain ⟨q_394, hl_395, hd⟩ := bind_some hd
    refine k_cut (fun a w => ∃ q_394' : Unit, q_394 = .inl q_394' ∧ ∃ (G_507 : GH), GLe G_141 G_507 ∧ Fr a 61 [] ∧ Mem W G_507 w (H)) ?_ ?_
    ·refine k_block ?_
     refine k_loop (fun s_398 a w => ∃ x_401 : Int, x_401 = s_398 ∧ ∃ (G_400 : GH), GLe G_141 G_400 ∧ Fr a 61 [(1, (.pointer (some ⟨b_2, 0, none⟩))), (38, v0_0), (39, (.int .i64 (x0_0.length : Int))), (40, (.int .i64 x_401))] ∧ Mem W G_400 w (Itm.box b_2 29 [v0_0] :: H)) hl_395 ⟨_, rfl, _, (GLe.refl _), f.weak ⟨rfl, rfl, rfl, rfl, trivial⟩, m⟩ ?_
     clear hl_395 f m
     rintro s_398 o_399 hs_396 hq_397 a w ⟨x_401, rfl, G_400, hl_402, f, m⟩
     have h0_0 := RSl.mono (RSl.mono (RI.mono _)) _ _ _ _ hl_402 h0_0
     refine k_seq (k_region ?_)
     refine l_in f rfl rfl rfl b_lss fun a f => ?_
     refine l_nil (k_seq ?_)
     rcases cond_some hs_396 with ⟨hc_509, hs_396⟩ | ⟨hc_509, hs_396⟩
     ·refine k_true f rfl hc_509 ?_
      refine k_skip ?_
      refine k_seq (k_block (k_seq (k_region ?_)))
      refine l_mv f rfl rfl fun a f => ?_
      obtain ⟨e_510, he_511, hs_396⟩ := bind_some hs_396
      refine l_at T27 f rfl rfl rfl h0_0 he_511 fun p_512 c_513 a g_514 h_515 f => ?_
      refine l_loadAt m Pl31 f rfl rfl g_514 fun a f => ?_
      refine l_as f rfl rfl fun a f => ?_
      refine l_as f rfl rfl fun a f => ?_
      refine l_nil (k_seq (k_region ?_))
      refine l_mv f rfl rfl fun a f => ?_
      refine l_len Tryd.underlying31 f rfl rfl h_515 fun a f => ?_
      refine l_mv f rfl rfl fun a f => ?_
      refine l_nil ?_
      obtain ⟨q_560, hl_561, hs_396⟩ := bind_some hs_396
      refine k_cut (fun a w => ∃ q_560' : Unit, q_560 = .inl q_560' ∧ ∃ (G_590 : GH), GLe G_400 G_590 ∧ Fr a 61 [(1, (.pointer (some ⟨b_2, 0, none⟩))), (38, v0_0), (39, (.int .i64 (x0_0.length : Int))), (40, (.int .i64 x_401))] ∧ Mem W G_590 w (Itm.box b_2 29 [v0_0] :: H)) ?_ ?_
      ·refine k_block ?_
       refine k_loop (fun s_564 a w => ∃ x_567 : Int, x_567 = s_564 ∧ ∃ (G_566 : GH), GLe G_400 G_566 ∧ Fr a 61 [(1, (.pointer (some ⟨b_2, 0, none⟩))), (6, (.int .i64 x_401)), (38, v0_0), (39, (.int .i64 (x0_0.length : Int))), (40, (.int .i64 x_401)), (45, c_513), (46, (.int .i64 (e_510.length : Int))), (47, (.int .i64 x_567))] ∧ Mem W G_566 w (Itm.box b_2 29 [v0_0] :: H)) hl_561 ⟨_, rfl, _, (GLe.refl _), f.weak ⟨rfl, rfl, rfl, rfl, rfl, rfl, rfl, rfl, trivial⟩, m⟩ ?_
       clear hl_561 f m
       rintro s_564 o_565 hs_562 hq_563 a w ⟨x_567, rfl, G_566, hl_568, f, m⟩
       have h0_0 := RSl.mono (RSl.mono (RI.mono _)) _ _ _ _ hl_568 h0_0
       have h_515 := RSl.mono (RI.mono _) _ _ _ _ hl_568 h_515
       refine k_seq (k_region ?_)
       refine l_in f rfl rfl rfl b_lss fun a f => ?_
       refine l_nil (k_seq ?_)
       rcases cond_some hs_562 with ⟨hc_592, hs_562⟩ | ⟨hc_592, hs_562⟩
       ·refine k_true f rfl hc_592 ?_
        refine k_skip ?_
        refine k_seq (k_block (k_seq (k_region ?_)))
        obtain ⟨e_593, he_594, hs_562⟩ := bind_some hs_562
        refine l_at T31 f rfl rfl rfl h_515 he_594 fun p_595 c_596 a g_597 h_598 f => ?_
        subst h_598
        refine l_loadAt m Pl2 f rfl rfl g_597 fun a f => ?_
        refine l_as f rfl rfl fun a f => ?_
        refine l_nil (k_seq (k_region ?_))
        refine l_fieldAddr Tryd.underlying29 rfl Tryd.sizeOf27 (by decide) f rfl rfl fun a f => ?_
        refine l_boxCell 0 0 m Pl27 f rfl rfl rfl rfl fun a f => ?_
        refine l_mv f rfl rfl fun a f => ?_
        obtain ⟨e_599, he_600, hs_562⟩ := bind_some hs_562
        refine l_at T27 f rfl rfl rfl h0_0 he_600 fun p_601 c_602 a g_603 h_604 f => ?_
        refine l_loadAt m Pl31 f rfl rfl g_603 fun a f => ?_
        refine l_mv f rfl rfl fun a f => ?_
        obtain ⟨y_605, hy_606, hs_562⟩ := bind_some hs_562
        refine l_res f rfl rfl Tryd.call103 (Wk.slices_Contains_int64_int64 m h_604 hy_606) fun v_610 G_607 Ho_611 w hl_608 m hQ_609 a f => ?_
        obtain ⟨rfl, rfl⟩ := hQ_609
        have h0_0 := RSl.mono (RSl.mono (RI.mono _)) _ _ _ _ hl_608 h0_0
        have h_515 := RSl.mono (RI.mono _) _ _ _ _ hl_608 h_515
        have g_603 := At.mono hl_608 g_603
        have h_604 := RSl.mono (RI.mono _) _ _ _ _ hl_608 h_604
        refine l_op f rfl rfl rfl (r_not (f.eval rfl)) fun a f => ?_
        refine l_nil ?_
        rcases cond_some hs_562 with ⟨hc_612, hs_562⟩ | ⟨hc_612, hs_562⟩
        ·refine k_true f rfl hc_612 ?_
         refine k_seq (k_region ?_)
         refine l_as f rfl rfl fun a f => ?_
         refine l_nil ?_
         refine k_ret ?_
         have m : Mem W G_607 w H := Mem.drop (H' := [Itm.box b_2 29 [v0_0]]) m
         obtain rfl := sj hs_562
         obtain rfl := hq_563 _ rfl
         obtain rfl := sj hs_396
         obtain rfl := hq_397 _ rfl
         obtain rfl := sj hd
         exact ⟨[(.bool false)], ⟨f.get _ _ rfl, trivial⟩, f.defers, _, [], (GLe.trans hl_5 (GLe.trans hl_142 (GLe.trans hl_402 (GLe.trans hl_568 hl_608)))), m, rfl, rfl⟩
        ·refine k_false f rfl hc_612 ?_
         refine k_skip ?_
         refine k_region ?_
         refine l_in f rfl rfl rfl b_add fun a f => ?_
         refine l_mv f rfl rfl fun a f => ?_
         refine l_nil ?_
         obtain rfl := sj hs_562
         exact ⟨_, rfl, _, rfl, _, (GLe.trans hl_568 hl_608), f.weak ⟨rfl, rfl, rfl, rfl, rfl, rfl, rfl, rfl, trivial⟩, m⟩
       ·refine k_false f rfl hc_592 ?_
        refine k_exit rfl ?_
        obtain rfl := sj hs_562
        obtain rfl := hq_563 _ rfl
        exact ⟨_, rfl, _, hl_568, f.weak ⟨rfl, rfl, rfl, rfl, trivial⟩, m⟩
      ·rintro a w ⟨_, rfl, G_590, hl_591, f, m⟩
       have h0_0 := RSl.mono (RSl.mono (RI.mono _)) _ _ _ _ hl_591 h0_0
       refine k_region ?_
       refine l_in f rfl rfl rfl b_add fun a f => ?_
       refine l_mv f rfl rfl fun a f => ?_
       refine l_nil ?_
       obtain rfl := sj hs_396
       exact ⟨_, rfl, _, rfl, _, (GLe.trans hl_402 hl_591), f.weak ⟨rfl, rfl, rfl, rfl, trivial⟩, m⟩
     ·refine k_false f rfl hc_509 ?_
      refine k_exit rfl ?_
      have m : Mem W G_400 w H := Mem.drop (H' := [Itm.box b_2 29 [v0_0]]) m
      obtain rfl := sj hs_396
      obtain rfl := hq_397 _ rfl
      exact ⟨_, rfl, _, hl_402, f.weak trivial, m⟩
    ·rintro a w ⟨_, rfl, G_507, hl_508, f, m⟩
     refine k_seq (k_region ?_)
     refine l_as f rfl rfl fun a f => ?_
     refine l_nil ?_
     refine k_ret ?_
     obtain rfl := sj hd
     exact ⟨[(.bool true)], ⟨f.get _ _ rfl, trivial⟩, f.defers, _, [], (GLe.trans hl_5 (GLe.trans hl_142 hl_508)), m, rfl, rfl⟩

theorem Wk.impl_maskOf {W w : World} {G : GH} {H : List Itm} {v0 : Value} {x0 : (List Int)} (m : Mem W G w (H)) (h0 : RSl (RI .i64) G v0 x0) {y : Int} (hd : D.impl_maskOf x0 = some y) :
  Calls Tryd.prog 101 #[v0] w (Res W G H (fun _ Ho v => Ho = [] ∧ v = (.int .u32 y))) := by
 refine calls_b (args := [v0]) (N := 18) [.tmp 2] Tryd.func101 rfl rfl (Nat.le_of_ble_eq_true rfl) rfl fun a f => ?_
 unfold D.impl_maskOf at hd
 refine k_seq (k_region ?_)
 refine l_as f rfl rfl fun a f => ?_
 refine l_nil (k_seq (k_region ?_))
 refine l_as f rfl rfl fun a f => ?_
 refine l_nil (k_seq (k_seq (k_region ?_)))
 refine l_mv f rfl rfl fun a f => ?_
 refine l_len Tryd.underlying31 f rfl rfl h0 fun a f => ?_
 refine l_mv f rfl rfl fun a f => ?_
 refine l_nil ?_
 obtain ⟨q_32, hl_33, hd⟩ := bind_some hd
 refine k_cut (fun a w => ∃ x_57 : Int, x_57 = q_32 ∧ ∃ (G_56 : GH), GLe G G_56 ∧ Fr a 18 [(3, (.int .u32 x_57))] ∧ Mem W G_56 w (H)) ?_ ?_
 ·refine k_block ?_
  refine k_loop (fun s_36 a w => ∃ x_39 : Int, ∃ x_40 : Int, (x_39, x_40) = s_36 ∧ ∃ (G_38 : GH), GLe G G_38 ∧ Fr a 18 [(3, (.int .u32 x_39)), (6, v0), (7, (.int .i64 (x0.length : Int))), (8, (.int .i64 x_40))] ∧ Mem W G_38 w (H)) hl_33 ⟨_, _, rfl, _, (GLe.refl _), f.weak ⟨rfl, rfl, rfl, rfl, trivial⟩, m⟩ ?_
  clear hl_33 f m
  rintro s_36 o_37 hs_34 hq_35 a w ⟨x_39, x_40, rfl, G_38, hl_41, f, m⟩
  have h0 := RSl.mono (RI.mono _) _ _ _ _ hl_41 h0
  refine k_seq (k_region ?_)
  refine l_in f rfl rfl rfl b_lss fun a f => ?_
  refine l_nil (k_seq ?_)
  rcases cond_some hs_34 with ⟨hc_59, hs_34⟩ | ⟨hc_59, hs_34⟩
  ·refine k_true f rfl hc_59 ?_
   refine k_skip ?_
   refine k_seq (k_block (k_seq (k_region ?_)))
   obtain ⟨e_60, he_61, hs_34⟩ := bind_some hs_34
   refine l_at T31 f rfl rfl rfl h0 he_61 fun p_62 c_63 a g_64 h_65 f => ?_
   subst h_65
   refine l_loadAt m Pl2 f rfl rfl g_64 fun a f => ?_
   refine l_as f rfl rfl fun a f => ?_
   refine l_nil (k_region ?_)
   refine l_mv f rfl rfl fun a f => ?_
   refine l_mv f rfl rfl fun a f => ?_
   obtain ⟨y_66, hy_67, hs_34⟩ := bind_some hs_34
   refine l_res f rfl rfl Tryd.call48 (Wk.impl_one m  hy_67) fun v_71 G_68 Ho_72 w hl_69 m hQ_70 a f => ?_
   obtain ⟨rfl, rfl⟩ := hQ_70
   have h0 := RSl.mono (RI.mono _) _ _ _ _ hl_69 h0
   refine l_in f rfl rfl rfl b_or fun a f => ?_
   refine l_as f rfl rfl fun a f => ?_
   refine l_nil (k_region ?_)
   refine l_in f rfl rfl rfl b_add fun a f => ?_
   refine l_mv f rfl rfl fun a f => ?_
   refine l_nil ?_
   obtain rfl := sj hs_34
   exact ⟨_, rfl, _, _, rfl, _, (GLe.trans hl_41 hl_69), f.weak ⟨rfl, rfl, rfl, rfl, trivial⟩, m⟩
  ·refine k_false f rfl hc_59 ?_
   refine k_exit rfl ?_
   obtain rfl := sj hs_34
   obtain rfl := hq_35 _ rfl
   exact ⟨_, rfl, _, hl_41, f.weak ⟨rfl, trivial⟩, m⟩
 ·rintro a w ⟨x_57, rfl, G_56, hl_58, f, m⟩
  refine k_seq (k_region ?_)
  refine l_mv f rfl rfl fun a f => ?_
  refine l_as f rfl rfl fun a f => ?_
  refine l_nil ?_
  refine k_ret ?_
  obtain rfl := sj hd
  exact ⟨[(.int .u32 x_57)], ⟨f.get _ _ rfl, trivial⟩, f.defers, _, [], hl_58, m, rfl, rfl⟩

theorem Wk.impl_netsOf {W w : World} {G : GH} {H : List Itm} {v0_0 : Value} {x0_0 : (List (List Int))} (m : Mem W G w (H)) (h0_0 : RSl (RSl (RI .i64)) G v0_0 x0_0) {y : ((List Int))} (hd : D.impl_netsOf x0_0 = some y) :
  Calls Tryd.prog 46 #[(.agg #[v0_0])] w (Res W G H (fun G' Ho v => ∃ r0 : Value, ∃ i0 : Itm, Ho = [i0] ∧ r0 = v ∧ Ow (RI .u32) 66 G' i0 r0 y)) := by
 refine calls_b (args := [(.agg #[v0_0])]) (N := 21) [.tmp 2] Tryd.func46 rfl rfl (Nat.le_of_ble_eq_true rfl) rfl fun a f => ?_
 unfold D.impl_netsOf at hd
 refine k_seq (k_region ?_)
 refine l_box (cs := [v0_0]) m f rfl rfl rfl fun b_2 w a m f => ?_
 refine l_as f rfl rfl fun a f => ?_
 refine l_nil (k_seq (k_region ?_))
 refine l_slit (R := (RI .u32)) (xs := ([] : List Int)) (RI.one _) m T61 f rfl rfl rfl (by decide) (All2.nil _) fun it_3 v_4 w a m o_5 f => ?_
 refine l_as f rfl rfl fun a f => ?_
 refine l_nil (k_seq (k_seq (k_region ?_)))
 refine l_fieldAddr Tryd.underlying29 rfl Tryd.sizeOf27 (by decide) f rfl rfl fun a f => ?_
 refine l_boxCell 1 0 m Pl27 f rfl rfl rfl rfl fun a f => ?_
 refine l_len Tryd.underlying27 f rfl rfl h0_0 fun a f => ?_
 refine l_mv f rfl rfl fun a f => ?_
 refine l_nil ?_
 obtain ⟨q_62, hl_63, hd⟩ := bind_some hd
 refine k_cut (fun a w => ∃ l_101 : List Int, l_101 = q_62 ∧ ∃ (G_100 : GH) (v_102 : Value) (it_103 : Itm), GLe G G_100 ∧ Fr a 21 [(3, v_102)] ∧ Mem W G_100 w (it_103 :: H) ∧ Ow (RI .u32) 66 G_100 it_103 v_102 l_101) ?_ ?_
 ·refine k_block ?_
  have m := m.eraseAt 1
  refine k_loop (fun s_66 a w => ∃ l_69 : List Int, ∃ x_74 : Int, (l_69, x_74) = s_66 ∧ ∃ (G_68 : GH) (v_70 : Value) (it_71 : Itm), GLe G G_68 ∧ Fr a 21 [(3, v_70), (8, v0_0), (9, (.int .i64 (x0_0.length : Int))), (10, (.int .i64 x_74))] ∧ Mem W G_68 w (it_71 :: H) ∧ Ow (RI .u32) 66 G_68 it_71 v_70 l_69) hl_63 ⟨_, _, rfl, _, v_4, it_3, (GLe.refl _), f.weak ⟨rfl, rfl, rfl, rfl, trivial⟩, m, o_5⟩ ?_
  clear hl_63 f m
  rintro s_66 o_67 hs_64 hq_65 a w ⟨l_69, x_74, rfl, G_68, v_70, it_71, hl_75, f, m, o_72⟩
  have h0_0 := RSl.mono (RSl.mono (RI.mono _)) _ _ _ _ hl_75 h0_0
  refine k_seq (k_region ?_)
  refine l_in f rfl rfl rfl b_lss fun a f => ?_
  refine l_nil (k_seq ?_)
  rcases cond_some hs_64 with ⟨hc_107, hs_64⟩ | ⟨hc_107, hs_64⟩
  ·refine k_true f rfl hc_107 ?_
   refine k_skip ?_
   refine k_seq (k_block (k_seq (k_region ?_)))
   obtain ⟨e_108, he_109, hs_64⟩ := bind_some hs_64
   refine l_at T27 f rfl rfl rfl h0_0 he_109 fun p_110 c_111 a g_112 h_113 f => ?_
   refine l_loadAt m Pl31 f rfl rfl g_112 fun a f => ?_
   refine l_as f rfl rfl fun a f => ?_
   refine l_nil (k_region ?_)
   refine l_mv f rfl rfl fun a f => ?_
   refine l_mv f rfl rfl fun a f => ?_
   obtain ⟨y_114, hy_115, hs_64⟩ := bind_some hs_64
   refine l_res f rfl rfl Tryd.call101 (Wk.impl_maskOf m h_113 hy_115) fun v_119 G_116 Ho_120 w hl_117 m hQ_118 a f => ?_
   obtain ⟨rfl, rfl⟩ := hQ_118
   have h_113 := RSl.mono (RI.mono _) _ _ _ _ hl_117 h_113
   have h0_0 := RSl.mono (RSl.mono (RI.mono _)) _ _ _ _ hl_117 h0_0
   have o_72 := Ow.mono (RI.mono _) hl_117 o_72
   refine l_slit (R := (RI .u32)) (xs := ([y_114] : List Int)) (RI.one _) m T61 f rfl rfl rfl (by decide) (All2.cons rfl (All2.nil _)) fun it_121 v_122 w a m o_123 f => ?_
   obtain ⟨l_125, hx_126, hs_64⟩ := bind_some hs_64
   refine l_append (RI.one _) 1 m o_72 rfl T61 rfl (by decide) f rfl rfl rfl (Ow.src (j := 0) o_123 m rfl) hx_126 fun it_127 v_128 w a m o_129 f => ?_
   refine l_as f rfl rfl fun a f => ?_
   refine l_nil (k_region ?_)
   refine l_in f rfl rfl rfl b_add fun a f => ?_
   refine l_mv f rfl rfl fun a f => ?_
   refine l_nil ?_
   have m := m.front 1 rfl
   have m := m.eraseAt 1
   obtain rfl := sj hs_64
   exact ⟨_, rfl, _, _, rfl, _, v_128, it_127, (GLe.trans hl_75 hl_117), f.weak ⟨rfl, rfl, rfl, rfl, trivial⟩, m, o_129⟩
  ·refine k_false f rfl hc_107 ?_
   refine k_exit rfl ?_
   obtain rfl := sj hs_64
   obtain rfl := hq_65 _ rfl
   exact ⟨_, rfl, _, v_70, it_71, hl_75, f.weak ⟨rfl, trivial⟩, m, o_72⟩
 ·rintro a w ⟨l_101, rfl, G_100, v_102, it_103, hl_106, f, m, o_104⟩
  refine k_seq (k_region ?_)
  refine l_mv f rfl rfl fun a f => ?_
  refine l_as f rfl rfl fun a f => ?_
  refine l_nil ?_
  refine k_ret ?_
  obtain rfl := sj hd
  exact ⟨[v_102], ⟨f.get _ _ rfl, trivial⟩, f.defers, _, [it_103], hl_106, m, _, _, rfl, rfl, o_104⟩

theorem Wk.impl_firstOf {W w : World} {G : GH} {H : List Itm} {x0 : Int} (m : Mem W G w (H))  {y : Int} (hd : D.impl_firstOf x0 = some y) :
  Calls Tryd.prog 117 #[(.int .i64 x0)] w (Res W G H (fun _ Ho v => Ho = [] ∧ v = (.int .u32 y))) := by
 refine calls_b (args := [(.int .i64 x0)]) (N := 6) [.tmp 2] Tryd.func117 rfl rfl (Nat.le_of_ble_eq_true rfl) rfl fun a f => ?_
 unfold D.impl_firstOf at hd
 refine k_seq (k_region ?_)
 refine l_as f rfl rfl fun a f => ?_
 refine l_nil (k_seq (k_region ?_))
 refine l_mv f rfl rfl fun a f => ?_
 obtain ⟨hn_1, hd⟩ := cond_none hd
 refine l_op f rfl rfl rfl (r_shl (f.eval rfl) (f.eval rfl) hn_1) fun a f => ?_
 refine l_in f rfl rfl rfl b_sub fun a f => ?_
 refine l_as f rfl rfl fun a f => ?_
 refine l_nil ?_
 refine k_ret ?_
 obtain rfl := sj hd
 exact ⟨[(.int .u32 (IntKind.u32.wrap ((ishl .u32 1 x0) - 1)))], ⟨f.get _ _ rfl, trivial⟩, f.defers, _, [], (GLe.refl _), m, rfl, rfl⟩

theorem Wk.impl_nets_all {W w : World} {G : GH} {H : List Itm} {v0 : Value} {x0 : (List Int)} (m : Mem W G w (H)) (h0 : RSl (RI .u32) G v0 x0) {y : Int} (hd : D.impl_nets_all x0 = some y) :
  Calls Tryd.prog 84 #[v0] w (Res W G H (fun _ Ho v => Ho = [] ∧ v = (.int .u32 y))) := by
 refine calls_b (args := [v0]) (N := 6) [.tmp 2] Tryd.func84 rfl rfl (Nat.le_of_ble_eq_true rfl) rfl fun a f => ?_
 unfold D.impl_nets_all at hd
 refine k_seq (k_region ?_)
 refine l_as f rfl rfl fun a f => ?_
 refine l_nil (k_seq (k_region ?_))
 refine l_mv f rfl rfl fun a f => ?_
 refine l_len Tryd.underlying61 f rfl rfl h0 fun a f => ?_
 obtain ⟨y_1, hy_2, hd⟩ := bind_some hd
 refine l_res f rfl rfl Tryd.call117 (Wk.impl_firstOf m  hy_2) fun v_6 G_3 Ho_7 w hl_4 m hQ_5 a f => ?_
 obtain ⟨rfl, rfl⟩ := hQ_5
 have h0 := RSl.mono (RI.mono _) _ _ _ _ hl_4 h0
 refine l_as f rfl rfl fun a f => ?_
 refine l_nil ?_
 refine k_ret ?_
 obtain rfl := sj hd
 exact ⟨[(.int .u32 y_1)], ⟨f.get _ _ rfl, trivial⟩, f.defers, _, [], hl_4, m, rfl, rfl⟩

theorem Wk.impl_canPrune {W w : World} {G : GH} {H : List Itm} {v0 : Value} {x0 : (List Int)} {x1 : Int} {x2 : Int} {x3 : Int} {x4 : Int} (m : Mem W G w (H)) (h0 : RSl (RI .u32) G v0 x0) {y : Bool} (hd : D.impl_canPrune x0 x1 x2 x3 x4 = some y) :
  Calls Tryd.prog 113 #[v0, (.int .u32 x1), (.int .i64 x2), (.int .i64 x3), (.int .i64 x4)] w (Res W G H (fun _ Ho v => Ho = [] ∧ v = (.bool y))) := by
 refine calls_b (args := [v0, (.int .u32 x1), (.int .i64 x2), (.int .i64 x3), (.int .i64 x4)]) (N := 78) [.tmp 10] Tryd.func113 rfl rfl (Nat.le_of_ble_eq_true rfl) rfl fun a f => ?_
 unfold D.impl_canPrune at hd
 refine k_seq (k_region ?_)
 refine l_as f rfl rfl fun a f => ?_
 refine l_nil (k_seq (k_region ?_))
 refine l_mv f rfl rfl fun a f => ?_
 refine l_mv f rfl rfl fun a f => ?_
 obtain ⟨e_1, he_2, hd⟩ := bind_some hd
 refine l_at T61 f rfl rfl rfl h0 he_2 fun p_3 c_4 a g_5 h_6 f => ?_
 subst h_6
 refine l_loadAt m Pl66 f rfl rfl g_5 fun a f => ?_
 refine l_mv f rfl rfl fun a f => ?_
 refine l_in f rfl rfl rfl b_and fun a f => ?_
 refine l_as f rfl rfl fun a f => ?_
 refine l_nil (k_seq (k_seq (k_region ?_)))
 refine l_mv f rfl rfl fun a f => ?_
 refine l_in f rfl rfl rfl b_eql fun a f => ?_
 refine l_nil ?_
 rcases cond_some hd with ⟨hc_7, hd⟩ | ⟨hc_7, hd⟩
 ·refine k_true f rfl hc_7 ?_
  refine k_seq (k_region ?_)
  refine l_mv f rfl rfl fun a f => ?_
  refine l_in f rfl rfl rfl b_eql fun a f => ?_
  refine l_mv f rfl rfl fun a f => ?_
  refine l_cut 3 (fun a w => ∃ G_9, GLe G G_9 ∧ Mem W G_9 w (H) ∧ Fr a 78 [(0, v0), (1, (.int .u32 x1)), (2, (.int .i64 x2)), (3, (.int .i64 x3)), (4, (.int .i64 x4)), (11, (.int .u32 (iand .u32 e_1 x1))), (20, (.bool (x4 == 1))), (21, (.int .i64 x3)), (22, (.bool (x3 == (-1)))), (23, (.bool (x3 == (-1)))), (26, (.bool ((x3 == (-1)) && ((iand .u32 e_1 x1) == 0))))]) ?_ ?_
  ·rcases Bool.eq_false_or_eq_true (x3 == (-1)) with hc_8 | hc_8
   ·refine l_run f rfl rfl hc_8 ?_
    refine l_mv f rfl rfl fun a f => ?_
    refine l_run f rfl rfl hc_8 ?_
    refine l_in f rfl rfl rfl b_eql fun a f => ?_
    refine l_op f rfl rfl rfl (r_pickT (f.eval rfl) hc_8 (f.eval rfl)) fun a f => ?_
    exact ⟨_, (GLe.refl _), m, f.weak ⟨rfl, rfl, rfl, rfl, rfl, rfl, rfl, rfl, rfl, rfl, by rw [hc_8]; rfl, trivial⟩⟩
   ·refine l_not' f rfl rfl rfl hc_8 fun a f => ?_
    refine l_not' f rfl rfl rfl hc_8 fun a f => ?_
    refine l_op f rfl rfl rfl (r_pickF (f.eval rfl) hc_8 (f.eval rfl)) fun a f => ?_
    exact ⟨_, (GLe.refl _), m, f.weak ⟨rfl, rfl, rfl, rfl, rfl, rfl, rfl, rfl, rfl, rfl, by rw [hc_8]; rfl, trivial⟩⟩
  ·rintro a w ⟨G_9, hl_10, m, f⟩
   have h0 := RSl.mono (RI.mono _) _ _ _ _ hl_10 h0
   refine l_as f rfl rfl fun a f => ?_
   refine l_nil ?_
   refine k_ret ?_
   obtain rfl := sj hd
   exact ⟨[(.bool ((x3 == (-1)) && ((iand .u32 e_1 x1) == 0)))], ⟨f.get _ _ rfl, trivial⟩, f.defers, _, [], hl_10, m, rfl, rfl⟩
 ·refine k_false f rfl hc_7 ?_
  refine k_skip ?_
  refine k_seq (k_seq (k_region ?_))
  refine l_mv f rfl rfl fun a f => ?_
  refine l_mv f rfl rfl fun a f => ?_
  refine l_len Tryd.underlying61 f rfl rfl h0 fun a f => ?_
  refine l_in f rfl rfl rfl b_sub fun a f => ?_
  obtain ⟨y_11, hy_12, hd⟩ := bind_some hd
  refine l_res f rfl rfl Tryd.call75 (Wk.impl_inRange m  hy_12) fun v_16 G_13 Ho_17 w hl_14 m hQ_15 a f => ?_
  obtain ⟨rfl, rfl⟩ := hQ_15
  have h0 := RSl.mono (RI.mono _) _ _ _ _ hl_14 h0
  refine l_op f rfl rfl rfl (r_not (f.eval rfl)) fun a f => ?_
  refine l_mv f rfl rfl fun a f => ?_
  refine l_cut 4 (fun a w => ∃ G_19, GLe G_13 G_19 ∧ Mem W G_19 w (H) ∧ Fr a 78 [(0, v0), (1, (.int .u32 x1)), (2, (.int .i64 x2)), (3, (.int .i64 x3)), (4, (.int .i64 x4)), (11, (.int .u32 (iand .u32 e_1 x1))), (20, (.bool (x4 == 1))), (27, (.int .i64 x3)), (28, v0), (29, (.int .i64 (x0.length : Int))), (30, (.int .i64 (IntKind.i64.wrap ((x0.length : Int) - 1)))), (31, (.bool y_11)), (32, (.bool (!y_11))), (33, (.bool (!y_11))), (37, (.bool ((!y_11) || (x3 == x2))))]) ?_ ?_
  ·rcases Bool.eq_false_or_eq_true (!y_11) with hc_18 | hc_18
   ·refine l_not' f rfl rfl rfl hc_18 fun a f => ?_
    refine l_not' f rfl rfl rfl hc_18 fun a f => ?_
    refine l_not' f rfl rfl rfl hc_18 fun a f => ?_
    refine l_op f rfl rfl rfl (r_pickT (f.eval rfl) hc_18 (f.eval rfl)) fun a f => ?_
    exact ⟨_, (GLe.refl _), m, f.weak ⟨rfl, rfl, rfl, rfl, rfl, rfl, rfl, rfl, rfl, rfl, rfl, rfl, rfl, rfl, by rw [hc_18]; rfl, trivial⟩⟩
   ·refine l_run f rfl rfl hc_18 ?_
    refine l_mv f rfl rfl fun a f => ?_
    refine l_run f rfl rfl hc_18 ?_
    refine l_mv f rfl rfl fun a f => ?_
    refine l_run f rfl rfl hc_18 ?_
    refine l_in f rfl rfl rfl b_eql fun a f => ?_
    refine l_op f rfl rfl rfl (r_pickF (f.eval rfl) hc_18 (f.eval rfl)) fun a f => ?_
    exact ⟨_, (GLe.refl _), m, f.weak ⟨rfl, rfl, rfl, rfl, rfl, rfl, rfl, rfl, rfl, rfl, rfl, rfl, rfl, rfl, by rw [hc_18]; rfl, trivial⟩⟩
  ·rintro a w ⟨G_19, hl_20, m, f⟩
   have h0 := RSl.mono (RI.mono _) _ _ _ _ hl_20 h0
   refine l_mv f rfl rfl fun a f => ?_
   obtain ⟨b_38, hj_39, hd⟩ := bind_some hd
   refine l_cut 5 (fun a w => ∃ G_36, GLe G_19 G_36 ∧ Mem W G_36 w (H) ∧ Fr a 78 [(0, v0), (1, (.int .u32 x1)), (2, (.int .i64 x2)), (3, (.int .i64 x3)), (4, (.int .i64 x4)), (11, (.int .u32 (iand .u32 e_1 x1))), (20, (.bool (x4 == 1))), (27, (.int .i64 x3)), (28, v0), (29, (.int .i64 (x0.length : Int))), (30, (.int .i64 (IntKind.i64.wrap ((x0.length : Int) - 1)))), (31, (.bool y_11)), (32, (.bool (!y_11))), (33, (.bool (!y_11))), (37, (.bool ((!y_11) || (x3 == x2)))), (38, (.bool ((!y_11) || (x3 == x2)))), (43, (.bool b_38))]) ?_ ?_
   ·rcases cond_some hj_39 with ⟨hc_21, hj_39⟩ | ⟨hc_21, hj_39⟩
    ·refine l_not' f rfl rfl rfl hc_21 fun a f => ?_
     refine l_not' f rfl rfl rfl hc_21 fun a f => ?_
     refine l_not' f rfl rfl rfl hc_21 fun a f => ?_
     refine l_not' f rfl rfl rfl hc_21 fun a f => ?_
     refine l_op f rfl rfl rfl (r_pickT (f.eval rfl) hc_21 (f.eval rfl)) fun a f => ?_
     obtain rfl := sj hj_39
     exact ⟨_, (GLe.refl _), m, f.weak ⟨rfl, rfl, rfl, rfl, rfl, rfl, rfl, rfl, rfl, rfl, rfl, rfl, rfl, rfl, rfl, rfl, rfl, trivial⟩⟩
    ·refine l_run f rfl rfl hc_21 ?_
     refine l_mv f rfl rfl fun a f => ?_
     refine l_run f rfl rfl hc_21 ?_
     refine l_mv f rfl rfl fun a f => ?_
     refine l_run f rfl rfl hc_21 ?_
     obtain ⟨y_40, hy_41, hj_39⟩ := bind_some hj_39
     refine l_res f rfl rfl Tryd.call76 (Wk.impl_vset_has m  hy_41) fun v_45 G_42 Ho_46 w hl_43 m hQ_44 a f => ?_
     obtain ⟨rfl, rfl⟩ := hQ_44
     have h0 := RSl.mono (RI.mono _) _ _ _ _ hl_43 h0
     refine l_run f rfl rfl hc_21 ?_
     refine l_op f rfl rfl rfl (r_not (f.eval rfl)) fun a f => ?_
     refine l_op f rfl rfl rfl (r_pickF (f.eval rfl) hc_21 (f.eval rfl)) fun a f => ?_
     obtain rfl := sj hj_39
     exact ⟨_, hl_43, m, f.weak ⟨rfl, rfl, rfl, rfl, rfl, rfl, rfl, rfl, rfl, rfl, rfl, rfl, rfl, rfl, rfl, rfl, rfl, trivial⟩⟩
   ·rintro a w ⟨G_36, hl_37, m, f⟩
    have h0 := RSl.mono (RI.mono _) _ _ _ _ hl_37 h0
    refine l_nil ?_
    rcases cond_some hd with ⟨hc_47, hd⟩ | ⟨hc_47, hd⟩
    ·refine k_true f rfl hc_47 ?_
     refine k_seq (k_region ?_)
     refine l_as f rfl rfl fun a f => ?_
     refine l_nil ?_
     refine k_ret ?_
     obtain rfl := sj hd
     exact ⟨[(.bool false)], ⟨f.get _ _ rfl, trivial⟩, f.defers, _, [], (GLe.trans hl_14 (GLe.trans hl_20 hl_37)), m, rfl, rfl⟩
    ·refine k_false f rfl hc_47 ?_
     refine k_skip ?_
     refine k_seq (k_region ?_)
     refine l_mv f rfl rfl fun a f => ?_
     refine l_mv f rfl rfl fun a f => ?_
     obtain ⟨e_48, he_49, hd⟩ := bind_some hd
     refine l_at T61 f rfl rfl rfl h0 he_49 fun p_50 c_51 a g_52 h_53 f => ?_
     subst h_53
     refine l_loadAt m Pl66 f rfl rfl g_52 fun a f => ?_
     refine l_mv f rfl rfl fun a f => ?_
     refine l_in f rfl rfl rfl b_and fun a f => ?_
     refine l_as f rfl rfl fun a f => ?_
     refine l_nil (k_seq (k_seq (k_region ?_)))
     refine l_mv f rfl rfl fun a f => ?_
     refine l_nil (k_block (k_seq (k_region ?_)))
     refine l_in f rfl rfl rfl b_eql fun a f => ?_
     refine l_as f rfl rfl fun a f => ?_
     refine l_nil ?_
     rcases cond_some hd with ⟨hc_54, hd⟩ | ⟨hc_54, hd⟩
     ·refine k_true f rfl hc_54 ?_
      refine k_seq (k_region ?_)
      refine l_mv f rfl rfl fun a f => ?_
      refine l_mv f rfl rfl fun a f => ?_
      obtain ⟨y_55, hy_56, hd⟩ := bind_some hd
      refine l_res f rfl rfl Tryd.call48 (Wk.impl_one m  hy_56) fun v_60 G_57 Ho_61 w hl_58 m hQ_59 a f => ?_
      obtain ⟨rfl, rfl⟩ := hQ_59
      have h0 := RSl.mono (RI.mono _) _ _ _ _ hl_58 h0
      refine l_in f rfl rfl rfl b_eql fun a f => ?_
      refine l_as f rfl rfl fun a f => ?_
      refine l_nil ?_
      refine k_ret ?_
      obtain rfl := sj hd
      exact ⟨[(.bool ((iand .u32 e_1 x1) == y_55))], ⟨f.get _ _ rfl, trivial⟩, f.defers, _, [], (GLe.trans hl_14 (GLe.trans hl_20 (GLe.trans hl_37 hl_58))), m, rfl, rfl⟩
     ·refine k_false f rfl hc_54 ?_
      refine k_seq (k_region ?_)
      refine l_in f rfl rfl rfl b_eql fun a f => ?_
      refine l_as f rfl rfl fun a f => ?_
      refine l_nil ?_
      rcases cond_some hd with ⟨hc_62, hd⟩ | ⟨hc_62, hd⟩
      ·refine k_true f rfl hc_62 ?_
       refine k_seq (k_region ?_)
       refine l_mv f rfl rfl fun a f => ?_
       refine l_mv f rfl rfl fun a f => ?_
       refine l_in f rfl rfl rfl b_eql fun a f => ?_
       refine l_as f rfl rfl fun a f => ?_
       refine l_nil ?_
       refine k_ret ?_
       obtain rfl := sj hd
       exact ⟨[(.bool ((iand .u32 e_1 x1) == (iand .u32 e_48 x1)))], ⟨f.get _ _ rfl, trivial⟩, f.defers, _, [], (GLe.trans hl_14 (GLe.trans hl_20 hl_37)), m, rfl, rfl⟩
      ·refine k_false f rfl hc_62 ?_
       refine k_seq (k_region ?_)
       refine l_in f rfl rfl rfl b_eql fun a f => ?_
       refine l_as f rfl rfl fun a f => ?_
       refine l_nil ?_
       rcases cond_some hd with ⟨hc_63, hd⟩ | ⟨hc_63, hd⟩
       ·refine k_true f rfl hc_63 ?_
        refine k_seq (k_region ?_)
        refine l_mv f rfl rfl fun a f => ?_
        refine l_mv f rfl rfl fun a f => ?_
        obtain ⟨y_64, hy_65, hd⟩ := bind_some hd
        refine l_res f rfl rfl Tryd.call76 (Wk.impl_vset_has m  hy_65) fun v_69 G_66 Ho_70 w hl_67 m hQ_68 a f => ?_
        obtain ⟨rfl, rfl⟩ := hQ_68
        have h0 := RSl.mono (RI.mono _) _ _ _ _ hl_67 h0
        refine l_mv f rfl rfl fun a f => ?_
        obtain ⟨b_102, hj_103, hd⟩ := bind_some hd
        refine l_cut 10 (fun a w => ∃ G_100, GLe G_66 G_100 ∧ Mem W G_100 w (H) ∧ Fr a 78 [(0, v0), (1, (.int .u32 x1)), (2, (.int .i64 x2)), (3, (.int .i64 x3)), (4, (.int .i64 x4)), (11, (.int .u32 (iand .u32 e_1 x1))), (12, (.int .u32 (iand .u32 e_48 x1))), (62, (.bool (x4 == 4))), (64, (.int .u32 (iand .u32 e_1 x1))), (65, (.int .i64 x3)), (66, (.bool y_64)), (67, (.bool y_64)), (77, (.bool b_102))]) ?_ ?_
        ·rcases cond_some hj_103 with ⟨hc_71, hj_103⟩ | ⟨hc_71, hj_103⟩
         ·refine l_run f rfl rfl hc_71 ?_
          refine l_mv f rfl rfl fun a f => ?_
          refine l_run f rfl rfl hc_71 ?_
          refine l_mv f rfl rfl fun a f => ?_
          refine l_run f rfl rfl hc_71 ?_
          obtain ⟨y_104, hy_105, hj_103⟩ := bind_some hj_103
          refine l_res f rfl rfl Tryd.call48 (Wk.impl_one m  hy_105) fun v_109 G_106 Ho_110 w hl_107 m hQ_108 a f => ?_
          obtain ⟨rfl, rfl⟩ := hQ_108
          have h0 := RSl.mono (RI.mono _) _ _ _ _ hl_107 h0
          refine l_run f rfl rfl hc_71 ?_
          refine l_in f rfl rfl rfl b_andNot fun a f => ?_
          refine l_run f rfl rfl hc_71 ?_
          refine l_mv f rfl rfl fun a f => ?_
          refine l_run f rfl rfl hc_71 ?_
          refine l_mv f rfl rfl fun a f => ?_
          refine l_run f rfl rfl hc_71 ?_
          obtain ⟨y_111, hy_112, hj_103⟩ := bind_some hj_103
          refine l_res f rfl rfl Tryd.call48 (Wk.impl_one m  hy_112) fun v_116 G_113 Ho_117 w hl_114 m hQ_115 a f => ?_
          obtain ⟨rfl, rfl⟩ := hQ_115
          have h0 := RSl.mono (RI.mono _) _ _ _ _ hl_114 h0
          refine l_run f rfl rfl hc_71 ?_
          refine l_in f rfl rfl rfl b_andNot fun a f => ?_
          refine l_run f rfl rfl hc_71 ?_
          refine l_in f rfl rfl rfl b_eql fun a f => ?_
          refine l_op f rfl rfl rfl (r_pickT (f.eval rfl) hc_71 (f.eval rfl)) fun a f => ?_
          obtain rfl := sj hj_103
          exact ⟨_, (GLe.trans hl_107 hl_114), m, f.weak ⟨rfl, rfl, rfl, rfl, rfl, rfl, rfl, rfl, rfl, rfl, rfl, rfl, rfl, trivial⟩⟩
         ·refine l_not' f rfl rfl rfl hc_71 fun a f => ?_
          refine l_not' f rfl rfl rfl hc_71 fun a f => ?_
          refine l_not' f rfl rfl rfl hc_71 fun a f => ?_
          refine l_not' f rfl rfl rfl hc_71 fun a f => ?_
          refine l_not' f rfl rfl rfl hc_71 fun a f => ?_
          refine l_not' f rfl rfl rfl hc_71 fun a f => ?_
          refine l_not' f rfl rfl rfl hc_71 fun a f => ?_
          refine l_not' f rfl rfl rfl hc_71 fun a f => ?_
          refine l_not' f rfl rfl rfl hc_71 fun a f => ?_
          refine l_op f rfl rfl rfl (r_pickF (f.eval rfl) hc_71 (f.eval rfl)) fun a f => ?_
          obtain rfl := sj hj_103
          exact ⟨_, (GLe.refl _), m, f.weak ⟨rfl, rfl, rfl, rfl, rfl, rfl, rfl, rfl, rfl, rfl, rfl, rfl, rfl, trivial⟩⟩
        ·rintro a w ⟨G_100, hl_101, m, f⟩
         have h0 := RSl.mono (RI.mono _) _ _ _ _ hl_101 h0
         refine l_as f rfl rfl fun a f => ?_
         refine l_nil ?_
         refine k_ret ?_
         obtain rfl := sj hd
         exact ⟨[(.bool b_102)], ⟨f.get _ _ rfl, trivial⟩, f.defers, _, [], (GLe.trans hl_14 (GLe.trans hl_20 (GLe.trans hl_37 (GLe.trans hl_67 hl_101)))), m, rfl, rfl⟩
       ·refine k_false f rfl hc_63 ?_
        refine k_skip ?_
        refine k_seq (k_region ?_)
        refine l_as f rfl rfl fun a f => ?_
        refine l_nil ?_
        refine k_ret ?_
        obtain rfl := sj hd
        exact ⟨[(.bool false)], ⟨f.get _ _ rfl, trivial⟩, f.defers, _, [], (GLe.trans hl_14 (GLe.trans hl_20 hl_37)), m, rfl, rfl⟩

theorem Wk.impl_PrunesOk {W w : World} {G : GH} {H : List Itm} {v0_0 : Value} {v1 : Value} {x0_0 : (List (List Int))} {x1 : (List (Int × Int × Int))} (m : Mem W G w (H)) (h0_0 : RSl (RSl (RI .i64)) G v0_0 x0_0) (h1 : RSr P3 G v1 x1) {y : Bool} (hd : D.impl_PrunesOk x0_0 x1 = some y) :
  Calls Tryd.prog 79 #[(.agg #[v0_0]), v1] w (Res W G H (fun _ Ho v => Ho = [] ∧ v = (.bool y))) := by
 refine calls_b (args := [(.agg #[v0_0]), v1]) (N := 59) [.tmp 4] Tryd.func79 rfl rfl (Nat.le_of_ble_eq_true rfl) rfl fun a f => ?_
 unfold D.impl_PrunesOk at hd
 refine k_seq (k_region ?_)
 refine l_box (cs := [v0_0]) m f rfl rfl rfl fun b_2 w a m f => ?_
 refine l_as f rfl rfl fun a f => ?_
 refine l_nil (k_seq (k_seq (k_region ?_)))
 refine l_boxAgg 0 0 (ds := [v0_0]) m Ag29 f rfl rfl rfl rfl rfl fun a f => ?_
 obtain ⟨y_3, hy_4, hd⟩ := bind_some hd
 refine l_res f rfl rfl Tryd.call55 (Wk.impl_GraphOk m h0_0 hy_4) fun v_8 G_5 Ho_9 w hl_6 m hQ_7 a f => ?_
 obtain ⟨rfl, rfl⟩ := hQ_7
 have h0_0 := RSl.mono (RSl.mono (RI.mono _)) _ _ _ _ hl_6 h0_0
 have h1 := RSr.mono trivial _ _ _ _ hl_6 h1
 refine l_op f rfl rfl rfl (r_not (f.eval rfl)) fun a f => ?_
 refine l_mv f rfl rfl fun a f => ?_
 refine l_cut 4 (fun a w => ∃ G_11, GLe G_5 G_11 ∧ Mem W G_11 w (Itm.box b_2 29 [v0_0] :: H) ∧ Fr a 59 [(0, (.agg #[v0_0])), (1, v1), (2, (.pointer (some ⟨b_2, 0, none⟩))), (9, (.agg #[v0_0])), (10, (.bool y_3)), (11, (.bool (!y_3))), (12, (.bool (!y_3))), (16, (.bool ((!y_3) || (decide ((16 : Int) < (x1.length : Int))))))]) ?_ ?_
 ·rcases Bool.eq_false_or_eq_true (!y_3) with hc_10 | hc_10
  ·refine l_not' f rfl rfl rfl hc_10 fun a f => ?_
   refine l_not' f rfl rfl rfl hc_10 fun a f => ?_
   refine l_not' f rfl rfl rfl hc_10 fun a f => ?_
   refine l_op f rfl rfl rfl (r_pickT (f.eval rfl) hc_10 (f.eval rfl)) fun a f => ?_
   exact ⟨_, (GLe.refl _), m, f.weak ⟨rfl, rfl, rfl, rfl, rfl, rfl, rfl, by rw [hc_10]; rfl, trivial⟩⟩
  ·refine l_run f rfl rfl hc_10 ?_
   refine l_mv f rfl rfl fun a f => ?_
   refine l_run f rfl rfl hc_10 ?_
   refine l_lenR Tryd.underlying44 f rfl rfl h1 fun a f => ?_
   refine l_run f rfl rfl hc_10 ?_
   refine l_in f rfl rfl rfl b_gtr fun a f => ?_
   refine l_op f rfl rfl rfl (r_pickF (f.eval rfl) hc_10 (f.eval rfl)) fun a f => ?_
   exact ⟨_, (GLe.refl _), m, f.weak ⟨rfl, rfl, rfl, rfl, rfl, rfl, rfl, by rw [hc_10]; rfl, trivial⟩⟩
 ·rintro a w ⟨G_11, hl_12, m, f⟩
  have h0_0 := RSl.mono (RSl.mono (RI.mono _)) _ _ _ _ hl_12 h0_0
  have h1 := RSr.mono trivial _ _ _ _ hl_12 h1
  refine l_nil ?_
  rcases cond_some hd with ⟨hc_13, hd⟩ | ⟨hc_13, hd⟩
  ·refine k_true f rfl hc_13 ?_
   refine k_seq (k_region ?_)
   refine l_as f rfl rfl fun a f => ?_
   refine l_nil ?_
   refine k_ret ?_
   have m : Mem W G_11 w H := Mem.drop (H' := [Itm.box b_2 29 [v0_0]]) m
   obtain rfl := sj hd
   exact ⟨[(.bool false)], ⟨f.get _ _ rfl, trivial⟩, f.defers, _, [], (GLe.trans hl_6 hl_12), m, rfl, rfl⟩
  ·refine k_false f rfl hc_13 ?_
   refine k_skip ?_
   refine k_seq (k_region ?_)
   refine l_boxAgg 0 0 (ds := [v0_0]) m Ag29 f rfl rfl rfl rfl rfl fun a f => ?_
   obtain ⟨y_14, hy_15, hd⟩ := bind_some hd
   refine l_res f rfl rfl Tryd.call46 (Wk.impl_netsOf m h0_0 hy_15) fun v_19 G_16 Ho_20 w hl_17 m hQ_18 a f => ?_
   obtain ⟨v_21, it_22, rfl, rfl, o_23⟩ := hQ_18
   have h0_0 := RSl.mono (RSl.mono (RI.mono _)) _ _ _ _ hl_17 h0_0
   have h1 := RSr.mono trivial _ _ _ _ hl_17 h1
   refine l_as f rfl rfl fun a f => ?_
   refine l_nil (k_seq (k_region ?_))
   refine l_mv f rfl rfl fun a f => ?_
   obtain ⟨y_25, hy_26, hd⟩ := bind_some hd
   refine l_res f rfl rfl Tryd.call84 (Ow.lendCall (RI.mono _) 0 o_23 m rfl (fun G_27 hl_28 m h_29 => Wk.impl_nets_all m h_29 hy_26) (fun _ _ _ _ h => h)) fun v_33 G_30 Ho_34 w hl_31 m hQ_32 a f => ?_
   obtain ⟨rfl, rfl⟩ := hQ_32
   have h0_0 := RSl.mono (RSl.mono (RI.mono _)) _ _ _ _ hl_31 h0_0
   have h1 := RSr.mono trivial _ _ _ _ hl_31 h1
   have o_23 := Ow.mono (RI.mono _) hl_31 o_23
   refine l_as f rfl rfl fun a f => ?_
   refine l_nil (k_seq (k_seq (k_region ?_)))
   refine l_mv f rfl rfl fun a f => ?_
   refine l_lenR Tryd.underlying44 f rfl rfl h1 fun a f => ?_
   refine l_mv f rfl rfl fun a f => ?_
   refine l_nil ?_
   obtain ⟨q_204, hl_205, hd⟩ := bind_some hd
   refine k_cut (fun a w => ∃ q_204' : Unit, q_204 = .inl q_204' ∧ ∃ (G_297 : GH), GLe G_30 G_297 ∧ Fr a 59 [] ∧ Mem W G_297 w (H)) ?_ ?_
   ·refine k_block ?_
    have m := m.eraseAt 1
    refine k_loop (fun s_208 a w => ∃ x_211 : Int, ∃ x_212 : Int, (x_211, x_212) = s_208 ∧ ∃ (G_210 : GH), GLe G_30 G_210 ∧ Fr a 59 [(5, v_21), (6, (.int .u32 x_211)), (21, v1), (22, (.int .i64 (x1.length : Int))), (23, (.int .i64 x_212))] ∧ Mem W G_210 w (it_22 :: H)) hl_205 ⟨_, _, rfl, _, (GLe.refl _), f.weak ⟨rfl, rfl, rfl, rfl, rfl, trivial⟩, m⟩ ?_
    clear hl_205 f m
    rintro s_208 o_209 hs_206 hq_207 a w ⟨x_211, x_212, rfl, G_210, hl_213, f, m⟩
    have h1 := RSr.mono trivial _ _ _ _ hl_213 h1
    have o_23 := Ow.mono (RI.mono _) hl_213 o_23
    refine k_seq (k_region ?_)
    refine l_in f rfl rfl rfl b_lss fun a f => ?_
    refine l_nil (k_seq ?_)
    rcases cond_some hs_206 with ⟨hc_299, hs_206⟩ | ⟨hc_299, hs_206⟩
    ·refine k_true f rfl hc_299 ?_
     refine k_skip ?_
     refine k_seq (k_block (k_seq (k_region ?_)))
     obtain ⟨e_300, he_301, hs_206⟩ := bind_some hs_206
     refine l_atR (E := P3) T44 f rfl rfl rfl h1 he_301 fun p_302 a g_303 f => ?_
     refine l_loadR (E := P3) [(.int .i64 e_300.1), (.int .i64 e_300.2.1), (.int .i64 e_300.2.2)] m Ag83 f rfl rfl g_303 rfl fun a f => ?_
     refine l_alloc (cs := [(.int .i64 0), (.int .i64 0), (.int .i64 0)]) Tryd.zeroValue83 m f rfl rfl fun b_305 w a m f => ?_
     refine l_boxStore 0 0 (ds := [(.int .i64 e_300.1), (.int .i64 e_300.2.1), (.int .i64 e_300.2.2)]) m Tryd.sizeOf83 f rfl rfl rfl (ones_cons rfl (ones_cons rfl (ones_cons rfl ones_nil))) rfl (Nat.le_of_ble_eq_true rfl) rfl fun w m => ?_
     refine l_nil (k_seq (k_seq (k_region ?_)))
     refine l_fieldAddr Tryd.underlying83 rfl Tryd.sizeOf2 (by decide) f rfl rfl fun a f => ?_
     refine l_boxCell 0 0 m Pl2 f rfl rfl rfl rfl fun a f => ?_
     refine l_mv f rfl rfl fun a f => ?_
     refine l_own_len 1 m o_23 rfl Tryd.underlying61 f rfl rfl fun a f => ?_
     refine l_in f rfl rfl rfl b_sub fun a f => ?_
     obtain ⟨y_306, hy_307, hs_206⟩ := bind_some hs_206
     refine l_res f rfl rfl Tryd.call75 (Wk.impl_inRange m  hy_307) fun v_311 G_308 Ho_312 w hl_309 m hQ_310 a f => ?_
     obtain ⟨rfl, rfl⟩ := hQ_310
     have h1 := RSr.mono trivial _ _ _ _ hl_309 h1
     have o_23 := Ow.mono (RI.mono _) hl_309 o_23
     refine l_op f rfl rfl rfl (r_not (f.eval rfl)) fun a f => ?_
     refine l_mv f rfl rfl fun a f => ?_
     obtain ⟨b_330, hj_331, hs_206⟩ := bind_some hs_206
     refine l_cut 6 (fun a w => ∃ G_328, GLe G_308 G_328 ∧ Mem W G_328 w (Itm.box b_305 83 [(.int .i64 e_300.1), (.int .i64 e_300.2.1), (.int .i64 e_300.2.2)] :: it_22 :: H) ∧ Fr a 59 [(5, v_21), (6, (.int .u32 x_211)), (8, (.pointer (some ⟨b_305, 0, none⟩))), (21, v1), (22, (.int .i64 (x1.length : Int))), (23, (.int .i64 x_212)), (27, (.pointer (some ⟨b_305, 0, none⟩))), (28, (.int .i64 e_300.1)), (29, v_21), (30, (.int .i64 (y_14.length : Int))), (31, (.int .i64 (IntKind.i64.wrap ((y_14.length : Int) - 1)))), (32, (.bool y_306)), (33, (.bool (!y_306))), (34, (.bool (!y_306))), (40, (.bool b_330))]) ?_ ?_
     ·rcases cond_some hj_331 with ⟨hc_313, hj_331⟩ | ⟨hc_313, hj_331⟩
      ·refine l_not' f rfl rfl rfl hc_313 fun a f => ?_
       refine l_not' f rfl rfl rfl hc_313 fun a f => ?_
       refine l_not' f rfl rfl rfl hc_313 fun a f => ?_
       refine l_not' f rfl rfl rfl hc_313 fun a f => ?_
       refine l_not' f rfl rfl rfl hc_313 fun a f => ?_
       refine l_op f rfl rfl rfl (r_pickT (f.eval rfl) hc_313 (f.eval rfl)) fun a f => ?_
       obtain rfl := sj hj_331
       have m := m.front 1 rfl
       have m := m.front 1 rfl
       exact ⟨_, (GLe.refl _), m, f.weak ⟨rfl, rfl, rfl, rfl, rfl, rfl, rfl, rfl, rfl, rfl, rfl, rfl, rfl, rfl, rfl, trivial⟩⟩
      ·refine l_run f rfl rfl hc_313 ?_
       refine l_mv f rfl rfl fun a f => ?_
       refine l_run f rfl rfl hc_313 ?_
       refine l_fieldAddr Tryd.underlying83 rfl Tryd.sizeOf2 (by decide) f rfl rfl fun a f => ?_
       refine l_run f rfl rfl hc_313 ?_
       refine l_boxCell 0 0 m Pl2 f rfl rfl rfl rfl fun a f => ?_
       refine l_run f rfl rfl hc_313 ?_
       obtain ⟨y_332, hy_333, hj_331⟩ := bind_some hj_331
       refine l_res f rfl rfl Tryd.call76 (Wk.impl_vset_has m  hy_333) fun v_337 G_334 Ho_338 w hl_335 m hQ_336 a f => ?_
       obtain ⟨rfl, rfl⟩ := hQ_336
       have h1 := RSr.mono trivial _ _ _ _ hl_335 h1
       have o_23 := Ow.mono (RI.mono _) hl_335 o_23
       refine l_run f rfl rfl hc_313 ?_
       refine l_op f rfl rfl rfl (r_not (f.eval rfl)) fun a f => ?_
       refine l_op f rfl rfl rfl (r_pickF (f.eval rfl) hc_313 (f.eval rfl)) fun a f => ?_
       obtain rfl := sj hj_331
       have m := m.front 1 rfl
       have m := m.front 1 rfl
       exact ⟨_, hl_335, m, f.weak ⟨rfl, rfl, rfl, rfl, rfl, rfl, rfl, rfl, rfl, rfl, rfl, rfl, rfl, rfl, rfl, trivial⟩⟩
     ·rintro a w ⟨G_328, hl_329, m, f⟩
      have h1 := RSr.mono trivial _ _ _ _ hl_329 h1
      have o_23 := Ow.mono (RI.mono _) hl_329 o_23
      refine l_mv f rfl rfl fun a f => ?_
      obtain ⟨b_362, hj_363, hs_206⟩ := bind_some hs_206
      refine l_cut 11 (fun a w => ∃ G_360, GLe G_328 G_360 ∧ Mem W G_360 w (Itm.box b_305 83 [(.int .i64 e_300.1), (.int .i64 e_300.2.1), (.int .i64 e_300.2.2)] :: it_22 :: H) ∧ Fr a 59 [(5, v_21), (6, (.int .u32 x_211)), (8, (.pointer (some ⟨b_305, 0, none⟩))), (21, v1), (22, (.int .i64 (x1.length : Int))), (23, (.int .i64 x_212)), (27, (.pointer (some ⟨b_305, 0, none⟩))), (28, (.int .i64 e_300.1)), (29, v_21), (30, (.int .i64 (y_14.length : Int))), (31, (.int .i64 (IntKind.i64.wrap ((y_14.length : Int) - 1)))), (32, (.bool y_306)), (33, (.bool (!y_306))), (34, (.bool (!y_306))), (40, (.bool b_330)), (41, (.bool b_330)), (52, (.bool b_362))]) ?_ ?_
      ·rcases cond_some hj_363 with ⟨hc_339, hj_363⟩ | ⟨hc_339, hj_363⟩
       ·refine l_not' f rfl rfl rfl hc_339 fun a f => ?_
        refine l_not' f rfl rfl rfl hc_339 fun a f => ?_
        refine l_not' f rfl rfl rfl hc_339 fun a f => ?_
        refine l_not' f rfl rfl rfl hc_339 fun a f => ?_
        refine l_not' f rfl rfl rfl hc_339 fun a f => ?_
        refine l_not' f rfl rfl rfl hc_339 fun a f => ?_
        refine l_not' f rfl rfl rfl hc_339 fun a f => ?_
        refine l_not' f rfl rfl rfl hc_339 fun a f => ?_
        refine l_not' f rfl rfl rfl hc_339 fun a f => ?_
        refine l_not' f rfl rfl rfl hc_339 fun a f => ?_
        refine l_op f rfl rfl rfl (r_pickT (f.eval rfl) hc_339 (f.eval rfl)) fun a f => ?_
        obtain rfl := sj hj_363
        have m := m.front 1 rfl
        have m := m.front 1 rfl
        exact ⟨_, (GLe.refl _), m, f.weak ⟨rfl, rfl, rfl, rfl, rfl, rfl, rfl, rfl, rfl, rfl, rfl, rfl, rfl, rfl, rfl, rfl, rfl, trivial⟩⟩
       ·refine l_run f rfl rfl hc_339 ?_
        refine l_mv f rfl rfl fun a f => ?_
        refine l_run f rfl rfl hc_339 ?_
        refine l_mv f rfl rfl fun a f => ?_
        refine l_run f rfl rfl hc_339 ?_
        refine l_fieldAddr Tryd.underlying83 rfl Tryd.sizeOf2 (by decide) f rfl rfl fun a f => ?_
        refine l_run f rfl rfl hc_339 ?_
        refine l_boxCell 0 0 m Pl2 f rfl rfl rfl rfl fun a f => ?_
        refine l_run f rfl rfl hc_339 ?_
        refine l_fieldAddr Tryd.underlying83 rfl Tryd.sizeOf2 (by decide) f rfl rfl fun a f => ?_
        refine l_run f rfl rfl hc_339 ?_
        refine l_boxCell 0 1 m Pl2 f rfl rfl rfl rfl fun a f => ?_
        refine l_run f rfl rfl hc_339 ?_
        refine l_fieldAddr Tryd.underlying83 rfl Tryd.sizeOf2 (by decide) f rfl rfl fun a f => ?_
        refine l_run f rfl rfl hc_339 ?_
        refine l_boxCell 0 2 m Pl2 f rfl rfl rfl rfl fun a f => ?_
        refine l_run f rfl rfl hc_339 ?_
        obtain ⟨y_364, hy_365, hj_363⟩ := bind_some hj_363
        refine l_res f rfl rfl Tryd.call113 (Ow.lendCall (RI.mono _) 1 o_23 m rfl (fun G_366 hl_367 m h_368 => Wk.impl_canPrune m h_368 hy_365) (fun _ _ _ _ h => h)) fun v_372 G_369 Ho_373 w hl_370 m hQ_371 a f => ?_
        obtain ⟨rfl, rfl⟩ := hQ_371
        have h1 := RSr.mono trivial _ _ _ _ hl_370 h1
        have o_23 := Ow.mono (RI.mono _) hl_370 o_23
        refine l_run f rfl rfl hc_339 ?_
        refine l_op f rfl rfl rfl (r_not (f.eval rfl)) fun a f => ?_
        refine l_op f rfl rfl rfl (r_pickF (f.eval rfl) hc_339 (f.eval rfl)) fun a f => ?_
        obtain rfl := sj hj_363
        have m := m.front 1 rfl
        have m := m.front 1 rfl
        exact ⟨_, hl_370, m, f.weak ⟨rfl, rfl, rfl, rfl, rfl, rfl, rfl, rfl, rfl, rfl, rfl, rfl, rfl, rfl, rfl, rfl, rfl, trivial⟩⟩
      ·rintro a w ⟨G_360, hl_361, m, f⟩
       have h1 := RSr.mono trivial _ _ _ _ hl_361 h1
       have o_23 := Ow.mono (RI.mono _) hl_361 o_23
       refine l_nil ?_
       rcases cond_some hs_206 with ⟨hc_374, hs_206⟩ | ⟨hc_374, hs_206⟩
       ·refine k_true f rfl hc_374 ?_
        refine k_seq (k_region ?_)
        refine l_as f rfl rfl fun a f => ?_
        refine l_nil ?_
        refine k_ret ?_
        have m : Mem W G_360 w H := Mem.drop (H' := [Itm.box b_305 83 [(.int .i64 e_300.1), (.int .i64 e_300.2.1), (.int .i64 e_300.2.2)], it_22]) m
        obtain rfl := sj hs_206
        obtain rfl := hq_207 _ rfl
        obtain rfl := sj hd
        exact ⟨[(.bool false)], ⟨f.get _ _ rfl, trivial⟩, f.defers, _, [], (GLe.trans hl_6 (GLe.trans hl_12 (GLe.trans hl_17 (GLe.trans hl_31 (GLe.trans hl_213 (GLe.trans hl_309 (GLe.trans hl_329 hl_361))))))), m, rfl, rfl⟩
       ·refine k_false f rfl hc_374 ?_
        refine k_skip ?_
        refine k_region ?_
        refine l_mv f rfl rfl fun a f => ?_
        refine l_fieldAddr Tryd.underlying83 rfl Tryd.sizeOf2 (by decide) f rfl rfl fun a f => ?_
        refine l_boxCell 0 0 m Pl2 f rfl rfl rfl rfl fun a f => ?_
        obtain ⟨y_375, hy_376, hs_206⟩ := bind_some hs_206
        refine l_res f rfl rfl Tryd.call48 (Wk.impl_one m  hy_376) fun v_380 G_377 Ho_381 w hl_378 m hQ_379 a f => ?_
        obtain ⟨rfl, rfl⟩ := hQ_379
        have h1 := RSr.mono trivial _ _ _ _ hl_378 h1
        have o_23 := Ow.mono (RI.mono _) hl_378 o_23
        refine l_in f rfl rfl rfl b_andNot fun a f => ?_
        refine l_as f rfl rfl fun a f => ?_
        refine l_nil (k_region ?_)
        refine l_in f rfl rfl rfl b_add fun a f => ?_
        refine l_mv f rfl rfl fun a f => ?_
        refine l_nil ?_
        have m := m.front 1 rfl
        have m := m.eraseAt 1
        obtain rfl := sj hs_206
        exact ⟨_, rfl, _, _, rfl, _, (GLe.trans hl_213 (GLe.trans hl_309 (GLe.trans hl_329 (GLe.trans hl_361 hl_378)))), f.weak ⟨rfl, rfl, rfl, rfl, rfl, trivial⟩, m⟩
    ·refine k_false f rfl hc_299 ?_
     refine k_exit rfl ?_
     have m : Mem W G_210 w H := Mem.drop (H' := [it_22]) m
     obtain rfl := sj hs_206
     obtain rfl := hq_207 _ rfl
     exact ⟨_, rfl, _, hl_213, f.weak trivial, m⟩
   ·rintro a w ⟨_, rfl, G_297, hl_298, f, m⟩
    refine k_seq (k_region ?_)
    refine l_as f rfl rfl fun a f => ?_
    refine l_nil ?_
    refine k_ret ?_
    obtain rfl := sj hd
    exact ⟨[(.bool true)], ⟨f.get _ _ rfl, trivial⟩, f.defers, _, [], (GLe.trans hl_6 (GLe.trans hl_12 (GLe.trans hl_17 (GLe.trans hl_31 hl_298)))), m, rfl, rfl⟩

theorem Wk.impl_nets_graph__deep {W w : World} {G : GH} {H : List Itm} {v0 : Value} {x0 : (List Int)} (hW : TabW W) (m : Mem W G w (H)) (h0 : RSl (RI .u32) G v0 x0) {y : ((List (List Int)))} (hd : D.impl_nets_graph__deep x0 = some y) :
  Calls Tryd.prog 78 #[v0] w (Res W G H (fun G' Ho v => ∃ r0 : Value, ∃ i0 : Itm, Ho = [i0] ∧ v = (.agg #[r0]) ∧ Ow2 (RI .i64) 31 2 G' i0 r0 y)) := by
 refine calls_b (args := [v0]) (N := 22) [.cell 2 29] Tryd.func78 rfl rfl (Nat.le_of_ble_eq_true rfl) rfl fun a f => ?_
 unfold D.impl_nets_graph__deep at hd
 refine k_seq (k_region ?_)
 refine l_alloc (cs := [(.slice none 0 0)]) Tryd.zeroValue29 m f rfl rfl fun b_2 w a m f => ?_
 refine l_nil (k_seq (k_region ?_))
 have hb_3 : ∀ w, (Instr.build 29 #[]).run Tryd.prog w = .ok (.agg #[(.slice none 0 0)]) w := by intro w; simp [Instr.build, Instr.fill, cells_int, cells_bool, cells_string, cells_slice, cells_pointer, cells_agg]
 refine l_build f rfl rfl hb_3 fun a f => ?_
 refine l_alloc (cs := [(.slice none 0 0)]) Tryd.zeroValue29 m f rfl rfl fun b_5 w a m f => ?_
 refine l_boxStore 0 0 (ds := [(.slice none 0 0)]) m Tryd.sizeOf29 f rfl rfl rfl (ones_cons rfl ones_nil) rfl (Nat.le_of_ble_eq_true rfl) rfl fun w m => ?_
 refine l_nil (k_seq (k_seq (k_region ?_)))
 refine l_mv f rfl rfl fun a f => ?_
 refine l_len Tryd.underlying61 f rfl rfl h0 fun a f => ?_
 refine l_mv f rfl rfl fun a f => ?_
 refine l_nil ?_
 obtain ⟨it_94, m, o_95⟩ := Ow2.nil (RI .i64) 31 2 m
 obtain ⟨q_88, hl_89, hd⟩ := bind_some hd
 refine k_cut (fun a w => ∃ l_142 : List (List Int), l_142 = q_88 ∧ ∃ (G_141 : GH) (v_143 : Value) (it_144 : Itm), GLe G G_141 ∧ Fr a 22 [(2, (.pointer (some ⟨b_2, 0, none⟩))), (3, (.pointer (some ⟨b_5, 0, none⟩)))] ∧ Mem W G_141 w (Itm.box b_2 29 [(.slice none 0 0)] :: Itm.box b_5 29 [v_143] :: it_144 :: H) ∧ Ow2 (RI .i64) 31 2 G_141 it_144 v_143 l_142) ?_ ?_
 ·refine k_block ?_
  have m := m.front 1 rfl
  have m := m.front 2 rfl
  refine k_loop (fun s_92 a w => ∃ x_98 : Int, ∃ l_99 : List (List Int), (x_98, l_99) = s_92 ∧ ∃ (G_97 : GH) (v_100 : Value) (it_101 : Itm), GLe G G_97 ∧ Fr a 22 [(2, (.pointer (some ⟨b_2, 0, none⟩))), (3, (.pointer (some ⟨b_5, 0, none⟩))), (7, v0), (8, (.int .i64 (x0.length : Int))), (9, (.int .i64 x_98))] ∧ Mem W G_97 w (Itm.box b_2 29 [(.slice none 0 0)] :: Itm.box b_5 29 [v_100] :: it_101 :: H) ∧ Ow2 (RI .i64) 31 2 G_97 it_101 v_100 l_99) hl_89 ⟨_, _, rfl, _, (.slice none 0 0), it_94, (GLe.refl _), f.weak ⟨rfl, rfl, rfl, rfl, rfl, trivial⟩, m, o_95⟩ ?_
  clear hl_89 f m
  rintro s_92 o_93 hs_90 hq_91 a w ⟨x_98, l_99, rfl, G_97, v_100, it_101, hl_104, f, m, o_102⟩
  have h0 := RSl.mono (RI.mono _) _ _ _ _ hl_104 h0
  refine k_seq (k_region ?_)
  refine l_in f rfl rfl rfl b_lss fun a f => ?_
  refine l_nil (k_seq ?_)
  rcases cond_some hs_90 with ⟨hc_148, hs_90⟩ | ⟨hc_148, hs_90⟩
  ·refine k_true f rfl hc_148 ?_
   refine k_skip ?_
   refine k_seq (k_block (k_seq (k_region ?_)))
   obtain ⟨e_149, he_150, hs_90⟩ := bind_some hs_90
   refine l_at T61 f rfl rfl rfl h0 he_150 fun p_151 c_152 a g_153 h_154 f => ?_
   subst h_154
   refine l_loadAt m Pl66 f rfl rfl g_153 fun a f => ?_
   refine l_as f rfl rfl fun a f => ?_
   refine l_nil ?_
   refine k_draw 5 Follows (by kernel_rfl) m ?_
   refine q_fieldAddr (i := 0) 5 Tryd.underlying29 rfl Tryd.sizeOf27 (by decide) rfl (by kernel_rfl) rfl f rfl rfl rfl fun a f => ?_
   refine q_boxCell (i := 1) 5 1 Pl27 rfl rfl rfl (by kernel_rfl) rfl f rfl rfl rfl fun a f => ?_
   refine q_mv 2 5 rfl (by kernel_rfl) f rfl rfl rfl fun a f => ?_
   refine q_one (i := 3) rfl (by kernel_rfl) rfl fun G_155 w hl_156 m K_157 K_157 => ?_
   have h0 := RSl.mono (RI.mono _) _ _ _ _ hl_156 h0
   have o_102 := Ow2.mono (RI.mono _) hl_156 o_102
   obtain ⟨y_158, hy_159, hs_90⟩ := bind_some hs_90
   refine l_res f rfl rfl Tryd.call100 (Wk.impl_vset_numbers hW m  hy_159) fun v_163 G_160 Ho_164 w hl_161 m hQ_162 a f => ?_
   obtain ⟨v_165, it_166, rfl, rfl, o_167⟩ := hQ_162
   have h0 := RSl.mono (RI.mono _) _ _ _ _ hl_161 h0
   have o_102 := Ow2.mono (RI.mono _) hl_161 o_102
   refine l_nil ?_
   refine K_157 G_160 [it_166] _ _ hl_161 m ?_
   refine q_one (i := 4) rfl (by kernel_rfl) rfl fun G_169 w hl_170 m K_171 K_171 => ?_
   have h0 := RSl.mono (RI.mono _) _ _ _ _ hl_170 h0
   have o_167 := Ow.mono (RI.mono _) hl_170 o_167
   have o_102 := Ow2.mono (RI.mono _) hl_170 o_102
   refine l_slit (R := RawS) (xs := [v_165]) RawS.one m T27 f rfl rfl rfl (by decide) (All2.cons ⟨rfl, Ow.one1 0 m o_167 rfl, Ow.cells 0 m o_167 rfl⟩ (All2.nil _)) fun it_172 v_173 w a m o_174 f => ?_
   refine l_nil ?_
   refine K_171 G_169 [it_172, it_166] _ _ (GLe.refl _) m ?_
   refine q_end fun G_176 w hl_177 m => ?_
   have h0 := RSl.mono (RI.mono _) _ _ _ _ hl_177 h0
   have o_174 := Ow.mono RawS.mono hl_177 o_174
   have o_167 := Ow.mono (RI.mono _) hl_177 o_167
   have o_102 := Ow2.mono (RI.mono _) hl_177 o_102
   have m := m.front 1 rfl
   have m := m.front 4 rfl
   obtain ⟨l_178, hx_179, hs_90⟩ := bind_some hs_90
   refine l_append2 m o_102 o_167 o_174 T27 rfl (by decide) f rfl rfl rfl hx_179 fun it_180 v_181 w a m o_182 f => ?_
   refine l_fieldAddr Tryd.underlying29 rfl Tryd.sizeOf27 (by decide) f rfl rfl fun a f => ?_
   refine l_boxStore 2 0 (ds := [v_181]) m Tryd.sizeOf27 f rfl rfl (Ow2.cells 0 m o_182 rfl) (ones_cons (Ow2.one1 0 m o_182 rfl) ones_nil) rfl (Nat.le_of_ble_eq_true rfl) rfl fun w m => ?_
   refine l_nil (k_region ?_)
   refine l_in f rfl rfl rfl b_add fun a f => ?_
   refine l_mv f rfl rfl fun a f => ?_
   refine l_nil ?_
   have m := m.front 2 rfl
   have m := m.front 2 rfl
   obtain rfl := sj hs_90
   exact ⟨_, rfl, _, _, rfl, _, v_181, it_180, (GLe.trans hl_104 (GLe.trans hl_156 (GLe.trans hl_161 (GLe.trans hl_170 hl_177)))), f.weak ⟨rfl, rfl, rfl, rfl, rfl, trivial⟩, m, o_182⟩
  ·refine k_false f rfl hc_148 ?_
   refine k_exit rfl ?_
   have m := m.front 2 rfl
   have m := m.front 2 rfl
   have m := m.front 2 rfl
   obtain rfl := sj hs_90
   obtain rfl := hq_91 _ rfl
   exact ⟨_, rfl, _, v_100, it_101, hl_104, f.weak ⟨rfl, rfl, trivial⟩, m, o_102⟩
 ·rintro a w ⟨l_142, rfl, G_141, v_143, it_144, hl_147, f, m, o_145⟩
  refine k_seq (k_region ?_)
  refine l_boxAgg 1 0 (ds := [v_143]) m Ag29 f rfl rfl rfl rfl rfl fun a f => ?_
  refine l_boxStore 0 0 (ds := [v_143]) m Tryd.sizeOf29 f rfl rfl rfl (ones_cons (Ow2.one1 2 m o_145 rfl) ones_nil) rfl (Nat.le_of_ble_eq_true rfl) rfl fun w m => ?_
  refine l_nil ?_
  refine k_ret ?_
  have rc_184 := rr_agg (P := Tryd.prog) 0 m Ag29 f (s := 2) rfl rfl rfl
  have m := m.front 2 rfl
  have m := m.eraseAt 2
  have m := m.eraseAt 1
  obtain rfl := sj hd
  exact ⟨[(.agg #[v_143])], ⟨rc_184, trivial⟩, f.defers, _, [it_144], hl_147, m, _, _, rfl, rfl, o_145⟩

theorem Wk.impl_GrownBy {W w : World} {G : GH} {H : List Itm} {v0 : Value} {x0 : (List (Int × Int × Int))} (hW : TabW W) (m : Mem W G w (H)) (h0 : RSr P3 G v0 x0) {y : ((List (List Int))) × Bool} (hd : D.impl_GrownBy x0 = some y) :
  Calls Tryd.prog 22 #[v0] w (Res W G H (fun G' Ho v => ∃ r0 : Value, ∃ i0 : Itm, Ho = [i0] ∧ v = .tuple #[(.agg #[r0]), (.bool y.2)] ∧ Ow2 (RI .i64) 31 2 G' i0 r0 y.1)) := by
 refine calls_b (args := [v0]) (N := 126) [.cell 2 29, .tmp 3] Tryd.func22 rfl rfl (Nat.le_of_ble_eq_true rfl) rfl fun a f => ?_
 unfold D.impl_GrownBy at hd
 refine k_seq (k_region ?_)
 refine l_alloc (cs := [(.slice none 0 0)]) Tryd.zeroValue29 m f rfl rfl fun b_2 w a m f => ?_
 refine l_as f rfl rfl fun a f => ?_
 refine l_nil (k_seq (k_region ?_))
 refine l_mv f rfl rfl fun a f => ?_
 refine l_lenR Tryd.underlying44 f rfl rfl h0 fun a f => ?_
 refine l_as f rfl rfl fun a f => ?_
 refine l_nil (k_seq (k_region ?_))
 refine l_slit (R := (RI .i64)) (xs := ([] : List Int)) (RI.one _) m T31 f rfl rfl rfl (by decide) (All2.nil _) fun it_3 v_4 w a m o_5 f => ?_
 refine l_as f rfl rfl fun a f => ?_
 refine l_nil (k_seq (k_seq (k_region ?_)))
 refine l_mv f rfl rfl fun a f => ?_
 refine l_lenR Tryd.underlying44 f rfl rfl h0 fun a f => ?_
 refine l_mv f rfl rfl fun a f => ?_
 refine l_nil ?_
 obtain ⟨q_48, hl_49, hd⟩ := bind_some hd
 refine k_cut (fun a w => ∃ l_80 : List Int, l_80 = q_48 ∧ ∃ (G_79 : GH) (v_81 : Value) (it_82 : Itm), GLe G G_79 ∧ Fr a 126 [(0, v0), (2, (.pointer (some ⟨b_2, 0, none⟩))), (4, (.int .i64 (x0.length : Int))), (5, v_81)] ∧ Mem W G_79 w (Itm.box b_2 29 [(.slice none 0 0)] :: it_82 :: H) ∧ Ow (RI .i64) 2 G_79 it_82 v_81 l_80) ?_ ?_
 ·refine k_block ?_
  have m := m.front 1 rfl
  refine k_loop (fun s_52 a w => ∃ l_55 : List Int, ∃ x_60 : Int, (l_55, x_60) = s_52 ∧ ∃ (G_54 : GH) (v_56 : Value) (it_57 : Itm), GLe G G_54 ∧ Fr a 126 [(0, v0), (2, (.pointer (some ⟨b_2, 0, none⟩))), (4, (.int .i64 (x0.length : Int))), (5, v_56), (20, v0), (21, (.int .i64 (x0.length : Int))), (22, (.int .i64 x_60))] ∧ Mem W G_54 w (Itm.box b_2 29 [(.slice none 0 0)] :: it_57 :: H) ∧ Ow (RI .i64) 2 G_54 it_57 v_56 l_55) hl_49 ⟨_, _, rfl, _, v_4, it_3, (GLe.refl _), f.weak ⟨rfl, rfl, rfl, rfl, rfl, rfl, rfl, trivial⟩, m, o_5⟩ ?_
  clear hl_49 f m
  rintro s_52 o_53 hs_50 hq_51 a w ⟨l_55, x_60, rfl, G_54, v_56, it_57, hl_61, f, m, o_58⟩
  have h0 := RSr.mono trivial _ _ _ _ hl_61 h0
  refine k_seq (k_region ?_)
  refine l_in f rfl rfl rfl b_lss fun a f => ?_
  refine l_nil (k_seq ?_)
  rcases cond_some hs_50 with ⟨hc_86, hs_50⟩ | ⟨hc_86, hs_50⟩
  ·refine k_true f rfl hc_86 ?_
   refine k_skip ?_
   refine k_seq (k_block (k_seq (k_region ?_)))
   obtain ⟨e_87, he_88, hs_50⟩ := bind_some hs_50
   refine l_atR (E := P3) T44 f rfl rfl rfl h0 he_88 fun p_89 a g_90 f => ?_
   refine l_loadR (E := P3) [(.int .i64 e_87.1), (.int .i64 e_87.2.1), (.int .i64 e_87.2.2)] m Ag83 f rfl rfl g_90 rfl fun a f => ?_
   refine l_alloc (cs := [(.int .i64 0), (.int .i64 0), (.int .i64 0)]) Tryd.zeroValue83 m f rfl rfl fun b_92 w a m f => ?_
   refine l_boxStore 0 0 (ds := [(.int .i64 e_87.1), (.int .i64 e_87.2.1), (.int .i64 e_87.2.2)]) m Tryd.sizeOf83 f rfl rfl rfl (ones_cons rfl (ones_cons rfl (ones_cons rfl ones_nil))) rfl (Nat.le_of_ble_eq_true rfl) rfl fun w m => ?_
   refine l_nil (k_region ?_)
   refine l_mv f rfl rfl fun a f => ?_
   refine l_fieldAddr Tryd.underlying83 rfl Tryd.sizeOf2 (by decide) f rfl rfl fun a f => ?_
   refine l_boxCell 0 0 m Pl2 f rfl rfl rfl rfl fun a f => ?_
   refine l_slit (R := (RI .i64)) (xs := ([e_87.1] : List Int)) (RI.one _) m T31 f rfl rfl rfl (by decide) (All2.cons rfl (All2.nil _)) fun it_93 v_94 w a m o_95 f => ?_
   obtain ⟨l_97, hx_98, hs_50⟩ := bind_some hs_50
   refine l_append (RI.one _) 3 m o_58 rfl T31 rfl (by decide) f rfl rfl rfl (Ow.src (j := 0) o_95 m rfl) hx_98 fun it_99 v_100 w a m o_101 f => ?_
   refine l_as f rfl rfl fun a f => ?_
   refine l_nil (k_region ?_)
   refine l_in f rfl rfl rfl b_add fun a f => ?_
   refine l_mv f rfl rfl fun a f => ?_
   refine l_nil ?_
   have m := m.front 3 rfl
   have m := m.front 3 rfl
   have m := m.eraseAt 3
   have m := m.eraseAt 2
   obtain rfl := sj hs_50
   exact ⟨_, rfl, _, _, rfl, _, v_100, it_99, hl_61, f.weak ⟨rfl, rfl, rfl, rfl, rfl, rfl, rfl, trivial⟩, m, o_101⟩
  ·refine k_false f rfl hc_86 ?_
   refine k_exit rfl ?_
   have m := m.front 1 rfl
   have m := m.front 1 rfl
   obtain rfl := sj hs_50
   obtain rfl := hq_51 _ rfl
   exact ⟨_, rfl, _, v_56, it_57, hl_61, f.weak ⟨rfl, rfl, rfl, rfl, trivial⟩, m, o_58⟩
 ·rintro a w ⟨l_80, rfl, G_79, v_81, it_82, hl_85, f, m, o_83⟩
  have h0 := RSr.mono trivial _ _ _ _ hl_85 h0
  refine k_seq (k_seq (k_region ?_))
  refine l_mv f rfl rfl fun a f => ?_
  refine l_in f rfl rfl rfl b_lss fun a f => ?_
  refine l_mv f rfl rfl fun a f => ?_
  refine l_cut 3 (fun a w => ∃ G_104, GLe G_79 G_104 ∧ Mem W G_104 w (Itm.box b_2 29 [(.slice none 0 0)] :: it_82 :: H) ∧ Fr a 126 [(0, v0), (2, (.pointer (some ⟨b_2, 0, none⟩))), (4, (.int .i64 (x0.length : Int))), (5, v_81), (32, (.int .i64 (x0.length : Int))), (33, (.bool (decide ((x0.length : Int) < 1)))), (34, (.bool (decide ((x0.length : Int) < 1)))), (37, (.bool ((decide ((x0.length : Int) < 1)) || (decide ((16 : Int) < (x0.length : Int))))))]) ?_ ?_
  ·rcases Bool.eq_false_or_eq_true (decide ((x0.length : Int) < 1)) with hc_103 | hc_103
   ·refine l_not' f rfl rfl rfl hc_103 fun a f => ?_
    refine l_not' f rfl rfl rfl hc_103 fun a f => ?_
    refine l_op f rfl rfl rfl (r_pickT (f.eval rfl) hc_103 (f.eval rfl)) fun a f => ?_
    have m := m.front 1 rfl
    have m := m.front 1 rfl
    exact ⟨_, (GLe.refl _), m, f.weak ⟨rfl, rfl, rfl, rfl, rfl, rfl, rfl, by rw [hc_103]; rfl, trivial⟩⟩
   ·refine l_run f rfl rfl hc_103 ?_
    refine l_mv f rfl rfl fun a f => ?_
    refine l_run f rfl rfl hc_103 ?_
    refine l_in f rfl rfl rfl b_gtr fun a f => ?_
    refine l_op f rfl rfl rfl (r_pickF (f.eval rfl) hc_103 (f.eval rfl)) fun a f => ?_
    have m := m.front 1 rfl
    have m := m.front 1 rfl
    exact ⟨_, (GLe.refl _), m, f.weak ⟨rfl, rfl, rfl, rfl, rfl, rfl, rfl, by rw [hc_103]; rfl, trivial⟩⟩
  ·rintro a w ⟨G_104, hl_105, m, f⟩
   have h0 := RSr.mono trivial _ _ _ _ hl_105 h0
   have o_83 := Ow.mono (RI.mono _) hl_105 o_83
   refine l_mv f rfl rfl fun a f => ?_
   have m := m.front 1 rfl
   obtain ⟨G_138, hl_139, m, h_140⟩ := Ow.stamp (RI.mono _) o_83 m
   have h0 := RSr.mono trivial _ _ _ _ hl_139 h0
   obtain ⟨b_200, hj_201, hd⟩ := bind_some hd
   refine l_cut 7 (fun a w => ∃ G_198, GLe G_138 G_198 ∧ Mem W G_198 w (Itm.box b_2 29 [(.slice none 0 0)] :: H) ∧ Fr a 126 [(0, v0), (2, (.pointer (some ⟨b_2, 0, none⟩))), (4, (.int .i64 (x0.length : Int))), (5, v_81), (32, (.int .i64 (x0.length : Int))), (33, (.bool (decide ((x0.length : Int) < 1)))), (34, (.bool (decide ((x0.length : Int) < 1)))), (37, (.bool ((decide ((x0.length : Int) < 1)) || (decide ((16 : Int) < (x0.length : Int)))))), (38, (.bool ((decide ((x0.length : Int) < 1)) || (decide ((16 : Int) < (x0.length : Int)))))), (45, (.bool b_200))]) ?_ ?_
   ·rcases cond_some hj_201 with ⟨hc_141, hj_201⟩ | ⟨hc_141, hj_201⟩
    ·refine l_not' f rfl rfl rfl hc_141 fun a f => ?_
     refine l_not' f rfl rfl rfl hc_141 fun a f => ?_
     refine l_not' f rfl rfl rfl hc_141 fun a f => ?_
     refine l_not' f rfl rfl rfl hc_141 fun a f => ?_
     refine l_not' f rfl rfl rfl hc_141 fun a f => ?_
     refine l_not' f rfl rfl rfl hc_141 fun a f => ?_
     refine l_op f rfl rfl rfl (r_pickT (f.eval rfl) hc_141 (f.eval rfl)) fun a f => ?_
     obtain rfl := sj hj_201
     exact ⟨_, (GLe.refl _), m, f.weak ⟨rfl, rfl, rfl, rfl, rfl, rfl, rfl, rfl, rfl, rfl, trivial⟩⟩
    ·refine l_run f rfl rfl hc_141 ?_
     refine l_mv f rfl rfl fun a f => ?_
     refine l_run f rfl rfl hc_141 ?_
     refine l_res f rfl rfl Tryd.call74 (Wk.slices_Values_int64_int64 m h_140) fun v_204 G_205 Ho_208 w hl_206 m hQ_207 a f => ?_
     obtain ⟨b_202, rfl, rfl⟩ := hQ_207
     have h0 := RSr.mono trivial _ _ _ _ hl_206 h0
     have h_140 := RSl.mono (RI.mono _) _ _ _ _ hl_206 h_140
     refine l_run f rfl rfl hc_141 ?_
     obtain ⟨y_209, hy_210, hj_201⟩ := bind_some hj_201
     refine l_res f rfl rfl Tryd.call73 (Wk.slices_Sorted_int64 m h_140 hy_210) fun v_214 G_211 Ho_215 w hl_212 m hQ_213 a f => ?_
     obtain ⟨v_219, it_216, rfl, rfl, o_217⟩ := hQ_213
     have h0 := RSr.mono trivial _ _ _ _ hl_212 h0
     have h_140 := RSl.mono (RI.mono _) _ _ _ _ hl_212 h_140
     refine l_run f rfl rfl hc_141 ?_
     refine l_mv f rfl rfl fun a f => ?_
     refine l_run f rfl rfl hc_141 ?_
     obtain ⟨y_220, hy_221, hj_201⟩ := bind_some hj_201
     refine l_res f rfl rfl Tryd.call56 (Ow.lendCall (RI.mono _) 0 o_217 m rfl (fun G_222 hl_223 m h_224 => Wk.impl_increasing m h_224 hy_221) (fun _ _ _ _ h => h)) fun v_228 G_225 Ho_229 w hl_226 m hQ_227 a f => ?_
     obtain ⟨rfl, rfl⟩ := hQ_227
     have h0 := RSr.mono trivial _ _ _ _ hl_226 h0
     have h_140 := RSl.mono (RI.mono _) _ _ _ _ hl_226 h_140
     have o_217 := Ow.mono (RI.mono _) hl_226 o_217
     refine l_run f rfl rfl hc_141 ?_
     refine l_op f rfl rfl rfl (r_not (f.eval rfl)) fun a f => ?_
     refine l_op f rfl rfl rfl (r_pickF (f.eval rfl) hc_141 (f.eval rfl)) fun a f => ?_
     obtain rfl := sj hj_201
     have m := m.front 1 rfl
     have m := m.eraseAt 1
     exact ⟨_, (GLe.trans hl_206 (GLe.trans hl_212 hl_226)), m, f.weak ⟨rfl, rfl, rfl, rfl, rfl, rfl, rfl, rfl, rfl, rfl, trivial⟩⟩
   ·rintro a w ⟨G_198, hl_199, m, f⟩
    have h0 := RSr.mono trivial _ _ _ _ hl_199 h0
    have h_140 := RSl.mono (RI.mono _) _ _ _ _ hl_199 h_140
    refine l_nil ?_
    rcases cond_some hd with ⟨hc_230, hd⟩ | ⟨hc_230, hd⟩
    ·refine k_true f rfl hc_230 ?_
     refine k_seq (k_region ?_)
     have hb_231 : ∀ w, (Instr.build 29 #[]).run Tryd.prog w = .ok (.agg #[(.slice none 0 0)]) w := by intro w; simp [Instr.build, Instr.fill, cells_int, cells_bool, cells_string, cells_slice, cells_pointer, cells_agg]
     refine l_build f rfl rfl hb_231 fun a f => ?_
     refine l_boxStore 0 0 (ds := [(.slice none 0 0)]) m Tryd.sizeOf29 f rfl rfl rfl (ones_cons rfl ones_nil) rfl (Nat.le_of_ble_eq_true rfl) rfl fun w m => ?_
     refine l_as f rfl rfl fun a f => ?_
     refine l_nil ?_
     refine k_ret ?_
     obtain ⟨it_232, m, o_233⟩ := Ow2.nil (RI .i64) 31 2 m
     have rc_235 := rr_agg (P := Tryd.prog) 1 m Ag29 f (s := 2) rfl rfl rfl
     have m := m.eraseAt 1
     obtain rfl := sj hd
     exact ⟨[(.agg #[(.slice none 0 0)]), (.bool false)], ⟨rc_235, f.get _ _ rfl, trivial⟩, f.defers, _, [it_232], (GLe.trans hl_85 (GLe.trans hl_105 (GLe.trans hl_139 hl_199))), m, _, _, rfl, rfl, o_233⟩
    ·refine k_false f rfl hc_230 ?_
     refine k_skip ?_
     refine k_seq (k_region ?_)
     refine l_mv f rfl rfl fun a f => ?_
     obtain ⟨l_236, hx_237, hd⟩ := bind_some hd
     refine l_make (R := (RI .u32)) m T61 rfl (by decide) rfl f rfl rfl rfl hx_237 fun it_238 v_239 w a m o_240 f => ?_
     refine l_as f rfl rfl fun a f => ?_
     refine l_as f rfl rfl fun a f => ?_
     refine l_nil (k_seq (k_seq (k_region ?_)))
     refine l_mv f rfl rfl fun a f => ?_
     refine l_in f rfl rfl rfl b_sub fun a f => ?_
     refine l_as f rfl rfl fun a f => ?_
     refine l_nil ?_
     obtain ⟨q_712, hl_713, hd⟩ := bind_some hd
     refine k_cut (fun a w => ∃ q_712' : (List Int), q_712 = .inl q_712' ∧ ∃ l_958 : List Int, l_958 = q_712' ∧ ∃ (G_957 : GH) (it_959 : Itm), GLe G_198 G_957 ∧ Fr a 126 [(0, v0), (2, (.pointer (some ⟨b_2, 0, none⟩))), (8, v_239)] ∧ Mem W G_957 w (Itm.box b_2 29 [(.slice none 0 0)] :: it_959 :: H) ∧ Ow (RI .u32) 66 G_957 it_959 v_239 l_958) ?_ ?_
     ·refine k_block ?_
      have m := m.front 1 rfl
      refine k_loop (fun s_716 a w => ∃ l_719 : List Int, ∃ x_722 : Int, ∃ x_723 : Int, (l_719, x_722, x_723) = s_716 ∧ ∃ (G_718 : GH) (it_720 : Itm), GLe G_198 G_718 ∧ Fr a 126 [(0, v0), (2, (.pointer (some ⟨b_2, 0, none⟩))), (4, (.int .i64 (x0.length : Int))), (8, v_239), (9, (.int .u32 x_722)), (10, (.int .i64 x_723))] ∧ Mem W G_718 w (Itm.box b_2 29 [(.slice none 0 0)] :: it_720 :: H) ∧ Ow (RI .u32) 66 G_718 it_720 v_239 l_719) hl_713 ⟨_, _, _, rfl, _, it_238, (GLe.refl _), f.weak ⟨rfl, rfl, rfl, rfl, rfl, rfl, trivial⟩, m, o_240⟩ ?_
      clear hl_713 f m
      rintro s_716 o_717 hs_714 hq_715 a w ⟨l_719, x_722, x_723, rfl, G_718, it_720, hl_724, f, m, o_721⟩
      have h0 := RSr.mono trivial _ _ _ _ hl_724 h0
      refine k_seq (k_seq (k_region ?_))
      refine l_mv f rfl rfl fun a f => ?_
      refine l_in f rfl rfl rfl b_geq fun a f => ?_
      refine l_nil ?_
      rcases cond_some hs_714 with ⟨hc_962, hs_714⟩ | ⟨hc_962, hs_714⟩
      ·refine k_true f rfl hc_962 ?_
       refine k_skip ?_
       refine k_seq (k_block (k_seq (k_region ?_)))
       refine l_mv f rfl rfl fun a f => ?_
       refine l_mv f rfl rfl fun a f => ?_
       obtain ⟨e_963, he_964, hs_714⟩ := bind_some hs_714
       refine l_atR (E := P3) T44 f rfl rfl rfl h0 he_964 fun p_965 a g_966 f => ?_
       refine l_loadR (E := P3) [(.int .i64 e_963.1), (.int .i64 e_963.2.1), (.int .i64 e_963.2.2)] m Ag83 f rfl rfl g_966 rfl fun a f => ?_
       refine l_alloc (cs := [(.int .i64 0), (.int .i64 0), (.int .i64 0)]) Tryd.zeroValue83 m f rfl rfl fun b_968 w a m f => ?_
       refine l_boxStore 0 0 (ds := [(.int .i64 e_963.1), (.int .i64 e_963.2.1), (.int .i64 e_963.2.2)]) m Tryd.sizeOf83 f rfl rfl rfl (ones_cons rfl (ones_cons rfl (ones_cons rfl ones_nil))) rfl (Nat.le_of_ble_eq_true rfl) rfl fun w m => ?_
       refine l_nil (k_seq (k_region ?_))
       refine l_as f rfl rfl fun a f => ?_
       refine l_nil (k_seq (k_seq (k_region ?_)))
       refine l_fieldAddr Tryd.underlying83 rfl Tryd.sizeOf2 (by decide) f rfl rfl fun a f => ?_
       refine l_boxCell 0 2 m Pl2 f rfl rfl rfl rfl fun a f => ?_
       refine l_in f rfl rfl rfl b_neq fun a f => ?_
       refine l_nil ?_
       obtain ⟨j_1027, hj_1028, hs_714⟩ := bind_some hs_714
       refine k_cut (fun a w => ∃ j_1027' : Int, j_1027 = .inl j_1027' ∧ ∃ x_1030 : Int, x_1030 = j_1027' ∧ ∃ (G_1029 : GH), GLe G_718 G_1029 ∧ Fr a 126 [(0, v0), (2, (.pointer (some ⟨b_2, 0, none⟩))), (4, (.int .i64 (x0.length : Int))), (8, v_239), (9, (.int .u32 x_722)), (10, (.int .i64 x_723)), (11, (.pointer (some ⟨b_968, 0, none⟩))), (12, (.int .u32 x_1030))] ∧ Mem W G_1029 w (Itm.box b_2 29 [(.slice none 0 0)] :: Itm.box b_968 83 [(.int .i64 e_963.1), (.int .i64 e_963.2.1), (.int .i64 e_963.2.2)] :: it_720 :: H)) ?_ ?_
       ·rcases cond_some hj_1028 with ⟨hc_1032, hj_1028⟩ | ⟨hc_1032, hj_1028⟩
        ·refine k_true f rfl hc_1032 ?_
         refine k_seq (k_seq (k_region ?_))
         refine l_fieldAddr Tryd.underlying83 rfl Tryd.sizeOf2 (by decide) f rfl rfl fun a f => ?_
         refine l_boxCell 0 1 m Pl2 f rfl rfl rfl rfl fun a f => ?_
         refine l_mv f rfl rfl fun a f => ?_
         refine l_in f rfl rfl rfl b_sub fun a f => ?_
         obtain ⟨y_1033, hy_1034, hj_1028⟩ := bind_some hj_1028
         refine l_res f rfl rfl Tryd.call75 (Wk.impl_inRange m  hy_1034) fun v_1038 G_1035 Ho_1039 w hl_1036 m hQ_1037 a f => ?_
         obtain ⟨rfl, rfl⟩ := hQ_1037
         have h0 := RSr.mono trivial _ _ _ _ hl_1036 h0
         have o_721 := Ow.mono (RI.mono _) hl_1036 o_721
         refine l_op f rfl rfl rfl (r_not (f.eval rfl)) fun a f => ?_
         refine l_mv f rfl rfl fun a f => ?_
         obtain ⟨b_1057, hj_1058, hj_1028⟩ := bind_some hj_1028
         refine l_cut 6 (fun a w => ∃ G_1055, GLe G_1035 G_1055 ∧ Mem W G_1055 w (Itm.box b_968 83 [(.int .i64 e_963.1), (.int .i64 e_963.2.1), (.int .i64 e_963.2.2)] :: Itm.box b_2 29 [(.slice none 0 0)] :: it_720 :: H) ∧ Fr a 126 [(0, v0), (2, (.pointer (some ⟨b_2, 0, none⟩))), (4, (.int .i64 (x0.length : Int))), (8, v_239), (9, (.int .u32 x_722)), (10, (.int .i64 x_723)), (11, (.pointer (some ⟨b_968, 0, none⟩))), (12, (.int .u32 0)), (61, (.bool (e_963.2.2 != 1))), (62, (.pointer (some ⟨b_968, 1, none⟩))), (63, (.int .i64 e_963.2.1)), (64, (.int .i64 (x0.length : Int))), (65, (.int .i64 (IntKind.i64.wrap ((x0.length : Int) - 1)))), (66, (.bool y_1033)), (67, (.bool (!y_1033))), (68, (.bool (!y_1033))), (74, (.bool b_1057))]) ?_ ?_
         ·rcases cond_some hj_1058 with ⟨hc_1040, hj_1058⟩ | ⟨hc_1040, hj_1058⟩
          ·refine l_not' f rfl rfl rfl hc_1040 fun a f => ?_
           refine l_not' f rfl rfl rfl hc_1040 fun a f => ?_
           refine l_not' f rfl rfl rfl hc_1040 fun a f => ?_
           refine l_not' f rfl rfl rfl hc_1040 fun a f => ?_
           refine l_not' f rfl rfl rfl hc_1040 fun a f => ?_
           refine l_op f rfl rfl rfl (r_pickT (f.eval rfl) hc_1040 (f.eval rfl)) fun a f => ?_
           obtain rfl := sj hj_1058
           have m := m.front 2 rfl
           have m := m.front 2 rfl
           have m := m.front 2 rfl
           exact ⟨_, (GLe.refl _), m, f.weak ⟨rfl, rfl, rfl, rfl, rfl, rfl, rfl, rfl, rfl, rfl, rfl, rfl, rfl, rfl, rfl, rfl, rfl, trivial⟩⟩
          ·refine l_run f rfl rfl hc_1040 ?_
           refine l_mv f rfl rfl fun a f => ?_
           refine l_run f rfl rfl hc_1040 ?_
           refine l_fieldAddr Tryd.underlying83 rfl Tryd.sizeOf2 (by decide) f rfl rfl fun a f => ?_
           refine l_run f rfl rfl hc_1040 ?_
           refine l_boxCell 0 1 m Pl2 f rfl rfl rfl rfl fun a f => ?_
           refine l_run f rfl rfl hc_1040 ?_
           obtain ⟨y_1059, hy_1060, hj_1058⟩ := bind_some hj_1058
           refine l_res f rfl rfl Tryd.call76 (Wk.impl_vset_has m  hy_1060) fun v_1064 G_1061 Ho_1065 w hl_1062 m hQ_1063 a f => ?_
           obtain ⟨rfl, rfl⟩ := hQ_1063
           have h0 := RSr.mono trivial _ _ _ _ hl_1062 h0
           have o_721 := Ow.mono (RI.mono _) hl_1062 o_721
           refine l_run f rfl rfl hc_1040 ?_
           refine l_op f rfl rfl rfl (r_not (f.eval rfl)) fun a f => ?_
           refine l_op f rfl rfl rfl (r_pickF (f.eval rfl) hc_1040 (f.eval rfl)) fun a f => ?_
           obtain rfl := sj hj_1058
           have m := m.front 2 rfl
           have m := m.front 2 rfl
           have m := m.front 2 rfl
           exact ⟨_, hl_1062, m, f.weak ⟨rfl, rfl, rfl, rfl, rfl, rfl, rfl, rfl, rfl, rfl, rfl, rfl, rfl, rfl, rfl, rfl, rfl, trivial⟩⟩
         ·rintro a w ⟨G_1055, hl_1056, m, f⟩
          have h0 := RSr.mono trivial _ _ _ _ hl_1056 h0
          have o_721 := Ow.mono (RI.mono _) hl_1056 o_721
          refine l_nil ?_
          rcases cond_some hj_1028 with ⟨hc_1066, hj_1028⟩ | ⟨hc_1066, hj_1028⟩
          ·refine k_true f rfl hc_1066 ?_
           refine k_seq (k_region ?_)
           have hb_1067 : ∀ w, (Instr.build 29 #[]).run Tryd.prog w = .ok (.agg #[(.slice none 0 0)]) w := by intro w; simp [Instr.build, Instr.fill, cells_int, cells_bool, cells_string, cells_slice, cells_pointer, cells_agg]
           refine l_build f rfl rfl hb_1067 fun a f => ?_
           refine l_boxStore 1 0 (ds := [(.slice none 0 0)]) m Tryd.sizeOf29 f rfl rfl rfl (ones_cons rfl ones_nil) rfl (Nat.le_of_ble_eq_true rfl) rfl fun w m => ?_
           refine l_as f rfl rfl fun a f => ?_
           refine l_nil ?_
           refine k_ret ?_
           obtain ⟨it_1068, m, o_1069⟩ := Ow2.nil (RI .i64) 31 2 m
           have rc_1071 := rr_agg (P := Tryd.prog) 2 m Ag29 f (s := 2) rfl rfl rfl
           have m := m.eraseAt 3
           have m := m.eraseAt 2
           have m := m.eraseAt 1
           obtain rfl := sj hj_1028
           obtain rfl := sj hs_714
           obtain rfl := hq_715 _ rfl
           obtain rfl := sj hd
           exact ⟨[(.agg #[(.slice none 0 0)]), (.bool false)], ⟨rc_1071, f.get _ _ rfl, trivial⟩, f.defers, _, [it_1068], (GLe.trans hl_85 (GLe.trans hl_105 (GLe.trans hl_139 (GLe.trans hl_199 (GLe.trans hl_724 (GLe.trans hl_1036 hl_1056)))))), m, _, _, rfl, rfl, o_1069⟩
          ·refine k_false f rfl hc_1066 ?_
           refine k_skip ?_
           refine k_seq (k_region ?_)
           refine l_fieldAddr Tryd.underlying83 rfl Tryd.sizeOf2 (by decide) f rfl rfl fun a f => ?_
           refine l_boxCell 0 1 m Pl2 f rfl rfl rfl rfl fun a f => ?_
           obtain ⟨y_1072, hy_1073, hj_1028⟩ := bind_some hj_1028
           refine l_res f rfl rfl Tryd.call48 (Wk.impl_one m  hy_1073) fun v_1077 G_1074 Ho_1078 w hl_1075 m hQ_1076 a f => ?_
           obtain ⟨rfl, rfl⟩ := hQ_1076
           have h0 := RSr.mono trivial _ _ _ _ hl_1075 h0
           have o_721 := Ow.mono (RI.mono _) hl_1075 o_721
           refine l_as f rfl rfl fun a f => ?_
           refine l_nil (k_seq (k_region ?_))
           refine l_fieldAddr Tryd.underlying83 rfl Tryd.sizeOf2 (by decide) f rfl rfl fun a f => ?_
           refine l_boxCell 0 2 m Pl2 f rfl rfl rfl rfl fun a f => ?_
           refine l_nil (k_block (k_seq (k_region ?_)))
           refine l_in f rfl rfl rfl b_eql fun a f => ?_
           refine l_as f rfl rfl fun a f => ?_
           refine l_nil ?_
           rcases cond_some hj_1028 with ⟨hc_1079, hj_1028⟩ | ⟨hc_1079, hj_1028⟩
           ·refine k_true f rfl hc_1079 ?_
            refine k_region ?_
            refine l_mv f rfl rfl fun a f => ?_
            refine l_as f rfl rfl fun a f => ?_
            refine l_nil ?_
            have m := m.front 2 rfl
            have m := m.front 1 rfl
            have m := m.front 2 rfl
            obtain rfl := sj hj_1028
            exact ⟨_, rfl, _, rfl, _, (GLe.trans hl_1036 (GLe.trans hl_1056 hl_1075)), f.weak ⟨rfl, rfl, rfl, rfl, rfl, rfl, rfl, rfl, trivial⟩, m⟩
           ·refine k_false f rfl hc_1079 ?_
            refine k_seq (k_region ?_)
            refine l_in f rfl rfl rfl b_eql fun a f => ?_
            refine l_as f rfl rfl fun a f => ?_
            refine l_nil ?_
            rcases cond_some hj_1028 with ⟨hc_1080, hj_1028⟩ | ⟨hc_1080, hj_1028⟩
            ·refine k_true f rfl hc_1080 ?_
             refine k_region ?_
             refine l_mv f rfl rfl fun a f => ?_
             refine l_fieldAddr Tryd.underlying83 rfl Tryd.sizeOf2 (by decide) f rfl rfl fun a f => ?_
             refine l_boxCell 0 1 m Pl2 f rfl rfl rfl rfl fun a f => ?_
             obtain ⟨e_1081, he_1082, hj_1028⟩ := bind_some hj_1028
             refine l_own_at 2 m o_721 rfl T61 f rfl rfl rfl he_1082 fun p_1083 a ha_1084 f => ?_
             refine l_own_load 2 m o_721 rfl Pl66 f rfl rfl ha_1084 he_1082 fun c_1085 a h_1086 f => ?_
             subst h_1086
             refine l_as f rfl rfl fun a f => ?_
             refine l_nil ?_
             have m := m.front 2 rfl
             have m := m.front 1 rfl
             have m := m.front 2 rfl
             obtain rfl := sj hj_1028
             exact ⟨_, rfl, _, rfl, _, (GLe.trans hl_1036 (GLe.trans hl_1056 hl_1075)), f.weak ⟨rfl, rfl, rfl, rfl, rfl, rfl, rfl, rfl, trivial⟩, m⟩
            ·refine k_false f rfl hc_1080 ?_
             refine k_seq (k_region ?_)
             refine l_in f rfl rfl rfl b_eql fun a f => ?_
             refine l_as f rfl rfl fun a f => ?_
             refine l_nil ?_
             rcases cond_some hj_1028 with ⟨hc_1087, hj_1028⟩ | ⟨hc_1087, hj_1028⟩
             ·refine k_true f rfl hc_1087 ?_
              refine k_region ?_
              refine l_mv f rfl rfl fun a f => ?_
              refine l_fieldAddr Tryd.underlying83 rfl Tryd.sizeOf2 (by decide) f rfl rfl fun a f => ?_
              refine l_boxCell 0 1 m Pl2 f rfl rfl rfl rfl fun a f => ?_
              obtain ⟨e_1088, he_1089, hj_1028⟩ := bind_some hj_1028
              refine l_own_at 2 m o_721 rfl T61 f rfl rfl rfl he_1089 fun p_1090 a ha_1091 f => ?_
              refine l_own_load 2 m o_721 rfl Pl66 f rfl rfl ha_1091 he_1089 fun c_1092 a h_1093 f => ?_
              subst h_1093
              refine l_mv f rfl rfl fun a f => ?_
              refine l_in f rfl rfl rfl b_or fun a f => ?_
              refine l_as f rfl rfl fun a f => ?_
              refine l_nil ?_
              have m := m.front 2 rfl
              have m := m.front 1 rfl
              have m := m.front 2 rfl
              obtain rfl := sj hj_1028
              exact ⟨_, rfl, _, rfl, _, (GLe.trans hl_1036 (GLe.trans hl_1056 hl_1075)), f.weak ⟨rfl, rfl, rfl, rfl, rfl, rfl, rfl, rfl, trivial⟩, m⟩
             ·refine k_false f rfl hc_1087 ?_
              refine k_skip ?_
              have m := m.front 2 rfl
              have m := m.front 1 rfl
              have m := m.front 2 rfl
              obtain rfl := sj hj_1028
              exact ⟨_, rfl, _, rfl, _, (GLe.trans hl_1036 (GLe.trans hl_1056 hl_1075)), f.weak ⟨rfl, rfl, rfl, rfl, rfl, rfl, rfl, rfl, trivial⟩, m⟩
        ·refine k_false f rfl hc_1032 ?_
         refine k_skip ?_
         have m := m.front 2 rfl
         have m := m.front 1 rfl
         have m := m.front 2 rfl
         obtain rfl := sj hj_1028
         exact ⟨_, rfl, _, rfl, _, (GLe.refl _), f.weak ⟨rfl, rfl, rfl, rfl, rfl, rfl, rfl, rfl, trivial⟩, m⟩
       ·rintro a w ⟨_, rfl, x_1030, rfl, G_1029, hl_1031, f, m⟩
        have h0 := RSr.mono trivial _ _ _ _ hl_1031 h0
        have o_721 := Ow.mono (RI.mono _) hl_1031 o_721
        refine k_seq (k_seq (k_region ?_))
        refine l_mv f rfl rfl fun a f => ?_
        obtain ⟨y_1094, hy_1095, hs_714⟩ := bind_some hs_714
        refine l_res f rfl rfl Tryd.call62 (Wk.impl_vset_list hW m  hy_1095) fun v_1099 G_1096 Ho_1100 w hl_1097 m hQ_1098 a f => ?_
        obtain ⟨v_1101, it_1102, rfl, rfl, o_1103⟩ := hQ_1098
        have h0 := RSr.mono trivial _ _ _ _ hl_1097 h0
        have o_721 := Ow.mono (RI.mono _) hl_1097 o_721
        refine l_own_len 0 m o_1103 rfl Tryd.underlying63 f rfl rfl fun a f => ?_
        refine l_mv f rfl rfl fun a f => ?_
        refine l_nil ?_
        obtain ⟨q_1142, hl_1143, hs_714⟩ := bind_some hs_714
        refine k_cut (fun a w => ∃ l_1171 : List Int, l_1171 = q_1142 ∧ ∃ (G_1170 : GH) (it_1172 : Itm), GLe G_1096 G_1170 ∧ Fr a 126 [(0, v0), (2, (.pointer (some ⟨b_2, 0, none⟩))), (4, (.int .i64 (x0.length : Int))), (8, v_239), (9, (.int .u32 x_722)), (10, (.int .i64 x_723)), (11, (.pointer (some ⟨b_968, 0, none⟩)))] ∧ Mem W G_1170 w (Itm.box b_2 29 [(.slice none 0 0)] :: Itm.box b_968 83 [(.int .i64 e_963.1), (.int .i64 e_963.2.1), (.int .i64 e_963.2.2)] :: it_1172 :: H) ∧ Ow (RI .u32) 66 G_1170 it_1172 v_239 l_1171) ?_ ?_
        ·refine k_block ?_
         have m := m.front 3 rfl
         have m := m.front 3 rfl
         have m := m.front 3 rfl
         refine k_loop (fun s_1146 a w => ∃ l_1149 : List Int, ∃ x_1152 : Int, (l_1149, x_1152) = s_1146 ∧ ∃ (G_1148 : GH) (it_1150 : Itm), GLe G_1096 G_1148 ∧ Fr a 126 [(0, v0), (2, (.pointer (some ⟨b_2, 0, none⟩))), (4, (.int .i64 (x0.length : Int))), (8, v_239), (9, (.int .u32 x_722)), (10, (.int .i64 x_723)), (11, (.pointer (some ⟨b_968, 0, none⟩))), (101, v_1101), (102, (.int .i64 (y_1094.length : Int))), (103, (.int .i64 x_1152))] ∧ Mem W G_1148 w (Itm.box b_2 29 [(.slice none 0 0)] :: Itm.box b_968 83 [(.int .i64 e_963.1), (.int .i64 e_963.2.1), (.int .i64 e_963.2.2)] :: it_1150 :: it_1102 :: H) ∧ Ow (RI .u32) 66 G_1148 it_1150 v_239 l_1149) hl_1143 ⟨_, _, rfl, _, it_720, (GLe.refl _), f.weak ⟨rfl, rfl, rfl, rfl, rfl, rfl, rfl, rfl, rfl, rfl, trivial⟩, m, o_721⟩ ?_
         clear hl_1143 f m
         rintro s_1146 o_1147 hs_1144 hq_1145 a w ⟨l_1149, x_1152, rfl, G_1148, it_1150, hl_1153, f, m, o_1151⟩
         have h0 := RSr.mono trivial _ _ _ _ hl_1153 h0
         have o_1103 := Ow.mono (RI.mono _) hl_1153 o_1103
         refine k_seq (k_region ?_)
         refine l_in f rfl rfl rfl b_lss fun a f => ?_
         refine l_nil (k_seq ?_)
         rcases cond_some hs_1144 with ⟨hc_1175, hs_1144⟩ | ⟨hc_1175, hs_1144⟩
         ·refine k_true f rfl hc_1175 ?_
          refine k_skip ?_
          refine k_seq (k_block (k_seq (k_region ?_)))
          obtain ⟨e_1176, he_1177, hs_1144⟩ := bind_some hs_1144
          refine l_own_at 3 m o_1103 rfl T63 f rfl rfl rfl he_1177 fun p_1178 a ha_1179 f => ?_
          refine l_own_load 3 m o_1103 rfl Pl3 f rfl rfl ha_1179 he_1177 fun c_1180 a h_1181 f => ?_
          subst h_1181
          refine l_as f rfl rfl fun a f => ?_
          refine l_nil (k_region ?_)
          refine l_mv f rfl rfl fun a f => ?_
          refine l_fieldAddr Tryd.underlying83 rfl Tryd.sizeOf2 (by decide) f rfl rfl fun a f => ?_
          refine l_boxCell 1 0 m Pl2 f rfl rfl rfl rfl fun a f => ?_
          refine l_mv f rfl rfl fun a f => ?_
          have m := m.front 2 rfl
          obtain ⟨y_1182, hy_1183, hs_1144⟩ := bind_some hs_1144
          refine l_res f rfl rfl Tryd.call77 (Wk.impl_nets_join m o_1151 hy_1183) fun v_1187 G_1184 Ho_1188 w hl_1185 m hQ_1186 a f => ?_
          obtain ⟨it_1189, rfl, o_1190⟩ := hQ_1186
          have h0 := RSr.mono trivial _ _ _ _ hl_1185 h0
          have o_1103 := Ow.mono (RI.mono _) hl_1185 o_1103
          refine l_nil (k_region ?_)
          refine l_in f rfl rfl rfl b_add fun a f => ?_
          refine l_mv f rfl rfl fun a f => ?_
          refine l_nil ?_
          have m := m.front 3 rfl
          have m := m.front 1 rfl
          have m := m.front 3 rfl
          have m := m.front 3 rfl
          obtain rfl := sj hs_1144
          exact ⟨_, rfl, _, _, rfl, _, it_1189, (GLe.trans hl_1153 hl_1185), f.weak ⟨rfl, rfl, rfl, rfl, rfl, rfl, rfl, rfl, rfl, rfl, trivial⟩, m, o_1190⟩
         ·refine k_false f rfl hc_1175 ?_
          refine k_exit rfl ?_
          have m := m.front 2 rfl
          have m := m.front 2 rfl
          have m := m.front 2 rfl
          have m := m.eraseAt 3
          obtain rfl := sj hs_1144
          obtain rfl := hq_1145 _ rfl
          exact ⟨_, rfl, _, it_1150, hl_1153, f.weak ⟨rfl, rfl, rfl, rfl, rfl, rfl, rfl, trivial⟩, m, o_1151⟩
        ·rintro a w ⟨l_1171, rfl, G_1170, it_1172, hl_1174, f, m, o_1173⟩
         have h0 := RSr.mono trivial _ _ _ _ hl_1174 h0
         refine k_region ?_
         refine l_mv f rfl rfl fun a f => ?_
         refine l_fieldAddr Tryd.underlying83 rfl Tryd.sizeOf2 (by decide) f rfl rfl fun a f => ?_
         refine l_boxCell 1 0 m Pl2 f rfl rfl rfl rfl fun a f => ?_
         obtain ⟨y_1191, hy_1192, hs_714⟩ := bind_some hs_714
         refine l_res f rfl rfl Tryd.call48 (Wk.impl_one m  hy_1192) fun v_1196 G_1193 Ho_1197 w hl_1194 m hQ_1195 a f => ?_
         obtain ⟨rfl, rfl⟩ := hQ_1195
         have h0 := RSr.mono trivial _ _ _ _ hl_1194 h0
         have o_1173 := Ow.mono (RI.mono _) hl_1194 o_1173
         refine l_in f rfl rfl rfl b_or fun a f => ?_
         refine l_as f rfl rfl fun a f => ?_
         refine l_nil (k_region ?_)
         refine l_mv f rfl rfl fun a f => ?_
         refine l_in f rfl rfl rfl b_sub fun a f => ?_
         refine l_as f rfl rfl fun a f => ?_
         refine l_nil ?_
         have m := m.front 2 rfl
         have m := m.front 1 rfl
         have m := m.eraseAt 2
         obtain rfl := sj hs_714
         exact ⟨_, rfl, _, _, _, rfl, _, it_1172, (GLe.trans hl_724 (GLe.trans hl_1031 (GLe.trans hl_1097 (GLe.trans hl_1174 hl_1194)))), f.weak ⟨rfl, rfl, rfl, rfl, rfl, rfl, trivial⟩, m, o_1173⟩
      ·refine k_false f rfl hc_962 ?_
       refine k_exit rfl ?_
       have m := m.front 1 rfl
       have m := m.front 1 rfl
       obtain rfl := sj hs_714
       obtain rfl := hq_715 _ rfl
       exact ⟨_, rfl, _, rfl, _, it_720, hl_724, f.weak ⟨rfl, rfl, rfl, trivial⟩, m, o_721⟩
     ·rintro a w ⟨_, rfl, l_958, rfl, G_957, it_959, hl_961, f, m, o_960⟩
      have h0 := RSr.mono trivial _ _ _ _ hl_961 h0
      refine k_seq (k_region ?_)
      refine l_mv f rfl rfl fun a f => ?_
      obtain ⟨y_1198, hy_1199, hd⟩ := bind_some hd
      refine l_res f rfl rfl Tryd.call78 (Ow.lendCall (RI.mono _) 1 o_960 m rfl (fun G_1200 hl_1201 m h_1202 => Wk.impl_nets_graph__deep hW m h_1202 hy_1199) (fun _ G' _ _ ⟨a0, a1, e1, e2, o0⟩ => ⟨a0, a1, e1, e2, Ow2.free (RI.free _) G' o0⟩)) fun v_1206 G_1203 Ho_1207 w hl_1204 m hQ_1205 a f => ?_
      obtain ⟨v_1208, it_1209, rfl, rfl, o_1210⟩ := hQ_1205
      have h0 := RSr.mono trivial _ _ _ _ hl_1204 h0
      have o_960 := Ow.mono (RI.mono _) hl_1204 o_960
      refine l_alloc (cs := [(.slice none 0 0)]) Tryd.zeroValue29 m f rfl rfl fun b_1213 w a m f => ?_
      refine l_boxStore 0 0 (ds := [v_1208]) m Tryd.sizeOf29 f rfl rfl rfl (ones_cons (Ow2.one1 1 m o_1210 rfl) ones_nil) rfl (Nat.le_of_ble_eq_true rfl) rfl fun w m => ?_
      refine l_nil (k_seq (k_seq (k_region ?_)))
      refine l_boxAgg 0 0 (ds := [v_1208]) m Ag29 f rfl rfl rfl rfl rfl fun a f => ?_
      refine l_mv f rfl rfl fun a f => ?_
      obtain ⟨y_1214, hy_1215, hd⟩ := bind_some hd
      refine l_res f rfl rfl Tryd.call79 (Ow2.lendCall (RI.mono _) 1 o_1210 m rfl (fun G_1216 hl_1217 m h_1218 => Wk.impl_PrunesOk m h_1218 (RSr.mono trivial _ _ _ _ hl_1217 h0) hy_1215) (fun _ _ _ _ h => h)) fun v_1222 G_1219 Ho_1223 w hl_1220 m hQ_1221 a f => ?_
      obtain ⟨rfl, rfl⟩ := hQ_1221
      have h0 := RSr.mono trivial _ _ _ _ hl_1220 h0
      have o_1210 := Ow2.mono (RI.mono _) hl_1220 o_1210
      have o_960 := Ow.mono (RI.mono _) hl_1220 o_960
      refine l_op f rfl rfl rfl (r_not (f.eval rfl)) fun a f => ?_
      refine l_nil ?_
      rcases cond_some hd with ⟨hc_1224, hd⟩ | ⟨hc_1224, hd⟩
      ·refine k_true f rfl hc_1224 ?_
       refine k_seq (k_region ?_)
       have hb_1225 : ∀ w, (Instr.build 29 #[]).run Tryd.prog w = .ok (.agg #[(.slice none 0 0)]) w := by intro w; simp [Instr.build, Instr.fill, cells_int, cells_bool, cells_string, cells_slice, cells_pointer, cells_agg]
       refine l_build f rfl rfl hb_1225 fun a f => ?_
       refine l_boxStore 2 0 (ds := [(.slice none 0 0)]) m Tryd.sizeOf29 f rfl rfl rfl (ones_cons rfl ones_nil) rfl (Nat.le_of_ble_eq_true rfl) rfl fun w m => ?_
       refine l_as f rfl rfl fun a f => ?_
       refine l_nil ?_
       refine k_ret ?_
       obtain ⟨it_1226, m, o_1227⟩ := Ow2.nil (RI .i64) 31 2 m
       have rc_1229 := rr_agg (P := Tryd.prog) 3 m Ag29 f (s := 2) rfl rfl rfl
       have m := m.front 4 rfl
       have m := m.front 3 rfl
       have m := m.front 2 rfl
       have m := m.eraseAt 4
       have m := m.eraseAt 3
       have m := m.eraseAt 2
       have m := m.eraseAt 1
       obtain rfl := sj hd
       exact ⟨[(.agg #[(.slice none 0 0)]), (.bool false)], ⟨rc_1229, f.get _ _ rfl, trivial⟩, f.defers, _, [it_1226], (GLe.trans hl_85 (GLe.trans hl_105 (GLe.trans hl_139 (GLe.trans hl_199 (GLe.trans hl_961 (GLe.trans hl_1204 hl_1220)))))), m, _, _, rfl, rfl, o_1227⟩
      ·refine k_false f rfl hc_1224 ?_
       refine k_skip ?_
       refine k_seq (k_region ?_)
       refine l_boxAgg 0 0 (ds := [v_1208]) m Ag29 f rfl rfl rfl rfl rfl fun a f => ?_
       refine l_boxStore 2 0 (ds := [v_1208]) m Tryd.sizeOf29 f rfl rfl rfl (ones_cons (Ow2.one1 1 m o_1210 rfl) ones_nil) rfl (Nat.le_of_ble_eq_true rfl) rfl fun w m => ?_
       refine l_as f rfl rfl fun a f => ?_
       refine l_nil ?_
       refine k_ret ?_
       have rc_1230 := rr_agg (P := Tryd.prog) 2 m Ag29 f (s := 2) rfl rfl rfl
       have m := m.front 1 rfl
       have m := m.front 3 rfl
       have m := m.front 1 rfl
       have m := m.eraseAt 3
       have m := m.eraseAt 2
       have m := m.eraseAt 1
       obtain rfl := sj hd
       exact ⟨[(.agg #[v_1208]), (.bool true)], ⟨rc_1230, f.get _ _ rfl, trivial⟩, f.defers, _, [it_1209], (GLe.trans hl_85 (GLe.trans hl_105 (GLe.trans hl_139 (GLe.trans hl_199 (GLe.trans hl_961 (GLe.trans hl_1204 hl_1220)))))), m, _, _, rfl, rfl, o_1210⟩

theorem Wk.laws_eqInt64S {W w : World} {G : GH} {H : List Itm} {v0 : Value} {v1 : Value} {x0 : (List Int)} {x1 : (List Int)} (m : Mem W G w (H)) (h0 : RSl (RI .i64) G v0 x0) (h1 : RSl (RI .i64) G v1 x1) {y : Bool} (hd : D.laws_eqInt64S x0 x1 = some y) :
  Calls Tryd.prog 114 #[v0, v1] w (Res W G H (fun _ Ho v => Ho = [] ∧ v = (.bool y))) := by
 refine calls_b (args := [v0, v1]) (N := 26) [.tmp 4] Tryd.func114 rfl rfl (Nat.le_of_ble_eq_true rfl) rfl fun a f => ?_
 unfold D.laws_eqInt64S at hd
 refine k_seq (k_region ?_)
 refine l_as f rfl rfl fun a f => ?_
 refine l_nil (k_seq (k_seq (k_region ?_)))
 refine l_mv f rfl rfl fun a f => ?_
 refine l_len Tryd.underlying31 f rfl rfl h0 fun a f => ?_
 refine l_mv f rfl rfl fun a f => ?_
 refine l_len Tryd.underlying31 f rfl rfl h1 fun a f => ?_
 refine l_in f rfl rfl rfl b_neq fun a f => ?_
 refine l_nil ?_
 rcases cond_some hd with ⟨hc_1, hd⟩ | ⟨hc_1, hd⟩
 ·refine k_true f rfl hc_1 ?_
  refine k_seq (k_region ?_)
  refine l_as f rfl rfl fun a f => ?_
  refine l_nil ?_
  refine k_ret ?_
  obtain rfl := sj hd
  exact ⟨[(.bool false)], ⟨f.get _ _ rfl, trivial⟩, f.defers, _, [], (GLe.refl _), m, rfl, rfl⟩
 ·refine k_false f rfl hc_1 ?_
  refine k_skip ?_
  refine k_seq (k_seq (k_region ?_))
  refine l_as f rfl rfl fun a f => ?_
  refine l_nil ?_
  obtain ⟨q_36, hl_37, hd⟩ := bind_some hd
  refine k_cut (fun a w => ∃ q_36' : Unit, q_36 = .inl q_36' ∧ ∃ (G_61 : GH), GLe G G_61 ∧ Fr a 26 [] ∧ Mem W G_61 w (H)) ?_ ?_
  ·refine k_block ?_
   refine k_loop (fun s_40 a w => ∃ x_43 : Int, x_43 = s_40 ∧ ∃ (G_42 : GH), GLe G G_42 ∧ Fr a 26 [(0, v0), (1, v1), (5, (.int .i64 x_43))] ∧ Mem W G_42 w (H)) hl_37 ⟨_, rfl, _, (GLe.refl _), f.weak ⟨rfl, rfl, rfl, trivial⟩, m⟩ ?_
   clear hl_37 f m
   rintro s_40 o_41 hs_38 hq_39 a w ⟨x_43, rfl, G_42, hl_44, f, m⟩
   have h0 := RSl.mono (RI.mono _) _ _ _ _ hl_44 h0
   have h1 := RSl.mono (RI.mono _) _ _ _ _ hl_44 h1
   refine k_seq (k_seq (k_region ?_))
   refine l_mv f rfl rfl fun a f => ?_
   refine l_mv f rfl rfl fun a f => ?_
   refine l_len Tryd.underlying31 f rfl rfl h0 fun a f => ?_
   refine l_in f rfl rfl rfl b_lss fun a f => ?_
   refine l_nil ?_
   rcases cond_some hs_38 with ⟨hc_63, hs_38⟩ | ⟨hc_63, hs_38⟩
   ·refine k_true f rfl hc_63 ?_
    refine k_skip ?_
    refine k_seq (k_block (k_seq ?_))
    refine k_draw 9 Follows (by kernel_rfl) m ?_
    refine q_mv 0 9 rfl (by kernel_rfl) f rfl rfl rfl fun a f => ?_
    refine q_mv 1 9 rfl (by kernel_rfl) f rfl rfl rfl fun a f => ?_
    obtain ⟨e_64, he_65, hs_38⟩ := bind_some hs_38
    refine q_at (i := 2) 9 T31 h0 he_65 rfl (by kernel_rfl) rfl f rfl rfl rfl rfl fun p_66 c_67 a g_68 h_69 f => ?_
    subst h_69
    refine q_loadAt (i := 3) 9 Pl2 g_68 rfl (by kernel_rfl) rfl f rfl rfl rfl fun a f => ?_
    refine q_mv 4 9 rfl (by kernel_rfl) f rfl rfl rfl fun a f => ?_
    refine q_mv 5 9 rfl (by kernel_rfl) f rfl rfl rfl fun a f => ?_
    obtain ⟨e_70, he_71, hs_38⟩ := bind_some hs_38
    refine q_at (i := 6) 9 T31 h1 he_71 rfl (by kernel_rfl) rfl f rfl rfl rfl rfl fun p_72 c_73 a g_74 h_75 f => ?_
    subst h_75
    refine q_loadAt (i := 7) 9 Pl2 g_74 rfl (by kernel_rfl) rfl f rfl rfl rfl fun a f => ?_
    refine q_p 8 9 rfl (by kernel_rfl) f rfl rfl rfl (fun _ => r_int (f.eval rfl) (f.eval rfl) b_neq) fun a f => ?_
    refine q_end fun G_76 w hl_77 m => ?_
    have h0 := RSl.mono (RI.mono _) _ _ _ _ hl_77 h0
    have h1 := RSl.mono (RI.mono _) _ _ _ _ hl_77 h1
    have g_68 := At.mono hl_77 g_68
    have g_74 := At.mono hl_77 g_74
    refine l_nil ?_
    rcases cond_some hs_38 with ⟨hc_78, hs_38⟩ | ⟨hc_78, hs_38⟩
    ·refine k_true f rfl hc_78 ?_
     refine k_seq (k_region ?_)
     refine l_as f rfl rfl fun a f => ?_
     refine l_nil ?_
     refine k_ret ?_
     obtain rfl := sj hs_38
     obtain rfl := hq_39 _ rfl
     obtain rfl := sj hd
     exact ⟨[(.bool false)], ⟨f.get _ _ rfl, trivial⟩, f.defers, _, [], (GLe.trans hl_44 hl_77), m, rfl, rfl⟩
    ·refine k_false f rfl hc_78 ?_
     refine k_skip ?_
     refine k_region ?_
     refine l_mv f rfl rfl fun a f => ?_
     refine l_in f rfl rfl rfl b_add fun a f => ?_
     refine l_as f rfl rfl fun a f => ?_
     refine l_nil ?_
     obtain rfl := sj hs_38
     exact ⟨_, rfl, _, rfl, _, (GLe.trans hl_44 hl_77), f.weak ⟨rfl, rfl, rfl, trivial⟩, m⟩
   ·refine k_false f rfl hc_63 ?_
    refine k_exit rfl ?_
    obtain rfl := sj hs_38
    obtain rfl := hq_39 _ rfl
    exact ⟨_, rfl, _, hl_44, f.weak trivial, m⟩
  ·rintro a w ⟨_, rfl, G_61, hl_62, f, m⟩
   refine k_seq (k_region ?_)
   refine l_as f rfl rfl fun a f => ?_
   refine l_nil ?_
   refine k_ret ?_
   obtain rfl := sj hd
   exact ⟨[(.bool true)], ⟨f.get _ _ rfl, trivial⟩, f.defers, _, [], hl_62, m, rfl, rfl⟩

theorem Wk.laws_eqInt64SS {W w : World} {G : GH} {H : List Itm} {v0 : Value} {v1 : Value} {x0 : (List (List Int))} {x1 : (List (List Int))} (m : Mem W G w (H)) (h0 : RSl (RSl (RI .i64)) G v0 x0) (h1 : RSl (RSl (RI .i64)) G v1 x1) {y : Bool} (hd : D.laws_eqInt64SS x0 x1 = some y) :
  Calls Tryd.prog 80 #[v0, v1] w (Res W G H (fun _ Ho v => Ho = [] ∧ v = (.bool y))) := by
 refine calls_b (args := [v0, v1]) (N := 27) [.tmp 4] Tryd.func80 rfl rfl (Nat.le_of_ble_eq_true rfl) rfl fun a f => ?_
 unfold D.laws_eqInt64SS at hd
 refine k_seq (k_region ?_)
 refine l_as f rfl rfl fun a f => ?_
 refine l_nil (k_seq (k_seq (k_region ?_)))
 refine l_mv f rfl rfl fun a f => ?_
 refine l_len Tryd.underlying27 f rfl rfl h0 fun a f => ?_
 refine l_mv f rfl rfl fun a f => ?_
 refine l_len Tryd.underlying27 f rfl rfl h1 fun a f => ?_
 refine l_in f rfl rfl rfl b_neq fun a f => ?_
 refine l_nil ?_
 rcases cond_some hd with ⟨hc_1, hd⟩ | ⟨hc_1, hd⟩
 ·refine k_true f rfl hc_1 ?_
  refine k_seq (k_region ?_)
  refine l_as f rfl rfl fun a f => ?_
  refine l_nil ?_
  refine k_ret ?_
  obtain rfl := sj hd
  exact ⟨[(.bool false)], ⟨f.get _ _ rfl, trivial⟩, f.defers, _, [], (GLe.refl _), m, rfl, rfl⟩
 ·refine k_false f rfl hc_1 ?_
  refine k_skip ?_
  refine k_seq (k_seq (k_region ?_))
  refine l_as f rfl rfl fun a f => ?_
  refine l_nil ?_
  obtain ⟨q_42, hl_43, hd⟩ := bind_some hd
  refine k_cut (fun a w => ∃ q_42' : Unit, q_42 = .inl q_42' ∧ ∃ (G_70 : GH), GLe G G_70 ∧ Fr a 27 [] ∧ Mem W G_70 w (H)) ?_ ?_
  ·refine k_block ?_
   refine k_loop (fun s_46 a w => ∃ x_49 : Int, x_49 = s_46 ∧ ∃ (G_48 : GH), GLe G G_48 ∧ Fr a 27 [(0, v0), (1, v1), (5, (.int .i64 x_49))] ∧ Mem W G_48 w (H)) hl_43 ⟨_, rfl, _, (GLe.refl _), f.weak ⟨rfl, rfl, rfl, trivial⟩, m⟩ ?_
   clear hl_43 f m
   rintro s_46 o_47 hs_44 hq_45 a w ⟨x_49, rfl, G_48, hl_50, f, m⟩
   have h0 := RSl.mono (RSl.mono (RI.mono _)) _ _ _ _ hl_50 h0
   have h1 := RSl.mono (RSl.mono (RI.mono _)) _ _ _ _ hl_50 h1
   refine k_seq (k_seq (k_region ?_))
   refine l_mv f rfl rfl fun a f => ?_
   refine l_mv f rfl rfl fun a f => ?_
   refine l_len Tryd.underlying27 f rfl rfl h0 fun a f => ?_
   refine l_in f rfl rfl rfl b_lss fun a f => ?_
   refine l_nil ?_
   rcases cond_some hs_44 with ⟨hc_72, hs_44⟩ | ⟨hc_72, hs_44⟩
   ·refine k_true f rfl hc_72 ?_
    refine k_skip ?_
    refine k_seq (k_block (k_seq ?_))
    refine k_draw 10 Follows (by kernel_rfl) m ?_
    refine q_mv 0 10 rfl (by kernel_rfl) f rfl rfl rfl fun a f => ?_
    refine q_mv 1 10 rfl (by kernel_rfl) f rfl rfl rfl fun a f => ?_
    obtain ⟨e_73, he_74, hs_44⟩ := bind_some hs_44
    refine q_at (i := 2) 10 T27 h0 he_74 rfl (by kernel_rfl) rfl f rfl rfl rfl rfl fun p_75 c_76 a g_77 h_78 f => ?_
    refine q_loadAt (i := 3) 10 Pl31 g_77 rfl (by kernel_rfl) rfl f rfl rfl rfl fun a f => ?_
    refine q_mv 4 10 rfl (by kernel_rfl) f rfl rfl rfl fun a f => ?_
    refine q_mv 5 10 rfl (by kernel_rfl) f rfl rfl rfl fun a f => ?_
    obtain ⟨e_79, he_80, hs_44⟩ := bind_some hs_44
    refine q_at (i := 6) 10 T27 h1 he_80 rfl (by kernel_rfl) rfl f rfl rfl rfl rfl fun p_81 c_82 a g_83 h_84 f => ?_
    refine q_loadAt (i := 7) 10 Pl31 g_83 rfl (by kernel_rfl) rfl f rfl rfl rfl fun a f => ?_
    obtain ⟨y_85, hy_86, hs_44⟩ := bind_some hs_44
    refine q_call (i := 8) 10 rfl (by kernel_rfl) rfl f rfl rfl rfl Tryd.call114 (fun _ _ w hG_87 m => Wk.laws_eqInt64S m (RSl.mono (RI.mono _) _ _ _ _ hG_87 h_78) (RSl.mono (RI.mono _) _ _ _ _ hG_87 h_84) hy_86) fun a f => ?_
    refine q_p 9 10 rfl (by kernel_rfl) f rfl rfl rfl (fun _ => r_not (f.eval rfl)) fun a f => ?_
    refine q_end fun G_88 w hl_89 m => ?_
    have h0 := RSl.mono (RSl.mono (RI.mono _)) _ _ _ _ hl_89 h0
    have h1 := RSl.mono (RSl.mono (RI.mono _)) _ _ _ _ hl_89 h1
    have g_77 := At.mono hl_89 g_77
    have h_78 := RSl.mono (RI.mono _) _ _ _ _ hl_89 h_78
    have g_83 := At.mono hl_89 g_83
    have h_84 := RSl.mono (RI.mono _) _ _ _ _ hl_89 h_84
    refine l_nil ?_
    rcases cond_some hs_44 with ⟨hc_90, hs_44⟩ | ⟨hc_90, hs_44⟩
    ·refine k_true f rfl hc_90 ?_
     refine k_seq (k_region ?_)
     refine l_as f rfl rfl fun a f => ?_
     refine l_nil ?_
     refine k_ret ?_
     obtain rfl := sj hs_44
     obtain rfl := hq_45 _ rfl
     obtain rfl := sj hd
     exact ⟨[(.bool false)], ⟨f.get _ _ rfl, trivial⟩, f.defers, _, [], (GLe.trans hl_50 hl_89), m, rfl, rfl⟩
    ·refine k_false f rfl hc_90 ?_
     refine k_skip ?_
     refine k_region ?_
     refine l_mv f rfl rfl fun a f => ?_
     refine l_in f rfl rfl rfl b_add fun a f => ?_
     refine l_as f rfl rfl fun a f => ?_
     refine l_nil ?_
     obtain rfl := sj hs_44
     exact ⟨_, rfl, _, rfl, _, (GLe.trans hl_50 hl_89), f.weak ⟨rfl, rfl, rfl, trivial⟩, m⟩
   ·refine k_false f rfl hc_72 ?_
    refine k_exit rfl ?_
    obtain rfl := sj hs_44
    obtain rfl := hq_45 _ rfl
    exact ⟨_, rfl, _, hl_50, f.weak trivial, m⟩
  ·rintro a w ⟨_, rfl, G_70, hl_71, f, m⟩
   refine k_seq (k_region ?_)
   refine l_as f rfl rfl fun a f => ?_
   refine l_nil ?_
   refine k_ret ?_
   obtain rfl := sj hd
   exact ⟨[(.bool true)], ⟨f.get _ _ rfl, trivial⟩, f.defers, _, [], hl_71, m, rfl, rfl⟩

theorem Wk.laws_eqGraph {W w : World} {G : GH} {H : List Itm} {v0_0 : Value} {v1_0 : Value} {x0_0 : (List (List Int))} {x1_0 : (List (List Int))} (m : Mem W G w (H)) (h0_0 : RSl (RSl (RI .i64)) G v0_0 x0_0) (h1_0 : RSl (RSl (RI .i64)) G v1_0 x1_0) {y : Bool} (hd : D.laws_eqGraph x0_0 x1_0 = some y) :
  Calls Tryd.prog 23 #[(.agg #[v0_0]), (.agg #[v1_0])] w (Res W G H (fun _ Ho v => Ho = [] ∧ v = (.bool y))) := by
 refine calls_b (args := [(.agg #[v0_0]), (.agg #[v1_0])]) (N := 11) [.tmp 4] Tryd.func23 rfl rfl (Nat.le_of_ble_eq_true rfl) rfl fun a f => ?_
 unfold D.laws_eqGraph at hd
 refine k_seq (k_region ?_)
 refine l_box (cs := [v0_0]) m f rfl rfl rfl fun b_2 w a m f => ?_
 refine l_box (cs := [v1_0]) m f rfl rfl rfl fun b_4 w a m f => ?_
 refine l_as f rfl rfl fun a f => ?_
 refine l_nil (k_seq (k_seq (k_region ?_)))
 refine l_fieldAddr Tryd.underlying29 rfl Tryd.sizeOf27 (by decide) f rfl rfl fun a f => ?_
 refine l_boxCell 1 0 m Pl27 f rfl rfl rfl rfl fun a f => ?_
 refine l_fieldAddr Tryd.underlying29 rfl Tryd.sizeOf27 (by decide) f rfl rfl fun a f => ?_
 refine l_boxCell 0 0 m Pl27 f rfl rfl rfl rfl fun a f => ?_
 obtain ⟨y_5, hy_6, hd⟩ := bind_some hd
 refine l_res f rfl rfl Tryd.call80 (Wk.laws_eqInt64SS m h0_0 h1_0 hy_6) fun v_10 G_7 Ho_11 w hl_8 m hQ_9 a f => ?_
 obtain ⟨rfl, rfl⟩ := hQ_9
 have h0_0 := RSl.mono (RSl.mono (RI.mono _)) _ _ _ _ hl_8 h0_0
 have h1_0 := RSl.mono (RSl.mono (RI.mono _)) _ _ _ _ hl_8 h1_0
 refine l_op f rfl rfl rfl (r_not (f.eval rfl)) fun a f => ?_
 refine l_nil ?_
 rcases cond_some hd with ⟨hc_12, hd⟩ | ⟨hc_12, hd⟩
 ·refine k_true f rfl hc_12 ?_
  refine k_seq (k_region ?_)
  refine l_as f rfl rfl fun a f => ?_
  refine l_nil ?_
  refine k_ret ?_
  have m : Mem W G_7 w H := Mem.drop (H' := [Itm.box b_4 29 [v1_0], Itm.box b_2 29 [v0_0]]) m
  obtain rfl := sj hd
  exact ⟨[(.bool false)], ⟨f.get _ _ rfl, trivial⟩, f.defers, _, [], hl_8, m, rfl, rfl⟩
 ·refine k_false f rfl hc_12 ?_
  refine k_skip ?_
  refine k_seq (k_region ?_)
  refine l_as f rfl rfl fun a f => ?_
  refine l_nil ?_
  refine k_ret ?_
  have m : Mem W G_7 w H := Mem.drop (H' := [Itm.box b_4 29 [v1_0], Itm.box b_2 29 [v0_0]]) m
  obtain rfl := sj hd
  exact ⟨[(.bool true)], ⟨f.get _ _ rfl, trivial⟩, f.defers, _, [], hl_8, m, rfl, rfl⟩

theorem Wk.laws_eqPrune {W w : World} {G : GH} {H : List Itm} {x0_0 : Int} {x0_1 : Int} {x0_2 : Int} {x1_0 : Int} {x1_1 : Int} {x1_2 : Int} (m : Mem W G w (H))  {y : Bool} (hd : D.laws_eqPrune x0_0 x0_1 x0_2 x1_0 x1_1 x1_2 = some y) :
  Calls Tryd.prog 81 #[(.agg #[(.int .i64 x0_0), (.int .i64 x0_1), (.int .i64 x0_2)]), (.agg #[(.int .i64 x1_0), (.int .i64 x1_1), (.int .i64 x1_2)])] w (Res W G H (fun _ Ho v => Ho = [] ∧ v = (.bool y))) := by
 refine calls_b (args := [(.agg #[(.int .i64 x0_0), (.int .i64 x0_1), (.int .i64 x0_2)]), (.agg #[(.int .i64 x1_0), (.int .i64 x1_1), (.int .i64 x1_2)])]) (N := 20) [.tmp 4] Tryd.func81 rfl rfl (Nat.le_of_ble_eq_true rfl) rfl fun a f => ?_
 unfold D.laws_eqPrune at hd
 refine k_seq (k_region ?_)
 refine l_box (cs := [(.int .i64 x0_0), (.int .i64 x0_1), (.int .i64 x0_2)]) m f rfl rfl rfl fun b_2 w a m f => ?_
 refine l_box (cs := [(.int .i64 x1_0), (.int .i64 x1_1), (.int .i64 x1_2)]) m f rfl rfl rfl fun b_4 w a m f => ?_
 refine l_as f rfl rfl fun a f => ?_
 refine l_nil (k_seq (k_seq (k_region ?_)))
 refine l_fieldAddr Tryd.underlying83 rfl Tryd.sizeOf2 (by decide) f rfl rfl fun a f => ?_
 refine l_boxCell 1 0 m Pl2 f rfl rfl rfl rfl fun a f => ?_
 refine l_fieldAddr Tryd.underlying83 rfl Tryd.sizeOf2 (by decide) f rfl rfl fun a f => ?_
 refine l_boxCell 0 0 m Pl2 f rfl rfl rfl rfl fun a f => ?_
 refine l_in f rfl rfl rfl b_neq fun a f => ?_
 refine l_nil ?_
 rcases cond_some hd with ⟨hc_5, hd⟩ | ⟨hc_5, hd⟩
 ·refine k_true f rfl hc_5 ?_
  refine k_seq (k_region ?_)
  refine l_as f rfl rfl fun a f => ?_
  refine l_nil ?_
  refine k_ret ?_
  have m : Mem W G w H := Mem.drop (H' := [Itm.box b_4 83 [(.int .i64 x1_0), (.int .i64 x1_1), (.int .i64 x1_2)], Itm.box b_2 83 [(.int .i64 x0_0), (.int .i64 x0_1), (.int .i64 x0_2)]]) m
  obtain rfl := sj hd
  exact ⟨[(.bool false)], ⟨f.get _ _ rfl, trivial⟩, f.defers, _, [], (GLe.refl _), m, rfl, rfl⟩
 ·refine k_false f rfl hc_5 ?_
  refine k_skip ?_
  refine k_seq (k_seq (k_region ?_))
  refine l_fieldAddr Tryd.underlying83 rfl Tryd.sizeOf2 (by decide) f rfl rfl fun a f => ?_
  refine l_boxCell 1 1 m Pl2 f rfl rfl rfl rfl fun a f => ?_
  refine l_fieldAddr Tryd.underlying83 rfl Tryd.sizeOf2 (by decide) f rfl rfl fun a f => ?_
  refine l_boxCell 0 1 m Pl2 f rfl rfl rfl rfl fun a f => ?_
  refine l_in f rfl rfl rfl b_neq fun a f => ?_
  refine l_nil ?_
  rcases cond_some hd with ⟨hc_6, hd⟩ | ⟨hc_6, hd⟩
  ·refine k_true f rfl hc_6 ?_
   refine k_seq (k_region ?_)
   refine l_as f rfl rfl fun a f => ?_
   refine l_nil ?_
   refine k_ret ?_
   have m : Mem W G w H := Mem.drop (H' := [Itm.box b_4 83 [(.int .i64 x1_0), (.int .i64 x1_1), (.int .i64 x1_2)], Itm.box b_2 83 [(.int .i64 x0_0), (.int .i64 x0_1), (.int .i64 x0_2)]]) m
   obtain rfl := sj hd
   exact ⟨[(.bool false)], ⟨f.get _ _ rfl, trivial⟩, f.defers, _, [], (GLe.refl _), m, rfl, rfl⟩
  ·refine k_false f rfl hc_6 ?_
   refine k_skip ?_
   refine k_seq (k_seq (k_region ?_))
   refine l_fieldAddr Tryd.underlying83 rfl Tryd.sizeOf2 (by decide) f rfl rfl fun a f => ?_
   refine l_boxCell 1 2 m Pl2 f rfl rfl rfl rfl fun a f => ?_
   refine l_fieldAddr Tryd.underlying83 rfl Tryd.sizeOf2 (by decide) f rfl rfl fun a f => ?_
   refine l_boxCell 0 2 m Pl2 f rfl rfl rfl rfl fun a f => ?_
   refine l_in f rfl rfl rfl b_neq fun a f => ?_
   refine l_nil ?_
   rcases cond_some hd with ⟨hc_7, hd⟩ | ⟨hc_7, hd⟩
   ·refine k_true f rfl hc_7 ?_
    refine k_seq (k_region ?_)
    refine l_as f rfl rfl fun a f => ?_
    refine l_nil ?_
    refine k_ret ?_
    have m : Mem W G w H := Mem.drop (H' := [Itm.box b_4 83 [(.int .i64 x1_0), (.int .i64 x1_1), (.int .i64 x1_2)], Itm.box b_2 83 [(.int .i64 x0_0), (.int .i64 x0_1), (.int .i64 x0_2)]]) m
    obtain rfl := sj hd
    exact ⟨[(.bool false)], ⟨f.get _ _ rfl, trivial⟩, f.defers, _, [], (GLe.refl _), m, rfl, rfl⟩
   ·refine k_false f rfl hc_7 ?_
    refine k_skip ?_
    refine k_seq (k_region ?_)
    refine l_as f rfl rfl fun a f => ?_
    refine l_nil ?_
    refine k_ret ?_
    have m : Mem W G w H := Mem.drop (H' := [Itm.box b_4 83 [(.int .i64 x1_0), (.int .i64 x1_1), (.int .i64 x1_2)], Itm.box b_2 83 [(.int .i64 x0_0), (.int .i64 x0_1), (.int .i64 x0_2)]]) m
    obtain rfl := sj hd
    exact ⟨[(.bool true)], ⟨f.get _ _ rfl, trivial⟩, f.defers, _, [], (GLe.refl _), m, rfl, rfl⟩

theorem Wk.laws_eqPruneS {W w : World} {G : GH} {H : List Itm} {v0 : Value} {v1 : Value} {x0 : (List (Int × Int × Int))} {x1 : (List (Int × Int × Int))} (m : Mem W G w (H)) (h0 : RSr P3 G v0 x0) (h1 : RSr P3 G v1 x1) {y : Bool} (hd : D.laws_eqPruneS x0 x1 = some y) :
  Calls Tryd.prog 24 #[v0, v1] w (Res W G H (fun _ Ho v => Ho = [] ∧ v = (.bool y))) := by
 refine calls_b (args := [v0, v1]) (N := 27) [.tmp 4] Tryd.func24 rfl rfl (Nat.le_of_ble_eq_true rfl) rfl fun a f => ?_
 unfold D.laws_eqPruneS at hd
 refine k_seq (k_region ?_)
 refine l_as f rfl rfl fun a f => ?_
 refine l_nil (k_seq (k_seq (k_region ?_)))
 refine l_mv f rfl rfl fun a f => ?_
 refine l_lenR Tryd.underlying44 f rfl rfl h0 fun a f => ?_
 refine l_mv f rfl rfl fun a f => ?_
 refine l_lenR Tryd.underlying44 f rfl rfl h1 fun a f => ?_
 refine l_in f rfl rfl rfl b_neq fun a f => ?_
 refine l_nil ?_
 rcases cond_some hd with ⟨hc_1, hd⟩ | ⟨hc_1, hd⟩
 ·refine k_true f rfl hc_1 ?_
  refine k_seq (k_region ?_)
  refine l_as f rfl rfl fun a f => ?_
  refine l_nil ?_
  refine k_ret ?_
  obtain rfl := sj hd
  exact ⟨[(.bool false)], ⟨f.get _ _ rfl, trivial⟩, f.defers, _, [], (GLe.refl _), m, rfl, rfl⟩
 ·refine k_false f rfl hc_1 ?_
  refine k_skip ?_
  refine k_seq (k_seq (k_region ?_))
  refine l_as f rfl rfl fun a f => ?_
  refine l_nil ?_
  obtain ⟨q_34, hl_35, hd⟩ := bind_some hd
  refine k_cut (fun a w => ∃ q_34' : Unit, q_34 = .inl q_34' ∧ ∃ (G_58 : GH), GLe G G_58 ∧ Fr a 27 [] ∧ Mem W G_58 w (H)) ?_ ?_
  ·refine k_block ?_
   refine k_loop (fun s_38 a w => ∃ x_41 : Int, x_41 = s_38 ∧ ∃ (G_40 : GH), GLe G G_40 ∧ Fr a 27 [(0, v0), (1, v1), (5, (.int .i64 x_41))] ∧ Mem W G_40 w (H)) hl_35 ⟨_, rfl, _, (GLe.refl _), f.weak ⟨rfl, rfl, rfl, trivial⟩, m⟩ ?_
   clear hl_35 f m
   rintro s_38 o_39 hs_36 hq_37 a w ⟨x_41, rfl, G_40, hl_42, f, m⟩
   have h0 := RSr.mono trivial _ _ _ _ hl_42 h0
   have h1 := RSr.mono trivial _ _ _ _ hl_42 h1
   refine k_seq (k_seq (k_region ?_))
   refine l_mv f rfl rfl fun a f => ?_
   refine l_mv f rfl rfl fun a f => ?_
   refine l_lenR Tryd.underlying44 f rfl rfl h0 fun a f => ?_
   refine l_in f rfl rfl rfl b_lss fun a f => ?_
   refine l_nil ?_
   rcases cond_some hs_36 with ⟨hc_60, hs_36⟩ | ⟨hc_60, hs_36⟩
   ·refine k_true f rfl hc_60 ?_
    refine k_skip ?_
    refine k_seq (k_block (k_seq ?_))
    refine k_draw 10 Follows (by kernel_rfl) m ?_
    refine q_mv 0 10 rfl (by kernel_rfl) f rfl rfl rfl fun a f => ?_
    refine q_mv 1 10 rfl (by kernel_rfl) f rfl rfl rfl fun a f => ?_
    obtain ⟨e_61, he_62, hs_36⟩ := bind_some hs_36
    refine q_atR (i := 2) (listed' := #[true, true, true, false, false, false, false, false, false, false]) (C := P3) 10 T44 h0 he_62 rfl (by kernel_rfl) rfl f rfl rfl rfl rfl fun p_63 a g_64 f => ?_
    refine q_loadR (i := 3) (listed' := #[true, true, true, true, false, false, false, false, false, false]) (C := P3) [(.int .i64 e_61.1), (.int .i64 e_61.2.1), (.int .i64 e_61.2.2)] 10 Ag83 g_64 rfl rfl (by kernel_rfl) rfl f rfl rfl rfl fun a f => ?_
    refine q_mv 4 10 rfl (by kernel_rfl) f rfl rfl rfl fun a f => ?_
    refine q_mv 5 10 rfl (by kernel_rfl) f rfl rfl rfl fun a f => ?_
    obtain ⟨e_65, he_66, hs_36⟩ := bind_some hs_36
    refine q_atR (i := 6) (listed' := #[true, true, true, true, true, true, true, false, false, false]) (C := P3) 10 T44 h1 he_66 rfl (by kernel_rfl) rfl f rfl rfl rfl rfl fun p_67 a g_68 f => ?_
    refine q_loadR (i := 7) (listed' := #[true, true, true, true, true, true, true, true, false, false]) (C := P3) [(.int .i64 e_65.1), (.int .i64 e_65.2.1), (.int .i64 e_65.2.2)] 10 Ag83 g_68 rfl rfl (by kernel_rfl) rfl f rfl rfl rfl fun a f => ?_
    obtain ⟨y_69, hy_70, hs_36⟩ := bind_some hs_36
    refine q_call (i := 8) 10 rfl (by kernel_rfl) rfl f rfl rfl rfl Tryd.call81 (fun _ _ w hG_71 m => Wk.laws_eqPrune m  hy_70) fun a f => ?_
    refine q_p 9 10 rfl (by kernel_rfl) f rfl rfl rfl (fun _ => r_not (f.eval rfl)) fun a f => ?_
    refine q_end fun G_72 w hl_73 m => ?_
    have h0 := RSr.mono trivial _ _ _ _ hl_73 h0
    have h1 := RSr.mono trivial _ _ _ _ hl_73 h1
    have g_64 := AtR.mono hl_73 g_64
    have g_68 := AtR.mono hl_73 g_68
    refine l_nil ?_
    rcases cond_some hs_36 with ⟨hc_74, hs_36⟩ | ⟨hc_74, hs_36⟩
    ·refine k_true f rfl hc_74 ?_
     refine k_seq (k_region ?_)
     refine l_as f rfl rfl fun a f => ?_
     refine l_nil ?_
     refine k_ret ?_
     obtain rfl := sj hs_36
     obtain rfl := hq_37 _ rfl
     obtain rfl := sj hd
     exact ⟨[(.bool false)], ⟨f.get _ _ rfl, trivial⟩, f.defers, _, [], (GLe.trans hl_42 hl_73), m, rfl, rfl⟩
    ·refine k_false f rfl hc_74 ?_
     refine k_skip ?_
     refine k_region ?_
     refine l_mv f rfl rfl fun a f => ?_
     refine l_in f rfl rfl rfl b_add fun a f => ?_
     refine l_as f rfl rfl fun a f => ?_
     refine l_nil ?_
     obtain rfl := sj hs_36
     exact ⟨_, rfl, _, rfl, _, (GLe.trans hl_42 hl_73), f.weak ⟨rfl, rfl, rfl, trivial⟩, m⟩
   ·refine k_false f rfl hc_60 ?_
    refine k_exit rfl ?_
    obtain rfl := sj hs_36
    obtain rfl := hq_37 _ rfl
    exact ⟨_, rfl, _, hl_42, f.weak trivial, m⟩
  ·rintro a w ⟨_, rfl, G_58, hl_59, f, m⟩
   refine k_seq (k_region ?_)
   refine l_as f rfl rfl fun a f => ?_
   refine l_nil ?_
   refine k_ret ?_
   obtain rfl := sj hd
   exact ⟨[(.bool true)], ⟨f.get _ _ rfl, trivial⟩, f.defers, _, [], hl_59, m, rfl, rfl⟩

theorem Wk.laws_markPruneS {W w : World} {G : GH} {H : List Itm} {v0 : Value} {it0 : Itm} {x0 : (List (Int × Int × Int))} {x1 : Int} (m : Mem W G w (it0 :: H)) (o0 : OwR P3 83 G it0 v0 x0) {y : Int × ((List (Int × Int × Int)))} (hd : D.laws_markPruneS x0 x1 = some y) :
  Calls Tryd.prog 25 #[v0, (.int .i64 x1)] w (Res W G H (fun G' Ho v => ∃ i0 : Itm, Ho = [i0] ∧ v = (.int .i64 y.1) ∧ OwR P3 83 G' i0 v0 y.2)) := by
 refine calls_b (args := [v0, (.int .i64 x1)]) (N := 34) [.tmp 4] Tryd.func25 rfl rfl (Nat.le_of_ble_eq_true rfl) rfl fun a f => ?_
 unfold D.laws_markPruneS at hd
 refine k_seq (k_region ?_)
 refine l_as f rfl rfl fun a f => ?_
 refine l_nil (k_seq (k_seq (k_region ?_)))
 refine l_as f rfl rfl fun a f => ?_
 refine l_nil ?_
 obtain ⟨q_57, hl_58, hd⟩ := bind_some hd
 refine k_cut (fun a w => ∃ l_96 : List (Int × Int × Int), ∃ x_99 : Int, (l_96, x_99) = q_57 ∧ ∃ (G_95 : GH) (it_97 : Itm), GLe G G_95 ∧ Fr a 34 [(1, (.int .i64 x_99))] ∧ Mem W G_95 w (it_97 :: H) ∧ OwR P3 83 G_95 it_97 v0 l_96) ?_ ?_
 ·refine k_block ?_
  refine k_loop (fun s_61 a w => ∃ l_64 : List (Int × Int × Int), ∃ x_67 : Int, ∃ x_68 : Int, (l_64, x_67, x_68) = s_61 ∧ ∃ (G_63 : GH) (it_65 : Itm), GLe G G_63 ∧ Fr a 34 [(0, v0), (1, (.int .i64 x_67)), (5, (.int .i64 x_68))] ∧ Mem W G_63 w (it_65 :: H) ∧ OwR P3 83 G_63 it_65 v0 l_64) hl_58 ⟨_, _, _, rfl, _, it0, (GLe.refl _), f.weak ⟨rfl, rfl, rfl, trivial⟩, m, o0⟩ ?_
  clear hl_58 f m
  rintro s_61 o_62 hs_59 hq_60 a w ⟨l_64, x_67, x_68, rfl, G_63, it_65, hl_69, f, m, o_66⟩
  refine k_seq (k_seq (k_region ?_))
  refine l_mv f rfl rfl fun a f => ?_
  refine l_mv f rfl rfl fun a f => ?_
  refine l_ownR_len 0 m o_66 rfl Tryd.underlying44 f rfl rfl fun a f => ?_
  refine l_in f rfl rfl rfl b_lss fun a f => ?_
  refine l_nil ?_
  rcases cond_some hs_59 with ⟨hc_101, hs_59⟩ | ⟨hc_101, hs_59⟩
  ·refine k_true f rfl hc_101 ?_
   refine k_skip ?_
   refine k_seq (k_block (k_seq (k_region ?_)))
   refine l_mv f rfl rfl fun a f => ?_
   refine l_mv f rfl rfl fun a f => ?_
   refine l_mv f rfl rfl fun a f => ?_
   obtain ⟨e_102, he_103, hs_59⟩ := bind_some hs_59
   refine l_ownR_at 0 m o_66 rfl T44 f rfl rfl rfl he_103 fun p_104 a ha_105 f => ?_
   refine l_ownR_field Tryd.underlying83 rfl Tryd.sizeOf2 (by decide) f rfl rfl ha_105 fun p_106 a ha_107 f => ?_
   refine l_ownR_store (E := P3) (y' := (x_67, e_102.2.1, e_102.2.2)) [(.int .i64 x_67)] 0 m o_66 rfl Tryd.sizeOf2 f rfl rfl ha_107 he_103 rfl (ones_cons rfl ones_nil) (Nat.le_of_ble_eq_true rfl) rfl fun it_108 w m o_109 => ?_
   refine l_nil (k_seq (k_region ?_))
   refine l_mv f rfl rfl fun a f => ?_
   refine l_in f rfl rfl rfl b_add fun a f => ?_
   refine l_as f rfl rfl fun a f => ?_
   refine l_nil (k_seq (k_region ?_))
   refine l_mv f rfl rfl fun a f => ?_
   refine l_mv f rfl rfl fun a f => ?_
   refine l_mv f rfl rfl fun a f => ?_
   obtain ⟨e_110, he_111, hs_59⟩ := bind_some hs_59
   refine l_ownR_at 0 m o_109 rfl T44 f rfl rfl rfl he_111 fun p_112 a ha_113 f => ?_
   refine l_ownR_field Tryd.underlying83 rfl Tryd.sizeOf2 (by decide) f rfl rfl ha_113 fun p_114 a ha_115 f => ?_
   refine l_ownR_store (E := P3) (y' := (e_110.1, (IntKind.i64.wrap (x_67 + 1)), e_110.2.2)) [(.int .i64 (IntKind.i64.wrap (x_67 + 1)))] 0 m o_109 rfl Tryd.sizeOf2 f rfl rfl ha_115 he_111 rfl (ones_cons rfl ones_nil) (Nat.le_of_ble_eq_true rfl) rfl fun it_116 w m o_117 => ?_
   refine l_nil (k_seq (k_region ?_))
   refine l_mv f rfl rfl fun a f => ?_
   refine l_in f rfl rfl rfl b_add fun a f => ?_
   refine l_as f rfl rfl fun a f => ?_
   refine l_nil (k_seq (k_region ?_))
   refine l_mv f rfl rfl fun a f => ?_
   refine l_mv f rfl rfl fun a f => ?_
   refine l_mv f rfl rfl fun a f => ?_
   obtain ⟨e_118, he_119, hs_59⟩ := bind_some hs_59
   refine l_ownR_at 0 m o_117 rfl T44 f rfl rfl rfl he_119 fun p_120 a ha_121 f => ?_
   refine l_ownR_field Tryd.underlying83 rfl Tryd.sizeOf2 (by decide) f rfl rfl ha_121 fun p_122 a ha_123 f => ?_
   refine l_ownR_store (E := P3) (y' := (e_118.1, e_118.2.1, (IntKind.i64.wrap ((IntKind.i64.wrap (x_67 + 1)) + 1)))) [(.int .i64 (IntKind.i64.wrap ((IntKind.i64.wrap (x_67 + 1)) + 1)))] 0 m o_117 rfl Tryd.sizeOf2 f rfl rfl ha_123 he_119 rfl (ones_cons rfl ones_nil) (Nat.le_of_ble_eq_true rfl) rfl fun it_124 w m o_125 => ?_
   refine l_nil (k_region ?_)
   refine l_mv f rfl rfl fun a f => ?_
   refine l_in f rfl rfl rfl b_add fun a f => ?_
   refine l_as f rfl rfl fun a f => ?_
   refine l_nil (k_region ?_)
   refine l_mv f rfl rfl fun a f => ?_
   refine l_in f rfl rfl rfl b_add fun a f => ?_
   refine l_as f rfl rfl fun a f => ?_
   refine l_nil ?_
   obtain rfl := sj hs_59
   exact ⟨_, rfl, _, _, _, rfl, _, it_124, hl_69, f.weak ⟨rfl, rfl, rfl, trivial⟩, m, o_125⟩
  ·refine k_false f rfl hc_101 ?_
   refine k_exit rfl ?_
   obtain rfl := sj hs_59
   obtain rfl := hq_60 _ rfl
   exact ⟨_, _, rfl, _, it_65, hl_69, f.weak ⟨rfl, trivial⟩, m, o_66⟩
 ·rintro a w ⟨l_96, x_99, rfl, G_95, it_97, hl_100, f, m, o_98⟩
  refine k_seq (k_region ?_)
  refine l_mv f rfl rfl fun a f => ?_
  refine l_as f rfl rfl fun a f => ?_
  refine l_nil ?_
  refine k_ret ?_
  obtain rfl := sj hd
  exact ⟨[(.int .i64 x_99)], ⟨f.get _ _ rfl, trivial⟩, f.defers, _, [it_97], hl_100, m, _, rfl, rfl, o_98⟩

theorem Wk.laws_markInt64S {W w : World} {G : GH} {H : List Itm} {v0 : Value} {it0 : Itm} {x0 : (List Int)} {x1 : Int} (m : Mem W G w (it0 :: H)) (o0 : Ow (RI .i64) 2 G it0 v0 x0) {y : Int × ((List Int))} (hd : D.laws_markInt64S x0 x1 = some y) :
  Calls Tryd.prog 115 #[v0, (.int .i64 x1)] w (Res W G H (fun G' Ho v => ∃ i0 : Itm, Ho = [i0] ∧ v = (.int .i64 y.1) ∧ Ow (RI .i64) 2 G' i0 v0 y.2)) := by
 refine calls_b (args := [v0, (.int .i64 x1)]) (N := 19) [.tmp 4] Tryd.func115 rfl rfl (Nat.le_of_ble_eq_true rfl) rfl fun a f => ?_
 unfold D.laws_markInt64S at hd
 refine k_seq (k_region ?_)
 refine l_as f rfl rfl fun a f => ?_
 refine l_nil (k_seq (k_seq (k_region ?_)))
 refine l_as f rfl rfl fun a f => ?_
 refine l_nil ?_
 obtain ⟨q_21, hl_22, hd⟩ := bind_some hd
 refine k_cut (fun a w => ∃ l_42 : List Int, ∃ x_45 : Int, (l_42, x_45) = q_21 ∧ ∃ (G_41 : GH) (it_43 : Itm), GLe G G_41 ∧ Fr a 19 [(1, (.int .i64 x_45))] ∧ Mem W G_41 w (it_43 :: H) ∧ Ow (RI .i64) 2 G_41 it_43 v0 l_42) ?_ ?_
 ·refine k_block ?_
  refine k_loop (fun s_25 a w => ∃ l_28 : List Int, ∃ x_31 : Int, ∃ x_32 : Int, (l_28, x_31, x_32) = s_25 ∧ ∃ (G_27 : GH) (it_29 : Itm), GLe G G_27 ∧ Fr a 19 [(0, v0), (1, (.int .i64 x_31)), (5, (.int .i64 x_32))] ∧ Mem W G_27 w (it_29 :: H) ∧ Ow (RI .i64) 2 G_27 it_29 v0 l_28) hl_22 ⟨_, _, _, rfl, _, it0, (GLe.refl _), f.weak ⟨rfl, rfl, rfl, trivial⟩, m, o0⟩ ?_
  clear hl_22 f m
  rintro s_25 o_26 hs_23 hq_24 a w ⟨l_28, x_31, x_32, rfl, G_27, it_29, hl_33, f, m, o_30⟩
  refine k_seq (k_seq (k_region ?_))
  refine l_mv f rfl rfl fun a f => ?_
  refine l_mv f rfl rfl fun a f => ?_
  refine l_own_len 0 m o_30 rfl Tryd.underlying31 f rfl rfl fun a f => ?_
  refine l_in f rfl rfl rfl b_lss fun a f => ?_
  refine l_nil ?_
  rcases cond_some hs_23 with ⟨hc_47, hs_23⟩ | ⟨hc_47, hs_23⟩
  ·refine k_true f rfl hc_47 ?_
   refine k_skip ?_
   refine k_seq (k_block (k_seq (k_region ?_)))
   refine l_mv f rfl rfl fun a f => ?_
   refine l_mv f rfl rfl fun a f => ?_
   refine l_mv f rfl rfl fun a f => ?_
   obtain ⟨e_48, he_49, hs_23⟩ := bind_some hs_23
   refine l_own_at 0 m o_30 rfl T31 f rfl rfl rfl he_49 fun p_50 a ha_51 f => ?_
   refine l_own_store 0 m o_30 rfl Tryd.sizeOf2 f rfl rfl ha_51 he_49 rfl rfl rfl fun it_52 w m o_53 => ?_
   refine l_nil (k_region ?_)
   refine l_mv f rfl rfl fun a f => ?_
   refine l_in f rfl rfl rfl b_add fun a f => ?_
   refine l_as f rfl rfl fun a f => ?_
   refine l_nil (k_region ?_)
   refine l_mv f rfl rfl fun a f => ?_
   refine l_in f rfl rfl rfl b_add fun a f => ?_
   refine l_as f rfl rfl fun a f => ?_
   refine l_nil ?_
   obtain rfl := sj hs_23
   exact ⟨_, rfl, _, _, _, rfl, _, it_52, hl_33, f.weak ⟨rfl, rfl, rfl, trivial⟩, m, o_53⟩
  ·refine k_false f rfl hc_47 ?_
   refine k_exit rfl ?_
   obtain rfl := sj hs_23
   obtain rfl := hq_24 _ rfl
   exact ⟨_, _, rfl, _, it_29, hl_33, f.weak ⟨rfl, trivial⟩, m, o_30⟩
 ·rintro a w ⟨l_42, x_45, rfl, G_41, it_43, hl_46, f, m, o_44⟩
  refine k_seq (k_region ?_)
  refine l_mv f rfl rfl fun a f => ?_
  refine l_as f rfl rfl fun a f => ?_
  refine l_nil ?_
  refine k_ret ?_
  obtain rfl := sj hd
  exact ⟨[(.int .i64 x_45)], ⟨f.get _ _ rfl, trivial⟩, f.defers, _, [it_43], hl_46, m, _, rfl, rfl, o_44⟩

theorem Wk.laws_markInt64SS {W w : World} {G : GH} {H : List Itm} {v0 : Value} {it0 : Itm} {x0 : (List (List Int))} {x1 : Int} (m : Mem W G w (it0 :: H)) (o0 : Ow2 (RI .i64) 31 2 G it0 v0 x0) {y : Int × ((List (List Int)))} (hd : D.laws_markInt64SS x0 x1 = some y) :
  Calls Tryd.prog 82 #[v0, (.int .i64 x1)] w (Res W G H (fun G' Ho v => ∃ i0 : Itm, Ho = [i0] ∧ v = (.int .i64 y.1) ∧ Ow2 (RI .i64) 31 2 G' i0 v0 y.2)) := by
 refine calls_b (args := [v0, (.int .i64 x1)]) (N := 19) [.tmp 4] Tryd.func82 rfl rfl (Nat.le_of_ble_eq_true rfl) rfl fun a f => ?_
 unfold D.laws_markInt64SS at hd
 refine k_seq (k_region ?_)
 refine l_as f rfl rfl fun a f => ?_
 refine l_nil (k_seq (k_seq (k_region ?_)))
 refine l_as f rfl rfl fun a f => ?_
 refine l_nil ?_
 obtain ⟨q_39, hl_40, hd⟩ := bind_some hd
 refine k_cut (fun a w => ∃ l_69 : List (List Int), ∃ x_72 : Int, (l_69, x_72) = q_39 ∧ ∃ (G_68 : GH) (it_70 : Itm), GLe G G_68 ∧ Fr a 19 [(1, (.int .i64 x_72))] ∧ Mem W G_68 w (it_70 :: H) ∧ Ow2 (RI .i64) 31 2 G_68 it_70 v0 l_69) ?_ ?_
 ·refine k_block ?_
  refine k_loop (fun s_43 a w => ∃ l_46 : List (List Int), ∃ x_49 : Int, ∃ x_50 : Int, (l_46, x_49, x_50) = s_43 ∧ ∃ (G_45 : GH) (it_47 : Itm), GLe G G_45 ∧ Fr a 19 [(0, v0), (1, (.int .i64 x_49)), (5, (.int .i64 x_50))] ∧ Mem W G_45 w (it_47 :: H) ∧ Ow2 (RI .i64) 31 2 G_45 it_47 v0 l_46) hl_40 ⟨_, _, _, rfl, _, it0, (GLe.refl _), f.weak ⟨rfl, rfl, rfl, trivial⟩, m, o0⟩ ?_
  clear hl_40 f m
  rintro s_43 o_44 hs_41 hq_42 a w ⟨l_46, x_49, x_50, rfl, G_45, it_47, hl_51, f, m, o_48⟩
  refine k_seq (k_seq (k_region ?_))
  refine l_mv f rfl rfl fun a f => ?_
  refine l_mv f rfl rfl fun a f => ?_
  refine l_own2_len 0 m o_48 rfl Tryd.underlying27 f rfl rfl fun a f => ?_
  refine l_in f rfl rfl rfl b_lss fun a f => ?_
  refine l_nil ?_
  rcases cond_some hs_41 with ⟨hc_74, hs_41⟩ | ⟨hc_74, hs_41⟩
  ·refine k_true f rfl hc_74 ?_
   refine k_skip ?_
   refine k_seq (k_block (k_region ?_))
   refine l_mv f rfl rfl fun a f => ?_
   refine l_mv f rfl rfl fun a f => ?_
   obtain ⟨e_75, he_76, hs_41⟩ := bind_some hs_41
   refine l_own2_at 0 m o_48 rfl T27 f rfl rfl rfl he_76 fun p_77 a ha_78 f => ?_
   refine l_own2_load 0 m o_48 rfl Pl31 f rfl rfl ha_78 he_76 fun c_79 a h_80 f => ?_
   refine l_mv f rfl rfl fun a f => ?_
   obtain ⟨y_81, hy_82, hs_41⟩ := bind_some hs_41
   refine l_res f rfl rfl Tryd.call115 (Ow2.callAt o_48 (RI.mono _) m he_76 h_80 (fun inn Hs m oi => Wk.laws_markInt64S m oi hy_82)) fun v_86 G_83 Ho_87 w hl_84 m hQ_85 a f => ?_
   obtain ⟨it_88, rfl, rfl, o_89⟩ := hQ_85
   refine l_as f rfl rfl fun a f => ?_
   refine l_nil (k_region ?_)
   refine l_mv f rfl rfl fun a f => ?_
   refine l_in f rfl rfl rfl b_add fun a f => ?_
   refine l_as f rfl rfl fun a f => ?_
   refine l_nil ?_
   obtain rfl := sj hs_41
   exact ⟨_, rfl, _, _, _, rfl, _, it_88, (GLe.trans hl_51 hl_84), f.weak ⟨rfl, rfl, rfl, trivial⟩, m, o_89⟩
  ·refine k_false f rfl hc_74 ?_
   refine k_exit rfl ?_
   obtain rfl := sj hs_41
   obtain rfl := hq_42 _ rfl
   exact ⟨_, _, rfl, _, it_47, hl_51, f.weak ⟨rfl, trivial⟩, m, o_48⟩
 ·rintro a w ⟨l_69, x_72, rfl, G_68, it_70, hl_73, f, m, o_71⟩
  refine k_seq (k_region ?_)
  refine l_mv f rfl rfl fun a f => ?_
  refine l_as f rfl rfl fun a f => ?_
  refine l_nil ?_
  refine k_ret ?_
  obtain rfl := sj hd
  exact ⟨[(.int .i64 x_72)], ⟨f.get _ _ rfl, trivial⟩, f.defers, _, [it_70], hl_73, m, _, rfl, rfl, o_71⟩

end Go.Proofs.YtehnblgkgaakeaaDoor

set_option maxRecDepth 100000
namespace Go.Proofs.YtehnblgkgaakeaaDoor
open Go Go.Sx


theorem Wk.laws_markGraph {W w : World} {G : GH} {H : List Itm} {v0_0 : Value} {it0_0 : Itm} {x0_0 : (List (List Int))} {x1 : Int} (m : Mem W G w (it0_0 :: H)) (o0_0 : Ow2 (RI .i64) 31 2 G it0_0 v0_0 x0_0) {y : Int × ((List (List Int)))} (hd : D.laws_markGraph x0_0 x1 = some y) :
  Calls Tryd.prog 26 #[(.agg #[v0_0]), (.int .i64 x1)] w (Res W G H (fun G' Ho v => ∃ i0 : Itm, Ho = [i0] ∧ v = (.int .i64 y.1) ∧ Ow2 (RI .i64) 31 2 G' i0 v0_0 y.2)) := by
 refine calls_b (args := [(.agg #[v0_0]), (.int .i64 x1)]) (N := 10) [.tmp 4] Tryd.func26 rfl rfl (Nat.le_of_ble_eq_true rfl) rfl fun a f => ?_
 unfold D.laws_markGraph at hd
 refine k_seq (k_region ?_)
 refine l_box (cs := [v0_0]) m f rfl rfl rfl fun b_2 w a m f => ?_
 refine l_as f rfl rfl fun a f => ?_
 refine l_nil (k_seq (k_region ?_))
 refine l_fieldAddr Tryd.underlying29 rfl Tryd.sizeOf27 (by decide) f rfl rfl fun a f => ?_
 refine l_boxCell 0 0 m Pl27 f rfl rfl rfl rfl fun a f => ?_
 refine l_mv f rfl rfl fun a f => ?_
 have m := m.front 1 rfl
 obtain ⟨y_3, hy_4, hd⟩ := bind_some hd
 refine l_res f rfl rfl Tryd.call82 (Wk.laws_markInt64SS m o0_0 hy_4) fun v_8 G_5 Ho_9 w hl_6 m hQ_7 a f => ?_
 obtain ⟨it_10, rfl, rfl, o_11⟩ := hQ_7
 refine l_as f rfl rfl fun a f => ?_
 refine l_nil (k_seq (k_region ?_))
 refine l_mv f rfl rfl fun a f => ?_
 refine l_as f rfl rfl fun a f => ?_
 refine l_nil ?_
 refine k_ret ?_
 have m := m.eraseAt 1
 obtain rfl := sj hd
 exact ⟨[(.int .i64 y_3.1)], ⟨f.get _ _ rfl, trivial⟩, f.defers, _, [it_10], hl_6, m, _, rfl, rfl, o_11⟩

theorem Wk.laws_heldInt64S {W w : World} {G : GH} {H : List Itm} {v0 : Value} {x0 : (List Int)} {x1 : Int} (m : Mem W G w (H)) (h0 : RSl (RI .i64) G v0 x0) {y : Int} (hd : D.laws_heldInt64S x0 x1 = some y) :
  Calls Tryd.prog 116 #[v0, (.int .i64 x1)] w (Res W G H (fun _ Ho v => Ho = [] ∧ v = (.int .i64 y))) := by
 refine calls_b (args := [v0, (.int .i64 x1)]) (N := 21) [.tmp 4] Tryd.func116 rfl rfl (Nat.le_of_ble_eq_true rfl) rfl fun a f => ?_
 unfold D.laws_heldInt64S at hd
 refine k_seq (k_region ?_)
 refine l_as f rfl rfl fun a f => ?_
 refine l_nil (k_seq (k_seq (k_region ?_)))
 refine l_as f rfl rfl fun a f => ?_
 refine l_nil ?_
 obtain ⟨q_20, hl_21, hd⟩ := bind_some hd
 refine k_cut (fun a w => ∃ q_20' : Int, q_20 = .inl q_20' ∧ ∃ x_39 : Int, x_39 = q_20' ∧ ∃ (G_38 : GH), GLe G G_38 ∧ Fr a 21 [(1, (.int .i64 x_39))] ∧ Mem W G_38 w (H)) ?_ ?_
 ·refine k_block ?_
  refine k_loop (fun s_24 a w => ∃ x_27 : Int, ∃ x_28 : Int, (x_27, x_28) = s_24 ∧ ∃ (G_26 : GH), GLe G G_26 ∧ Fr a 21 [(0, v0), (1, (.int .i64 x_27)), (5, (.int .i64 x_28))] ∧ Mem W G_26 w (H)) hl_21 ⟨_, _, rfl, _, (GLe.refl _), f.weak ⟨rfl, rfl, rfl, trivial⟩, m⟩ ?_
  clear hl_21 f m
  rintro s_24 o_25 hs_22 hq_23 a w ⟨x_27, x_28, rfl, G_26, hl_29, f, m⟩
  have h0 := RSl.mono (RI.mono _) _ _ _ _ hl_29 h0
  refine k_seq (k_seq (k_region ?_))
  refine l_mv f rfl rfl fun a f => ?_
  refine l_mv f rfl rfl fun a f => ?_
  refine l_len Tryd.underlying31 f rfl rfl h0 fun a f => ?_
  refine l_in f rfl rfl rfl b_lss fun a f => ?_
  refine l_nil ?_
  rcases cond_some hs_22 with ⟨hc_41, hs_22⟩ | ⟨hc_41, hs_22⟩
  ·refine k_true f rfl hc_41 ?_
   refine k_skip ?_
   refine k_seq (k_block (k_seq (k_seq (k_region ?_))))
   refine l_mv f rfl rfl fun a f => ?_
   refine l_mv f rfl rfl fun a f => ?_
   obtain ⟨e_42, he_43, hs_22⟩ := bind_some hs_22
   refine l_at T31 f rfl rfl rfl h0 he_43 fun p_44 c_45 a g_46 h_47 f => ?_
   subst h_47
   refine l_loadAt m Pl2 f rfl rfl g_46 fun a f => ?_
   refine l_mv f rfl rfl fun a f => ?_
   refine l_in f rfl rfl rfl b_neq fun a f => ?_
   refine l_nil ?_
   rcases cond_some hs_22 with ⟨hc_48, hs_22⟩ | ⟨hc_48, hs_22⟩
   ·refine k_true f rfl hc_48 ?_
    refine k_seq (k_region ?_)
    refine l_as f rfl rfl fun a f => ?_
    refine l_nil ?_
    refine k_ret ?_
    obtain rfl := sj hs_22
    obtain rfl := hq_23 _ rfl
    obtain rfl := sj hd
    exact ⟨[(.int .i64 (-1))], ⟨f.get _ _ rfl, trivial⟩, f.defers, _, [], hl_29, m, rfl, rfl⟩
   ·refine k_false f rfl hc_48 ?_
    refine k_skip ?_
    refine k_region ?_
    refine l_mv f rfl rfl fun a f => ?_
    refine l_in f rfl rfl rfl b_add fun a f => ?_
    refine l_as f rfl rfl fun a f => ?_
    refine l_nil (k_region ?_)
    refine l_mv f rfl rfl fun a f => ?_
    refine l_in f rfl rfl rfl b_add fun a f => ?_
    refine l_as f rfl rfl fun a f => ?_
    refine l_nil ?_
    obtain rfl := sj hs_22
    exact ⟨_, rfl, _, _, rfl, _, hl_29, f.weak ⟨rfl, rfl, rfl, trivial⟩, m⟩
  ·refine k_false f rfl hc_41 ?_
   refine k_exit rfl ?_
   obtain rfl := sj hs_22
   obtain rfl := hq_23 _ rfl
   exact ⟨_, rfl, _, rfl, _, hl_29, f.weak ⟨rfl, trivial⟩, m⟩
 ·rintro a w ⟨_, rfl, x_39, rfl, G_38, hl_40, f, m⟩
  refine k_seq (k_region ?_)
  refine l_mv f rfl rfl fun a f => ?_
  refine l_as f rfl rfl fun a f => ?_
  refine l_nil ?_
  refine k_ret ?_
  obtain rfl := sj hd
  exact ⟨[(.int .i64 x_39)], ⟨f.get _ _ rfl, trivial⟩, f.defers, _, [], hl_40, m, rfl, rfl⟩

theorem Wk.laws_heldInt64SS {W w : World} {G : GH} {H : List Itm} {v0 : Value} {x0 : (List (List Int))} {x1 : Int} (m : Mem W G w (H)) (h0 : RSl (RSl (RI .i64)) G v0 x0) {y : Int} (hd : D.laws_heldInt64SS x0 x1 = some y) :
  Calls Tryd.prog 83 #[v0, (.int .i64 x1)] w (Res W G H (fun _ Ho v => Ho = [] ∧ v = (.int .i64 y))) := by
 refine calls_b (args := [v0, (.int .i64 x1)]) (N := 21) [.tmp 4] Tryd.func83 rfl rfl (Nat.le_of_ble_eq_true rfl) rfl fun a f => ?_
 unfold D.laws_heldInt64SS at hd
 refine k_seq (k_region ?_)
 refine l_as f rfl rfl fun a f => ?_
 refine l_nil (k_seq (k_seq (k_region ?_)))
 refine l_as f rfl rfl fun a f => ?_
 refine l_nil ?_
 obtain ⟨q_34, hl_35, hd⟩ := bind_some hd
 refine k_cut (fun a w => ∃ q_34' : Int, q_34 = .inl q_34' ∧ ∃ x_60 : Int, x_60 = q_34' ∧ ∃ (G_59 : GH), GLe G G_59 ∧ Fr a 21 [(1, (.int .i64 x_60))] ∧ Mem W G_59 w (H)) ?_ ?_
 ·refine k_block ?_
  refine k_loop (fun s_38 a w => ∃ x_41 : Int, ∃ x_42 : Int, (x_41, x_42) = s_38 ∧ ∃ (G_40 : GH), GLe G G_40 ∧ Fr a 21 [(0, v0), (1, (.int .i64 x_41)), (5, (.int .i64 x_42))] ∧ Mem W G_40 w (H)) hl_35 ⟨_, _, rfl, _, (GLe.refl _), f.weak ⟨rfl, rfl, rfl, trivial⟩, m⟩ ?_
  clear hl_35 f m
  rintro s_38 o_39 hs_36 hq_37 a w ⟨x_41, x_42, rfl, G_40, hl_43, f, m⟩
  have h0 := RSl.mono (RSl.mono (RI.mono _)) _ _ _ _ hl_43 h0
  refine k_seq (k_seq (k_region ?_))
  refine l_mv f rfl rfl fun a f => ?_
  refine l_mv f rfl rfl fun a f => ?_
  refine l_len Tryd.underlying27 f rfl rfl h0 fun a f => ?_
  refine l_in f rfl rfl rfl b_lss fun a f => ?_
  refine l_nil ?_
  rcases cond_some hs_36 with ⟨hc_62, hs_36⟩ | ⟨hc_62, hs_36⟩
  ·refine k_true f rfl hc_62 ?_
   refine k_skip ?_
   refine k_seq (k_block (k_seq (k_region ?_)))
   refine l_mv f rfl rfl fun a f => ?_
   refine l_mv f rfl rfl fun a f => ?_
   obtain ⟨e_63, he_64, hs_36⟩ := bind_some hs_36
   refine l_at T27 f rfl rfl rfl h0 he_64 fun p_65 c_66 a g_67 h_68 f => ?_
   refine l_loadAt m Pl31 f rfl rfl g_67 fun a f => ?_
   refine l_mv f rfl rfl fun a f => ?_
   obtain ⟨y_69, hy_70, hs_36⟩ := bind_some hs_36
   refine l_res f rfl rfl Tryd.call116 (Wk.laws_heldInt64S m h_68 hy_70) fun v_74 G_71 Ho_75 w hl_72 m hQ_73 a f => ?_
   obtain ⟨rfl, rfl⟩ := hQ_73
   have h0 := RSl.mono (RSl.mono (RI.mono _)) _ _ _ _ hl_72 h0
   have g_67 := At.mono hl_72 g_67
   have h_68 := RSl.mono (RI.mono _) _ _ _ _ hl_72 h_68
   refine l_as f rfl rfl fun a f => ?_
   refine l_nil (k_seq (k_region ?_))
   refine l_mv f rfl rfl fun a f => ?_
   refine l_in f rfl rfl rfl b_lss fun a f => ?_
   refine l_nil ?_
   rcases cond_some hs_36 with ⟨hc_76, hs_36⟩ | ⟨hc_76, hs_36⟩
   ·refine k_true f rfl hc_76 ?_
    refine k_seq (k_region ?_)
    refine l_as f rfl rfl fun a f => ?_
    refine l_nil ?_
    refine k_ret ?_
    obtain rfl := sj hs_36
    obtain rfl := hq_37 _ rfl
    obtain rfl := sj hd
    exact ⟨[(.int .i64 (-1))], ⟨f.get _ _ rfl, trivial⟩, f.defers, _, [], (GLe.trans hl_43 hl_72), m, rfl, rfl⟩
   ·refine k_false f rfl hc_76 ?_
    refine k_skip ?_
    refine k_region ?_
    refine l_mv f rfl rfl fun a f => ?_
    refine l_in f rfl rfl rfl b_add fun a f => ?_
    refine l_as f rfl rfl fun a f => ?_
    refine l_nil ?_
    obtain rfl := sj hs_36
    exact ⟨_, rfl, _, _, rfl, _, (GLe.trans hl_43 hl_72), f.weak ⟨rfl, rfl, rfl, trivial⟩, m⟩
  ·refine k_false f rfl hc_62 ?_
   refine k_exit rfl ?_
   obtain rfl := sj hs_36
   obtain rfl := hq_37 _ rfl
   exact ⟨_, rfl, _, rfl, _, hl_43, f.weak ⟨rfl, trivial⟩, m⟩
 ·rintro a w ⟨_, rfl, x_60, rfl, G_59, hl_61, f, m⟩
  refine k_seq (k_region ?_)
  refine l_mv f rfl rfl fun a f => ?_
  refine l_as f rfl rfl fun a f => ?_
  refine l_nil ?_
  refine k_ret ?_
  obtain rfl := sj hd
  exact ⟨[(.int .i64 x_60)], ⟨f.get _ _ rfl, trivial⟩, f.defers, _, [], hl_61, m, rfl, rfl⟩

theorem Wk.laws_heldGraph {W w : World} {G : GH} {H : List Itm} {v0_0 : Value} {x0_0 : (List (List Int))} {x1 : Int} (m : Mem W G w (H)) (h0_0 : RSl (RSl (RI .i64)) G v0_0 x0_0) {y : Int} (hd : D.laws_heldGraph x0_0 x1 = some y) :
  Calls Tryd.prog 27 #[(.agg #[v0_0]), (.int .i64 x1)] w (Res W G H (fun _ Ho v => Ho = [] ∧ v = (.int .i64 y))) := by
 refine calls_b (args := [(.agg #[v0_0]), (.int .i64 x1)]) (N := 12) [.tmp 4] Tryd.func27 rfl rfl (Nat.le_of_ble_eq_true rfl) rfl fun a f => ?_
 unfold D.laws_heldGraph at hd
 refine k_seq (k_region ?_)
 refine l_box (cs := [v0_0]) m f rfl rfl rfl fun b_2 w a m f => ?_
 refine l_as f rfl rfl fun a f => ?_
 refine l_nil (k_seq (k_region ?_))
 refine l_fieldAddr Tryd.underlying29 rfl Tryd.sizeOf27 (by decide) f rfl rfl fun a f => ?_
 refine l_boxCell 0 0 m Pl27 f rfl rfl rfl rfl fun a f => ?_
 refine l_mv f rfl rfl fun a f => ?_
 obtain ⟨y_3, hy_4, hd⟩ := bind_some hd
 refine l_res f rfl rfl Tryd.call83 (Wk.laws_heldInt64SS m h0_0 hy_4) fun v_8 G_5 Ho_9 w hl_6 m hQ_7 a f => ?_
 obtain ⟨rfl, rfl⟩ := hQ_7
 have h0_0 := RSl.mono (RSl.mono (RI.mono _)) _ _ _ _ hl_6 h0_0
 refine l_as f rfl rfl fun a f => ?_
 refine l_nil (k_seq (k_seq (k_region ?_)))
 refine l_mv f rfl rfl fun a f => ?_
 refine l_in f rfl rfl rfl b_lss fun a f => ?_
 refine l_nil ?_
 rcases cond_some hd with ⟨hc_10, hd⟩ | ⟨hc_10, hd⟩
 ·refine k_true f rfl hc_10 ?_
  refine k_seq (k_region ?_)
  refine l_as f rfl rfl fun a f => ?_
  refine l_nil ?_
  refine k_ret ?_
  have m : Mem W G_5 w H := Mem.drop (H' := [Itm.box b_2 29 [v0_0]]) m
  obtain rfl := sj hd
  exact ⟨[(.int .i64 (-1))], ⟨f.get _ _ rfl, trivial⟩, f.defers, _, [], hl_6, m, rfl, rfl⟩
 ·refine k_false f rfl hc_10 ?_
  refine k_skip ?_
  refine k_seq (k_region ?_)
  refine l_mv f rfl rfl fun a f => ?_
  refine l_as f rfl rfl fun a f => ?_
  refine l_nil ?_
  refine k_ret ?_
  have m : Mem W G_5 w H := Mem.drop (H' := [Itm.box b_2 29 [v0_0]]) m
  obtain rfl := sj hd
  exact ⟨[(.int .i64 y_3)], ⟨f.get _ _ rfl, trivial⟩, f.defers, _, [], hl_6, m, rfl, rfl⟩

theorem Wk.laws_FnExactGrownBy {W w : World} {G : GH} {H : List Itm} {v0 : Value} {x0 : (List (Int × Int × Int))} (hW : TabW W) (m : Mem W G w (H)) (h0 : RSr P3 G v0 x0) {y : Bool} (hd : D.laws_FnExactGrownBy x0 = some y) :
  Calls Tryd.prog 4 #[v0] w (Res W G H (fun _ Ho v => Ho = [] ∧ v = (.bool y))) := by
 refine calls_b (args := [v0]) (N := 96) [.tmp 2] Tryd.func4 rfl rfl (Nat.le_of_ble_eq_true rfl) rfl fun a f => ?_
 unfold D.laws_FnExactGrownBy at hd
 refine k_seq (k_region ?_)
 refine l_as f rfl rfl fun a f => ?_
 refine l_nil (k_seq (k_region ?_))
 refine l_as f rfl rfl fun a f => ?_
 refine l_nil (k_seq (k_region ?_))
 refine l_mv f rfl rfl fun a f => ?_
 refine l_mv f rfl rfl fun a f => ?_
 obtain ⟨y_1, hy_2, hd⟩ := bind_some hd
 refine l_res f rfl rfl Tryd.call19 (Wk.laws_szPruneS m h0 hy_2) fun v_6 G_3 Ho_7 w hl_4 m hQ_5 a f => ?_
 obtain ⟨rfl, rfl⟩ := hQ_5
 have h0 := RSr.mono trivial _ _ _ _ hl_4 h0
 refine l_as f rfl rfl fun a f => ?_
 refine l_nil (k_seq (k_seq (k_region ?_)))
 refine l_mv f rfl rfl fun a f => ?_
 refine l_in f rfl rfl rfl b_lss fun a f => ?_
 refine l_nil ?_
 rcases cond_some hd with ⟨hc_8, hd⟩ | ⟨hc_8, hd⟩
 ·refine k_true f rfl hc_8 ?_
  refine k_seq (k_region ?_)
  refine l_as f rfl rfl fun a f => ?_
  refine l_nil ?_
  refine k_ret ?_
  obtain rfl := sj hd
  exact ⟨[(.bool true)], ⟨f.get _ _ rfl, trivial⟩, f.defers, _, [], hl_4, m, rfl, rfl⟩
 ·refine k_false f rfl hc_8 ?_
  refine k_skip ?_
  refine k_seq (k_region ?_)
  refine l_mv f rfl rfl fun a f => ?_
  obtain ⟨y_9, hy_10, hd⟩ := bind_some hd
  refine l_res f rfl rfl Tryd.call21 (Wk.laws_toPruneS m h0 hy_10) fun v_14 G_11 Ho_15 w hl_12 m hQ_13 a f => ?_
  obtain ⟨v_16, it_17, rfl, rfl, o_18⟩ := hQ_13
  have h0 := RSr.mono trivial _ _ _ _ hl_12 h0
  obtain ⟨G_20, hl_21, m, h_22⟩ := OwR.stamp trivial o_18 m
  have h0 := RSr.mono trivial _ _ _ _ hl_21 h0
  obtain ⟨y_23, hy_24, hd⟩ := bind_some hd
  refine l_res f rfl rfl Tryd.call20 (Wk.spec_GrownBy m h_22 hy_24) fun v_28 G_25 Ho_29 w hl_26 m hQ_27 a f => ?_
  obtain ⟨v_30, it_31, rfl, rfl, o_32⟩ := hQ_27
  have h0 := RSr.mono trivial _ _ _ _ hl_26 h0
  have h_22 := RSr.mono trivial _ _ _ _ hl_26 h_22
  refine l_mv f rfl rfl fun a f => ?_
  refine l_op f rfl rfl rfl (r_extract (f.eval rfl) rfl) fun a f => ?_
  refine l_op f rfl rfl rfl (r_extract (f.eval rfl) rfl) fun a f => ?_
  refine l_alloc (cs := [(.slice none 0 0)]) Tryd.zeroValue29 m f rfl rfl fun b_35 w a m f => ?_
  refine l_boxStore 0 0 (ds := [v_30]) m Tryd.sizeOf29 f rfl rfl rfl (ones_cons (Ow.one1 1 m o_32 rfl) ones_nil) rfl (Nat.le_of_ble_eq_true rfl) rfl fun w m => ?_
  refine l_as f rfl rfl fun a f => ?_
  refine l_nil (k_seq (k_region ?_))
  refine l_mv f rfl rfl fun a f => ?_
  obtain ⟨y_36, hy_37, hd⟩ := bind_some hd
  refine l_res f rfl rfl Tryd.call21 (Wk.laws_toPruneS m h0 hy_37) fun v_41 G_38 Ho_42 w hl_39 m hQ_40 a f => ?_
  obtain ⟨v_43, it_44, rfl, rfl, o_45⟩ := hQ_40
  have h0 := RSr.mono trivial _ _ _ _ hl_39 h0
  have o_32 := Ow.mono (RSl.mono (RI.mono _)) hl_39 o_32
  refine l_as f rfl rfl fun a f => ?_
  refine l_nil (k_seq (k_region ?_))
  refine l_mv f rfl rfl fun a f => ?_
  obtain ⟨y_47, hy_48, hd⟩ := bind_some hd
  refine l_res f rfl rfl Tryd.call22 (OwR.lendCall trivial 0 o_45 m rfl (fun G_49 hl_50 m h_51 => Wk.impl_GrownBy hW m h_51 hy_48) (fun _ G' _ _ ⟨a0, a1, e1, e2, o0⟩ => ⟨a0, a1, e1, e2, Ow2.free (RI.free _) G' o0⟩)) fun v_55 G_52 Ho_56 w hl_53 m hQ_54 a f => ?_
  obtain ⟨v_57, it_58, rfl, rfl, o_59⟩ := hQ_54
  have h0 := RSr.mono trivial _ _ _ _ hl_53 h0
  have o_45 := OwR.mono trivial hl_53 o_45
  have o_32 := Ow.mono (RSl.mono (RI.mono _)) hl_53 o_32
  refine l_mv f rfl rfl fun a f => ?_
  refine l_op f rfl rfl rfl (r_extract (f.eval rfl) rfl) fun a f => ?_
  refine l_op f rfl rfl rfl (r_extract (f.eval rfl) rfl) fun a f => ?_
  refine l_alloc (cs := [(.slice none 0 0)]) Tryd.zeroValue29 m f rfl rfl fun b_62 w a m f => ?_
  refine l_boxStore 0 0 (ds := [v_57]) m Tryd.sizeOf29 f rfl rfl rfl (ones_cons (Ow2.one1 1 m o_59 rfl) ones_nil) rfl (Nat.le_of_ble_eq_true rfl) rfl fun w m => ?_
  refine l_as f rfl rfl fun a f => ?_
  refine l_nil (k_seq (k_seq (k_region ?_)))
  refine l_boxAgg 0 0 (ds := [v_57]) m Ag29 f rfl rfl rfl rfl rfl fun a f => ?_
  refine l_boxAgg 3 0 (ds := [v_30]) m Ag29 f rfl rfl rfl rfl rfl fun a f => ?_
  obtain ⟨y_63, hy_64, hd⟩ := bind_some hd
  refine l_res f rfl rfl Tryd.call23 (Ow2.lendCall (RI.mono _) 1 o_59 m rfl (fun G_65 hl_66 m h_67 => (Ow.lendCall (RSl.mono (RI.mono _)) 3 (Ow.mono (RSl.mono (RI.mono _)) hl_66 o_32) m rfl (fun G_68 hl_69 m h_70 => Wk.laws_eqGraph m (RSl.mono (RSl.mono (RI.mono _)) _ _ _ _ hl_69 h_67) h_70 hy_64) (fun _ _ _ _ h => h))) (fun _ _ _ _ h => h)) fun v_74 G_71 Ho_75 w hl_72 m hQ_73 a f => ?_
  obtain ⟨rfl, rfl⟩ := hQ_73
  have h0 := RSr.mono trivial _ _ _ _ hl_72 h0
  have o_59 := Ow2.mono (RI.mono _) hl_72 o_59
  have o_45 := OwR.mono trivial hl_72 o_45
  have o_32 := Ow.mono (RSl.mono (RI.mono _)) hl_72 o_32
  refine l_op f rfl rfl rfl (r_not (f.eval rfl)) fun a f => ?_
  refine l_mv f rfl rfl fun a f => ?_
  refine l_cut 4 (fun a w => ∃ G_77, GLe G_71 G_77 ∧ Mem W G_77 w (Itm.box b_62 29 [v_57] :: it_58 :: it_44 :: Itm.box b_35 29 [v_30] :: it_31 :: H) ∧ Fr a 96 [(0, v0), (3, (.int .i64 y_1)), (4, (.pointer (some ⟨b_35, 0, none⟩))), (5, (.bool y_23.2)), (6, v_43), (7, (.pointer (some ⟨b_62, 0, none⟩))), (8, (.bool y_47.2)), (32, (.agg #[v_57])), (33, (.agg #[v_30])), (34, (.bool y_63)), (35, (.bool (!y_63))), (36, (.bool (!y_63))), (40, (.bool ((!y_63) || (y_47.2 != y_23.2))))]) ?_ ?_
  ·rcases Bool.eq_false_or_eq_true (!y_63) with hc_76 | hc_76
   ·refine l_not' f rfl rfl rfl hc_76 fun a f => ?_
    refine l_not' f rfl rfl rfl hc_76 fun a f => ?_
    refine l_not' f rfl rfl rfl hc_76 fun a f => ?_
    refine l_op f rfl rfl rfl (r_pickT (f.eval rfl) hc_76 (f.eval rfl)) fun a f => ?_
    have m := m.front 4 rfl
    have m := m.front 4 rfl
    have m := m.front 4 rfl
    have m := m.front 4 rfl
    have m := m.front 4 rfl
    exact ⟨_, (GLe.refl _), m, f.weak ⟨rfl, rfl, rfl, rfl, rfl, rfl, rfl, rfl, rfl, rfl, rfl, rfl, by rw [hc_76]; rfl, trivial⟩⟩
   ·refine l_run f rfl rfl hc_76 ?_
    refine l_mv f rfl rfl fun a f => ?_
    refine l_run f rfl rfl hc_76 ?_
    refine l_mv f rfl rfl fun a f => ?_
    refine l_run f rfl rfl hc_76 ?_
    refine l_op f rfl rfl rfl (r_bool_neq (f.eval rfl) (f.eval rfl) Tryd.underlying4) fun a f => ?_
    refine l_op f rfl rfl rfl (r_pickF (f.eval rfl) hc_76 (f.eval rfl)) fun a f => ?_
    have m := m.front 4 rfl
    have m := m.front 4 rfl
    have m := m.front 4 rfl
    have m := m.front 4 rfl
    have m := m.front 4 rfl
    exact ⟨_, (GLe.refl _), m, f.weak ⟨rfl, rfl, rfl, rfl, rfl, rfl, rfl, rfl, rfl, rfl, rfl, rfl, by rw [hc_76]; rfl, trivial⟩⟩
  ·rintro a w ⟨G_77, hl_78, m, f⟩
   have h0 := RSr.mono trivial _ _ _ _ hl_78 h0
   have o_59 := Ow2.mono (RI.mono _) hl_78 o_59
   have o_45 := OwR.mono trivial hl_78 o_45
   have o_32 := Ow.mono (RSl.mono (RI.mono _)) hl_78 o_32
   refine l_nil ?_
   rcases cond_some hd with ⟨hc_79, hd⟩ | ⟨hc_79, hd⟩
   ·refine k_true f rfl hc_79 ?_
    refine k_seq (k_region ?_)
    refine l_as f rfl rfl fun a f => ?_
    refine l_nil ?_
    refine k_ret ?_
    have m : Mem W G_77 w H := Mem.drop (H' := [Itm.box b_62 29 [v_57], it_58, it_44, Itm.box b_35 29 [v_30], it_31]) m
    obtain rfl := sj hd
    exact ⟨[(.bool false)], ⟨f.get _ _ rfl, trivial⟩, f.defers, _, [], (GLe.trans hl_4 (GLe.trans hl_12 (GLe.trans hl_21 (GLe.trans hl_26 (GLe.trans hl_39 (GLe.trans hl_53 (GLe.trans hl_72 hl_78))))))), m, rfl, rfl⟩
   ·refine k_false f rfl hc_79 ?_
    refine k_skip ?_
    refine k_seq (k_seq (k_region ?_))
    refine l_mv f rfl rfl fun a f => ?_
    refine l_mv f rfl rfl fun a f => ?_
    obtain ⟨y_80, hy_81, hd⟩ := bind_some hd
    refine l_res f rfl rfl Tryd.call21 (Wk.laws_toPruneS m h0 hy_81) fun v_85 G_82 Ho_86 w hl_83 m hQ_84 a f => ?_
    obtain ⟨v_87, it_88, rfl, rfl, o_89⟩ := hQ_84
    have h0 := RSr.mono trivial _ _ _ _ hl_83 h0
    have o_59 := Ow2.mono (RI.mono _) hl_83 o_59
    have o_45 := OwR.mono trivial hl_83 o_45
    have o_32 := Ow.mono (RSl.mono (RI.mono _)) hl_83 o_32
    obtain ⟨y_91, hy_92, hd⟩ := bind_some hd
    refine l_res f rfl rfl Tryd.call24 (OwR.lendCall trivial 3 o_45 m rfl (fun G_93 hl_94 m h_95 => (OwR.lendCall trivial 0 (OwR.mono trivial hl_94 o_89) m rfl (fun G_96 hl_97 m h_98 => Wk.laws_eqPruneS m (RSr.mono trivial _ _ _ _ hl_97 h_95) h_98 hy_92) (fun _ _ _ _ h => h))) (fun _ _ _ _ h => h)) fun v_102 G_99 Ho_103 w hl_100 m hQ_101 a f => ?_
    obtain ⟨rfl, rfl⟩ := hQ_101
    have h0 := RSr.mono trivial _ _ _ _ hl_100 h0
    have o_89 := OwR.mono trivial hl_100 o_89
    have o_59 := Ow2.mono (RI.mono _) hl_100 o_59
    have o_45 := OwR.mono trivial hl_100 o_45
    have o_32 := Ow.mono (RSl.mono (RI.mono _)) hl_100 o_32
    refine l_op f rfl rfl rfl (r_not (f.eval rfl)) fun a f => ?_
    refine l_nil ?_
    rcases cond_some hd with ⟨hc_104, hd⟩ | ⟨hc_104, hd⟩
    ·refine k_true f rfl hc_104 ?_
     refine k_seq (k_region ?_)
     refine l_as f rfl rfl fun a f => ?_
     refine l_nil ?_
     refine k_ret ?_
     have m : Mem W G_99 w H := Mem.drop (H' := [it_88, Itm.box b_62 29 [v_57], it_58, it_44, Itm.box b_35 29 [v_30], it_31]) m
     obtain rfl := sj hd
     exact ⟨[(.bool false)], ⟨f.get _ _ rfl, trivial⟩, f.defers, _, [], (GLe.trans hl_4 (GLe.trans hl_12 (GLe.trans hl_21 (GLe.trans hl_26 (GLe.trans hl_39 (GLe.trans hl_53 (GLe.trans hl_72 (GLe.trans hl_78 (GLe.trans hl_83 hl_100))))))))), m, rfl, rfl⟩
    ·refine k_false f rfl hc_104 ?_
     refine k_skip ?_
     refine k_seq (k_region ?_)
     refine l_as f rfl rfl fun a f => ?_
     refine l_nil (k_seq (k_region ?_))
     refine l_mv f rfl rfl fun a f => ?_
     refine l_mv f rfl rfl fun a f => ?_
     have m := m.front 3 rfl
     obtain ⟨y_105, hy_106, hd⟩ := bind_some hd
     refine l_res f rfl rfl Tryd.call25 (Wk.laws_markPruneS m o_45 hy_106) fun v_110 G_107 Ho_111 w hl_108 m hQ_109 a f => ?_
     obtain ⟨it_112, rfl, rfl, o_113⟩ := hQ_109
     have h0 := RSr.mono trivial _ _ _ _ hl_108 h0
     have o_89 := OwR.mono trivial hl_108 o_89
     have o_59 := Ow2.mono (RI.mono _) hl_108 o_59
     have o_32 := Ow.mono (RSl.mono (RI.mono _)) hl_108 o_32
     refine l_as f rfl rfl fun a f => ?_
     refine l_nil (k_seq (k_seq (k_region ?_)))
     refine l_mv f rfl rfl fun a f => ?_
     refine l_in f rfl rfl rfl b_lss fun a f => ?_
     refine l_mv f rfl rfl fun a f => ?_
     obtain ⟨b_143, hj_144, hd⟩ := bind_some hd
     refine l_cut 5 (fun a w => ∃ G_141, GLe G_107 G_141 ∧ Mem W G_141 w (it_112 :: it_88 :: Itm.box b_62 29 [v_57] :: it_58 :: Itm.box b_35 29 [v_30] :: it_31 :: H) ∧ Fr a 96 [(0, v0), (3, (.int .i64 y_1)), (4, (.pointer (some ⟨b_35, 0, none⟩))), (5, (.bool y_23.2)), (6, v_43), (7, (.pointer (some ⟨b_62, 0, none⟩))), (8, (.bool y_47.2)), (9, (.int .i64 y_105.1)), (49, (.int .i64 y_105.1)), (50, (.bool (decide (y_105.1 < 0)))), (51, (.bool (decide (y_105.1 < 0)))), (56, (.bool b_143))]) ?_ ?_
     ·rcases cond_some hj_144 with ⟨hc_114, hj_144⟩ | ⟨hc_114, hj_144⟩
      ·refine l_not' f rfl rfl rfl hc_114 fun a f => ?_
       refine l_not' f rfl rfl rfl hc_114 fun a f => ?_
       refine l_not' f rfl rfl rfl hc_114 fun a f => ?_
       refine l_not' f rfl rfl rfl hc_114 fun a f => ?_
       refine l_op f rfl rfl rfl (r_pickT (f.eval rfl) hc_114 (f.eval rfl)) fun a f => ?_
       obtain rfl := sj hj_144
       have m := m.front 5 rfl
       have m := m.front 5 rfl
       have m := m.front 5 rfl
       have m := m.front 5 rfl
       have m := m.front 5 rfl
       have m := m.front 5 rfl
       exact ⟨_, (GLe.refl _), m, f.weak ⟨rfl, rfl, rfl, rfl, rfl, rfl, rfl, rfl, rfl, rfl, rfl, rfl, trivial⟩⟩
      ·refine l_run f rfl rfl hc_114 ?_
       refine l_boxAgg 2 0 (ds := [v_57]) m Ag29 f rfl rfl rfl rfl rfl fun a f => ?_
       refine l_run f rfl rfl hc_114 ?_
       refine l_boxAgg 4 0 (ds := [v_30]) m Ag29 f rfl rfl rfl rfl rfl fun a f => ?_
       refine l_run f rfl rfl hc_114 ?_
       obtain ⟨y_145, hy_146, hj_144⟩ := bind_some hj_144
       refine l_res f rfl rfl Tryd.call23 (Ow2.lendCall (RI.mono _) 3 o_59 m rfl (fun G_147 hl_148 m h_149 => (Ow.lendCall (RSl.mono (RI.mono _)) 4 (Ow.mono (RSl.mono (RI.mono _)) hl_148 o_32) m rfl (fun G_150 hl_151 m h_152 => Wk.laws_eqGraph m (RSl.mono (RSl.mono (RI.mono _)) _ _ _ _ hl_151 h_149) h_152 hy_146) (fun _ _ _ _ h => h))) (fun _ _ _ _ h => h)) fun v_156 G_153 Ho_157 w hl_154 m hQ_155 a f => ?_
       obtain ⟨rfl, rfl⟩ := hQ_155
       have h0 := RSr.mono trivial _ _ _ _ hl_154 h0
       have o_113 := OwR.mono trivial hl_154 o_113
       have o_89 := OwR.mono trivial hl_154 o_89
       have o_59 := Ow2.mono (RI.mono _) hl_154 o_59
       have o_32 := Ow.mono (RSl.mono (RI.mono _)) hl_154 o_32
       refine l_run f rfl rfl hc_114 ?_
       refine l_op f rfl rfl rfl (r_not (f.eval rfl)) fun a f => ?_
       refine l_op f rfl rfl rfl (r_pickF (f.eval rfl) hc_114 (f.eval rfl)) fun a f => ?_
       obtain rfl := sj hj_144
       have m := m.front 5 rfl
       have m := m.front 5 rfl
       have m := m.front 5 rfl
       have m := m.front 5 rfl
       have m := m.front 5 rfl
       have m := m.front 5 rfl
       exact ⟨_, hl_154, m, f.weak ⟨rfl, rfl, rfl, rfl, rfl, rfl, rfl, rfl, rfl, rfl, rfl, rfl, trivial⟩⟩
     ·rintro a w ⟨G_141, hl_142, m, f⟩
      have h0 := RSr.mono trivial _ _ _ _ hl_142 h0
      have o_113 := OwR.mono trivial hl_142 o_113
      have o_89 := OwR.mono trivial hl_142 o_89
      have o_59 := Ow2.mono (RI.mono _) hl_142 o_59
      have o_32 := Ow.mono (RSl.mono (RI.mono _)) hl_142 o_32
      refine l_mv f rfl rfl fun a f => ?_
      refine l_cut 4 (fun a w => ∃ G_159, GLe G_141 G_159 ∧ Mem W G_159 w (it_112 :: it_88 :: Itm.box b_62 29 [v_57] :: it_58 :: Itm.box b_35 29 [v_30] :: it_31 :: H) ∧ Fr a 96 [(0, v0), (3, (.int .i64 y_1)), (4, (.pointer (some ⟨b_35, 0, none⟩))), (5, (.bool y_23.2)), (6, v_43), (7, (.pointer (some ⟨b_62, 0, none⟩))), (8, (.bool y_47.2)), (9, (.int .i64 y_105.1)), (49, (.int .i64 y_105.1)), (50, (.bool (decide (y_105.1 < 0)))), (51, (.bool (decide (y_105.1 < 0)))), (56, (.bool b_143)), (57, (.bool b_143)), (61, (.bool (b_143 || (y_47.2 != y_23.2))))]) ?_ ?_
      ·rcases Bool.eq_false_or_eq_true b_143 with hc_158 | hc_158
       ·refine l_not' f rfl rfl rfl hc_158 fun a f => ?_
        refine l_not' f rfl rfl rfl hc_158 fun a f => ?_
        refine l_not' f rfl rfl rfl hc_158 fun a f => ?_
        refine l_op f rfl rfl rfl (r_pickT (f.eval rfl) hc_158 (f.eval rfl)) fun a f => ?_
        have m := m.front 5 rfl
        have m := m.front 5 rfl
        have m := m.front 5 rfl
        have m := m.front 5 rfl
        have m := m.front 5 rfl
        have m := m.front 5 rfl
        exact ⟨_, (GLe.refl _), m, f.weak ⟨rfl, rfl, rfl, rfl, rfl, rfl, rfl, rfl, rfl, rfl, rfl, rfl, rfl, by rw [hc_158]; rfl, trivial⟩⟩
       ·refine l_run f rfl rfl hc_158 ?_
        refine l_mv f rfl rfl fun a f => ?_
        refine l_run f rfl rfl hc_158 ?_
        refine l_mv f rfl rfl fun a f => ?_
        refine l_run f rfl rfl hc_158 ?_
        refine l_op f rfl rfl rfl (r_bool_neq (f.eval rfl) (f.eval rfl) Tryd.underlying4) fun a f => ?_
        refine l_op f rfl rfl rfl (r_pickF (f.eval rfl) hc_158 (f.eval rfl)) fun a f => ?_
        have m := m.front 5 rfl
        have m := m.front 5 rfl
        have m := m.front 5 rfl
        have m := m.front 5 rfl
        have m := m.front 5 rfl
        have m := m.front 5 rfl
        exact ⟨_, (GLe.refl _), m, f.weak ⟨rfl, rfl, rfl, rfl, rfl, rfl, rfl, rfl, rfl, rfl, rfl, rfl, rfl, by rw [hc_158]; rfl, trivial⟩⟩
      ·rintro a w ⟨G_159, hl_160, m, f⟩
       have h0 := RSr.mono trivial _ _ _ _ hl_160 h0
       have o_113 := OwR.mono trivial hl_160 o_113
       have o_89 := OwR.mono trivial hl_160 o_89
       have o_59 := Ow2.mono (RI.mono _) hl_160 o_59
       have o_32 := Ow.mono (RSl.mono (RI.mono _)) hl_160 o_32
       refine l_nil ?_
       rcases cond_some hd with ⟨hc_161, hd⟩ | ⟨hc_161, hd⟩
       ·refine k_true f rfl hc_161 ?_
        refine k_seq (k_region ?_)
        refine l_as f rfl rfl fun a f => ?_
        refine l_nil ?_
        refine k_ret ?_
        have m : Mem W G_159 w H := Mem.drop (H' := [it_112, it_88, Itm.box b_62 29 [v_57], it_58, Itm.box b_35 29 [v_30], it_31]) m
        obtain rfl := sj hd
        exact ⟨[(.bool false)], ⟨f.get _ _ rfl, trivial⟩, f.defers, _, [], (GLe.trans hl_4 (GLe.trans hl_12 (GLe.trans hl_21 (GLe.trans hl_26 (GLe.trans hl_39 (GLe.trans hl_53 (GLe.trans hl_72 (GLe.trans hl_78 (GLe.trans hl_83 (GLe.trans hl_100 (GLe.trans hl_108 (GLe.trans hl_142 hl_160)))))))))))), m, rfl, rfl⟩
       ·refine k_false f rfl hc_161 ?_
        refine k_skip ?_
        refine k_seq (k_region ?_)
        refine l_as f rfl rfl fun a f => ?_
        refine l_nil (k_seq (k_region ?_))
        refine l_boxAgg 2 0 (ds := [v_57]) m Ag29 f rfl rfl rfl rfl rfl fun a f => ?_
        refine l_mv f rfl rfl fun a f => ?_
        have m := m.front 3 rfl
        obtain ⟨y_162, hy_163, hd⟩ := bind_some hd
        refine l_res f rfl rfl Tryd.call26 (Wk.laws_markGraph m o_59 hy_163) fun v_167 G_164 Ho_168 w hl_165 m hQ_166 a f => ?_
        obtain ⟨it_169, rfl, rfl, o_170⟩ := hQ_166
        have h0 := RSr.mono trivial _ _ _ _ hl_165 h0
        have o_113 := OwR.mono trivial hl_165 o_113
        have o_89 := OwR.mono trivial hl_165 o_89
        have o_32 := Ow.mono (RSl.mono (RI.mono _)) hl_165 o_32
        refine l_as f rfl rfl fun a f => ?_
        refine l_nil (k_seq (k_region ?_))
        refine l_as f rfl rfl fun a f => ?_
        refine l_nil (k_seq (k_region ?_))
        refine l_boxAgg 3 0 (ds := [v_57]) m Ag29 f rfl rfl rfl rfl rfl fun a f => ?_
        refine l_mv f rfl rfl fun a f => ?_
        obtain ⟨y_171, hy_172, hd⟩ := bind_some hd
        refine l_res f rfl rfl Tryd.call27 (Ow2.lendCall (RI.mono _) 0 o_170 m rfl (fun G_173 hl_174 m h_175 => Wk.laws_heldGraph m h_175 hy_172) (fun _ _ _ _ h => h)) fun v_179 G_176 Ho_180 w hl_177 m hQ_178 a f => ?_
        obtain ⟨rfl, rfl⟩ := hQ_178
        have h0 := RSr.mono trivial _ _ _ _ hl_177 h0
        have o_170 := Ow2.mono (RI.mono _) hl_177 o_170
        have o_113 := OwR.mono trivial hl_177 o_113
        have o_89 := OwR.mono trivial hl_177 o_89
        have o_32 := Ow.mono (RSl.mono (RI.mono _)) hl_177 o_32
        refine l_as f rfl rfl fun a f => ?_
        refine l_nil (k_seq (k_seq (k_region ?_)))
        refine l_mv f rfl rfl fun a f => ?_
        refine l_in f rfl rfl rfl b_lss fun a f => ?_
        refine l_nil ?_
        rcases cond_some hd with ⟨hc_181, hd⟩ | ⟨hc_181, hd⟩
        ·refine k_true f rfl hc_181 ?_
         refine k_seq (k_region ?_)
         refine l_as f rfl rfl fun a f => ?_
         refine l_nil ?_
         refine k_ret ?_
         have m : Mem W G_176 w H := Mem.drop (H' := [it_169, it_112, it_88, Itm.box b_62 29 [v_57], Itm.box b_35 29 [v_30], it_31]) m
         obtain rfl := sj hd
         exact ⟨[(.bool false)], ⟨f.get _ _ rfl, trivial⟩, f.defers, _, [], (GLe.trans hl_4 (GLe.trans hl_12 (GLe.trans hl_21 (GLe.trans hl_26 (GLe.trans hl_39 (GLe.trans hl_53 (GLe.trans hl_72 (GLe.trans hl_78 (GLe.trans hl_83 (GLe.trans hl_100 (GLe.trans hl_108 (GLe.trans hl_142 (GLe.trans hl_160 (GLe.trans hl_165 hl_177)))))))))))))), m, rfl, rfl⟩
        ·refine k_false f rfl hc_181 ?_
         refine k_skip ?_
         refine k_seq (k_seq (k_region ?_))
         refine l_mv f rfl rfl fun a f => ?_
         refine l_mv f rfl rfl fun a f => ?_
         refine l_in f rfl rfl rfl b_neq fun a f => ?_
         refine l_nil ?_
         rcases cond_some hd with ⟨hc_182, hd⟩ | ⟨hc_182, hd⟩
         ·refine k_true f rfl hc_182 ?_
          refine k_seq (k_region ?_)
          refine l_as f rfl rfl fun a f => ?_
          refine l_nil ?_
          refine k_ret ?_
          have m : Mem W G_176 w H := Mem.drop (H' := [it_169, it_112, it_88, Itm.box b_62 29 [v_57], Itm.box b_35 29 [v_30], it_31]) m
          obtain rfl := sj hd
          exact ⟨[(.bool false)], ⟨f.get _ _ rfl, trivial⟩, f.defers, _, [], (GLe.trans hl_4 (GLe.trans hl_12 (GLe.trans hl_21 (GLe.trans hl_26 (GLe.trans hl_39 (GLe.trans hl_53 (GLe.trans hl_72 (GLe.trans hl_78 (GLe.trans hl_83 (GLe.trans hl_100 (GLe.trans hl_108 (GLe.trans hl_142 (GLe.trans hl_160 (GLe.trans hl_165 hl_177)))))))))))))), m, rfl, rfl⟩
         ·refine k_false f rfl hc_182 ?_
          refine k_skip ?_
          refine k_seq (k_region ?_)
          refine l_mv f rfl rfl fun a f => ?_
          obtain ⟨y_183, hy_184, hd⟩ := bind_some hd
          refine l_res f rfl rfl Tryd.call21 (Wk.laws_toPruneS m h0 hy_184) fun v_188 G_185 Ho_189 w hl_186 m hQ_187 a f => ?_
          obtain ⟨v_190, it_191, rfl, rfl, o_192⟩ := hQ_187
          have h0 := RSr.mono trivial _ _ _ _ hl_186 h0
          have o_170 := Ow2.mono (RI.mono _) hl_186 o_170
          have o_113 := OwR.mono trivial hl_186 o_113
          have o_89 := OwR.mono trivial hl_186 o_89
          have o_32 := Ow.mono (RSl.mono (RI.mono _)) hl_186 o_32
          obtain ⟨y_194, hy_195, hd⟩ := bind_some hd
          refine l_res f rfl rfl Tryd.call22 (OwR.lendCall trivial 0 o_192 m rfl (fun G_196 hl_197 m h_198 => Wk.impl_GrownBy hW m h_198 hy_195) (fun _ G' _ _ ⟨a0, a1, e1, e2, o0⟩ => ⟨a0, a1, e1, e2, Ow2.free (RI.free _) G' o0⟩)) fun v_202 G_199 Ho_203 w hl_200 m hQ_201 a f => ?_
          obtain ⟨v_204, it_205, rfl, rfl, o_206⟩ := hQ_201
          have h0 := RSr.mono trivial _ _ _ _ hl_200 h0
          have o_192 := OwR.mono trivial hl_200 o_192
          have o_170 := Ow2.mono (RI.mono _) hl_200 o_170
          have o_113 := OwR.mono trivial hl_200 o_113
          have o_89 := OwR.mono trivial hl_200 o_89
          have o_32 := Ow.mono (RSl.mono (RI.mono _)) hl_200 o_32
          refine l_mv f rfl rfl fun a f => ?_
          refine l_op f rfl rfl rfl (r_extract (f.eval rfl) rfl) fun a f => ?_
          refine l_op f rfl rfl rfl (r_extract (f.eval rfl) rfl) fun a f => ?_
          refine l_alloc (cs := [(.slice none 0 0)]) Tryd.zeroValue29 m f rfl rfl fun b_209 w a m f => ?_
          refine l_boxStore 0 0 (ds := [v_204]) m Tryd.sizeOf29 f rfl rfl rfl (ones_cons (Ow2.one1 1 m o_206 rfl) ones_nil) rfl (Nat.le_of_ble_eq_true rfl) rfl fun w m => ?_
          refine l_as f rfl rfl fun a f => ?_
          refine l_nil (k_seq (k_seq (k_region ?_)))
          refine l_boxAgg 0 0 (ds := [v_204]) m Ag29 f rfl rfl rfl rfl rfl fun a f => ?_
          refine l_boxAgg 7 0 (ds := [v_30]) m Ag29 f rfl rfl rfl rfl rfl fun a f => ?_
          obtain ⟨y_210, hy_211, hd⟩ := bind_some hd
          refine l_res f rfl rfl Tryd.call23 (Ow2.lendCall (RI.mono _) 1 o_206 m rfl (fun G_212 hl_213 m h_214 => (Ow.lendCall (RSl.mono (RI.mono _)) 7 (Ow.mono (RSl.mono (RI.mono _)) hl_213 o_32) m rfl (fun G_215 hl_216 m h_217 => Wk.laws_eqGraph m (RSl.mono (RSl.mono (RI.mono _)) _ _ _ _ hl_216 h_214) h_217 hy_211) (fun _ _ _ _ h => h))) (fun _ _ _ _ h => h)) fun v_221 G_218 Ho_222 w hl_219 m hQ_220 a f => ?_
          obtain ⟨rfl, rfl⟩ := hQ_220
          have h0 := RSr.mono trivial _ _ _ _ hl_219 h0
          have o_206 := Ow2.mono (RI.mono _) hl_219 o_206
          have o_192 := OwR.mono trivial hl_219 o_192
          have o_170 := Ow2.mono (RI.mono _) hl_219 o_170
          have o_113 := OwR.mono trivial hl_219 o_113
          have o_89 := OwR.mono trivial hl_219 o_89
          have o_32 := Ow.mono (RSl.mono (RI.mono _)) hl_219 o_32
          refine l_op f rfl rfl rfl (r_not (f.eval rfl)) fun a f => ?_
          refine l_mv f rfl rfl fun a f => ?_
          refine l_cut 4 (fun a w => ∃ G_224, GLe G_218 G_224 ∧ Mem W G_224 w (Itm.box b_209 29 [v_204] :: it_205 :: it_191 :: it_169 :: it_112 :: it_88 :: Itm.box b_62 29 [v_57] :: Itm.box b_35 29 [v_30] :: it_31 :: H) ∧ Fr a 96 [(0, v0), (3, (.int .i64 y_1)), (4, (.pointer (some ⟨b_35, 0, none⟩))), (5, (.bool y_23.2)), (6, v_43), (7, (.pointer (some ⟨b_62, 0, none⟩))), (8, (.bool y_47.2)), (9, (.int .i64 y_105.1)), (10, (.int .i64 y_162.1)), (11, (.int .i64 y_171)), (12, (.pointer (some ⟨b_209, 0, none⟩))), (13, (.bool y_194.2)), (79, (.agg #[v_204])), (80, (.agg #[v_30])), (81, (.bool y_210)), (82, (.bool (!y_210))), (83, (.bool (!y_210))), (87, (.bool ((!y_210) || (y_194.2 != y_23.2))))]) ?_ ?_
          ·rcases Bool.eq_false_or_eq_true (!y_210) with hc_223 | hc_223
           ·refine l_not' f rfl rfl rfl hc_223 fun a f => ?_
            refine l_not' f rfl rfl rfl hc_223 fun a f => ?_
            refine l_not' f rfl rfl rfl hc_223 fun a f => ?_
            refine l_op f rfl rfl rfl (r_pickT (f.eval rfl) hc_223 (f.eval rfl)) fun a f => ?_
            have m := m.front 8 rfl
            have m := m.front 8 rfl
            have m := m.front 8 rfl
            have m := m.front 8 rfl
            have m := m.front 8 rfl
            have m := m.front 8 rfl
            have m := m.front 8 rfl
            have m := m.front 8 rfl
            have m := m.front 8 rfl
            exact ⟨_, (GLe.refl _), m, f.weak ⟨rfl, rfl, rfl, rfl, rfl, rfl, rfl, rfl, rfl, rfl, rfl, rfl, rfl, rfl, rfl, rfl, rfl, by rw [hc_223]; rfl, trivial⟩⟩
           ·refine l_run f rfl rfl hc_223 ?_
            refine l_mv f rfl rfl fun a f => ?_
            refine l_run f rfl rfl hc_223 ?_
            refine l_mv f rfl rfl fun a f => ?_
            refine l_run f rfl rfl hc_223 ?_
            refine l_op f rfl rfl rfl (r_bool_neq (f.eval rfl) (f.eval rfl) Tryd.underlying4) fun a f => ?_
            refine l_op f rfl rfl rfl (r_pickF (f.eval rfl) hc_223 (f.eval rfl)) fun a f => ?_
            have m := m.front 8 rfl
            have m := m.front 8 rfl
            have m := m.front 8 rfl
            have m := m.front 8 rfl
            have m := m.front 8 rfl
            have m := m.front 8 rfl
            have m := m.front 8 rfl
            have m := m.front 8 rfl
            have m := m.front 8 rfl
            exact ⟨_, (GLe.refl _), m, f.weak ⟨rfl, rfl, rfl, rfl, rfl, rfl, rfl, rfl, rfl, rfl, rfl, rfl, rfl, rfl, rfl, rfl, rfl, by rw [hc_223]; rfl, trivial⟩⟩
          ·rintro a w ⟨G_224, hl_225, m, f⟩
           have h0 := RSr.mono trivial _ _ _ _ hl_225 h0
           have o_206 := Ow2.mono (RI.mono _) hl_225 o_206
           have o_192 := OwR.mono trivial hl_225 o_192
           have o_170 := Ow2.mono (RI.mono _) hl_225 o_170
           have o_113 := OwR.mono trivial hl_225 o_113
           have o_89 := OwR.mono trivial hl_225 o_89
           have o_32 := Ow.mono (RSl.mono (RI.mono _)) hl_225 o_32
           refine l_nil ?_
           rcases cond_some hd with ⟨hc_226, hd⟩ | ⟨hc_226, hd⟩
           ·refine k_true f rfl hc_226 ?_
            refine k_seq (k_region ?_)
            refine l_as f rfl rfl fun a f => ?_
            refine l_nil ?_
            refine k_ret ?_
            have m : Mem W G_224 w H := Mem.drop (H' := [Itm.box b_209 29 [v_204], it_205, it_191, it_169, it_112, it_88, Itm.box b_62 29 [v_57], Itm.box b_35 29 [v_30], it_31]) m
            obtain rfl := sj hd
            exact ⟨[(.bool false)], ⟨f.get _ _ rfl, trivial⟩, f.defers, _, [], (GLe.trans hl_4 (GLe.trans hl_12 (GLe.trans hl_21 (GLe.trans hl_26 (GLe.trans hl_39 (GLe.trans hl_53 (GLe.trans hl_72 (GLe.trans hl_78 (GLe.trans hl_83 (GLe.trans hl_100 (GLe.trans hl_108 (GLe.trans hl_142 (GLe.trans hl_160 (GLe.trans hl_165 (GLe.trans hl_177 (GLe.trans hl_186 (GLe.trans hl_200 (GLe.trans hl_219 hl_225)))))))))))))))))), m, rfl, rfl⟩
           ·refine k_false f rfl hc_226 ?_
            refine k_skip ?_
            refine k_seq (k_region ?_)
            refine l_as f rfl rfl fun a f => ?_
            refine l_nil (k_seq (k_region ?_))
            refine l_boxAgg 6 0 (ds := [v_57]) m Ag29 f rfl rfl rfl rfl rfl fun a f => ?_
            refine l_mv f rfl rfl fun a f => ?_
            obtain ⟨y_227, hy_228, hd⟩ := bind_some hd
            refine l_res f rfl rfl Tryd.call27 (Ow2.lendCall (RI.mono _) 3 o_170 m rfl (fun G_229 hl_230 m h_231 => Wk.laws_heldGraph m h_231 hy_228) (fun _ _ _ _ h => h)) fun v_235 G_232 Ho_236 w hl_233 m hQ_234 a f => ?_
            obtain ⟨rfl, rfl⟩ := hQ_234
            have h0 := RSr.mono trivial _ _ _ _ hl_233 h0
            have o_206 := Ow2.mono (RI.mono _) hl_233 o_206
            have o_192 := OwR.mono trivial hl_233 o_192
            have o_170 := Ow2.mono (RI.mono _) hl_233 o_170
            have o_113 := OwR.mono trivial hl_233 o_113
            have o_89 := OwR.mono trivial hl_233 o_89
            have o_32 := Ow.mono (RSl.mono (RI.mono _)) hl_233 o_32
            refine l_as f rfl rfl fun a f => ?_
            refine l_nil (k_seq (k_seq (k_region ?_)))
            refine l_mv f rfl rfl fun a f => ?_
            refine l_in f rfl rfl rfl b_lss fun a f => ?_
            refine l_nil ?_
            rcases cond_some hd with ⟨hc_237, hd⟩ | ⟨hc_237, hd⟩
            ·refine k_true f rfl hc_237 ?_
             refine k_seq (k_region ?_)
             refine l_as f rfl rfl fun a f => ?_
             refine l_nil ?_
             refine k_ret ?_
             have m : Mem W G_232 w H := Mem.drop (H' := [Itm.box b_209 29 [v_204], it_205, it_191, it_169, it_112, it_88, Itm.box b_62 29 [v_57], Itm.box b_35 29 [v_30], it_31]) m
             obtain rfl := sj hd
             exact ⟨[(.bool false)], ⟨f.get _ _ rfl, trivial⟩, f.defers, _, [], (GLe.trans hl_4 (GLe.trans hl_12 (GLe.trans hl_21 (GLe.trans hl_26 (GLe.trans hl_39 (GLe.trans hl_53 (GLe.trans hl_72 (GLe.trans hl_78 (GLe.trans hl_83 (GLe.trans hl_100 (GLe.trans hl_108 (GLe.trans hl_142 (GLe.trans hl_160 (GLe.trans hl_165 (GLe.trans hl_177 (GLe.trans hl_186 (GLe.trans hl_200 (GLe.trans hl_219 (GLe.trans hl_225 hl_233))))))))))))))))))), m, rfl, rfl⟩
            ·refine k_false f rfl hc_237 ?_
             refine k_skip ?_
             refine k_seq (k_seq (k_region ?_))
             refine l_mv f rfl rfl fun a f => ?_
             refine l_mv f rfl rfl fun a f => ?_
             refine l_in f rfl rfl rfl b_neq fun a f => ?_
             refine l_nil ?_
             rcases cond_some hd with ⟨hc_238, hd⟩ | ⟨hc_238, hd⟩
             ·refine k_true f rfl hc_238 ?_
              refine k_seq (k_region ?_)
              refine l_as f rfl rfl fun a f => ?_
              refine l_nil ?_
              refine k_ret ?_
              have m : Mem W G_232 w H := Mem.drop (H' := [Itm.box b_209 29 [v_204], it_205, it_191, it_169, it_112, it_88, Itm.box b_62 29 [v_57], Itm.box b_35 29 [v_30], it_31]) m
              obtain rfl := sj hd
              exact ⟨[(.bool false)], ⟨f.get _ _ rfl, trivial⟩, f.defers, _, [], (GLe.trans hl_4 (GLe.trans hl_12 (GLe.trans hl_21 (GLe.trans hl_26 (GLe.trans hl_39 (GLe.trans hl_53 (GLe.trans hl_72 (GLe.trans hl_78 (GLe.trans hl_83 (GLe.trans hl_100 (GLe.trans hl_108 (GLe.trans hl_142 (GLe.trans hl_160 (GLe.trans hl_165 (GLe.trans hl_177 (GLe.trans hl_186 (GLe.trans hl_200 (GLe.trans hl_219 (GLe.trans hl_225 hl_233))))))))))))))))))), m, rfl, rfl⟩
             ·refine k_false f rfl hc_238 ?_
              refine k_skip ?_
              refine k_seq (k_region ?_)
              refine l_as f rfl rfl fun a f => ?_
              refine l_nil ?_
              refine k_ret ?_
              have m : Mem W G_232 w H := Mem.drop (H' := [Itm.box b_209 29 [v_204], it_205, it_191, it_169, it_112, it_88, Itm.box b_62 29 [v_57], Itm.box b_35 29 [v_30], it_31]) m
              obtain rfl := sj hd
              exact ⟨[(.bool true)], ⟨f.get _ _ rfl, trivial⟩, f.defers, _, [], (GLe.trans hl_4 (GLe.trans hl_12 (GLe.trans hl_21 (GLe.trans hl_26 (GLe.trans hl_39 (GLe.trans hl_53 (GLe.trans hl_72 (GLe.trans hl_78 (GLe.trans hl_83 (GLe.trans hl_100 (GLe.trans hl_108 (GLe.trans hl_142 (GLe.trans hl_160 (GLe.trans hl_165 (GLe.trans hl_177 (GLe.trans hl_186 (GLe.trans hl_200 (GLe.trans hl_219 (GLe.trans hl_225 hl_233))))))))))))))))))), m, rfl, rfl⟩

end Go.Proofs.YtehnblgkgaakeaaDoor

/- Loops in closed form: over the elements of a list, over the numbers below one, with a way out. Plain facts, no program in sight. -/
namespace Go.Sx
theorem w64 {x : Int} (h1 : -9223372036854775808 ≤ x) (h2 : x < 9223372036854775808) : IntKind.i64.wrap x = x := by
  simp only [IntKind.wrap, IntKind.bits, IntKind.signed]
  have e : (2 : Int) ^ 64 = 18446744073709551616 := by decide
  have e' : (2 : Int) ^ (64 - 1) = 9223372036854775808 := by decide
  simp
  omega

theorem dlt {i n : Nat} (h : i < n) : decide ((i : Int) < (n : Int)) = true := by simp; omega
theorem dnlt {n : Nat} : decide ((n : Int) < (n : Int)) = false := by simp
theorem idx_nat {α : Type} {xs : List α} {i : Nat} (h : i < xs.length) : idx xs (i : Int) = some xs[i] := by
  unfold idx; rw [if_pos (by omega)]; simp [h]
theorem wi {i : Nat} (h : i < 4611686018427387904) : IntKind.i64.wrap ((i : Int) + 1) = ((i + 1 : Nat) : Int) := by
  rw [w64 (by omega) (by omega)]; rfl
theorem wi' {i n : Nat} (h : i < n) (hn : n ≤ 4611686018427387904) : IntKind.i64.wrap ((i : Int) + 1) = ((i + 1 : Nat) : Int) := wi (by omega)
theorem getD_lt {α : Type} {xs : List α} {i : Nat} (h : i < xs.length) (d : α) : xs.getD i d = xs[i] := by simp [h]
theorem appendD_ok {α : Type} {xs ys : List α} (h : xs.length + ys.length ≤ 4294967296) : appendD xs ys = some (xs ++ ys) := by
  unfold appendD; rw [if_pos h]
theorem sliceD_pre {α : Type} {xs : List α} {i : Nat} (h : i ≤ xs.length) : sliceD xs 0 (i : Int) = some (xs.take i) := by
  unfold sliceD; rw [if_pos ⟨by omega, by omega, by omega⟩]; simp
theorem sliceD_post {α : Type} {xs : List α} {i : Nat} (h : i ≤ xs.length) : sliceD xs (i : Int) (xs.length : Int) = some (xs.drop i) := by
  unfold sliceD; rw [if_pos ⟨by omega, by omega, by omega⟩]; simp
theorem makeD_ok {α : Type} {z : α} {n : Nat} {c : Int} (h : (n : Int) ≤ c) (h2 : c ≤ 4294967296) : makeD z (n : Int) c = some (List.replicate n z) := by
  unfold makeD; rw [if_pos ⟨by omega, h, h2⟩]; simp
theorem makeD_zero {α : Type} {z : α} {c : Int} (h : 0 ≤ c) (h2 : c ≤ 4294967296) : makeD z 0 c = some [] := by
  unfold makeD; rw [if_pos ⟨by omega, h, h2⟩]; simp

/-- a round either goes on, nearer to the end, or leaves with what was promised -/
def Stp {σ ρ : Type} (I : σ → Prop) (μ : σ → Nat) (Post : ρ → Prop) (s : σ) : σ ⊕ ρ → Prop
  | .inl s' => I s' ∧ μ s' < μ s
  | .inr r => Post r

theorem loop_then {σ ρ β : Type} {step : σ → Option (σ ⊕ ρ)} {s : σ} {k : ρ → Option β} {Q : β → Prop} (I : σ → Prop) (μ : σ → Nat) (Post : ρ → Prop)
    (hstep : ∀ s, I s → ∃ y, step s = some y ∧ Stp I μ Post s y) (h0 : I s) (hk : ∀ r, Post r → ∃ y, k r = some y ∧ Q y) : ∃ y, (loopF step s).bind k = some y ∧ Q y := by
  obtain ⟨r, hr, hp⟩ := loopF_inv (step := step) I μ Post (fun s hs => by
    obtain ⟨y, hy, hq⟩ := hstep s hs
    cases y with
    | inl s' => exact .inl ⟨s', hy, hq.1, hq.2⟩
    | inr r => exact .inr ⟨r, hy, hq⟩) s h0
  rw [hr]
  exact hk r hp
theorem bind_then {α β : Type} {e : Option α} {k : α → Option β} {Q : β → Prop} (R : α → Prop) (h : ∃ x, e = some x ∧ R x) (hk : ∀ x, R x → ∃ y, k x = some y ∧ Q y) : ∃ y, e.bind k = some y ∧ Q y := by
  obtain ⟨x, rfl, hx⟩ := h
  exact hk x hx

/-- from state a to state b in so many rounds -/
theorem loop_steps {S ρ : Type} {step : S → Option (S ⊕ ρ)} (st : Nat → S) (n : Nat) (h : ∀ i, i < n → step (st i) = some (.inl (st (i + 1)))) : loopF step (st 0) = loopF step (st n) := by
  have key : ∀ k, k ≤ n → loopF step (st 0) = loopF step (st k) := by
    intro k
    induction k with
    | zero => intro _; rfl
    | succ k ih => intro hk; rw [ih (by omega), loopF_more (h k (by omega))]
  exact key n (Nat.le_refl n)

/-- and out of it -/
theorem loop_to {S ρ β : Type} {step : S → Option (S ⊕ ρ)} {k : ρ → Option β} {s0 : S} (st : Nat → S) (n : Nat) (r : ρ) (h0 : st 0 = s0) (h : ∀ i, i < n → step (st i) = some (.inl (st (i + 1)))) (he : step (st n) = some (.inr r)) :
    (loopF step s0).bind k = k r := by
  rw [← h0, loop_steps st n h, loopF_done he]; rfl

/-- a loop over the elements of a list, that goes to its end -/
theorem loop_list {α σ S ρ : Type} {step : S → Option (S ⊕ ρ)} (xs : List α) (enc : σ → Int → S) (f : σ → α → σ) (fin : σ → ρ) (I : σ → Prop) (s0 : σ)
    (h0 : I s0) (hstep : ∀ s (i : Nat) (h : i < xs.length), I s → step (enc s i) = some (.inl (enc (f s xs[i]) ((i + 1 : Nat) : Int))) ∧ I (f s xs[i]))
    (hend : ∀ s, I s → step (enc s xs.length) = some (.inr (fin s))) : loopF step (enc s0 0) = some (fin (xs.foldl f s0)) ∧ I (xs.foldl f s0) := by
  have key : ∀ (k i : Nat) (s : σ), i + k = xs.length → I s → loopF step (enc s i) = some (fin ((xs.drop i).foldl f s)) ∧ I ((xs.drop i).foldl f s) := by
    intro k
    induction k with
    | zero =>
      intro i s hk hs
      obtain rfl : i = xs.length := by omega
      simp only [List.drop_length, List.foldl_nil]
      exact ⟨loopF_done (hend s hs), hs⟩
    | succ k ih =>
      intro i s hk hs
      have hi : i < xs.length := by omega
      obtain ⟨h1, h2⟩ := hstep s i hi hs
      rw [loopF_more h1, List.drop_eq_getElem_cons hi, List.foldl_cons]
      exact ih (i + 1) _ (by omega) h2
  have := key xs.length 0 s0 (by omega) h0
  simpa using this

/-- and what comes behind -/
theorem loop_listb {α σ S ρ β : Type} {step : S → Option (S ⊕ ρ)} {k : ρ → Option β} (xs : List α) (enc : σ → Int → S) (f : σ → α → σ) (fin : σ → ρ) (I : σ → Prop) (s0 : σ)
    (h0 : I s0) (hstep : ∀ s (i : Nat) (h : i < xs.length), I s → step (enc s i) = some (.inl (enc (f s xs[i]) ((i + 1 : Nat) : Int))) ∧ I (f s xs[i]))
    (hend : ∀ s, I s → step (enc s xs.length) = some (.inr (fin s))) : (loopF step (enc s0 0)).bind k = k (fin (xs.foldl f s0)) := by
  rw [(loop_list xs enc f fin I s0 h0 hstep hend).1]; rfl

/-- a loop that makes one element for each element -/
theorem loop_map {α β γ S : Type} {step : S → Option (S ⊕ List β)} {k : List β → Option γ} (xs : List α) (enc : List β → Int → S) (f : α → β) (hx : xs.length ≤ 4294967296)
    (hstep : ∀ s (i : Nat) (h : i < xs.length), s.length = i → step (enc s i) = (appendD s [f xs[i]]).bind fun l => some (.inl (enc l ((i + 1 : Nat) : Int))))
    (hend : ∀ s, step (enc s xs.length) = some (.inr s)) : (loopF step (enc [] 0)).bind k = k (xs.map f) := by
  have key : ∀ i, i ≤ xs.length → loopF step (enc [] 0) = loopF step (enc ((xs.take i).map f) i) := by
    intro i
    induction i with
    | zero => intro _; simp
    | succ i ih =>
      intro hi
      rw [ih (by omega)]
      have h1 := hstep ((xs.take i).map f) i (by omega) (by simp; omega)
      have h2 : appendD ((xs.take i).map f) [f xs[i]] = some ((xs.take (i + 1)).map f) := by
        unfold appendD
        rw [if_pos (by simp; omega)]
        rw [List.take_succ_eq_append_getElem (show i < xs.length by omega), List.map_append]; rfl
      rw [h2] at h1
      rw [loopF_more h1]
  rw [key xs.length (Nat.le_refl _), List.take_length, loopF_done (hend _)]; rfl

/-- as above, where the round's effect depends on the place -/
theorem loop_nat {σ S ρ : Type} {step : S → Option (S ⊕ ρ)} (n : Nat) (enc : σ → Int → S) (f : σ → Nat → σ) (fin : σ → ρ) (I : Nat → σ → Prop) (s0 : σ)
    (h0 : I 0 s0) (hstep : ∀ s (i : Nat), i < n → I i s → step (enc s i) = some (.inl (enc (f s i) ((i + 1 : Nat) : Int))) ∧ I (i + 1) (f s i))
    (hend : ∀ s, I n s → step (enc s n) = some (.inr (fin s))) : loopF step (enc s0 0) = some (fin ((List.range n).foldl f s0)) ∧ I n ((List.range n).foldl f s0) := by
  have key : ∀ k, k ≤ n → loopF step (enc s0 0) = loopF step (enc ((List.range k).foldl f s0) k) ∧ I k ((List.range k).foldl f s0) := by
    intro k
    induction k with
    | zero => intro _; exact ⟨rfl, h0⟩
    | succ k ih =>
      intro hk
      obtain ⟨h1, h2⟩ := ih (by omega)
      obtain ⟨h3, h4⟩ := hstep _ k (by omega) h2
      rw [List.range_succ, List.foldl_append, List.foldl_cons, List.foldl_nil]
      exact ⟨by rw [h1, loopF_more h3], h4⟩
  obtain ⟨h1, h2⟩ := key n (Nat.le_refl n)
  exact ⟨by rw [h1, loopF_done (hend _ h2)], h2⟩

/-- a loop that looks for the first place where something is so -/
theorem loop_find {ρ : Type} {step : Int → Option (Int ⊕ ρ)} (n : Nat) (c : Nat → Option ρ) (fin : ρ)
    (hstep : ∀ i, i < n → step (i : Int) = match c i with | some r => some (.inr r) | none => some (.inl ((i + 1 : Nat) : Int)))
    (hend : step (n : Int) = some (.inr fin)) : loopF step 0 = some (((List.range n).findSome? c).getD fin) := by
  have key : ∀ (k i : Nat), i + k = n → loopF step (i : Int) = some (((List.range' i k).findSome? c).getD fin) := by
    intro k
    induction k with
    | zero => intro i h; obtain rfl : i = n := by omega
              simpa using loopF_done hend
    | succ k ih =>
      intro i h
      have h1 := hstep i (by omega)
      rw [List.range'_succ, List.findSome?_cons]
      cases hc : c i with
      | some r => rw [hc] at h1; simpa using loopF_done h1
      | none => rw [hc] at h1; rw [loopF_more h1]; exact ih (i + 1) (by omega)
  have := key n 0 (by omega)
  simpa [List.range_eq_range'] using this

/-- all places are good, or the first bad one ends it -/
theorem loop_allb {β : Type} {step : Int → Option (Int ⊕ (Unit ⊕ β))} {k : Unit ⊕ β → Option Bool} (n : Nat) (c : Nat → Bool) (bad : β)
    (hstep : ∀ i, i < n → step (i : Int) = if c i then some (.inl ((i + 1 : Nat) : Int)) else some (.inr (.inr bad)))
    (hend : step (n : Int) = some (.inr (.inl ()))) (hk1 : k (.inl ()) = some true) (hk2 : k (.inr bad) = some false) :
    (loopF step 0).bind k = some ((List.range n).all c) := by
  rw [loop_find n (fun i => if c i then none else some (.inr bad)) (.inl ()) (fun i hi => by rw [hstep i hi]; cases c i <;> rfl) hend]
  simp only [Option.bind_some]
  cases h : (List.range n).all c with
  | true =>
    rw [List.findSome?_eq_none_iff.2 (fun x hx => by rw [if_pos (List.all_eq_true.1 h x hx)])]
    exact hk1
  | false =>
    cases h2 : (List.range n).findSome? (fun i => if c i then none else some (Sum.inr bad)) with
    | none =>
      rw [List.findSome?_eq_none_iff] at h2
      have : (List.range n).all c = true := List.all_eq_true.2 fun x hx => by
        have := h2 x hx
        cases hc : c x
        · rw [hc] at this; cases this
        · rfl
      rw [this] at h; cases h
    | some r =>
      obtain ⟨x, _, hx⟩ := List.exists_of_findSome?_eq_some h2
      cases hc : c x
      · rw [hc] at hx; simp at hx; subst hx; exact hk2
      · rw [hc] at hx; simp at hx

/-- all places are good, or the first bad one ends it: what comes behind -/
theorem loop_ck {ρ β : Type} {step : Int → Option (Int ⊕ ρ)} {k : ρ → Option β} (n : Nat) (c : Nat → Bool) (fine bad : ρ)
    (hstep : ∀ i, i < n → step (i : Int) = if c i then some (.inl ((i + 1 : Nat) : Int)) else some (.inr bad))
    (hend : step (n : Int) = some (.inr fine)) : (loopF step 0).bind k = cond ((List.range n).all c) (k fine) (k bad) := by
  rw [loop_find n (fun i => if c i then none else some bad) fine (fun i hi => by rw [hstep i hi]; cases c i <;> rfl) hend]
  simp only [Option.bind_some]
  cases h : (List.range n).all c with
  | true =>
    rw [List.findSome?_eq_none_iff.2 (fun x hx => by rw [if_pos (List.all_eq_true.1 h x hx)])]
    rfl
  | false =>
    cases h2 : (List.range n).findSome? (fun i => if c i then none else some bad) with
    | none =>
      rw [List.findSome?_eq_none_iff] at h2
      have : (List.range n).all c = true := List.all_eq_true.2 fun x hx => by
        have := h2 x hx
        cases hc : c x
        · rw [hc] at this; cases this
        · rfl
      rw [this] at h; cases h
    | some r =>
      obtain ⟨x, _, hx⟩ := List.exists_of_findSome?_eq_some h2
      cases hc : c x
      · rw [hc] at hx; simp at hx; subst hx; rfl
      · rw [hc] at hx; simp at hx

/-- some place is so -/
theorem loop_anyb {β : Type} {step : Int → Option (Int ⊕ (Unit ⊕ β))} {k : Unit ⊕ β → Option Bool} (n : Nat) (c : Nat → Bool) (good : β)
    (hstep : ∀ i, i < n → step (i : Int) = if c i then some (.inr (.inr good)) else some (.inl ((i + 1 : Nat) : Int)))
    (hend : step (n : Int) = some (.inr (.inl ()))) (hk1 : k (.inl ()) = some false) (hk2 : k (.inr good) = some true) :
    (loopF step 0).bind k = some ((List.range n).any c) := by
  rw [loop_find n (fun i => if c i then some (.inr good) else none) (.inl ()) (fun i hi => by rw [hstep i hi]; cases c i <;> rfl) hend]
  simp only [Option.bind_some]
  cases h : (List.range n).any c with
  | false =>
    rw [List.findSome?_eq_none_iff.2 (fun x hx => by
      have : c x = false := by
        cases hc : c x
        · rfl
        · rw [List.any_eq_true.2 ⟨x, hx, hc⟩] at h; cases h
      rw [this]; rfl)]
    exact hk1
  | true =>
    obtain ⟨x, hx, hc⟩ := List.any_eq_true.1 h
    cases h2 : (List.range n).findSome? (fun i => if c i then some (Sum.inr good) else none) with
    | none =>
      rw [List.findSome?_eq_none_iff] at h2
      have := h2 x hx
      rw [hc] at this; cases this
    | some r =>
      obtain ⟨y, _, hy⟩ := List.exists_of_findSome?_eq_some h2
      cases hc : c y
      · rw [hc] at hy; simp at hy
      · rw [hc] at hy; simp at hy; subst hy; exact hk2

theorem range_all_list {α : Type} (xs : List α) (p : α → Bool) (c : Nat → Bool) (h : ∀ i (hi : i < xs.length), c i = p xs[i]) : (List.range xs.length).all c = xs.all p := by
  rw [Bool.eq_iff_iff, List.all_eq_true, List.all_eq_true]
  constructor
  · intro hh x hx
    obtain ⟨i, hi, rfl⟩ := List.getElem_of_mem hx
    rw [← h i hi]; exact hh i (List.mem_range.2 hi)
  · intro hh i hi
    have hi' := List.mem_range.1 hi
    rw [h i hi']; exact hh _ (List.getElem_mem _)
theorem range_any_list {α : Type} (xs : List α) (p : α → Bool) (c : Nat → Bool) (h : ∀ i (hi : i < xs.length), c i = p xs[i]) : (List.range xs.length).any c = xs.any p := by
  rw [Bool.eq_iff_iff, List.any_eq_true, List.any_eq_true]
  constructor
  · rintro ⟨i, hi, hc⟩
    have hi' := List.mem_range.1 hi
    exact ⟨_, List.getElem_mem hi', by rw [← h i hi']; exact hc⟩
  · rintro ⟨x, hx, hc⟩
    obtain ⟨i, hi, rfl⟩ := List.getElem_of_mem hx
    exact ⟨i, List.mem_range.2 hi, by rw [h i hi]; exact hc⟩
theorem all_forall (n : Nat) (c : Nat → Bool) : (List.range n).all c = true ↔ ∀ i, i < n → c i = true := by
  rw [List.all_eq_true]
  exact ⟨fun h i hi => h i (List.mem_range.2 hi), fun h i hi => h i (List.mem_range.1 hi)⟩

end Go.Sx



/- Go's sort by a comparison (slices.SortFunc), whatever is sorted: its parts as plain functions, made by program out of one instance. -/
namespace Go.Sx

noncomputable def DG.insertionSort {α : Type} (cmp : α → α → Option Int) (x0 : (List α)) (x1 : Int) (x2 : Int) : Option (((List α))) :=
  (loopF (σ := (List α) × Int) (ρ := ((List α))) (fun (s_560 : (List α) × Int) => match s_560 with | (l_563, x_566) => cond (decide (x_566 < x2)) ((loopF (σ := (List α) × Int) (ρ := ((List α))) (fun (s_984 : (List α) × Int) => match s_984 with | (l_987, x_990) => (cond (decide (x1 < x_990)) ((idx l_987 x_990).bind fun e_1079 => (idx l_987 (IntKind.i64.wrap (x_990 - 1))).bind fun e_1085 => (cmp e_1079 e_1085).bind fun y_1091 => some (decide (y_1091 < 0))) (some false)).bind fun b_1077 => cond b_1077 ((idx l_987 (IntKind.i64.wrap (x_990 - 1))).bind fun e_1097 => (idx l_987 x_990).bind fun e_1103 => (idx l_987 x_990).bind fun e_1109 => (idx (l_987.set (Int.toNat x_990) e_1097) (IntKind.i64.wrap (x_990 - 1))).bind fun e_1117 => some (.inl (((l_987.set (Int.toNat x_990) e_1097).set (Int.toNat (IntKind.i64.wrap (x_990 - 1))) e_1103), (IntKind.i64.wrap (x_990 - 1))))) (some (.inr l_987))) (l_563, x_566)).bind fun l_1056 => some (.inl (l_1056, (IntKind.i64.wrap (x_566 + 1))))) (some (.inr l_563))) (x0, (IntKind.i64.wrap (x1 + 1)))).bind fun l_844 => some l_844

noncomputable def DG.siftDown {α : Type} (cmp : α → α → Option Int) (x0 : (List α)) (x1 : Int) (x2 : Int) (x3 : Int) : Option (((List α))) :=
  (loopF (σ := (List α) × Int) (ρ := ((List α)) ⊕ (((List α)))) (fun (s_186 : (List α) × Int) => match s_186 with | (l_189, x_192) => cond (decide (x2 ≤ (IntKind.i64.wrap ((IntKind.i64.wrap (2 * x_192)) + 1)))) (some (.inr (.inl l_189))) ((cond (decide ((IntKind.i64.wrap ((IntKind.i64.wrap ((IntKind.i64.wrap (2 * x_192)) + 1)) + 1)) < x2)) ((idx l_189 (IntKind.i64.wrap (x3 + (IntKind.i64.wrap ((IntKind.i64.wrap (2 * x_192)) + 1))))).bind fun e_307 => (idx l_189 (IntKind.i64.wrap ((IntKind.i64.wrap (x3 + (IntKind.i64.wrap ((IntKind.i64.wrap (2 * x_192)) + 1)))) + 1))).bind fun e_313 => (cmp e_307 e_313).bind fun y_319 => some (decide (y_319 < 0))) (some false)).bind fun b_305 => ((cond b_305 (some (IntKind.i64.wrap ((IntKind.i64.wrap ((IntKind.i64.wrap (2 * x_192)) + 1)) + 1))) (some (IntKind.i64.wrap ((IntKind.i64.wrap (2 * x_192)) + 1))) : Option (Int))).bind fun x_328 => (idx l_189 (IntKind.i64.wrap (x3 + x_192))).bind fun e_331 => (idx l_189 (IntKind.i64.wrap (x3 + x_328))).bind fun e_337 => (cmp e_331 e_337).bind fun y_343 => cond (!(decide (y_343 < 0))) (some (.inr (.inr l_189))) ((idx l_189 (IntKind.i64.wrap (x3 + x_328))).bind fun e_349 => (idx l_189 (IntKind.i64.wrap (x3 + x_192))).bind fun e_355 => (idx l_189 (IntKind.i64.wrap (x3 + x_192))).bind fun e_361 => (idx (l_189.set (Int.toNat (IntKind.i64.wrap (x3 + x_192))) e_349) (IntKind.i64.wrap (x3 + x_328))).bind fun e_369 => some (.inl (((l_189.set (Int.toNat (IntKind.i64.wrap (x3 + x_192))) e_349).set (Int.toNat (IntKind.i64.wrap (x3 + x_328))) e_355), x_328))))) (x0, x1)).bind fun zz => match zz with | .inl l_283 => (some l_283) | .inr z => (some z)

noncomputable def DG.heapSort {α : Type} (cmp : α → α → Option Int) (x0 : (List α)) (x1 : Int) (x2 : Int) : Option (((List α))) :=
  (loopF (σ := (List α) × Int) (ρ := ((List α))) (fun (s_30 : (List α) × Int) => match s_30 with | (l_33, x_36) => cond (decide ((0 : Int) ≤ x_36)) ((DG.siftDown cmp l_33 x_36 (IntKind.i64.wrap (x2 - x1)) x1).bind fun y_54 => some (.inl (y_54, (IntKind.i64.wrap (x_36 - 1))))) (some (.inr l_33))) (x0, (IntKind.i64.wrap (Int.tdiv (IntKind.i64.wrap ((IntKind.i64.wrap (x2 - x1)) - 1)) 2)))).bind fun l_49 => (loopF (σ := (List α) × Int) (ρ := ((List α))) (fun (s_144 : (List α) × Int) => match s_144 with | (l_147, x_150) => cond (decide ((0 : Int) ≤ x_150)) ((idx l_147 (IntKind.i64.wrap (x1 + x_150))).bind fun e_194 => (idx l_147 x1).bind fun e_200 => (idx l_147 x1).bind fun e_206 => (idx (l_147.set (Int.toNat x1) e_194) (IntKind.i64.wrap (x1 + x_150))).bind fun e_214 => (DG.siftDown cmp ((l_147.set (Int.toNat x1) e_194).set (Int.toNat (IntKind.i64.wrap (x1 + x_150))) e_200) 0 x_150 x1).bind fun y_220 => some (.inl (y_220, (IntKind.i64.wrap (x_150 - 1))))) (some (.inr l_147))) (l_49, (IntKind.i64.wrap ((IntKind.i64.wrap (x2 - x1)) - 1)))).bind fun l_189 => some l_189

noncomputable def DG.breakPatterns {α : Type} (cmp : α → α → Option Int) (x0 : (List α)) (x1 : Int) (x2 : Int) : Option (((List α))) :=
  cond (decide ((8 : Int) ≤ (IntKind.i64.wrap (x2 - x1)))) ((D.slices_nextPowerOfTwo (IntKind.i64.wrap (x2 - x1))).bind fun y_4 => (loopF (σ := (List α) × Int × Int) (ρ := ((List α))) (fun (s_103 : (List α) × Int × Int) => match s_103 with | (l_106, x_109, x_110) => cond (decide (x_109 ≤ (IntKind.i64.wrap ((IntKind.i64.wrap (x1 + (IntKind.i64.wrap ((IntKind.i64.wrap (Int.tdiv (IntKind.i64.wrap (x2 - x1)) 4)) * 2)))) + 1)))) ((D.slices_xorshift_Next x_110).bind fun y_159 => ((cond (decide ((IntKind.i64.wrap (x2 - x1)) ≤ (IntKind.i64.wrap (iand .u64 y_159.1 (IntKind.u64.wrap (y_4 - 1)))))) (some (IntKind.i64.wrap ((IntKind.i64.wrap (iand .u64 y_159.1 (IntKind.u64.wrap (y_4 - 1)))) - (IntKind.i64.wrap (x2 - x1))))) (some (IntKind.i64.wrap (iand .u64 y_159.1 (IntKind.u64.wrap (y_4 - 1))))) : Option (Int))).bind fun x_170 => (idx l_106 (IntKind.i64.wrap (x1 + x_170))).bind fun e_173 => (idx l_106 x_109).bind fun e_179 => (idx l_106 x_109).bind fun e_185 => (idx (l_106.set (Int.toNat x_109) e_173) (IntKind.i64.wrap (x1 + x_170))).bind fun e_193 => some (.inl (((l_106.set (Int.toNat x_109) e_173).set (Int.toNat (IntKind.i64.wrap (x1 + x_170))) e_179), (IntKind.i64.wrap (x_109 + 1)), y_159.2))) (some (.inr l_106))) (x0, (IntKind.i64.wrap ((IntKind.i64.wrap (x1 + (IntKind.i64.wrap ((IntKind.i64.wrap (Int.tdiv (IntKind.i64.wrap (x2 - x1)) 4)) * 2)))) - 1)), (IntKind.u64.wrap (IntKind.i64.wrap (x2 - x1))))).bind fun l_154 => some l_154) (some x0)

noncomputable def DG.order2 {α : Type} (cmp : α → α → Option Int) (x0 : (List α)) (x1 : Int) (x2 : Int) (x3_0 : Int) : Option (Int × Int × ((List α)) × Int) :=
  (idx x0 x2).bind fun e_1 => (idx x0 x1).bind fun e_7 => (cmp e_1 e_7).bind fun y_13 => cond (decide (y_13 < 0)) (some (x2, x1, x0, (IntKind.i64.wrap (x3_0 + 1)))) (some (x1, x2, x0, x3_0))

noncomputable def DG.median {α : Type} (cmp : α → α → Option Int) (x0 : (List α)) (x1 : Int) (x2 : Int) (x3 : Int) (x4_0 : Int) : Option (Int × ((List α)) × Int) :=
  (DG.order2 cmp x0 x1 x2 x4_0).bind fun y_1 => (DG.order2 cmp y_1.2.2.1 y_1.2.1 x3 y_1.2.2.2).bind fun y_10 => (DG.order2 cmp y_10.2.2.1 y_1.1 y_10.1 y_10.2.2.2).bind fun y_19 => some (y_19.2.1, y_19.2.2.1, y_19.2.2.2)

noncomputable def DG.medianAdjacent {α : Type} (cmp : α → α → Option Int) (x0 : (List α)) (x1 : Int) (x2_0 : Int) : Option (Int × ((List α)) × Int) :=
  (DG.median cmp x0 (IntKind.i64.wrap (x1 - 1)) x1 (IntKind.i64.wrap (x1 + 1)) x2_0).bind fun y_1 => some (y_1.1, y_1.2.1, y_1.2.2)

noncomputable def DG.choosePivot {α : Type} (cmp : α → α → Option Int) (x0 : (List α)) (x1 : Int) (x2 : Int) : Option (Int × Int × ((List α))) :=
  cond (decide ((8 : Int) ≤ (IntKind.i64.wrap (x2 - x1)))) (((cond (decide ((50 : Int) ≤ (IntKind.i64.wrap (x2 - x1)))) ((DG.medianAdjacent cmp x0 (IntKind.i64.wrap (x1 + (IntKind.i64.wrap ((IntKind.i64.wrap (Int.tdiv (IntKind.i64.wrap (x2 - x1)) 4)) * 1)))) 0).bind fun y_44 => (DG.medianAdjacent cmp y_44.2.1 (IntKind.i64.wrap (x1 + (IntKind.i64.wrap ((IntKind.i64.wrap (Int.tdiv (IntKind.i64.wrap (x2 - x1)) 4)) * 2)))) y_44.2.2).bind fun y_53 => (DG.medianAdjacent cmp y_53.2.1 (IntKind.i64.wrap (x1 + (IntKind.i64.wrap ((IntKind.i64.wrap (Int.tdiv (IntKind.i64.wrap (x2 - x1)) 4)) * 3)))) y_53.2.2).bind fun y_62 => some (y_62.2.1, y_44.1, y_53.1, y_62.1, y_62.2.2)) (some (x0, (IntKind.i64.wrap (x1 + (IntKind.i64.wrap ((IntKind.i64.wrap (Int.tdiv (IntKind.i64.wrap (x2 - x1)) 4)) * 1)))), (IntKind.i64.wrap (x1 + (IntKind.i64.wrap ((IntKind.i64.wrap (Int.tdiv (IntKind.i64.wrap (x2 - x1)) 4)) * 2)))), (IntKind.i64.wrap (x1 + (IntKind.i64.wrap ((IntKind.i64.wrap (Int.tdiv (IntKind.i64.wrap (x2 - x1)) 4)) * 3)))), 0)) : Option ((List α) × Int × Int × Int × Int))).bind fun (l_35, x_38, x_39, x_40, x_41) => (DG.median cmp l_35 x_38 x_39 x_40 x_41).bind fun y_71 => cond (y_71.2.2 == 0) (some (y_71.1, 1, y_71.2.1)) (cond (y_71.2.2 == 12) (some (y_71.1, 2, y_71.2.1)) (some (y_71.1, 0, y_71.2.1)))) (cond ((0 : Int) == 0) (some ((IntKind.i64.wrap (x1 + (IntKind.i64.wrap ((IntKind.i64.wrap (Int.tdiv (IntKind.i64.wrap (x2 - x1)) 4)) * 2)))), 1, x0)) (cond ((0 : Int) == 12) (some ((IntKind.i64.wrap (x1 + (IntKind.i64.wrap ((IntKind.i64.wrap (Int.tdiv (IntKind.i64.wrap (x2 - x1)) 4)) * 2)))), 2, x0)) (some ((IntKind.i64.wrap (x1 + (IntKind.i64.wrap ((IntKind.i64.wrap (Int.tdiv (IntKind.i64.wrap (x2 - x1)) 4)) * 2)))), 0, x0))))

noncomputable def DG.reverseRange {α : Type} (cmp : α → α → Option Int) (x0 : (List α)) (x1 : Int) (x2 : Int) : Option (((List α))) :=
  (loopF (σ := (List α) × Int × Int) (ρ := ((List α))) (fun (s_65 : (List α) × Int × Int) => match s_65 with | (l_68, x_71, x_72) => cond (decide (x_71 < x_72)) ((idx l_68 x_72).bind fun e_107 => (idx l_68 x_71).bind fun e_113 => (idx l_68 x_71).bind fun e_119 => (idx (l_68.set (Int.toNat x_71) e_107) x_72).bind fun e_127 => some (.inl (((l_68.set (Int.toNat x_71) e_107).set (Int.toNat x_72) e_113), (IntKind.i64.wrap (x_71 + 1)), (IntKind.i64.wrap (x_72 - 1))))) (some (.inr l_68))) (x0, x1, (IntKind.i64.wrap (x2 - 1)))).bind fun l_102 => some l_102

noncomputable def DG.partialInsertionSort {α : Type} (cmp : α → α → Option Int) (x0 : (List α)) (x1 : Int) (x2 : Int) : Option (Bool × ((List α))) :=
  (loopF (σ := (List α) × Int × Int) (ρ := ((List α)) ⊕ (Bool × ((List α)))) (fun (s_1625 : (List α) × Int × Int) => match s_1625 with | (l_1628, x_1631, x_1632) => cond (decide (x_1632 < 5)) ((loopF (σ := Int) (ρ := (Int)) (fun (x_2530 : Int) => (cond (decide (x_2530 < x2)) ((idx l_1628 x_2530).bind fun e_2591 => (idx l_1628 (IntKind.i64.wrap (x_2530 - 1))).bind fun e_2597 => (cmp e_2591 e_2597).bind fun y_2603 => some (!(decide (y_2603 < 0)))) (some false)).bind fun b_2589 => cond b_2589 (some (.inl (IntKind.i64.wrap (x_2530 + 1)))) (some (.inr x_2530))) x_1631).bind fun x_2570 => cond (x_2570 == x2) (some (.inr (.inr (true, l_1628)))) (cond (decide ((IntKind.i64.wrap (x2 - x1)) < 50)) (some (.inr (.inr (false, l_1628)))) ((idx l_1628 (IntKind.i64.wrap (x_2570 - 1))).bind fun e_2611 => (idx l_1628 x_2570).bind fun e_2617 => (idx l_1628 x_2570).bind fun e_2623 => (idx (l_1628.set (Int.toNat x_2570) e_2611) (IntKind.i64.wrap (x_2570 - 1))).bind fun e_2631 => ((cond (decide ((2 : Int) ≤ (IntKind.i64.wrap (x_2570 - x1)))) ((loopF (σ := (List α) × Int) (ρ := ((List α))) (fun (s_2947 : (List α) × Int) => match s_2947 with | (l_2950, x_2953) => cond (decide ((1 : Int) ≤ x_2953)) ((idx l_2950 x_2953).bind fun e_3006 => (idx l_2950 (IntKind.i64.wrap (x_2953 - 1))).bind fun e_3012 => (cmp e_3006 e_3012).bind fun y_3018 => cond (!(decide (y_3018 < 0))) (some (.inr l_2950)) ((idx l_2950 (IntKind.i64.wrap (x_2953 - 1))).bind fun e_3024 => (idx l_2950 x_2953).bind fun e_3030 => (idx l_2950 x_2953).bind fun e_3036 => (idx (l_2950.set (Int.toNat x_2953) e_3024) (IntKind.i64.wrap (x_2953 - 1))).bind fun e_3044 => some (.inl (((l_2950.set (Int.toNat x_2953) e_3024).set (Int.toNat (IntKind.i64.wrap (x_2953 - 1))) e_3030), (IntKind.i64.wrap (x_2953 - 1)))))) (some (.inr l_2950))) (((l_1628.set (Int.toNat x_2570) e_2611).set (Int.toNat (IntKind.i64.wrap (x_2570 - 1))) e_2617), (IntKind.i64.wrap (x_2570 - 1)))).bind fun l_3001 => some l_3001) (some ((l_1628.set (Int.toNat x_2570) e_2611).set (Int.toNat (IntKind.i64.wrap (x_2570 - 1))) e_2617)) : Option ((List α)))).bind fun l_2843 => cond (decide ((2 : Int) ≤ (IntKind.i64.wrap (x2 - x_2570)))) ((loopF (σ := (List α) × Int) (ρ := ((List α))) (fun (s_3150 : (List α) × Int) => match s_3150 with | (l_3153, x_3156) => cond (decide (x_3156 < x2)) ((idx l_3153 x_3156).bind fun e_3209 => (idx l_3153 (IntKind.i64.wrap (x_3156 - 1))).bind fun e_3215 => (cmp e_3209 e_3215).bind fun y_3221 => cond (!(decide (y_3221 < 0))) (some (.inr l_3153)) ((idx l_3153 (IntKind.i64.wrap (x_3156 - 1))).bind fun e_3227 => (idx l_3153 x_3156).bind fun e_3233 => (idx l_3153 x_3156).bind fun e_3239 => (idx (l_3153.set (Int.toNat x_3156) e_3227) (IntKind.i64.wrap (x_3156 - 1))).bind fun e_3247 => some (.inl (((l_3153.set (Int.toNat x_3156) e_3227).set (Int.toNat (IntKind.i64.wrap (x_3156 - 1))) e_3233), (IntKind.i64.wrap (x_3156 + 1)))))) (some (.inr l_3153))) (l_2843, (IntKind.i64.wrap (x_2570 + 1)))).bind fun l_3204 => some (.inl (l_3204, x_2570, (IntKind.i64.wrap (x_1632 + 1))))) (some (.inl (l_2843, x_2570, (IntKind.i64.wrap (x_1632 + 1)))))))) (some (.inr (.inl l_1628)))) (x0, (IntKind.i64.wrap (x1 + 1)), 0)).bind fun zz => match zz with | .inl l_2442 => (some (false, l_2442)) | .inr z => (some z)

noncomputable def DG.partitionEqual {α : Type} (cmp : α → α → Option Int) (x0 : (List α)) (x1 : Int) (x2 : Int) (x3 : Int) : Option (Int × ((List α))) :=
  (idx x0 x3).bind fun e_1 => (idx x0 x1).bind fun e_7 => (idx x0 x1).bind fun e_13 => (idx (x0.set (Int.toNat x1) e_1) x3).bind fun e_21 => (loopF (σ := (List α) × Int × Int) (ρ := ((List α) × Int)) (fun (s_739 : (List α) × Int × Int) => match s_739 with | (l_742, x_745, x_746) => (loopF (σ := Int) (ρ := (Int)) (fun (x_1188 : Int) => (cond (decide (x_1188 ≤ x_746)) ((idx l_742 x1).bind fun e_1249 => (idx l_742 x_1188).bind fun e_1255 => (cmp e_1249 e_1255).bind fun y_1261 => some (!(decide (y_1261 < 0)))) (some false)).bind fun b_1247 => cond b_1247 (some (.inl (IntKind.i64.wrap (x_1188 + 1)))) (some (.inr x_1188))) x_745).bind fun x_1228 => (loopF (σ := Int) (ρ := (Int)) (fun (x_1350 : Int) => (cond (decide (x_1228 ≤ x_1350)) ((idx l_742 x1).bind fun e_1411 => (idx l_742 x_1350).bind fun e_1417 => (cmp e_1411 e_1417).bind fun y_1423 => some (decide (y_1423 < 0))) (some false)).bind fun b_1409 => cond b_1409 (some (.inl (IntKind.i64.wrap (x_1350 - 1)))) (some (.inr x_1350))) x_746).bind fun x_1390 => cond (decide (x_1390 < x_1228)) (some (.inr (l_742, x_1228))) ((idx l_742 x_1390).bind fun e_1430 => (idx l_742 x_1228).bind fun e_1436 => (idx l_742 x_1228).bind fun e_1442 => (idx (l_742.set (Int.toNat x_1228) e_1430) x_1390).bind fun e_1450 => some (.inl (((l_742.set (Int.toNat x_1228) e_1430).set (Int.toNat x_1390) e_1436), (IntKind.i64.wrap (x_1228 + 1)), (IntKind.i64.wrap (x_1390 - 1)))))) (((x0.set (Int.toNat x1) e_1).set (Int.toNat x3) e_7), (IntKind.i64.wrap (x1 + 1)), (IntKind.i64.wrap (x2 - 1)))).bind fun (l_1100, x_1103) => some (x_1103, l_1100)

noncomputable def DG.partition {α : Type} (cmp : α → α → Option Int) (x0 : (List α)) (x1 : Int) (x2 : Int) (x3 : Int) : Option (Int × Bool × ((List α))) :=
  (idx x0 x3).bind fun e_1 => (idx x0 x1).bind fun e_7 => (idx x0 x1).bind fun e_13 => (idx (x0.set (Int.toNat x1) e_1) x3).bind fun e_21 => (loopF (σ := Int) (ρ := (Int)) (fun (x_110 : Int) => (cond (decide (x_110 ≤ (IntKind.i64.wrap (x2 - 1)))) ((idx ((x0.set (Int.toNat x1) e_1).set (Int.toNat x3) e_7) x_110).bind fun e_171 => (idx ((x0.set (Int.toNat x1) e_1).set (Int.toNat x3) e_7) x1).bind fun e_177 => (cmp e_171 e_177).bind fun y_183 => some (decide (y_183 < 0))) (some false)).bind fun b_169 => cond b_169 (some (.inl (IntKind.i64.wrap (x_110 + 1)))) (some (.inr x_110))) (IntKind.i64.wrap (x1 + 1))).bind fun x_150 => (loopF (σ := Int) (ρ := (Int)) (fun (x_272 : Int) => (cond (decide (x_150 ≤ x_272)) ((idx ((x0.set (Int.toNat x1) e_1).set (Int.toNat x3) e_7) x_272).bind fun e_333 => (idx ((x0.set (Int.toNat x1) e_1).set (Int.toNat x3) e_7) x1).bind fun e_339 => (cmp e_333 e_339).bind fun y_345 => some (!(decide (y_345 < 0)))) (some false)).bind fun b_331 => cond b_331 (some (.inl (IntKind.i64.wrap (x_272 - 1)))) (some (.inr x_272))) (IntKind.i64.wrap (x2 - 1))).bind fun x_312 => cond (decide (x_312 < x_150)) ((idx ((x0.set (Int.toNat x1) e_1).set (Int.toNat x3) e_7) x1).bind fun e_352 => (idx ((x0.set (Int.toNat x1) e_1).set (Int.toNat x3) e_7) x_312).bind fun e_358 => (idx ((x0.set (Int.toNat x1) e_1).set (Int.toNat x3) e_7) x_312).bind fun e_364 => (idx (((x0.set (Int.toNat x1) e_1).set (Int.toNat x3) e_7).set (Int.toNat x_312) e_352) x1).bind fun e_372 => some (x_312, true, ((((x0.set (Int.toNat x1) e_1).set (Int.toNat x3) e_7).set (Int.toNat x_312) e_352).set (Int.toNat x1) e_358))) ((idx ((x0.set (Int.toNat x1) e_1).set (Int.toNat x3) e_7) x_312).bind fun e_378 => (idx ((x0.set (Int.toNat x1) e_1).set (Int.toNat x3) e_7) x_150).bind fun e_384 => (idx ((x0.set (Int.toNat x1) e_1).set (Int.toNat x3) e_7) x_150).bind fun e_390 => (idx (((x0.set (Int.toNat x1) e_1).set (Int.toNat x3) e_7).set (Int.toNat x_150) e_378) x_312).bind fun e_398 => (loopF (σ := (List α) × Int × Int) (ρ := ((List α) × Int)) (fun (s_1116 : (List α) × Int × Int) => match s_1116 with | (l_1119, x_1122, x_1123) => (loopF (σ := Int) (ρ := (Int)) (fun (x_1565 : Int) => (cond (decide (x_1565 ≤ x_1123)) ((idx l_1119 x_1565).bind fun e_1626 => (idx l_1119 x1).bind fun e_1632 => (cmp e_1626 e_1632).bind fun y_1638 => some (decide (y_1638 < 0))) (some false)).bind fun b_1624 => cond b_1624 (some (.inl (IntKind.i64.wrap (x_1565 + 1)))) (some (.inr x_1565))) x_1122).bind fun x_1605 => (loopF (σ := Int) (ρ := (Int)) (fun (x_1727 : Int) => (cond (decide (x_1605 ≤ x_1727)) ((idx l_1119 x_1727).bind fun e_1788 => (idx l_1119 x1).bind fun e_1794 => (cmp e_1788 e_1794).bind fun y_1800 => some (!(decide (y_1800 < 0)))) (some false)).bind fun b_1786 => cond b_1786 (some (.inl (IntKind.i64.wrap (x_1727 - 1)))) (some (.inr x_1727))) x_1123).bind fun x_1767 => cond (decide (x_1767 < x_1605)) (some (.inr (l_1119, x_1767))) ((idx l_1119 x_1767).bind fun e_1807 => (idx l_1119 x_1605).bind fun e_1813 => (idx l_1119 x_1605).bind fun e_1819 => (idx (l_1119.set (Int.toNat x_1605) e_1807) x_1767).bind fun e_1827 => some (.inl (((l_1119.set (Int.toNat x_1605) e_1807).set (Int.toNat x_1767) e_1813), (IntKind.i64.wrap (x_1605 + 1)), (IntKind.i64.wrap (x_1767 - 1)))))) (((((x0.set (Int.toNat x1) e_1).set (Int.toNat x3) e_7).set (Int.toNat x_150) e_378).set (Int.toNat x_312) e_384), (IntKind.i64.wrap (x_150 + 1)), (IntKind.i64.wrap (x_312 - 1)))).bind fun (l_1477, x_1480) => (idx l_1477 x1).bind fun e_1833 => (idx l_1477 x_1480).bind fun e_1839 => (idx l_1477 x_1480).bind fun e_1845 => (idx (l_1477.set (Int.toNat x_1480) e_1833) x1).bind fun e_1853 => some (x_1480, false, ((l_1477.set (Int.toNat x_1480) e_1833).set (Int.toNat x1) e_1839)))

noncomputable def DG.pdqsortR {α : Type} (cmp : α → α → Option Int) : Nat → ((List α)) → Int → Int → Int → Option (((List α)))
  | 0, _, _, _, _ => none
  | fuel + 1, x0, x1, x2, x3 => (loopF (σ := (List α) × Int × Int × Int × Bool × Bool) (ρ := (((List α)))) (fun (s_398 : (List α) × Int × Int × Int × Bool × Bool) => match s_398 with | (l_401, x_404, x_405, x_406, b_407, b_408) => cond (decide ((IntKind.i64.wrap (x_405 - x_404)) ≤ 12)) ((DG.insertionSort cmp l_401 x_404 x_405).bind fun y_411 => some (.inr y_411)) (cond (x_406 == 0) ((DG.heapSort cmp l_401 x_404 x_405).bind fun y_421 => some (.inr y_421)) (((cond (!b_407) ((DG.breakPatterns cmp l_401 x_404 x_405).bind fun y_449 => some (y_449, (IntKind.i64.wrap (x_406 - 1)))) (some (l_401, x_406)) : Option ((List α) × Int))).bind fun (l_443, x_446) => (DG.choosePivot cmp l_443 x_404 x_405).bind fun y_458 => ((cond (y_458.2.1 == 2) ((DG.reverseRange cmp y_458.2.2 x_404 x_405).bind fun y_487 => some (y_487, (IntKind.i64.wrap ((IntKind.i64.wrap (x_405 - 1)) - (IntKind.i64.wrap (y_458.1 - x_404)))), 1)) (some (y_458.2.2, y_458.1, y_458.2.1)) : Option ((List α) × Int × Int))).bind fun (l_480, x_483, x_484) => ((cond ((b_407 && b_408) && (x_484 == 1)) ((DG.partialInsertionSort cmp l_480 x_404 x_405).bind fun y_521 => cond y_521.1 (some (.inr y_521.2)) (some (.inl y_521.2))) (some (.inl l_480)) : Option (((List α)) ⊕ (((List α)))))).bind fun q => match q with | .inl l_516 => ((cond (decide ((0 : Int) < x_404)) ((idx l_516 (IntKind.i64.wrap (x_404 - 1))).bind fun e_550 => (idx l_516 x_483).bind fun e_556 => (cmp e_550 e_556).bind fun y_562 => some (!(decide (y_562 < 0)))) (some false)).bind fun b_548 => cond b_548 ((DG.partitionEqual cmp l_516 x_404 x_405 x_483).bind fun y_568 => some (.inl (y_568.2, y_568.1, x_405, x_446, b_407, b_408))) ((DG.partition cmp l_516 x_404 x_405 x_483).bind fun y_577 => cond (decide ((IntKind.i64.wrap (y_577.1 - x_404)) < (IntKind.i64.wrap (x_405 - y_577.1)))) ((DG.pdqsortR cmp fuel y_577.2.2 x_404 y_577.1 x_446).bind fun y_587 => some (.inl (y_587, (IntKind.i64.wrap (y_577.1 + 1)), x_405, x_446, (decide ((IntKind.i64.wrap (Int.tdiv (IntKind.i64.wrap (x_405 - x_404)) 8)) ≤ (IntKind.i64.wrap (y_577.1 - x_404)))), y_577.2.1))) ((DG.pdqsortR cmp fuel y_577.2.2 (IntKind.i64.wrap (y_577.1 + 1)) x_405 x_446).bind fun y_596 => some (.inl (y_596, x_404, y_577.1, x_446, (decide ((IntKind.i64.wrap (Int.tdiv (IntKind.i64.wrap (x_405 - x_404)) 8)) ≤ (IntKind.i64.wrap (x_405 - y_577.1)))), y_577.2.1))))) | .inr q => (some (.inr q))))) (x0, x1, x2, x3, true, true)).bind fun z => some z

end Go.Sx

/- Lists of things that have a key: reading, swapping, what a sort may do. Plain. -/
namespace Go.Sx.Gs
/-- what is sorted: things with a key, of which some are good, and a comparison that tells of good things which key is less -/
class Srtd (α : Type) where
  dflt : α
  key : α → Int
  good : α → Prop
  cmp : α → α → Option Int
  law : ∀ x y, good x → good y → ∃ v, cmp x y = some v ∧ decide (v < 0) = decide (key x < key y)
variable {α : Type} [Srtd α]
def el (l : List α) (i : Int) : α := l.getD i.toNat Srtd.dflt
def at' (l : List α) (i : Int) : Int := Srtd.key (el l i)
theorem idx_at {l : List α} {i : Int} (h0 : 0 ≤ i) (h1 : i < l.length) : idx l i = some (el l i) := by
  unfold idx el
  rw [if_pos h0]
  have : i.toNat < l.length := by omega
  simp [this]
theorem el_set {l : List α} {i k : Int} {x : α} (h0 : 0 ≤ i) (h1 : i < l.length) (hk : 0 ≤ k) : el (l.set i.toNat x) k = if k = i then x else el l k := by
  unfold el
  by_cases h : k = i
  · subst h
    have : k.toNat < l.length := by omega
    simp [this]
  · rw [if_neg h]
    have : i.toNat ≠ k.toNat := by omega
    simp [List.getD_eq_getElem?_getD, List.getElem?_set_ne this]

def sw (l : List α) (i j : Int) : List α := (l.set i.toNat (el l j)).set j.toNat (el l i)
theorem sw_len (l : List α) (i j : Int) : (sw l i j).length = l.length := by simp [sw]
theorem sw_at {l : List α} {i j k : Int} (hi : 0 ≤ i) (hi' : i < l.length) (hj : 0 ≤ j) (hj' : j < l.length) (hk : 0 ≤ k) :
    at' (sw l i j) k = if k = j then at' l i else if k = i then at' l j else at' l k := by
  unfold sw at'
  rw [el_set hj (by simpa using hj') hk]
  split
  · rfl
  · rw [el_set hi hi' hk]
    split <;> rfl

omit [Srtd α] in
theorem set_perm_erase (z : α) : ∀ (l : List α) (j : Nat), j < l.length → List.Perm (l.set j z) (z :: l.eraseIdx j)
  | [], j, h => by simp at h
  | x :: l, 0, _ => by simp
  | x :: l, j + 1, h => by
    simp only [List.set_cons_succ, List.eraseIdx_cons_succ]
    exact ((set_perm_erase z l j (by simpa using h)).cons x).trans (List.Perm.swap _ _ _)
omit [Srtd α] in
theorem perm_erase (l : List α) (j : Nat) (h : j < l.length) : List.Perm l (l[j] :: l.eraseIdx j) := by
  have := set_perm_erase l[j] l j h
  rwa [List.set_getElem_self] at this

omit [Srtd α] in
theorem set_perm : ∀ (l : List α) (i j : Nat) (x y : α), l[i]? = some x → l[j]? = some y → List.Perm ((l.set i y).set j x) l
  | [], i, j, x, y, h, _ => by simp at h
  | z :: l, 0, 0, x, y, h, h' => by simp at h h'; subst h; simp
  | z :: l, 0, j + 1, x, y, h, h' => by
    simp at h h'
    subst h
    simp only [List.set_cons_zero, List.set_cons_succ]
    obtain ⟨hj, rfl⟩ := List.getElem?_eq_some_iff.1 h'
    have h1 := set_perm_erase z l j hj
    have h2 := perm_erase l j hj
    exact ((h1.cons _).trans (List.Perm.swap _ _ _)).trans (h2.symm.cons z)
  | z :: l, i + 1, 0, x, y, h, h' => by
    simp at h h'
    subst h'
    simp only [List.set_cons_zero, List.set_cons_succ]
    obtain ⟨hj, rfl⟩ := List.getElem?_eq_some_iff.1 h
    have h1 := set_perm_erase z l i hj
    have h2 := perm_erase l i hj
    exact ((h1.cons _).trans (List.Perm.swap _ _ _)).trans (h2.symm.cons z)
  | z :: l, i + 1, j + 1, x, y, h, h' => by
    simp at h h'
    simp only [List.set_cons_succ]
    exact (set_perm l i j x y h h').cons z

theorem sw_perm {l : List α} {i j : Int} (hi : 0 ≤ i) (hi' : i < l.length) (hj : 0 ≤ j) (hj' : j < l.length) : List.Perm (sw l i j) l := by
  have h1 : i.toNat < l.length := by omega
  have h2 : j.toNat < l.length := by omega
  exact set_perm l i.toNat j.toNat _ _ (by simp [el, h1]) (by simp [el, h2])

/-- what a sort may do to the places from a to b -/
structure Rg (a b : Int) (l l' : List α) : Prop where
  len : l'.length = l.length
  perm : List.Perm l' l
  out : ∀ k, 0 ≤ k → (k < a ∨ b ≤ k) → at' l' k = at' l k
  all : ∀ Q : Int → Prop, (∀ k, a ≤ k → k < b → Q (at' l k)) → ∀ k, a ≤ k → k < b → Q (at' l' k)

theorem Rg.refl (a b : Int) (l : List α) : Rg a b l l := ⟨rfl, List.Perm.refl _, fun _ _ _ => rfl, fun _ h => h⟩
theorem Rg.trans {a b : Int} {l l' l'' : List α} (h : Rg a b l l') (h' : Rg a b l' l'') : Rg a b l l'' :=
  ⟨h'.len.trans h.len, h'.perm.trans h.perm, fun k h0 hk => (h'.out k h0 hk).trans (h.out k h0 hk), fun Q hQ => h'.all Q (h.all Q hQ)⟩
theorem Rg.swap {a b i j : Int} {l : List α} (ha : 0 ≤ a) (hb : b ≤ l.length) (hi : a ≤ i) (hi' : i < b) (hj : a ≤ j) (hj' : j < b) : Rg a b l (sw l i j) := by
  refine ⟨sw_len _ _ _, sw_perm (by omega) (by omega) (by omega) (by omega), fun k h0 hk => ?_, fun Q hQ k h1 h2 => ?_⟩
  · rw [sw_at (by omega) (by omega) (by omega) (by omega) h0, if_neg (by omega), if_neg (by omega)]
  · rw [sw_at (by omega) (by omega) (by omega) (by omega) (by omega)]
    split
    · exact hQ i hi hi'
    · split
      · exact hQ j hj hj'
      · exact hQ k h1 h2
theorem Rg.widen {a b a' b' : Int} {l l' : List α} (h : Rg a b l l') (ha : a' ≤ a) (hb : b ≤ b') (h0 : 0 ≤ a') : Rg a' b' l l' := by
  refine ⟨h.len, h.perm, fun k h0 hk => h.out k h0 (by omega), fun Q hQ k h1 h2 => ?_⟩
  by_cases hk : a ≤ k ∧ k < b
  · exact h.all Q (fun k h3 h4 => hQ k (by omega) (by omega)) k hk.1 hk.2
  · rw [h.out k (by omega) (by omega)]; exact hQ k h1 h2

/-- sorted from a to b -/
def Srt (l : List α) (a b : Int) : Prop := ∀ i j, a ≤ i → i < j → j < b → at' l i ≤ at' l j

/-- all good -/
def Good (l : List α) : Prop := ∀ x ∈ l, Srtd.good x
theorem Rg.good {a b : Int} {l l' : List α} (h : Rg a b l l') (hg : Good l) : Good l' := fun x hx => hg x (h.perm.mem_iff.1 hx)
theorem Good.el {l : List α} (h : Good l) {i : Int} (h0 : 0 ≤ i) (h1 : i < l.length) : Srtd.good (el l i) := by
  unfold Gs.el
  have : i.toNat < l.length := by omega
  rw [getD_lt this]
  exact h _ (List.getElem_mem this)
theorem cmp_at {l : List α} (h : Good l) {i j : Int} (h0 : 0 ≤ i) (h1 : i < l.length) (h2 : 0 ≤ j) (h3 : j < l.length) : ∃ v, Srtd.cmp (el l i) (el l j) = some v ∧ decide (v < 0) = decide (at' l i < at' l j) :=
  Srtd.law _ _ (h.el h0 h1) (h.el h2 h3)
theorem idx_set_at {l : List α} {i j : Int} {x : α} (h0 : 0 ≤ i) (h1 : i < l.length) : idx (l.set j.toNat x) i = some (el (l.set j.toNat x) i) := idx_at h0 (by simpa using h1)
end Go.Sx.Gs

/- insertion sort. Plain. -/
namespace Go.Sx.Gs
variable {α : Type} [Srtd α]
theorem insertionSort_spec (l0 : List α) (a b : Int) (ha : 0 ≤ a) (hab : a ≤ b) (hb : b ≤ l0.length) (hlen : l0.length ≤ 1000000) (hG : Good l0) :
    ∃ l', DG.insertionSort Srtd.cmp l0 a b = some l' ∧ Rg a b l0 l' ∧ Srt l' a b := by
  unfold DG.insertionSort
  rw [w64 (show -9223372036854775808 ≤ a + 1 by omega) (by omega)]
  refine loop_then (fun s => Rg a b l0 s.1 ∧ Srt s.1 a s.2 ∧ a + 1 ≤ s.2 ∧ s.2 ≤ b + 1) (fun s => (b - s.2).toNat) (fun r => Rg a b l0 r ∧ Srt r a b) ?_ ?_ ?_
  · rintro ⟨l, i⟩ ⟨hR, hS, h1, h2⟩
    dsimp only at hR hS h1 h2 ⊢
    have hll := hR.len
    by_cases hi : i < b
    · simp only [hi, decide_true, cond_true]
      rw [w64 (show -9223372036854775808 ≤ i + 1 by omega) (by omega)]
      refine loop_then (fun s => Rg a b l0 s.1 ∧ a ≤ s.2 ∧ s.2 ≤ i ∧ ∀ p q, a ≤ p → p < q → q ≤ i → q ≠ s.2 → at' s.1 p ≤ at' s.1 q) (fun s => (s.2 - a).toNat) (fun r => Rg a b l0 r ∧ Srt r a (i + 1)) ?_ ?_ ?_
      · rintro ⟨m, j⟩ ⟨hR', g1, g2, hS'⟩
        dsimp only at hR' g1 g2 hS' ⊢
        have hml := hR'.len
        rw [w64 (show -9223372036854775808 ≤ j - 1 by omega) (by omega)]
        by_cases hj : a < j
        · have r1 : idx m j = some (el m j) := idx_at (by omega) (by omega)
          have r2 : idx m (j - 1) = some (el m (j - 1)) := idx_at (by omega) (by omega)
          have r3 : ∀ x, idx (m.set j.toNat x) (j - 1) = some (el (m.set j.toNat x) (j - 1)) := fun x => idx_set_at (by omega) (by omega)
          obtain ⟨v, cv, hv⟩ := cmp_at (hR'.good hG) (i := j) (j := j - 1) (by omega) (by omega) (by omega) (by omega)
          by_cases hlt : at' m j < at' m (j - 1)
          · refine ⟨.inl (sw m j (j - 1), j - 1), ?_, ⟨hR'.trans (Rg.swap ha (by omega) (by omega) (by omega) (by omega) (by omega)), by dsimp only; omega, by dsimp only; omega, ?_⟩, by dsimp only; omega⟩
            · simp only [r1, r2, r3, hj, cv, hv, hlt, decide_true, cond_true, Option.bind_some]
              rfl
            · intro p q k1 k2 k3 k4
              dsimp only at k4 ⊢
              rw [sw_at (by omega) (by omega) (by omega) (by omega) (by omega), sw_at (by omega) (by omega) (by omega) (by omega) (by omega)]
              by_cases c1 : q = j
              · subst c1
                rw [if_neg (show ¬ q = q - 1 by omega), if_pos rfl]
                by_cases c2 : p = q - 1
                · rw [if_pos c2]; omega
                · rw [if_neg c2, if_neg (by omega)]
                  exact hS' p (q - 1) k1 (by omega) (by omega) (by omega)
              · rw [if_neg (show ¬ q = j - 1 by omega), if_neg c1]
                by_cases c2 : p = j - 1
                · rw [if_pos c2]
                  exact hS' j q (by omega) (by omega) k3 c1
                · rw [if_neg c2]
                  by_cases c3 : p = j
                  · rw [if_pos c3]
                    exact hS' (j - 1) q (by omega) (by omega) k3 c1
                  · rw [if_neg c3]
                    exact hS' p q k1 k2 k3 c1
          · refine ⟨.inr m, ?_, hR', ?_⟩
            · simp only [r1, r2, hj, cv, hv, hlt, decide_true, decide_false, cond_true, cond_false, Option.bind_some]
            · intro p q k1 k2 k3
              by_cases c1 : q = j
              · subst c1
                by_cases c2 : p = q - 1
                · subst c2; omega
                · have := hS' p (q - 1) k1 (by omega) (by omega) (by omega)
                  omega
              · exact hS' p q k1 k2 (by omega) c1
        · refine ⟨.inr m, ?_, hR', ?_⟩
          · simp only [hj, decide_false, cond_false, Option.bind_some]
          · intro p q k1 k2 k3
            exact hS' p q k1 k2 (by omega) (by omega)
      · exact ⟨hR, by dsimp only; omega, Int.le_refl _, fun p q k1 k2 k3 k4 => hS p q k1 k2 (by dsimp only at k4 ⊢; omega)⟩
      · rintro r ⟨hR', hS'⟩
        exact ⟨.inl (r, i + 1), rfl, ⟨hR', hS', by dsimp only; omega, by dsimp only; omega⟩, by dsimp only; omega⟩
    · refine ⟨.inr l, by simp only [hi, decide_false, cond_false], hR, ?_⟩
      intro p q k1 k2 k3
      exact hS p q k1 k2 (by omega)
  · exact ⟨Rg.refl _ _ _, fun p q k1 k2 k3 => by dsimp only at k3; omega, by dsimp only; omega, by dsimp only; omega⟩
  · rintro r hr
    exact ⟨r, rfl, hr⟩
end Go.Sx.Gs
