/- Parts of the proof: CCW, CDW. -/
import Derived.Test.YtocakchlhemmeaaDoorCl2
import Derived.Test.YtocakchlhemmeaaDoorProg
import Derived.KernelRfl
set_option linter.unusedVariables false
set_option linter.unusedSimpArgs false
set_option linter.unusedSectionVars false
set_option maxRecDepth 100000
namespace Go.Proofs.YtocakchlhemmeaaDoor
open Go Go.Sx
theorem T54 : SlT Tryd.prog 54 59 1 4 (.int .u32 0) := ⟨Tryd.underlying54, Tryd.t59, by kernel_rfl, by kernel_rfl, by kernel_rfl, by kernel_rfl⟩
theorem Pl59 : Plain Tryd.prog 59 := Tryd.isAgg59
theorem T52 : SlT Tryd.prog 52 59 1 4 (.int .u32 0) := ⟨Tryd.underlying52, Tryd.t59, by kernel_rfl, by kernel_rfl, by kernel_rfl, by kernel_rfl⟩

theorem Wk.impl_one {W w : World} {G : GH} {H : List Itm} {x0 : Int} (m : Mem W G w (H))  {y : Int} (hd : D.impl_one x0 = some y) :
  Calls Tryd.prog 82 #[(.int .i64 x0)] w (Res W G H (fun _ Ho v => Ho = [] ∧ v = (.int .u32 y))) := by
 refine calls_b (args := [(.int .i64 x0)]) (N := 5) [.tmp 2] Tryd.func82 rfl rfl (Nat.le_of_ble_eq_true rfl) rfl fun a f => ?_
 unfold D.impl_one at hd
 refine k_seq (k_region ?_)
 refine l_as f rfl rfl fun a f => ?_
 refine l_nil (k_seq (k_region ?_))
 refine l_mv f rfl rfl fun a f => ?_
 obtain ⟨hn_1, hd⟩ := cond_none hd
 refine l_op f rfl rfl rfl (r_shl (f.eval rfl) (f.eval rfl) hn_1) fun a f => ?_
 refine l_as f rfl rfl fun a f => ?_
 refine l_nil ?_
 refine k_ret ?_
 obtain rfl := sj hd
 exact ⟨[(.int .u32 (ishl .u32 1 x0))], ⟨f.get _ _ rfl, trivial⟩, f.defers, _, [], (GLe.refl _), m, rfl, rfl⟩

theorem Wk.impl_maskOf {W w : World} {G : GH} {H : List Itm} {v0 : Value} {x0 : (List Int)} (m : Mem W G w (H)) (h0 : RSl (RI .i64) G v0 x0) {y : Int} (hd : D.impl_maskOf x0 = some y) :
  Calls Tryd.prog 72 #[v0] w (Res W G H (fun _ Ho v => Ho = [] ∧ v = (.int .u32 y))) := by
 refine calls_b (args := [v0]) (N := 18) [.tmp 2] Tryd.func72 rfl rfl (Nat.le_of_ble_eq_true rfl) rfl fun a f => ?_
 unfold D.impl_maskOf at hd
 refine k_seq (k_region ?_)
 refine l_as f rfl rfl fun a f => ?_
 refine l_nil (k_seq (k_region ?_))
 refine l_as f rfl rfl fun a f => ?_
 refine l_nil (k_seq (k_seq (k_region ?_)))
 refine l_mv f rfl rfl fun a f => ?_
 refine l_len Tryd.underlying36 f rfl rfl h0 fun a f => ?_
 refine l_mv f rfl rfl fun a f => ?_
 refine l_nil ?_
 obtain ⟨q_32, hl_33, hd⟩ := bind_some hd
 refine k_cut (fun a w => ∃ x_57 : Int, x_57 = q_32 ∧ ∃ (G_56 : GH), GLe G G_56 ∧ Fr a 18 [(3, (.int .u32 x_57))] ∧ Mem W G_56 w (H)) ?_ ?_
 ·refine k_block ?_
  refine k_loop (fun s_36 a w => ∃ x_39 : Int, ∃ x_40 : Int, (x_39, x_40) = s_36 ∧ ∃ (G_38 : GH), GLe G G_38 ∧ Fr a 18 [(3, (.int .u32 x_39)), (6, v0), (7, (.int .i64 (x0.length : Int))), (8, (.int .i64 x_40))] ∧ Mem W G_38 w (H)) hl_33 ⟨_, _, rfl, _, (GLe.refl _), f.weak ⟨rfl, rfl, rfl, rfl, trivial⟩, m⟩ ?_
  clear hl_33 f m
  rintro s_36 o_37 hs_34 hq_35 a w ⟨x_39, x_40, rfl, G_38, hl_41, f, m⟩
  have h0 := RSl.mono (RI.mono _) _ _ _ _ hl_41 h0
  refine k_seq (k_region ?_)
  refine l_in f rfl rfl rfl b_lss fun a f => ?_
  refine l_nil (k_seq ?_)
  rcases cond_some hs_34 with ⟨hc_59, hs_34⟩ | ⟨hc_59, hs_34⟩
  ·refine k_true f rfl hc_59 ?_
   refine k_skip ?_
   refine k_seq (k_block (k_seq (k_region ?_)))
   obtain ⟨e_60, he_61, hs_34⟩ := bind_some hs_34
   refine l_at T36 f rfl rfl rfl h0 he_61 fun p_62 c_63 a g_64 h_65 f => ?_
   subst h_65
   refine l_loadAt m Pl2 f rfl rfl g_64 fun a f => ?_
   refine l_as f rfl rfl fun a f => ?_
   refine l_nil (k_region ?_)
   refine l_mv f rfl rfl fun a f => ?_
   refine l_mv f rfl rfl fun a f => ?_
   obtain ⟨y_66, hy_67, hs_34⟩ := bind_some hs_34
   refine l_res f rfl rfl Tryd.call82 (Wk.impl_one m  hy_67) fun v_71 G_68 Ho_72 w hl_69 m hQ_70 a f => ?_
   obtain ⟨rfl, rfl⟩ := hQ_70
   have h0 := RSl.mono (RI.mono _) _ _ _ _ hl_69 h0
   refine l_in f rfl rfl rfl b_or fun a f => ?_
   refine l_as f rfl rfl fun a f => ?_
   refine l_nil (k_region ?_)
   refine l_in f rfl rfl rfl b_add fun a f => ?_
   refine l_mv f rfl rfl fun a f => ?_
   refine l_nil ?_
   obtain rfl := sj hs_34
   exact ⟨_, rfl, _, _, rfl, _, (GLe.trans hl_41 hl_69), f.weak ⟨rfl, rfl, rfl, rfl, trivial⟩, m⟩
  ·refine k_false f rfl hc_59 ?_
   refine k_exit rfl ?_
   obtain rfl := sj hs_34
   obtain rfl := hq_35 _ rfl
   exact ⟨_, rfl, _, hl_41, f.weak ⟨rfl, trivial⟩, m⟩
 ·rintro a w ⟨x_57, rfl, G_56, hl_58, f, m⟩
  refine k_seq (k_region ?_)
  refine l_mv f rfl rfl fun a f => ?_
  refine l_as f rfl rfl fun a f => ?_
  refine l_nil ?_
  refine k_ret ?_
  obtain rfl := sj hd
  exact ⟨[(.int .u32 x_57)], ⟨f.get _ _ rfl, trivial⟩, f.defers, _, [], hl_58, m, rfl, rfl⟩

theorem Wk.impl_netsOf {W w : World} {G : GH} {H : List Itm} {v0_0 : Value} {x0_0 : (List (List Int))} (m : Mem W G w (H)) (h0_0 : RSl (RSl (RI .i64)) G v0_0 x0_0) {y : ((List Int))} (hd : D.impl_netsOf x0_0 = some y) :
  Calls Tryd.prog 43 #[(.agg #[v0_0])] w (Res W G H (fun G' Ho v => ∃ r0 : Value, ∃ i0 : Itm, Ho = [i0] ∧ r0 = v ∧ Ow (RI .u32) 59 G' i0 r0 y)) := by
 refine calls_b (args := [(.agg #[v0_0])]) (N := 21) [.tmp 2] Tryd.func43 rfl rfl (Nat.le_of_ble_eq_true rfl) rfl fun a f => ?_
 unfold D.impl_netsOf at hd
 refine k_seq (k_region ?_)
 refine l_box (cs := [v0_0]) m f rfl rfl rfl fun b_2 w a m f => ?_
 refine l_as f rfl rfl fun a f => ?_
 refine l_nil (k_seq (k_region ?_))
 refine l_slit (R := (RI .u32)) (xs := ([] : List Int)) (RI.one _) m T54 f rfl rfl rfl (by decide) (All2.nil _) fun it_3 v_4 w a m o_5 f => ?_
 refine l_as f rfl rfl fun a f => ?_
 refine l_nil (k_seq (k_seq (k_region ?_)))
 refine l_fieldAddr Tryd.underlying27 rfl Tryd.sizeOf22 (by decide) f rfl rfl fun a f => ?_
 refine l_boxCell 1 0 m Pl22 f rfl rfl rfl rfl fun a f => ?_
 refine l_len Tryd.underlying22 f rfl rfl h0_0 fun a f => ?_
 refine l_mv f rfl rfl fun a f => ?_
 refine l_nil ?_
 obtain ⟨q_62, hl_63, hd⟩ := bind_some hd
 refine k_cut (fun a w => ∃ l_101 : List Int, l_101 = q_62 ∧ ∃ (G_100 : GH) (v_102 : Value) (it_103 : Itm), GLe G G_100 ∧ Fr a 21 [(3, v_102)] ∧ Mem W G_100 w (it_103 :: H) ∧ Ow (RI .u32) 59 G_100 it_103 v_102 l_101) ?_ ?_
 ·refine k_block ?_
  have m := m.eraseAt 1
  refine k_loop (fun s_66 a w => ∃ l_69 : List Int, ∃ x_74 : Int, (l_69, x_74) = s_66 ∧ ∃ (G_68 : GH) (v_70 : Value) (it_71 : Itm), GLe G G_68 ∧ Fr a 21 [(3, v_70), (8, v0_0), (9, (.int .i64 (x0_0.length : Int))), (10, (.int .i64 x_74))] ∧ Mem W G_68 w (it_71 :: H) ∧ Ow (RI .u32) 59 G_68 it_71 v_70 l_69) hl_63 ⟨_, _, rfl, _, v_4, it_3, (GLe.refl _), f.weak ⟨rfl, rfl, rfl, rfl, trivial⟩, m, o_5⟩ ?_
  clear hl_63 f m
  rintro s_66 o_67 hs_64 hq_65 a w ⟨l_69, x_74, rfl, G_68, v_70, it_71, hl_75, f, m, o_72⟩
  have h0_0 := RSl.mono (RSl.mono (RI.mono _)) _ _ _ _ hl_75 h0_0
  refine k_seq (k_region ?_)
  refine l_in f rfl rfl rfl b_lss fun a f => ?_
  refine l_nil (k_seq ?_)
  rcases cond_some hs_64 with ⟨hc_107, hs_64⟩ | ⟨hc_107, hs_64⟩
  ·refine k_true f rfl hc_107 ?_
   refine k_skip ?_
   refine k_seq (k_block (k_seq (k_region ?_)))
   obtain ⟨e_108, he_109, hs_64⟩ := bind_some hs_64
   refine l_at T22 f rfl rfl rfl h0_0 he_109 fun p_110 c_111 a g_112 h_113 f => ?_
   refine l_loadAt m Pl36 f rfl rfl g_112 fun a f => ?_
   refine l_as f rfl rfl fun a f => ?_
   refine l_nil (k_region ?_)
   refine l_mv f rfl rfl fun a f => ?_
   refine l_mv f rfl rfl fun a f => ?_
   obtain ⟨y_114, hy_115, hs_64⟩ := bind_some hs_64
   refine l_res f rfl rfl Tryd.call72 (Wk.impl_maskOf m h_113 hy_115) fun v_119 G_116 Ho_120 w hl_117 m hQ_118 a f => ?_
   obtain ⟨rfl, rfl⟩ := hQ_118
   have h_113 := RSl.mono (RI.mono _) _ _ _ _ hl_117 h_113
   have h0_0 := RSl.mono (RSl.mono (RI.mono _)) _ _ _ _ hl_117 h0_0
   have o_72 := Ow.mono (RI.mono _) hl_117 o_72
   refine l_slit (R := (RI .u32)) (xs := ([y_114] : List Int)) (RI.one _) m T54 f rfl rfl rfl (by decide) (All2.cons rfl (All2.nil _)) fun it_121 v_122 w a m o_123 f => ?_
   obtain ⟨l_125, hx_126, hs_64⟩ := bind_some hs_64
   refine l_append (RI.one _) 1 m o_72 rfl T54 rfl (by decide) f rfl rfl rfl (Ow.src (j := 0) o_123 m rfl) hx_126 fun it_127 v_128 w a m o_129 f => ?_
   refine l_as f rfl rfl fun a f => ?_
   refine l_nil (k_region ?_)
   refine l_in f rfl rfl rfl b_add fun a f => ?_
   refine l_mv f rfl rfl fun a f => ?_
   refine l_nil ?_
   have m := m.front 1 rfl
   have m := m.eraseAt 1
   obtain rfl := sj hs_64
   exact ⟨_, rfl, _, _, rfl, _, v_128, it_127, (GLe.trans hl_75 hl_117), f.weak ⟨rfl, rfl, rfl, rfl, trivial⟩, m, o_129⟩
  ·refine k_false f rfl hc_107 ?_
   refine k_exit rfl ?_
   obtain rfl := sj hs_64
   obtain rfl := hq_65 _ rfl
   exact ⟨_, rfl, _, v_70, it_71, hl_75, f.weak ⟨rfl, trivial⟩, m, o_72⟩
 ·rintro a w ⟨l_101, rfl, G_100, v_102, it_103, hl_106, f, m, o_104⟩
  refine k_seq (k_region ?_)
  refine l_mv f rfl rfl fun a f => ?_
  refine l_as f rfl rfl fun a f => ?_
  refine l_nil ?_
  refine k_ret ?_
  obtain rfl := sj hd
  exact ⟨[v_102], ⟨f.get _ _ rfl, trivial⟩, f.defers, _, [it_103], hl_106, m, _, _, rfl, rfl, o_104⟩

theorem Wk.impl_firstOf {W w : World} {G : GH} {H : List Itm} {x0 : Int} (m : Mem W G w (H))  {y : Int} (hd : D.impl_firstOf x0 = some y) :
  Calls Tryd.prog 107 #[(.int .i64 x0)] w (Res W G H (fun _ Ho v => Ho = [] ∧ v = (.int .u32 y))) := by
 refine calls_b (args := [(.int .i64 x0)]) (N := 6) [.tmp 2] Tryd.func107 rfl rfl (Nat.le_of_ble_eq_true rfl) rfl fun a f => ?_
 unfold D.impl_firstOf at hd
 refine k_seq (k_region ?_)
 refine l_as f rfl rfl fun a f => ?_
 refine l_nil (k_seq (k_region ?_))
 refine l_mv f rfl rfl fun a f => ?_
 obtain ⟨hn_1, hd⟩ := cond_none hd
 refine l_op f rfl rfl rfl (r_shl (f.eval rfl) (f.eval rfl) hn_1) fun a f => ?_
 refine l_in f rfl rfl rfl b_sub fun a f => ?_
 refine l_as f rfl rfl fun a f => ?_
 refine l_nil ?_
 refine k_ret ?_
 obtain rfl := sj hd
 exact ⟨[(.int .u32 (IntKind.u32.wrap ((ishl .u32 1 x0) - 1)))], ⟨f.get _ _ rfl, trivial⟩, f.defers, _, [], (GLe.refl _), m, rfl, rfl⟩

theorem Wk.impl_nets_all {W w : World} {G : GH} {H : List Itm} {v0 : Value} {x0 : (List Int)} (m : Mem W G w (H)) (h0 : RSl (RI .u32) G v0 x0) {y : Int} (hd : D.impl_nets_all x0 = some y) :
  Calls Tryd.prog 80 #[v0] w (Res W G H (fun _ Ho v => Ho = [] ∧ v = (.int .u32 y))) := by
 refine calls_b (args := [v0]) (N := 6) [.tmp 2] Tryd.func80 rfl rfl (Nat.le_of_ble_eq_true rfl) rfl fun a f => ?_
 unfold D.impl_nets_all at hd
 refine k_seq (k_region ?_)
 refine l_as f rfl rfl fun a f => ?_
 refine l_nil (k_seq (k_region ?_))
 refine l_mv f rfl rfl fun a f => ?_
 refine l_len Tryd.underlying54 f rfl rfl h0 fun a f => ?_
 obtain ⟨y_1, hy_2, hd⟩ := bind_some hd
 refine l_res f rfl rfl Tryd.call107 (Wk.impl_firstOf m  hy_2) fun v_6 G_3 Ho_7 w hl_4 m hQ_5 a f => ?_
 obtain ⟨rfl, rfl⟩ := hQ_5
 have h0 := RSl.mono (RI.mono _) _ _ _ _ hl_4 h0
 refine l_as f rfl rfl fun a f => ?_
 refine l_nil ?_
 refine k_ret ?_
 obtain rfl := sj hd
 exact ⟨[(.int .u32 y_1)], ⟨f.get _ _ rfl, trivial⟩, f.defers, _, [], hl_4, m, rfl, rfl⟩

theorem Wk.impl_vset_least {W w : World} {G : GH} {H : List Itm} {x0 : Int} (hW : TabW W) (m : Mem W G w (H))  {y : Int} (hd : D.impl_vset_least x0 = some y) :
  Calls Tryd.prog 130 #[(.int .u32 x0)] w (Res W G H (fun _ Ho v => Ho = [] ∧ v = (.int .i64 y))) := by
 refine calls_b (args := [(.int .u32 x0)]) (N := 5) [.tmp 2] Tryd.func130 rfl rfl (Nat.le_of_ble_eq_true rfl) rfl fun a f => ?_
 unfold D.impl_vset_least at hd
 refine k_seq (k_region ?_)
 refine l_as f rfl rfl fun a f => ?_
 refine l_nil (k_seq (k_region ?_))
 refine l_mv f rfl rfl fun a f => ?_
 obtain ⟨y_1, hy_2, hd⟩ := bind_some hd
 refine l_res f rfl rfl Tryd.call151 (Wk.math_bits_TrailingZeros32 hW m  hy_2) fun v_6 G_3 Ho_7 w hl_4 m hQ_5 a f => ?_
 obtain ⟨rfl, rfl⟩ := hQ_5
 refine l_as f rfl rfl fun a f => ?_
 refine l_nil ?_
 refine k_ret ?_
 obtain rfl := sj hd
 exact ⟨[(.int .i64 y_1)], ⟨f.get _ _ rfl, trivial⟩, f.defers, _, [], hl_4, m, rfl, rfl⟩

theorem Wk.impl_vset_list {W w : World} {G : GH} {H : List Itm} {x0 : Int} (hW : TabW W) (m : Mem W G w (H))  {y : ((List Int))} (hd : D.impl_vset_list x0 = some y) :
  Calls Tryd.prog 103 #[(.int .u32 x0)] w (Res W G H (fun G' Ho v => ∃ r0 : Value, ∃ i0 : Itm, Ho = [i0] ∧ r0 = v ∧ Ow (RI .i64) 3 G' i0 r0 y)) := by
 refine calls_b (args := [(.int .u32 x0)]) (N := 17) [.tmp 2] Tryd.func103 rfl rfl (Nat.le_of_ble_eq_true rfl) rfl fun a f => ?_
 unfold D.impl_vset_list at hd
 refine k_seq (k_region ?_)
 refine l_as f rfl rfl fun a f => ?_
 refine l_nil (k_seq (k_region ?_))
 refine l_slit (R := (RI .i64)) (xs := ([] : List Int)) (RI.one _) m T74 f rfl rfl rfl (by decide) (All2.nil _) fun it_1 v_2 w a m o_3 f => ?_
 refine l_as f rfl rfl fun a f => ?_
 refine l_nil (k_seq ?_)
 obtain ⟨q_48, hl_49, hd⟩ := bind_some hd
 refine k_cut (fun a w => ∃ l_81 : List Int, l_81 = q_48 ∧ ∃ (G_80 : GH) (v_82 : Value) (it_83 : Itm), GLe G G_80 ∧ Fr a 17 [(3, v_82)] ∧ Mem W G_80 w (it_83 :: H) ∧ Ow (RI .i64) 3 G_80 it_83 v_82 l_81) ?_ ?_
 ·refine k_block ?_
  refine k_loop (fun s_52 a w => ∃ x_55 : Int, ∃ l_56 : List Int, (x_55, l_56) = s_52 ∧ ∃ (G_54 : GH) (v_57 : Value) (it_58 : Itm), GLe G G_54 ∧ Fr a 17 [(0, (.int .u32 x_55)), (3, v_57)] ∧ Mem W G_54 w (it_58 :: H) ∧ Ow (RI .i64) 3 G_54 it_58 v_57 l_56) hl_49 ⟨_, _, rfl, _, v_2, it_1, (GLe.refl _), f.weak ⟨rfl, rfl, trivial⟩, m, o_3⟩ ?_
  clear hl_49 f m
  rintro s_52 o_53 hs_50 hq_51 a w ⟨x_55, l_56, rfl, G_54, v_57, it_58, hl_61, f, m, o_59⟩
  refine k_seq (k_seq (k_region ?_))
  refine l_mv f rfl rfl fun a f => ?_
  refine l_in f rfl rfl rfl b_neq fun a f => ?_
  refine l_nil ?_
  rcases cond_some hs_50 with ⟨hc_87, hs_50⟩ | ⟨hc_87, hs_50⟩
  ·refine k_true f rfl hc_87 ?_
   refine k_skip ?_
   refine k_seq (k_block (k_region ?_))
   refine l_mv f rfl rfl fun a f => ?_
   refine l_mv f rfl rfl fun a f => ?_
   obtain ⟨y_88, hy_89, hs_50⟩ := bind_some hs_50
   refine l_res f rfl rfl Tryd.call130 (Wk.impl_vset_least hW m  hy_89) fun v_93 G_90 Ho_94 w hl_91 m hQ_92 a f => ?_
   obtain ⟨rfl, rfl⟩ := hQ_92
   have o_59 := Ow.mono (RI.mono _) hl_91 o_59
   refine l_slit (R := (RI .i64)) (xs := ([y_88] : List Int)) (RI.one _) m T74 f rfl rfl rfl (by decide) (All2.cons rfl (All2.nil _)) fun it_95 v_96 w a m o_97 f => ?_
   obtain ⟨l_99, hx_100, hs_50⟩ := bind_some hs_50
   refine l_append (RI.one _) 1 m o_59 rfl T74 rfl (by decide) f rfl rfl rfl (Ow.src (j := 0) o_97 m rfl) hx_100 fun it_101 v_102 w a m o_103 f => ?_
   refine l_as f rfl rfl fun a f => ?_
   refine l_nil (k_region ?_)
   refine l_mv f rfl rfl fun a f => ?_
   refine l_mv f rfl rfl fun a f => ?_
   refine l_in f rfl rfl rfl b_sub fun a f => ?_
   refine l_in f rfl rfl rfl b_and fun a f => ?_
   refine l_as f rfl rfl fun a f => ?_
   refine l_nil ?_
   have m := m.front 1 rfl
   have m := m.eraseAt 1
   obtain rfl := sj hs_50
   exact ⟨_, rfl, _, _, rfl, _, v_102, it_101, (GLe.trans hl_61 hl_91), f.weak ⟨rfl, rfl, trivial⟩, m, o_103⟩
  ·refine k_false f rfl hc_87 ?_
   refine k_exit rfl ?_
   obtain rfl := sj hs_50
   obtain rfl := hq_51 _ rfl
   exact ⟨_, rfl, _, v_57, it_58, hl_61, f.weak ⟨rfl, trivial⟩, m, o_59⟩
 ·rintro a w ⟨l_81, rfl, G_80, v_82, it_83, hl_86, f, m, o_84⟩
  refine k_seq (k_region ?_)
  refine l_mv f rfl rfl fun a f => ?_
  refine l_as f rfl rfl fun a f => ?_
  refine l_nil ?_
  refine k_ret ?_
  obtain rfl := sj hd
  exact ⟨[v_82], ⟨f.get _ _ rfl, trivial⟩, f.defers, _, [it_83], hl_86, m, _, _, rfl, rfl, o_84⟩

theorem Wk.impl_growCliquesR {W : World} (hW : TabW W) (n : Nat) : ∀ {w : World} {G : GH} {H : List Itm} {v0 : Value} {v4 : Value} {it4 : Itm} {x0 : (List Int)} {x1 : Int} {x2 : Int} {x3 : Int} {x4 : (List Int)} (m : Mem W G w (it4 :: H)) (h0 : RSl (RI .u32) G v0 x0) (o4 : Ow (RI .u32) 59 G it4 v4 x4) {y : ((List Int))} (hd : D.impl_growCliquesR n x0 x1 x2 x3 x4 = some y),
  Calls Tryd.prog 79 #[v0, (.int .u32 x1), (.int .u32 x2), (.int .u32 x3), v4] w (Res W G H (fun G' Ho v => ∃ r0 : Value, ∃ i0 : Itm, Ho = [i0] ∧ r0 = v ∧ Ow (RI .u32) 59 G' i0 r0 y)) := by
 induction n with
 | zero => intros; rename_i hd; simp [D.impl_growCliquesR] at hd
 | succ fuel ih =>
  intro w G H v0 v4 it4 x0 x1 x2 x3 x4 m h0 o4 y hd
  refine calls_b (args := [v0, (.int .u32 x1), (.int .u32 x2), (.int .u32 x3), v4]) (N := 58) [.tmp 10] Tryd.func79 rfl rfl (Nat.le_of_ble_eq_true rfl) rfl fun a f => ?_
  unfold D.impl_growCliquesR at hd
  refine k_seq (k_region ?_)
  refine l_as f rfl rfl fun a f => ?_
  refine l_nil (k_seq (k_seq (k_region ?_)))
  refine l_mv f rfl rfl fun a f => ?_
  refine l_in f rfl rfl rfl b_eql fun a f => ?_
  refine l_nil ?_
  rcases cond_some hd with ⟨hc_1, hd⟩ | ⟨hc_1, hd⟩
  ·refine k_true f rfl hc_1 ?_
   refine k_seq (k_seq (k_region ?_))
   refine l_mv f rfl rfl fun a f => ?_
   refine l_in f rfl rfl rfl b_eql fun a f => ?_
   refine l_nil ?_
   obtain ⟨j_13, hj_14, hd⟩ := bind_some hd
   refine k_cut (fun a w => ∃ l_16 : List Int, l_16 = j_13 ∧ ∃ (G_15 : GH) (v_17 : Value) (it_18 : Itm), GLe G G_15 ∧ Fr a 58 [(4, v_17)] ∧ Mem W G_15 w (it_18 :: H) ∧ Ow (RI .u32) 59 G_15 it_18 v_17 l_16) ?_ ?_
   ·rcases cond_some hj_14 with ⟨hc_22, hj_14⟩ | ⟨hc_22, hj_14⟩
    ·refine k_true f rfl hc_22 ?_
     refine k_region ?_
     refine l_mv f rfl rfl fun a f => ?_
     refine l_mv f rfl rfl fun a f => ?_
     refine l_slit (R := (RI .u32)) (xs := ([x1] : List Int)) (RI.one _) m T52 f rfl rfl rfl (by decide) (All2.cons rfl (All2.nil _)) fun it_23 v_24 w a m o_25 f => ?_
     obtain ⟨l_27, hx_28, hj_14⟩ := bind_some hj_14
     refine l_append (RI.one _) 1 m o4 rfl T52 rfl (by decide) f rfl rfl rfl (Ow.src (j := 0) o_25 m rfl) hx_28 fun it_29 v_30 w a m o_31 f => ?_
     refine l_as f rfl rfl fun a f => ?_
     refine l_nil ?_
     have m := m.front 1 rfl
     have m := m.eraseAt 1
     obtain rfl := sj hj_14
     exact ⟨_, rfl, _, v_30, it_29, (GLe.refl _), f.weak ⟨rfl, trivial⟩, m, o_31⟩
    ·refine k_false f rfl hc_22 ?_
     refine k_skip ?_
     obtain rfl := sj hj_14
     exact ⟨_, rfl, _, v4, it4, (GLe.refl _), f.weak ⟨rfl, trivial⟩, m, o4⟩
   ·rintro a w ⟨l_16, rfl, G_15, v_17, it_18, hl_21, f, m, o_19⟩
    refine k_seq (k_region ?_)
    refine l_mv f rfl rfl fun a f => ?_
    refine l_as f rfl rfl fun a f => ?_
    refine l_nil ?_
    refine k_ret ?_
    obtain rfl := sj hd
    exact ⟨[v_17], ⟨f.get _ _ rfl, trivial⟩, f.defers, _, [it_18], hl_21, m, _, _, rfl, rfl, o_19⟩
  ·refine k_false f rfl hc_1 ?_
   refine k_skip ?_
   refine k_seq (k_seq (k_region ?_))
   refine l_mv f rfl rfl fun a f => ?_
   obtain ⟨y_33, hy_34, hd⟩ := bind_some hd
   refine l_res f rfl rfl Tryd.call103 (Wk.impl_vset_list hW m  hy_34) fun v_38 G_35 Ho_39 w hl_36 m hQ_37 a f => ?_
   obtain ⟨v_40, it_41, rfl, rfl, o_42⟩ := hQ_37
   have h0 := RSl.mono (RI.mono _) _ _ _ _ hl_36 h0
   have o4 := Ow.mono (RI.mono _) hl_36 o4
   refine l_own_len 0 m o_42 rfl Tryd.underlying74 f rfl rfl fun a f => ?_
   refine l_mv f rfl rfl fun a f => ?_
   refine l_nil ?_
   obtain ⟨q_151, hl_152, hd⟩ := bind_some hd
   refine k_cut (fun a w => ∃ l_217 : List Int, l_217 = q_151 ∧ ∃ (G_216 : GH) (v_218 : Value) (it_219 : Itm), GLe G_35 G_216 ∧ Fr a 58 [(4, v_218)] ∧ Mem W G_216 w (it_219 :: H) ∧ Ow (RI .u32) 59 G_216 it_219 v_218 l_217) ?_ ?_
   ·refine k_block ?_
    have m := m.front 1 rfl
    refine k_loop (fun s_155 a w => ∃ x_158 : Int, ∃ x_159 : Int, ∃ l_160 : List Int, ∃ x_165 : Int, (x_158, x_159, l_160, x_165) = s_155 ∧ ∃ (G_157 : GH) (v_161 : Value) (it_162 : Itm), GLe G_35 G_157 ∧ Fr a 58 [(0, v0), (1, (.int .u32 x1)), (2, (.int .u32 x_158)), (3, (.int .u32 x_159)), (4, v_161), (23, v_40), (24, (.int .i64 (y_33.length : Int))), (25, (.int .i64 x_165))] ∧ Mem W G_157 w (it_162 :: it_41 :: H) ∧ Ow (RI .u32) 59 G_157 it_162 v_161 l_160) hl_152 ⟨_, _, _, _, rfl, _, v4, it4, (GLe.refl _), f.weak ⟨rfl, rfl, rfl, rfl, rfl, rfl, rfl, rfl, trivial⟩, m, o4⟩ ?_
    clear hl_152 f m
    rintro s_155 o_156 hs_153 hq_154 a w ⟨x_158, x_159, l_160, x_165, rfl, G_157, v_161, it_162, hl_166, f, m, o_163⟩
    have h0 := RSl.mono (RI.mono _) _ _ _ _ hl_166 h0
    have o_42 := Ow.mono (RI.mono _) hl_166 o_42
    refine k_seq (k_region ?_)
    refine l_in f rfl rfl rfl b_lss fun a f => ?_
    refine l_nil (k_seq ?_)
    rcases cond_some hs_153 with ⟨hc_223, hs_153⟩ | ⟨hc_223, hs_153⟩
    ·refine k_true f rfl hc_223 ?_
     refine k_skip ?_
     refine k_seq (k_block (k_seq (k_region ?_)))
     obtain ⟨e_224, he_225, hs_153⟩ := bind_some hs_153
     refine l_own_at 1 m o_42 rfl T74 f rfl rfl rfl he_225 fun p_226 a ha_227 f => ?_
     refine l_own_load 1 m o_42 rfl Pl3 f rfl rfl ha_227 he_225 fun c_228 a h_229 f => ?_
     subst h_229
     refine l_as f rfl rfl fun a f => ?_
     refine l_nil (k_seq ?_)
     refine k_draw 18 Follows (by kernel_rfl) m ?_
     refine q_mv 0 18 rfl (by kernel_rfl) f rfl rfl rfl fun a f => ?_
     refine q_mv 1 18 rfl (by kernel_rfl) f rfl rfl rfl fun a f => ?_
     refine q_mv 2 18 rfl (by kernel_rfl) f rfl rfl rfl fun a f => ?_
     obtain ⟨y_230, hy_231, hs_153⟩ := bind_some hs_153
     refine q_call (i := 3) 18 rfl (by kernel_rfl) rfl f rfl rfl rfl Tryd.call82 (fun _ _ w hG_232 m => Wk.impl_one m  hy_231) fun a f => ?_
     refine q_p 4 18 rfl (by kernel_rfl) f rfl rfl rfl (fun _ => r_int (f.eval rfl) (f.eval rfl) b_or) fun a f => ?_
     refine q_mv 5 18 rfl (by kernel_rfl) f rfl rfl rfl fun a f => ?_
     refine q_mv 6 18 rfl (by kernel_rfl) f rfl rfl rfl fun a f => ?_
     refine q_mv 7 18 rfl (by kernel_rfl) f rfl rfl rfl fun a f => ?_
     obtain ⟨e_233, he_234, hs_153⟩ := bind_some hs_153
     refine q_at (i := 8) 18 T54 h0 he_234 rfl (by kernel_rfl) rfl f rfl rfl rfl rfl fun p_235 c_236 a g_237 h_238 f => ?_
     subst h_238
     refine q_loadAt (i := 9) 18 Pl59 g_237 rfl (by kernel_rfl) rfl f rfl rfl rfl fun a f => ?_
     refine q_p 10 18 rfl (by kernel_rfl) f rfl rfl rfl (fun _ => r_int (f.eval rfl) (f.eval rfl) b_and) fun a f => ?_
     refine q_mv 11 18 rfl (by kernel_rfl) f rfl rfl rfl fun a f => ?_
     refine q_mv 12 18 rfl (by kernel_rfl) f rfl rfl rfl fun a f => ?_
     refine q_mv 13 18 rfl (by kernel_rfl) f rfl rfl rfl fun a f => ?_
     obtain ⟨e_239, he_240, hs_153⟩ := bind_some hs_153
     refine q_at (i := 14) 18 T54 h0 he_240 rfl (by kernel_rfl) rfl f rfl rfl rfl rfl fun p_241 c_242 a g_243 h_244 f => ?_
     subst h_244
     refine q_loadAt (i := 15) 18 Pl59 g_243 rfl (by kernel_rfl) rfl f rfl rfl rfl fun a f => ?_
     refine q_p 16 18 rfl (by kernel_rfl) f rfl rfl rfl (fun _ => r_int (f.eval rfl) (f.eval rfl) b_and) fun a f => ?_
     refine q_mv 17 18 rfl (by kernel_rfl) f rfl rfl rfl fun a f => ?_
     refine q_end fun G_245 w hl_246 m => ?_
     have h0 := RSl.mono (RI.mono _) _ _ _ _ hl_246 h0
     have g_237 := At.mono hl_246 g_237
     have g_243 := At.mono hl_246 g_243
     have o_163 := Ow.mono (RI.mono _) hl_246 o_163
     have o_42 := Ow.mono (RI.mono _) hl_246 o_42
     obtain ⟨y_247, hy_248, hs_153⟩ := bind_some hs_153
     refine l_res f rfl rfl Tryd.call79 (ih m h0 o_163 hy_248) fun v_252 G_249 Ho_253 w hl_250 m hQ_251 a f => ?_
     obtain ⟨v_254, it_255, rfl, rfl, o_256⟩ := hQ_251
     have h0 := RSl.mono (RI.mono _) _ _ _ _ hl_250 h0
     have g_237 := At.mono hl_250 g_237
     have g_243 := At.mono hl_250 g_243
     have o_42 := Ow.mono (RI.mono _) hl_250 o_42
     refine l_as f rfl rfl fun a f => ?_
     refine l_nil (k_seq (k_region ?_))
     refine l_mv f rfl rfl fun a f => ?_
     refine l_mv f rfl rfl fun a f => ?_
     obtain ⟨y_258, hy_259, hs_153⟩ := bind_some hs_153
     refine l_res f rfl rfl Tryd.call82 (Wk.impl_one m  hy_259) fun v_263 G_260 Ho_264 w hl_261 m hQ_262 a f => ?_
     obtain ⟨rfl, rfl⟩ := hQ_262
     have h0 := RSl.mono (RI.mono _) _ _ _ _ hl_261 h0
     have o_256 := Ow.mono (RI.mono _) hl_261 o_256
     have o_42 := Ow.mono (RI.mono _) hl_261 o_42
     refine l_in f rfl rfl rfl b_andNot fun a f => ?_
     refine l_as f rfl rfl fun a f => ?_
     refine l_nil (k_region ?_)
     refine l_mv f rfl rfl fun a f => ?_
     refine l_mv f rfl rfl fun a f => ?_
     obtain ⟨y_265, hy_266, hs_153⟩ := bind_some hs_153
     refine l_res f rfl rfl Tryd.call82 (Wk.impl_one m  hy_266) fun v_270 G_267 Ho_271 w hl_268 m hQ_269 a f => ?_
     obtain ⟨rfl, rfl⟩ := hQ_269
     have h0 := RSl.mono (RI.mono _) _ _ _ _ hl_268 h0
     have o_256 := Ow.mono (RI.mono _) hl_268 o_256
     have o_42 := Ow.mono (RI.mono _) hl_268 o_42
     refine l_in f rfl rfl rfl b_or fun a f => ?_
     refine l_as f rfl rfl fun a f => ?_
     refine l_nil (k_region ?_)
     refine l_in f rfl rfl rfl b_add fun a f => ?_
     refine l_mv f rfl rfl fun a f => ?_
     refine l_nil ?_
     have m := m.front 1 rfl
     have m := m.front 1 rfl
     obtain rfl := sj hs_153
     exact ⟨_, rfl, _, _, _, _, rfl, _, v_254, it_255, (GLe.trans hl_166 (GLe.trans hl_246 (GLe.trans hl_250 (GLe.trans hl_261 hl_268)))), f.weak ⟨rfl, rfl, rfl, rfl, rfl, rfl, rfl, rfl, trivial⟩, m, o_256⟩
    ·refine k_false f rfl hc_223 ?_
     refine k_exit rfl ?_
     have m := m.eraseAt 1
     obtain rfl := sj hs_153
     obtain rfl := hq_154 _ rfl
     exact ⟨_, rfl, _, v_161, it_162, hl_166, f.weak ⟨rfl, trivial⟩, m, o_163⟩
   ·rintro a w ⟨l_217, rfl, G_216, v_218, it_219, hl_222, f, m, o_220⟩
    refine k_seq (k_region ?_)
    refine l_mv f rfl rfl fun a f => ?_
    refine l_as f rfl rfl fun a f => ?_
    refine l_nil ?_
    refine k_ret ?_
    obtain rfl := sj hd
    exact ⟨[v_218], ⟨f.get _ _ rfl, trivial⟩, f.defers, _, [it_219], (GLe.trans hl_36 hl_222), m, _, _, rfl, rfl, o_220⟩

theorem Wk.impl_growCliques {W w : World} {G : GH} {H : List Itm} {v0 : Value} {v4 : Value} {it4 : Itm} {x0 : (List Int)} {x1 : Int} {x2 : Int} {x3 : Int} {x4 : (List Int)} (hW : TabW W) (m : Mem W G w (it4 :: H)) (h0 : RSl (RI .u32) G v0 x0) (o4 : Ow (RI .u32) 59 G it4 v4 x4) {y : ((List Int))} (hd : D.impl_growCliques x0 x1 x2 x3 x4 = some y) :
  Calls Tryd.prog 79 #[v0, (.int .u32 x1), (.int .u32 x2), (.int .u32 x3), v4] w (Res W G H (fun G' Ho v => ∃ r0 : Value, ∃ i0 : Itm, Ho = [i0] ∧ r0 = v ∧ Ow (RI .u32) 59 G' i0 r0 y)) := by
 exact Wk.impl_growCliquesR hW recFuel m h0 o4 hd

theorem Wk.impl_compareSets {W w : World} {G : GH} {H : List Itm} {x0 : Int} {x1 : Int} (hW : TabW W) (m : Mem W G w (H))  {y : Int} (hd : D.impl_compareSets x0 x1 = some y) :
  Calls Tryd.prog 81 #[(.int .u32 x0), (.int .u32 x1)] w (Res W G H (fun _ Ho v => Ho = [] ∧ v = (.int .i64 y))) := by
 refine calls_b (args := [(.int .u32 x0), (.int .u32 x1)]) (N := 10) [.tmp 4] Tryd.func81 rfl rfl (Nat.le_of_ble_eq_true rfl) rfl fun a f => ?_
 unfold D.impl_compareSets at hd
 refine k_seq (k_region ?_)
 refine l_as f rfl rfl fun a f => ?_
 refine l_nil (k_seq (k_region ?_))
 refine l_mv f rfl rfl fun a f => ?_
 obtain ⟨y_1, hy_2, hd⟩ := bind_some hd
 refine l_res f rfl rfl Tryd.call103 (Wk.impl_vset_list hW m  hy_2) fun v_6 G_3 Ho_7 w hl_4 m hQ_5 a f => ?_
 obtain ⟨v_8, it_9, rfl, rfl, o_10⟩ := hQ_5
 refine l_mv f rfl rfl fun a f => ?_
 obtain ⟨y_12, hy_13, hd⟩ := bind_some hd
 refine l_res f rfl rfl Tryd.call103 (Wk.impl_vset_list hW m  hy_13) fun v_17 G_14 Ho_18 w hl_15 m hQ_16 a f => ?_
 obtain ⟨v_19, it_20, rfl, rfl, o_21⟩ := hQ_16
 have o_10 := Ow.mono (RI.mono _) hl_15 o_10
 obtain ⟨y_23, hy_24, hd⟩ := bind_some hd
 refine l_res f rfl rfl Tryd.call108 (Ow.lendCall (RI.mono _) 1 o_10 m rfl (fun G_25 hl_26 m h_27 => (Ow.lendCall (RI.mono _) 0 (Ow.mono (RI.mono _) hl_26 o_21) m rfl (fun G_28 hl_29 m h_30 => Wk.slices_Compare_int_int m (RSl.mono (RI.mono _) _ _ _ _ hl_29 h_27) h_30 hy_24) (fun _ _ _ _ h => h))) (fun _ _ _ _ h => h)) fun v_34 G_31 Ho_35 w hl_32 m hQ_33 a f => ?_
 obtain ⟨rfl, rfl⟩ := hQ_33
 have o_21 := Ow.mono (RI.mono _) hl_32 o_21
 have o_10 := Ow.mono (RI.mono _) hl_32 o_10
 refine l_as f rfl rfl fun a f => ?_
 refine l_nil ?_
 refine k_ret ?_
 have m : Mem W G_31 w H := Mem.drop (H' := [it_20, it_9]) m
 obtain rfl := sj hd
 exact ⟨[(.int .i64 y_23)], ⟨f.get _ _ rfl, trivial⟩, f.defers, _, [], (GLe.trans hl_4 (GLe.trans hl_15 hl_32)), m, rfl, rfl⟩

theorem Wk.slices_insertionSortCmpFunc_impl_vset__impl_compareSets {W w : World} {G : GH} {H : List Itm} {v0 : Value} {it0 : Itm} {x0 : (List Int)} {x1 : Int} {x2 : Int} (hW : TabW W) (m : Mem W G w (it0 :: H)) (o0 : Ow (RI .u32) 59 G it0 v0 x0) {y : ((List Int))} (hd : D.slices_insertionSortCmpFunc_impl_vset__impl_compareSets x0 x1 x2 = some y) :
  Calls Tryd.prog 109 #[v0, (.int .i64 x1), (.int .i64 x2), (.func (.func 81) #[] #[])] w (Res W G H (fun G' Ho _ => ∃ i0 : Itm, Ho = [i0] ∧ Ow (RI .u32) 59 G' i0 v0 y)) := by
 refine calls_b (args := [v0, (.int .i64 x1), (.int .i64 x2), (.func (.func 81) #[] #[])]) (N := 53) [] Tryd.func109 rfl rfl (Nat.le_of_ble_eq_true rfl) rfl fun a f => ?_
 unfold D.slices_insertionSortCmpFunc_impl_vset__impl_compareSets at hd
 refine k_seq (k_region ?_)
 refine l_mv f rfl rfl fun a f => ?_
 refine l_in f rfl rfl rfl b_add fun a f => ?_
 refine l_as f rfl rfl fun a f => ?_
 refine l_nil ?_
 obtain ⟨q_556, hl_557, hd⟩ := bind_some hd
 refine k_cut (fun a w => ∃ l_844 : List Int, l_844 = q_556 ∧ ∃ (G_843 : GH) (it_845 : Itm), GLe G G_843 ∧ Fr a 53 [] ∧ Mem W G_843 w (it_845 :: H) ∧ Ow (RI .u32) 59 G_843 it_845 v0 l_844) ?_ ?_
 ·refine k_block ?_
  refine k_loop (fun s_560 a w => ∃ l_563 : List Int, ∃ x_566 : Int, (l_563, x_566) = s_560 ∧ ∃ (G_562 : GH) (it_564 : Itm), GLe G G_562 ∧ Fr a 53 [(0, v0), (1, (.int .i64 x1)), (2, (.int .i64 x2)), (3, (.func (.func 81) #[] #[])), (8, (.int .i64 x_566))] ∧ Mem W G_562 w (it_564 :: H) ∧ Ow (RI .u32) 59 G_562 it_564 v0 l_563) hl_557 ⟨_, _, rfl, _, it0, (GLe.refl _), f.weak ⟨rfl, rfl, rfl, rfl, rfl, trivial⟩, m, o0⟩ ?_
  clear hl_557 f m
  rintro s_560 o_561 hs_558 hq_559 a w ⟨l_563, x_566, rfl, G_562, it_564, hl_567, f, m, o_565⟩
  refine k_seq (k_seq (k_region ?_))
  refine l_mv f rfl rfl fun a f => ?_
  refine l_mv f rfl rfl fun a f => ?_
  refine l_in f rfl rfl rfl b_lss fun a f => ?_
  refine l_nil ?_
  rcases cond_some hs_558 with ⟨hc_848, hs_558⟩ | ⟨hc_848, hs_558⟩
  ·refine k_true f rfl hc_848 ?_
   refine k_skip ?_
   refine k_seq (k_block (k_seq (k_region ?_)))
   refine l_mv f rfl rfl fun a f => ?_
   refine l_as f rfl rfl fun a f => ?_
   refine l_nil ?_
   obtain ⟨q_980, hl_981, hs_558⟩ := bind_some hs_558
   refine k_cut (fun a w => ∃ l_1056 : List Int, l_1056 = q_980 ∧ ∃ (G_1055 : GH) (it_1057 : Itm), GLe G_562 G_1055 ∧ Fr a 53 [(0, v0), (1, (.int .i64 x1)), (2, (.int .i64 x2)), (3, (.func (.func 81) #[] #[])), (8, (.int .i64 x_566))] ∧ Mem W G_1055 w (it_1057 :: H) ∧ Ow (RI .u32) 59 G_1055 it_1057 v0 l_1056) ?_ ?_
   ·refine k_block ?_
    refine k_loop (fun s_984 a w => ∃ l_987 : List Int, ∃ x_990 : Int, (l_987, x_990) = s_984 ∧ ∃ (G_986 : GH) (it_988 : Itm), GLe G_562 G_986 ∧ Fr a 53 [(0, v0), (1, (.int .i64 x1)), (2, (.int .i64 x2)), (3, (.func (.func 81) #[] #[])), (8, (.int .i64 x_566)), (9, (.int .i64 x_990))] ∧ Mem W G_986 w (it_988 :: H) ∧ Ow (RI .u32) 59 G_986 it_988 v0 l_987) hl_981 ⟨_, _, rfl, _, it_564, (GLe.refl _), f.weak ⟨rfl, rfl, rfl, rfl, rfl, rfl, trivial⟩, m, o_565⟩ ?_
    clear hl_981 f m
    rintro s_984 o_985 hs_982 hq_983 a w ⟨l_987, x_990, rfl, G_986, it_988, hl_991, f, m, o_989⟩
    refine k_seq (k_seq ?_)
    refine k_draw 17 Follows (by kernel_rfl) m ?_
    refine q_mv 0 17 rfl (by kernel_rfl) f rfl rfl rfl fun a f => ?_
    refine q_mv 1 17 rfl (by kernel_rfl) f rfl rfl rfl fun a f => ?_
    refine q_p 2 17 rfl (by kernel_rfl) f rfl rfl rfl (fun _ => r_int (f.eval rfl) (f.eval rfl) b_gtr) fun a f => ?_
    refine q_mv 3 17 rfl (by kernel_rfl) f rfl rfl rfl fun a f => ?_
    obtain ⟨b_1077, hj_1078, hs_982⟩ := bind_some hs_982
    refine q_cut (fuel' := 0) (listed' := #[true, true, true, true, true, true, true, true, true, true, true, true, true, true, true, true, true]) (fun a => Fr a 53 [(0, v0), (1, (.int .i64 x1)), (2, (.int .i64 x2)), (3, (.func (.func 81) #[] #[])), (8, (.int .i64 x_566)), (9, (.int .i64 x_990)), (18, (.int .i64 x_990)), (19, (.int .i64 x1)), (20, (.bool (decide (x1 < x_990)))), (21, (.bool (decide (x1 < x_990)))), (34, (.bool b_1077))]) ?_ ?_
    ·intro a f
     refine q_end fun G_1094 w hl_1095 m => ?_
     have o_989 := Ow.mono (RI.mono _) hl_1095 o_989
     refine l_nil ?_
     rcases cond_some hs_982 with ⟨hc_1096, hs_982⟩ | ⟨hc_1096, hs_982⟩
     ·refine k_true f rfl hc_1096 ?_
      refine k_skip ?_
      refine k_seq (k_block ?_)
      refine k_draw0 Follows m ?_
      refine p_p 2 rfl (by kernel_rfl) f rfl rfl rfl (fun _ => r_move (f.eval rfl)) fun a f => ?_
      refine p_p 3 rfl (by kernel_rfl) f rfl rfl rfl (fun _ => r_move (f.eval rfl)) fun a f => ?_
      refine p_p 4 rfl (by kernel_rfl) f rfl rfl rfl (fun _ => r_int (f.eval rfl) (f.eval rfl) b_sub) fun a f => ?_
      refine k_draw1 28015 12 (by kernel_rfl) rfl ?_
      refine q_mv 0 28015 rfl (by kernel_rfl) f rfl rfl rfl fun a f => ?_
      refine q_mv 1 28015 rfl (by kernel_rfl) f rfl rfl rfl fun a f => ?_
      refine q_mv 5 28015 rfl (by kernel_rfl) f rfl rfl rfl fun a f => ?_
      refine q_mv 6 28015 rfl (by kernel_rfl) f rfl rfl rfl fun a f => ?_
      refine q_p 7 28015 rfl (by kernel_rfl) f rfl rfl rfl (fun _ => r_int (f.eval rfl) (f.eval rfl) b_sub) fun a f => ?_
      obtain ⟨e_1097, he_1098, hs_982⟩ := bind_some hs_982
      refine q_own_at (i := 8) 28015 0 m o_989 rfl T52 he_1098 rfl (by kernel_rfl) rfl f rfl rfl rfl rfl fun p_1099 a ha_1100 f => ?_
      refine q_own_load (i := 9) 28015 0 o_989 rfl Pl59 ha_1100 he_1098 rfl (by kernel_rfl) rfl f rfl rfl rfl fun c_1101 a h_1102 f => ?_
      subst h_1102
      refine q_mv 10 28015 rfl (by kernel_rfl) f rfl rfl rfl fun a f => ?_
      refine q_mv 11 28015 rfl (by kernel_rfl) f rfl rfl rfl fun a f => ?_
      obtain ⟨e_1103, he_1104, hs_982⟩ := bind_some hs_982
      refine q_own_at (i := 12) 28015 0 m o_989 rfl T52 he_1104 rfl (by kernel_rfl) rfl f rfl rfl rfl rfl fun p_1105 a ha_1106 f => ?_
      refine q_own_load (i := 13) 28015 0 o_989 rfl Pl59 ha_1106 he_1104 rfl (by kernel_rfl) rfl f rfl rfl rfl fun c_1107 a h_1108 f => ?_
      subst h_1108
      obtain ⟨e_1109, he_1110, hs_982⟩ := bind_some hs_982
      refine q_own_at (i := 14) 28015 0 m o_989 rfl T52 he_1110 rfl (by kernel_rfl) rfl f rfl rfl rfl rfl fun p_1111 a ha_1112 f => ?_
      refine q_end fun G_1113 w hl_1114 m => ?_
      have o_989 := Ow.mono (RI.mono _) hl_1114 o_989
      refine l_own_store 0 m o_989 rfl Tryd.sizeOf59 f rfl rfl ha_1112 he_1110 rfl rfl rfl fun it_1115 w m o_1116 => ?_
      obtain ⟨e_1117, he_1118, hs_982⟩ := bind_some hs_982
      refine l_own_at 0 m o_1116 rfl T52 f rfl rfl rfl he_1118 fun p_1119 a ha_1120 f => ?_
      refine l_own_store 0 m o_1116 rfl Tryd.sizeOf59 f rfl rfl ha_1120 he_1118 rfl rfl rfl fun it_1121 w m o_1122 => ?_
      refine l_nil (k_region ?_)
      refine l_mv f rfl rfl fun a f => ?_
      refine l_in f rfl rfl rfl b_sub fun a f => ?_
      refine l_as f rfl rfl fun a f => ?_
      refine l_nil ?_
      obtain rfl := sj hs_982
      exact ⟨_, rfl, _, _, rfl, _, it_1121, (GLe.trans hl_991 (GLe.trans hl_1095 hl_1114)), f.weak ⟨rfl, rfl, rfl, rfl, rfl, rfl, trivial⟩, m, o_1122⟩
     ·refine k_false f rfl hc_1096 ?_
      refine k_exit rfl ?_
      obtain rfl := sj hs_982
      obtain rfl := hq_983 _ rfl
      exact ⟨_, rfl, _, it_988, (GLe.trans hl_991 hl_1095), f.weak ⟨rfl, rfl, rfl, rfl, rfl, trivial⟩, m, o_989⟩
    ·intro K_1076
     rcases cond_some hj_1078 with ⟨hc_1060, hj_1078⟩ | ⟨hc_1060, hj_1078⟩
     ·refine q_mv 4 17 rfl (by kernel_rfl) f (wanted_of f rfl rfl rfl hc_1060) rfl rfl fun a f => ?_
      refine q_mv 5 17 rfl (by kernel_rfl) f (wanted_of f rfl rfl rfl hc_1060) rfl rfl fun a f => ?_
      refine q_mv 6 17 rfl (by kernel_rfl) f (wanted_of f rfl rfl rfl hc_1060) rfl rfl fun a f => ?_
      obtain ⟨e_1079, he_1080, hj_1078⟩ := bind_some hj_1078
      refine q_own_at (i := 7) 17 0 m o_989 rfl T52 he_1080 rfl (by kernel_rfl) rfl f (wanted_of f rfl rfl rfl hc_1060) rfl rfl rfl fun p_1081 a ha_1082 f => ?_
      refine q_own_load (i := 8) 17 0 o_989 rfl Pl59 ha_1082 he_1080 rfl (by kernel_rfl) rfl f (wanted_of f rfl rfl rfl hc_1060) rfl rfl fun c_1083 a h_1084 f => ?_
      subst h_1084
      refine q_mv 9 17 rfl (by kernel_rfl) f (wanted_of f rfl rfl rfl hc_1060) rfl rfl fun a f => ?_
      refine q_mv 10 17 rfl (by kernel_rfl) f (wanted_of f rfl rfl rfl hc_1060) rfl rfl fun a f => ?_
      refine q_p 11 17 rfl (by kernel_rfl) f (wanted_of f rfl rfl rfl hc_1060) rfl rfl (fun _ => r_int (f.eval rfl) (f.eval rfl) b_sub) fun a f => ?_
      obtain ⟨e_1085, he_1086, hj_1078⟩ := bind_some hj_1078
      refine q_own_at (i := 12) 17 0 m o_989 rfl T52 he_1086 rfl (by kernel_rfl) rfl f (wanted_of f rfl rfl rfl hc_1060) rfl rfl rfl fun p_1087 a ha_1088 f => ?_
      refine q_own_load (i := 13) 17 0 o_989 rfl Pl59 ha_1088 he_1086 rfl (by kernel_rfl) rfl f (wanted_of f rfl rfl rfl hc_1060) rfl rfl fun c_1089 a h_1090 f => ?_
      subst h_1090
      obtain ⟨y_1091, hy_1092, hj_1078⟩ := bind_some hj_1078
      refine q_callv (i := 14) 17 rfl (by kernel_rfl) rfl f (wanted_of f rfl rfl rfl hc_1060) rfl rfl rfl Tryd.call81 (fun _ _ w hG_1093 m => Wk.impl_compareSets hW m  hy_1092) fun a f => ?_
      refine q_p 15 17 rfl (by kernel_rfl) f (wanted_of f rfl rfl rfl hc_1060) rfl rfl (fun _ => r_int (f.eval rfl) (f.eval rfl) b_lss) fun a f => ?_
      refine q_p 16 17 rfl (by kernel_rfl) f rfl rfl rfl (fun _ => r_pickT (f.eval rfl) hc_1060 (f.eval rfl)) fun a f => ?_
      obtain rfl := sj hj_1078
      exact K_1076 _ (f.weak ⟨rfl, rfl, rfl, rfl, rfl, rfl, rfl, rfl, rfl, rfl, rfl, trivial⟩)
     ·refine q_ng 4 17 rfl (by kernel_rfl) f rfl rfl hc_1060 rfl fun a f => ?_
      refine q_ng 5 17 rfl (by kernel_rfl) f rfl rfl hc_1060 rfl fun a f => ?_
      refine q_ng 6 17 rfl (by kernel_rfl) f rfl rfl hc_1060 rfl fun a f => ?_
      refine q_ng 7 17 rfl (by kernel_rfl) f rfl rfl hc_1060 rfl fun a f => ?_
      refine q_ng 8 17 rfl (by kernel_rfl) f rfl rfl hc_1060 rfl fun a f => ?_
      refine q_ng 9 17 rfl (by kernel_rfl) f rfl rfl hc_1060 rfl fun a f => ?_
      refine q_ng 10 17 rfl (by kernel_rfl) f rfl rfl hc_1060 rfl fun a f => ?_
      refine q_ng 11 17 rfl (by kernel_rfl) f rfl rfl hc_1060 rfl fun a f => ?_
      refine q_ng 12 17 rfl (by kernel_rfl) f rfl rfl hc_1060 rfl fun a f => ?_
      refine q_ng 13 17 rfl (by kernel_rfl) f rfl rfl hc_1060 rfl fun a f => ?_
      refine q_ng 14 17 rfl (by kernel_rfl) f rfl rfl hc_1060 rfl fun a f => ?_
      refine q_ng 15 17 rfl (by kernel_rfl) f rfl rfl hc_1060 rfl fun a f => ?_
      refine q_p 16 17 rfl (by kernel_rfl) f rfl rfl rfl (fun _ => r_pickF (f.eval rfl) hc_1060 (f.eval rfl)) fun a f => ?_
      obtain rfl := sj hj_1078
      exact K_1076 _ (f.weak ⟨rfl, rfl, rfl, rfl, rfl, rfl, rfl, rfl, rfl, rfl, rfl, trivial⟩)
   ·rintro a w ⟨l_1056, rfl, G_1055, it_1057, hl_1059, f, m, o_1058⟩
    refine k_region ?_
    refine l_mv f rfl rfl fun a f => ?_
    refine l_in f rfl rfl rfl b_add fun a f => ?_
    refine l_as f rfl rfl fun a f => ?_
    refine l_nil ?_
    obtain rfl := sj hs_558
    exact ⟨_, rfl, _, _, rfl, _, it_1057, (GLe.trans hl_567 hl_1059), f.weak ⟨rfl, rfl, rfl, rfl, rfl, trivial⟩, m, o_1058⟩
  ·refine k_false f rfl hc_848 ?_
   refine k_exit rfl ?_
   obtain rfl := sj hs_558
   obtain rfl := hq_559 _ rfl
   exact ⟨_, rfl, _, it_564, hl_567, f.weak trivial, m, o_565⟩
 ·rintro a w ⟨l_844, rfl, G_843, it_845, hl_847, f, m, o_846⟩
  obtain rfl := sj hd
  exact ⟨[], trivial, f.defers, _, [it_845], hl_847, m, _, rfl, o_846⟩

theorem Wk.slices_siftDownCmpFunc_impl_vset__impl_compareSets {W w : World} {G : GH} {H : List Itm} {v0 : Value} {it0 : Itm} {x0 : (List Int)} {x1 : Int} {x2 : Int} {x3 : Int} (hW : TabW W) (m : Mem W G w (it0 :: H)) (o0 : Ow (RI .u32) 59 G it0 v0 x0) {y : ((List Int))} (hd : D.slices_siftDownCmpFunc_impl_vset__impl_compareSets x0 x1 x2 x3 = some y) :
  Calls Tryd.prog 133 #[v0, (.int .i64 x1), (.int .i64 x2), (.int .i64 x3), (.func (.func 81) #[] #[])] w (Res W G H (fun G' Ho _ => ∃ i0 : Itm, Ho = [i0] ∧ Ow (RI .u32) 59 G' i0 v0 y)) := by
 refine calls_b (args := [v0, (.int .i64 x1), (.int .i64 x2), (.int .i64 x3), (.func (.func 81) #[] #[])]) (N := 82) [] Tryd.func133 rfl rfl (Nat.le_of_ble_eq_true rfl) rfl fun a f => ?_
 unfold D.slices_siftDownCmpFunc_impl_vset__impl_compareSets at hd
 refine k_seq (k_region ?_)
 refine l_mv f rfl rfl fun a f => ?_
 refine l_as f rfl rfl fun a f => ?_
 refine l_nil ?_
 obtain ⟨q_182, hl_183, hd⟩ := bind_some hd
 refine k_cut (fun a w => ∃ q_182' : (List Int), q_182 = .inl q_182' ∧ ∃ l_283 : List Int, l_283 = q_182' ∧ ∃ (G_282 : GH) (it_284 : Itm), GLe G G_282 ∧ Fr a 82 [] ∧ Mem W G_282 w (it_284 :: H) ∧ Ow (RI .u32) 59 G_282 it_284 v0 l_283) ?_ ?_
 ·refine k_block ?_
  refine k_loop (fun s_186 a w => ∃ l_189 : List Int, ∃ x_192 : Int, (l_189, x_192) = s_186 ∧ ∃ (G_188 : GH) (it_190 : Itm), GLe G G_188 ∧ Fr a 82 [(0, v0), (2, (.int .i64 x2)), (3, (.int .i64 x3)), (4, (.func (.func 81) #[] #[])), (10, (.int .i64 x_192))] ∧ Mem W G_188 w (it_190 :: H) ∧ Ow (RI .u32) 59 G_188 it_190 v0 l_189) hl_183 ⟨_, _, rfl, _, it0, (GLe.refl _), f.weak ⟨rfl, rfl, rfl, rfl, rfl, trivial⟩, m, o0⟩ ?_
  clear hl_183 f m
  rintro s_186 o_187 hs_184 hq_185 a w ⟨l_189, x_192, rfl, G_188, it_190, hl_193, f, m, o_191⟩
  refine k_block (k_seq (k_region ?_))
  refine l_mv f rfl rfl fun a f => ?_
  refine l_in f rfl rfl rfl b_mul fun a f => ?_
  refine l_in f rfl rfl rfl b_add fun a f => ?_
  refine l_as f rfl rfl fun a f => ?_
  refine l_nil (k_seq (k_seq (k_region ?_)))
  refine l_mv f rfl rfl fun a f => ?_
  refine l_mv f rfl rfl fun a f => ?_
  refine l_in f rfl rfl rfl b_geq fun a f => ?_
  refine l_nil ?_
  rcases cond_some hs_184 with ⟨hc_287, hs_184⟩ | ⟨hc_287, hs_184⟩
  ·refine k_true f rfl hc_287 ?_
   refine k_exit rfl ?_
   obtain rfl := sj hs_184
   obtain rfl := hq_185 _ rfl
   exact ⟨_, rfl, _, rfl, _, it_190, hl_193, f.weak trivial, m, o_191⟩
  ·refine k_false f rfl hc_287 ?_
   refine k_skip ?_
   refine k_seq (k_seq ?_)
   refine k_draw 22 Follows (by kernel_rfl) m ?_
   refine q_mv 0 22 rfl (by kernel_rfl) f rfl rfl rfl fun a f => ?_
   refine q_p 1 22 rfl (by kernel_rfl) f rfl rfl rfl (fun _ => r_int (f.eval rfl) (f.eval rfl) b_add) fun a f => ?_
   refine q_mv 2 22 rfl (by kernel_rfl) f rfl rfl rfl fun a f => ?_
   refine q_p 3 22 rfl (by kernel_rfl) f rfl rfl rfl (fun _ => r_int (f.eval rfl) (f.eval rfl) b_lss) fun a f => ?_
   refine q_mv 4 22 rfl (by kernel_rfl) f rfl rfl rfl fun a f => ?_
   obtain ⟨b_305, hj_306, hs_184⟩ := bind_some hs_184
   refine q_cut (fuel' := 0) (listed' := #[true, true, true, true, true, true, true, true, true, true, true, true, true, true, true, true, true, true, true, true, true, true]) (fun a => Fr a 82 [(0, v0), (2, (.int .i64 x2)), (3, (.int .i64 x3)), (4, (.func (.func 81) #[] #[])), (10, (.int .i64 x_192)), (11, (.int .i64 (IntKind.i64.wrap ((IntKind.i64.wrap (2 * x_192)) + 1)))), (18, (.bool (decide (x2 ≤ (IntKind.i64.wrap ((IntKind.i64.wrap (2 * x_192)) + 1)))))), (19, (.int .i64 (IntKind.i64.wrap ((IntKind.i64.wrap (2 * x_192)) + 1)))), (20, (.int .i64 (IntKind.i64.wrap ((IntKind.i64.wrap ((IntKind.i64.wrap (2 * x_192)) + 1)) + 1)))), (21, (.int .i64 x2)), (22, (.bool (decide ((IntKind.i64.wrap ((IntKind.i64.wrap ((IntKind.i64.wrap (2 * x_192)) + 1)) + 1)) < x2)))), (23, (.bool (decide ((IntKind.i64.wrap ((IntKind.i64.wrap ((IntKind.i64.wrap (2 * x_192)) + 1)) + 1)) < x2)))), (40, (.bool b_305))]) ?_ ?_
   ·intro a f
    refine q_end fun G_322 w hl_323 m => ?_
    have o_191 := Ow.mono (RI.mono _) hl_323 o_191
    refine l_nil ?_
    obtain ⟨j_325, hj_326, hs_184⟩ := bind_some hs_184
    refine k_cut (fun a w => ∃ x_328 : Int, x_328 = j_325 ∧ ∃ (G_327 : GH), GLe G_322 G_327 ∧ Fr a 82 [(0, v0), (2, (.int .i64 x2)), (3, (.int .i64 x3)), (4, (.func (.func 81) #[] #[])), (10, (.int .i64 x_192)), (11, (.int .i64 x_328))] ∧ Mem W G_327 w (it_190 :: H)) ?_ ?_
    ·rcases cond_some hj_326 with ⟨hc_330, hj_326⟩ | ⟨hc_330, hj_326⟩
     ·refine k_true f rfl hc_330 ?_
      refine k_region ?_
      refine l_mv f rfl rfl fun a f => ?_
      refine l_in f rfl rfl rfl b_add fun a f => ?_
      refine l_as f rfl rfl fun a f => ?_
      refine l_nil ?_
      obtain rfl := sj hj_326
      exact ⟨_, rfl, _, (GLe.refl _), f.weak ⟨rfl, rfl, rfl, rfl, rfl, rfl, trivial⟩, m⟩
     ·refine k_false f rfl hc_330 ?_
      refine k_skip ?_
      obtain rfl := sj hj_326
      exact ⟨_, rfl, _, (GLe.refl _), f.weak ⟨rfl, rfl, rfl, rfl, rfl, rfl, trivial⟩, m⟩
    ·rintro a w ⟨x_328, rfl, G_327, hl_329, f, m⟩
     have o_191 := Ow.mono (RI.mono _) hl_329 o_191
     refine k_seq (k_seq ?_)
     refine k_draw 16 Follows (by kernel_rfl) m ?_
     refine q_mv 0 16 rfl (by kernel_rfl) f rfl rfl rfl fun a f => ?_
     refine q_mv 1 16 rfl (by kernel_rfl) f rfl rfl rfl fun a f => ?_
     refine q_mv 2 16 rfl (by kernel_rfl) f rfl rfl rfl fun a f => ?_
     refine q_mv 3 16 rfl (by kernel_rfl) f rfl rfl rfl fun a f => ?_
     refine q_p 4 16 rfl (by kernel_rfl) f rfl rfl rfl (fun _ => r_int (f.eval rfl) (f.eval rfl) b_add) fun a f => ?_
     obtain ⟨e_331, he_332, hs_184⟩ := bind_some hs_184
     refine q_own_at (i := 5) 16 0 m o_191 rfl T52 he_332 rfl (by kernel_rfl) rfl f rfl rfl rfl rfl fun p_333 a ha_334 f => ?_
     refine q_own_load (i := 6) 16 0 o_191 rfl Pl59 ha_334 he_332 rfl (by kernel_rfl) rfl f rfl rfl rfl fun c_335 a h_336 f => ?_
     subst h_336
     refine q_mv 7 16 rfl (by kernel_rfl) f rfl rfl rfl fun a f => ?_
     refine q_mv 8 16 rfl (by kernel_rfl) f rfl rfl rfl fun a f => ?_
     refine q_mv 9 16 rfl (by kernel_rfl) f rfl rfl rfl fun a f => ?_
     refine q_p 10 16 rfl (by kernel_rfl) f rfl rfl rfl (fun _ => r_int (f.eval rfl) (f.eval rfl) b_add) fun a f => ?_
     obtain ⟨e_337, he_338, hs_184⟩ := bind_some hs_184
     refine q_own_at (i := 11) 16 0 m o_191 rfl T52 he_338 rfl (by kernel_rfl) rfl f rfl rfl rfl rfl fun p_339 a ha_340 f => ?_
     refine q_own_load (i := 12) 16 0 o_191 rfl Pl59 ha_340 he_338 rfl (by kernel_rfl) rfl f rfl rfl rfl fun c_341 a h_342 f => ?_
     subst h_342
     obtain ⟨y_343, hy_344, hs_184⟩ := bind_some hs_184
     refine q_callv (i := 13) 16 rfl (by kernel_rfl) rfl f rfl rfl rfl rfl Tryd.call81 (fun _ _ w hG_345 m => Wk.impl_compareSets hW m  hy_344) fun a f => ?_
     refine q_p 14 16 rfl (by kernel_rfl) f rfl rfl rfl (fun _ => r_int (f.eval rfl) (f.eval rfl) b_lss) fun a f => ?_
     refine q_p 15 16 rfl (by kernel_rfl) f rfl rfl rfl (fun _ => r_not (f.eval rfl)) fun a f => ?_
     refine q_end fun G_346 w hl_347 m => ?_
     have o_191 := Ow.mono (RI.mono _) hl_347 o_191
     refine l_nil ?_
     rcases cond_some hs_184 with ⟨hc_348, hs_184⟩ | ⟨hc_348, hs_184⟩
     ·refine k_true f rfl hc_348 ?_
      refine k_ret ?_
      obtain rfl := sj hs_184
      obtain rfl := hq_185 _ rfl
      obtain rfl := sj hd
      exact ⟨[], trivial, f.defers, _, [it_190], (GLe.trans hl_193 (GLe.trans hl_323 (GLe.trans hl_329 hl_347))), m, _, rfl, o_191⟩
     ·refine k_false f rfl hc_348 ?_
      refine k_skip ?_
      refine k_seq ?_
      refine k_draw0 Follows m ?_
      refine p_p 4 rfl (by kernel_rfl) f rfl rfl rfl (fun _ => r_move (f.eval rfl)) fun a f => ?_
      refine p_p 5 rfl (by kernel_rfl) f rfl rfl rfl (fun _ => r_move (f.eval rfl)) fun a f => ?_
      refine p_p 6 rfl (by kernel_rfl) f rfl rfl rfl (fun _ => r_move (f.eval rfl)) fun a f => ?_
      refine p_p 7 rfl (by kernel_rfl) f rfl rfl rfl (fun _ => r_int (f.eval rfl) (f.eval rfl) b_add) fun a f => ?_
      refine k_draw1 240021 17 (by kernel_rfl) rfl ?_
      refine q_mv 0 240021 rfl (by kernel_rfl) f rfl rfl rfl fun a f => ?_
      refine q_mv 1 240021 rfl (by kernel_rfl) f rfl rfl rfl fun a f => ?_
      refine q_mv 2 240021 rfl (by kernel_rfl) f rfl rfl rfl fun a f => ?_
      refine q_p 3 240021 rfl (by kernel_rfl) f rfl rfl rfl (fun _ => r_int (f.eval rfl) (f.eval rfl) b_add) fun a f => ?_
      refine q_mv 8 240021 rfl (by kernel_rfl) f rfl rfl rfl fun a f => ?_
      refine q_mv 9 240021 rfl (by kernel_rfl) f rfl rfl rfl fun a f => ?_
      refine q_mv 10 240021 rfl (by kernel_rfl) f rfl rfl rfl fun a f => ?_
      refine q_p 11 240021 rfl (by kernel_rfl) f rfl rfl rfl (fun _ => r_int (f.eval rfl) (f.eval rfl) b_add) fun a f => ?_
      obtain ⟨e_349, he_350, hs_184⟩ := bind_some hs_184
      refine q_own_at (i := 12) 240021 0 m o_191 rfl T52 he_350 rfl (by kernel_rfl) rfl f rfl rfl rfl rfl fun p_351 a ha_352 f => ?_
      refine q_own_load (i := 13) 240021 0 o_191 rfl Pl59 ha_352 he_350 rfl (by kernel_rfl) rfl f rfl rfl rfl fun c_353 a h_354 f => ?_
      subst h_354
      refine q_mv 14 240021 rfl (by kernel_rfl) f rfl rfl rfl fun a f => ?_
      refine q_mv 15 240021 rfl (by kernel_rfl) f rfl rfl rfl fun a f => ?_
      refine q_mv 16 240021 rfl (by kernel_rfl) f rfl rfl rfl fun a f => ?_
      refine q_p 17 240021 rfl (by kernel_rfl) f rfl rfl rfl (fun _ => r_int (f.eval rfl) (f.eval rfl) b_add) fun a f => ?_
      obtain ⟨e_355, he_356, hs_184⟩ := bind_some hs_184
      refine q_own_at (i := 18) 240021 0 m o_191 rfl T52 he_356 rfl (by kernel_rfl) rfl f rfl rfl rfl rfl fun p_357 a ha_358 f => ?_
      refine q_own_load (i := 19) 240021 0 o_191 rfl Pl59 ha_358 he_356 rfl (by kernel_rfl) rfl f rfl rfl rfl fun c_359 a h_360 f => ?_
      subst h_360
      obtain ⟨e_361, he_362, hs_184⟩ := bind_some hs_184
      refine q_own_at (i := 20) 240021 0 m o_191 rfl T52 he_362 rfl (by kernel_rfl) rfl f rfl rfl rfl rfl fun p_363 a ha_364 f => ?_
      refine q_end fun G_365 w hl_366 m => ?_
      have o_191 := Ow.mono (RI.mono _) hl_366 o_191
      refine l_own_store 0 m o_191 rfl Tryd.sizeOf59 f rfl rfl ha_364 he_362 rfl rfl rfl fun it_367 w m o_368 => ?_
      obtain ⟨e_369, he_370, hs_184⟩ := bind_some hs_184
      refine l_own_at 0 m o_368 rfl T52 f rfl rfl rfl he_370 fun p_371 a ha_372 f => ?_
      refine l_own_store 0 m o_368 rfl Tryd.sizeOf59 f rfl rfl ha_372 he_370 rfl rfl rfl fun it_373 w m o_374 => ?_
      refine l_nil (k_region ?_)
      refine l_mv f rfl rfl fun a f => ?_
      refine l_as f rfl rfl fun a f => ?_
      refine l_nil ?_
      obtain rfl := sj hs_184
      exact ⟨_, rfl, _, _, rfl, _, it_373, (GLe.trans hl_193 (GLe.trans hl_323 (GLe.trans hl_329 (GLe.trans hl_347 hl_366)))), f.weak ⟨rfl, rfl, rfl, rfl, rfl, trivial⟩, m, o_374⟩
   ·intro K_304
    rcases cond_some hj_306 with ⟨hc_288, hj_306⟩ | ⟨hc_288, hj_306⟩
    ·refine q_mv 5 22 rfl (by kernel_rfl) f (wanted_of f rfl rfl rfl hc_288) rfl rfl fun a f => ?_
     refine q_mv 6 22 rfl (by kernel_rfl) f (wanted_of f rfl rfl rfl hc_288) rfl rfl fun a f => ?_
     refine q_mv 7 22 rfl (by kernel_rfl) f (wanted_of f rfl rfl rfl hc_288) rfl rfl fun a f => ?_
     refine q_mv 8 22 rfl (by kernel_rfl) f (wanted_of f rfl rfl rfl hc_288) rfl rfl fun a f => ?_
     refine q_p 9 22 rfl (by kernel_rfl) f (wanted_of f rfl rfl rfl hc_288) rfl rfl (fun _ => r_int (f.eval rfl) (f.eval rfl) b_add) fun a f => ?_
     obtain ⟨e_307, he_308, hj_306⟩ := bind_some hj_306
     refine q_own_at (i := 10) 22 0 m o_191 rfl T52 he_308 rfl (by kernel_rfl) rfl f (wanted_of f rfl rfl rfl hc_288) rfl rfl rfl fun p_309 a ha_310 f => ?_
     refine q_own_load (i := 11) 22 0 o_191 rfl Pl59 ha_310 he_308 rfl (by kernel_rfl) rfl f (wanted_of f rfl rfl rfl hc_288) rfl rfl fun c_311 a h_312 f => ?_
     subst h_312
     refine q_mv 12 22 rfl (by kernel_rfl) f (wanted_of f rfl rfl rfl hc_288) rfl rfl fun a f => ?_
     refine q_mv 13 22 rfl (by kernel_rfl) f (wanted_of f rfl rfl rfl hc_288) rfl rfl fun a f => ?_
     refine q_mv 14 22 rfl (by kernel_rfl) f (wanted_of f rfl rfl rfl hc_288) rfl rfl fun a f => ?_
     refine q_p 15 22 rfl (by kernel_rfl) f (wanted_of f rfl rfl rfl hc_288) rfl rfl (fun _ => r_int (f.eval rfl) (f.eval rfl) b_add) fun a f => ?_
     refine q_p 16 22 rfl (by kernel_rfl) f (wanted_of f rfl rfl rfl hc_288) rfl rfl (fun _ => r_int (f.eval rfl) (f.eval rfl) b_add) fun a f => ?_
     obtain ⟨e_313, he_314, hj_306⟩ := bind_some hj_306
     refine q_own_at (i := 17) 22 0 m o_191 rfl T52 he_314 rfl (by kernel_rfl) rfl f (wanted_of f rfl rfl rfl hc_288) rfl rfl rfl fun p_315 a ha_316 f => ?_
     refine q_own_load (i := 18) 22 0 o_191 rfl Pl59 ha_316 he_314 rfl (by kernel_rfl) rfl f (wanted_of f rfl rfl rfl hc_288) rfl rfl fun c_317 a h_318 f => ?_
     subst h_318
     obtain ⟨y_319, hy_320, hj_306⟩ := bind_some hj_306
     refine q_callv (i := 19) 22 rfl (by kernel_rfl) rfl f (wanted_of f rfl rfl rfl hc_288) rfl rfl rfl Tryd.call81 (fun _ _ w hG_321 m => Wk.impl_compareSets hW m  hy_320) fun a f => ?_
     refine q_p 20 22 rfl (by kernel_rfl) f (wanted_of f rfl rfl rfl hc_288) rfl rfl (fun _ => r_int (f.eval rfl) (f.eval rfl) b_lss) fun a f => ?_
     refine q_p 21 22 rfl (by kernel_rfl) f rfl rfl rfl (fun _ => r_pickT (f.eval rfl) hc_288 (f.eval rfl)) fun a f => ?_
     obtain rfl := sj hj_306
     exact K_304 _ (f.weak ⟨rfl, rfl, rfl, rfl, rfl, rfl, rfl, rfl, rfl, rfl, rfl, rfl, rfl, trivial⟩)
    ·refine q_ng 5 22 rfl (by kernel_rfl) f rfl rfl hc_288 rfl fun a f => ?_
     refine q_ng 6 22 rfl (by kernel_rfl) f rfl rfl hc_288 rfl fun a f => ?_
     refine q_ng 7 22 rfl (by kernel_rfl) f rfl rfl hc_288 rfl fun a f => ?_
     refine q_ng 8 22 rfl (by kernel_rfl) f rfl rfl hc_288 rfl fun a f => ?_
     refine q_ng 9 22 rfl (by kernel_rfl) f rfl rfl hc_288 rfl fun a f => ?_
     refine q_ng 10 22 rfl (by kernel_rfl) f rfl rfl hc_288 rfl fun a f => ?_
     refine q_ng 11 22 rfl (by kernel_rfl) f rfl rfl hc_288 rfl fun a f => ?_
     refine q_ng 12 22 rfl (by kernel_rfl) f rfl rfl hc_288 rfl fun a f => ?_
     refine q_ng 13 22 rfl (by kernel_rfl) f rfl rfl hc_288 rfl fun a f => ?_
     refine q_ng 14 22 rfl (by kernel_rfl) f rfl rfl hc_288 rfl fun a f => ?_
     refine q_ng 15 22 rfl (by kernel_rfl) f rfl rfl hc_288 rfl fun a f => ?_
     refine q_ng 16 22 rfl (by kernel_rfl) f rfl rfl hc_288 rfl fun a f => ?_
     refine q_ng 17 22 rfl (by kernel_rfl) f rfl rfl hc_288 rfl fun a f => ?_
     refine q_ng 18 22 rfl (by kernel_rfl) f rfl rfl hc_288 rfl fun a f => ?_
     refine q_ng 19 22 rfl (by kernel_rfl) f rfl rfl hc_288 rfl fun a f => ?_
     refine q_ng 20 22 rfl (by kernel_rfl) f rfl rfl hc_288 rfl fun a f => ?_
     refine q_p 21 22 rfl (by kernel_rfl) f rfl rfl rfl (fun _ => r_pickF (f.eval rfl) hc_288 (f.eval rfl)) fun a f => ?_
     obtain rfl := sj hj_306
     exact K_304 _ (f.weak ⟨rfl, rfl, rfl, rfl, rfl, rfl, rfl, rfl, rfl, rfl, rfl, rfl, rfl, trivial⟩)
 ·rintro a w ⟨_, rfl, l_283, rfl, G_282, it_284, hl_286, f, m, o_285⟩
  obtain rfl := sj hd
  exact ⟨[], trivial, f.defers, _, [it_284], hl_286, m, _, rfl, o_285⟩

theorem Wk.slices_heapSortCmpFunc_impl_vset__impl_compareSets {W w : World} {G : GH} {H : List Itm} {v0 : Value} {it0 : Itm} {x0 : (List Int)} {x1 : Int} {x2 : Int} (hW : TabW W) (m : Mem W G w (it0 :: H)) (o0 : Ow (RI .u32) 59 G it0 v0 x0) {y : ((List Int))} (hd : D.slices_heapSortCmpFunc_impl_vset__impl_compareSets x0 x1 x2 = some y) :
  Calls Tryd.prog 110 #[v0, (.int .i64 x1), (.int .i64 x2), (.func (.func 81) #[] #[])] w (Res W G H (fun G' Ho _ => ∃ i0 : Itm, Ho = [i0] ∧ Ow (RI .u32) 59 G' i0 v0 y)) := by
 refine calls_b (args := [v0, (.int .i64 x1), (.int .i64 x2), (.func (.func 81) #[] #[])]) (N := 60) [] Tryd.func110 rfl rfl (Nat.le_of_ble_eq_true rfl) rfl fun a f => ?_
 unfold D.slices_heapSortCmpFunc_impl_vset__impl_compareSets at hd
 refine k_seq (k_region ?_)
 refine l_mv f rfl rfl fun a f => ?_
 refine l_as f rfl rfl fun a f => ?_
 refine l_nil (k_seq (k_region ?_))
 refine l_as f rfl rfl fun a f => ?_
 refine l_nil (k_seq (k_region ?_))
 refine l_mv f rfl rfl fun a f => ?_
 refine l_mv f rfl rfl fun a f => ?_
 refine l_in f rfl rfl rfl b_sub fun a f => ?_
 refine l_as f rfl rfl fun a f => ?_
 refine l_nil (k_seq (k_seq (k_region ?_)))
 refine l_mv f rfl rfl fun a f => ?_
 refine l_in f rfl rfl rfl b_sub fun a f => ?_
 refine l_in f rfl rfl rfl (b_quo rfl) fun a f => ?_
 refine l_as f rfl rfl fun a f => ?_
 refine l_nil ?_
 obtain ⟨q_26, hl_27, hd⟩ := bind_some hd
 refine k_cut (fun a w => ∃ l_49 : List Int, l_49 = q_26 ∧ ∃ (G_48 : GH) (it_50 : Itm), GLe G G_48 ∧ Fr a 60 [(0, v0), (3, (.func (.func 81) #[] #[])), (8, (.int .i64 x1)), (9, (.int .i64 0)), (10, (.int .i64 (IntKind.i64.wrap (x2 - x1))))] ∧ Mem W G_48 w (it_50 :: H) ∧ Ow (RI .u32) 59 G_48 it_50 v0 l_49) ?_ ?_
 ·refine k_block ?_
  refine k_loop (fun s_30 a w => ∃ l_33 : List Int, ∃ x_36 : Int, (l_33, x_36) = s_30 ∧ ∃ (G_32 : GH) (it_34 : Itm), GLe G G_32 ∧ Fr a 60 [(0, v0), (3, (.func (.func 81) #[] #[])), (8, (.int .i64 x1)), (9, (.int .i64 0)), (10, (.int .i64 (IntKind.i64.wrap (x2 - x1)))), (11, (.int .i64 x_36))] ∧ Mem W G_32 w (it_34 :: H) ∧ Ow (RI .u32) 59 G_32 it_34 v0 l_33) hl_27 ⟨_, _, rfl, _, it0, (GLe.refl _), f.weak ⟨rfl, rfl, rfl, rfl, rfl, rfl, trivial⟩, m, o0⟩ ?_
  clear hl_27 f m
  rintro s_30 o_31 hs_28 hq_29 a w ⟨l_33, x_36, rfl, G_32, it_34, hl_37, f, m, o_35⟩
  refine k_seq (k_seq (k_region ?_))
  refine l_mv f rfl rfl fun a f => ?_
  refine l_in f rfl rfl rfl b_geq fun a f => ?_
  refine l_nil ?_
  rcases cond_some hs_28 with ⟨hc_53, hs_28⟩ | ⟨hc_53, hs_28⟩
  ·refine k_true f rfl hc_53 ?_
   refine k_skip ?_
   refine k_seq (k_block (k_region ?_))
   refine l_mv f rfl rfl fun a f => ?_
   refine l_mv f rfl rfl fun a f => ?_
   refine l_mv f rfl rfl fun a f => ?_
   refine l_mv f rfl rfl fun a f => ?_
   refine l_mv f rfl rfl fun a f => ?_
   obtain ⟨y_54, hy_55, hs_28⟩ := bind_some hs_28
   refine l_res f rfl rfl Tryd.call133 (Wk.slices_siftDownCmpFunc_impl_vset__impl_compareSets hW m o_35 hy_55) fun v_59 G_56 Ho_60 w hl_57 m hQ_58 a f => ?_
   obtain ⟨it_61, rfl, o_62⟩ := hQ_58
   refine l_nil (k_region ?_)
   refine l_mv f rfl rfl fun a f => ?_
   refine l_in f rfl rfl rfl b_sub fun a f => ?_
   refine l_as f rfl rfl fun a f => ?_
   refine l_nil ?_
   obtain rfl := sj hs_28
   exact ⟨_, rfl, _, _, rfl, _, it_61, (GLe.trans hl_37 hl_57), f.weak ⟨rfl, rfl, rfl, rfl, rfl, rfl, trivial⟩, m, o_62⟩
  ·refine k_false f rfl hc_53 ?_
   refine k_exit rfl ?_
   obtain rfl := sj hs_28
   obtain rfl := hq_29 _ rfl
   exact ⟨_, rfl, _, it_34, hl_37, f.weak ⟨rfl, rfl, rfl, rfl, rfl, trivial⟩, m, o_35⟩
 ·rintro a w ⟨l_49, rfl, G_48, it_50, hl_52, f, m, o_51⟩
  refine k_seq (k_region ?_)
  refine l_mv f rfl rfl fun a f => ?_
  refine l_in f rfl rfl rfl b_sub fun a f => ?_
  refine l_as f rfl rfl fun a f => ?_
  refine l_nil ?_
  obtain ⟨q_140, hl_141, hd⟩ := bind_some hd
  refine k_cut (fun a w => ∃ l_189 : List Int, l_189 = q_140 ∧ ∃ (G_188 : GH) (it_190 : Itm), GLe G_48 G_188 ∧ Fr a 60 [] ∧ Mem W G_188 w (it_190 :: H) ∧ Ow (RI .u32) 59 G_188 it_190 v0 l_189) ?_ ?_
  ·refine k_block ?_
   refine k_loop (fun s_144 a w => ∃ l_147 : List Int, ∃ x_150 : Int, (l_147, x_150) = s_144 ∧ ∃ (G_146 : GH) (it_148 : Itm), GLe G_48 G_146 ∧ Fr a 60 [(0, v0), (3, (.func (.func 81) #[] #[])), (8, (.int .i64 x1)), (9, (.int .i64 0)), (12, (.int .i64 x_150))] ∧ Mem W G_146 w (it_148 :: H) ∧ Ow (RI .u32) 59 G_146 it_148 v0 l_147) hl_141 ⟨_, _, rfl, _, it_50, (GLe.refl _), f.weak ⟨rfl, rfl, rfl, rfl, rfl, trivial⟩, m, o_51⟩ ?_
   clear hl_141 f m
   rintro s_144 o_145 hs_142 hq_143 a w ⟨l_147, x_150, rfl, G_146, it_148, hl_151, f, m, o_149⟩
   refine k_seq (k_seq (k_region ?_))
   refine l_mv f rfl rfl fun a f => ?_
   refine l_in f rfl rfl rfl b_geq fun a f => ?_
   refine l_nil ?_
   rcases cond_some hs_142 with ⟨hc_193, hs_142⟩ | ⟨hc_193, hs_142⟩
   ·refine k_true f rfl hc_193 ?_
    refine k_skip ?_
    refine k_seq (k_block (k_seq ?_))
    refine k_draw0 Follows m ?_
    refine p_p 2 rfl (by kernel_rfl) f rfl rfl rfl (fun _ => r_move (f.eval rfl)) fun a f => ?_
    refine p_p 3 rfl (by kernel_rfl) f rfl rfl rfl (fun _ => r_move (f.eval rfl)) fun a f => ?_
    refine p_p 4 rfl (by kernel_rfl) f rfl rfl rfl (fun _ => r_move (f.eval rfl)) fun a f => ?_
    refine p_p 5 rfl (by kernel_rfl) f rfl rfl rfl (fun _ => r_int (f.eval rfl) (f.eval rfl) b_add) fun a f => ?_
    refine k_draw1 60017 13 (by kernel_rfl) rfl ?_
    refine q_mv 0 60017 rfl (by kernel_rfl) f rfl rfl rfl fun a f => ?_
    refine q_mv 1 60017 rfl (by kernel_rfl) f rfl rfl rfl fun a f => ?_
    refine q_mv 6 60017 rfl (by kernel_rfl) f rfl rfl rfl fun a f => ?_
    refine q_mv 7 60017 rfl (by kernel_rfl) f rfl rfl rfl fun a f => ?_
    refine q_mv 8 60017 rfl (by kernel_rfl) f rfl rfl rfl fun a f => ?_
    refine q_p 9 60017 rfl (by kernel_rfl) f rfl rfl rfl (fun _ => r_int (f.eval rfl) (f.eval rfl) b_add) fun a f => ?_
    obtain ⟨e_194, he_195, hs_142⟩ := bind_some hs_142
    refine q_own_at (i := 10) 60017 0 m o_149 rfl T52 he_195 rfl (by kernel_rfl) rfl f rfl rfl rfl rfl fun p_196 a ha_197 f => ?_
    refine q_own_load (i := 11) 60017 0 o_149 rfl Pl59 ha_197 he_195 rfl (by kernel_rfl) rfl f rfl rfl rfl fun c_198 a h_199 f => ?_
    subst h_199
    refine q_mv 12 60017 rfl (by kernel_rfl) f rfl rfl rfl fun a f => ?_
    refine q_mv 13 60017 rfl (by kernel_rfl) f rfl rfl rfl fun a f => ?_
    obtain ⟨e_200, he_201, hs_142⟩ := bind_some hs_142
    refine q_own_at (i := 14) 60017 0 m o_149 rfl T52 he_201 rfl (by kernel_rfl) rfl f rfl rfl rfl rfl fun p_202 a ha_203 f => ?_
    refine q_own_load (i := 15) 60017 0 o_149 rfl Pl59 ha_203 he_201 rfl (by kernel_rfl) rfl f rfl rfl rfl fun c_204 a h_205 f => ?_
    subst h_205
    obtain ⟨e_206, he_207, hs_142⟩ := bind_some hs_142
    refine q_own_at (i := 16) 60017 0 m o_149 rfl T52 he_207 rfl (by kernel_rfl) rfl f rfl rfl rfl rfl fun p_208 a ha_209 f => ?_
    refine q_end fun G_210 w hl_211 m => ?_
    have o_149 := Ow.mono (RI.mono _) hl_211 o_149
    refine l_own_store 0 m o_149 rfl Tryd.sizeOf59 f rfl rfl ha_209 he_207 rfl rfl rfl fun it_212 w m o_213 => ?_
    obtain ⟨e_214, he_215, hs_142⟩ := bind_some hs_142
    refine l_own_at 0 m o_213 rfl T52 f rfl rfl rfl he_215 fun p_216 a ha_217 f => ?_
    refine l_own_store 0 m o_213 rfl Tryd.sizeOf59 f rfl rfl ha_217 he_215 rfl rfl rfl fun it_218 w m o_219 => ?_
    refine l_nil (k_region ?_)
    refine l_mv f rfl rfl fun a f => ?_
    refine l_mv f rfl rfl fun a f => ?_
    refine l_mv f rfl rfl fun a f => ?_
    refine l_mv f rfl rfl fun a f => ?_
    refine l_mv f rfl rfl fun a f => ?_
    obtain ⟨y_220, hy_221, hs_142⟩ := bind_some hs_142
    refine l_res f rfl rfl Tryd.call133 (Wk.slices_siftDownCmpFunc_impl_vset__impl_compareSets hW m o_219 hy_221) fun v_225 G_222 Ho_226 w hl_223 m hQ_224 a f => ?_
    obtain ⟨it_227, rfl, o_228⟩ := hQ_224
    refine l_nil (k_region ?_)
    refine l_mv f rfl rfl fun a f => ?_
    refine l_in f rfl rfl rfl b_sub fun a f => ?_
    refine l_as f rfl rfl fun a f => ?_
    refine l_nil ?_
    obtain rfl := sj hs_142
    exact ⟨_, rfl, _, _, rfl, _, it_227, (GLe.trans hl_151 (GLe.trans hl_211 hl_223)), f.weak ⟨rfl, rfl, rfl, rfl, rfl, trivial⟩, m, o_228⟩
   ·refine k_false f rfl hc_193 ?_
    refine k_exit rfl ?_
    obtain rfl := sj hs_142
    obtain rfl := hq_143 _ rfl
    exact ⟨_, rfl, _, it_148, hl_151, f.weak trivial, m, o_149⟩
  ·rintro a w ⟨l_189, rfl, G_188, it_190, hl_192, f, m, o_191⟩
   obtain rfl := sj hd
   exact ⟨[], trivial, f.defers, _, [it_190], (GLe.trans hl_52 hl_192), m, _, rfl, o_191⟩

theorem Wk.slices_breakPatternsCmpFunc_impl_vset__impl_compareSets {W w : World} {G : GH} {H : List Itm} {v0 : Value} {it0 : Itm} {x0 : (List Int)} {x1 : Int} {x2 : Int} (m : Mem W G w (it0 :: H)) (o0 : Ow (RI .u32) 59 G it0 v0 x0) {y : ((List Int))} (hd : D.slices_breakPatternsCmpFunc_impl_vset__impl_compareSets x0 x1 x2 = some y) :
  Calls Tryd.prog 111 #[v0, (.int .i64 x1), (.int .i64 x2), (.func (.func 81) #[] #[])] w (Res W G H (fun G' Ho _ => ∃ i0 : Itm, Ho = [i0] ∧ Ow (RI .u32) 59 G' i0 v0 y)) := by
 refine calls_b (args := [v0, (.int .i64 x1), (.int .i64 x2), (.func (.func 81) #[] #[])]) (N := 67) [] Tryd.func111 rfl rfl (Nat.le_of_ble_eq_true rfl) rfl fun a f => ?_
 unfold D.slices_breakPatternsCmpFunc_impl_vset__impl_compareSets at hd
 refine k_seq (k_region ?_)
 refine l_mv f rfl rfl fun a f => ?_
 refine l_mv f rfl rfl fun a f => ?_
 refine l_in f rfl rfl rfl b_sub fun a f => ?_
 refine l_as f rfl rfl fun a f => ?_
 refine l_nil (k_seq (k_region ?_))
 refine l_mv f rfl rfl fun a f => ?_
 refine l_in f rfl rfl rfl b_geq fun a f => ?_
 refine l_nil ?_
 rcases cond_some hd with ⟨hc_1, hd⟩ | ⟨hc_1, hd⟩
 ·refine k_true f rfl hc_1 ?_
  refine k_seq (k_region ?_)
  refine l_mv f rfl rfl fun a f => ?_
  refine l_op f rfl rfl rfl (r_conv (f.eval rfl) ⟨_, Tryd.underlying3⟩ Tryd.underlying129) fun a f => ?_
  refine l_alloc (cs := [(.int .u64 0)]) Tryd.zeroValue129 m f rfl rfl fun b_3 w a m f => ?_
  refine l_boxStore 0 0 (ds := [(.int .u64 (IntKind.u64.wrap (IntKind.i64.wrap (x2 - x1))))]) m Tryd.sizeOf129 f rfl rfl rfl (ones_cons rfl ones_nil) rfl (Nat.le_of_ble_eq_true rfl) rfl fun w m => ?_
  refine l_nil (k_seq (k_region ?_))
  refine l_mv f rfl rfl fun a f => ?_
  obtain ⟨y_4, hy_5, hd⟩ := bind_some hd
  refine l_res f rfl rfl Tryd.call134 (Wk.slices_nextPowerOfTwo m  hy_5) fun v_9 G_6 Ho_10 w hl_7 m hQ_8 a f => ?_
  obtain ⟨rfl, rfl⟩ := hQ_8
  have o0 := Ow.mono (RI.mono _) hl_7 o0
  refine l_as f rfl rfl fun a f => ?_
  refine l_nil (k_seq (k_region ?_))
  refine l_mv f rfl rfl fun a f => ?_
  refine l_mv f rfl rfl fun a f => ?_
  refine l_in f rfl rfl rfl (b_quo rfl) fun a f => ?_
  refine l_in f rfl rfl rfl b_mul fun a f => ?_
  refine l_in f rfl rfl rfl b_add fun a f => ?_
  refine l_in f rfl rfl rfl b_sub fun a f => ?_
  refine l_as f rfl rfl fun a f => ?_
  refine l_nil ?_
  obtain ⟨q_99, hl_100, hd⟩ := bind_some hd
  refine k_cut (fun a w => ∃ l_154 : List Int, l_154 = q_99 ∧ ∃ (G_153 : GH) (it_155 : Itm), GLe G_6 G_153 ∧ Fr a 67 [] ∧ Mem W G_153 w (it_155 :: H) ∧ Ow (RI .u32) 59 G_153 it_155 v0 l_154) ?_ ?_
  ·refine k_block ?_
   have m := m.front 1 rfl
   have m := m.front 1 rfl
   refine k_loop (fun s_103 a w => ∃ l_106 : List Int, ∃ x_109 : Int, ∃ x_110 : Int, (l_106, x_109, x_110) = s_103 ∧ ∃ (G_105 : GH) (it_107 : Itm), GLe G_6 G_105 ∧ Fr a 67 [(0, v0), (1, (.int .i64 x1)), (8, (.int .i64 (IntKind.i64.wrap (x2 - x1)))), (9, (.pointer (some ⟨b_3, 0, none⟩))), (10, (.int .u64 y_4)), (11, (.int .i64 x_109))] ∧ Mem W G_105 w (Itm.box b_3 129 [(.int .u64 x_110)] :: it_107 :: H) ∧ Ow (RI .u32) 59 G_105 it_107 v0 l_106) hl_100 ⟨_, _, _, rfl, _, it0, (GLe.refl _), f.weak ⟨rfl, rfl, rfl, rfl, rfl, rfl, trivial⟩, m, o0⟩ ?_
   clear hl_100 f m
   rintro s_103 o_104 hs_101 hq_102 a w ⟨l_106, x_109, x_110, rfl, G_105, it_107, hl_111, f, m, o_108⟩
   refine k_seq (k_seq (k_region ?_))
   refine l_mv f rfl rfl fun a f => ?_
   refine l_mv f rfl rfl fun a f => ?_
   refine l_mv f rfl rfl fun a f => ?_
   refine l_in f rfl rfl rfl (b_quo rfl) fun a f => ?_
   refine l_in f rfl rfl rfl b_mul fun a f => ?_
   refine l_in f rfl rfl rfl b_add fun a f => ?_
   refine l_in f rfl rfl rfl b_add fun a f => ?_
   refine l_in f rfl rfl rfl b_leq fun a f => ?_
   refine l_nil ?_
   rcases cond_some hs_101 with ⟨hc_158, hs_101⟩ | ⟨hc_158, hs_101⟩
   ·refine k_true f rfl hc_158 ?_
    refine k_skip ?_
    refine k_seq (k_block (k_seq (k_region ?_)))
    obtain ⟨y_159, hy_160, hs_101⟩ := bind_some hs_101
    refine l_res f rfl rfl Tryd.call135 (Wk.slices_xorshift_Next m  hy_160) fun v_164 G_161 Ho_165 w hl_162 m hQ_163 a f => ?_
    obtain ⟨rfl, rfl⟩ := hQ_163
    have o_108 := Ow.mono (RI.mono _) hl_162 o_108
    refine l_mv f rfl rfl fun a f => ?_
    refine l_in f rfl rfl rfl b_sub fun a f => ?_
    refine l_in f rfl rfl rfl b_and fun a f => ?_
    refine l_op f rfl rfl rfl (r_conv (f.eval rfl) ⟨_, Tryd.underlying48⟩ Tryd.underlying3) fun a f => ?_
    refine l_as f rfl rfl fun a f => ?_
    refine l_nil (k_seq (k_seq (k_region ?_)))
    refine l_mv f rfl rfl fun a f => ?_
    refine l_mv f rfl rfl fun a f => ?_
    refine l_in f rfl rfl rfl b_geq fun a f => ?_
    refine l_nil ?_
    obtain ⟨j_167, hj_168, hs_101⟩ := bind_some hs_101
    refine k_cut (fun a w => ∃ x_170 : Int, x_170 = j_167 ∧ ∃ (G_169 : GH), GLe G_161 G_169 ∧ Fr a 67 [(0, v0), (1, (.int .i64 x1)), (8, (.int .i64 (IntKind.i64.wrap (x2 - x1)))), (9, (.pointer (some ⟨b_3, 0, none⟩))), (10, (.int .u64 y_4)), (11, (.int .i64 x_109)), (12, (.int .i64 x_170))] ∧ Mem W G_169 w (Itm.box b_3 129 [(.int .u64 y_159.2)] :: it_107 :: H)) ?_ ?_
    ·rcases cond_some hj_168 with ⟨hc_172, hj_168⟩ | ⟨hc_172, hj_168⟩
     ·refine k_true f rfl hc_172 ?_
      refine k_region ?_
      refine l_mv f rfl rfl fun a f => ?_
      refine l_mv f rfl rfl fun a f => ?_
      refine l_in f rfl rfl rfl b_sub fun a f => ?_
      refine l_as f rfl rfl fun a f => ?_
      refine l_nil ?_
      have m := m.front 1 rfl
      have m := m.front 1 rfl
      obtain rfl := sj hj_168
      exact ⟨_, rfl, _, (GLe.refl _), f.weak ⟨rfl, rfl, rfl, rfl, rfl, rfl, rfl, trivial⟩, m⟩
     ·refine k_false f rfl hc_172 ?_
      refine k_skip ?_
      have m := m.front 1 rfl
      have m := m.front 1 rfl
      obtain rfl := sj hj_168
      exact ⟨_, rfl, _, (GLe.refl _), f.weak ⟨rfl, rfl, rfl, rfl, rfl, rfl, rfl, trivial⟩, m⟩
    ·rintro a w ⟨x_170, rfl, G_169, hl_171, f, m⟩
     have o_108 := Ow.mono (RI.mono _) hl_171 o_108
     refine k_draw0 Follows m ?_
     refine p_p 2 rfl (by kernel_rfl) f rfl rfl rfl (fun _ => r_move (f.eval rfl)) fun a f => ?_
     refine p_p 3 rfl (by kernel_rfl) f rfl rfl rfl (fun _ => r_move (f.eval rfl)) fun a f => ?_
     refine p_p 4 rfl (by kernel_rfl) f rfl rfl rfl (fun _ => r_move (f.eval rfl)) fun a f => ?_
     refine p_p 5 rfl (by kernel_rfl) f rfl rfl rfl (fun _ => r_int (f.eval rfl) (f.eval rfl) b_add) fun a f => ?_
     refine k_draw1 60017 13 (by kernel_rfl) rfl ?_
     refine q_mv 0 60017 rfl (by kernel_rfl) f rfl rfl rfl fun a f => ?_
     refine q_mv 1 60017 rfl (by kernel_rfl) f rfl rfl rfl fun a f => ?_
     refine q_mv 6 60017 rfl (by kernel_rfl) f rfl rfl rfl fun a f => ?_
     refine q_mv 7 60017 rfl (by kernel_rfl) f rfl rfl rfl fun a f => ?_
     refine q_mv 8 60017 rfl (by kernel_rfl) f rfl rfl rfl fun a f => ?_
     refine q_p 9 60017 rfl (by kernel_rfl) f rfl rfl rfl (fun _ => r_int (f.eval rfl) (f.eval rfl) b_add) fun a f => ?_
     obtain ⟨e_173, he_174, hs_101⟩ := bind_some hs_101
     refine q_own_at (i := 10) 60017 1 m o_108 rfl T52 he_174 rfl (by kernel_rfl) rfl f rfl rfl rfl rfl fun p_175 a ha_176 f => ?_
     refine q_own_load (i := 11) 60017 1 o_108 rfl Pl59 ha_176 he_174 rfl (by kernel_rfl) rfl f rfl rfl rfl fun c_177 a h_178 f => ?_
     subst h_178
     refine q_mv 12 60017 rfl (by kernel_rfl) f rfl rfl rfl fun a f => ?_
     refine q_mv 13 60017 rfl (by kernel_rfl) f rfl rfl rfl fun a f => ?_
     obtain ⟨e_179, he_180, hs_101⟩ := bind_some hs_101
     refine q_own_at (i := 14) 60017 1 m o_108 rfl T52 he_180 rfl (by kernel_rfl) rfl f rfl rfl rfl rfl fun p_181 a ha_182 f => ?_
     refine q_own_load (i := 15) 60017 1 o_108 rfl Pl59 ha_182 he_180 rfl (by kernel_rfl) rfl f rfl rfl rfl fun c_183 a h_184 f => ?_
     subst h_184
     obtain ⟨e_185, he_186, hs_101⟩ := bind_some hs_101
     refine q_own_at (i := 16) 60017 1 m o_108 rfl T52 he_186 rfl (by kernel_rfl) rfl f rfl rfl rfl rfl fun p_187 a ha_188 f => ?_
     refine q_end fun G_189 w hl_190 m => ?_
     have o_108 := Ow.mono (RI.mono _) hl_190 o_108
     refine l_own_store 1 m o_108 rfl Tryd.sizeOf59 f rfl rfl ha_188 he_186 rfl rfl rfl fun it_191 w m o_192 => ?_
     obtain ⟨e_193, he_194, hs_101⟩ := bind_some hs_101
     refine l_own_at 1 m o_192 rfl T52 f rfl rfl rfl he_194 fun p_195 a ha_196 f => ?_
     refine l_own_store 1 m o_192 rfl Tryd.sizeOf59 f rfl rfl ha_196 he_194 rfl rfl rfl fun it_197 w m o_198 => ?_
     refine l_nil (k_region ?_)
     refine l_mv f rfl rfl fun a f => ?_
     refine l_in f rfl rfl rfl b_add fun a f => ?_
     refine l_as f rfl rfl fun a f => ?_
     refine l_nil ?_
     have m := m.front 1 rfl
     have m := m.front 1 rfl
     obtain rfl := sj hs_101
     exact ⟨_, rfl, _, _, _, rfl, _, it_197, (GLe.trans hl_111 (GLe.trans hl_162 (GLe.trans hl_171 hl_190))), f.weak ⟨rfl, rfl, rfl, rfl, rfl, rfl, trivial⟩, m, o_198⟩
   ·refine k_false f rfl hc_158 ?_
    refine k_exit rfl ?_
    have m := m.front 1 rfl
    have m := m.eraseAt 1
    obtain rfl := sj hs_101
    obtain rfl := hq_102 _ rfl
    exact ⟨_, rfl, _, it_107, hl_111, f.weak trivial, m, o_108⟩
  ·rintro a w ⟨l_154, rfl, G_153, it_155, hl_157, f, m, o_156⟩
   obtain rfl := sj hd
   exact ⟨[], trivial, f.defers, _, [it_155], (GLe.trans hl_7 hl_157), m, _, rfl, o_156⟩
 ·refine k_false f rfl hc_1 ?_
  refine k_skip ?_
  obtain rfl := sj hd
  exact ⟨[], trivial, f.defers, _, [it0], (GLe.refl _), m, _, rfl, o0⟩

theorem Wk.slices_order2CmpFunc_impl_vset__impl_compareSets {W w : World} {G : GH} {H : List Itm} {v0 : Value} {it0 : Itm} {b3 : Nat} {x0 : (List Int)} {x1 : Int} {x2 : Int} {x3_0 : Int} (hW : TabW W) (m : Mem W G w (it0 :: Itm.box b3 3 [(.int .i64 x3_0)] :: H)) (o0 : Ow (RI .u32) 59 G it0 v0 x0) {y : Int × Int × ((List Int)) × Int} (hd : D.slices_order2CmpFunc_impl_vset__impl_compareSets x0 x1 x2 x3_0 = some y) :
  Calls Tryd.prog 154 #[v0, (.int .i64 x1), (.int .i64 x2), (.pointer (some ⟨b3, 0, none⟩)), (.func (.func 81) #[] #[])] w (Res W G H (fun G' Ho v => ∃ i0 : Itm, Ho = [i0, Itm.box b3 3 [(.int .i64 y.2.2.2)]] ∧ v = .tuple #[(.int .i64 y.1), (.int .i64 y.2.1)] ∧ Ow (RI .u32) 59 G' i0 v0 y.2.2.1)) := by
 refine calls_b (args := [v0, (.int .i64 x1), (.int .i64 x2), (.pointer (some ⟨b3, 0, none⟩)), (.func (.func 81) #[] #[])]) (N := 32) [.tmp 10, .tmp 11] Tryd.func154 rfl rfl (Nat.le_of_ble_eq_true rfl) rfl fun a f => ?_
 unfold D.slices_order2CmpFunc_impl_vset__impl_compareSets at hd
 refine k_seq (k_region ?_)
 refine l_as f rfl rfl fun a f => ?_
 refine l_as f rfl rfl fun a f => ?_
 refine l_nil (k_seq (k_seq ?_))
 refine k_draw 11 Follows (by kernel_rfl) m ?_
 refine q_mv 0 11 rfl (by kernel_rfl) f rfl rfl rfl fun a f => ?_
 refine q_mv 1 11 rfl (by kernel_rfl) f rfl rfl rfl fun a f => ?_
 refine q_mv 2 11 rfl (by kernel_rfl) f rfl rfl rfl fun a f => ?_
 obtain ⟨e_1, he_2, hd⟩ := bind_some hd
 refine q_own_at (i := 3) 11 0 m o0 rfl T52 he_2 rfl (by kernel_rfl) rfl f rfl rfl rfl rfl fun p_3 a ha_4 f => ?_
 refine q_own_load (i := 4) 11 0 o0 rfl Pl59 ha_4 he_2 rfl (by kernel_rfl) rfl f rfl rfl rfl fun c_5 a h_6 f => ?_
 subst h_6
 refine q_mv 5 11 rfl (by kernel_rfl) f rfl rfl rfl fun a f => ?_
 refine q_mv 6 11 rfl (by kernel_rfl) f rfl rfl rfl fun a f => ?_
 obtain ⟨e_7, he_8, hd⟩ := bind_some hd
 refine q_own_at (i := 7) 11 0 m o0 rfl T52 he_8 rfl (by kernel_rfl) rfl f rfl rfl rfl rfl fun p_9 a ha_10 f => ?_
 refine q_own_load (i := 8) 11 0 o0 rfl Pl59 ha_10 he_8 rfl (by kernel_rfl) rfl f rfl rfl rfl fun c_11 a h_12 f => ?_
 subst h_12
 obtain ⟨y_13, hy_14, hd⟩ := bind_some hd
 refine q_callv (i := 9) 11 rfl (by kernel_rfl) rfl f rfl rfl rfl rfl Tryd.call81 (fun _ _ w hG_15 m => Wk.impl_compareSets hW m  hy_14) fun a f => ?_
 refine q_p 10 11 rfl (by kernel_rfl) f rfl rfl rfl (fun _ => r_int (f.eval rfl) (f.eval rfl) b_lss) fun a f => ?_
 refine q_end fun G_16 w hl_17 m => ?_
 have o0 := Ow.mono (RI.mono _) hl_17 o0
 refine l_nil ?_
 rcases cond_some hd with ⟨hc_18, hd⟩ | ⟨hc_18, hd⟩
 ·refine k_true f rfl hc_18 ?_
  refine k_seq (k_region ?_)
  refine l_mv f rfl rfl fun a f => ?_
  refine l_op f rfl rfl rfl (r_nilCheck (f.eval rfl)) fun a f => ?_
  refine l_boxCell 1 0 m Pl3 f rfl rfl rfl rfl fun a f => ?_
  refine l_in f rfl rfl rfl b_add fun a f => ?_
  refine l_op f rfl rfl rfl (r_nilCheck (f.eval rfl)) fun a f => ?_
  refine l_boxStore 1 0 (ds := [(.int .i64 (IntKind.i64.wrap (x3_0 + 1)))]) m Tryd.sizeOf3 f rfl rfl rfl (ones_cons rfl ones_nil) rfl (Nat.le_of_ble_eq_true rfl) rfl fun w m => ?_
  refine l_nil (k_seq (k_region ?_))
  refine l_mv f rfl rfl fun a f => ?_
  refine l_mv f rfl rfl fun a f => ?_
  refine l_as f rfl rfl fun a f => ?_
  refine l_as f rfl rfl fun a f => ?_
  refine l_nil ?_
  refine k_ret ?_
  have m := m.front 1 rfl
  have m := m.front 1 rfl
  obtain rfl := sj hd
  exact ⟨[(.int .i64 x2), (.int .i64 x1)], ⟨f.get _ _ rfl, f.get _ _ rfl, trivial⟩, f.defers, _, [it0, Itm.box b3 3 [(.int .i64 (IntKind.i64.wrap (x3_0 + 1)))]], hl_17, m, _, rfl, rfl, o0⟩
 ·refine k_false f rfl hc_18 ?_
  refine k_skip ?_
  refine k_seq (k_region ?_)
  refine l_mv f rfl rfl fun a f => ?_
  refine l_mv f rfl rfl fun a f => ?_
  refine l_as f rfl rfl fun a f => ?_
  refine l_as f rfl rfl fun a f => ?_
  refine l_nil ?_
  refine k_ret ?_
  have m := m.front 1 rfl
  have m := m.front 1 rfl
  obtain rfl := sj hd
  exact ⟨[(.int .i64 x1), (.int .i64 x2)], ⟨f.get _ _ rfl, f.get _ _ rfl, trivial⟩, f.defers, _, [it0, Itm.box b3 3 [(.int .i64 x3_0)]], hl_17, m, _, rfl, rfl, o0⟩

theorem Wk.slices_medianCmpFunc_impl_vset__impl_compareSets {W w : World} {G : GH} {H : List Itm} {v0 : Value} {it0 : Itm} {b4 : Nat} {x0 : (List Int)} {x1 : Int} {x2 : Int} {x3 : Int} {x4_0 : Int} (hW : TabW W) (m : Mem W G w (it0 :: Itm.box b4 3 [(.int .i64 x4_0)] :: H)) (o0 : Ow (RI .u32) 59 G it0 v0 x0) {y : Int × ((List Int)) × Int} (hd : D.slices_medianCmpFunc_impl_vset__impl_compareSets x0 x1 x2 x3 x4_0 = some y) :
  Calls Tryd.prog 137 #[v0, (.int .i64 x1), (.int .i64 x2), (.int .i64 x3), (.pointer (some ⟨b4, 0, none⟩)), (.func (.func 81) #[] #[])] w (Res W G H (fun G' Ho v => ∃ i0 : Itm, Ho = [i0, Itm.box b4 3 [(.int .i64 y.2.2)]] ∧ v = (.int .i64 y.1) ∧ Ow (RI .u32) 59 G' i0 v0 y.2.1)) := by
 refine calls_b (args := [v0, (.int .i64 x1), (.int .i64 x2), (.int .i64 x3), (.pointer (some ⟨b4, 0, none⟩)), (.func (.func 81) #[] #[])]) (N := 41) [.tmp 12] Tryd.func137 rfl rfl (Nat.le_of_ble_eq_true rfl) rfl fun a f => ?_
 unfold D.slices_medianCmpFunc_impl_vset__impl_compareSets at hd
 refine k_seq (k_region ?_)
 refine l_as f rfl rfl fun a f => ?_
 refine l_nil (k_seq (k_region ?_))
 refine l_mv f rfl rfl fun a f => ?_
 refine l_mv f rfl rfl fun a f => ?_
 refine l_mv f rfl rfl fun a f => ?_
 refine l_mv f rfl rfl fun a f => ?_
 refine l_mv f rfl rfl fun a f => ?_
 have m := m.front 1 rfl
 have m := m.front 1 rfl
 obtain ⟨y_1, hy_2, hd⟩ := bind_some hd
 refine l_res f rfl rfl Tryd.call154 (Wk.slices_order2CmpFunc_impl_vset__impl_compareSets hW m o0 hy_2) fun v_6 G_3 Ho_7 w hl_4 m hQ_5 a f => ?_
 obtain ⟨it_8, rfl, rfl, o_9⟩ := hQ_5
 refine l_mv f rfl rfl fun a f => ?_
 refine l_op f rfl rfl rfl (r_extract (f.eval rfl) rfl) fun a f => ?_
 refine l_op f rfl rfl rfl (r_extract (f.eval rfl) rfl) fun a f => ?_
 refine l_as f rfl rfl fun a f => ?_
 refine l_as f rfl rfl fun a f => ?_
 refine l_nil (k_seq (k_region ?_))
 refine l_mv f rfl rfl fun a f => ?_
 refine l_mv f rfl rfl fun a f => ?_
 refine l_mv f rfl rfl fun a f => ?_
 refine l_mv f rfl rfl fun a f => ?_
 refine l_mv f rfl rfl fun a f => ?_
 have m := m.front 1 rfl
 have m := m.front 1 rfl
 obtain ⟨y_10, hy_11, hd⟩ := bind_some hd
 refine l_res f rfl rfl Tryd.call154 (Wk.slices_order2CmpFunc_impl_vset__impl_compareSets hW m o_9 hy_11) fun v_15 G_12 Ho_16 w hl_13 m hQ_14 a f => ?_
 obtain ⟨it_17, rfl, rfl, o_18⟩ := hQ_14
 refine l_mv f rfl rfl fun a f => ?_
 refine l_op f rfl rfl rfl (r_extract (f.eval rfl) rfl) fun a f => ?_
 refine l_op f rfl rfl rfl (r_extract (f.eval rfl) rfl) fun a f => ?_
 refine l_as f rfl rfl fun a f => ?_
 refine l_as f rfl rfl fun a f => ?_
 refine l_nil (k_seq (k_region ?_))
 refine l_mv f rfl rfl fun a f => ?_
 refine l_mv f rfl rfl fun a f => ?_
 refine l_mv f rfl rfl fun a f => ?_
 refine l_mv f rfl rfl fun a f => ?_
 refine l_mv f rfl rfl fun a f => ?_
 have m := m.front 1 rfl
 have m := m.front 1 rfl
 obtain ⟨y_19, hy_20, hd⟩ := bind_some hd
 refine l_res f rfl rfl Tryd.call154 (Wk.slices_order2CmpFunc_impl_vset__impl_compareSets hW m o_18 hy_20) fun v_24 G_21 Ho_25 w hl_22 m hQ_23 a f => ?_
 obtain ⟨it_26, rfl, rfl, o_27⟩ := hQ_23
 refine l_mv f rfl rfl fun a f => ?_
 refine l_op f rfl rfl rfl (r_extract (f.eval rfl) rfl) fun a f => ?_
 refine l_op f rfl rfl rfl (r_extract (f.eval rfl) rfl) fun a f => ?_
 refine l_as f rfl rfl fun a f => ?_
 refine l_as f rfl rfl fun a f => ?_
 refine l_nil (k_seq (k_region ?_))
 refine l_mv f rfl rfl fun a f => ?_
 refine l_as f rfl rfl fun a f => ?_
 refine l_nil ?_
 refine k_ret ?_
 have m := m.front 1 rfl
 have m := m.front 1 rfl
 obtain rfl := sj hd
 exact ⟨[(.int .i64 y_19.2.1)], ⟨f.get _ _ rfl, trivial⟩, f.defers, _, [it_26, Itm.box b4 3 [(.int .i64 y_19.2.2.2)]], (GLe.trans hl_4 (GLe.trans hl_13 hl_22)), m, _, rfl, rfl, o_27⟩

theorem Wk.slices_medianAdjacentCmpFunc_impl_vset__impl_compareSets {W w : World} {G : GH} {H : List Itm} {v0 : Value} {it0 : Itm} {b2 : Nat} {x0 : (List Int)} {x1 : Int} {x2_0 : Int} (hW : TabW W) (m : Mem W G w (it0 :: Itm.box b2 3 [(.int .i64 x2_0)] :: H)) (o0 : Ow (RI .u32) 59 G it0 v0 x0) {y : Int × ((List Int)) × Int} (hd : D.slices_medianAdjacentCmpFunc_impl_vset__impl_compareSets x0 x1 x2_0 = some y) :
  Calls Tryd.prog 136 #[v0, (.int .i64 x1), (.pointer (some ⟨b2, 0, none⟩)), (.func (.func 81) #[] #[])] w (Res W G H (fun G' Ho v => ∃ i0 : Itm, Ho = [i0, Itm.box b2 3 [(.int .i64 y.2.2)]] ∧ v = (.int .i64 y.1) ∧ Ow (RI .u32) 59 G' i0 v0 y.2.1)) := by
 refine calls_b (args := [v0, (.int .i64 x1), (.pointer (some ⟨b2, 0, none⟩)), (.func (.func 81) #[] #[])]) (N := 18) [.tmp 8] Tryd.func136 rfl rfl (Nat.le_of_ble_eq_true rfl) rfl fun a f => ?_
 unfold D.slices_medianAdjacentCmpFunc_impl_vset__impl_compareSets at hd
 refine k_seq (k_region ?_)
 refine l_as f rfl rfl fun a f => ?_
 refine l_nil (k_seq (k_region ?_))
 refine l_mv f rfl rfl fun a f => ?_
 refine l_mv f rfl rfl fun a f => ?_
 refine l_in f rfl rfl rfl b_sub fun a f => ?_
 refine l_mv f rfl rfl fun a f => ?_
 refine l_mv f rfl rfl fun a f => ?_
 refine l_in f rfl rfl rfl b_add fun a f => ?_
 refine l_mv f rfl rfl fun a f => ?_
 refine l_mv f rfl rfl fun a f => ?_
 have m := m.front 1 rfl
 have m := m.front 1 rfl
 obtain ⟨y_1, hy_2, hd⟩ := bind_some hd
 refine l_res f rfl rfl Tryd.call137 (Wk.slices_medianCmpFunc_impl_vset__impl_compareSets hW m o0 hy_2) fun v_6 G_3 Ho_7 w hl_4 m hQ_5 a f => ?_
 obtain ⟨it_8, rfl, rfl, o_9⟩ := hQ_5
 refine l_as f rfl rfl fun a f => ?_
 refine l_nil ?_
 refine k_ret ?_
 have m := m.front 1 rfl
 have m := m.front 1 rfl
 obtain rfl := sj hd
 exact ⟨[(.int .i64 y_1.1)], ⟨f.get _ _ rfl, trivial⟩, f.defers, _, [it_8, Itm.box b2 3 [(.int .i64 y_1.2.2)]], hl_4, m, _, rfl, rfl, o_9⟩

theorem Wk.slices_choosePivotCmpFunc_impl_vset__impl_compareSets {W w : World} {G : GH} {H : List Itm} {v0 : Value} {it0 : Itm} {x0 : (List Int)} {x1 : Int} {x2 : Int} (hW : TabW W) (m : Mem W G w (it0 :: H)) (o0 : Ow (RI .u32) 59 G it0 v0 x0) {y : Int × Int × ((List Int))} (hd : D.slices_choosePivotCmpFunc_impl_vset__impl_compareSets x0 x1 x2 = some y) :
  Calls Tryd.prog 112 #[v0, (.int .i64 x1), (.int .i64 x2), (.func (.func 81) #[] #[])] w (Res W G H (fun G' Ho v => ∃ i0 : Itm, Ho = [i0] ∧ v = .tuple #[(.int .i64 y.1), (.int .i64 y.2.1)] ∧ Ow (RI .u32) 59 G' i0 v0 y.2.2)) := by
 refine calls_b (args := [v0, (.int .i64 x1), (.int .i64 x2), (.func (.func 81) #[] #[])]) (N := 63) [.tmp 8, .tmp 9] Tryd.func112 rfl rfl (Nat.le_of_ble_eq_true rfl) rfl fun a f => ?_
 unfold D.slices_choosePivotCmpFunc_impl_vset__impl_compareSets at hd
 refine k_seq (k_region ?_)
 refine l_as f rfl rfl fun a f => ?_
 refine l_as f rfl rfl fun a f => ?_
 refine l_nil (k_seq (k_region ?_))
 refine l_mv f rfl rfl fun a f => ?_
 refine l_mv f rfl rfl fun a f => ?_
 refine l_in f rfl rfl rfl b_sub fun a f => ?_
 refine l_as f rfl rfl fun a f => ?_
 refine l_nil (k_seq (k_region ?_))
 refine l_alloc (cs := [(.int .i64 0)]) Tryd.zeroValue3 m f rfl rfl fun b_2 w a m f => ?_
 refine l_nil (k_seq (k_region ?_))
 refine l_mv f rfl rfl fun a f => ?_
 refine l_mv f rfl rfl fun a f => ?_
 refine l_in f rfl rfl rfl (b_quo rfl) fun a f => ?_
 refine l_in f rfl rfl rfl b_mul fun a f => ?_
 refine l_in f rfl rfl rfl b_add fun a f => ?_
 refine l_as f rfl rfl fun a f => ?_
 refine l_nil (k_seq (k_region ?_))
 refine l_mv f rfl rfl fun a f => ?_
 refine l_mv f rfl rfl fun a f => ?_
 refine l_in f rfl rfl rfl (b_quo rfl) fun a f => ?_
 refine l_in f rfl rfl rfl b_mul fun a f => ?_
 refine l_in f rfl rfl rfl b_add fun a f => ?_
 refine l_as f rfl rfl fun a f => ?_
 refine l_nil (k_seq (k_region ?_))
 refine l_mv f rfl rfl fun a f => ?_
 refine l_mv f rfl rfl fun a f => ?_
 refine l_in f rfl rfl rfl (b_quo rfl) fun a f => ?_
 refine l_in f rfl rfl rfl b_mul fun a f => ?_
 refine l_in f rfl rfl rfl b_add fun a f => ?_
 refine l_as f rfl rfl fun a f => ?_
 refine l_nil (k_seq (k_seq (k_region ?_)))
 refine l_mv f rfl rfl fun a f => ?_
 refine l_in f rfl rfl rfl b_geq fun a f => ?_
 refine l_nil ?_
 rcases cond_some hd with ⟨hc_3, hd⟩ | ⟨hc_3, hd⟩
 ·refine k_true f rfl hc_3 ?_
  refine k_seq (k_seq (k_region ?_))
  refine l_mv f rfl rfl fun a f => ?_
  refine l_in f rfl rfl rfl b_geq fun a f => ?_
  refine l_nil ?_
  obtain ⟨j_32, hj_33, hd⟩ := bind_some hd
  refine k_cut (fun a w => ∃ l_35 : List Int, ∃ x_38 : Int, ∃ x_39 : Int, ∃ x_40 : Int, ∃ x_41 : Int, (l_35, x_38, x_39, x_40, x_41) = j_32 ∧ ∃ (G_34 : GH) (it_36 : Itm), GLe G G_34 ∧ Fr a 63 [(0, v0), (3, (.func (.func 81) #[] #[])), (11, (.pointer (some ⟨b_2, 0, none⟩))), (12, (.int .i64 x_38)), (13, (.int .i64 x_39)), (14, (.int .i64 x_40))] ∧ Mem W G_34 w (Itm.box b_2 3 [(.int .i64 x_41)] :: it_36 :: H) ∧ Ow (RI .u32) 59 G_34 it_36 v0 l_35) ?_ ?_
  ·rcases cond_some hj_33 with ⟨hc_43, hj_33⟩ | ⟨hc_43, hj_33⟩
   ·refine k_true f rfl hc_43 ?_
    refine k_seq (k_region ?_)
    refine l_mv f rfl rfl fun a f => ?_
    refine l_mv f rfl rfl fun a f => ?_
    refine l_mv f rfl rfl fun a f => ?_
    have m := m.front 1 rfl
    obtain ⟨y_44, hy_45, hj_33⟩ := bind_some hj_33
    refine l_res f rfl rfl Tryd.call136 (Wk.slices_medianAdjacentCmpFunc_impl_vset__impl_compareSets hW m o0 hy_45) fun v_49 G_46 Ho_50 w hl_47 m hQ_48 a f => ?_
    obtain ⟨it_51, rfl, rfl, o_52⟩ := hQ_48
    refine l_as f rfl rfl fun a f => ?_
    refine l_nil (k_seq (k_region ?_))
    refine l_mv f rfl rfl fun a f => ?_
    refine l_mv f rfl rfl fun a f => ?_
    refine l_mv f rfl rfl fun a f => ?_
    have m := m.front 1 rfl
    have m := m.front 1 rfl
    obtain ⟨y_53, hy_54, hj_33⟩ := bind_some hj_33
    refine l_res f rfl rfl Tryd.call136 (Wk.slices_medianAdjacentCmpFunc_impl_vset__impl_compareSets hW m o_52 hy_54) fun v_58 G_55 Ho_59 w hl_56 m hQ_57 a f => ?_
    obtain ⟨it_60, rfl, rfl, o_61⟩ := hQ_57
    refine l_as f rfl rfl fun a f => ?_
    refine l_nil (k_region ?_)
    refine l_mv f rfl rfl fun a f => ?_
    refine l_mv f rfl rfl fun a f => ?_
    refine l_mv f rfl rfl fun a f => ?_
    have m := m.front 1 rfl
    have m := m.front 1 rfl
    obtain ⟨y_62, hy_63, hj_33⟩ := bind_some hj_33
    refine l_res f rfl rfl Tryd.call136 (Wk.slices_medianAdjacentCmpFunc_impl_vset__impl_compareSets hW m o_61 hy_63) fun v_67 G_64 Ho_68 w hl_65 m hQ_66 a f => ?_
    obtain ⟨it_69, rfl, rfl, o_70⟩ := hQ_66
    refine l_as f rfl rfl fun a f => ?_
    refine l_nil ?_
    have m := m.front 1 rfl
    obtain rfl := sj hj_33
    exact ⟨_, _, _, _, _, rfl, _, it_69, (GLe.trans hl_47 (GLe.trans hl_56 hl_65)), f.weak ⟨rfl, rfl, rfl, rfl, rfl, rfl, trivial⟩, m, o_70⟩
   ·refine k_false f rfl hc_43 ?_
    refine k_skip ?_
    have m := m.front 1 rfl
    have m := m.front 1 rfl
    obtain rfl := sj hj_33
    exact ⟨_, _, _, _, _, rfl, _, it0, (GLe.refl _), f.weak ⟨rfl, rfl, rfl, rfl, rfl, rfl, trivial⟩, m, o0⟩
  ·rintro a w ⟨l_35, x_38, x_39, x_40, x_41, rfl, G_34, it_36, hl_42, f, m, o_37⟩
   refine k_region ?_
   refine l_mv f rfl rfl fun a f => ?_
   refine l_mv f rfl rfl fun a f => ?_
   refine l_mv f rfl rfl fun a f => ?_
   refine l_mv f rfl rfl fun a f => ?_
   refine l_mv f rfl rfl fun a f => ?_
   have m := m.front 1 rfl
   obtain ⟨y_71, hy_72, hd⟩ := bind_some hd
   refine l_res f rfl rfl Tryd.call137 (Wk.slices_medianCmpFunc_impl_vset__impl_compareSets hW m o_37 hy_72) fun v_76 G_73 Ho_77 w hl_74 m hQ_75 a f => ?_
   obtain ⟨it_78, rfl, rfl, o_79⟩ := hQ_75
   refine l_as f rfl rfl fun a f => ?_
   refine l_nil (k_seq (k_region ?_))
   refine l_boxCell 1 0 m Pl3 f rfl rfl rfl rfl fun a f => ?_
   refine l_nil (k_block (k_seq (k_region ?_)))
   refine l_in f rfl rfl rfl b_eql fun a f => ?_
   refine l_as f rfl rfl fun a f => ?_
   refine l_nil ?_
   rcases cond_some hd with ⟨hc_80, hd⟩ | ⟨hc_80, hd⟩
   ·refine k_true f rfl hc_80 ?_
    refine k_seq (k_region ?_)
    refine l_mv f rfl rfl fun a f => ?_
    refine l_as f rfl rfl fun a f => ?_
    refine l_as f rfl rfl fun a f => ?_
    refine l_nil ?_
    refine k_ret ?_
    have m := m.eraseAt 1
    obtain rfl := sj hd
    exact ⟨[(.int .i64 y_71.1), (.int .i64 1)], ⟨f.get _ _ rfl, f.get _ _ rfl, trivial⟩, f.defers, _, [it_78], (GLe.trans hl_42 hl_74), m, _, rfl, rfl, o_79⟩
   ·refine k_false f rfl hc_80 ?_
    refine k_seq (k_region ?_)
    refine l_in f rfl rfl rfl b_eql fun a f => ?_
    refine l_as f rfl rfl fun a f => ?_
    refine l_nil ?_
    rcases cond_some hd with ⟨hc_81, hd⟩ | ⟨hc_81, hd⟩
    ·refine k_true f rfl hc_81 ?_
     refine k_seq (k_region ?_)
     refine l_mv f rfl rfl fun a f => ?_
     refine l_as f rfl rfl fun a f => ?_
     refine l_as f rfl rfl fun a f => ?_
     refine l_nil ?_
     refine k_ret ?_
     have m := m.eraseAt 1
     obtain rfl := sj hd
     exact ⟨[(.int .i64 y_71.1), (.int .i64 2)], ⟨f.get _ _ rfl, f.get _ _ rfl, trivial⟩, f.defers, _, [it_78], (GLe.trans hl_42 hl_74), m, _, rfl, rfl, o_79⟩
    ·refine k_false f rfl hc_81 ?_
     refine k_seq (k_region ?_)
     refine l_mv f rfl rfl fun a f => ?_
     refine l_as f rfl rfl fun a f => ?_
     refine l_as f rfl rfl fun a f => ?_
     refine l_nil ?_
     refine k_ret ?_
     have m := m.eraseAt 1
     obtain rfl := sj hd
     exact ⟨[(.int .i64 y_71.1), (.int .i64 0)], ⟨f.get _ _ rfl, f.get _ _ rfl, trivial⟩, f.defers, _, [it_78], (GLe.trans hl_42 hl_74), m, _, rfl, rfl, o_79⟩
 ·refine k_false f rfl hc_3 ?_
  refine k_skip ?_
  refine k_seq (k_region ?_)
  refine l_boxCell 0 0 m Pl3 f rfl rfl rfl rfl fun a f => ?_
  refine l_nil (k_block (k_seq (k_region ?_)))
  refine l_in f rfl rfl rfl b_eql fun a f => ?_
  refine l_as f rfl rfl fun a f => ?_
  refine l_nil ?_
  rcases cond_some hd with ⟨hc_82, hd⟩ | ⟨hc_82, hd⟩
  ·refine k_true f rfl hc_82 ?_
   refine k_seq (k_region ?_)
   refine l_mv f rfl rfl fun a f => ?_
   refine l_as f rfl rfl fun a f => ?_
   refine l_as f rfl rfl fun a f => ?_
   refine l_nil ?_
   refine k_ret ?_
   have m := m.front 1 rfl
   have m := m.eraseAt 1
   obtain rfl := sj hd
   exact ⟨[(.int .i64 (IntKind.i64.wrap (x1 + (IntKind.i64.wrap ((IntKind.i64.wrap (Int.tdiv (IntKind.i64.wrap (x2 - x1)) 4)) * 2))))), (.int .i64 1)], ⟨f.get _ _ rfl, f.get _ _ rfl, trivial⟩, f.defers, _, [it0], (GLe.refl _), m, _, rfl, rfl, o0⟩
  ·refine k_false f rfl hc_82 ?_
   refine k_seq (k_region ?_)
   refine l_in f rfl rfl rfl b_eql fun a f => ?_
   refine l_as f rfl rfl fun a f => ?_
   refine l_nil ?_
   rcases cond_some hd with ⟨hc_83, hd⟩ | ⟨hc_83, hd⟩
   ·refine k_true f rfl hc_83 ?_
    refine k_seq (k_region ?_)
    refine l_mv f rfl rfl fun a f => ?_
    refine l_as f rfl rfl fun a f => ?_
    refine l_as f rfl rfl fun a f => ?_
    refine l_nil ?_
    refine k_ret ?_
    have m := m.front 1 rfl
    have m := m.eraseAt 1
    obtain rfl := sj hd
    exact ⟨[(.int .i64 (IntKind.i64.wrap (x1 + (IntKind.i64.wrap ((IntKind.i64.wrap (Int.tdiv (IntKind.i64.wrap (x2 - x1)) 4)) * 2))))), (.int .i64 2)], ⟨f.get _ _ rfl, f.get _ _ rfl, trivial⟩, f.defers, _, [it0], (GLe.refl _), m, _, rfl, rfl, o0⟩
   ·refine k_false f rfl hc_83 ?_
    refine k_seq (k_region ?_)
    refine l_mv f rfl rfl fun a f => ?_
    refine l_as f rfl rfl fun a f => ?_
    refine l_as f rfl rfl fun a f => ?_
    refine l_nil ?_
    refine k_ret ?_
    have m := m.front 1 rfl
    have m := m.eraseAt 1
    obtain rfl := sj hd
    exact ⟨[(.int .i64 (IntKind.i64.wrap (x1 + (IntKind.i64.wrap ((IntKind.i64.wrap (Int.tdiv (IntKind.i64.wrap (x2 - x1)) 4)) * 2))))), (.int .i64 0)], ⟨f.get _ _ rfl, f.get _ _ rfl, trivial⟩, f.defers, _, [it0], (GLe.refl _), m, _, rfl, rfl, o0⟩

theorem Wk.slices_reverseRangeCmpFunc_impl_vset__impl_compareSets {W w : World} {G : GH} {H : List Itm} {v0 : Value} {it0 : Itm} {x0 : (List Int)} {x1 : Int} {x2 : Int} (m : Mem W G w (it0 :: H)) (o0 : Ow (RI .u32) 59 G it0 v0 x0) {y : ((List Int))} (hd : D.slices_reverseRangeCmpFunc_impl_vset__impl_compareSets x0 x1 x2 = some y) :
  Calls Tryd.prog 113 #[v0, (.int .i64 x1), (.int .i64 x2), (.func (.func 81) #[] #[])] w (Res W G H (fun G' Ho _ => ∃ i0 : Itm, Ho = [i0] ∧ Ow (RI .u32) 59 G' i0 v0 y)) := by
 refine calls_b (args := [v0, (.int .i64 x1), (.int .i64 x2), (.func (.func 81) #[] #[])]) (N := 34) [] Tryd.func113 rfl rfl (Nat.le_of_ble_eq_true rfl) rfl fun a f => ?_
 unfold D.slices_reverseRangeCmpFunc_impl_vset__impl_compareSets at hd
 refine k_seq (k_region ?_)
 refine l_mv f rfl rfl fun a f => ?_
 refine l_as f rfl rfl fun a f => ?_
 refine l_nil (k_seq (k_region ?_))
 refine l_mv f rfl rfl fun a f => ?_
 refine l_in f rfl rfl rfl b_sub fun a f => ?_
 refine l_as f rfl rfl fun a f => ?_
 refine l_nil ?_
 obtain ⟨q_61, hl_62, hd⟩ := bind_some hd
 refine k_cut (fun a w => ∃ l_102 : List Int, l_102 = q_61 ∧ ∃ (G_101 : GH) (it_103 : Itm), GLe G G_101 ∧ Fr a 34 [] ∧ Mem W G_101 w (it_103 :: H) ∧ Ow (RI .u32) 59 G_101 it_103 v0 l_102) ?_ ?_
 ·refine k_block ?_
  refine k_loop (fun s_65 a w => ∃ l_68 : List Int, ∃ x_71 : Int, ∃ x_72 : Int, (l_68, x_71, x_72) = s_65 ∧ ∃ (G_67 : GH) (it_69 : Itm), GLe G G_67 ∧ Fr a 34 [(0, v0), (8, (.int .i64 x_71)), (9, (.int .i64 x_72))] ∧ Mem W G_67 w (it_69 :: H) ∧ Ow (RI .u32) 59 G_67 it_69 v0 l_68) hl_62 ⟨_, _, _, rfl, _, it0, (GLe.refl _), f.weak ⟨rfl, rfl, rfl, trivial⟩, m, o0⟩ ?_
  clear hl_62 f m
  rintro s_65 o_66 hs_63 hq_64 a w ⟨l_68, x_71, x_72, rfl, G_67, it_69, hl_73, f, m, o_70⟩
  refine k_seq (k_seq (k_region ?_))
  refine l_mv f rfl rfl fun a f => ?_
  refine l_mv f rfl rfl fun a f => ?_
  refine l_in f rfl rfl rfl b_lss fun a f => ?_
  refine l_nil ?_
  rcases cond_some hs_63 with ⟨hc_106, hs_63⟩ | ⟨hc_106, hs_63⟩
  ·refine k_true f rfl hc_106 ?_
   refine k_skip ?_
   refine k_block (k_seq ?_)
   refine k_draw0 Follows m ?_
   refine p_p 2 rfl (by kernel_rfl) f rfl rfl rfl (fun _ => r_move (f.eval rfl)) fun a f => ?_
   refine p_p 3 rfl (by kernel_rfl) f rfl rfl rfl (fun _ => r_move (f.eval rfl)) fun a f => ?_
   refine k_draw1 12013 11 (by kernel_rfl) rfl ?_
   refine q_mv 0 12013 rfl (by kernel_rfl) f rfl rfl rfl fun a f => ?_
   refine q_mv 1 12013 rfl (by kernel_rfl) f rfl rfl rfl fun a f => ?_
   refine q_mv 4 12013 rfl (by kernel_rfl) f rfl rfl rfl fun a f => ?_
   refine q_mv 5 12013 rfl (by kernel_rfl) f rfl rfl rfl fun a f => ?_
   obtain ⟨e_107, he_108, hs_63⟩ := bind_some hs_63
   refine q_own_at (i := 6) 12013 0 m o_70 rfl T52 he_108 rfl (by kernel_rfl) rfl f rfl rfl rfl rfl fun p_109 a ha_110 f => ?_
   refine q_own_load (i := 7) 12013 0 o_70 rfl Pl59 ha_110 he_108 rfl (by kernel_rfl) rfl f rfl rfl rfl fun c_111 a h_112 f => ?_
   subst h_112
   refine q_mv 8 12013 rfl (by kernel_rfl) f rfl rfl rfl fun a f => ?_
   refine q_mv 9 12013 rfl (by kernel_rfl) f rfl rfl rfl fun a f => ?_
   obtain ⟨e_113, he_114, hs_63⟩ := bind_some hs_63
   refine q_own_at (i := 10) 12013 0 m o_70 rfl T52 he_114 rfl (by kernel_rfl) rfl f rfl rfl rfl rfl fun p_115 a ha_116 f => ?_
   refine q_own_load (i := 11) 12013 0 o_70 rfl Pl59 ha_116 he_114 rfl (by kernel_rfl) rfl f rfl rfl rfl fun c_117 a h_118 f => ?_
   subst h_118
   obtain ⟨e_119, he_120, hs_63⟩ := bind_some hs_63
   refine q_own_at (i := 12) 12013 0 m o_70 rfl T52 he_120 rfl (by kernel_rfl) rfl f rfl rfl rfl rfl fun p_121 a ha_122 f => ?_
   refine q_end fun G_123 w hl_124 m => ?_
   have o_70 := Ow.mono (RI.mono _) hl_124 o_70
   refine l_own_store 0 m o_70 rfl Tryd.sizeOf59 f rfl rfl ha_122 he_120 rfl rfl rfl fun it_125 w m o_126 => ?_
   obtain ⟨e_127, he_128, hs_63⟩ := bind_some hs_63
   refine l_own_at 0 m o_126 rfl T52 f rfl rfl rfl he_128 fun p_129 a ha_130 f => ?_
   refine l_own_store 0 m o_126 rfl Tryd.sizeOf59 f rfl rfl ha_130 he_128 rfl rfl rfl fun it_131 w m o_132 => ?_
   refine l_nil (k_seq (k_region ?_))
   refine l_mv f rfl rfl fun a f => ?_
   refine l_in f rfl rfl rfl b_add fun a f => ?_
   refine l_as f rfl rfl fun a f => ?_
   refine l_nil (k_region ?_)
   refine l_mv f rfl rfl fun a f => ?_
   refine l_in f rfl rfl rfl b_sub fun a f => ?_
   refine l_as f rfl rfl fun a f => ?_
   refine l_nil ?_
   obtain rfl := sj hs_63
   exact ⟨_, rfl, _, _, _, rfl, _, it_131, (GLe.trans hl_73 hl_124), f.weak ⟨rfl, rfl, rfl, trivial⟩, m, o_132⟩
  ·refine k_false f rfl hc_106 ?_
   refine k_exit rfl ?_
   obtain rfl := sj hs_63
   obtain rfl := hq_64 _ rfl
   exact ⟨_, rfl, _, it_69, hl_73, f.weak trivial, m, o_70⟩
 ·rintro a w ⟨l_102, rfl, G_101, it_103, hl_105, f, m, o_104⟩
  obtain rfl := sj hd
  exact ⟨[], trivial, f.defers, _, [it_103], hl_105, m, _, rfl, o_104⟩

theorem Wk.slices_partialInsertionSortCmpFunc_impl_vset__impl_compareSets {W w : World} {G : GH} {H : List Itm} {v0 : Value} {it0 : Itm} {x0 : (List Int)} {x1 : Int} {x2 : Int} (hW : TabW W) (m : Mem W G w (it0 :: H)) (o0 : Ow (RI .u32) 59 G it0 v0 x0) {y : Bool × ((List Int))} (hd : D.slices_partialInsertionSortCmpFunc_impl_vset__impl_compareSets x0 x1 x2 = some y) :
  Calls Tryd.prog 114 #[v0, (.int .i64 x1), (.int .i64 x2), (.func (.func 81) #[] #[])] w (Res W G H (fun G' Ho v => ∃ i0 : Itm, Ho = [i0] ∧ v = (.bool y.1) ∧ Ow (RI .u32) 59 G' i0 v0 y.2)) := by
 refine calls_b (args := [v0, (.int .i64 x1), (.int .i64 x2), (.func (.func 81) #[] #[])]) (N := 141) [.tmp 8] Tryd.func114 rfl rfl (Nat.le_of_ble_eq_true rfl) rfl fun a f => ?_
 unfold D.slices_partialInsertionSortCmpFunc_impl_vset__impl_compareSets at hd
 refine k_seq (k_region ?_)
 refine l_as f rfl rfl fun a f => ?_
 refine l_nil (k_seq (k_region ?_))
 refine l_mv f rfl rfl fun a f => ?_
 refine l_in f rfl rfl rfl b_add fun a f => ?_
 refine l_as f rfl rfl fun a f => ?_
 refine l_nil (k_seq (k_seq (k_region ?_)))
 refine l_as f rfl rfl fun a f => ?_
 refine l_nil ?_
 obtain ⟨q_1621, hl_1622, hd⟩ := bind_some hd
 refine k_cut (fun a w => ∃ q_1621' : (List Int), q_1621 = .inl q_1621' ∧ ∃ l_2442 : List Int, l_2442 = q_1621' ∧ ∃ (G_2441 : GH) (it_2443 : Itm), GLe G G_2441 ∧ Fr a 141 [] ∧ Mem W G_2441 w (it_2443 :: H) ∧ Ow (RI .u32) 59 G_2441 it_2443 v0 l_2442) ?_ ?_
 ·refine k_block ?_
  refine k_loop (fun s_1625 a w => ∃ l_1628 : List Int, ∃ x_1631 : Int, ∃ x_1632 : Int, (l_1628, x_1631, x_1632) = s_1625 ∧ ∃ (G_1627 : GH) (it_1629 : Itm), GLe G G_1627 ∧ Fr a 141 [(0, v0), (1, (.int .i64 x1)), (2, (.int .i64 x2)), (3, (.func (.func 81) #[] #[])), (9, (.int .i64 x_1631)), (10, (.int .i64 x_1632))] ∧ Mem W G_1627 w (it_1629 :: H) ∧ Ow (RI .u32) 59 G_1627 it_1629 v0 l_1628) hl_1622 ⟨_, _, _, rfl, _, it0, (GLe.refl _), f.weak ⟨rfl, rfl, rfl, rfl, rfl, rfl, trivial⟩, m, o0⟩ ?_
  clear hl_1622 f m
  rintro s_1625 o_1626 hs_1623 hq_1624 a w ⟨l_1628, x_1631, x_1632, rfl, G_1627, it_1629, hl_1633, f, m, o_1630⟩
  refine k_seq (k_seq (k_region ?_))
  refine l_mv f rfl rfl fun a f => ?_
  refine l_in f rfl rfl rfl b_lss fun a f => ?_
  refine l_nil ?_
  rcases cond_some hs_1623 with ⟨hc_2446, hs_1623⟩ | ⟨hc_2446, hs_1623⟩
  ·refine k_true f rfl hc_2446 ?_
   refine k_skip ?_
   refine k_seq (k_block (k_seq ?_))
   obtain ⟨q_2523, hl_2524, hs_1623⟩ := bind_some hs_1623
   refine k_cut (fun a w => ∃ x_2570 : Int, x_2570 = q_2523 ∧ ∃ (G_2569 : GH), GLe G_1627 G_2569 ∧ Fr a 141 [(0, v0), (1, (.int .i64 x1)), (2, (.int .i64 x2)), (3, (.func (.func 81) #[] #[])), (9, (.int .i64 x_2570)), (10, (.int .i64 x_1632))] ∧ Mem W G_2569 w (it_1629 :: H)) ?_ ?_
   ·refine k_block ?_
    refine k_loop (fun s_2527 a w => ∃ x_2530 : Int, x_2530 = s_2527 ∧ ∃ (G_2529 : GH), GLe G_1627 G_2529 ∧ Fr a 141 [(0, v0), (1, (.int .i64 x1)), (2, (.int .i64 x2)), (3, (.func (.func 81) #[] #[])), (9, (.int .i64 x_2530)), (10, (.int .i64 x_1632))] ∧ Mem W G_2529 w (it_1629 :: H)) hl_2524 ⟨_, rfl, _, (GLe.refl _), f.weak ⟨rfl, rfl, rfl, rfl, rfl, rfl, trivial⟩, m⟩ ?_
    clear hl_2524 f m
    rintro s_2527 o_2528 hs_2525 hq_2526 a w ⟨x_2530, rfl, G_2529, hl_2531, f, m⟩
    have o_1630 := Ow.mono (RI.mono _) hl_2531 o_1630
    refine k_seq (k_seq ?_)
    refine k_draw 18 Follows (by kernel_rfl) m ?_
    refine q_mv 0 18 rfl (by kernel_rfl) f rfl rfl rfl fun a f => ?_
    refine q_mv 1 18 rfl (by kernel_rfl) f rfl rfl rfl fun a f => ?_
    refine q_p 2 18 rfl (by kernel_rfl) f rfl rfl rfl (fun _ => r_int (f.eval rfl) (f.eval rfl) b_lss) fun a f => ?_
    refine q_mv 3 18 rfl (by kernel_rfl) f rfl rfl rfl fun a f => ?_
    obtain ⟨b_2589, hj_2590, hs_2525⟩ := bind_some hs_2525
    refine q_cut (fuel' := 0) (listed' := #[true, true, true, true, true, true, true, true, true, true, true, true, true, true, true, true, true, true]) (fun a => Fr a 141 [(0, v0), (1, (.int .i64 x1)), (2, (.int .i64 x2)), (3, (.func (.func 81) #[] #[])), (9, (.int .i64 x_2530)), (10, (.int .i64 x_1632)), (19, (.int .i64 x_2530)), (20, (.int .i64 x2)), (21, (.bool (decide (x_2530 < x2)))), (22, (.bool (decide (x_2530 < x2)))), (36, (.bool b_2589))]) ?_ ?_
    ·intro a f
     refine q_end fun G_2606 w hl_2607 m => ?_
     have o_1630 := Ow.mono (RI.mono _) hl_2607 o_1630
     refine l_nil ?_
     rcases cond_some hs_2525 with ⟨hc_2608, hs_2525⟩ | ⟨hc_2608, hs_2525⟩
     ·refine k_true f rfl hc_2608 ?_
      refine k_skip ?_
      refine k_block (k_region ?_)
      refine l_mv f rfl rfl fun a f => ?_
      refine l_in f rfl rfl rfl b_add fun a f => ?_
      refine l_as f rfl rfl fun a f => ?_
      refine l_nil ?_
      obtain rfl := sj hs_2525
      exact ⟨_, rfl, _, rfl, _, (GLe.trans hl_2531 hl_2607), f.weak ⟨rfl, rfl, rfl, rfl, rfl, rfl, trivial⟩, m⟩
     ·refine k_false f rfl hc_2608 ?_
      refine k_exit rfl ?_
      obtain rfl := sj hs_2525
      obtain rfl := hq_2526 _ rfl
      exact ⟨_, rfl, _, (GLe.trans hl_2531 hl_2607), f.weak ⟨rfl, rfl, rfl, rfl, rfl, rfl, trivial⟩, m⟩
    ·intro K_2588
     rcases cond_some hj_2590 with ⟨hc_2572, hj_2590⟩ | ⟨hc_2572, hj_2590⟩
     ·refine q_mv 4 18 rfl (by kernel_rfl) f (wanted_of f rfl rfl rfl hc_2572) rfl rfl fun a f => ?_
      refine q_mv 5 18 rfl (by kernel_rfl) f (wanted_of f rfl rfl rfl hc_2572) rfl rfl fun a f => ?_
      refine q_mv 6 18 rfl (by kernel_rfl) f (wanted_of f rfl rfl rfl hc_2572) rfl rfl fun a f => ?_
      obtain ⟨e_2591, he_2592, hj_2590⟩ := bind_some hj_2590
      refine q_own_at (i := 7) 18 0 m o_1630 rfl T52 he_2592 rfl (by kernel_rfl) rfl f (wanted_of f rfl rfl rfl hc_2572) rfl rfl rfl fun p_2593 a ha_2594 f => ?_
      refine q_own_load (i := 8) 18 0 o_1630 rfl Pl59 ha_2594 he_2592 rfl (by kernel_rfl) rfl f (wanted_of f rfl rfl rfl hc_2572) rfl rfl fun c_2595 a h_2596 f => ?_
      subst h_2596
      refine q_mv 9 18 rfl (by kernel_rfl) f (wanted_of f rfl rfl rfl hc_2572) rfl rfl fun a f => ?_
      refine q_mv 10 18 rfl (by kernel_rfl) f (wanted_of f rfl rfl rfl hc_2572) rfl rfl fun a f => ?_
      refine q_p 11 18 rfl (by kernel_rfl) f (wanted_of f rfl rfl rfl hc_2572) rfl rfl (fun _ => r_int (f.eval rfl) (f.eval rfl) b_sub) fun a f => ?_
      obtain ⟨e_2597, he_2598, hj_2590⟩ := bind_some hj_2590
      refine q_own_at (i := 12) 18 0 m o_1630 rfl T52 he_2598 rfl (by kernel_rfl) rfl f (wanted_of f rfl rfl rfl hc_2572) rfl rfl rfl fun p_2599 a ha_2600 f => ?_
      refine q_own_load (i := 13) 18 0 o_1630 rfl Pl59 ha_2600 he_2598 rfl (by kernel_rfl) rfl f (wanted_of f rfl rfl rfl hc_2572) rfl rfl fun c_2601 a h_2602 f => ?_
      subst h_2602
      obtain ⟨y_2603, hy_2604, hj_2590⟩ := bind_some hj_2590
      refine q_callv (i := 14) 18 rfl (by kernel_rfl) rfl f (wanted_of f rfl rfl rfl hc_2572) rfl rfl rfl Tryd.call81 (fun _ _ w hG_2605 m => Wk.impl_compareSets hW m  hy_2604) fun a f => ?_
      refine q_p 15 18 rfl (by kernel_rfl) f (wanted_of f rfl rfl rfl hc_2572) rfl rfl (fun _ => r_int (f.eval rfl) (f.eval rfl) b_lss) fun a f => ?_
      refine q_p 16 18 rfl (by kernel_rfl) f (wanted_of f rfl rfl rfl hc_2572) rfl rfl (fun _ => r_not (f.eval rfl)) fun a f => ?_
      refine q_p 17 18 rfl (by kernel_rfl) f rfl rfl rfl (fun _ => r_pickT (f.eval rfl) hc_2572 (f.eval rfl)) fun a f => ?_
      obtain rfl := sj hj_2590
      exact K_2588 _ (f.weak ⟨rfl, rfl, rfl, rfl, rfl, rfl, rfl, rfl, rfl, rfl, rfl, trivial⟩)
     ·refine q_ng 4 18 rfl (by kernel_rfl) f rfl rfl hc_2572 rfl fun a f => ?_
      refine q_ng 5 18 rfl (by kernel_rfl) f rfl rfl hc_2572 rfl fun a f => ?_
      refine q_ng 6 18 rfl (by kernel_rfl) f rfl rfl hc_2572 rfl fun a f => ?_
      refine q_ng 7 18 rfl (by kernel_rfl) f rfl rfl hc_2572 rfl fun a f => ?_
      refine q_ng 8 18 rfl (by kernel_rfl) f rfl rfl hc_2572 rfl fun a f => ?_
      refine q_ng 9 18 rfl (by kernel_rfl) f rfl rfl hc_2572 rfl fun a f => ?_
      refine q_ng 10 18 rfl (by kernel_rfl) f rfl rfl hc_2572 rfl fun a f => ?_
      refine q_ng 11 18 rfl (by kernel_rfl) f rfl rfl hc_2572 rfl fun a f => ?_
      refine q_ng 12 18 rfl (by kernel_rfl) f rfl rfl hc_2572 rfl fun a f => ?_
      refine q_ng 13 18 rfl (by kernel_rfl) f rfl rfl hc_2572 rfl fun a f => ?_
      refine q_ng 14 18 rfl (by kernel_rfl) f rfl rfl hc_2572 rfl fun a f => ?_
      refine q_ng 15 18 rfl (by kernel_rfl) f rfl rfl hc_2572 rfl fun a f => ?_
      refine q_ng 16 18 rfl (by kernel_rfl) f rfl rfl hc_2572 rfl fun a f => ?_
      refine q_p 17 18 rfl (by kernel_rfl) f rfl rfl rfl (fun _ => r_pickF (f.eval rfl) hc_2572 (f.eval rfl)) fun a f => ?_
      obtain rfl := sj hj_2590
      exact K_2588 _ (f.weak ⟨rfl, rfl, rfl, rfl, rfl, rfl, rfl, rfl, rfl, rfl, rfl, trivial⟩)
   ·rintro a w ⟨x_2570, rfl, G_2569, hl_2571, f, m⟩
    have o_1630 := Ow.mono (RI.mono _) hl_2571 o_1630
    refine k_seq (k_seq (k_region ?_))
    refine l_mv f rfl rfl fun a f => ?_
    refine l_mv f rfl rfl fun a f => ?_
    refine l_in f rfl rfl rfl b_eql fun a f => ?_
    refine l_nil ?_
    rcases cond_some hs_1623 with ⟨hc_2609, hs_1623⟩ | ⟨hc_2609, hs_1623⟩
    ·refine k_true f rfl hc_2609 ?_
     refine k_seq (k_region ?_)
     refine l_as f rfl rfl fun a f => ?_
     refine l_nil ?_
     refine k_ret ?_
     obtain rfl := sj hs_1623
     obtain rfl := hq_1624 _ rfl
     obtain rfl := sj hd
     exact ⟨[(.bool true)], ⟨f.get _ _ rfl, trivial⟩, f.defers, _, [it_1629], (GLe.trans hl_1633 hl_2571), m, _, rfl, rfl, o_1630⟩
    ·refine k_false f rfl hc_2609 ?_
     refine k_skip ?_
     refine k_seq (k_seq (k_region ?_))
     refine l_mv f rfl rfl fun a f => ?_
     refine l_mv f rfl rfl fun a f => ?_
     refine l_in f rfl rfl rfl b_sub fun a f => ?_
     refine l_in f rfl rfl rfl b_lss fun a f => ?_
     refine l_nil ?_
     rcases cond_some hs_1623 with ⟨hc_2610, hs_1623⟩ | ⟨hc_2610, hs_1623⟩
     ·refine k_true f rfl hc_2610 ?_
      refine k_seq (k_region ?_)
      refine l_as f rfl rfl fun a f => ?_
      refine l_nil ?_
      refine k_ret ?_
      obtain rfl := sj hs_1623
      obtain rfl := hq_1624 _ rfl
      obtain rfl := sj hd
      exact ⟨[(.bool false)], ⟨f.get _ _ rfl, trivial⟩, f.defers, _, [it_1629], (GLe.trans hl_1633 hl_2571), m, _, rfl, rfl, o_1630⟩
     ·refine k_false f rfl hc_2610 ?_
      refine k_skip ?_
      refine k_seq ?_
      refine k_draw0 Follows m ?_
      refine p_p 2 rfl (by kernel_rfl) f rfl rfl rfl (fun _ => r_move (f.eval rfl)) fun a f => ?_
      refine p_p 3 rfl (by kernel_rfl) f rfl rfl rfl (fun _ => r_move (f.eval rfl)) fun a f => ?_
      refine p_p 4 rfl (by kernel_rfl) f rfl rfl rfl (fun _ => r_int (f.eval rfl) (f.eval rfl) b_sub) fun a f => ?_
      refine k_draw1 28015 12 (by kernel_rfl) rfl ?_
      refine q_mv 0 28015 rfl (by kernel_rfl) f rfl rfl rfl fun a f => ?_
      refine q_mv 1 28015 rfl (by kernel_rfl) f rfl rfl rfl fun a f => ?_
      refine q_mv 5 28015 rfl (by kernel_rfl) f rfl rfl rfl fun a f => ?_
      refine q_mv 6 28015 rfl (by kernel_rfl) f rfl rfl rfl fun a f => ?_
      refine q_p 7 28015 rfl (by kernel_rfl) f rfl rfl rfl (fun _ => r_int (f.eval rfl) (f.eval rfl) b_sub) fun a f => ?_
      obtain ⟨e_2611, he_2612, hs_1623⟩ := bind_some hs_1623
      refine q_own_at (i := 8) 28015 0 m o_1630 rfl T52 he_2612 rfl (by kernel_rfl) rfl f rfl rfl rfl rfl fun p_2613 a ha_2614 f => ?_
      refine q_own_load (i := 9) 28015 0 o_1630 rfl Pl59 ha_2614 he_2612 rfl (by kernel_rfl) rfl f rfl rfl rfl fun c_2615 a h_2616 f => ?_
      subst h_2616
      refine q_mv 10 28015 rfl (by kernel_rfl) f rfl rfl rfl fun a f => ?_
      refine q_mv 11 28015 rfl (by kernel_rfl) f rfl rfl rfl fun a f => ?_
      obtain ⟨e_2617, he_2618, hs_1623⟩ := bind_some hs_1623
      refine q_own_at (i := 12) 28015 0 m o_1630 rfl T52 he_2618 rfl (by kernel_rfl) rfl f rfl rfl rfl rfl fun p_2619 a ha_2620 f => ?_
      refine q_own_load (i := 13) 28015 0 o_1630 rfl Pl59 ha_2620 he_2618 rfl (by kernel_rfl) rfl f rfl rfl rfl fun c_2621 a h_2622 f => ?_
      subst h_2622
      obtain ⟨e_2623, he_2624, hs_1623⟩ := bind_some hs_1623
      refine q_own_at (i := 14) 28015 0 m o_1630 rfl T52 he_2624 rfl (by kernel_rfl) rfl f rfl rfl rfl rfl fun p_2625 a ha_2626 f => ?_
      refine q_end fun G_2627 w hl_2628 m => ?_
      have o_1630 := Ow.mono (RI.mono _) hl_2628 o_1630
      refine l_own_store 0 m o_1630 rfl Tryd.sizeOf59 f rfl rfl ha_2626 he_2624 rfl rfl rfl fun it_2629 w m o_2630 => ?_
      obtain ⟨e_2631, he_2632, hs_1623⟩ := bind_some hs_1623
      refine l_own_at 0 m o_2630 rfl T52 f rfl rfl rfl he_2632 fun p_2633 a ha_2634 f => ?_
      refine l_own_store 0 m o_2630 rfl Tryd.sizeOf59 f rfl rfl ha_2634 he_2632 rfl rfl rfl fun it_2635 w m o_2636 => ?_
      refine l_nil (k_seq (k_seq (k_region ?_)))
      refine l_mv f rfl rfl fun a f => ?_
      refine l_mv f rfl rfl fun a f => ?_
      refine l_in f rfl rfl rfl b_sub fun a f => ?_
      refine l_in f rfl rfl rfl b_geq fun a f => ?_
      refine l_nil ?_
      obtain ⟨j_2840, hj_2841, hs_1623⟩ := bind_some hs_1623
      refine k_cut (fun a w => ∃ l_2843 : List Int, l_2843 = j_2840 ∧ ∃ (G_2842 : GH) (it_2844 : Itm), GLe G_2627 G_2842 ∧ Fr a 141 [(0, v0), (1, (.int .i64 x1)), (2, (.int .i64 x2)), (3, (.func (.func 81) #[] #[])), (9, (.int .i64 x_2570)), (10, (.int .i64 x_1632))] ∧ Mem W G_2842 w (it_2844 :: H) ∧ Ow (RI .u32) 59 G_2842 it_2844 v0 l_2843) ?_ ?_
      ·rcases cond_some hj_2841 with ⟨hc_2847, hj_2841⟩ | ⟨hc_2847, hj_2841⟩
       ·refine k_true f rfl hc_2847 ?_
        refine k_seq (k_region ?_)
        refine l_mv f rfl rfl fun a f => ?_
        refine l_in f rfl rfl rfl b_sub fun a f => ?_
        refine l_as f rfl rfl fun a f => ?_
        refine l_nil ?_
        obtain ⟨q_2943, hl_2944, hj_2841⟩ := bind_some hj_2841
        refine k_cut (fun a w => ∃ l_3001 : List Int, l_3001 = q_2943 ∧ ∃ (G_3000 : GH) (it_3002 : Itm), GLe G_2627 G_3000 ∧ Fr a 141 [(0, v0), (1, (.int .i64 x1)), (2, (.int .i64 x2)), (3, (.func (.func 81) #[] #[])), (9, (.int .i64 x_2570)), (10, (.int .i64 x_1632))] ∧ Mem W G_3000 w (it_3002 :: H) ∧ Ow (RI .u32) 59 G_3000 it_3002 v0 l_3001) ?_ ?_
        ·refine k_block ?_
         refine k_loop (fun s_2947 a w => ∃ l_2950 : List Int, ∃ x_2953 : Int, (l_2950, x_2953) = s_2947 ∧ ∃ (G_2949 : GH) (it_2951 : Itm), GLe G_2627 G_2949 ∧ Fr a 141 [(0, v0), (1, (.int .i64 x1)), (2, (.int .i64 x2)), (3, (.func (.func 81) #[] #[])), (9, (.int .i64 x_2570)), (10, (.int .i64 x_1632)), (11, (.int .i64 x_2953))] ∧ Mem W G_2949 w (it_2951 :: H) ∧ Ow (RI .u32) 59 G_2949 it_2951 v0 l_2950) hl_2944 ⟨_, _, rfl, _, it_2635, (GLe.refl _), f.weak ⟨rfl, rfl, rfl, rfl, rfl, rfl, rfl, trivial⟩, m, o_2636⟩ ?_
         clear hl_2944 f m
         rintro s_2947 o_2948 hs_2945 hq_2946 a w ⟨l_2950, x_2953, rfl, G_2949, it_2951, hl_2954, f, m, o_2952⟩
         refine k_seq (k_seq (k_region ?_))
         refine l_mv f rfl rfl fun a f => ?_
         refine l_in f rfl rfl rfl b_geq fun a f => ?_
         refine l_nil ?_
         rcases cond_some hs_2945 with ⟨hc_3005, hs_2945⟩ | ⟨hc_3005, hs_2945⟩
         ·refine k_true f rfl hc_3005 ?_
          refine k_skip ?_
          refine k_seq (k_block (k_seq (k_seq ?_)))
          refine k_draw 13 Follows (by kernel_rfl) m ?_
          refine q_mv 0 13 rfl (by kernel_rfl) f rfl rfl rfl fun a f => ?_
          refine q_mv 1 13 rfl (by kernel_rfl) f rfl rfl rfl fun a f => ?_
          refine q_mv 2 13 rfl (by kernel_rfl) f rfl rfl rfl fun a f => ?_
          obtain ⟨e_3006, he_3007, hs_2945⟩ := bind_some hs_2945
          refine q_own_at (i := 3) 13 0 m o_2952 rfl T52 he_3007 rfl (by kernel_rfl) rfl f rfl rfl rfl rfl fun p_3008 a ha_3009 f => ?_
          refine q_own_load (i := 4) 13 0 o_2952 rfl Pl59 ha_3009 he_3007 rfl (by kernel_rfl) rfl f rfl rfl rfl fun c_3010 a h_3011 f => ?_
          subst h_3011
          refine q_mv 5 13 rfl (by kernel_rfl) f rfl rfl rfl fun a f => ?_
          refine q_mv 6 13 rfl (by kernel_rfl) f rfl rfl rfl fun a f => ?_
          refine q_p 7 13 rfl (by kernel_rfl) f rfl rfl rfl (fun _ => r_int (f.eval rfl) (f.eval rfl) b_sub) fun a f => ?_
          obtain ⟨e_3012, he_3013, hs_2945⟩ := bind_some hs_2945
          refine q_own_at (i := 8) 13 0 m o_2952 rfl T52 he_3013 rfl (by kernel_rfl) rfl f rfl rfl rfl rfl fun p_3014 a ha_3015 f => ?_
          refine q_own_load (i := 9) 13 0 o_2952 rfl Pl59 ha_3015 he_3013 rfl (by kernel_rfl) rfl f rfl rfl rfl fun c_3016 a h_3017 f => ?_
          subst h_3017
          obtain ⟨y_3018, hy_3019, hs_2945⟩ := bind_some hs_2945
          refine q_callv (i := 10) 13 rfl (by kernel_rfl) rfl f rfl rfl rfl rfl Tryd.call81 (fun _ _ w hG_3020 m => Wk.impl_compareSets hW m  hy_3019) fun a f => ?_
          refine q_p 11 13 rfl (by kernel_rfl) f rfl rfl rfl (fun _ => r_int (f.eval rfl) (f.eval rfl) b_lss) fun a f => ?_
          refine q_p 12 13 rfl (by kernel_rfl) f rfl rfl rfl (fun _ => r_not (f.eval rfl)) fun a f => ?_
          refine q_end fun G_3021 w hl_3022 m => ?_
          have o_2952 := Ow.mono (RI.mono _) hl_3022 o_2952
          refine l_nil ?_
          rcases cond_some hs_2945 with ⟨hc_3023, hs_2945⟩ | ⟨hc_3023, hs_2945⟩
          ·refine k_true f rfl hc_3023 ?_
           refine k_exit rfl ?_
           obtain rfl := sj hs_2945
           obtain rfl := hq_2946 _ rfl
           exact ⟨_, rfl, _, it_2951, (GLe.trans hl_2954 hl_3022), f.weak ⟨rfl, rfl, rfl, rfl, rfl, rfl, trivial⟩, m, o_2952⟩
          ·refine k_false f rfl hc_3023 ?_
           refine k_skip ?_
           refine k_draw0 Follows m ?_
           refine p_p 2 rfl (by kernel_rfl) f rfl rfl rfl (fun _ => r_move (f.eval rfl)) fun a f => ?_
           refine p_p 3 rfl (by kernel_rfl) f rfl rfl rfl (fun _ => r_move (f.eval rfl)) fun a f => ?_
           refine p_p 4 rfl (by kernel_rfl) f rfl rfl rfl (fun _ => r_int (f.eval rfl) (f.eval rfl) b_sub) fun a f => ?_
           refine k_draw1 28015 12 (by kernel_rfl) rfl ?_
           refine q_mv 0 28015 rfl (by kernel_rfl) f rfl rfl rfl fun a f => ?_
           refine q_mv 1 28015 rfl (by kernel_rfl) f rfl rfl rfl fun a f => ?_
           refine q_mv 5 28015 rfl (by kernel_rfl) f rfl rfl rfl fun a f => ?_
           refine q_mv 6 28015 rfl (by kernel_rfl) f rfl rfl rfl fun a f => ?_
           refine q_p 7 28015 rfl (by kernel_rfl) f rfl rfl rfl (fun _ => r_int (f.eval rfl) (f.eval rfl) b_sub) fun a f => ?_
           obtain ⟨e_3024, he_3025, hs_2945⟩ := bind_some hs_2945
           refine q_own_at (i := 8) 28015 0 m o_2952 rfl T52 he_3025 rfl (by kernel_rfl) rfl f rfl rfl rfl rfl fun p_3026 a ha_3027 f => ?_
           refine q_own_load (i := 9) 28015 0 o_2952 rfl Pl59 ha_3027 he_3025 rfl (by kernel_rfl) rfl f rfl rfl rfl fun c_3028 a h_3029 f => ?_
           subst h_3029
           refine q_mv 10 28015 rfl (by kernel_rfl) f rfl rfl rfl fun a f => ?_
           refine q_mv 11 28015 rfl (by kernel_rfl) f rfl rfl rfl fun a f => ?_
           obtain ⟨e_3030, he_3031, hs_2945⟩ := bind_some hs_2945
           refine q_own_at (i := 12) 28015 0 m o_2952 rfl T52 he_3031 rfl (by kernel_rfl) rfl f rfl rfl rfl rfl fun p_3032 a ha_3033 f => ?_
           refine q_own_load (i := 13) 28015 0 o_2952 rfl Pl59 ha_3033 he_3031 rfl (by kernel_rfl) rfl f rfl rfl rfl fun c_3034 a h_3035 f => ?_
           subst h_3035
           obtain ⟨e_3036, he_3037, hs_2945⟩ := bind_some hs_2945
           refine q_own_at (i := 14) 28015 0 m o_2952 rfl T52 he_3037 rfl (by kernel_rfl) rfl f rfl rfl rfl rfl fun p_3038 a ha_3039 f => ?_
           refine q_end fun G_3040 w hl_3041 m => ?_
           have o_2952 := Ow.mono (RI.mono _) hl_3041 o_2952
           refine l_own_store 0 m o_2952 rfl Tryd.sizeOf59 f rfl rfl ha_3039 he_3037 rfl rfl rfl fun it_3042 w m o_3043 => ?_
           obtain ⟨e_3044, he_3045, hs_2945⟩ := bind_some hs_2945
           refine l_own_at 0 m o_3043 rfl T52 f rfl rfl rfl he_3045 fun p_3046 a ha_3047 f => ?_
           refine l_own_store 0 m o_3043 rfl Tryd.sizeOf59 f rfl rfl ha_3047 he_3045 rfl rfl rfl fun it_3048 w m o_3049 => ?_
           refine l_nil (k_region ?_)
           refine l_mv f rfl rfl fun a f => ?_
           refine l_in f rfl rfl rfl b_sub fun a f => ?_
           refine l_as f rfl rfl fun a f => ?_
           refine l_nil ?_
           obtain rfl := sj hs_2945
           exact ⟨_, rfl, _, _, rfl, _, it_3048, (GLe.trans hl_2954 (GLe.trans hl_3022 hl_3041)), f.weak ⟨rfl, rfl, rfl, rfl, rfl, rfl, rfl, trivial⟩, m, o_3049⟩
         ·refine k_false f rfl hc_3005 ?_
          refine k_exit rfl ?_
          obtain rfl := sj hs_2945
          obtain rfl := hq_2946 _ rfl
          exact ⟨_, rfl, _, it_2951, hl_2954, f.weak ⟨rfl, rfl, rfl, rfl, rfl, rfl, trivial⟩, m, o_2952⟩
        ·rintro a w ⟨l_3001, rfl, G_3000, it_3002, hl_3004, f, m, o_3003⟩
         obtain rfl := sj hj_2841
         exact ⟨_, rfl, _, it_3002, hl_3004, f.weak ⟨rfl, rfl, rfl, rfl, rfl, rfl, trivial⟩, m, o_3003⟩
       ·refine k_false f rfl hc_2847 ?_
        refine k_skip ?_
        obtain rfl := sj hj_2841
        exact ⟨_, rfl, _, it_2635, (GLe.refl _), f.weak ⟨rfl, rfl, rfl, rfl, rfl, rfl, trivial⟩, m, o_2636⟩
      ·rintro a w ⟨l_2843, rfl, G_2842, it_2844, hl_2846, f, m, o_2845⟩
       refine k_seq (k_region ?_)
       refine l_mv f rfl rfl fun a f => ?_
       refine l_mv f rfl rfl fun a f => ?_
       refine l_in f rfl rfl rfl b_sub fun a f => ?_
       refine l_in f rfl rfl rfl b_geq fun a f => ?_
       refine l_nil ?_
       rcases cond_some hs_1623 with ⟨hc_3050, hs_1623⟩ | ⟨hc_3050, hs_1623⟩
       ·refine k_true f rfl hc_3050 ?_
        refine k_seq (k_region ?_)
        refine l_mv f rfl rfl fun a f => ?_
        refine l_in f rfl rfl rfl b_add fun a f => ?_
        refine l_as f rfl rfl fun a f => ?_
        refine l_nil ?_
        obtain ⟨q_3146, hl_3147, hs_1623⟩ := bind_some hs_1623
        refine k_cut (fun a w => ∃ l_3204 : List Int, l_3204 = q_3146 ∧ ∃ (G_3203 : GH) (it_3205 : Itm), GLe G_2842 G_3203 ∧ Fr a 141 [(0, v0), (1, (.int .i64 x1)), (2, (.int .i64 x2)), (3, (.func (.func 81) #[] #[])), (9, (.int .i64 x_2570)), (10, (.int .i64 x_1632))] ∧ Mem W G_3203 w (it_3205 :: H) ∧ Ow (RI .u32) 59 G_3203 it_3205 v0 l_3204) ?_ ?_
        ·refine k_block ?_
         refine k_loop (fun s_3150 a w => ∃ l_3153 : List Int, ∃ x_3156 : Int, (l_3153, x_3156) = s_3150 ∧ ∃ (G_3152 : GH) (it_3154 : Itm), GLe G_2842 G_3152 ∧ Fr a 141 [(0, v0), (1, (.int .i64 x1)), (2, (.int .i64 x2)), (3, (.func (.func 81) #[] #[])), (9, (.int .i64 x_2570)), (10, (.int .i64 x_1632)), (12, (.int .i64 x_3156))] ∧ Mem W G_3152 w (it_3154 :: H) ∧ Ow (RI .u32) 59 G_3152 it_3154 v0 l_3153) hl_3147 ⟨_, _, rfl, _, it_2844, (GLe.refl _), f.weak ⟨rfl, rfl, rfl, rfl, rfl, rfl, rfl, trivial⟩, m, o_2845⟩ ?_
         clear hl_3147 f m
         rintro s_3150 o_3151 hs_3148 hq_3149 a w ⟨l_3153, x_3156, rfl, G_3152, it_3154, hl_3157, f, m, o_3155⟩
         refine k_seq (k_seq (k_region ?_))
         refine l_mv f rfl rfl fun a f => ?_
         refine l_mv f rfl rfl fun a f => ?_
         refine l_in f rfl rfl rfl b_lss fun a f => ?_
         refine l_nil ?_
         rcases cond_some hs_3148 with ⟨hc_3208, hs_3148⟩ | ⟨hc_3208, hs_3148⟩
         ·refine k_true f rfl hc_3208 ?_
          refine k_skip ?_
          refine k_seq (k_block (k_seq (k_seq ?_)))
          refine k_draw 13 Follows (by kernel_rfl) m ?_
          refine q_mv 0 13 rfl (by kernel_rfl) f rfl rfl rfl fun a f => ?_
          refine q_mv 1 13 rfl (by kernel_rfl) f rfl rfl rfl fun a f => ?_
          refine q_mv 2 13 rfl (by kernel_rfl) f rfl rfl rfl fun a f => ?_
          obtain ⟨e_3209, he_3210, hs_3148⟩ := bind_some hs_3148
          refine q_own_at (i := 3) 13 0 m o_3155 rfl T52 he_3210 rfl (by kernel_rfl) rfl f rfl rfl rfl rfl fun p_3211 a ha_3212 f => ?_
          refine q_own_load (i := 4) 13 0 o_3155 rfl Pl59 ha_3212 he_3210 rfl (by kernel_rfl) rfl f rfl rfl rfl fun c_3213 a h_3214 f => ?_
          subst h_3214
          refine q_mv 5 13 rfl (by kernel_rfl) f rfl rfl rfl fun a f => ?_
          refine q_mv 6 13 rfl (by kernel_rfl) f rfl rfl rfl fun a f => ?_
          refine q_p 7 13 rfl (by kernel_rfl) f rfl rfl rfl (fun _ => r_int (f.eval rfl) (f.eval rfl) b_sub) fun a f => ?_
          obtain ⟨e_3215, he_3216, hs_3148⟩ := bind_some hs_3148
          refine q_own_at (i := 8) 13 0 m o_3155 rfl T52 he_3216 rfl (by kernel_rfl) rfl f rfl rfl rfl rfl fun p_3217 a ha_3218 f => ?_
          refine q_own_load (i := 9) 13 0 o_3155 rfl Pl59 ha_3218 he_3216 rfl (by kernel_rfl) rfl f rfl rfl rfl fun c_3219 a h_3220 f => ?_
          subst h_3220
          obtain ⟨y_3221, hy_3222, hs_3148⟩ := bind_some hs_3148
          refine q_callv (i := 10) 13 rfl (by kernel_rfl) rfl f rfl rfl rfl rfl Tryd.call81 (fun _ _ w hG_3223 m => Wk.impl_compareSets hW m  hy_3222) fun a f => ?_
          refine q_p 11 13 rfl (by kernel_rfl) f rfl rfl rfl (fun _ => r_int (f.eval rfl) (f.eval rfl) b_lss) fun a f => ?_
          refine q_p 12 13 rfl (by kernel_rfl) f rfl rfl rfl (fun _ => r_not (f.eval rfl)) fun a f => ?_
          refine q_end fun G_3224 w hl_3225 m => ?_
          have o_3155 := Ow.mono (RI.mono _) hl_3225 o_3155
          refine l_nil ?_
          rcases cond_some hs_3148 with ⟨hc_3226, hs_3148⟩ | ⟨hc_3226, hs_3148⟩
          ·refine k_true f rfl hc_3226 ?_
           refine k_exit rfl ?_
           obtain rfl := sj hs_3148
           obtain rfl := hq_3149 _ rfl
           exact ⟨_, rfl, _, it_3154, (GLe.trans hl_3157 hl_3225), f.weak ⟨rfl, rfl, rfl, rfl, rfl, rfl, trivial⟩, m, o_3155⟩
          ·refine k_false f rfl hc_3226 ?_
           refine k_skip ?_
           refine k_draw0 Follows m ?_
           refine p_p 2 rfl (by kernel_rfl) f rfl rfl rfl (fun _ => r_move (f.eval rfl)) fun a f => ?_
           refine p_p 3 rfl (by kernel_rfl) f rfl rfl rfl (fun _ => r_move (f.eval rfl)) fun a f => ?_
           refine p_p 4 rfl (by kernel_rfl) f rfl rfl rfl (fun _ => r_int (f.eval rfl) (f.eval rfl) b_sub) fun a f => ?_
           refine k_draw1 28015 12 (by kernel_rfl) rfl ?_
           refine q_mv 0 28015 rfl (by kernel_rfl) f rfl rfl rfl fun a f => ?_
           refine q_mv 1 28015 rfl (by kernel_rfl) f rfl rfl rfl fun a f => ?_
           refine q_mv 5 28015 rfl (by kernel_rfl) f rfl rfl rfl fun a f => ?_
           refine q_mv 6 28015 rfl (by kernel_rfl) f rfl rfl rfl fun a f => ?_
           refine q_p 7 28015 rfl (by kernel_rfl) f rfl rfl rfl (fun _ => r_int (f.eval rfl) (f.eval rfl) b_sub) fun a f => ?_
           obtain ⟨e_3227, he_3228, hs_3148⟩ := bind_some hs_3148
           refine q_own_at (i := 8) 28015 0 m o_3155 rfl T52 he_3228 rfl (by kernel_rfl) rfl f rfl rfl rfl rfl fun p_3229 a ha_3230 f => ?_
           refine q_own_load (i := 9) 28015 0 o_3155 rfl Pl59 ha_3230 he_3228 rfl (by kernel_rfl) rfl f rfl rfl rfl fun c_3231 a h_3232 f => ?_
           subst h_3232
           refine q_mv 10 28015 rfl (by kernel_rfl) f rfl rfl rfl fun a f => ?_
           refine q_mv 11 28015 rfl (by kernel_rfl) f rfl rfl rfl fun a f => ?_
           obtain ⟨e_3233, he_3234, hs_3148⟩ := bind_some hs_3148
           refine q_own_at (i := 12) 28015 0 m o_3155 rfl T52 he_3234 rfl (by kernel_rfl) rfl f rfl rfl rfl rfl fun p_3235 a ha_3236 f => ?_
           refine q_own_load (i := 13) 28015 0 o_3155 rfl Pl59 ha_3236 he_3234 rfl (by kernel_rfl) rfl f rfl rfl rfl fun c_3237 a h_3238 f => ?_
           subst h_3238
           obtain ⟨e_3239, he_3240, hs_3148⟩ := bind_some hs_3148
           refine q_own_at (i := 14) 28015 0 m o_3155 rfl T52 he_3240 rfl (by kernel_rfl) rfl f rfl rfl rfl rfl fun p_3241 a ha_3242 f => ?_
           refine q_end fun G_3243 w hl_3244 m => ?_
           have o_3155 := Ow.mono (RI.mono _) hl_3244 o_3155
           refine l_own_store 0 m o_3155 rfl Tryd.sizeOf59 f rfl rfl ha_3242 he_3240 rfl rfl rfl fun it_3245 w m o_3246 => ?_
           obtain ⟨e_3247, he_3248, hs_3148⟩ := bind_some hs_3148
           refine l_own_at 0 m o_3246 rfl T52 f rfl rfl rfl he_3248 fun p_3249 a ha_3250 f => ?_
           refine l_own_store 0 m o_3246 rfl Tryd.sizeOf59 f rfl rfl ha_3250 he_3248 rfl rfl rfl fun it_3251 w m o_3252 => ?_
           refine l_nil (k_region ?_)
           refine l_mv f rfl rfl fun a f => ?_
           refine l_in f rfl rfl rfl b_add fun a f => ?_
           refine l_as f rfl rfl fun a f => ?_
           refine l_nil ?_
           obtain rfl := sj hs_3148
           exact ⟨_, rfl, _, _, rfl, _, it_3251, (GLe.trans hl_3157 (GLe.trans hl_3225 hl_3244)), f.weak ⟨rfl, rfl, rfl, rfl, rfl, rfl, rfl, trivial⟩, m, o_3252⟩
         ·refine k_false f rfl hc_3208 ?_
          refine k_exit rfl ?_
          obtain rfl := sj hs_3148
          obtain rfl := hq_3149 _ rfl
          exact ⟨_, rfl, _, it_3154, hl_3157, f.weak ⟨rfl, rfl, rfl, rfl, rfl, rfl, trivial⟩, m, o_3155⟩
        ·rintro a w ⟨l_3204, rfl, G_3203, it_3205, hl_3207, f, m, o_3206⟩
         refine k_region ?_
         refine l_mv f rfl rfl fun a f => ?_
         refine l_in f rfl rfl rfl b_add fun a f => ?_
         refine l_as f rfl rfl fun a f => ?_
         refine l_nil ?_
         obtain rfl := sj hs_1623
         exact ⟨_, rfl, _, _, _, rfl, _, it_3205, (GLe.trans hl_1633 (GLe.trans hl_2571 (GLe.trans hl_2628 (GLe.trans hl_2846 hl_3207)))), f.weak ⟨rfl, rfl, rfl, rfl, rfl, rfl, trivial⟩, m, o_3206⟩
       ·refine k_false f rfl hc_3050 ?_
        refine k_skip ?_
        refine k_region ?_
        refine l_mv f rfl rfl fun a f => ?_
        refine l_in f rfl rfl rfl b_add fun a f => ?_
        refine l_as f rfl rfl fun a f => ?_
        refine l_nil ?_
        obtain rfl := sj hs_1623
        exact ⟨_, rfl, _, _, _, rfl, _, it_2844, (GLe.trans hl_1633 (GLe.trans hl_2571 (GLe.trans hl_2628 hl_2846))), f.weak ⟨rfl, rfl, rfl, rfl, rfl, rfl, trivial⟩, m, o_2845⟩
  ·refine k_false f rfl hc_2446 ?_
   refine k_exit rfl ?_
   obtain rfl := sj hs_1623
   obtain rfl := hq_1624 _ rfl
   exact ⟨_, rfl, _, rfl, _, it_1629, hl_1633, f.weak trivial, m, o_1630⟩
 ·rintro a w ⟨_, rfl, l_2442, rfl, G_2441, it_2443, hl_2445, f, m, o_2444⟩
  refine k_seq (k_region ?_)
  refine l_as f rfl rfl fun a f => ?_
  refine l_nil ?_
  refine k_ret ?_
  obtain rfl := sj hd
  exact ⟨[(.bool false)], ⟨f.get _ _ rfl, trivial⟩, f.defers, _, [it_2443], hl_2445, m, _, rfl, rfl, o_2444⟩

theorem Wk.slices_partitionEqualCmpFunc_impl_vset__impl_compareSets {W w : World} {G : GH} {H : List Itm} {v0 : Value} {it0 : Itm} {x0 : (List Int)} {x1 : Int} {x2 : Int} {x3 : Int} (hW : TabW W) (m : Mem W G w (it0 :: H)) (o0 : Ow (RI .u32) 59 G it0 v0 x0) {y : Int × ((List Int))} (hd : D.slices_partitionEqualCmpFunc_impl_vset__impl_compareSets x0 x1 x2 x3 = some y) :
  Calls Tryd.prog 115 #[v0, (.int .i64 x1), (.int .i64 x2), (.int .i64 x3), (.func (.func 81) #[] #[])] w (Res W G H (fun G' Ho v => ∃ i0 : Itm, Ho = [i0] ∧ v = (.int .i64 y.1) ∧ Ow (RI .u32) 59 G' i0 v0 y.2)) := by
 refine calls_b (args := [v0, (.int .i64 x1), (.int .i64 x2), (.int .i64 x3), (.func (.func 81) #[] #[])]) (N := 90) [.tmp 10] Tryd.func115 rfl rfl (Nat.le_of_ble_eq_true rfl) rfl fun a f => ?_
 unfold D.slices_partitionEqualCmpFunc_impl_vset__impl_compareSets at hd
 refine k_seq (k_region ?_)
 refine l_as f rfl rfl fun a f => ?_
 refine l_nil (k_seq ?_)
 refine k_draw0 Follows m ?_
 refine p_p 2 rfl (by kernel_rfl) f rfl rfl rfl (fun _ => r_move (f.eval rfl)) fun a f => ?_
 refine p_p 3 rfl (by kernel_rfl) f rfl rfl rfl (fun _ => r_move (f.eval rfl)) fun a f => ?_
 refine k_draw1 12013 11 (by kernel_rfl) rfl ?_
 refine q_mv 0 12013 rfl (by kernel_rfl) f rfl rfl rfl fun a f => ?_
 refine q_mv 1 12013 rfl (by kernel_rfl) f rfl rfl rfl fun a f => ?_
 refine q_mv 4 12013 rfl (by kernel_rfl) f rfl rfl rfl fun a f => ?_
 refine q_mv 5 12013 rfl (by kernel_rfl) f rfl rfl rfl fun a f => ?_
 obtain ⟨e_1, he_2, hd⟩ := bind_some hd
 refine q_own_at (i := 6) 12013 0 m o0 rfl T52 he_2 rfl (by kernel_rfl) rfl f rfl rfl rfl rfl fun p_3 a ha_4 f => ?_
 refine q_own_load (i := 7) 12013 0 o0 rfl Pl59 ha_4 he_2 rfl (by kernel_rfl) rfl f rfl rfl rfl fun c_5 a h_6 f => ?_
 subst h_6
 refine q_mv 8 12013 rfl (by kernel_rfl) f rfl rfl rfl fun a f => ?_
 refine q_mv 9 12013 rfl (by kernel_rfl) f rfl rfl rfl fun a f => ?_
 obtain ⟨e_7, he_8, hd⟩ := bind_some hd
 refine q_own_at (i := 10) 12013 0 m o0 rfl T52 he_8 rfl (by kernel_rfl) rfl f rfl rfl rfl rfl fun p_9 a ha_10 f => ?_
 refine q_own_load (i := 11) 12013 0 o0 rfl Pl59 ha_10 he_8 rfl (by kernel_rfl) rfl f rfl rfl rfl fun c_11 a h_12 f => ?_
 subst h_12
 obtain ⟨e_13, he_14, hd⟩ := bind_some hd
 refine q_own_at (i := 12) 12013 0 m o0 rfl T52 he_14 rfl (by kernel_rfl) rfl f rfl rfl rfl rfl fun p_15 a ha_16 f => ?_
 refine q_end fun G_17 w hl_18 m => ?_
 have o0 := Ow.mono (RI.mono _) hl_18 o0
 refine l_own_store 0 m o0 rfl Tryd.sizeOf59 f rfl rfl ha_16 he_14 rfl rfl rfl fun it_19 w m o_20 => ?_
 obtain ⟨e_21, he_22, hd⟩ := bind_some hd
 refine l_own_at 0 m o_20 rfl T52 f rfl rfl rfl he_22 fun p_23 a ha_24 f => ?_
 refine l_own_store 0 m o_20 rfl Tryd.sizeOf59 f rfl rfl ha_24 he_22 rfl rfl rfl fun it_25 w m o_26 => ?_
 refine l_nil (k_seq (k_region ?_))
 refine l_mv f rfl rfl fun a f => ?_
 refine l_in f rfl rfl rfl b_add fun a f => ?_
 refine l_mv f rfl rfl fun a f => ?_
 refine l_in f rfl rfl rfl b_sub fun a f => ?_
 refine l_as f rfl rfl fun a f => ?_
 refine l_as f rfl rfl fun a f => ?_
 refine l_nil (k_seq ?_)
 obtain ⟨q_735, hl_736, hd⟩ := bind_some hd
 refine k_cut (fun a w => ∃ l_1100 : List Int, ∃ x_1103 : Int, (l_1100, x_1103) = q_735 ∧ ∃ (G_1099 : GH) (it_1101 : Itm), GLe G_17 G_1099 ∧ Fr a 90 [(11, (.int .i64 x_1103))] ∧ Mem W G_1099 w (it_1101 :: H) ∧ Ow (RI .u32) 59 G_1099 it_1101 v0 l_1100) ?_ ?_
 ·refine k_block ?_
  refine k_loop (fun s_739 a w => ∃ l_742 : List Int, ∃ x_745 : Int, ∃ x_746 : Int, (l_742, x_745, x_746) = s_739 ∧ ∃ (G_741 : GH) (it_743 : Itm), GLe G_17 G_741 ∧ Fr a 90 [(0, v0), (1, (.int .i64 x1)), (4, (.func (.func 81) #[] #[])), (11, (.int .i64 x_745)), (12, (.int .i64 x_746))] ∧ Mem W G_741 w (it_743 :: H) ∧ Ow (RI .u32) 59 G_741 it_743 v0 l_742) hl_736 ⟨_, _, _, rfl, _, it_25, (GLe.refl _), f.weak ⟨rfl, rfl, rfl, rfl, rfl, trivial⟩, m, o_26⟩ ?_
  clear hl_736 f m
  rintro s_739 o_740 hs_737 hq_738 a w ⟨l_742, x_745, x_746, rfl, G_741, it_743, hl_747, f, m, o_744⟩
  refine k_block (k_seq ?_)
  obtain ⟨q_1181, hl_1182, hs_737⟩ := bind_some hs_737
  refine k_cut (fun a w => ∃ x_1228 : Int, x_1228 = q_1181 ∧ ∃ (G_1227 : GH), GLe G_741 G_1227 ∧ Fr a 90 [(0, v0), (1, (.int .i64 x1)), (4, (.func (.func 81) #[] #[])), (11, (.int .i64 x_1228)), (12, (.int .i64 x_746))] ∧ Mem W G_1227 w (it_743 :: H)) ?_ ?_
  ·refine k_block ?_
   refine k_loop (fun s_1185 a w => ∃ x_1188 : Int, x_1188 = s_1185 ∧ ∃ (G_1187 : GH), GLe G_741 G_1187 ∧ Fr a 90 [(0, v0), (1, (.int .i64 x1)), (4, (.func (.func 81) #[] #[])), (11, (.int .i64 x_1188)), (12, (.int .i64 x_746))] ∧ Mem W G_1187 w (it_743 :: H)) hl_1182 ⟨_, rfl, _, (GLe.refl _), f.weak ⟨rfl, rfl, rfl, rfl, rfl, trivial⟩, m⟩ ?_
   clear hl_1182 f m
   rintro s_1185 o_1186 hs_1183 hq_1184 a w ⟨x_1188, rfl, G_1187, hl_1189, f, m⟩
   have o_744 := Ow.mono (RI.mono _) hl_1189 o_744
   refine k_seq (k_seq ?_)
   refine k_draw 17 Follows (by kernel_rfl) m ?_
   refine q_mv 0 17 rfl (by kernel_rfl) f rfl rfl rfl fun a f => ?_
   refine q_mv 1 17 rfl (by kernel_rfl) f rfl rfl rfl fun a f => ?_
   refine q_p 2 17 rfl (by kernel_rfl) f rfl rfl rfl (fun _ => r_int (f.eval rfl) (f.eval rfl) b_leq) fun a f => ?_
   refine q_mv 3 17 rfl (by kernel_rfl) f rfl rfl rfl fun a f => ?_
   obtain ⟨b_1247, hj_1248, hs_1183⟩ := bind_some hs_1183
   refine q_cut (fuel' := 0) (listed' := #[true, true, true, true, true, true, true, true, true, true, true, true, true, true, true, true, true]) (fun a => Fr a 90 [(0, v0), (1, (.int .i64 x1)), (4, (.func (.func 81) #[] #[])), (11, (.int .i64 x_1188)), (12, (.int .i64 x_746)), (31, (.int .i64 x_1188)), (32, (.int .i64 x_746)), (33, (.bool (decide (x_1188 ≤ x_746)))), (34, (.bool (decide (x_1188 ≤ x_746)))), (47, (.bool b_1247))]) ?_ ?_
   ·intro a f
    refine q_end fun G_1264 w hl_1265 m => ?_
    have o_744 := Ow.mono (RI.mono _) hl_1265 o_744
    refine l_nil ?_
    rcases cond_some hs_1183 with ⟨hc_1266, hs_1183⟩ | ⟨hc_1266, hs_1183⟩
    ·refine k_true f rfl hc_1266 ?_
     refine k_skip ?_
     refine k_block (k_region ?_)
     refine l_mv f rfl rfl fun a f => ?_
     refine l_in f rfl rfl rfl b_add fun a f => ?_
     refine l_as f rfl rfl fun a f => ?_
     refine l_nil ?_
     obtain rfl := sj hs_1183
     exact ⟨_, rfl, _, rfl, _, (GLe.trans hl_1189 hl_1265), f.weak ⟨rfl, rfl, rfl, rfl, rfl, trivial⟩, m⟩
    ·refine k_false f rfl hc_1266 ?_
     refine k_exit rfl ?_
     obtain rfl := sj hs_1183
     obtain rfl := hq_1184 _ rfl
     exact ⟨_, rfl, _, (GLe.trans hl_1189 hl_1265), f.weak ⟨rfl, rfl, rfl, rfl, rfl, trivial⟩, m⟩
   ·intro K_1246
    rcases cond_some hj_1248 with ⟨hc_1230, hj_1248⟩ | ⟨hc_1230, hj_1248⟩
    ·refine q_mv 4 17 rfl (by kernel_rfl) f (wanted_of f rfl rfl rfl hc_1230) rfl rfl fun a f => ?_
     refine q_mv 5 17 rfl (by kernel_rfl) f (wanted_of f rfl rfl rfl hc_1230) rfl rfl fun a f => ?_
     refine q_mv 6 17 rfl (by kernel_rfl) f (wanted_of f rfl rfl rfl hc_1230) rfl rfl fun a f => ?_
     obtain ⟨e_1249, he_1250, hj_1248⟩ := bind_some hj_1248
     refine q_own_at (i := 7) 17 0 m o_744 rfl T52 he_1250 rfl (by kernel_rfl) rfl f (wanted_of f rfl rfl rfl hc_1230) rfl rfl rfl fun p_1251 a ha_1252 f => ?_
     refine q_own_load (i := 8) 17 0 o_744 rfl Pl59 ha_1252 he_1250 rfl (by kernel_rfl) rfl f (wanted_of f rfl rfl rfl hc_1230) rfl rfl fun c_1253 a h_1254 f => ?_
     subst h_1254
     refine q_mv 9 17 rfl (by kernel_rfl) f (wanted_of f rfl rfl rfl hc_1230) rfl rfl fun a f => ?_
     refine q_mv 10 17 rfl (by kernel_rfl) f (wanted_of f rfl rfl rfl hc_1230) rfl rfl fun a f => ?_
     obtain ⟨e_1255, he_1256, hj_1248⟩ := bind_some hj_1248
     refine q_own_at (i := 11) 17 0 m o_744 rfl T52 he_1256 rfl (by kernel_rfl) rfl f (wanted_of f rfl rfl rfl hc_1230) rfl rfl rfl fun p_1257 a ha_1258 f => ?_
     refine q_own_load (i := 12) 17 0 o_744 rfl Pl59 ha_1258 he_1256 rfl (by kernel_rfl) rfl f (wanted_of f rfl rfl rfl hc_1230) rfl rfl fun c_1259 a h_1260 f => ?_
     subst h_1260
     obtain ⟨y_1261, hy_1262, hj_1248⟩ := bind_some hj_1248
     refine q_callv (i := 13) 17 rfl (by kernel_rfl) rfl f (wanted_of f rfl rfl rfl hc_1230) rfl rfl rfl Tryd.call81 (fun _ _ w hG_1263 m => Wk.impl_compareSets hW m  hy_1262) fun a f => ?_
     refine q_p 14 17 rfl (by kernel_rfl) f (wanted_of f rfl rfl rfl hc_1230) rfl rfl (fun _ => r_int (f.eval rfl) (f.eval rfl) b_lss) fun a f => ?_
     refine q_p 15 17 rfl (by kernel_rfl) f (wanted_of f rfl rfl rfl hc_1230) rfl rfl (fun _ => r_not (f.eval rfl)) fun a f => ?_
     refine q_p 16 17 rfl (by kernel_rfl) f rfl rfl rfl (fun _ => r_pickT (f.eval rfl) hc_1230 (f.eval rfl)) fun a f => ?_
     obtain rfl := sj hj_1248
     exact K_1246 _ (f.weak ⟨rfl, rfl, rfl, rfl, rfl, rfl, rfl, rfl, rfl, rfl, trivial⟩)
    ·refine q_ng 4 17 rfl (by kernel_rfl) f rfl rfl hc_1230 rfl fun a f => ?_
     refine q_ng 5 17 rfl (by kernel_rfl) f rfl rfl hc_1230 rfl fun a f => ?_
     refine q_ng 6 17 rfl (by kernel_rfl) f rfl rfl hc_1230 rfl fun a f => ?_
     refine q_ng 7 17 rfl (by kernel_rfl) f rfl rfl hc_1230 rfl fun a f => ?_
     refine q_ng 8 17 rfl (by kernel_rfl) f rfl rfl hc_1230 rfl fun a f => ?_
     refine q_ng 9 17 rfl (by kernel_rfl) f rfl rfl hc_1230 rfl fun a f => ?_
     refine q_ng 10 17 rfl (by kernel_rfl) f rfl rfl hc_1230 rfl fun a f => ?_
     refine q_ng 11 17 rfl (by kernel_rfl) f rfl rfl hc_1230 rfl fun a f => ?_
     refine q_ng 12 17 rfl (by kernel_rfl) f rfl rfl hc_1230 rfl fun a f => ?_
     refine q_ng 13 17 rfl (by kernel_rfl) f rfl rfl hc_1230 rfl fun a f => ?_
     refine q_ng 14 17 rfl (by kernel_rfl) f rfl rfl hc_1230 rfl fun a f => ?_
     refine q_ng 15 17 rfl (by kernel_rfl) f rfl rfl hc_1230 rfl fun a f => ?_
     refine q_p 16 17 rfl (by kernel_rfl) f rfl rfl rfl (fun _ => r_pickF (f.eval rfl) hc_1230 (f.eval rfl)) fun a f => ?_
     obtain rfl := sj hj_1248
     exact K_1246 _ (f.weak ⟨rfl, rfl, rfl, rfl, rfl, rfl, rfl, rfl, rfl, rfl, trivial⟩)
  ·rintro a w ⟨x_1228, rfl, G_1227, hl_1229, f, m⟩
   have o_744 := Ow.mono (RI.mono _) hl_1229 o_744
   refine k_seq ?_
   obtain ⟨q_1343, hl_1344, hs_737⟩ := bind_some hs_737
   refine k_cut (fun a w => ∃ x_1390 : Int, x_1390 = q_1343 ∧ ∃ (G_1389 : GH), GLe G_1227 G_1389 ∧ Fr a 90 [(0, v0), (1, (.int .i64 x1)), (4, (.func (.func 81) #[] #[])), (11, (.int .i64 x_1228)), (12, (.int .i64 x_1390))] ∧ Mem W G_1389 w (it_743 :: H)) ?_ ?_
   ·refine k_block ?_
    refine k_loop (fun s_1347 a w => ∃ x_1350 : Int, x_1350 = s_1347 ∧ ∃ (G_1349 : GH), GLe G_1227 G_1349 ∧ Fr a 90 [(0, v0), (1, (.int .i64 x1)), (4, (.func (.func 81) #[] #[])), (11, (.int .i64 x_1228)), (12, (.int .i64 x_1350))] ∧ Mem W G_1349 w (it_743 :: H)) hl_1344 ⟨_, rfl, _, (GLe.refl _), f.weak ⟨rfl, rfl, rfl, rfl, rfl, trivial⟩, m⟩ ?_
    clear hl_1344 f m
    rintro s_1347 o_1348 hs_1345 hq_1346 a w ⟨x_1350, rfl, G_1349, hl_1351, f, m⟩
    have o_744 := Ow.mono (RI.mono _) hl_1351 o_744
    refine k_seq (k_seq ?_)
    refine k_draw 16 Follows (by kernel_rfl) m ?_
    refine q_mv 0 16 rfl (by kernel_rfl) f rfl rfl rfl fun a f => ?_
    refine q_mv 1 16 rfl (by kernel_rfl) f rfl rfl rfl fun a f => ?_
    refine q_p 2 16 rfl (by kernel_rfl) f rfl rfl rfl (fun _ => r_int (f.eval rfl) (f.eval rfl) b_leq) fun a f => ?_
    refine q_mv 3 16 rfl (by kernel_rfl) f rfl rfl rfl fun a f => ?_
    obtain ⟨b_1409, hj_1410, hs_1345⟩ := bind_some hs_1345
    refine q_cut (fuel' := 0) (listed' := #[true, true, true, true, true, true, true, true, true, true, true, true, true, true, true, true]) (fun a => Fr a 90 [(0, v0), (1, (.int .i64 x1)), (4, (.func (.func 81) #[] #[])), (11, (.int .i64 x_1228)), (12, (.int .i64 x_1350)), (50, (.int .i64 x_1228)), (51, (.int .i64 x_1350)), (52, (.bool (decide (x_1228 ≤ x_1350)))), (53, (.bool (decide (x_1228 ≤ x_1350)))), (65, (.bool b_1409))]) ?_ ?_
    ·intro a f
     refine q_end fun G_1426 w hl_1427 m => ?_
     have o_744 := Ow.mono (RI.mono _) hl_1427 o_744
     refine l_nil ?_
     rcases cond_some hs_1345 with ⟨hc_1428, hs_1345⟩ | ⟨hc_1428, hs_1345⟩
     ·refine k_true f rfl hc_1428 ?_
      refine k_skip ?_
      refine k_block (k_region ?_)
      refine l_mv f rfl rfl fun a f => ?_
      refine l_in f rfl rfl rfl b_sub fun a f => ?_
      refine l_as f rfl rfl fun a f => ?_
      refine l_nil ?_
      obtain rfl := sj hs_1345
      exact ⟨_, rfl, _, rfl, _, (GLe.trans hl_1351 hl_1427), f.weak ⟨rfl, rfl, rfl, rfl, rfl, trivial⟩, m⟩
     ·refine k_false f rfl hc_1428 ?_
      refine k_exit rfl ?_
      obtain rfl := sj hs_1345
      obtain rfl := hq_1346 _ rfl
      exact ⟨_, rfl, _, (GLe.trans hl_1351 hl_1427), f.weak ⟨rfl, rfl, rfl, rfl, rfl, trivial⟩, m⟩
    ·intro K_1408
     rcases cond_some hj_1410 with ⟨hc_1392, hj_1410⟩ | ⟨hc_1392, hj_1410⟩
     ·refine q_mv 4 16 rfl (by kernel_rfl) f (wanted_of f rfl rfl rfl hc_1392) rfl rfl fun a f => ?_
      refine q_mv 5 16 rfl (by kernel_rfl) f (wanted_of f rfl rfl rfl hc_1392) rfl rfl fun a f => ?_
      refine q_mv 6 16 rfl (by kernel_rfl) f (wanted_of f rfl rfl rfl hc_1392) rfl rfl fun a f => ?_
      obtain ⟨e_1411, he_1412, hj_1410⟩ := bind_some hj_1410
      refine q_own_at (i := 7) 16 0 m o_744 rfl T52 he_1412 rfl (by kernel_rfl) rfl f (wanted_of f rfl rfl rfl hc_1392) rfl rfl rfl fun p_1413 a ha_1414 f => ?_
      refine q_own_load (i := 8) 16 0 o_744 rfl Pl59 ha_1414 he_1412 rfl (by kernel_rfl) rfl f (wanted_of f rfl rfl rfl hc_1392) rfl rfl fun c_1415 a h_1416 f => ?_
      subst h_1416
      refine q_mv 9 16 rfl (by kernel_rfl) f (wanted_of f rfl rfl rfl hc_1392) rfl rfl fun a f => ?_
      refine q_mv 10 16 rfl (by kernel_rfl) f (wanted_of f rfl rfl rfl hc_1392) rfl rfl fun a f => ?_
      obtain ⟨e_1417, he_1418, hj_1410⟩ := bind_some hj_1410
      refine q_own_at (i := 11) 16 0 m o_744 rfl T52 he_1418 rfl (by kernel_rfl) rfl f (wanted_of f rfl rfl rfl hc_1392) rfl rfl rfl fun p_1419 a ha_1420 f => ?_
      refine q_own_load (i := 12) 16 0 o_744 rfl Pl59 ha_1420 he_1418 rfl (by kernel_rfl) rfl f (wanted_of f rfl rfl rfl hc_1392) rfl rfl fun c_1421 a h_1422 f => ?_
      subst h_1422
      obtain ⟨y_1423, hy_1424, hj_1410⟩ := bind_some hj_1410
      refine q_callv (i := 13) 16 rfl (by kernel_rfl) rfl f (wanted_of f rfl rfl rfl hc_1392) rfl rfl rfl Tryd.call81 (fun _ _ w hG_1425 m => Wk.impl_compareSets hW m  hy_1424) fun a f => ?_
      refine q_p 14 16 rfl (by kernel_rfl) f (wanted_of f rfl rfl rfl hc_1392) rfl rfl (fun _ => r_int (f.eval rfl) (f.eval rfl) b_lss) fun a f => ?_
      refine q_p 15 16 rfl (by kernel_rfl) f rfl rfl rfl (fun _ => r_pickT (f.eval rfl) hc_1392 (f.eval rfl)) fun a f => ?_
      obtain rfl := sj hj_1410
      exact K_1408 _ (f.weak ⟨rfl, rfl, rfl, rfl, rfl, rfl, rfl, rfl, rfl, rfl, trivial⟩)
     ·refine q_ng 4 16 rfl (by kernel_rfl) f rfl rfl hc_1392 rfl fun a f => ?_
      refine q_ng 5 16 rfl (by kernel_rfl) f rfl rfl hc_1392 rfl fun a f => ?_
      refine q_ng 6 16 rfl (by kernel_rfl) f rfl rfl hc_1392 rfl fun a f => ?_
      refine q_ng 7 16 rfl (by kernel_rfl) f rfl rfl hc_1392 rfl fun a f => ?_
      refine q_ng 8 16 rfl (by kernel_rfl) f rfl rfl hc_1392 rfl fun a f => ?_
      refine q_ng 9 16 rfl (by kernel_rfl) f rfl rfl hc_1392 rfl fun a f => ?_
      refine q_ng 10 16 rfl (by kernel_rfl) f rfl rfl hc_1392 rfl fun a f => ?_
      refine q_ng 11 16 rfl (by kernel_rfl) f rfl rfl hc_1392 rfl fun a f => ?_
      refine q_ng 12 16 rfl (by kernel_rfl) f rfl rfl hc_1392 rfl fun a f => ?_
      refine q_ng 13 16 rfl (by kernel_rfl) f rfl rfl hc_1392 rfl fun a f => ?_
      refine q_ng 14 16 rfl (by kernel_rfl) f rfl rfl hc_1392 rfl fun a f => ?_
      refine q_p 15 16 rfl (by kernel_rfl) f rfl rfl rfl (fun _ => r_pickF (f.eval rfl) hc_1392 (f.eval rfl)) fun a f => ?_
      obtain rfl := sj hj_1410
      exact K_1408 _ (f.weak ⟨rfl, rfl, rfl, rfl, rfl, rfl, rfl, rfl, rfl, rfl, trivial⟩)
   ·rintro a w ⟨x_1390, rfl, G_1389, hl_1391, f, m⟩
    have o_744 := Ow.mono (RI.mono _) hl_1391 o_744
    refine k_seq (k_seq (k_region ?_))
    refine l_mv f rfl rfl fun a f => ?_
    refine l_mv f rfl rfl fun a f => ?_
    refine l_in f rfl rfl rfl b_gtr fun a f => ?_
    refine l_nil ?_
    rcases cond_some hs_737 with ⟨hc_1429, hs_737⟩ | ⟨hc_1429, hs_737⟩
    ·refine k_true f rfl hc_1429 ?_
     refine k_exit rfl ?_
     obtain rfl := sj hs_737
     obtain rfl := hq_738 _ rfl
     exact ⟨_, _, rfl, _, it_743, (GLe.trans hl_747 (GLe.trans hl_1229 hl_1391)), f.weak ⟨rfl, trivial⟩, m, o_744⟩
    ·refine k_false f rfl hc_1429 ?_
     refine k_skip ?_
     refine k_seq ?_
     refine k_draw0 Follows m ?_
     refine p_p 2 rfl (by kernel_rfl) f rfl rfl rfl (fun _ => r_move (f.eval rfl)) fun a f => ?_
     refine p_p 3 rfl (by kernel_rfl) f rfl rfl rfl (fun _ => r_move (f.eval rfl)) fun a f => ?_
     refine k_draw1 12013 11 (by kernel_rfl) rfl ?_
     refine q_mv 0 12013 rfl (by kernel_rfl) f rfl rfl rfl fun a f => ?_
     refine q_mv 1 12013 rfl (by kernel_rfl) f rfl rfl rfl fun a f => ?_
     refine q_mv 4 12013 rfl (by kernel_rfl) f rfl rfl rfl fun a f => ?_
     refine q_mv 5 12013 rfl (by kernel_rfl) f rfl rfl rfl fun a f => ?_
     obtain ⟨e_1430, he_1431, hs_737⟩ := bind_some hs_737
     refine q_own_at (i := 6) 12013 0 m o_744 rfl T52 he_1431 rfl (by kernel_rfl) rfl f rfl rfl rfl rfl fun p_1432 a ha_1433 f => ?_
     refine q_own_load (i := 7) 12013 0 o_744 rfl Pl59 ha_1433 he_1431 rfl (by kernel_rfl) rfl f rfl rfl rfl fun c_1434 a h_1435 f => ?_
     subst h_1435
     refine q_mv 8 12013 rfl (by kernel_rfl) f rfl rfl rfl fun a f => ?_
     refine q_mv 9 12013 rfl (by kernel_rfl) f rfl rfl rfl fun a f => ?_
     obtain ⟨e_1436, he_1437, hs_737⟩ := bind_some hs_737
     refine q_own_at (i := 10) 12013 0 m o_744 rfl T52 he_1437 rfl (by kernel_rfl) rfl f rfl rfl rfl rfl fun p_1438 a ha_1439 f => ?_
     refine q_own_load (i := 11) 12013 0 o_744 rfl Pl59 ha_1439 he_1437 rfl (by kernel_rfl) rfl f rfl rfl rfl fun c_1440 a h_1441 f => ?_
     subst h_1441
     obtain ⟨e_1442, he_1443, hs_737⟩ := bind_some hs_737
     refine q_own_at (i := 12) 12013 0 m o_744 rfl T52 he_1443 rfl (by kernel_rfl) rfl f rfl rfl rfl rfl fun p_1444 a ha_1445 f => ?_
     refine q_end fun G_1446 w hl_1447 m => ?_
     have o_744 := Ow.mono (RI.mono _) hl_1447 o_744
     refine l_own_store 0 m o_744 rfl Tryd.sizeOf59 f rfl rfl ha_1445 he_1443 rfl rfl rfl fun it_1448 w m o_1449 => ?_
     obtain ⟨e_1450, he_1451, hs_737⟩ := bind_some hs_737
     refine l_own_at 0 m o_1449 rfl T52 f rfl rfl rfl he_1451 fun p_1452 a ha_1453 f => ?_
     refine l_own_store 0 m o_1449 rfl Tryd.sizeOf59 f rfl rfl ha_1453 he_1451 rfl rfl rfl fun it_1454 w m o_1455 => ?_
     refine l_nil (k_seq (k_region ?_))
     refine l_mv f rfl rfl fun a f => ?_
     refine l_in f rfl rfl rfl b_add fun a f => ?_
     refine l_as f rfl rfl fun a f => ?_
     refine l_nil (k_region ?_)
     refine l_mv f rfl rfl fun a f => ?_
     refine l_in f rfl rfl rfl b_sub fun a f => ?_
     refine l_as f rfl rfl fun a f => ?_
     refine l_nil ?_
     obtain rfl := sj hs_737
     exact ⟨_, rfl, _, _, _, rfl, _, it_1454, (GLe.trans hl_747 (GLe.trans hl_1229 (GLe.trans hl_1391 hl_1447))), f.weak ⟨rfl, rfl, rfl, rfl, rfl, trivial⟩, m, o_1455⟩
 ·rintro a w ⟨l_1100, x_1103, rfl, G_1099, it_1101, hl_1104, f, m, o_1102⟩
  refine k_seq (k_region ?_)
  refine l_mv f rfl rfl fun a f => ?_
  refine l_as f rfl rfl fun a f => ?_
  refine l_nil ?_
  refine k_ret ?_
  obtain rfl := sj hd
  exact ⟨[(.int .i64 x_1103)], ⟨f.get _ _ rfl, trivial⟩, f.defers, _, [it_1101], (GLe.trans hl_18 hl_1104), m, _, rfl, rfl, o_1102⟩

theorem Wk.slices_partitionCmpFunc_impl_vset__impl_compareSets {W w : World} {G : GH} {H : List Itm} {v0 : Value} {it0 : Itm} {x0 : (List Int)} {x1 : Int} {x2 : Int} {x3 : Int} (hW : TabW W) (m : Mem W G w (it0 :: H)) (o0 : Ow (RI .u32) 59 G it0 v0 x0) {y : Int × Bool × ((List Int))} (hd : D.slices_partitionCmpFunc_impl_vset__impl_compareSets x0 x1 x2 x3 = some y) :
  Calls Tryd.prog 116 #[v0, (.int .i64 x1), (.int .i64 x2), (.int .i64 x3), (.func (.func 81) #[] #[])] w (Res W G H (fun G' Ho v => ∃ i0 : Itm, Ho = [i0] ∧ v = .tuple #[(.int .i64 y.1), (.bool y.2.1)] ∧ Ow (RI .u32) 59 G' i0 v0 y.2.2)) := by
 refine calls_b (args := [v0, (.int .i64 x1), (.int .i64 x2), (.int .i64 x3), (.func (.func 81) #[] #[])]) (N := 178) [.tmp 10, .tmp 11] Tryd.func116 rfl rfl (Nat.le_of_ble_eq_true rfl) rfl fun a f => ?_
 unfold D.slices_partitionCmpFunc_impl_vset__impl_compareSets at hd
 refine k_seq (k_region ?_)
 refine l_as f rfl rfl fun a f => ?_
 refine l_as f rfl rfl fun a f => ?_
 refine l_nil (k_seq ?_)
 refine k_draw0 Follows m ?_
 refine p_p 2 rfl (by kernel_rfl) f rfl rfl rfl (fun _ => r_move (f.eval rfl)) fun a f => ?_
 refine p_p 3 rfl (by kernel_rfl) f rfl rfl rfl (fun _ => r_move (f.eval rfl)) fun a f => ?_
 refine k_draw1 12013 11 (by kernel_rfl) rfl ?_
 refine q_mv 0 12013 rfl (by kernel_rfl) f rfl rfl rfl fun a f => ?_
 refine q_mv 1 12013 rfl (by kernel_rfl) f rfl rfl rfl fun a f => ?_
 refine q_mv 4 12013 rfl (by kernel_rfl) f rfl rfl rfl fun a f => ?_
 refine q_mv 5 12013 rfl (by kernel_rfl) f rfl rfl rfl fun a f => ?_
 obtain ⟨e_1, he_2, hd⟩ := bind_some hd
 refine q_own_at (i := 6) 12013 0 m o0 rfl T52 he_2 rfl (by kernel_rfl) rfl f rfl rfl rfl rfl fun p_3 a ha_4 f => ?_
 refine q_own_load (i := 7) 12013 0 o0 rfl Pl59 ha_4 he_2 rfl (by kernel_rfl) rfl f rfl rfl rfl fun c_5 a h_6 f => ?_
 subst h_6
 refine q_mv 8 12013 rfl (by kernel_rfl) f rfl rfl rfl fun a f => ?_
 refine q_mv 9 12013 rfl (by kernel_rfl) f rfl rfl rfl fun a f => ?_
 obtain ⟨e_7, he_8, hd⟩ := bind_some hd
 refine q_own_at (i := 10) 12013 0 m o0 rfl T52 he_8 rfl (by kernel_rfl) rfl f rfl rfl rfl rfl fun p_9 a ha_10 f => ?_
 refine q_own_load (i := 11) 12013 0 o0 rfl Pl59 ha_10 he_8 rfl (by kernel_rfl) rfl f rfl rfl rfl fun c_11 a h_12 f => ?_
 subst h_12
 obtain ⟨e_13, he_14, hd⟩ := bind_some hd
 refine q_own_at (i := 12) 12013 0 m o0 rfl T52 he_14 rfl (by kernel_rfl) rfl f rfl rfl rfl rfl fun p_15 a ha_16 f => ?_
 refine q_end fun G_17 w hl_18 m => ?_
 have o0 := Ow.mono (RI.mono _) hl_18 o0
 refine l_own_store 0 m o0 rfl Tryd.sizeOf59 f rfl rfl ha_16 he_14 rfl rfl rfl fun it_19 w m o_20 => ?_
 obtain ⟨e_21, he_22, hd⟩ := bind_some hd
 refine l_own_at 0 m o_20 rfl T52 f rfl rfl rfl he_22 fun p_23 a ha_24 f => ?_
 refine l_own_store 0 m o_20 rfl Tryd.sizeOf59 f rfl rfl ha_24 he_22 rfl rfl rfl fun it_25 w m o_26 => ?_
 refine l_nil (k_seq (k_region ?_))
 refine l_mv f rfl rfl fun a f => ?_
 refine l_in f rfl rfl rfl b_add fun a f => ?_
 refine l_mv f rfl rfl fun a f => ?_
 refine l_in f rfl rfl rfl b_sub fun a f => ?_
 refine l_as f rfl rfl fun a f => ?_
 refine l_as f rfl rfl fun a f => ?_
 refine l_nil (k_seq ?_)
 obtain ⟨q_103, hl_104, hd⟩ := bind_some hd
 refine k_cut (fun a w => ∃ x_150 : Int, x_150 = q_103 ∧ ∃ (G_149 : GH), GLe G_17 G_149 ∧ Fr a 178 [(0, v0), (1, (.int .i64 x1)), (4, (.func (.func 81) #[] #[])), (12, (.int .i64 x_150)), (13, (.int .i64 (IntKind.i64.wrap (x2 - 1))))] ∧ Mem W G_149 w (it_25 :: H)) ?_ ?_
 ·refine k_block ?_
  refine k_loop (fun s_107 a w => ∃ x_110 : Int, x_110 = s_107 ∧ ∃ (G_109 : GH), GLe G_17 G_109 ∧ Fr a 178 [(0, v0), (1, (.int .i64 x1)), (4, (.func (.func 81) #[] #[])), (12, (.int .i64 x_110)), (13, (.int .i64 (IntKind.i64.wrap (x2 - 1))))] ∧ Mem W G_109 w (it_25 :: H)) hl_104 ⟨_, rfl, _, (GLe.refl _), f.weak ⟨rfl, rfl, rfl, rfl, rfl, trivial⟩, m⟩ ?_
  clear hl_104 f m
  rintro s_107 o_108 hs_105 hq_106 a w ⟨x_110, rfl, G_109, hl_111, f, m⟩
  have o_26 := Ow.mono (RI.mono _) hl_111 o_26
  refine k_seq (k_seq ?_)
  refine k_draw 16 Follows (by kernel_rfl) m ?_
  refine q_mv 0 16 rfl (by kernel_rfl) f rfl rfl rfl fun a f => ?_
  refine q_mv 1 16 rfl (by kernel_rfl) f rfl rfl rfl fun a f => ?_
  refine q_p 2 16 rfl (by kernel_rfl) f rfl rfl rfl (fun _ => r_int (f.eval rfl) (f.eval rfl) b_leq) fun a f => ?_
  refine q_mv 3 16 rfl (by kernel_rfl) f rfl rfl rfl fun a f => ?_
  obtain ⟨b_169, hj_170, hs_105⟩ := bind_some hs_105
  refine q_cut (fuel' := 0) (listed' := #[true, true, true, true, true, true, true, true, true, true, true, true, true, true, true, true]) (fun a => Fr a 178 [(0, v0), (1, (.int .i64 x1)), (4, (.func (.func 81) #[] #[])), (12, (.int .i64 x_110)), (13, (.int .i64 (IntKind.i64.wrap (x2 - 1)))), (32, (.int .i64 x_110)), (33, (.int .i64 (IntKind.i64.wrap (x2 - 1)))), (34, (.bool (decide (x_110 ≤ (IntKind.i64.wrap (x2 - 1)))))), (35, (.bool (decide (x_110 ≤ (IntKind.i64.wrap (x2 - 1)))))), (47, (.bool b_169))]) ?_ ?_
  ·intro a f
   refine q_end fun G_186 w hl_187 m => ?_
   have o_26 := Ow.mono (RI.mono _) hl_187 o_26
   refine l_nil ?_
   rcases cond_some hs_105 with ⟨hc_188, hs_105⟩ | ⟨hc_188, hs_105⟩
   ·refine k_true f rfl hc_188 ?_
    refine k_skip ?_
    refine k_block (k_region ?_)
    refine l_mv f rfl rfl fun a f => ?_
    refine l_in f rfl rfl rfl b_add fun a f => ?_
    refine l_as f rfl rfl fun a f => ?_
    refine l_nil ?_
    obtain rfl := sj hs_105
    exact ⟨_, rfl, _, rfl, _, (GLe.trans hl_111 hl_187), f.weak ⟨rfl, rfl, rfl, rfl, rfl, trivial⟩, m⟩
   ·refine k_false f rfl hc_188 ?_
    refine k_exit rfl ?_
    obtain rfl := sj hs_105
    obtain rfl := hq_106 _ rfl
    exact ⟨_, rfl, _, (GLe.trans hl_111 hl_187), f.weak ⟨rfl, rfl, rfl, rfl, rfl, trivial⟩, m⟩
  ·intro K_168
   rcases cond_some hj_170 with ⟨hc_152, hj_170⟩ | ⟨hc_152, hj_170⟩
   ·refine q_mv 4 16 rfl (by kernel_rfl) f (wanted_of f rfl rfl rfl hc_152) rfl rfl fun a f => ?_
    refine q_mv 5 16 rfl (by kernel_rfl) f (wanted_of f rfl rfl rfl hc_152) rfl rfl fun a f => ?_
    refine q_mv 6 16 rfl (by kernel_rfl) f (wanted_of f rfl rfl rfl hc_152) rfl rfl fun a f => ?_
    obtain ⟨e_171, he_172, hj_170⟩ := bind_some hj_170
    refine q_own_at (i := 7) 16 0 m o_26 rfl T52 he_172 rfl (by kernel_rfl) rfl f (wanted_of f rfl rfl rfl hc_152) rfl rfl rfl fun p_173 a ha_174 f => ?_
    refine q_own_load (i := 8) 16 0 o_26 rfl Pl59 ha_174 he_172 rfl (by kernel_rfl) rfl f (wanted_of f rfl rfl rfl hc_152) rfl rfl fun c_175 a h_176 f => ?_
    subst h_176
    refine q_mv 9 16 rfl (by kernel_rfl) f (wanted_of f rfl rfl rfl hc_152) rfl rfl fun a f => ?_
    refine q_mv 10 16 rfl (by kernel_rfl) f (wanted_of f rfl rfl rfl hc_152) rfl rfl fun a f => ?_
    obtain ⟨e_177, he_178, hj_170⟩ := bind_some hj_170
    refine q_own_at (i := 11) 16 0 m o_26 rfl T52 he_178 rfl (by kernel_rfl) rfl f (wanted_of f rfl rfl rfl hc_152) rfl rfl rfl fun p_179 a ha_180 f => ?_
    refine q_own_load (i := 12) 16 0 o_26 rfl Pl59 ha_180 he_178 rfl (by kernel_rfl) rfl f (wanted_of f rfl rfl rfl hc_152) rfl rfl fun c_181 a h_182 f => ?_
    subst h_182
    obtain ⟨y_183, hy_184, hj_170⟩ := bind_some hj_170
    refine q_callv (i := 13) 16 rfl (by kernel_rfl) rfl f (wanted_of f rfl rfl rfl hc_152) rfl rfl rfl Tryd.call81 (fun _ _ w hG_185 m => Wk.impl_compareSets hW m  hy_184) fun a f => ?_
    refine q_p 14 16 rfl (by kernel_rfl) f (wanted_of f rfl rfl rfl hc_152) rfl rfl (fun _ => r_int (f.eval rfl) (f.eval rfl) b_lss) fun a f => ?_
    refine q_p 15 16 rfl (by kernel_rfl) f rfl rfl rfl (fun _ => r_pickT (f.eval rfl) hc_152 (f.eval rfl)) fun a f => ?_
    obtain rfl := sj hj_170
    exact K_168 _ (f.weak ⟨rfl, rfl, rfl, rfl, rfl, rfl, rfl, rfl, rfl, rfl, trivial⟩)
   ·refine q_ng 4 16 rfl (by kernel_rfl) f rfl rfl hc_152 rfl fun a f => ?_
    refine q_ng 5 16 rfl (by kernel_rfl) f rfl rfl hc_152 rfl fun a f => ?_
    refine q_ng 6 16 rfl (by kernel_rfl) f rfl rfl hc_152 rfl fun a f => ?_
    refine q_ng 7 16 rfl (by kernel_rfl) f rfl rfl hc_152 rfl fun a f => ?_
    refine q_ng 8 16 rfl (by kernel_rfl) f rfl rfl hc_152 rfl fun a f => ?_
    refine q_ng 9 16 rfl (by kernel_rfl) f rfl rfl hc_152 rfl fun a f => ?_
    refine q_ng 10 16 rfl (by kernel_rfl) f rfl rfl hc_152 rfl fun a f => ?_
    refine q_ng 11 16 rfl (by kernel_rfl) f rfl rfl hc_152 rfl fun a f => ?_
    refine q_ng 12 16 rfl (by kernel_rfl) f rfl rfl hc_152 rfl fun a f => ?_
    refine q_ng 13 16 rfl (by kernel_rfl) f rfl rfl hc_152 rfl fun a f => ?_
    refine q_ng 14 16 rfl (by kernel_rfl) f rfl rfl hc_152 rfl fun a f => ?_
    refine q_p 15 16 rfl (by kernel_rfl) f rfl rfl rfl (fun _ => r_pickF (f.eval rfl) hc_152 (f.eval rfl)) fun a f => ?_
    obtain rfl := sj hj_170
    exact K_168 _ (f.weak ⟨rfl, rfl, rfl, rfl, rfl, rfl, rfl, rfl, rfl, rfl, trivial⟩)
 ·rintro a w ⟨x_150, rfl, G_149, hl_151, f, m⟩
  have o_26 := Ow.mono (RI.mono _) hl_151 o_26
  refine k_seq ?_
  obtain ⟨q_265, hl_266, hd⟩ := bind_some hd
  refine k_cut (fun a w => ∃ x_312 : Int, x_312 = q_265 ∧ ∃ (G_311 : GH), GLe G_149 G_311 ∧ Fr a 178 [(0, v0), (1, (.int .i64 x1)), (4, (.func (.func 81) #[] #[])), (12, (.int .i64 x_150)), (13, (.int .i64 x_312))] ∧ Mem W G_311 w (it_25 :: H)) ?_ ?_
  ·refine k_block ?_
   refine k_loop (fun s_269 a w => ∃ x_272 : Int, x_272 = s_269 ∧ ∃ (G_271 : GH), GLe G_149 G_271 ∧ Fr a 178 [(0, v0), (1, (.int .i64 x1)), (4, (.func (.func 81) #[] #[])), (12, (.int .i64 x_150)), (13, (.int .i64 x_272))] ∧ Mem W G_271 w (it_25 :: H)) hl_266 ⟨_, rfl, _, (GLe.refl _), f.weak ⟨rfl, rfl, rfl, rfl, rfl, trivial⟩, m⟩ ?_
   clear hl_266 f m
   rintro s_269 o_270 hs_267 hq_268 a w ⟨x_272, rfl, G_271, hl_273, f, m⟩
   have o_26 := Ow.mono (RI.mono _) hl_273 o_26
   refine k_seq (k_seq ?_)
   refine k_draw 17 Follows (by kernel_rfl) m ?_
   refine q_mv 0 17 rfl (by kernel_rfl) f rfl rfl rfl fun a f => ?_
   refine q_mv 1 17 rfl (by kernel_rfl) f rfl rfl rfl fun a f => ?_
   refine q_p 2 17 rfl (by kernel_rfl) f rfl rfl rfl (fun _ => r_int (f.eval rfl) (f.eval rfl) b_leq) fun a f => ?_
   refine q_mv 3 17 rfl (by kernel_rfl) f rfl rfl rfl fun a f => ?_
   obtain ⟨b_331, hj_332, hs_267⟩ := bind_some hs_267
   refine q_cut (fuel' := 0) (listed' := #[true, true, true, true, true, true, true, true, true, true, true, true, true, true, true, true, true]) (fun a => Fr a 178 [(0, v0), (1, (.int .i64 x1)), (4, (.func (.func 81) #[] #[])), (12, (.int .i64 x_150)), (13, (.int .i64 x_272)), (50, (.int .i64 x_150)), (51, (.int .i64 x_272)), (52, (.bool (decide (x_150 ≤ x_272)))), (53, (.bool (decide (x_150 ≤ x_272)))), (66, (.bool b_331))]) ?_ ?_
   ·intro a f
    refine q_end fun G_348 w hl_349 m => ?_
    have o_26 := Ow.mono (RI.mono _) hl_349 o_26
    refine l_nil ?_
    rcases cond_some hs_267 with ⟨hc_350, hs_267⟩ | ⟨hc_350, hs_267⟩
    ·refine k_true f rfl hc_350 ?_
     refine k_skip ?_
     refine k_block (k_region ?_)
     refine l_mv f rfl rfl fun a f => ?_
     refine l_in f rfl rfl rfl b_sub fun a f => ?_
     refine l_as f rfl rfl fun a f => ?_
     refine l_nil ?_
     obtain rfl := sj hs_267
     exact ⟨_, rfl, _, rfl, _, (GLe.trans hl_273 hl_349), f.weak ⟨rfl, rfl, rfl, rfl, rfl, trivial⟩, m⟩
    ·refine k_false f rfl hc_350 ?_
     refine k_exit rfl ?_
     obtain rfl := sj hs_267
     obtain rfl := hq_268 _ rfl
     exact ⟨_, rfl, _, (GLe.trans hl_273 hl_349), f.weak ⟨rfl, rfl, rfl, rfl, rfl, trivial⟩, m⟩
   ·intro K_330
    rcases cond_some hj_332 with ⟨hc_314, hj_332⟩ | ⟨hc_314, hj_332⟩
    ·refine q_mv 4 17 rfl (by kernel_rfl) f (wanted_of f rfl rfl rfl hc_314) rfl rfl fun a f => ?_
     refine q_mv 5 17 rfl (by kernel_rfl) f (wanted_of f rfl rfl rfl hc_314) rfl rfl fun a f => ?_
     refine q_mv 6 17 rfl (by kernel_rfl) f (wanted_of f rfl rfl rfl hc_314) rfl rfl fun a f => ?_
     obtain ⟨e_333, he_334, hj_332⟩ := bind_some hj_332
     refine q_own_at (i := 7) 17 0 m o_26 rfl T52 he_334 rfl (by kernel_rfl) rfl f (wanted_of f rfl rfl rfl hc_314) rfl rfl rfl fun p_335 a ha_336 f => ?_
     refine q_own_load (i := 8) 17 0 o_26 rfl Pl59 ha_336 he_334 rfl (by kernel_rfl) rfl f (wanted_of f rfl rfl rfl hc_314) rfl rfl fun c_337 a h_338 f => ?_
     subst h_338
     refine q_mv 9 17 rfl (by kernel_rfl) f (wanted_of f rfl rfl rfl hc_314) rfl rfl fun a f => ?_
     refine q_mv 10 17 rfl (by kernel_rfl) f (wanted_of f rfl rfl rfl hc_314) rfl rfl fun a f => ?_
     obtain ⟨e_339, he_340, hj_332⟩ := bind_some hj_332
     refine q_own_at (i := 11) 17 0 m o_26 rfl T52 he_340 rfl (by kernel_rfl) rfl f (wanted_of f rfl rfl rfl hc_314) rfl rfl rfl fun p_341 a ha_342 f => ?_
     refine q_own_load (i := 12) 17 0 o_26 rfl Pl59 ha_342 he_340 rfl (by kernel_rfl) rfl f (wanted_of f rfl rfl rfl hc_314) rfl rfl fun c_343 a h_344 f => ?_
     subst h_344
     obtain ⟨y_345, hy_346, hj_332⟩ := bind_some hj_332
     refine q_callv (i := 13) 17 rfl (by kernel_rfl) rfl f (wanted_of f rfl rfl rfl hc_314) rfl rfl rfl Tryd.call81 (fun _ _ w hG_347 m => Wk.impl_compareSets hW m  hy_346) fun a f => ?_
     refine q_p 14 17 rfl (by kernel_rfl) f (wanted_of f rfl rfl rfl hc_314) rfl rfl (fun _ => r_int (f.eval rfl) (f.eval rfl) b_lss) fun a f => ?_
     refine q_p 15 17 rfl (by kernel_rfl) f (wanted_of f rfl rfl rfl hc_314) rfl rfl (fun _ => r_not (f.eval rfl)) fun a f => ?_
     refine q_p 16 17 rfl (by kernel_rfl) f rfl rfl rfl (fun _ => r_pickT (f.eval rfl) hc_314 (f.eval rfl)) fun a f => ?_
     obtain rfl := sj hj_332
     exact K_330 _ (f.weak ⟨rfl, rfl, rfl, rfl, rfl, rfl, rfl, rfl, rfl, rfl, trivial⟩)
    ·refine q_ng 4 17 rfl (by kernel_rfl) f rfl rfl hc_314 rfl fun a f => ?_
     refine q_ng 5 17 rfl (by kernel_rfl) f rfl rfl hc_314 rfl fun a f => ?_
     refine q_ng 6 17 rfl (by kernel_rfl) f rfl rfl hc_314 rfl fun a f => ?_
     refine q_ng 7 17 rfl (by kernel_rfl) f rfl rfl hc_314 rfl fun a f => ?_
     refine q_ng 8 17 rfl (by kernel_rfl) f rfl rfl hc_314 rfl fun a f => ?_
     refine q_ng 9 17 rfl (by kernel_rfl) f rfl rfl hc_314 rfl fun a f => ?_
     refine q_ng 10 17 rfl (by kernel_rfl) f rfl rfl hc_314 rfl fun a f => ?_
     refine q_ng 11 17 rfl (by kernel_rfl) f rfl rfl hc_314 rfl fun a f => ?_
     refine q_ng 12 17 rfl (by kernel_rfl) f rfl rfl hc_314 rfl fun a f => ?_
     refine q_ng 13 17 rfl (by kernel_rfl) f rfl rfl hc_314 rfl fun a f => ?_
     refine q_ng 14 17 rfl (by kernel_rfl) f rfl rfl hc_314 rfl fun a f => ?_
     refine q_ng 15 17 rfl (by kernel_rfl) f rfl rfl hc_314 rfl fun a f => ?_
     refine q_p 16 17 rfl (by kernel_rfl) f rfl rfl rfl (fun _ => r_pickF (f.eval rfl) hc_314 (f.eval rfl)) fun a f => ?_
     obtain rfl := sj hj_332
     exact K_330 _ (f.weak ⟨rfl, rfl, rfl, rfl, rfl, rfl, rfl, rfl, rfl, rfl, trivial⟩)
  ·rintro a w ⟨x_312, rfl, G_311, hl_313, f, m⟩
   have o_26 := Ow.mono (RI.mono _) hl_313 o_26
   refine k_seq (k_seq (k_region ?_))
   refine l_mv f rfl rfl fun a f => ?_
   refine l_mv f rfl rfl fun a f => ?_
   refine l_in f rfl rfl rfl b_gtr fun a f => ?_
   refine l_nil ?_
   rcases cond_some hd with ⟨hc_351, hd⟩ | ⟨hc_351, hd⟩
   ·refine k_true f rfl hc_351 ?_
    refine k_seq ?_
    refine k_draw0 Follows m ?_
    refine p_p 2 rfl (by kernel_rfl) f rfl rfl rfl (fun _ => r_move (f.eval rfl)) fun a f => ?_
    refine p_p 3 rfl (by kernel_rfl) f rfl rfl rfl (fun _ => r_move (f.eval rfl)) fun a f => ?_
    refine k_draw1 12013 11 (by kernel_rfl) rfl ?_
    refine q_mv 0 12013 rfl (by kernel_rfl) f rfl rfl rfl fun a f => ?_
    refine q_mv 1 12013 rfl (by kernel_rfl) f rfl rfl rfl fun a f => ?_
    refine q_mv 4 12013 rfl (by kernel_rfl) f rfl rfl rfl fun a f => ?_
    refine q_mv 5 12013 rfl (by kernel_rfl) f rfl rfl rfl fun a f => ?_
    obtain ⟨e_352, he_353, hd⟩ := bind_some hd
    refine q_own_at (i := 6) 12013 0 m o_26 rfl T52 he_353 rfl (by kernel_rfl) rfl f rfl rfl rfl rfl fun p_354 a ha_355 f => ?_
    refine q_own_load (i := 7) 12013 0 o_26 rfl Pl59 ha_355 he_353 rfl (by kernel_rfl) rfl f rfl rfl rfl fun c_356 a h_357 f => ?_
    subst h_357
    refine q_mv 8 12013 rfl (by kernel_rfl) f rfl rfl rfl fun a f => ?_
    refine q_mv 9 12013 rfl (by kernel_rfl) f rfl rfl rfl fun a f => ?_
    obtain ⟨e_358, he_359, hd⟩ := bind_some hd
    refine q_own_at (i := 10) 12013 0 m o_26 rfl T52 he_359 rfl (by kernel_rfl) rfl f rfl rfl rfl rfl fun p_360 a ha_361 f => ?_
    refine q_own_load (i := 11) 12013 0 o_26 rfl Pl59 ha_361 he_359 rfl (by kernel_rfl) rfl f rfl rfl rfl fun c_362 a h_363 f => ?_
    subst h_363
    obtain ⟨e_364, he_365, hd⟩ := bind_some hd
    refine q_own_at (i := 12) 12013 0 m o_26 rfl T52 he_365 rfl (by kernel_rfl) rfl f rfl rfl rfl rfl fun p_366 a ha_367 f => ?_
    refine q_end fun G_368 w hl_369 m => ?_
    have o_26 := Ow.mono (RI.mono _) hl_369 o_26
    refine l_own_store 0 m o_26 rfl Tryd.sizeOf59 f rfl rfl ha_367 he_365 rfl rfl rfl fun it_370 w m o_371 => ?_
    obtain ⟨e_372, he_373, hd⟩ := bind_some hd
    refine l_own_at 0 m o_371 rfl T52 f rfl rfl rfl he_373 fun p_374 a ha_375 f => ?_
    refine l_own_store 0 m o_371 rfl Tryd.sizeOf59 f rfl rfl ha_375 he_373 rfl rfl rfl fun it_376 w m o_377 => ?_
    refine l_nil (k_seq (k_region ?_))
    refine l_mv f rfl rfl fun a f => ?_
    refine l_as f rfl rfl fun a f => ?_
    refine l_as f rfl rfl fun a f => ?_
    refine l_nil ?_
    refine k_ret ?_
    obtain rfl := sj hd
    exact ⟨[(.int .i64 x_312), (.bool true)], ⟨f.get _ _ rfl, f.get _ _ rfl, trivial⟩, f.defers, _, [it_376], (GLe.trans hl_18 (GLe.trans hl_151 (GLe.trans hl_313 hl_369))), m, _, rfl, rfl, o_377⟩
   ·refine k_false f rfl hc_351 ?_
    refine k_skip ?_
    refine k_seq ?_
    refine k_draw0 Follows m ?_
    refine p_p 2 rfl (by kernel_rfl) f rfl rfl rfl (fun _ => r_move (f.eval rfl)) fun a f => ?_
    refine p_p 3 rfl (by kernel_rfl) f rfl rfl rfl (fun _ => r_move (f.eval rfl)) fun a f => ?_
    refine k_draw1 12013 11 (by kernel_rfl) rfl ?_
    refine q_mv 0 12013 rfl (by kernel_rfl) f rfl rfl rfl fun a f => ?_
    refine q_mv 1 12013 rfl (by kernel_rfl) f rfl rfl rfl fun a f => ?_
    refine q_mv 4 12013 rfl (by kernel_rfl) f rfl rfl rfl fun a f => ?_
    refine q_mv 5 12013 rfl (by kernel_rfl) f rfl rfl rfl fun a f => ?_
    obtain ⟨e_378, he_379, hd⟩ := bind_some hd
    refine q_own_at (i := 6) 12013 0 m o_26 rfl T52 he_379 rfl (by kernel_rfl) rfl f rfl rfl rfl rfl fun p_380 a ha_381 f => ?_
    refine q_own_load (i := 7) 12013 0 o_26 rfl Pl59 ha_381 he_379 rfl (by kernel_rfl) rfl f rfl rfl rfl fun c_382 a h_383 f => ?_
    subst h_383
    refine q_mv 8 12013 rfl (by kernel_rfl) f rfl rfl rfl fun a f => ?_
    refine q_mv 9 12013 rfl (by kernel_rfl) f rfl rfl rfl fun a f => ?_
    obtain ⟨e_384, he_385, hd⟩ := bind_some hd
    refine q_own_at (i := 10) 12013 0 m o_26 rfl T52 he_385 rfl (by kernel_rfl) rfl f rfl rfl rfl rfl fun p_386 a ha_387 f => ?_
    refine q_own_load (i := 11) 12013 0 o_26 rfl Pl59 ha_387 he_385 rfl (by kernel_rfl) rfl f rfl rfl rfl fun c_388 a h_389 f => ?_
    subst h_389
    obtain ⟨e_390, he_391, hd⟩ := bind_some hd
    refine q_own_at (i := 12) 12013 0 m o_26 rfl T52 he_391 rfl (by kernel_rfl) rfl f rfl rfl rfl rfl fun p_392 a ha_393 f => ?_
    refine q_end fun G_394 w hl_395 m => ?_
    have o_26 := Ow.mono (RI.mono _) hl_395 o_26
    refine l_own_store 0 m o_26 rfl Tryd.sizeOf59 f rfl rfl ha_393 he_391 rfl rfl rfl fun it_396 w m o_397 => ?_
    obtain ⟨e_398, he_399, hd⟩ := bind_some hd
    refine l_own_at 0 m o_397 rfl T52 f rfl rfl rfl he_399 fun p_400 a ha_401 f => ?_
    refine l_own_store 0 m o_397 rfl Tryd.sizeOf59 f rfl rfl ha_401 he_399 rfl rfl rfl fun it_402 w m o_403 => ?_
    refine l_nil (k_seq (k_region ?_))
    refine l_mv f rfl rfl fun a f => ?_
    refine l_in f rfl rfl rfl b_add fun a f => ?_
    refine l_as f rfl rfl fun a f => ?_
    refine l_nil (k_seq (k_region ?_))
    refine l_mv f rfl rfl fun a f => ?_
    refine l_in f rfl rfl rfl b_sub fun a f => ?_
    refine l_as f rfl rfl fun a f => ?_
    refine l_nil (k_seq ?_)
    obtain ⟨q_1112, hl_1113, hd⟩ := bind_some hd
    refine k_cut (fun a w => ∃ l_1477 : List Int, ∃ x_1480 : Int, (l_1477, x_1480) = q_1112 ∧ ∃ (G_1476 : GH) (it_1478 : Itm), GLe G_394 G_1476 ∧ Fr a 178 [(0, v0), (1, (.int .i64 x1)), (13, (.int .i64 x_1480))] ∧ Mem W G_1476 w (it_1478 :: H) ∧ Ow (RI .u32) 59 G_1476 it_1478 v0 l_1477) ?_ ?_
    ·refine k_block ?_
     refine k_loop (fun s_1116 a w => ∃ l_1119 : List Int, ∃ x_1122 : Int, ∃ x_1123 : Int, (l_1119, x_1122, x_1123) = s_1116 ∧ ∃ (G_1118 : GH) (it_1120 : Itm), GLe G_394 G_1118 ∧ Fr a 178 [(0, v0), (1, (.int .i64 x1)), (4, (.func (.func 81) #[] #[])), (12, (.int .i64 x_1122)), (13, (.int .i64 x_1123))] ∧ Mem W G_1118 w (it_1120 :: H) ∧ Ow (RI .u32) 59 G_1118 it_1120 v0 l_1119) hl_1113 ⟨_, _, _, rfl, _, it_402, (GLe.refl _), f.weak ⟨rfl, rfl, rfl, rfl, rfl, trivial⟩, m, o_403⟩ ?_
     clear hl_1113 f m
     rintro s_1116 o_1117 hs_1114 hq_1115 a w ⟨l_1119, x_1122, x_1123, rfl, G_1118, it_1120, hl_1124, f, m, o_1121⟩
     refine k_block (k_seq ?_)
     obtain ⟨q_1558, hl_1559, hs_1114⟩ := bind_some hs_1114
     refine k_cut (fun a w => ∃ x_1605 : Int, x_1605 = q_1558 ∧ ∃ (G_1604 : GH), GLe G_1118 G_1604 ∧ Fr a 178 [(0, v0), (1, (.int .i64 x1)), (4, (.func (.func 81) #[] #[])), (12, (.int .i64 x_1605)), (13, (.int .i64 x_1123))] ∧ Mem W G_1604 w (it_1120 :: H)) ?_ ?_
     ·refine k_block ?_
      refine k_loop (fun s_1562 a w => ∃ x_1565 : Int, x_1565 = s_1562 ∧ ∃ (G_1564 : GH), GLe G_1118 G_1564 ∧ Fr a 178 [(0, v0), (1, (.int .i64 x1)), (4, (.func (.func 81) #[] #[])), (12, (.int .i64 x_1565)), (13, (.int .i64 x_1123))] ∧ Mem W G_1564 w (it_1120 :: H)) hl_1559 ⟨_, rfl, _, (GLe.refl _), f.weak ⟨rfl, rfl, rfl, rfl, rfl, trivial⟩, m⟩ ?_
      clear hl_1559 f m
      rintro s_1562 o_1563 hs_1560 hq_1561 a w ⟨x_1565, rfl, G_1564, hl_1566, f, m⟩
      have o_1121 := Ow.mono (RI.mono _) hl_1566 o_1121
      refine k_seq (k_seq ?_)
      refine k_draw 16 Follows (by kernel_rfl) m ?_
      refine q_mv 0 16 rfl (by kernel_rfl) f rfl rfl rfl fun a f => ?_
      refine q_mv 1 16 rfl (by kernel_rfl) f rfl rfl rfl fun a f => ?_
      refine q_p 2 16 rfl (by kernel_rfl) f rfl rfl rfl (fun _ => r_int (f.eval rfl) (f.eval rfl) b_leq) fun a f => ?_
      refine q_mv 3 16 rfl (by kernel_rfl) f rfl rfl rfl fun a f => ?_
      obtain ⟨b_1624, hj_1625, hs_1560⟩ := bind_some hs_1560
      refine q_cut (fuel' := 0) (listed' := #[true, true, true, true, true, true, true, true, true, true, true, true, true, true, true, true]) (fun a => Fr a 178 [(0, v0), (1, (.int .i64 x1)), (4, (.func (.func 81) #[] #[])), (12, (.int .i64 x_1565)), (13, (.int .i64 x_1123)), (105, (.int .i64 x_1565)), (106, (.int .i64 x_1123)), (107, (.bool (decide (x_1565 ≤ x_1123)))), (108, (.bool (decide (x_1565 ≤ x_1123)))), (120, (.bool b_1624))]) ?_ ?_
      ·intro a f
       refine q_end fun G_1641 w hl_1642 m => ?_
       have o_1121 := Ow.mono (RI.mono _) hl_1642 o_1121
       refine l_nil ?_
       rcases cond_some hs_1560 with ⟨hc_1643, hs_1560⟩ | ⟨hc_1643, hs_1560⟩
       ·refine k_true f rfl hc_1643 ?_
        refine k_skip ?_
        refine k_block (k_region ?_)
        refine l_mv f rfl rfl fun a f => ?_
        refine l_in f rfl rfl rfl b_add fun a f => ?_
        refine l_as f rfl rfl fun a f => ?_
        refine l_nil ?_
        obtain rfl := sj hs_1560
        exact ⟨_, rfl, _, rfl, _, (GLe.trans hl_1566 hl_1642), f.weak ⟨rfl, rfl, rfl, rfl, rfl, trivial⟩, m⟩
       ·refine k_false f rfl hc_1643 ?_
        refine k_exit rfl ?_
        obtain rfl := sj hs_1560
        obtain rfl := hq_1561 _ rfl
        exact ⟨_, rfl, _, (GLe.trans hl_1566 hl_1642), f.weak ⟨rfl, rfl, rfl, rfl, rfl, trivial⟩, m⟩
      ·intro K_1623
       rcases cond_some hj_1625 with ⟨hc_1607, hj_1625⟩ | ⟨hc_1607, hj_1625⟩
       ·refine q_mv 4 16 rfl (by kernel_rfl) f (wanted_of f rfl rfl rfl hc_1607) rfl rfl fun a f => ?_
        refine q_mv 5 16 rfl (by kernel_rfl) f (wanted_of f rfl rfl rfl hc_1607) rfl rfl fun a f => ?_
        refine q_mv 6 16 rfl (by kernel_rfl) f (wanted_of f rfl rfl rfl hc_1607) rfl rfl fun a f => ?_
        obtain ⟨e_1626, he_1627, hj_1625⟩ := bind_some hj_1625
        refine q_own_at (i := 7) 16 0 m o_1121 rfl T52 he_1627 rfl (by kernel_rfl) rfl f (wanted_of f rfl rfl rfl hc_1607) rfl rfl rfl fun p_1628 a ha_1629 f => ?_
        refine q_own_load (i := 8) 16 0 o_1121 rfl Pl59 ha_1629 he_1627 rfl (by kernel_rfl) rfl f (wanted_of f rfl rfl rfl hc_1607) rfl rfl fun c_1630 a h_1631 f => ?_
        subst h_1631
        refine q_mv 9 16 rfl (by kernel_rfl) f (wanted_of f rfl rfl rfl hc_1607) rfl rfl fun a f => ?_
        refine q_mv 10 16 rfl (by kernel_rfl) f (wanted_of f rfl rfl rfl hc_1607) rfl rfl fun a f => ?_
        obtain ⟨e_1632, he_1633, hj_1625⟩ := bind_some hj_1625
        refine q_own_at (i := 11) 16 0 m o_1121 rfl T52 he_1633 rfl (by kernel_rfl) rfl f (wanted_of f rfl rfl rfl hc_1607) rfl rfl rfl fun p_1634 a ha_1635 f => ?_
        refine q_own_load (i := 12) 16 0 o_1121 rfl Pl59 ha_1635 he_1633 rfl (by kernel_rfl) rfl f (wanted_of f rfl rfl rfl hc_1607) rfl rfl fun c_1636 a h_1637 f => ?_
        subst h_1637
        obtain ⟨y_1638, hy_1639, hj_1625⟩ := bind_some hj_1625
        refine q_callv (i := 13) 16 rfl (by kernel_rfl) rfl f (wanted_of f rfl rfl rfl hc_1607) rfl rfl rfl Tryd.call81 (fun _ _ w hG_1640 m => Wk.impl_compareSets hW m  hy_1639) fun a f => ?_
        refine q_p 14 16 rfl (by kernel_rfl) f (wanted_of f rfl rfl rfl hc_1607) rfl rfl (fun _ => r_int (f.eval rfl) (f.eval rfl) b_lss) fun a f => ?_
        refine q_p 15 16 rfl (by kernel_rfl) f rfl rfl rfl (fun _ => r_pickT (f.eval rfl) hc_1607 (f.eval rfl)) fun a f => ?_
        obtain rfl := sj hj_1625
        exact K_1623 _ (f.weak ⟨rfl, rfl, rfl, rfl, rfl, rfl, rfl, rfl, rfl, rfl, trivial⟩)
       ·refine q_ng 4 16 rfl (by kernel_rfl) f rfl rfl hc_1607 rfl fun a f => ?_
        refine q_ng 5 16 rfl (by kernel_rfl) f rfl rfl hc_1607 rfl fun a f => ?_
        refine q_ng 6 16 rfl (by kernel_rfl) f rfl rfl hc_1607 rfl fun a f => ?_
        refine q_ng 7 16 rfl (by kernel_rfl) f rfl rfl hc_1607 rfl fun a f => ?_
        refine q_ng 8 16 rfl (by kernel_rfl) f rfl rfl hc_1607 rfl fun a f => ?_
        refine q_ng 9 16 rfl (by kernel_rfl) f rfl rfl hc_1607 rfl fun a f => ?_
        refine q_ng 10 16 rfl (by kernel_rfl) f rfl rfl hc_1607 rfl fun a f => ?_
        refine q_ng 11 16 rfl (by kernel_rfl) f rfl rfl hc_1607 rfl fun a f => ?_
        refine q_ng 12 16 rfl (by kernel_rfl) f rfl rfl hc_1607 rfl fun a f => ?_
        refine q_ng 13 16 rfl (by kernel_rfl) f rfl rfl hc_1607 rfl fun a f => ?_
        refine q_ng 14 16 rfl (by kernel_rfl) f rfl rfl hc_1607 rfl fun a f => ?_
        refine q_p 15 16 rfl (by kernel_rfl) f rfl rfl rfl (fun _ => r_pickF (f.eval rfl) hc_1607 (f.eval rfl)) fun a f => ?_
        obtain rfl := sj hj_1625
        exact K_1623 _ (f.weak ⟨rfl, rfl, rfl, rfl, rfl, rfl, rfl, rfl, rfl, rfl, trivial⟩)
     ·rintro a w ⟨x_1605, rfl, G_1604, hl_1606, f, m⟩
      have o_1121 := Ow.mono (RI.mono _) hl_1606 o_1121
      refine k_seq ?_
      obtain ⟨q_1720, hl_1721, hs_1114⟩ := bind_some hs_1114
      refine k_cut (fun a w => ∃ x_1767 : Int, x_1767 = q_1720 ∧ ∃ (G_1766 : GH), GLe G_1604 G_1766 ∧ Fr a 178 [(0, v0), (1, (.int .i64 x1)), (4, (.func (.func 81) #[] #[])), (12, (.int .i64 x_1605)), (13, (.int .i64 x_1767))] ∧ Mem W G_1766 w (it_1120 :: H)) ?_ ?_
      ·refine k_block ?_
       refine k_loop (fun s_1724 a w => ∃ x_1727 : Int, x_1727 = s_1724 ∧ ∃ (G_1726 : GH), GLe G_1604 G_1726 ∧ Fr a 178 [(0, v0), (1, (.int .i64 x1)), (4, (.func (.func 81) #[] #[])), (12, (.int .i64 x_1605)), (13, (.int .i64 x_1727))] ∧ Mem W G_1726 w (it_1120 :: H)) hl_1721 ⟨_, rfl, _, (GLe.refl _), f.weak ⟨rfl, rfl, rfl, rfl, rfl, trivial⟩, m⟩ ?_
       clear hl_1721 f m
       rintro s_1724 o_1725 hs_1722 hq_1723 a w ⟨x_1727, rfl, G_1726, hl_1728, f, m⟩
       have o_1121 := Ow.mono (RI.mono _) hl_1728 o_1121
       refine k_seq (k_seq ?_)
       refine k_draw 17 Follows (by kernel_rfl) m ?_
       refine q_mv 0 17 rfl (by kernel_rfl) f rfl rfl rfl fun a f => ?_
       refine q_mv 1 17 rfl (by kernel_rfl) f rfl rfl rfl fun a f => ?_
       refine q_p 2 17 rfl (by kernel_rfl) f rfl rfl rfl (fun _ => r_int (f.eval rfl) (f.eval rfl) b_leq) fun a f => ?_
       refine q_mv 3 17 rfl (by kernel_rfl) f rfl rfl rfl fun a f => ?_
       obtain ⟨b_1786, hj_1787, hs_1722⟩ := bind_some hs_1722
       refine q_cut (fuel' := 0) (listed' := #[true, true, true, true, true, true, true, true, true, true, true, true, true, true, true, true, true]) (fun a => Fr a 178 [(0, v0), (1, (.int .i64 x1)), (4, (.func (.func 81) #[] #[])), (12, (.int .i64 x_1605)), (13, (.int .i64 x_1727)), (123, (.int .i64 x_1605)), (124, (.int .i64 x_1727)), (125, (.bool (decide (x_1605 ≤ x_1727)))), (126, (.bool (decide (x_1605 ≤ x_1727)))), (139, (.bool b_1786))]) ?_ ?_
       ·intro a f
        refine q_end fun G_1803 w hl_1804 m => ?_
        have o_1121 := Ow.mono (RI.mono _) hl_1804 o_1121
        refine l_nil ?_
        rcases cond_some hs_1722 with ⟨hc_1805, hs_1722⟩ | ⟨hc_1805, hs_1722⟩
        ·refine k_true f rfl hc_1805 ?_
         refine k_skip ?_
         refine k_block (k_region ?_)
         refine l_mv f rfl rfl fun a f => ?_
         refine l_in f rfl rfl rfl b_sub fun a f => ?_
         refine l_as f rfl rfl fun a f => ?_
         refine l_nil ?_
         obtain rfl := sj hs_1722
         exact ⟨_, rfl, _, rfl, _, (GLe.trans hl_1728 hl_1804), f.weak ⟨rfl, rfl, rfl, rfl, rfl, trivial⟩, m⟩
        ·refine k_false f rfl hc_1805 ?_
         refine k_exit rfl ?_
         obtain rfl := sj hs_1722
         obtain rfl := hq_1723 _ rfl
         exact ⟨_, rfl, _, (GLe.trans hl_1728 hl_1804), f.weak ⟨rfl, rfl, rfl, rfl, rfl, trivial⟩, m⟩
       ·intro K_1785
        rcases cond_some hj_1787 with ⟨hc_1769, hj_1787⟩ | ⟨hc_1769, hj_1787⟩
        ·refine q_mv 4 17 rfl (by kernel_rfl) f (wanted_of f rfl rfl rfl hc_1769) rfl rfl fun a f => ?_
         refine q_mv 5 17 rfl (by kernel_rfl) f (wanted_of f rfl rfl rfl hc_1769) rfl rfl fun a f => ?_
         refine q_mv 6 17 rfl (by kernel_rfl) f (wanted_of f rfl rfl rfl hc_1769) rfl rfl fun a f => ?_
         obtain ⟨e_1788, he_1789, hj_1787⟩ := bind_some hj_1787
         refine q_own_at (i := 7) 17 0 m o_1121 rfl T52 he_1789 rfl (by kernel_rfl) rfl f (wanted_of f rfl rfl rfl hc_1769) rfl rfl rfl fun p_1790 a ha_1791 f => ?_
         refine q_own_load (i := 8) 17 0 o_1121 rfl Pl59 ha_1791 he_1789 rfl (by kernel_rfl) rfl f (wanted_of f rfl rfl rfl hc_1769) rfl rfl fun c_1792 a h_1793 f => ?_
         subst h_1793
         refine q_mv 9 17 rfl (by kernel_rfl) f (wanted_of f rfl rfl rfl hc_1769) rfl rfl fun a f => ?_
         refine q_mv 10 17 rfl (by kernel_rfl) f (wanted_of f rfl rfl rfl hc_1769) rfl rfl fun a f => ?_
         obtain ⟨e_1794, he_1795, hj_1787⟩ := bind_some hj_1787
         refine q_own_at (i := 11) 17 0 m o_1121 rfl T52 he_1795 rfl (by kernel_rfl) rfl f (wanted_of f rfl rfl rfl hc_1769) rfl rfl rfl fun p_1796 a ha_1797 f => ?_
         refine q_own_load (i := 12) 17 0 o_1121 rfl Pl59 ha_1797 he_1795 rfl (by kernel_rfl) rfl f (wanted_of f rfl rfl rfl hc_1769) rfl rfl fun c_1798 a h_1799 f => ?_
         subst h_1799
         obtain ⟨y_1800, hy_1801, hj_1787⟩ := bind_some hj_1787
         refine q_callv (i := 13) 17 rfl (by kernel_rfl) rfl f (wanted_of f rfl rfl rfl hc_1769) rfl rfl rfl Tryd.call81 (fun _ _ w hG_1802 m => Wk.impl_compareSets hW m  hy_1801) fun a f => ?_
         refine q_p 14 17 rfl (by kernel_rfl) f (wanted_of f rfl rfl rfl hc_1769) rfl rfl (fun _ => r_int (f.eval rfl) (f.eval rfl) b_lss) fun a f => ?_
         refine q_p 15 17 rfl (by kernel_rfl) f (wanted_of f rfl rfl rfl hc_1769) rfl rfl (fun _ => r_not (f.eval rfl)) fun a f => ?_
         refine q_p 16 17 rfl (by kernel_rfl) f rfl rfl rfl (fun _ => r_pickT (f.eval rfl) hc_1769 (f.eval rfl)) fun a f => ?_
         obtain rfl := sj hj_1787
         exact K_1785 _ (f.weak ⟨rfl, rfl, rfl, rfl, rfl, rfl, rfl, rfl, rfl, rfl, trivial⟩)
        ·refine q_ng 4 17 rfl (by kernel_rfl) f rfl rfl hc_1769 rfl fun a f => ?_
         refine q_ng 5 17 rfl (by kernel_rfl) f rfl rfl hc_1769 rfl fun a f => ?_
         refine q_ng 6 17 rfl (by kernel_rfl) f rfl rfl hc_1769 rfl fun a f => ?_
         refine q_ng 7 17 rfl (by kernel_rfl) f rfl rfl hc_1769 rfl fun a f => ?_
         refine q_ng 8 17 rfl (by kernel_rfl) f rfl rfl hc_1769 rfl fun a f => ?_
         refine q_ng 9 17 rfl (by kernel_rfl) f rfl rfl hc_1769 rfl fun a f => ?_
         refine q_ng 10 17 rfl (by kernel_rfl) f rfl rfl hc_1769 rfl fun a f => ?_
         refine q_ng 11 17 rfl (by kernel_rfl) f rfl rfl hc_1769 rfl fun a f => ?_
         refine q_ng 12 17 rfl (by kernel_rfl) f rfl rfl hc_1769 rfl fun a f => ?_
         refine q_ng 13 17 rfl (by kernel_rfl) f rfl rfl hc_1769 rfl fun a f => ?_
         refine q_ng 14 17 rfl (by kernel_rfl) f rfl rfl hc_1769 rfl fun a f => ?_
         refine q_ng 15 17 rfl (by kernel_rfl) f rfl rfl hc_1769 rfl fun a f => ?_
         refine q_p 16 17 rfl (by kernel_rfl) f rfl rfl rfl (fun _ => r_pickF (f.eval rfl) hc_1769 (f.eval rfl)) fun a f => ?_
         obtain rfl := sj hj_1787
         exact K_1785 _ (f.weak ⟨rfl, rfl, rfl, rfl, rfl, rfl, rfl, rfl, rfl, rfl, trivial⟩)
      ·rintro a w ⟨x_1767, rfl, G_1766, hl_1768, f, m⟩
       have o_1121 := Ow.mono (RI.mono _) hl_1768 o_1121
       refine k_seq (k_seq (k_region ?_))
       refine l_mv f rfl rfl fun a f => ?_
       refine l_mv f rfl rfl fun a f => ?_
       refine l_in f rfl rfl rfl b_gtr fun a f => ?_
       refine l_nil ?_
       rcases cond_some hs_1114 with ⟨hc_1806, hs_1114⟩ | ⟨hc_1806, hs_1114⟩
       ·refine k_true f rfl hc_1806 ?_
        refine k_exit rfl ?_
        obtain rfl := sj hs_1114
        obtain rfl := hq_1115 _ rfl
        exact ⟨_, _, rfl, _, it_1120, (GLe.trans hl_1124 (GLe.trans hl_1606 hl_1768)), f.weak ⟨rfl, rfl, rfl, trivial⟩, m, o_1121⟩
       ·refine k_false f rfl hc_1806 ?_
        refine k_skip ?_
        refine k_seq ?_
        refine k_draw0 Follows m ?_
        refine p_p 2 rfl (by kernel_rfl) f rfl rfl rfl (fun _ => r_move (f.eval rfl)) fun a f => ?_
        refine p_p 3 rfl (by kernel_rfl) f rfl rfl rfl (fun _ => r_move (f.eval rfl)) fun a f => ?_
        refine k_draw1 12013 11 (by kernel_rfl) rfl ?_
        refine q_mv 0 12013 rfl (by kernel_rfl) f rfl rfl rfl fun a f => ?_
        refine q_mv 1 12013 rfl (by kernel_rfl) f rfl rfl rfl fun a f => ?_
        refine q_mv 4 12013 rfl (by kernel_rfl) f rfl rfl rfl fun a f => ?_
        refine q_mv 5 12013 rfl (by kernel_rfl) f rfl rfl rfl fun a f => ?_
        obtain ⟨e_1807, he_1808, hs_1114⟩ := bind_some hs_1114
        refine q_own_at (i := 6) 12013 0 m o_1121 rfl T52 he_1808 rfl (by kernel_rfl) rfl f rfl rfl rfl rfl fun p_1809 a ha_1810 f => ?_
        refine q_own_load (i := 7) 12013 0 o_1121 rfl Pl59 ha_1810 he_1808 rfl (by kernel_rfl) rfl f rfl rfl rfl fun c_1811 a h_1812 f => ?_
        subst h_1812
        refine q_mv 8 12013 rfl (by kernel_rfl) f rfl rfl rfl fun a f => ?_
        refine q_mv 9 12013 rfl (by kernel_rfl) f rfl rfl rfl fun a f => ?_
        obtain ⟨e_1813, he_1814, hs_1114⟩ := bind_some hs_1114
        refine q_own_at (i := 10) 12013 0 m o_1121 rfl T52 he_1814 rfl (by kernel_rfl) rfl f rfl rfl rfl rfl fun p_1815 a ha_1816 f => ?_
        refine q_own_load (i := 11) 12013 0 o_1121 rfl Pl59 ha_1816 he_1814 rfl (by kernel_rfl) rfl f rfl rfl rfl fun c_1817 a h_1818 f => ?_
        subst h_1818
        obtain ⟨e_1819, he_1820, hs_1114⟩ := bind_some hs_1114
        refine q_own_at (i := 12) 12013 0 m o_1121 rfl T52 he_1820 rfl (by kernel_rfl) rfl f rfl rfl rfl rfl fun p_1821 a ha_1822 f => ?_
        refine q_end fun G_1823 w hl_1824 m => ?_
        have o_1121 := Ow.mono (RI.mono _) hl_1824 o_1121
        refine l_own_store 0 m o_1121 rfl Tryd.sizeOf59 f rfl rfl ha_1822 he_1820 rfl rfl rfl fun it_1825 w m o_1826 => ?_
        obtain ⟨e_1827, he_1828, hs_1114⟩ := bind_some hs_1114
        refine l_own_at 0 m o_1826 rfl T52 f rfl rfl rfl he_1828 fun p_1829 a ha_1830 f => ?_
        refine l_own_store 0 m o_1826 rfl Tryd.sizeOf59 f rfl rfl ha_1830 he_1828 rfl rfl rfl fun it_1831 w m o_1832 => ?_
        refine l_nil (k_seq (k_region ?_))
        refine l_mv f rfl rfl fun a f => ?_
        refine l_in f rfl rfl rfl b_add fun a f => ?_
        refine l_as f rfl rfl fun a f => ?_
        refine l_nil (k_region ?_)
        refine l_mv f rfl rfl fun a f => ?_
        refine l_in f rfl rfl rfl b_sub fun a f => ?_
        refine l_as f rfl rfl fun a f => ?_
        refine l_nil ?_
        obtain rfl := sj hs_1114
        exact ⟨_, rfl, _, _, _, rfl, _, it_1831, (GLe.trans hl_1124 (GLe.trans hl_1606 (GLe.trans hl_1768 hl_1824))), f.weak ⟨rfl, rfl, rfl, rfl, rfl, trivial⟩, m, o_1832⟩
    ·rintro a w ⟨l_1477, x_1480, rfl, G_1476, it_1478, hl_1481, f, m, o_1479⟩
     refine k_seq ?_
     refine k_draw0 Follows m ?_
     refine p_p 2 rfl (by kernel_rfl) f rfl rfl rfl (fun _ => r_move (f.eval rfl)) fun a f => ?_
     refine p_p 3 rfl (by kernel_rfl) f rfl rfl rfl (fun _ => r_move (f.eval rfl)) fun a f => ?_
     refine k_draw1 12013 11 (by kernel_rfl) rfl ?_
     refine q_mv 0 12013 rfl (by kernel_rfl) f rfl rfl rfl fun a f => ?_
     refine q_mv 1 12013 rfl (by kernel_rfl) f rfl rfl rfl fun a f => ?_
     refine q_mv 4 12013 rfl (by kernel_rfl) f rfl rfl rfl fun a f => ?_
     refine q_mv 5 12013 rfl (by kernel_rfl) f rfl rfl rfl fun a f => ?_
     obtain ⟨e_1833, he_1834, hd⟩ := bind_some hd
     refine q_own_at (i := 6) 12013 0 m o_1479 rfl T52 he_1834 rfl (by kernel_rfl) rfl f rfl rfl rfl rfl fun p_1835 a ha_1836 f => ?_
     refine q_own_load (i := 7) 12013 0 o_1479 rfl Pl59 ha_1836 he_1834 rfl (by kernel_rfl) rfl f rfl rfl rfl fun c_1837 a h_1838 f => ?_
     subst h_1838
     refine q_mv 8 12013 rfl (by kernel_rfl) f rfl rfl rfl fun a f => ?_
     refine q_mv 9 12013 rfl (by kernel_rfl) f rfl rfl rfl fun a f => ?_
     obtain ⟨e_1839, he_1840, hd⟩ := bind_some hd
     refine q_own_at (i := 10) 12013 0 m o_1479 rfl T52 he_1840 rfl (by kernel_rfl) rfl f rfl rfl rfl rfl fun p_1841 a ha_1842 f => ?_
     refine q_own_load (i := 11) 12013 0 o_1479 rfl Pl59 ha_1842 he_1840 rfl (by kernel_rfl) rfl f rfl rfl rfl fun c_1843 a h_1844 f => ?_
     subst h_1844
     obtain ⟨e_1845, he_1846, hd⟩ := bind_some hd
     refine q_own_at (i := 12) 12013 0 m o_1479 rfl T52 he_1846 rfl (by kernel_rfl) rfl f rfl rfl rfl rfl fun p_1847 a ha_1848 f => ?_
     refine q_end fun G_1849 w hl_1850 m => ?_
     have o_1479 := Ow.mono (RI.mono _) hl_1850 o_1479
     refine l_own_store 0 m o_1479 rfl Tryd.sizeOf59 f rfl rfl ha_1848 he_1846 rfl rfl rfl fun it_1851 w m o_1852 => ?_
     obtain ⟨e_1853, he_1854, hd⟩ := bind_some hd
     refine l_own_at 0 m o_1852 rfl T52 f rfl rfl rfl he_1854 fun p_1855 a ha_1856 f => ?_
     refine l_own_store 0 m o_1852 rfl Tryd.sizeOf59 f rfl rfl ha_1856 he_1854 rfl rfl rfl fun it_1857 w m o_1858 => ?_
     refine l_nil (k_seq (k_region ?_))
     refine l_mv f rfl rfl fun a f => ?_
     refine l_as f rfl rfl fun a f => ?_
     refine l_as f rfl rfl fun a f => ?_
     refine l_nil ?_
     refine k_ret ?_
     obtain rfl := sj hd
     exact ⟨[(.int .i64 x_1480), (.bool false)], ⟨f.get _ _ rfl, f.get _ _ rfl, trivial⟩, f.defers, _, [it_1857], (GLe.trans hl_18 (GLe.trans hl_151 (GLe.trans hl_313 (GLe.trans hl_395 (GLe.trans hl_1481 hl_1850))))), m, _, rfl, rfl, o_1858⟩

theorem Wk.slices_pdqsortCmpFunc_impl_vset__impl_compareSetsR {W : World} (hW : TabW W) (n : Nat) : ∀ {w : World} {G : GH} {H : List Itm} {v0 : Value} {it0 : Itm} {x0 : (List Int)} {x1 : Int} {x2 : Int} {x3 : Int} (m : Mem W G w (it0 :: H)) (o0 : Ow (RI .u32) 59 G it0 v0 x0) {y : ((List Int))} (hd : D.slices_pdqsortCmpFunc_impl_vset__impl_compareSetsR n x0 x1 x2 x3 = some y),
  Calls Tryd.prog 83 #[v0, (.int .i64 x1), (.int .i64 x2), (.int .i64 x3), (.func (.func 81) #[] #[])] w (Res W G H (fun G' Ho _ => ∃ i0 : Itm, Ho = [i0] ∧ Ow (RI .u32) 59 G' i0 v0 y)) := by
 induction n with
 | zero => intros; rename_i hd; simp [D.slices_pdqsortCmpFunc_impl_vset__impl_compareSetsR] at hd
 | succ fuel ih =>
  intro w G H v0 it0 x0 x1 x2 x3 m o0 y hd
  refine calls_b (args := [v0, (.int .i64 x1), (.int .i64 x2), (.int .i64 x3), (.func (.func 81) #[] #[])]) (N := 148) [] Tryd.func83 rfl rfl (Nat.le_of_ble_eq_true rfl) rfl fun a f => ?_
  unfold D.slices_pdqsortCmpFunc_impl_vset__impl_compareSetsR at hd
  refine k_seq (k_region ?_)
  refine l_as f rfl rfl fun a f => ?_
  refine l_nil (k_seq (k_region ?_))
  refine l_as f rfl rfl fun a f => ?_
  refine l_nil ?_
  obtain ⟨q_394, hl_395, hd⟩ := bind_some hd
  refine k_block ?_
  refine k_loop (fun s_398 a w => ∃ l_401 : List Int, ∃ x_404 : Int, ∃ x_405 : Int, ∃ x_406 : Int, ∃ b_407 : Bool, ∃ b_408 : Bool, (l_401, x_404, x_405, x_406, b_407, b_408) = s_398 ∧ ∃ (G_400 : GH) (it_402 : Itm), GLe G G_400 ∧ Fr a 148 [(0, v0), (1, (.int .i64 x_404)), (2, (.int .i64 x_405)), (3, (.int .i64 x_406)), (4, (.func (.func 81) #[] #[])), (10, (.bool b_407)), (11, (.bool b_408))] ∧ Mem W G_400 w (it_402 :: H) ∧ Ow (RI .u32) 59 G_400 it_402 v0 l_401) hl_395 ⟨_, _, _, _, _, _, rfl, _, it0, (GLe.refl _), f.weak ⟨rfl, rfl, rfl, rfl, rfl, rfl, rfl, trivial⟩, m, o0⟩ ?_
  clear hl_395 f m
  rintro s_398 o_399 hs_396 hq_397 a w ⟨l_401, x_404, x_405, x_406, b_407, b_408, rfl, G_400, it_402, hl_409, f, m, o_403⟩
  refine k_block (k_seq (k_region ?_))
  refine l_mv f rfl rfl fun a f => ?_
  refine l_mv f rfl rfl fun a f => ?_
  refine l_in f rfl rfl rfl b_sub fun a f => ?_
  refine l_as f rfl rfl fun a f => ?_
  refine l_nil (k_seq (k_seq (k_region ?_)))
  refine l_mv f rfl rfl fun a f => ?_
  refine l_in f rfl rfl rfl b_leq fun a f => ?_
  refine l_nil ?_
  rcases cond_some hs_396 with ⟨hc_410, hs_396⟩ | ⟨hc_410, hs_396⟩
  ·refine k_true f rfl hc_410 ?_
   refine k_seq (k_region ?_)
   refine l_mv f rfl rfl fun a f => ?_
   refine l_mv f rfl rfl fun a f => ?_
   refine l_mv f rfl rfl fun a f => ?_
   refine l_mv f rfl rfl fun a f => ?_
   obtain ⟨y_411, hy_412, hs_396⟩ := bind_some hs_396
   refine l_res f rfl rfl Tryd.call109 (Wk.slices_insertionSortCmpFunc_impl_vset__impl_compareSets hW m o_403 hy_412) fun v_416 G_413 Ho_417 w hl_414 m hQ_415 a f => ?_
   obtain ⟨it_418, rfl, o_419⟩ := hQ_415
   refine l_nil ?_
   refine k_ret ?_
   obtain rfl := sj hs_396
   obtain rfl := hq_397 _ rfl
   obtain rfl := sj hd
   exact ⟨[], trivial, f.defers, _, [it_418], (GLe.trans hl_409 hl_414), m, _, rfl, o_419⟩
  ·refine k_false f rfl hc_410 ?_
   refine k_skip ?_
   refine k_seq (k_seq (k_region ?_))
   refine l_mv f rfl rfl fun a f => ?_
   refine l_in f rfl rfl rfl b_eql fun a f => ?_
   refine l_nil ?_
   rcases cond_some hs_396 with ⟨hc_420, hs_396⟩ | ⟨hc_420, hs_396⟩
   ·refine k_true f rfl hc_420 ?_
    refine k_seq (k_region ?_)
    refine l_mv f rfl rfl fun a f => ?_
    refine l_mv f rfl rfl fun a f => ?_
    refine l_mv f rfl rfl fun a f => ?_
    refine l_mv f rfl rfl fun a f => ?_
    obtain ⟨y_421, hy_422, hs_396⟩ := bind_some hs_396
    refine l_res f rfl rfl Tryd.call110 (Wk.slices_heapSortCmpFunc_impl_vset__impl_compareSets hW m o_403 hy_422) fun v_426 G_423 Ho_427 w hl_424 m hQ_425 a f => ?_
    obtain ⟨it_428, rfl, o_429⟩ := hQ_425
    refine l_nil ?_
    refine k_ret ?_
    obtain rfl := sj hs_396
    obtain rfl := hq_397 _ rfl
    obtain rfl := sj hd
    exact ⟨[], trivial, f.defers, _, [it_428], (GLe.trans hl_409 hl_424), m, _, rfl, o_429⟩
   ·refine k_false f rfl hc_420 ?_
    refine k_skip ?_
    refine k_seq (k_seq (k_region ?_))
    refine l_mv f rfl rfl fun a f => ?_
    refine l_op f rfl rfl rfl (r_not (f.eval rfl)) fun a f => ?_
    refine l_nil ?_
    obtain ⟨j_440, hj_441, hs_396⟩ := bind_some hs_396
    refine k_cut (fun a w => ∃ l_443 : List Int, ∃ x_446 : Int, (l_443, x_446) = j_440 ∧ ∃ (G_442 : GH) (it_444 : Itm), GLe G_400 G_442 ∧ Fr a 148 [(0, v0), (1, (.int .i64 x_404)), (2, (.int .i64 x_405)), (3, (.int .i64 x_446)), (4, (.func (.func 81) #[] #[])), (10, (.bool b_407)), (11, (.bool b_408)), (12, (.int .i64 (IntKind.i64.wrap (x_405 - x_404))))] ∧ Mem W G_442 w (it_444 :: H) ∧ Ow (RI .u32) 59 G_442 it_444 v0 l_443) ?_ ?_
    ·rcases cond_some hj_441 with ⟨hc_448, hj_441⟩ | ⟨hc_448, hj_441⟩
     ·refine k_true f rfl hc_448 ?_
      refine k_seq (k_region ?_)
      refine l_mv f rfl rfl fun a f => ?_
      refine l_mv f rfl rfl fun a f => ?_
      refine l_mv f rfl rfl fun a f => ?_
      refine l_mv f rfl rfl fun a f => ?_
      obtain ⟨y_449, hy_450, hj_441⟩ := bind_some hj_441
      refine l_res f rfl rfl Tryd.call111 (Wk.slices_breakPatternsCmpFunc_impl_vset__impl_compareSets m o_403 hy_450) fun v_454 G_451 Ho_455 w hl_452 m hQ_453 a f => ?_
      obtain ⟨it_456, rfl, o_457⟩ := hQ_453
      refine l_nil (k_region ?_)
      refine l_mv f rfl rfl fun a f => ?_
      refine l_in f rfl rfl rfl b_sub fun a f => ?_
      refine l_as f rfl rfl fun a f => ?_
      refine l_nil ?_
      obtain rfl := sj hj_441
      exact ⟨_, _, rfl, _, it_456, hl_452, f.weak ⟨rfl, rfl, rfl, rfl, rfl, rfl, rfl, rfl, trivial⟩, m, o_457⟩
     ·refine k_false f rfl hc_448 ?_
      refine k_skip ?_
      obtain rfl := sj hj_441
      exact ⟨_, _, rfl, _, it_402, (GLe.refl _), f.weak ⟨rfl, rfl, rfl, rfl, rfl, rfl, rfl, rfl, trivial⟩, m, o_403⟩
    ·rintro a w ⟨l_443, x_446, rfl, G_442, it_444, hl_447, f, m, o_445⟩
     refine k_seq (k_region ?_)
     refine l_mv f rfl rfl fun a f => ?_
     refine l_mv f rfl rfl fun a f => ?_
     refine l_mv f rfl rfl fun a f => ?_
     refine l_mv f rfl rfl fun a f => ?_
     obtain ⟨y_458, hy_459, hs_396⟩ := bind_some hs_396
     refine l_res f rfl rfl Tryd.call112 (Wk.slices_choosePivotCmpFunc_impl_vset__impl_compareSets hW m o_445 hy_459) fun v_463 G_460 Ho_464 w hl_461 m hQ_462 a f => ?_
     obtain ⟨it_465, rfl, rfl, o_466⟩ := hQ_462
     refine l_mv f rfl rfl fun a f => ?_
     refine l_op f rfl rfl rfl (r_extract (f.eval rfl) rfl) fun a f => ?_
     refine l_op f rfl rfl rfl (r_extract (f.eval rfl) rfl) fun a f => ?_
     refine l_as f rfl rfl fun a f => ?_
     refine l_as f rfl rfl fun a f => ?_
     refine l_nil (k_seq (k_seq (k_region ?_)))
     refine l_mv f rfl rfl fun a f => ?_
     refine l_in f rfl rfl rfl b_eql fun a f => ?_
     refine l_nil ?_
     obtain ⟨j_477, hj_478, hs_396⟩ := bind_some hs_396
     refine k_cut (fun a w => ∃ l_480 : List Int, ∃ x_483 : Int, ∃ x_484 : Int, (l_480, x_483, x_484) = j_477 ∧ ∃ (G_479 : GH) (it_481 : Itm), GLe G_460 G_479 ∧ Fr a 148 [(0, v0), (1, (.int .i64 x_404)), (2, (.int .i64 x_405)), (3, (.int .i64 x_446)), (4, (.func (.func 81) #[] #[])), (10, (.bool b_407)), (11, (.bool b_408)), (12, (.int .i64 (IntKind.i64.wrap (x_405 - x_404)))), (13, (.int .i64 x_483)), (14, (.int .i64 x_484))] ∧ Mem W G_479 w (it_481 :: H) ∧ Ow (RI .u32) 59 G_479 it_481 v0 l_480) ?_ ?_
     ·rcases cond_some hj_478 with ⟨hc_486, hj_478⟩ | ⟨hc_486, hj_478⟩
      ·refine k_true f rfl hc_486 ?_
       refine k_seq (k_region ?_)
       refine l_mv f rfl rfl fun a f => ?_
       refine l_mv f rfl rfl fun a f => ?_
       refine l_mv f rfl rfl fun a f => ?_
       refine l_mv f rfl rfl fun a f => ?_
       obtain ⟨y_487, hy_488, hj_478⟩ := bind_some hj_478
       refine l_res f rfl rfl Tryd.call113 (Wk.slices_reverseRangeCmpFunc_impl_vset__impl_compareSets m o_466 hy_488) fun v_492 G_489 Ho_493 w hl_490 m hQ_491 a f => ?_
       obtain ⟨it_494, rfl, o_495⟩ := hQ_491
       refine l_nil (k_seq (k_region ?_))
       refine l_mv f rfl rfl fun a f => ?_
       refine l_in f rfl rfl rfl b_sub fun a f => ?_
       refine l_mv f rfl rfl fun a f => ?_
       refine l_mv f rfl rfl fun a f => ?_
       refine l_in f rfl rfl rfl b_sub fun a f => ?_
       refine l_in f rfl rfl rfl b_sub fun a f => ?_
       refine l_as f rfl rfl fun a f => ?_
       refine l_nil (k_region ?_)
       refine l_as f rfl rfl fun a f => ?_
       refine l_nil ?_
       obtain rfl := sj hj_478
       exact ⟨_, _, _, rfl, _, it_494, hl_490, f.weak ⟨rfl, rfl, rfl, rfl, rfl, rfl, rfl, rfl, rfl, rfl, trivial⟩, m, o_495⟩
      ·refine k_false f rfl hc_486 ?_
       refine k_skip ?_
       obtain rfl := sj hj_478
       exact ⟨_, _, _, rfl, _, it_465, (GLe.refl _), f.weak ⟨rfl, rfl, rfl, rfl, rfl, rfl, rfl, rfl, rfl, rfl, trivial⟩, m, o_466⟩
     ·rintro a w ⟨l_480, x_483, x_484, rfl, G_479, it_481, hl_485, f, m, o_482⟩
      refine k_seq (k_seq (k_region ?_))
      refine l_mv f rfl rfl fun a f => ?_
      refine l_mv f rfl rfl fun a f => ?_
      refine l_cut 2 (fun a w => ∃ G_497, GLe G_479 G_497 ∧ Mem W G_497 w (it_481 :: H) ∧ Fr a 148 [(0, v0), (1, (.int .i64 x_404)), (2, (.int .i64 x_405)), (3, (.int .i64 x_446)), (4, (.func (.func 81) #[] #[])), (10, (.bool b_407)), (11, (.bool b_408)), (12, (.int .i64 (IntKind.i64.wrap (x_405 - x_404)))), (13, (.int .i64 x_483)), (14, (.int .i64 x_484)), (68, (.bool b_407)), (69, (.bool b_407)), (71, (.bool (b_407 && b_408)))]) ?_ ?_
      ·rcases Bool.eq_false_or_eq_true b_407 with hc_496 | hc_496
       ·refine l_run f rfl rfl hc_496 ?_
        refine l_mv f rfl rfl fun a f => ?_
        refine l_op f rfl rfl rfl (r_pickT (f.eval rfl) hc_496 (f.eval rfl)) fun a f => ?_
        exact ⟨_, (GLe.refl _), m, f.weak ⟨rfl, rfl, rfl, rfl, rfl, rfl, rfl, rfl, rfl, rfl, rfl, rfl, by rw [hc_496]; rfl, trivial⟩⟩
       ·refine l_not' f rfl rfl rfl hc_496 fun a f => ?_
        refine l_op f rfl rfl rfl (r_pickF (f.eval rfl) hc_496 (f.eval rfl)) fun a f => ?_
        exact ⟨_, (GLe.refl _), m, f.weak ⟨rfl, rfl, rfl, rfl, rfl, rfl, rfl, rfl, rfl, rfl, rfl, rfl, by rw [hc_496]; rfl, trivial⟩⟩
      ·rintro a w ⟨G_497, hl_498, m, f⟩
       have o_482 := Ow.mono (RI.mono _) hl_498 o_482
       refine l_mv f rfl rfl fun a f => ?_
       refine l_cut 3 (fun a w => ∃ G_500, GLe G_497 G_500 ∧ Mem W G_500 w (it_481 :: H) ∧ Fr a 148 [(0, v0), (1, (.int .i64 x_404)), (2, (.int .i64 x_405)), (3, (.int .i64 x_446)), (4, (.func (.func 81) #[] #[])), (10, (.bool b_407)), (11, (.bool b_408)), (12, (.int .i64 (IntKind.i64.wrap (x_405 - x_404)))), (13, (.int .i64 x_483)), (14, (.int .i64 x_484)), (68, (.bool b_407)), (69, (.bool b_407)), (71, (.bool (b_407 && b_408))), (72, (.bool (b_407 && b_408))), (75, (.bool ((b_407 && b_408) && (x_484 == 1))))]) ?_ ?_
       ·rcases Bool.eq_false_or_eq_true (b_407 && b_408) with hc_499 | hc_499
        ·refine l_run f rfl rfl hc_499 ?_
         refine l_mv f rfl rfl fun a f => ?_
         refine l_run f rfl rfl hc_499 ?_
         refine l_in f rfl rfl rfl b_eql fun a f => ?_
         refine l_op f rfl rfl rfl (r_pickT (f.eval rfl) hc_499 (f.eval rfl)) fun a f => ?_
         exact ⟨_, (GLe.refl _), m, f.weak ⟨rfl, rfl, rfl, rfl, rfl, rfl, rfl, rfl, rfl, rfl, rfl, rfl, rfl, rfl, by rw [hc_499]; rfl, trivial⟩⟩
        ·refine l_not' f rfl rfl rfl hc_499 fun a f => ?_
         refine l_not' f rfl rfl rfl hc_499 fun a f => ?_
         refine l_op f rfl rfl rfl (r_pickF (f.eval rfl) hc_499 (f.eval rfl)) fun a f => ?_
         exact ⟨_, (GLe.refl _), m, f.weak ⟨rfl, rfl, rfl, rfl, rfl, rfl, rfl, rfl, rfl, rfl, rfl, rfl, rfl, rfl, by rw [hc_499]; rfl, trivial⟩⟩
       ·rintro a w ⟨G_500, hl_501, m, f⟩
        have o_482 := Ow.mono (RI.mono _) hl_501 o_482
        refine l_nil ?_
        obtain ⟨j_513, hj_514, hs_396⟩ := bind_some hs_396
        refine k_cut (fun a w => ∃ j_513' : (List Int), j_513 = .inl j_513' ∧ ∃ l_516 : List Int, l_516 = j_513' ∧ ∃ (G_515 : GH) (it_517 : Itm), GLe G_500 G_515 ∧ Fr a 148 [(0, v0), (1, (.int .i64 x_404)), (2, (.int .i64 x_405)), (3, (.int .i64 x_446)), (4, (.func (.func 81) #[] #[])), (10, (.bool b_407)), (11, (.bool b_408)), (12, (.int .i64 (IntKind.i64.wrap (x_405 - x_404)))), (13, (.int .i64 x_483))] ∧ Mem W G_515 w (it_517 :: H) ∧ Ow (RI .u32) 59 G_515 it_517 v0 l_516) ?_ ?_
        ·rcases cond_some hj_514 with ⟨hc_520, hj_514⟩ | ⟨hc_520, hj_514⟩
         ·refine k_true f rfl hc_520 ?_
          refine k_seq (k_region ?_)
          refine l_mv f rfl rfl fun a f => ?_
          refine l_mv f rfl rfl fun a f => ?_
          refine l_mv f rfl rfl fun a f => ?_
          refine l_mv f rfl rfl fun a f => ?_
          obtain ⟨y_521, hy_522, hj_514⟩ := bind_some hj_514
          refine l_res f rfl rfl Tryd.call114 (Wk.slices_partialInsertionSortCmpFunc_impl_vset__impl_compareSets hW m o_482 hy_522) fun v_526 G_523 Ho_527 w hl_524 m hQ_525 a f => ?_
          obtain ⟨it_528, rfl, rfl, o_529⟩ := hQ_525
          refine l_nil ?_
          rcases cond_some hj_514 with ⟨hc_530, hj_514⟩ | ⟨hc_530, hj_514⟩
          ·refine k_true f rfl hc_530 ?_
           refine k_ret ?_
           obtain rfl := sj hj_514
           obtain rfl := sj hs_396
           obtain rfl := hq_397 _ rfl
           obtain rfl := sj hd
           exact ⟨[], trivial, f.defers, _, [it_528], (GLe.trans hl_409 (GLe.trans hl_447 (GLe.trans hl_461 (GLe.trans hl_485 (GLe.trans hl_498 (GLe.trans hl_501 hl_524)))))), m, _, rfl, o_529⟩
          ·refine k_false f rfl hc_530 ?_
           refine k_skip ?_
           obtain rfl := sj hj_514
           exact ⟨_, rfl, _, rfl, _, it_528, hl_524, f.weak ⟨rfl, rfl, rfl, rfl, rfl, rfl, rfl, rfl, rfl, trivial⟩, m, o_529⟩
         ·refine k_false f rfl hc_520 ?_
          refine k_skip ?_
          obtain rfl := sj hj_514
          exact ⟨_, rfl, _, rfl, _, it_481, (GLe.refl _), f.weak ⟨rfl, rfl, rfl, rfl, rfl, rfl, rfl, rfl, rfl, trivial⟩, m, o_482⟩
        ·rintro a w ⟨_, rfl, l_516, rfl, G_515, it_517, hl_519, f, m, o_518⟩
         refine k_seq (k_seq ?_)
         refine k_draw 17 Follows (by kernel_rfl) m ?_
         refine q_mv 0 17 rfl (by kernel_rfl) f rfl rfl rfl fun a f => ?_
         refine q_p 1 17 rfl (by kernel_rfl) f rfl rfl rfl (fun _ => r_int (f.eval rfl) (f.eval rfl) b_gtr) fun a f => ?_
         refine q_mv 2 17 rfl (by kernel_rfl) f rfl rfl rfl fun a f => ?_
         obtain ⟨b_548, hj_549, hs_396⟩ := bind_some hs_396
         refine q_cut (fuel' := 0) (listed' := #[true, true, true, true, true, true, true, true, true, true, true, true, true, true, true, true, true]) (fun a => Fr a 148 [(0, v0), (1, (.int .i64 x_404)), (2, (.int .i64 x_405)), (3, (.int .i64 x_446)), (4, (.func (.func 81) #[] #[])), (10, (.bool b_407)), (11, (.bool b_408)), (12, (.int .i64 (IntKind.i64.wrap (x_405 - x_404)))), (13, (.int .i64 x_483)), (81, (.int .i64 x_404)), (82, (.bool (decide ((0 : Int) < x_404)))), (83, (.bool (decide ((0 : Int) < x_404)))), (97, (.bool b_548))]) ?_ ?_
         ·intro a f
          refine q_end fun G_565 w hl_566 m => ?_
          have o_518 := Ow.mono (RI.mono _) hl_566 o_518
          refine l_nil ?_
          rcases cond_some hs_396 with ⟨hc_567, hs_396⟩ | ⟨hc_567, hs_396⟩
          ·refine k_true f rfl hc_567 ?_
           refine k_seq (k_region ?_)
           refine l_mv f rfl rfl fun a f => ?_
           refine l_mv f rfl rfl fun a f => ?_
           refine l_mv f rfl rfl fun a f => ?_
           refine l_mv f rfl rfl fun a f => ?_
           refine l_mv f rfl rfl fun a f => ?_
           obtain ⟨y_568, hy_569, hs_396⟩ := bind_some hs_396
           refine l_res f rfl rfl Tryd.call115 (Wk.slices_partitionEqualCmpFunc_impl_vset__impl_compareSets hW m o_518 hy_569) fun v_573 G_570 Ho_574 w hl_571 m hQ_572 a f => ?_
           obtain ⟨it_575, rfl, rfl, o_576⟩ := hQ_572
           refine l_as f rfl rfl fun a f => ?_
           refine l_nil (k_seq (k_region ?_))
           refine l_mv f rfl rfl fun a f => ?_
           refine l_as f rfl rfl fun a f => ?_
           refine l_nil ?_
           refine k_exit rfl ?_
           obtain rfl := sj hs_396
           exact ⟨_, rfl, _, _, _, _, _, _, rfl, _, it_575, (GLe.trans hl_409 (GLe.trans hl_447 (GLe.trans hl_461 (GLe.trans hl_485 (GLe.trans hl_498 (GLe.trans hl_501 (GLe.trans hl_519 (GLe.trans hl_566 hl_571)))))))), f.weak ⟨rfl, rfl, rfl, rfl, rfl, rfl, rfl, trivial⟩, m, o_576⟩
          ·refine k_false f rfl hc_567 ?_
           refine k_skip ?_
           refine k_seq (k_region ?_)
           refine l_mv f rfl rfl fun a f => ?_
           refine l_mv f rfl rfl fun a f => ?_
           refine l_mv f rfl rfl fun a f => ?_
           refine l_mv f rfl rfl fun a f => ?_
           refine l_mv f rfl rfl fun a f => ?_
           obtain ⟨y_577, hy_578, hs_396⟩ := bind_some hs_396
           refine l_res f rfl rfl Tryd.call116 (Wk.slices_partitionCmpFunc_impl_vset__impl_compareSets hW m o_518 hy_578) fun v_582 G_579 Ho_583 w hl_580 m hQ_581 a f => ?_
           obtain ⟨it_584, rfl, rfl, o_585⟩ := hQ_581
           refine l_mv f rfl rfl fun a f => ?_
           refine l_op f rfl rfl rfl (r_extract (f.eval rfl) rfl) fun a f => ?_
           refine l_op f rfl rfl rfl (r_extract (f.eval rfl) rfl) fun a f => ?_
           refine l_as f rfl rfl fun a f => ?_
           refine l_as f rfl rfl fun a f => ?_
           refine l_nil (k_seq (k_region ?_))
           refine l_mv f rfl rfl fun a f => ?_
           refine l_as f rfl rfl fun a f => ?_
           refine l_nil (k_seq (k_region ?_))
           refine l_mv f rfl rfl fun a f => ?_
           refine l_mv f rfl rfl fun a f => ?_
           refine l_in f rfl rfl rfl b_sub fun a f => ?_
           refine l_mv f rfl rfl fun a f => ?_
           refine l_mv f rfl rfl fun a f => ?_
           refine l_in f rfl rfl rfl b_sub fun a f => ?_
           refine l_as f rfl rfl fun a f => ?_
           refine l_as f rfl rfl fun a f => ?_
           refine l_nil (k_seq (k_region ?_))
           refine l_mv f rfl rfl fun a f => ?_
           refine l_in f rfl rfl rfl (b_quo rfl) fun a f => ?_
           refine l_as f rfl rfl fun a f => ?_
           refine l_nil (k_seq (k_region ?_))
           refine l_mv f rfl rfl fun a f => ?_
           refine l_mv f rfl rfl fun a f => ?_
           refine l_in f rfl rfl rfl b_lss fun a f => ?_
           refine l_nil ?_
           rcases cond_some hs_396 with ⟨hc_586, hs_396⟩ | ⟨hc_586, hs_396⟩
           ·refine k_true f rfl hc_586 ?_
            refine k_seq (k_region ?_)
            refine l_mv f rfl rfl fun a f => ?_
            refine l_mv f rfl rfl fun a f => ?_
            refine l_in f rfl rfl rfl b_geq fun a f => ?_
            refine l_as f rfl rfl fun a f => ?_
            refine l_nil (k_seq (k_region ?_))
            refine l_mv f rfl rfl fun a f => ?_
            refine l_mv f rfl rfl fun a f => ?_
            refine l_mv f rfl rfl fun a f => ?_
            refine l_mv f rfl rfl fun a f => ?_
            refine l_mv f rfl rfl fun a f => ?_
            obtain ⟨y_587, hy_588, hs_396⟩ := bind_some hs_396
            refine l_res f rfl rfl Tryd.call83 (ih m o_585 hy_588) fun v_592 G_589 Ho_593 w hl_590 m hQ_591 a f => ?_
            obtain ⟨it_594, rfl, o_595⟩ := hQ_591
            refine l_nil (k_region ?_)
            refine l_mv f rfl rfl fun a f => ?_
            refine l_in f rfl rfl rfl b_add fun a f => ?_
            refine l_as f rfl rfl fun a f => ?_
            refine l_nil ?_
            obtain rfl := sj hs_396
            exact ⟨_, rfl, _, _, _, _, _, _, rfl, _, it_594, (GLe.trans hl_409 (GLe.trans hl_447 (GLe.trans hl_461 (GLe.trans hl_485 (GLe.trans hl_498 (GLe.trans hl_501 (GLe.trans hl_519 (GLe.trans hl_566 (GLe.trans hl_580 hl_590))))))))), f.weak ⟨rfl, rfl, rfl, rfl, rfl, rfl, rfl, trivial⟩, m, o_595⟩
           ·refine k_false f rfl hc_586 ?_
            refine k_seq (k_region ?_)
            refine l_mv f rfl rfl fun a f => ?_
            refine l_mv f rfl rfl fun a f => ?_
            refine l_in f rfl rfl rfl b_geq fun a f => ?_
            refine l_as f rfl rfl fun a f => ?_
            refine l_nil (k_seq (k_region ?_))
            refine l_mv f rfl rfl fun a f => ?_
            refine l_mv f rfl rfl fun a f => ?_
            refine l_in f rfl rfl rfl b_add fun a f => ?_
            refine l_mv f rfl rfl fun a f => ?_
            refine l_mv f rfl rfl fun a f => ?_
            refine l_mv f rfl rfl fun a f => ?_
            obtain ⟨y_596, hy_597, hs_396⟩ := bind_some hs_396
            refine l_res f rfl rfl Tryd.call83 (ih m o_585 hy_597) fun v_601 G_598 Ho_602 w hl_599 m hQ_600 a f => ?_
            obtain ⟨it_603, rfl, o_604⟩ := hQ_600
            refine l_nil (k_region ?_)
            refine l_mv f rfl rfl fun a f => ?_
            refine l_as f rfl rfl fun a f => ?_
            refine l_nil ?_
            obtain rfl := sj hs_396
            exact ⟨_, rfl, _, _, _, _, _, _, rfl, _, it_603, (GLe.trans hl_409 (GLe.trans hl_447 (GLe.trans hl_461 (GLe.trans hl_485 (GLe.trans hl_498 (GLe.trans hl_501 (GLe.trans hl_519 (GLe.trans hl_566 (GLe.trans hl_580 hl_599))))))))), f.weak ⟨rfl, rfl, rfl, rfl, rfl, rfl, rfl, trivial⟩, m, o_604⟩
         ·intro K_547
          rcases cond_some hj_549 with ⟨hc_531, hj_549⟩ | ⟨hc_531, hj_549⟩
          ·refine q_mv 3 17 rfl (by kernel_rfl) f (wanted_of f rfl rfl rfl hc_531) rfl rfl fun a f => ?_
           refine q_mv 4 17 rfl (by kernel_rfl) f (wanted_of f rfl rfl rfl hc_531) rfl rfl fun a f => ?_
           refine q_mv 5 17 rfl (by kernel_rfl) f (wanted_of f rfl rfl rfl hc_531) rfl rfl fun a f => ?_
           refine q_p 6 17 rfl (by kernel_rfl) f (wanted_of f rfl rfl rfl hc_531) rfl rfl (fun _ => r_int (f.eval rfl) (f.eval rfl) b_sub) fun a f => ?_
           obtain ⟨e_550, he_551, hj_549⟩ := bind_some hj_549
           refine q_own_at (i := 7) 17 0 m o_518 rfl T52 he_551 rfl (by kernel_rfl) rfl f (wanted_of f rfl rfl rfl hc_531) rfl rfl rfl fun p_552 a ha_553 f => ?_
           refine q_own_load (i := 8) 17 0 o_518 rfl Pl59 ha_553 he_551 rfl (by kernel_rfl) rfl f (wanted_of f rfl rfl rfl hc_531) rfl rfl fun c_554 a h_555 f => ?_
           subst h_555
           refine q_mv 9 17 rfl (by kernel_rfl) f (wanted_of f rfl rfl rfl hc_531) rfl rfl fun a f => ?_
           refine q_mv 10 17 rfl (by kernel_rfl) f (wanted_of f rfl rfl rfl hc_531) rfl rfl fun a f => ?_
           obtain ⟨e_556, he_557, hj_549⟩ := bind_some hj_549
           refine q_own_at (i := 11) 17 0 m o_518 rfl T52 he_557 rfl (by kernel_rfl) rfl f (wanted_of f rfl rfl rfl hc_531) rfl rfl rfl fun p_558 a ha_559 f => ?_
           refine q_own_load (i := 12) 17 0 o_518 rfl Pl59 ha_559 he_557 rfl (by kernel_rfl) rfl f (wanted_of f rfl rfl rfl hc_531) rfl rfl fun c_560 a h_561 f => ?_
           subst h_561
           obtain ⟨y_562, hy_563, hj_549⟩ := bind_some hj_549
           refine q_callv (i := 13) 17 rfl (by kernel_rfl) rfl f (wanted_of f rfl rfl rfl hc_531) rfl rfl rfl Tryd.call81 (fun _ _ w hG_564 m => Wk.impl_compareSets hW m  hy_563) fun a f => ?_
           refine q_p 14 17 rfl (by kernel_rfl) f (wanted_of f rfl rfl rfl hc_531) rfl rfl (fun _ => r_int (f.eval rfl) (f.eval rfl) b_lss) fun a f => ?_
           refine q_p 15 17 rfl (by kernel_rfl) f (wanted_of f rfl rfl rfl hc_531) rfl rfl (fun _ => r_not (f.eval rfl)) fun a f => ?_
           refine q_p 16 17 rfl (by kernel_rfl) f rfl rfl rfl (fun _ => r_pickT (f.eval rfl) hc_531 (f.eval rfl)) fun a f => ?_
           obtain rfl := sj hj_549
           exact K_547 _ (f.weak ⟨rfl, rfl, rfl, rfl, rfl, rfl, rfl, rfl, rfl, rfl, rfl, rfl, rfl, trivial⟩)
          ·refine q_ng 3 17 rfl (by kernel_rfl) f rfl rfl hc_531 rfl fun a f => ?_
           refine q_ng 4 17 rfl (by kernel_rfl) f rfl rfl hc_531 rfl fun a f => ?_
           refine q_ng 5 17 rfl (by kernel_rfl) f rfl rfl hc_531 rfl fun a f => ?_
           refine q_ng 6 17 rfl (by kernel_rfl) f rfl rfl hc_531 rfl fun a f => ?_
           refine q_ng 7 17 rfl (by kernel_rfl) f rfl rfl hc_531 rfl fun a f => ?_
           refine q_ng 8 17 rfl (by kernel_rfl) f rfl rfl hc_531 rfl fun a f => ?_
           refine q_ng 9 17 rfl (by kernel_rfl) f rfl rfl hc_531 rfl fun a f => ?_
           refine q_ng 10 17 rfl (by kernel_rfl) f rfl rfl hc_531 rfl fun a f => ?_
           refine q_ng 11 17 rfl (by kernel_rfl) f rfl rfl hc_531 rfl fun a f => ?_
           refine q_ng 12 17 rfl (by kernel_rfl) f rfl rfl hc_531 rfl fun a f => ?_
           refine q_ng 13 17 rfl (by kernel_rfl) f rfl rfl hc_531 rfl fun a f => ?_
           refine q_ng 14 17 rfl (by kernel_rfl) f rfl rfl hc_531 rfl fun a f => ?_
           refine q_ng 15 17 rfl (by kernel_rfl) f rfl rfl hc_531 rfl fun a f => ?_
           refine q_p 16 17 rfl (by kernel_rfl) f rfl rfl rfl (fun _ => r_pickF (f.eval rfl) hc_531 (f.eval rfl)) fun a f => ?_
           obtain rfl := sj hj_549
           exact K_547 _ (f.weak ⟨rfl, rfl, rfl, rfl, rfl, rfl, rfl, rfl, rfl, rfl, rfl, rfl, rfl, trivial⟩)

theorem Wk.slices_pdqsortCmpFunc_impl_vset__impl_compareSets {W w : World} {G : GH} {H : List Itm} {v0 : Value} {it0 : Itm} {x0 : (List Int)} {x1 : Int} {x2 : Int} {x3 : Int} (hW : TabW W) (m : Mem W G w (it0 :: H)) (o0 : Ow (RI .u32) 59 G it0 v0 x0) {y : ((List Int))} (hd : D.slices_pdqsortCmpFunc_impl_vset__impl_compareSets x0 x1 x2 x3 = some y) :
  Calls Tryd.prog 83 #[v0, (.int .i64 x1), (.int .i64 x2), (.int .i64 x3), (.func (.func 81) #[] #[])] w (Res W G H (fun G' Ho _ => ∃ i0 : Itm, Ho = [i0] ∧ Ow (RI .u32) 59 G' i0 v0 y)) := by
 exact Wk.slices_pdqsortCmpFunc_impl_vset__impl_compareSetsR hW recFuel m o0 hd

theorem Wk.slices_SortFunc_impl_vset_impl_vset__impl_compareSets {W w : World} {G : GH} {H : List Itm} {v0 : Value} {it0 : Itm} {x0 : (List Int)} (hW : TabW W) (m : Mem W G w (it0 :: H)) (o0 : Ow (RI .u32) 59 G it0 v0 x0) {y : ((List Int))} (hd : D.slices_SortFunc_impl_vset_impl_vset__impl_compareSets x0 = some y) :
  Calls Tryd.prog 44 #[v0, (.func (.func 81) #[] #[])] w (Res W G H (fun G' Ho _ => ∃ i0 : Itm, Ho = [i0] ∧ Ow (RI .u32) 59 G' i0 v0 y)) := by
 refine calls_b (args := [v0, (.func (.func 81) #[] #[])]) (N := 14) [] Tryd.func44 rfl rfl (Nat.le_of_ble_eq_true rfl) rfl fun a f => ?_
 unfold D.slices_SortFunc_impl_vset_impl_vset__impl_compareSets at hd
 refine k_seq (k_region ?_)
 refine l_mv f rfl rfl fun a f => ?_
 refine l_own_len 0 m o0 rfl Tryd.underlying52 f rfl rfl fun a f => ?_
 refine l_as f rfl rfl fun a f => ?_
 refine l_nil (k_region ?_)
 refine l_mv f rfl rfl fun a f => ?_
 refine l_mv f rfl rfl fun a f => ?_
 refine l_mv f rfl rfl fun a f => ?_
 refine l_op f rfl rfl rfl (r_conv (f.eval rfl) ⟨_, Tryd.underlying3⟩ Tryd.underlying48) fun a f => ?_
 obtain ⟨y_1, hy_2, hd⟩ := bind_some hd
 refine l_res f rfl rfl Tryd.call84 (Wk.math_bits_Len m  hy_2) fun v_6 G_3 Ho_7 w hl_4 m hQ_5 a f => ?_
 obtain ⟨rfl, rfl⟩ := hQ_5
 have o0 := Ow.mono (RI.mono _) hl_4 o0
 refine l_mv f rfl rfl fun a f => ?_
 obtain ⟨y_8, hy_9, hd⟩ := bind_some hd
 refine l_res f rfl rfl Tryd.call83 (Wk.slices_pdqsortCmpFunc_impl_vset__impl_compareSets hW m o0 hy_9) fun v_13 G_10 Ho_14 w hl_11 m hQ_12 a f => ?_
 obtain ⟨it_15, rfl, o_16⟩ := hQ_12
 refine l_nil ?_
 obtain rfl := sj hd
 exact ⟨[], trivial, f.defers, _, [it_15], (GLe.trans hl_4 hl_11), m, _, rfl, o_16⟩

theorem Wk.impl_cliquesOf {W w : World} {G : GH} {H : List Itm} {v0 : Value} {x0 : (List Int)} (hW : TabW W) (m : Mem W G w (H)) (h0 : RSl (RI .u32) G v0 x0) {y : ((List Int))} (hd : D.impl_cliquesOf x0 = some y) :
  Calls Tryd.prog 41 #[v0] w (Res W G H (fun G' Ho v => ∃ r0 : Value, ∃ i0 : Itm, Ho = [i0] ∧ r0 = v ∧ Ow (RI .u32) 59 G' i0 r0 y)) := by
 refine calls_b (args := [v0]) (N := 11) [.tmp 2] Tryd.func41 rfl rfl (Nat.le_of_ble_eq_true rfl) rfl fun a f => ?_
 unfold D.impl_cliquesOf at hd
 refine k_seq (k_region ?_)
 refine l_as f rfl rfl fun a f => ?_
 refine l_nil (k_seq (k_region ?_))
 refine l_mv f rfl rfl fun a f => ?_
 refine l_mv f rfl rfl fun a f => ?_
 obtain ⟨y_1, hy_2, hd⟩ := bind_some hd
 refine l_res f rfl rfl Tryd.call80 (Wk.impl_nets_all m h0 hy_2) fun v_6 G_3 Ho_7 w hl_4 m hQ_5 a f => ?_
 obtain ⟨rfl, rfl⟩ := hQ_5
 have h0 := RSl.mono (RI.mono _) _ _ _ _ hl_4 h0
 obtain ⟨it_8, m, o_9⟩ := Ow.nil (RI .u32) 59 m
 obtain ⟨y_11, hy_12, hd⟩ := bind_some hd
 refine l_res f rfl rfl Tryd.call79 (Wk.impl_growCliques hW m h0 o_9 hy_12) fun v_16 G_13 Ho_17 w hl_14 m hQ_15 a f => ?_
 obtain ⟨v_18, it_19, rfl, rfl, o_20⟩ := hQ_15
 have h0 := RSl.mono (RI.mono _) _ _ _ _ hl_14 h0
 refine l_as f rfl rfl fun a f => ?_
 refine l_nil (k_seq (k_region ?_))
 refine l_mv f rfl rfl fun a f => ?_
 obtain ⟨y_22, hy_23, hd⟩ := bind_some hd
 refine l_res f rfl rfl Tryd.call44 (Wk.slices_SortFunc_impl_vset_impl_vset__impl_compareSets hW m o_20 hy_23) fun v_27 G_24 Ho_28 w hl_25 m hQ_26 a f => ?_
 obtain ⟨it_29, rfl, o_30⟩ := hQ_26
 have h0 := RSl.mono (RI.mono _) _ _ _ _ hl_25 h0
 refine l_nil (k_seq (k_region ?_))
 refine l_mv f rfl rfl fun a f => ?_
 refine l_as f rfl rfl fun a f => ?_
 refine l_nil ?_
 refine k_ret ?_
 obtain rfl := sj hd
 exact ⟨[v_18], ⟨f.get _ _ rfl, trivial⟩, f.defers, _, [it_29], (GLe.trans hl_4 (GLe.trans hl_14 hl_25)), m, _, _, rfl, rfl, o_30⟩

theorem Wk.impl_vset_size {W w : World} {G : GH} {H : List Itm} {x0 : Int} (m : Mem W G w (H))  {y : Int} (hd : D.impl_vset_size x0 = some y) :
  Calls Tryd.prog 85 #[(.int .u32 x0)] w (Res W G H (fun _ Ho v => Ho = [] ∧ v = (.int .i64 y))) := by
 refine calls_b (args := [(.int .u32 x0)]) (N := 5) [.tmp 2] Tryd.func85 rfl rfl (Nat.le_of_ble_eq_true rfl) rfl fun a f => ?_
 unfold D.impl_vset_size at hd
 refine k_seq (k_region ?_)
 refine l_as f rfl rfl fun a f => ?_
 refine l_nil (k_seq (k_region ?_))
 refine l_mv f rfl rfl fun a f => ?_
 obtain ⟨y_1, hy_2, hd⟩ := bind_some hd
 refine l_res f rfl rfl Tryd.call119 (Wk.math_bits_OnesCount32 m  hy_2) fun v_6 G_3 Ho_7 w hl_4 m hQ_5 a f => ?_
 obtain ⟨rfl, rfl⟩ := hQ_5
 refine l_as f rfl rfl fun a f => ?_
 refine l_nil ?_
 refine k_ret ?_
 obtain rfl := sj hd
 exact ⟨[(.int .i64 y_1)], ⟨f.get _ _ rfl, trivial⟩, f.defers, _, [], hl_4, m, rfl, rfl⟩

theorem Wk.impl_wide {W w : World} {G : GH} {H : List Itm} {v0 : Value} {x0 : (List Int)} (m : Mem W G w (H)) (h0 : RSl (RI .i64) G v0 x0) {y : ((List Int))} (hd : D.impl_wide x0 = some y) :
  Calls Tryd.prog 120 #[v0] w (Res W G H (fun G' Ho v => ∃ r0 : Value, ∃ i0 : Itm, Ho = [i0] ∧ r0 = v ∧ Ow (RI .i64) 2 G' i0 r0 y)) := by
 refine calls_b (args := [v0]) (N := 21) [.tmp 2] Tryd.func120 rfl rfl (Nat.le_of_ble_eq_true rfl) rfl fun a f => ?_
 unfold D.impl_wide at hd
 refine k_seq (k_region ?_)
 refine l_as f rfl rfl fun a f => ?_
 refine l_nil (k_seq (k_region ?_))
 refine l_mv f rfl rfl fun a f => ?_
 refine l_len Tryd.underlying74 f rfl rfl h0 fun a f => ?_
 obtain ⟨l_1, hx_2, hd⟩ := bind_some hd
 refine l_make (R := (RI .i64)) m T36 rfl (by decide) rfl f rfl rfl rfl hx_2 fun it_3 v_4 w a m o_5 f => ?_
 refine l_as f rfl rfl fun a f => ?_
 refine l_nil (k_seq (k_seq (k_region ?_)))
 refine l_mv f rfl rfl fun a f => ?_
 refine l_len Tryd.underlying74 f rfl rfl h0 fun a f => ?_
 refine l_mv f rfl rfl fun a f => ?_
 refine l_nil ?_
 obtain ⟨q_48, hl_49, hd⟩ := bind_some hd
 refine k_cut (fun a w => ∃ l_80 : List Int, l_80 = q_48 ∧ ∃ (G_79 : GH) (v_81 : Value) (it_82 : Itm), GLe G G_79 ∧ Fr a 21 [(3, v_81)] ∧ Mem W G_79 w (it_82 :: H) ∧ Ow (RI .i64) 2 G_79 it_82 v_81 l_80) ?_ ?_
 ·refine k_block ?_
  refine k_loop (fun s_52 a w => ∃ l_55 : List Int, ∃ x_60 : Int, (l_55, x_60) = s_52 ∧ ∃ (G_54 : GH) (v_56 : Value) (it_57 : Itm), GLe G G_54 ∧ Fr a 21 [(3, v_56), (9, v0), (10, (.int .i64 (x0.length : Int))), (11, (.int .i64 x_60))] ∧ Mem W G_54 w (it_57 :: H) ∧ Ow (RI .i64) 2 G_54 it_57 v_56 l_55) hl_49 ⟨_, _, rfl, _, v_4, it_3, (GLe.refl _), f.weak ⟨rfl, rfl, rfl, rfl, trivial⟩, m, o_5⟩ ?_
  clear hl_49 f m
  rintro s_52 o_53 hs_50 hq_51 a w ⟨l_55, x_60, rfl, G_54, v_56, it_57, hl_61, f, m, o_58⟩
  have h0 := RSl.mono (RI.mono _) _ _ _ _ hl_61 h0
  refine k_seq (k_region ?_)
  refine l_in f rfl rfl rfl b_lss fun a f => ?_
  refine l_nil (k_seq ?_)
  rcases cond_some hs_50 with ⟨hc_86, hs_50⟩ | ⟨hc_86, hs_50⟩
  ·refine k_true f rfl hc_86 ?_
   refine k_skip ?_
   refine k_seq (k_block (k_seq (k_region ?_)))
   obtain ⟨e_87, he_88, hs_50⟩ := bind_some hs_50
   refine l_at T74 f rfl rfl rfl h0 he_88 fun p_89 c_90 a g_91 h_92 f => ?_
   subst h_92
   refine l_loadAt m Pl3 f rfl rfl g_91 fun a f => ?_
   refine l_as f rfl rfl fun a f => ?_
   refine l_nil (k_region ?_)
   refine l_mv f rfl rfl fun a f => ?_
   refine l_mv f rfl rfl fun a f => ?_
   refine l_slit (R := (RI .i64)) (xs := ([e_87] : List Int)) (RI.one _) m T36 f rfl rfl rfl (by decide) (All2.cons rfl (All2.nil _)) fun it_93 v_94 w a m o_95 f => ?_
   obtain ⟨l_97, hx_98, hs_50⟩ := bind_some hs_50
   refine l_append (RI.one _) 1 m o_58 rfl T36 rfl (by decide) f rfl rfl rfl (Ow.src (j := 0) o_95 m rfl) hx_98 fun it_99 v_100 w a m o_101 f => ?_
   refine l_as f rfl rfl fun a f => ?_
   refine l_nil (k_region ?_)
   refine l_in f rfl rfl rfl b_add fun a f => ?_
   refine l_mv f rfl rfl fun a f => ?_
   refine l_nil ?_
   have m := m.front 1 rfl
   have m := m.eraseAt 1
   obtain rfl := sj hs_50
   exact ⟨_, rfl, _, _, rfl, _, v_100, it_99, hl_61, f.weak ⟨rfl, rfl, rfl, rfl, trivial⟩, m, o_101⟩
  ·refine k_false f rfl hc_86 ?_
   refine k_exit rfl ?_
   obtain rfl := sj hs_50
   obtain rfl := hq_51 _ rfl
   exact ⟨_, rfl, _, v_56, it_57, hl_61, f.weak ⟨rfl, trivial⟩, m, o_58⟩
 ·rintro a w ⟨l_80, rfl, G_79, v_81, it_82, hl_85, f, m, o_83⟩
  refine k_seq (k_region ?_)
  refine l_mv f rfl rfl fun a f => ?_
  refine l_as f rfl rfl fun a f => ?_
  refine l_nil ?_
  refine k_ret ?_
  obtain rfl := sj hd
  exact ⟨[v_81], ⟨f.get _ _ rfl, trivial⟩, f.defers, _, [it_82], hl_85, m, _, _, rfl, rfl, o_83⟩

theorem Wk.impl_vset_numbers {W w : World} {G : GH} {H : List Itm} {x0 : Int} (hW : TabW W) (m : Mem W G w (H))  {y : ((List Int))} (hd : D.impl_vset_numbers x0 = some y) :
  Calls Tryd.prog 86 #[(.int .u32 x0)] w (Res W G H (fun G' Ho v => ∃ r0 : Value, ∃ i0 : Itm, Ho = [i0] ∧ r0 = v ∧ Ow (RI .i64) 2 G' i0 r0 y)) := by
 refine calls_b (args := [(.int .u32 x0)]) (N := 6) [.tmp 2] Tryd.func86 rfl rfl (Nat.le_of_ble_eq_true rfl) rfl fun a f => ?_
 unfold D.impl_vset_numbers at hd
 refine k_seq (k_region ?_)
 refine l_as f rfl rfl fun a f => ?_
 refine l_nil (k_seq (k_region ?_))
 refine l_mv f rfl rfl fun a f => ?_
 obtain ⟨y_1, hy_2, hd⟩ := bind_some hd
 refine l_res f rfl rfl Tryd.call103 (Wk.impl_vset_list hW m  hy_2) fun v_6 G_3 Ho_7 w hl_4 m hQ_5 a f => ?_
 obtain ⟨v_8, it_9, rfl, rfl, o_10⟩ := hQ_5
 obtain ⟨y_12, hy_13, hd⟩ := bind_some hd
 refine l_res f rfl rfl Tryd.call120 (Ow.lendCall (RI.mono _) 0 o_10 m rfl (fun G_14 hl_15 m h_16 => Wk.impl_wide m h_16 hy_13) (fun _ G' _ _ ⟨a0, a1, e1, e2, o0⟩ => ⟨a0, a1, e1, e2, Ow.free (RI.free _) G' o0⟩)) fun v_20 G_17 Ho_21 w hl_18 m hQ_19 a f => ?_
 obtain ⟨v_22, it_23, rfl, rfl, o_24⟩ := hQ_19
 have o_10 := Ow.mono (RI.mono _) hl_18 o_10
 refine l_as f rfl rfl fun a f => ?_
 refine l_nil ?_
 refine k_ret ?_
 have m := m.eraseAt 1
 obtain rfl := sj hd
 exact ⟨[v_22], ⟨f.get _ _ rfl, trivial⟩, f.defers, _, [it_23], (GLe.trans hl_4 hl_18), m, _, _, rfl, rfl, o_24⟩

theorem Wk.impl_results {W w : World} {G : GH} {H : List Itm} {v0 : Value} {x0 : (List Int)} (hW : TabW W) (m : Mem W G w (H)) (h0 : RSl (RI .u32) G v0 x0) {y : ((List (List Int)))} (hd : D.impl_results x0 = some y) :
  Calls Tryd.prog 46 #[v0] w (Res W G H (fun G' Ho v => ∃ r0 : Value, ∃ i0 : Itm, Ho = [i0] ∧ r0 = v ∧ Ow2 (RI .i64) 36 2 G' i0 r0 y)) := by
 refine calls_b (args := [v0]) (N := 20) [.tmp 2] Tryd.func46 rfl rfl (Nat.le_of_ble_eq_true rfl) rfl fun a f => ?_
 unfold D.impl_results at hd
 refine k_seq (k_region ?_)
 refine l_as f rfl rfl fun a f => ?_
 refine l_nil (k_seq (k_region ?_))
 refine l_slit (R := RawS) (xs := []) RawS.one m T22 f rfl rfl rfl (by decide) (All2.nil _) fun it_1 v_2 w a m o_3 f => ?_
 obtain ⟨it_5, m, o_6⟩ := Ow2.of_empty (RI .i64) 2 m o_3
 refine l_as f rfl rfl fun a f => ?_
 refine l_nil (k_seq (k_seq (k_region ?_)))
 refine l_mv f rfl rfl fun a f => ?_
 refine l_len Tryd.underlying52 f rfl rfl h0 fun a f => ?_
 refine l_mv f rfl rfl fun a f => ?_
 refine l_nil ?_
 obtain ⟨q_70, hl_71, hd⟩ := bind_some hd
 refine k_cut (fun a w => ∃ l_113 : List (List Int), l_113 = q_70 ∧ ∃ (G_112 : GH) (v_114 : Value) (it_115 : Itm), GLe G G_112 ∧ Fr a 20 [(3, v_114)] ∧ Mem W G_112 w (it_115 :: H) ∧ Ow2 (RI .i64) 36 2 G_112 it_115 v_114 l_113) ?_ ?_
 ·refine k_block ?_
  refine k_loop (fun s_74 a w => ∃ l_77 : List (List Int), ∃ x_82 : Int, (l_77, x_82) = s_74 ∧ ∃ (G_76 : GH) (v_78 : Value) (it_79 : Itm), GLe G G_76 ∧ Fr a 20 [(3, v_78), (7, v0), (8, (.int .i64 (x0.length : Int))), (9, (.int .i64 x_82))] ∧ Mem W G_76 w (it_79 :: H) ∧ Ow2 (RI .i64) 36 2 G_76 it_79 v_78 l_77) hl_71 ⟨_, _, rfl, _, v_2, it_5, (GLe.refl _), f.weak ⟨rfl, rfl, rfl, rfl, trivial⟩, m, o_6⟩ ?_
  clear hl_71 f m
  rintro s_74 o_75 hs_72 hq_73 a w ⟨l_77, x_82, rfl, G_76, v_78, it_79, hl_83, f, m, o_80⟩
  have h0 := RSl.mono (RI.mono _) _ _ _ _ hl_83 h0
  refine k_seq (k_region ?_)
  refine l_in f rfl rfl rfl b_lss fun a f => ?_
  refine l_nil (k_seq ?_)
  rcases cond_some hs_72 with ⟨hc_119, hs_72⟩ | ⟨hc_119, hs_72⟩
  ·refine k_true f rfl hc_119 ?_
   refine k_skip ?_
   refine k_seq (k_block (k_seq (k_region ?_)))
   obtain ⟨e_120, he_121, hs_72⟩ := bind_some hs_72
   refine l_at T52 f rfl rfl rfl h0 he_121 fun p_122 c_123 a g_124 h_125 f => ?_
   subst h_125
   refine l_loadAt m Pl59 f rfl rfl g_124 fun a f => ?_
   refine l_as f rfl rfl fun a f => ?_
   refine l_nil (k_region ?_)
   refine l_mv f rfl rfl fun a f => ?_
   refine l_mv f rfl rfl fun a f => ?_
   obtain ⟨y_126, hy_127, hs_72⟩ := bind_some hs_72
   refine l_res f rfl rfl Tryd.call86 (Wk.impl_vset_numbers hW m  hy_127) fun v_131 G_128 Ho_132 w hl_129 m hQ_130 a f => ?_
   obtain ⟨v_133, it_134, rfl, rfl, o_135⟩ := hQ_130
   have h0 := RSl.mono (RI.mono _) _ _ _ _ hl_129 h0
   have o_80 := Ow2.mono (RI.mono _) hl_129 o_80
   refine l_slit (R := RawS) (xs := [v_133]) RawS.one m T22 f rfl rfl rfl (by decide) (All2.cons ⟨rfl, Ow.one1 0 m o_135 rfl, Ow.cells 0 m o_135 rfl⟩ (All2.nil _)) fun it_137 v_138 w a m o_139 f => ?_
   have m := m.front 1 rfl
   have m := m.front 2 rfl
   obtain ⟨l_141, hx_142, hs_72⟩ := bind_some hs_72
   refine l_append2 m o_80 o_135 o_139 T22 rfl (by decide) f rfl rfl rfl hx_142 fun it_143 v_144 w a m o_145 f => ?_
   refine l_as f rfl rfl fun a f => ?_
   refine l_nil (k_region ?_)
   refine l_in f rfl rfl rfl b_add fun a f => ?_
   refine l_mv f rfl rfl fun a f => ?_
   refine l_nil ?_
   obtain rfl := sj hs_72
   exact ⟨_, rfl, _, _, rfl, _, v_144, it_143, (GLe.trans hl_83 hl_129), f.weak ⟨rfl, rfl, rfl, rfl, trivial⟩, m, o_145⟩
  ·refine k_false f rfl hc_119 ?_
   refine k_exit rfl ?_
   obtain rfl := sj hs_72
   obtain rfl := hq_73 _ rfl
   exact ⟨_, rfl, _, v_78, it_79, hl_83, f.weak ⟨rfl, trivial⟩, m, o_80⟩
 ·rintro a w ⟨l_113, rfl, G_112, v_114, it_115, hl_118, f, m, o_116⟩
  refine k_seq (k_region ?_)
  refine l_mv f rfl rfl fun a f => ?_
  refine l_as f rfl rfl fun a f => ?_
  refine l_nil ?_
  refine k_ret ?_
  obtain rfl := sj hd
  exact ⟨[v_114], ⟨f.get _ _ rfl, trivial⟩, f.defers, _, [it_115], hl_118, m, _, _, rfl, rfl, o_116⟩

end Go.Proofs.YtocakchlhemmeaaDoor

set_option maxRecDepth 100000
namespace Go.Proofs.YtocakchlhemmeaaDoor
open Go Go.Sx
end Go.Proofs.YtocakchlhemmeaaDoor
