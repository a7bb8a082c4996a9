/- Parts of the proof: KAW. -/
import Derived.Test.YtehnblgkgaakeaaDoorGr2
import Derived.Test.YtehnblgkgaakeaaDoorProg
import Derived.KernelRfl
set_option linter.unusedVariables false
set_option linter.unusedSimpArgs false
set_option linter.unusedSectionVars false
set_option maxRecDepth 100000
namespace Go.Proofs.YtehnblgkgaakeaaDoor
open Go Go.Sx
theorem Follows : Tryd.prog.follows .mixedOrders = true := by kernel_rfl
theorem Pl2 : Plain Tryd.prog 2 := Tryd.isAgg2
theorem T31 : SlT Tryd.prog 31 2 1 8 (.int .i64 0) := ⟨Tryd.underlying31, Tryd.t2, by kernel_rfl, by kernel_rfl, by kernel_rfl, by kernel_rfl⟩
theorem Pl145 : Plain Tryd.prog 145 := Tryd.isAgg145
theorem Pl3 : Plain Tryd.prog 3 := Tryd.isAgg3
theorem Pl5 : Plain Tryd.prog 5 := Tryd.isAgg5

theorem Wk.slices_Collect_int64 {W w : World} {G : GH} {H : List Itm} {v0 : Value} {b0 : Nat} {x0 : (List Int)} (m : Mem W G w (Itm.box b0 31 [v0] :: H)) (h0 : RSl (RI .i64) G v0 x0) {y : ((List Int))} (hd : D.slices_Collect_int64 x0 = some y) :
  Calls Tryd.prog 110 #[(.func (.func 112) #[] #[(.pointer (some ⟨b0, 0, none⟩))])] w (Res W G H (fun G' Ho v => ∃ r0 : Value, ∃ i0 : Itm, Ho = [i0] ∧ r0 = v ∧ Ow (RI .i64) 2 G' i0 r0 y)) := by
 refine calls_b (args := [(.func (.func 112) #[] #[(.pointer (some ⟨b0, 0, none⟩))])]) (N := 5) [.tmp 2] Tryd.func110 rfl rfl (Nat.le_of_ble_eq_true rfl) rfl fun a f => ?_
 unfold D.slices_Collect_int64 at hd
 refine k_seq (k_region ?_)
 refine l_as f rfl rfl fun a f => ?_
 refine l_nil (k_seq (k_region ?_))
 refine l_mv f rfl rfl fun a f => ?_
 obtain ⟨y_1, hy_2, hd⟩ := bind_some hd
 refine l_res f rfl rfl Tryd.call127 (Wk.slices_AppendSeq_int64_int64 m h0 hy_2) fun v_6 G_3 Ho_7 w hl_4 m hQ_5 a f => ?_
 obtain ⟨v_11, it_8, rfl, rfl, o_9⟩ := hQ_5
 refine l_as f rfl rfl fun a f => ?_
 refine l_nil ?_
 refine k_ret ?_
 obtain rfl := sj hd
 exact ⟨[v_11], ⟨f.get _ _ rfl, trivial⟩, f.defers, _, [it_8], hl_4, m, _, _, rfl, rfl, o_9⟩

theorem Wk.cmp_isNaN_int64 {W w : World} {G : GH} {H : List Itm} {x0 : Int} (m : Mem W G w (H))  {y : Bool} (hd : D.cmp_isNaN_int64 x0 = some y) :
  Calls Tryd.prog 148 #[(.int .i64 x0)] w (Res W G H (fun _ Ho v => Ho = [] ∧ v = (.bool y))) := by
 refine calls_b (args := [(.int .i64 x0)]) (N := 6) [.tmp 2] Tryd.func148 rfl rfl (Nat.le_of_ble_eq_true rfl) rfl fun a f => ?_
 unfold D.cmp_isNaN_int64 at hd
 refine k_seq (k_region ?_)
 refine l_as f rfl rfl fun a f => ?_
 refine l_nil (k_seq (k_region ?_))
 refine l_mv f rfl rfl fun a f => ?_
 refine l_mv f rfl rfl fun a f => ?_
 refine l_in f rfl rfl rfl b_neq fun a f => ?_
 refine l_as f rfl rfl fun a f => ?_
 refine l_nil ?_
 refine k_ret ?_
 obtain rfl := sj hd
 exact ⟨[(.bool (x0 != x0))], ⟨f.get _ _ rfl, trivial⟩, f.defers, _, [], (GLe.refl _), m, rfl, rfl⟩

theorem Wk.cmp_Less_int64 {W w : World} {G : GH} {H : List Itm} {x0 : Int} {x1 : Int} (m : Mem W G w (H))  {y : Bool} (hd : D.cmp_Less_int64 x0 x1 = some y) :
  Calls Tryd.prog 138 #[(.int .i64 x0), (.int .i64 x1)] w (Res W G H (fun _ Ho v => Ho = [] ∧ v = (.bool y))) := by
 refine calls_b (args := [(.int .i64 x0), (.int .i64 x1)]) (N := 17) [.tmp 4] Tryd.func138 rfl rfl (Nat.le_of_ble_eq_true rfl) rfl fun a f => ?_
 unfold D.cmp_Less_int64 at hd
 refine k_seq (k_region ?_)
 refine l_as f rfl rfl fun a f => ?_
 refine l_nil (k_seq (k_region ?_))
 refine l_mv f rfl rfl fun a f => ?_
 obtain ⟨y_1, hy_2, hd⟩ := bind_some hd
 refine l_res f rfl rfl Tryd.call148 (Wk.cmp_isNaN_int64 m  hy_2) fun v_6 G_3 Ho_7 w hl_4 m hQ_5 a f => ?_
 obtain ⟨rfl, rfl⟩ := hQ_5
 refine l_mv f rfl rfl fun a f => ?_
 obtain ⟨b_25, hj_26, hd⟩ := bind_some hd
 refine l_cut 4 (fun a w => ∃ G_23, GLe G_3 G_23 ∧ Mem W G_23 w (H) ∧ Fr a 17 [(0, (.int .i64 x0)), (1, (.int .i64 x1)), (5, (.int .i64 x0)), (6, (.bool y_1)), (7, (.bool y_1)), (11, (.bool b_25))]) ?_ ?_
 ·rcases cond_some hj_26 with ⟨hc_8, hj_26⟩ | ⟨hc_8, hj_26⟩
  ·refine l_run f rfl rfl hc_8 ?_
   refine l_mv f rfl rfl fun a f => ?_
   refine l_run f rfl rfl hc_8 ?_
   obtain ⟨y_27, hy_28, hj_26⟩ := bind_some hj_26
   refine l_res f rfl rfl Tryd.call148 (Wk.cmp_isNaN_int64 m  hy_28) fun v_32 G_29 Ho_33 w hl_30 m hQ_31 a f => ?_
   obtain ⟨rfl, rfl⟩ := hQ_31
   refine l_run f rfl rfl hc_8 ?_
   refine l_op f rfl rfl rfl (r_not (f.eval rfl)) fun a f => ?_
   refine l_op f rfl rfl rfl (r_pickT (f.eval rfl) hc_8 (f.eval rfl)) fun a f => ?_
   obtain rfl := sj hj_26
   exact ⟨_, hl_30, m, f.weak ⟨rfl, rfl, rfl, rfl, rfl, rfl, trivial⟩⟩
  ·refine l_not' f rfl rfl rfl hc_8 fun a f => ?_
   refine l_not' f rfl rfl rfl hc_8 fun a f => ?_
   refine l_not' f rfl rfl rfl hc_8 fun a f => ?_
   refine l_op f rfl rfl rfl (r_pickF (f.eval rfl) hc_8 (f.eval rfl)) fun a f => ?_
   obtain rfl := sj hj_26
   exact ⟨_, (GLe.refl _), m, f.weak ⟨rfl, rfl, rfl, rfl, rfl, rfl, trivial⟩⟩
 ·rintro a w ⟨G_23, hl_24, m, f⟩
  refine l_mv f rfl rfl fun a f => ?_
  refine l_cut 4 (fun a w => ∃ G_35, GLe G_23 G_35 ∧ Mem W G_35 w (H) ∧ Fr a 17 [(0, (.int .i64 x0)), (1, (.int .i64 x1)), (5, (.int .i64 x0)), (6, (.bool y_1)), (7, (.bool y_1)), (11, (.bool b_25)), (12, (.bool b_25)), (16, (.bool (b_25 || (decide (x0 < x1)))))]) ?_ ?_
  ·rcases Bool.eq_false_or_eq_true b_25 with hc_34 | hc_34
   ·refine l_not' f rfl rfl rfl hc_34 fun a f => ?_
    refine l_not' f rfl rfl rfl hc_34 fun a f => ?_
    refine l_not' f rfl rfl rfl hc_34 fun a f => ?_
    refine l_op f rfl rfl rfl (r_pickT (f.eval rfl) hc_34 (f.eval rfl)) fun a f => ?_
    exact ⟨_, (GLe.refl _), m, f.weak ⟨rfl, rfl, rfl, rfl, rfl, rfl, rfl, by rw [hc_34]; rfl, trivial⟩⟩
   ·refine l_run f rfl rfl hc_34 ?_
    refine l_mv f rfl rfl fun a f => ?_
    refine l_run f rfl rfl hc_34 ?_
    refine l_mv f rfl rfl fun a f => ?_
    refine l_run f rfl rfl hc_34 ?_
    refine l_in f rfl rfl rfl b_lss fun a f => ?_
    refine l_op f rfl rfl rfl (r_pickF (f.eval rfl) hc_34 (f.eval rfl)) fun a f => ?_
    exact ⟨_, (GLe.refl _), m, f.weak ⟨rfl, rfl, rfl, rfl, rfl, rfl, rfl, by rw [hc_34]; rfl, trivial⟩⟩
  ·rintro a w ⟨G_35, hl_36, m, f⟩
   refine l_as f rfl rfl fun a f => ?_
   refine l_nil ?_
   refine k_ret ?_
   obtain rfl := sj hd
   exact ⟨[(.bool (b_25 || (decide (x0 < x1))))], ⟨f.get _ _ rfl, trivial⟩, f.defers, _, [], (GLe.trans hl_4 (GLe.trans hl_24 hl_36)), m, rfl, rfl⟩

theorem Wk.slices_insertionSortOrdered_int64 {W w : World} {G : GH} {H : List Itm} {v0 : Value} {it0 : Itm} {x0 : (List Int)} {x1 : Int} {x2 : Int} (m : Mem W G w (it0 :: H)) (o0 : Ow (RI .i64) 2 G it0 v0 x0) {y : ((List Int))} (hd : D.slices_insertionSortOrdered_int64 x0 x1 x2 = some y) :
  Calls Tryd.prog 132 #[v0, (.int .i64 x1), (.int .i64 x2)] w (Res W G H (fun G' Ho _ => ∃ i0 : Itm, Ho = [i0] ∧ Ow (RI .i64) 2 G' i0 v0 y)) := by
 refine calls_b (args := [v0, (.int .i64 x1), (.int .i64 x2)]) (N := 49) [] Tryd.func132 rfl rfl (Nat.le_of_ble_eq_true rfl) rfl fun a f => ?_
 unfold D.slices_insertionSortOrdered_int64 at hd
 refine k_seq (k_region ?_)
 refine l_mv f rfl rfl fun a f => ?_
 refine l_in f rfl rfl rfl b_add fun a f => ?_
 refine l_as f rfl rfl fun a f => ?_
 refine l_nil ?_
 obtain ⟨q_556, hl_557, hd⟩ := bind_some hd
 refine k_cut (fun a w => ∃ l_844 : List Int, l_844 = q_556 ∧ ∃ (G_843 : GH) (it_845 : Itm), GLe G G_843 ∧ Fr a 49 [] ∧ Mem W G_843 w (it_845 :: H) ∧ Ow (RI .i64) 2 G_843 it_845 v0 l_844) ?_ ?_
 ·refine k_block ?_
  refine k_loop (fun s_560 a w => ∃ l_563 : List Int, ∃ x_566 : Int, (l_563, x_566) = s_560 ∧ ∃ (G_562 : GH) (it_564 : Itm), GLe G G_562 ∧ Fr a 49 [(0, v0), (1, (.int .i64 x1)), (2, (.int .i64 x2)), (6, (.int .i64 x_566))] ∧ Mem W G_562 w (it_564 :: H) ∧ Ow (RI .i64) 2 G_562 it_564 v0 l_563) hl_557 ⟨_, _, rfl, _, it0, (GLe.refl _), f.weak ⟨rfl, rfl, rfl, rfl, trivial⟩, m, o0⟩ ?_
  clear hl_557 f m
  rintro s_560 o_561 hs_558 hq_559 a w ⟨l_563, x_566, rfl, G_562, it_564, hl_567, f, m, o_565⟩
  refine k_seq (k_seq (k_region ?_))
  refine l_mv f rfl rfl fun a f => ?_
  refine l_mv f rfl rfl fun a f => ?_
  refine l_in f rfl rfl rfl b_lss fun a f => ?_
  refine l_nil ?_
  rcases cond_some hs_558 with ⟨hc_848, hs_558⟩ | ⟨hc_848, hs_558⟩
  ·refine k_true f rfl hc_848 ?_
   refine k_skip ?_
   refine k_seq (k_block (k_seq (k_region ?_)))
   refine l_mv f rfl rfl fun a f => ?_
   refine l_as f rfl rfl fun a f => ?_
   refine l_nil ?_
   obtain ⟨q_980, hl_981, hs_558⟩ := bind_some hs_558
   refine k_cut (fun a w => ∃ l_1056 : List Int, l_1056 = q_980 ∧ ∃ (G_1055 : GH) (it_1057 : Itm), GLe G_562 G_1055 ∧ Fr a 49 [(0, v0), (1, (.int .i64 x1)), (2, (.int .i64 x2)), (6, (.int .i64 x_566))] ∧ Mem W G_1055 w (it_1057 :: H) ∧ Ow (RI .i64) 2 G_1055 it_1057 v0 l_1056) ?_ ?_
   ·refine k_block ?_
    refine k_loop (fun s_984 a w => ∃ l_987 : List Int, ∃ x_990 : Int, (l_987, x_990) = s_984 ∧ ∃ (G_986 : GH) (it_988 : Itm), GLe G_562 G_986 ∧ Fr a 49 [(0, v0), (1, (.int .i64 x1)), (2, (.int .i64 x2)), (6, (.int .i64 x_566)), (7, (.int .i64 x_990))] ∧ Mem W G_986 w (it_988 :: H) ∧ Ow (RI .i64) 2 G_986 it_988 v0 l_987) hl_981 ⟨_, _, rfl, _, it_564, (GLe.refl _), f.weak ⟨rfl, rfl, rfl, rfl, rfl, trivial⟩, m, o_565⟩ ?_
    clear hl_981 f m
    rintro s_984 o_985 hs_982 hq_983 a w ⟨l_987, x_990, rfl, G_986, it_988, hl_991, f, m, o_989⟩
    refine k_seq (k_seq ?_)
    refine k_draw 15 Follows (by kernel_rfl) m ?_
    refine q_mv 0 15 rfl (by kernel_rfl) f rfl rfl rfl fun a f => ?_
    refine q_mv 1 15 rfl (by kernel_rfl) f rfl rfl rfl fun a f => ?_
    refine q_p 2 15 rfl (by kernel_rfl) f rfl rfl rfl (fun _ => r_int (f.eval rfl) (f.eval rfl) b_gtr) fun a f => ?_
    refine q_mv 3 15 rfl (by kernel_rfl) f rfl rfl rfl fun a f => ?_
    obtain ⟨b_1077, hj_1078, hs_982⟩ := bind_some hs_982
    refine q_cut (fuel' := 0) (listed' := #[true, true, true, true, true, true, true, true, true, true, true, true, true, true, true]) (fun a => Fr a 49 [(0, v0), (1, (.int .i64 x1)), (2, (.int .i64 x2)), (6, (.int .i64 x_566)), (7, (.int .i64 x_990)), (16, (.int .i64 x_990)), (17, (.int .i64 x1)), (18, (.bool (decide (x1 < x_990)))), (19, (.bool (decide (x1 < x_990)))), (30, (.bool b_1077))]) ?_ ?_
    ·intro a f
     refine q_end fun G_1094 w hl_1095 m => ?_
     have o_989 := Ow.mono (RI.mono _) hl_1095 o_989
     refine l_nil ?_
     rcases cond_some hs_982 with ⟨hc_1096, hs_982⟩ | ⟨hc_1096, hs_982⟩
     ·refine k_true f rfl hc_1096 ?_
      refine k_skip ?_
      refine k_seq (k_block ?_)
      refine k_draw0 Follows m ?_
      refine p_p 2 rfl (by kernel_rfl) f rfl rfl rfl (fun _ => r_move (f.eval rfl)) fun a f => ?_
      refine p_p 3 rfl (by kernel_rfl) f rfl rfl rfl (fun _ => r_move (f.eval rfl)) fun a f => ?_
      refine p_p 4 rfl (by kernel_rfl) f rfl rfl rfl (fun _ => r_int (f.eval rfl) (f.eval rfl) b_sub) fun a f => ?_
      refine k_draw1 28015 12 (by kernel_rfl) rfl ?_
      refine q_mv 0 28015 rfl (by kernel_rfl) f rfl rfl rfl fun a f => ?_
      refine q_mv 1 28015 rfl (by kernel_rfl) f rfl rfl rfl fun a f => ?_
      refine q_mv 5 28015 rfl (by kernel_rfl) f rfl rfl rfl fun a f => ?_
      refine q_mv 6 28015 rfl (by kernel_rfl) f rfl rfl rfl fun a f => ?_
      refine q_p 7 28015 rfl (by kernel_rfl) f rfl rfl rfl (fun _ => r_int (f.eval rfl) (f.eval rfl) b_sub) fun a f => ?_
      obtain ⟨e_1097, he_1098, hs_982⟩ := bind_some hs_982
      refine q_own_at (i := 8) 28015 0 m o_989 rfl T31 he_1098 rfl (by kernel_rfl) rfl f rfl rfl rfl rfl fun p_1099 a ha_1100 f => ?_
      refine q_own_load (i := 9) 28015 0 o_989 rfl Pl2 ha_1100 he_1098 rfl (by kernel_rfl) rfl f rfl rfl rfl fun c_1101 a h_1102 f => ?_
      subst h_1102
      refine q_mv 10 28015 rfl (by kernel_rfl) f rfl rfl rfl fun a f => ?_
      refine q_mv 11 28015 rfl (by kernel_rfl) f rfl rfl rfl fun a f => ?_
      obtain ⟨e_1103, he_1104, hs_982⟩ := bind_some hs_982
      refine q_own_at (i := 12) 28015 0 m o_989 rfl T31 he_1104 rfl (by kernel_rfl) rfl f rfl rfl rfl rfl fun p_1105 a ha_1106 f => ?_
      refine q_own_load (i := 13) 28015 0 o_989 rfl Pl2 ha_1106 he_1104 rfl (by kernel_rfl) rfl f rfl rfl rfl fun c_1107 a h_1108 f => ?_
      subst h_1108
      obtain ⟨e_1109, he_1110, hs_982⟩ := bind_some hs_982
      refine q_own_at (i := 14) 28015 0 m o_989 rfl T31 he_1110 rfl (by kernel_rfl) rfl f rfl rfl rfl rfl fun p_1111 a ha_1112 f => ?_
      refine q_end fun G_1113 w hl_1114 m => ?_
      have o_989 := Ow.mono (RI.mono _) hl_1114 o_989
      refine l_own_store 0 m o_989 rfl Tryd.sizeOf2 f rfl rfl ha_1112 he_1110 rfl rfl rfl fun it_1115 w m o_1116 => ?_
      obtain ⟨e_1117, he_1118, hs_982⟩ := bind_some hs_982
      refine l_own_at 0 m o_1116 rfl T31 f rfl rfl rfl he_1118 fun p_1119 a ha_1120 f => ?_
      refine l_own_store 0 m o_1116 rfl Tryd.sizeOf2 f rfl rfl ha_1120 he_1118 rfl rfl rfl fun it_1121 w m o_1122 => ?_
      refine l_nil (k_region ?_)
      refine l_mv f rfl rfl fun a f => ?_
      refine l_in f rfl rfl rfl b_sub fun a f => ?_
      refine l_as f rfl rfl fun a f => ?_
      refine l_nil ?_
      obtain rfl := sj hs_982
      exact ⟨_, rfl, _, _, rfl, _, it_1121, (GLe.trans hl_991 (GLe.trans hl_1095 hl_1114)), f.weak ⟨rfl, rfl, rfl, rfl, rfl, trivial⟩, m, o_1122⟩
     ·refine k_false f rfl hc_1096 ?_
      refine k_exit rfl ?_
      obtain rfl := sj hs_982
      obtain rfl := hq_983 _ rfl
      exact ⟨_, rfl, _, it_988, (GLe.trans hl_991 hl_1095), f.weak ⟨rfl, rfl, rfl, rfl, trivial⟩, m, o_989⟩
    ·intro K_1076
     rcases cond_some hj_1078 with ⟨hc_1060, hj_1078⟩ | ⟨hc_1060, hj_1078⟩
     ·refine q_mv 4 15 rfl (by kernel_rfl) f (wanted_of f rfl rfl rfl hc_1060) rfl rfl fun a f => ?_
      refine q_mv 5 15 rfl (by kernel_rfl) f (wanted_of f rfl rfl rfl hc_1060) rfl rfl fun a f => ?_
      obtain ⟨e_1079, he_1080, hj_1078⟩ := bind_some hj_1078
      refine q_own_at (i := 6) 15 0 m o_989 rfl T31 he_1080 rfl (by kernel_rfl) rfl f (wanted_of f rfl rfl rfl hc_1060) rfl rfl rfl fun p_1081 a ha_1082 f => ?_
      refine q_own_load (i := 7) 15 0 o_989 rfl Pl2 ha_1082 he_1080 rfl (by kernel_rfl) rfl f (wanted_of f rfl rfl rfl hc_1060) rfl rfl fun c_1083 a h_1084 f => ?_
      subst h_1084
      refine q_mv 8 15 rfl (by kernel_rfl) f (wanted_of f rfl rfl rfl hc_1060) rfl rfl fun a f => ?_
      refine q_mv 9 15 rfl (by kernel_rfl) f (wanted_of f rfl rfl rfl hc_1060) rfl rfl fun a f => ?_
      refine q_p 10 15 rfl (by kernel_rfl) f (wanted_of f rfl rfl rfl hc_1060) rfl rfl (fun _ => r_int (f.eval rfl) (f.eval rfl) b_sub) fun a f => ?_
      obtain ⟨e_1085, he_1086, hj_1078⟩ := bind_some hj_1078
      refine q_own_at (i := 11) 15 0 m o_989 rfl T31 he_1086 rfl (by kernel_rfl) rfl f (wanted_of f rfl rfl rfl hc_1060) rfl rfl rfl fun p_1087 a ha_1088 f => ?_
      refine q_own_load (i := 12) 15 0 o_989 rfl Pl2 ha_1088 he_1086 rfl (by kernel_rfl) rfl f (wanted_of f rfl rfl rfl hc_1060) rfl rfl fun c_1089 a h_1090 f => ?_
      subst h_1090
      obtain ⟨y_1091, hy_1092, hj_1078⟩ := bind_some hj_1078
      refine q_call (i := 13) 15 rfl (by kernel_rfl) rfl f (wanted_of f rfl rfl rfl hc_1060) rfl rfl Tryd.call138 (fun _ _ w hG_1093 m => Wk.cmp_Less_int64 m  hy_1092) fun a f => ?_
      refine q_p 14 15 rfl (by kernel_rfl) f rfl rfl rfl (fun _ => r_pickT (f.eval rfl) hc_1060 (f.eval rfl)) fun a f => ?_
      obtain rfl := sj hj_1078
      exact K_1076 _ (f.weak ⟨rfl, rfl, rfl, rfl, rfl, rfl, rfl, rfl, rfl, rfl, trivial⟩)
     ·refine q_ng 4 15 rfl (by kernel_rfl) f rfl rfl hc_1060 rfl fun a f => ?_
      refine q_ng 5 15 rfl (by kernel_rfl) f rfl rfl hc_1060 rfl fun a f => ?_
      refine q_ng 6 15 rfl (by kernel_rfl) f rfl rfl hc_1060 rfl fun a f => ?_
      refine q_ng 7 15 rfl (by kernel_rfl) f rfl rfl hc_1060 rfl fun a f => ?_
      refine q_ng 8 15 rfl (by kernel_rfl) f rfl rfl hc_1060 rfl fun a f => ?_
      refine q_ng 9 15 rfl (by kernel_rfl) f rfl rfl hc_1060 rfl fun a f => ?_
      refine q_ng 10 15 rfl (by kernel_rfl) f rfl rfl hc_1060 rfl fun a f => ?_
      refine q_ng 11 15 rfl (by kernel_rfl) f rfl rfl hc_1060 rfl fun a f => ?_
      refine q_ng 12 15 rfl (by kernel_rfl) f rfl rfl hc_1060 rfl fun a f => ?_
      refine q_ng 13 15 rfl (by kernel_rfl) f rfl rfl hc_1060 rfl fun a f => ?_
      refine q_p 14 15 rfl (by kernel_rfl) f rfl rfl rfl (fun _ => r_pickF (f.eval rfl) hc_1060 (f.eval rfl)) fun a f => ?_
      obtain rfl := sj hj_1078
      exact K_1076 _ (f.weak ⟨rfl, rfl, rfl, rfl, rfl, rfl, rfl, rfl, rfl, rfl, trivial⟩)
   ·rintro a w ⟨l_1056, rfl, G_1055, it_1057, hl_1059, f, m, o_1058⟩
    refine k_region ?_
    refine l_mv f rfl rfl fun a f => ?_
    refine l_in f rfl rfl rfl b_add fun a f => ?_
    refine l_as f rfl rfl fun a f => ?_
    refine l_nil ?_
    obtain rfl := sj hs_558
    exact ⟨_, rfl, _, _, rfl, _, it_1057, (GLe.trans hl_567 hl_1059), f.weak ⟨rfl, rfl, rfl, rfl, trivial⟩, m, o_1058⟩
  ·refine k_false f rfl hc_848 ?_
   refine k_exit rfl ?_
   obtain rfl := sj hs_558
   obtain rfl := hq_559 _ rfl
   exact ⟨_, rfl, _, it_564, hl_567, f.weak trivial, m, o_565⟩
 ·rintro a w ⟨l_844, rfl, G_843, it_845, hl_847, f, m, o_846⟩
  obtain rfl := sj hd
  exact ⟨[], trivial, f.defers, _, [it_845], hl_847, m, _, rfl, o_846⟩

theorem Wk.slices_siftDownOrdered_int64 {W w : World} {G : GH} {H : List Itm} {v0 : Value} {it0 : Itm} {x0 : (List Int)} {x1 : Int} {x2 : Int} {x3 : Int} (m : Mem W G w (it0 :: H)) (o0 : Ow (RI .i64) 2 G it0 v0 x0) {y : ((List Int))} (hd : D.slices_siftDownOrdered_int64 x0 x1 x2 x3 = some y) :
  Calls Tryd.prog 143 #[v0, (.int .i64 x1), (.int .i64 x2), (.int .i64 x3)] w (Res W G H (fun G' Ho _ => ∃ i0 : Itm, Ho = [i0] ∧ Ow (RI .i64) 2 G' i0 v0 y)) := by
 refine calls_b (args := [v0, (.int .i64 x1), (.int .i64 x2), (.int .i64 x3)]) (N := 76) [] Tryd.func143 rfl rfl (Nat.le_of_ble_eq_true rfl) rfl fun a f => ?_
 unfold D.slices_siftDownOrdered_int64 at hd
 refine k_seq (k_region ?_)
 refine l_mv f rfl rfl fun a f => ?_
 refine l_as f rfl rfl fun a f => ?_
 refine l_nil ?_
 obtain ⟨q_182, hl_183, hd⟩ := bind_some hd
 refine k_cut (fun a w => ∃ q_182' : (List Int), q_182 = .inl q_182' ∧ ∃ l_283 : List Int, l_283 = q_182' ∧ ∃ (G_282 : GH) (it_284 : Itm), GLe G G_282 ∧ Fr a 76 [] ∧ Mem W G_282 w (it_284 :: H) ∧ Ow (RI .i64) 2 G_282 it_284 v0 l_283) ?_ ?_
 ·refine k_block ?_
  refine k_loop (fun s_186 a w => ∃ l_189 : List Int, ∃ x_192 : Int, (l_189, x_192) = s_186 ∧ ∃ (G_188 : GH) (it_190 : Itm), GLe G G_188 ∧ Fr a 76 [(0, v0), (2, (.int .i64 x2)), (3, (.int .i64 x3)), (8, (.int .i64 x_192))] ∧ Mem W G_188 w (it_190 :: H) ∧ Ow (RI .i64) 2 G_188 it_190 v0 l_189) hl_183 ⟨_, _, rfl, _, it0, (GLe.refl _), f.weak ⟨rfl, rfl, rfl, rfl, trivial⟩, m, o0⟩ ?_
  clear hl_183 f m
  rintro s_186 o_187 hs_184 hq_185 a w ⟨l_189, x_192, rfl, G_188, it_190, hl_193, f, m, o_191⟩
  refine k_block (k_seq (k_region ?_))
  refine l_mv f rfl rfl fun a f => ?_
  refine l_in f rfl rfl rfl b_mul fun a f => ?_
  refine l_in f rfl rfl rfl b_add fun a f => ?_
  refine l_as f rfl rfl fun a f => ?_
  refine l_nil (k_seq (k_seq (k_region ?_)))
  refine l_mv f rfl rfl fun a f => ?_
  refine l_mv f rfl rfl fun a f => ?_
  refine l_in f rfl rfl rfl b_geq fun a f => ?_
  refine l_nil ?_
  rcases cond_some hs_184 with ⟨hc_287, hs_184⟩ | ⟨hc_287, hs_184⟩
  ·refine k_true f rfl hc_287 ?_
   refine k_exit rfl ?_
   obtain rfl := sj hs_184
   obtain rfl := hq_185 _ rfl
   exact ⟨_, rfl, _, rfl, _, it_190, hl_193, f.weak trivial, m, o_191⟩
  ·refine k_false f rfl hc_287 ?_
   refine k_skip ?_
   refine k_seq (k_seq ?_)
   refine k_draw 20 Follows (by kernel_rfl) m ?_
   refine q_mv 0 20 rfl (by kernel_rfl) f rfl rfl rfl fun a f => ?_
   refine q_p 1 20 rfl (by kernel_rfl) f rfl rfl rfl (fun _ => r_int (f.eval rfl) (f.eval rfl) b_add) fun a f => ?_
   refine q_mv 2 20 rfl (by kernel_rfl) f rfl rfl rfl fun a f => ?_
   refine q_p 3 20 rfl (by kernel_rfl) f rfl rfl rfl (fun _ => r_int (f.eval rfl) (f.eval rfl) b_lss) fun a f => ?_
   refine q_mv 4 20 rfl (by kernel_rfl) f rfl rfl rfl fun a f => ?_
   obtain ⟨b_305, hj_306, hs_184⟩ := bind_some hs_184
   refine q_cut (fuel' := 0) (listed' := #[true, true, true, true, true, true, true, true, true, true, true, true, true, true, true, true, true, true, true, true]) (fun a => Fr a 76 [(0, v0), (2, (.int .i64 x2)), (3, (.int .i64 x3)), (8, (.int .i64 x_192)), (9, (.int .i64 (IntKind.i64.wrap ((IntKind.i64.wrap (2 * x_192)) + 1)))), (16, (.bool (decide (x2 ≤ (IntKind.i64.wrap ((IntKind.i64.wrap (2 * x_192)) + 1)))))), (17, (.int .i64 (IntKind.i64.wrap ((IntKind.i64.wrap (2 * x_192)) + 1)))), (18, (.int .i64 (IntKind.i64.wrap ((IntKind.i64.wrap ((IntKind.i64.wrap (2 * x_192)) + 1)) + 1)))), (19, (.int .i64 x2)), (20, (.bool (decide ((IntKind.i64.wrap ((IntKind.i64.wrap ((IntKind.i64.wrap (2 * x_192)) + 1)) + 1)) < x2)))), (21, (.bool (decide ((IntKind.i64.wrap ((IntKind.i64.wrap ((IntKind.i64.wrap (2 * x_192)) + 1)) + 1)) < x2)))), (36, (.bool b_305))]) ?_ ?_
   ·intro a f
    refine q_end fun G_322 w hl_323 m => ?_
    have o_191 := Ow.mono (RI.mono _) hl_323 o_191
    refine l_nil ?_
    obtain ⟨j_325, hj_326, hs_184⟩ := bind_some hs_184
    refine k_cut (fun a w => ∃ x_328 : Int, x_328 = j_325 ∧ ∃ (G_327 : GH), GLe G_322 G_327 ∧ Fr a 76 [(0, v0), (2, (.int .i64 x2)), (3, (.int .i64 x3)), (8, (.int .i64 x_192)), (9, (.int .i64 x_328))] ∧ Mem W G_327 w (it_190 :: H)) ?_ ?_
    ·rcases cond_some hj_326 with ⟨hc_330, hj_326⟩ | ⟨hc_330, hj_326⟩
     ·refine k_true f rfl hc_330 ?_
      refine k_region ?_
      refine l_mv f rfl rfl fun a f => ?_
      refine l_in f rfl rfl rfl b_add fun a f => ?_
      refine l_as f rfl rfl fun a f => ?_
      refine l_nil ?_
      obtain rfl := sj hj_326
      exact ⟨_, rfl, _, (GLe.refl _), f.weak ⟨rfl, rfl, rfl, rfl, rfl, trivial⟩, m⟩
     ·refine k_false f rfl hc_330 ?_
      refine k_skip ?_
      obtain rfl := sj hj_326
      exact ⟨_, rfl, _, (GLe.refl _), f.weak ⟨rfl, rfl, rfl, rfl, rfl, trivial⟩, m⟩
    ·rintro a w ⟨x_328, rfl, G_327, hl_329, f, m⟩
     have o_191 := Ow.mono (RI.mono _) hl_329 o_191
     refine k_seq (k_seq ?_)
     refine k_draw 14 Follows (by kernel_rfl) m ?_
     refine q_mv 0 14 rfl (by kernel_rfl) f rfl rfl rfl fun a f => ?_
     refine q_mv 1 14 rfl (by kernel_rfl) f rfl rfl rfl fun a f => ?_
     refine q_mv 2 14 rfl (by kernel_rfl) f rfl rfl rfl fun a f => ?_
     refine q_p 3 14 rfl (by kernel_rfl) f rfl rfl rfl (fun _ => r_int (f.eval rfl) (f.eval rfl) b_add) fun a f => ?_
     obtain ⟨e_331, he_332, hs_184⟩ := bind_some hs_184
     refine q_own_at (i := 4) 14 0 m o_191 rfl T31 he_332 rfl (by kernel_rfl) rfl f rfl rfl rfl rfl fun p_333 a ha_334 f => ?_
     refine q_own_load (i := 5) 14 0 o_191 rfl Pl2 ha_334 he_332 rfl (by kernel_rfl) rfl f rfl rfl rfl fun c_335 a h_336 f => ?_
     subst h_336
     refine q_mv 6 14 rfl (by kernel_rfl) f rfl rfl rfl fun a f => ?_
     refine q_mv 7 14 rfl (by kernel_rfl) f rfl rfl rfl fun a f => ?_
     refine q_mv 8 14 rfl (by kernel_rfl) f rfl rfl rfl fun a f => ?_
     refine q_p 9 14 rfl (by kernel_rfl) f rfl rfl rfl (fun _ => r_int (f.eval rfl) (f.eval rfl) b_add) fun a f => ?_
     obtain ⟨e_337, he_338, hs_184⟩ := bind_some hs_184
     refine q_own_at (i := 10) 14 0 m o_191 rfl T31 he_338 rfl (by kernel_rfl) rfl f rfl rfl rfl rfl fun p_339 a ha_340 f => ?_
     refine q_own_load (i := 11) 14 0 o_191 rfl Pl2 ha_340 he_338 rfl (by kernel_rfl) rfl f rfl rfl rfl fun c_341 a h_342 f => ?_
     subst h_342
     obtain ⟨y_343, hy_344, hs_184⟩ := bind_some hs_184
     refine q_call (i := 12) 14 rfl (by kernel_rfl) rfl f rfl rfl rfl Tryd.call138 (fun _ _ w hG_345 m => Wk.cmp_Less_int64 m  hy_344) fun a f => ?_
     refine q_p 13 14 rfl (by kernel_rfl) f rfl rfl rfl (fun _ => r_not (f.eval rfl)) fun a f => ?_
     refine q_end fun G_346 w hl_347 m => ?_
     have o_191 := Ow.mono (RI.mono _) hl_347 o_191
     refine l_nil ?_
     rcases cond_some hs_184 with ⟨hc_348, hs_184⟩ | ⟨hc_348, hs_184⟩
     ·refine k_true f rfl hc_348 ?_
      refine k_ret ?_
      obtain rfl := sj hs_184
      obtain rfl := hq_185 _ rfl
      obtain rfl := sj hd
      exact ⟨[], trivial, f.defers, _, [it_190], (GLe.trans hl_193 (GLe.trans hl_323 (GLe.trans hl_329 hl_347))), m, _, rfl, o_191⟩
     ·refine k_false f rfl hc_348 ?_
      refine k_skip ?_
      refine k_seq ?_
      refine k_draw0 Follows m ?_
      refine p_p 4 rfl (by kernel_rfl) f rfl rfl rfl (fun _ => r_move (f.eval rfl)) fun a f => ?_
      refine p_p 5 rfl (by kernel_rfl) f rfl rfl rfl (fun _ => r_move (f.eval rfl)) fun a f => ?_
      refine p_p 6 rfl (by kernel_rfl) f rfl rfl rfl (fun _ => r_move (f.eval rfl)) fun a f => ?_
      refine p_p 7 rfl (by kernel_rfl) f rfl rfl rfl (fun _ => r_int (f.eval rfl) (f.eval rfl) b_add) fun a f => ?_
      refine k_draw1 240021 17 (by kernel_rfl) rfl ?_
      refine q_mv 0 240021 rfl (by kernel_rfl) f rfl rfl rfl fun a f => ?_
      refine q_mv 1 240021 rfl (by kernel_rfl) f rfl rfl rfl fun a f => ?_
      refine q_mv 2 240021 rfl (by kernel_rfl) f rfl rfl rfl fun a f => ?_
      refine q_p 3 240021 rfl (by kernel_rfl) f rfl rfl rfl (fun _ => r_int (f.eval rfl) (f.eval rfl) b_add) fun a f => ?_
      refine q_mv 8 240021 rfl (by kernel_rfl) f rfl rfl rfl fun a f => ?_
      refine q_mv 9 240021 rfl (by kernel_rfl) f rfl rfl rfl fun a f => ?_
      refine q_mv 10 240021 rfl (by kernel_rfl) f rfl rfl rfl fun a f => ?_
      refine q_p 11 240021 rfl (by kernel_rfl) f rfl rfl rfl (fun _ => r_int (f.eval rfl) (f.eval rfl) b_add) fun a f => ?_
      obtain ⟨e_349, he_350, hs_184⟩ := bind_some hs_184
      refine q_own_at (i := 12) 240021 0 m o_191 rfl T31 he_350 rfl (by kernel_rfl) rfl f rfl rfl rfl rfl fun p_351 a ha_352 f => ?_
      refine q_own_load (i := 13) 240021 0 o_191 rfl Pl2 ha_352 he_350 rfl (by kernel_rfl) rfl f rfl rfl rfl fun c_353 a h_354 f => ?_
      subst h_354
      refine q_mv 14 240021 rfl (by kernel_rfl) f rfl rfl rfl fun a f => ?_
      refine q_mv 15 240021 rfl (by kernel_rfl) f rfl rfl rfl fun a f => ?_
      refine q_mv 16 240021 rfl (by kernel_rfl) f rfl rfl rfl fun a f => ?_
      refine q_p 17 240021 rfl (by kernel_rfl) f rfl rfl rfl (fun _ => r_int (f.eval rfl) (f.eval rfl) b_add) fun a f => ?_
      obtain ⟨e_355, he_356, hs_184⟩ := bind_some hs_184
      refine q_own_at (i := 18) 240021 0 m o_191 rfl T31 he_356 rfl (by kernel_rfl) rfl f rfl rfl rfl rfl fun p_357 a ha_358 f => ?_
      refine q_own_load (i := 19) 240021 0 o_191 rfl Pl2 ha_358 he_356 rfl (by kernel_rfl) rfl f rfl rfl rfl fun c_359 a h_360 f => ?_
      subst h_360
      obtain ⟨e_361, he_362, hs_184⟩ := bind_some hs_184
      refine q_own_at (i := 20) 240021 0 m o_191 rfl T31 he_362 rfl (by kernel_rfl) rfl f rfl rfl rfl rfl fun p_363 a ha_364 f => ?_
      refine q_end fun G_365 w hl_366 m => ?_
      have o_191 := Ow.mono (RI.mono _) hl_366 o_191
      refine l_own_store 0 m o_191 rfl Tryd.sizeOf2 f rfl rfl ha_364 he_362 rfl rfl rfl fun it_367 w m o_368 => ?_
      obtain ⟨e_369, he_370, hs_184⟩ := bind_some hs_184
      refine l_own_at 0 m o_368 rfl T31 f rfl rfl rfl he_370 fun p_371 a ha_372 f => ?_
      refine l_own_store 0 m o_368 rfl Tryd.sizeOf2 f rfl rfl ha_372 he_370 rfl rfl rfl fun it_373 w m o_374 => ?_
      refine l_nil (k_region ?_)
      refine l_mv f rfl rfl fun a f => ?_
      refine l_as f rfl rfl fun a f => ?_
      refine l_nil ?_
      obtain rfl := sj hs_184
      exact ⟨_, rfl, _, _, rfl, _, it_373, (GLe.trans hl_193 (GLe.trans hl_323 (GLe.trans hl_329 (GLe.trans hl_347 hl_366)))), f.weak ⟨rfl, rfl, rfl, rfl, trivial⟩, m, o_374⟩
   ·intro K_304
    rcases cond_some hj_306 with ⟨hc_288, hj_306⟩ | ⟨hc_288, hj_306⟩
    ·refine q_mv 5 20 rfl (by kernel_rfl) f (wanted_of f rfl rfl rfl hc_288) rfl rfl fun a f => ?_
     refine q_mv 6 20 rfl (by kernel_rfl) f (wanted_of f rfl rfl rfl hc_288) rfl rfl fun a f => ?_
     refine q_mv 7 20 rfl (by kernel_rfl) f (wanted_of f rfl rfl rfl hc_288) rfl rfl fun a f => ?_
     refine q_p 8 20 rfl (by kernel_rfl) f (wanted_of f rfl rfl rfl hc_288) rfl rfl (fun _ => r_int (f.eval rfl) (f.eval rfl) b_add) fun a f => ?_
     obtain ⟨e_307, he_308, hj_306⟩ := bind_some hj_306
     refine q_own_at (i := 9) 20 0 m o_191 rfl T31 he_308 rfl (by kernel_rfl) rfl f (wanted_of f rfl rfl rfl hc_288) rfl rfl rfl fun p_309 a ha_310 f => ?_
     refine q_own_load (i := 10) 20 0 o_191 rfl Pl2 ha_310 he_308 rfl (by kernel_rfl) rfl f (wanted_of f rfl rfl rfl hc_288) rfl rfl fun c_311 a h_312 f => ?_
     subst h_312
     refine q_mv 11 20 rfl (by kernel_rfl) f (wanted_of f rfl rfl rfl hc_288) rfl rfl fun a f => ?_
     refine q_mv 12 20 rfl (by kernel_rfl) f (wanted_of f rfl rfl rfl hc_288) rfl rfl fun a f => ?_
     refine q_mv 13 20 rfl (by kernel_rfl) f (wanted_of f rfl rfl rfl hc_288) rfl rfl fun a f => ?_
     refine q_p 14 20 rfl (by kernel_rfl) f (wanted_of f rfl rfl rfl hc_288) rfl rfl (fun _ => r_int (f.eval rfl) (f.eval rfl) b_add) fun a f => ?_
     refine q_p 15 20 rfl (by kernel_rfl) f (wanted_of f rfl rfl rfl hc_288) rfl rfl (fun _ => r_int (f.eval rfl) (f.eval rfl) b_add) fun a f => ?_
     obtain ⟨e_313, he_314, hj_306⟩ := bind_some hj_306
     refine q_own_at (i := 16) 20 0 m o_191 rfl T31 he_314 rfl (by kernel_rfl) rfl f (wanted_of f rfl rfl rfl hc_288) rfl rfl rfl fun p_315 a ha_316 f => ?_
     refine q_own_load (i := 17) 20 0 o_191 rfl Pl2 ha_316 he_314 rfl (by kernel_rfl) rfl f (wanted_of f rfl rfl rfl hc_288) rfl rfl fun c_317 a h_318 f => ?_
     subst h_318
     obtain ⟨y_319, hy_320, hj_306⟩ := bind_some hj_306
     refine q_call (i := 18) 20 rfl (by kernel_rfl) rfl f (wanted_of f rfl rfl rfl hc_288) rfl rfl Tryd.call138 (fun _ _ w hG_321 m => Wk.cmp_Less_int64 m  hy_320) fun a f => ?_
     refine q_p 19 20 rfl (by kernel_rfl) f rfl rfl rfl (fun _ => r_pickT (f.eval rfl) hc_288 (f.eval rfl)) fun a f => ?_
     obtain rfl := sj hj_306
     exact K_304 _ (f.weak ⟨rfl, rfl, rfl, rfl, rfl, rfl, rfl, rfl, rfl, rfl, rfl, rfl, trivial⟩)
    ·refine q_ng 5 20 rfl (by kernel_rfl) f rfl rfl hc_288 rfl fun a f => ?_
     refine q_ng 6 20 rfl (by kernel_rfl) f rfl rfl hc_288 rfl fun a f => ?_
     refine q_ng 7 20 rfl (by kernel_rfl) f rfl rfl hc_288 rfl fun a f => ?_
     refine q_ng 8 20 rfl (by kernel_rfl) f rfl rfl hc_288 rfl fun a f => ?_
     refine q_ng 9 20 rfl (by kernel_rfl) f rfl rfl hc_288 rfl fun a f => ?_
     refine q_ng 10 20 rfl (by kernel_rfl) f rfl rfl hc_288 rfl fun a f => ?_
     refine q_ng 11 20 rfl (by kernel_rfl) f rfl rfl hc_288 rfl fun a f => ?_
     refine q_ng 12 20 rfl (by kernel_rfl) f rfl rfl hc_288 rfl fun a f => ?_
     refine q_ng 13 20 rfl (by kernel_rfl) f rfl rfl hc_288 rfl fun a f => ?_
     refine q_ng 14 20 rfl (by kernel_rfl) f rfl rfl hc_288 rfl fun a f => ?_
     refine q_ng 15 20 rfl (by kernel_rfl) f rfl rfl hc_288 rfl fun a f => ?_
     refine q_ng 16 20 rfl (by kernel_rfl) f rfl rfl hc_288 rfl fun a f => ?_
     refine q_ng 17 20 rfl (by kernel_rfl) f rfl rfl hc_288 rfl fun a f => ?_
     refine q_ng 18 20 rfl (by kernel_rfl) f rfl rfl hc_288 rfl fun a f => ?_
     refine q_p 19 20 rfl (by kernel_rfl) f rfl rfl rfl (fun _ => r_pickF (f.eval rfl) hc_288 (f.eval rfl)) fun a f => ?_
     obtain rfl := sj hj_306
     exact K_304 _ (f.weak ⟨rfl, rfl, rfl, rfl, rfl, rfl, rfl, rfl, rfl, rfl, rfl, rfl, trivial⟩)
 ·rintro a w ⟨_, rfl, l_283, rfl, G_282, it_284, hl_286, f, m, o_285⟩
  obtain rfl := sj hd
  exact ⟨[], trivial, f.defers, _, [it_284], hl_286, m, _, rfl, o_285⟩

theorem Wk.slices_heapSortOrdered_int64 {W w : World} {G : GH} {H : List Itm} {v0 : Value} {it0 : Itm} {x0 : (List Int)} {x1 : Int} {x2 : Int} (m : Mem W G w (it0 :: H)) (o0 : Ow (RI .i64) 2 G it0 v0 x0) {y : ((List Int))} (hd : D.slices_heapSortOrdered_int64 x0 x1 x2 = some y) :
  Calls Tryd.prog 133 #[v0, (.int .i64 x1), (.int .i64 x2)] w (Res W G H (fun G' Ho _ => ∃ i0 : Itm, Ho = [i0] ∧ Ow (RI .i64) 2 G' i0 v0 y)) := by
 refine calls_b (args := [v0, (.int .i64 x1), (.int .i64 x2)]) (N := 56) [] Tryd.func133 rfl rfl (Nat.le_of_ble_eq_true rfl) rfl fun a f => ?_
 unfold D.slices_heapSortOrdered_int64 at hd
 refine k_seq (k_region ?_)
 refine l_mv f rfl rfl fun a f => ?_
 refine l_as f rfl rfl fun a f => ?_
 refine l_nil (k_seq (k_region ?_))
 refine l_as f rfl rfl fun a f => ?_
 refine l_nil (k_seq (k_region ?_))
 refine l_mv f rfl rfl fun a f => ?_
 refine l_mv f rfl rfl fun a f => ?_
 refine l_in f rfl rfl rfl b_sub fun a f => ?_
 refine l_as f rfl rfl fun a f => ?_
 refine l_nil (k_seq (k_seq (k_region ?_)))
 refine l_mv f rfl rfl fun a f => ?_
 refine l_in f rfl rfl rfl b_sub fun a f => ?_
 refine l_in f rfl rfl rfl (b_quo rfl) fun a f => ?_
 refine l_as f rfl rfl fun a f => ?_
 refine l_nil ?_
 obtain ⟨q_26, hl_27, hd⟩ := bind_some hd
 refine k_cut (fun a w => ∃ l_49 : List Int, l_49 = q_26 ∧ ∃ (G_48 : GH) (it_50 : Itm), GLe G G_48 ∧ Fr a 56 [(0, v0), (6, (.int .i64 x1)), (7, (.int .i64 0)), (8, (.int .i64 (IntKind.i64.wrap (x2 - x1))))] ∧ Mem W G_48 w (it_50 :: H) ∧ Ow (RI .i64) 2 G_48 it_50 v0 l_49) ?_ ?_
 ·refine k_block ?_
  refine k_loop (fun s_30 a w => ∃ l_33 : List Int, ∃ x_36 : Int, (l_33, x_36) = s_30 ∧ ∃ (G_32 : GH) (it_34 : Itm), GLe G G_32 ∧ Fr a 56 [(0, v0), (6, (.int .i64 x1)), (7, (.int .i64 0)), (8, (.int .i64 (IntKind.i64.wrap (x2 - x1)))), (9, (.int .i64 x_36))] ∧ Mem W G_32 w (it_34 :: H) ∧ Ow (RI .i64) 2 G_32 it_34 v0 l_33) hl_27 ⟨_, _, rfl, _, it0, (GLe.refl _), f.weak ⟨rfl, rfl, rfl, rfl, rfl, trivial⟩, m, o0⟩ ?_
  clear hl_27 f m
  rintro s_30 o_31 hs_28 hq_29 a w ⟨l_33, x_36, rfl, G_32, it_34, hl_37, f, m, o_35⟩
  refine k_seq (k_seq (k_region ?_))
  refine l_mv f rfl rfl fun a f => ?_
  refine l_in f rfl rfl rfl b_geq fun a f => ?_
  refine l_nil ?_
  rcases cond_some hs_28 with ⟨hc_53, hs_28⟩ | ⟨hc_53, hs_28⟩
  ·refine k_true f rfl hc_53 ?_
   refine k_skip ?_
   refine k_seq (k_block (k_region ?_))
   refine l_mv f rfl rfl fun a f => ?_
   refine l_mv f rfl rfl fun a f => ?_
   refine l_mv f rfl rfl fun a f => ?_
   refine l_mv f rfl rfl fun a f => ?_
   obtain ⟨y_54, hy_55, hs_28⟩ := bind_some hs_28
   refine l_res f rfl rfl Tryd.call143 (Wk.slices_siftDownOrdered_int64 m o_35 hy_55) fun v_59 G_56 Ho_60 w hl_57 m hQ_58 a f => ?_
   obtain ⟨it_61, rfl, o_62⟩ := hQ_58
   refine l_nil (k_region ?_)
   refine l_mv f rfl rfl fun a f => ?_
   refine l_in f rfl rfl rfl b_sub fun a f => ?_
   refine l_as f rfl rfl fun a f => ?_
   refine l_nil ?_
   obtain rfl := sj hs_28
   exact ⟨_, rfl, _, _, rfl, _, it_61, (GLe.trans hl_37 hl_57), f.weak ⟨rfl, rfl, rfl, rfl, rfl, trivial⟩, m, o_62⟩
  ·refine k_false f rfl hc_53 ?_
   refine k_exit rfl ?_
   obtain rfl := sj hs_28
   obtain rfl := hq_29 _ rfl
   exact ⟨_, rfl, _, it_34, hl_37, f.weak ⟨rfl, rfl, rfl, rfl, trivial⟩, m, o_35⟩
 ·rintro a w ⟨l_49, rfl, G_48, it_50, hl_52, f, m, o_51⟩
  refine k_seq (k_region ?_)
  refine l_mv f rfl rfl fun a f => ?_
  refine l_in f rfl rfl rfl b_sub fun a f => ?_
  refine l_as f rfl rfl fun a f => ?_
  refine l_nil ?_
  obtain ⟨q_140, hl_141, hd⟩ := bind_some hd
  refine k_cut (fun a w => ∃ l_189 : List Int, l_189 = q_140 ∧ ∃ (G_188 : GH) (it_190 : Itm), GLe G_48 G_188 ∧ Fr a 56 [] ∧ Mem W G_188 w (it_190 :: H) ∧ Ow (RI .i64) 2 G_188 it_190 v0 l_189) ?_ ?_
  ·refine k_block ?_
   refine k_loop (fun s_144 a w => ∃ l_147 : List Int, ∃ x_150 : Int, (l_147, x_150) = s_144 ∧ ∃ (G_146 : GH) (it_148 : Itm), GLe G_48 G_146 ∧ Fr a 56 [(0, v0), (6, (.int .i64 x1)), (7, (.int .i64 0)), (10, (.int .i64 x_150))] ∧ Mem W G_146 w (it_148 :: H) ∧ Ow (RI .i64) 2 G_146 it_148 v0 l_147) hl_141 ⟨_, _, rfl, _, it_50, (GLe.refl _), f.weak ⟨rfl, rfl, rfl, rfl, trivial⟩, m, o_51⟩ ?_
   clear hl_141 f m
   rintro s_144 o_145 hs_142 hq_143 a w ⟨l_147, x_150, rfl, G_146, it_148, hl_151, f, m, o_149⟩
   refine k_seq (k_seq (k_region ?_))
   refine l_mv f rfl rfl fun a f => ?_
   refine l_in f rfl rfl rfl b_geq fun a f => ?_
   refine l_nil ?_
   rcases cond_some hs_142 with ⟨hc_193, hs_142⟩ | ⟨hc_193, hs_142⟩
   ·refine k_true f rfl hc_193 ?_
    refine k_skip ?_
    refine k_seq (k_block (k_seq ?_))
    refine k_draw0 Follows m ?_
    refine p_p 2 rfl (by kernel_rfl) f rfl rfl rfl (fun _ => r_move (f.eval rfl)) fun a f => ?_
    refine p_p 3 rfl (by kernel_rfl) f rfl rfl rfl (fun _ => r_move (f.eval rfl)) fun a f => ?_
    refine p_p 4 rfl (by kernel_rfl) f rfl rfl rfl (fun _ => r_move (f.eval rfl)) fun a f => ?_
    refine p_p 5 rfl (by kernel_rfl) f rfl rfl rfl (fun _ => r_int (f.eval rfl) (f.eval rfl) b_add) fun a f => ?_
    refine k_draw1 60017 13 (by kernel_rfl) rfl ?_
    refine q_mv 0 60017 rfl (by kernel_rfl) f rfl rfl rfl fun a f => ?_
    refine q_mv 1 60017 rfl (by kernel_rfl) f rfl rfl rfl fun a f => ?_
    refine q_mv 6 60017 rfl (by kernel_rfl) f rfl rfl rfl fun a f => ?_
    refine q_mv 7 60017 rfl (by kernel_rfl) f rfl rfl rfl fun a f => ?_
    refine q_mv 8 60017 rfl (by kernel_rfl) f rfl rfl rfl fun a f => ?_
    refine q_p 9 60017 rfl (by kernel_rfl) f rfl rfl rfl (fun _ => r_int (f.eval rfl) (f.eval rfl) b_add) fun a f => ?_
    obtain ⟨e_194, he_195, hs_142⟩ := bind_some hs_142
    refine q_own_at (i := 10) 60017 0 m o_149 rfl T31 he_195 rfl (by kernel_rfl) rfl f rfl rfl rfl rfl fun p_196 a ha_197 f => ?_
    refine q_own_load (i := 11) 60017 0 o_149 rfl Pl2 ha_197 he_195 rfl (by kernel_rfl) rfl f rfl rfl rfl fun c_198 a h_199 f => ?_
    subst h_199
    refine q_mv 12 60017 rfl (by kernel_rfl) f rfl rfl rfl fun a f => ?_
    refine q_mv 13 60017 rfl (by kernel_rfl) f rfl rfl rfl fun a f => ?_
    obtain ⟨e_200, he_201, hs_142⟩ := bind_some hs_142
    refine q_own_at (i := 14) 60017 0 m o_149 rfl T31 he_201 rfl (by kernel_rfl) rfl f rfl rfl rfl rfl fun p_202 a ha_203 f => ?_
    refine q_own_load (i := 15) 60017 0 o_149 rfl Pl2 ha_203 he_201 rfl (by kernel_rfl) rfl f rfl rfl rfl fun c_204 a h_205 f => ?_
    subst h_205
    obtain ⟨e_206, he_207, hs_142⟩ := bind_some hs_142
    refine q_own_at (i := 16) 60017 0 m o_149 rfl T31 he_207 rfl (by kernel_rfl) rfl f rfl rfl rfl rfl fun p_208 a ha_209 f => ?_
    refine q_end fun G_210 w hl_211 m => ?_
    have o_149 := Ow.mono (RI.mono _) hl_211 o_149
    refine l_own_store 0 m o_149 rfl Tryd.sizeOf2 f rfl rfl ha_209 he_207 rfl rfl rfl fun it_212 w m o_213 => ?_
    obtain ⟨e_214, he_215, hs_142⟩ := bind_some hs_142
    refine l_own_at 0 m o_213 rfl T31 f rfl rfl rfl he_215 fun p_216 a ha_217 f => ?_
    refine l_own_store 0 m o_213 rfl Tryd.sizeOf2 f rfl rfl ha_217 he_215 rfl rfl rfl fun it_218 w m o_219 => ?_
    refine l_nil (k_region ?_)
    refine l_mv f rfl rfl fun a f => ?_
    refine l_mv f rfl rfl fun a f => ?_
    refine l_mv f rfl rfl fun a f => ?_
    refine l_mv f rfl rfl fun a f => ?_
    obtain ⟨y_220, hy_221, hs_142⟩ := bind_some hs_142
    refine l_res f rfl rfl Tryd.call143 (Wk.slices_siftDownOrdered_int64 m o_219 hy_221) fun v_225 G_222 Ho_226 w hl_223 m hQ_224 a f => ?_
    obtain ⟨it_227, rfl, o_228⟩ := hQ_224
    refine l_nil (k_region ?_)
    refine l_mv f rfl rfl fun a f => ?_
    refine l_in f rfl rfl rfl b_sub fun a f => ?_
    refine l_as f rfl rfl fun a f => ?_
    refine l_nil ?_
    obtain rfl := sj hs_142
    exact ⟨_, rfl, _, _, rfl, _, it_227, (GLe.trans hl_151 (GLe.trans hl_211 hl_223)), f.weak ⟨rfl, rfl, rfl, rfl, trivial⟩, m, o_228⟩
   ·refine k_false f rfl hc_193 ?_
    refine k_exit rfl ?_
    obtain rfl := sj hs_142
    obtain rfl := hq_143 _ rfl
    exact ⟨_, rfl, _, it_148, hl_151, f.weak trivial, m, o_149⟩
  ·rintro a w ⟨l_189, rfl, G_188, it_190, hl_192, f, m, o_191⟩
   obtain rfl := sj hd
   exact ⟨[], trivial, f.defers, _, [it_190], (GLe.trans hl_52 hl_192), m, _, rfl, o_191⟩

theorem Wk.slices_nextPowerOfTwo {W w : World} {G : GH} {H : List Itm} {x0 : Int} (m : Mem W G w (H))  {y : Int} (hd : D.slices_nextPowerOfTwo x0 = some y) :
  Calls Tryd.prog 144 #[(.int .i64 x0)] w (Res W G H (fun _ Ho v => Ho = [] ∧ v = (.int .u64 y))) := by
 refine calls_b (args := [(.int .i64 x0)]) (N := 7) [.tmp 2] Tryd.func144 rfl rfl (Nat.le_of_ble_eq_true rfl) rfl fun a f => ?_
 unfold D.slices_nextPowerOfTwo at hd
 refine k_seq (k_region ?_)
 refine l_as f rfl rfl fun a f => ?_
 refine l_nil (k_seq (k_region ?_))
 refine l_mv f rfl rfl fun a f => ?_
 refine l_op f rfl rfl rfl (r_conv (f.eval rfl) ⟨_, Tryd.underlying3⟩ Tryd.underlying111) fun a f => ?_
 obtain ⟨y_1, hy_2, hd⟩ := bind_some hd
 refine l_res f rfl rfl Tryd.call129 (Wk.math_bits_Len m  hy_2) fun v_6 G_3 Ho_7 w hl_4 m hQ_5 a f => ?_
 obtain ⟨rfl, rfl⟩ := hQ_5
 obtain ⟨hn_8, hd⟩ := cond_none hd
 refine l_op f rfl rfl rfl (r_shl (f.eval rfl) (f.eval rfl) hn_8) fun a f => ?_
 refine l_as f rfl rfl fun a f => ?_
 refine l_nil ?_
 refine k_ret ?_
 obtain rfl := sj hd
 exact ⟨[(.int .u64 (ishl .u64 1 y_1))], ⟨f.get _ _ rfl, trivial⟩, f.defers, _, [], hl_4, m, rfl, rfl⟩

theorem Wk.slices_xorshift_Next {W w : World} {G : GH} {H : List Itm} {b0 : Nat} {x0_0 : Int} (m : Mem W G w (Itm.box b0 145 [(.int .u64 x0_0)] :: H))  {y : Int × Int} (hd : D.slices_xorshift_Next x0_0 = some y) :
  Calls Tryd.prog 145 #[(.pointer (some ⟨b0, 0, none⟩))] w (Res W G H (fun _ Ho v => Ho = [Itm.box b0 145 [(.int .u64 y.2)]] ∧ v = (.int .u64 y.1))) := by
 refine calls_b (args := [(.pointer (some ⟨b0, 0, none⟩))]) (N := 33) [.tmp 2] Tryd.func145 rfl rfl (Nat.le_of_ble_eq_true rfl) rfl fun a f => ?_
 unfold D.slices_xorshift_Next at hd
 refine k_seq (k_region ?_)
 refine l_as f rfl rfl fun a f => ?_
 refine l_nil (k_seq ?_)
 refine k_draw 9 Follows (by kernel_rfl) m ?_
 refine q_mv 0 9 rfl (by kernel_rfl) f rfl rfl rfl fun a f => ?_
 refine q_p 1 9 rfl (by kernel_rfl) f rfl rfl rfl (fun _ => r_nilCheck (f.eval rfl)) fun a f => ?_
 refine q_boxCell (i := 2) 9 0 Pl145 rfl rfl rfl (by kernel_rfl) rfl f rfl rfl rfl fun a f => ?_
 refine q_mv 3 9 rfl (by kernel_rfl) f rfl rfl rfl fun a f => ?_
 refine q_p 4 9 rfl (by kernel_rfl) f rfl rfl rfl (fun _ => r_nilCheck (f.eval rfl)) fun a f => ?_
 refine q_boxCell (i := 5) 9 0 Pl145 rfl rfl rfl (by kernel_rfl) rfl f rfl rfl rfl fun a f => ?_
 refine q_p 6 9 rfl (by kernel_rfl) f rfl rfl rfl (fun _ => r_shl (f.eval rfl) (f.eval rfl) (by decide)) fun a f => ?_
 refine q_p 7 9 rfl (by kernel_rfl) f rfl rfl rfl (fun _ => r_int (f.eval rfl) (f.eval rfl) b_xor) fun a f => ?_
 refine q_p 8 9 rfl (by kernel_rfl) f rfl rfl rfl (fun _ => r_nilCheck (f.eval rfl)) fun a f => ?_
 refine q_end fun G_2 w hl_3 m => ?_
 refine l_boxStore 0 0 (ds := [(.int .u64 (ixor .u64 x0_0 (ishl .u64 x0_0 13)))]) m Tryd.sizeOf145 f rfl rfl rfl (ones_cons rfl ones_nil) rfl (Nat.le_of_ble_eq_true rfl) rfl fun w m => ?_
 refine l_nil (k_seq ?_)
 refine k_draw 9 Follows (by kernel_rfl) m ?_
 refine q_mv 0 9 rfl (by kernel_rfl) f rfl rfl rfl fun a f => ?_
 refine q_p 1 9 rfl (by kernel_rfl) f rfl rfl rfl (fun _ => r_nilCheck (f.eval rfl)) fun a f => ?_
 refine q_boxCell (i := 2) 9 0 Pl145 rfl rfl rfl (by kernel_rfl) rfl f rfl rfl rfl fun a f => ?_
 refine q_mv 3 9 rfl (by kernel_rfl) f rfl rfl rfl fun a f => ?_
 refine q_p 4 9 rfl (by kernel_rfl) f rfl rfl rfl (fun _ => r_nilCheck (f.eval rfl)) fun a f => ?_
 refine q_boxCell (i := 5) 9 0 Pl145 rfl rfl rfl (by kernel_rfl) rfl f rfl rfl rfl fun a f => ?_
 refine q_p 6 9 rfl (by kernel_rfl) f rfl rfl rfl (fun _ => r_shr (f.eval rfl) (f.eval rfl) (by decide)) fun a f => ?_
 refine q_p 7 9 rfl (by kernel_rfl) f rfl rfl rfl (fun _ => r_int (f.eval rfl) (f.eval rfl) b_xor) fun a f => ?_
 refine q_p 8 9 rfl (by kernel_rfl) f rfl rfl rfl (fun _ => r_nilCheck (f.eval rfl)) fun a f => ?_
 refine q_end fun G_5 w hl_6 m => ?_
 refine l_boxStore 0 0 (ds := [(.int .u64 (ixor .u64 (ixor .u64 x0_0 (ishl .u64 x0_0 13)) (ishr .u64 (ixor .u64 x0_0 (ishl .u64 x0_0 13)) 7)))]) m Tryd.sizeOf145 f rfl rfl rfl (ones_cons rfl ones_nil) rfl (Nat.le_of_ble_eq_true rfl) rfl fun w m => ?_
 refine l_nil (k_seq ?_)
 refine k_draw 9 Follows (by kernel_rfl) m ?_
 refine q_mv 0 9 rfl (by kernel_rfl) f rfl rfl rfl fun a f => ?_
 refine q_p 1 9 rfl (by kernel_rfl) f rfl rfl rfl (fun _ => r_nilCheck (f.eval rfl)) fun a f => ?_
 refine q_boxCell (i := 2) 9 0 Pl145 rfl rfl rfl (by kernel_rfl) rfl f rfl rfl rfl fun a f => ?_
 refine q_mv 3 9 rfl (by kernel_rfl) f rfl rfl rfl fun a f => ?_
 refine q_p 4 9 rfl (by kernel_rfl) f rfl rfl rfl (fun _ => r_nilCheck (f.eval rfl)) fun a f => ?_
 refine q_boxCell (i := 5) 9 0 Pl145 rfl rfl rfl (by kernel_rfl) rfl f rfl rfl rfl fun a f => ?_
 refine q_p 6 9 rfl (by kernel_rfl) f rfl rfl rfl (fun _ => r_shl (f.eval rfl) (f.eval rfl) (by decide)) fun a f => ?_
 refine q_p 7 9 rfl (by kernel_rfl) f rfl rfl rfl (fun _ => r_int (f.eval rfl) (f.eval rfl) b_xor) fun a f => ?_
 refine q_p 8 9 rfl (by kernel_rfl) f rfl rfl rfl (fun _ => r_nilCheck (f.eval rfl)) fun a f => ?_
 refine q_end fun G_8 w hl_9 m => ?_
 refine l_boxStore 0 0 (ds := [(.int .u64 (ixor .u64 (ixor .u64 (ixor .u64 x0_0 (ishl .u64 x0_0 13)) (ishr .u64 (ixor .u64 x0_0 (ishl .u64 x0_0 13)) 7)) (ishl .u64 (ixor .u64 (ixor .u64 x0_0 (ishl .u64 x0_0 13)) (ishr .u64 (ixor .u64 x0_0 (ishl .u64 x0_0 13)) 7)) 17)))]) m Tryd.sizeOf145 f rfl rfl rfl (ones_cons rfl ones_nil) rfl (Nat.le_of_ble_eq_true rfl) rfl fun w m => ?_
 refine l_nil (k_seq (k_region ?_))
 refine l_mv f rfl rfl fun a f => ?_
 refine l_op f rfl rfl rfl (r_nilCheck (f.eval rfl)) fun a f => ?_
 refine l_boxCell 0 0 m Pl145 f rfl rfl rfl rfl fun a f => ?_
 refine l_as f rfl rfl fun a f => ?_
 refine l_nil ?_
 refine k_ret ?_
 obtain rfl := sj hd
 exact ⟨[(.int .u64 (ixor .u64 (ixor .u64 (ixor .u64 x0_0 (ishl .u64 x0_0 13)) (ishr .u64 (ixor .u64 x0_0 (ishl .u64 x0_0 13)) 7)) (ishl .u64 (ixor .u64 (ixor .u64 x0_0 (ishl .u64 x0_0 13)) (ishr .u64 (ixor .u64 x0_0 (ishl .u64 x0_0 13)) 7)) 17)))], ⟨f.get _ _ rfl, trivial⟩, f.defers, _, [Itm.box b0 145 [(.int .u64 (ixor .u64 (ixor .u64 (ixor .u64 x0_0 (ishl .u64 x0_0 13)) (ishr .u64 (ixor .u64 x0_0 (ishl .u64 x0_0 13)) 7)) (ishl .u64 (ixor .u64 (ixor .u64 x0_0 (ishl .u64 x0_0 13)) (ishr .u64 (ixor .u64 x0_0 (ishl .u64 x0_0 13)) 7)) 17)))]], (GLe.trans hl_3 (GLe.trans hl_6 hl_9)), m, rfl, rfl⟩

theorem Wk.slices_breakPatternsOrdered_int64 {W w : World} {G : GH} {H : List Itm} {v0 : Value} {it0 : Itm} {x0 : (List Int)} {x1 : Int} {x2 : Int} (m : Mem W G w (it0 :: H)) (o0 : Ow (RI .i64) 2 G it0 v0 x0) {y : ((List Int))} (hd : D.slices_breakPatternsOrdered_int64 x0 x1 x2 = some y) :
  Calls Tryd.prog 134 #[v0, (.int .i64 x1), (.int .i64 x2)] w (Res W G H (fun G' Ho _ => ∃ i0 : Itm, Ho = [i0] ∧ Ow (RI .i64) 2 G' i0 v0 y)) := by
 refine calls_b (args := [v0, (.int .i64 x1), (.int .i64 x2)]) (N := 65) [] Tryd.func134 rfl rfl (Nat.le_of_ble_eq_true rfl) rfl fun a f => ?_
 unfold D.slices_breakPatternsOrdered_int64 at hd
 refine k_seq (k_region ?_)
 refine l_mv f rfl rfl fun a f => ?_
 refine l_mv f rfl rfl fun a f => ?_
 refine l_in f rfl rfl rfl b_sub fun a f => ?_
 refine l_as f rfl rfl fun a f => ?_
 refine l_nil (k_seq (k_region ?_))
 refine l_mv f rfl rfl fun a f => ?_
 refine l_in f rfl rfl rfl b_geq fun a f => ?_
 refine l_nil ?_
 rcases cond_some hd with ⟨hc_1, hd⟩ | ⟨hc_1, hd⟩
 ·refine k_true f rfl hc_1 ?_
  refine k_seq (k_region ?_)
  refine l_mv f rfl rfl fun a f => ?_
  refine l_op f rfl rfl rfl (r_conv (f.eval rfl) ⟨_, Tryd.underlying3⟩ Tryd.underlying145) fun a f => ?_
  refine l_alloc (cs := [(.int .u64 0)]) Tryd.zeroValue145 m f rfl rfl fun b_3 w a m f => ?_
  refine l_boxStore 0 0 (ds := [(.int .u64 (IntKind.u64.wrap (IntKind.i64.wrap (x2 - x1))))]) m Tryd.sizeOf145 f rfl rfl rfl (ones_cons rfl ones_nil) rfl (Nat.le_of_ble_eq_true rfl) rfl fun w m => ?_
  refine l_nil (k_seq (k_region ?_))
  refine l_mv f rfl rfl fun a f => ?_
  obtain ⟨y_4, hy_5, hd⟩ := bind_some hd
  refine l_res f rfl rfl Tryd.call144 (Wk.slices_nextPowerOfTwo m  hy_5) fun v_9 G_6 Ho_10 w hl_7 m hQ_8 a f => ?_
  obtain ⟨rfl, rfl⟩ := hQ_8
  have o0 := Ow.mono (RI.mono _) hl_7 o0
  refine l_as f rfl rfl fun a f => ?_
  refine l_nil (k_seq (k_region ?_))
  refine l_mv f rfl rfl fun a f => ?_
  refine l_mv f rfl rfl fun a f => ?_
  refine l_in f rfl rfl rfl (b_quo rfl) fun a f => ?_
  refine l_in f rfl rfl rfl b_mul fun a f => ?_
  refine l_in f rfl rfl rfl b_add fun a f => ?_
  refine l_in f rfl rfl rfl b_sub fun a f => ?_
  refine l_as f rfl rfl fun a f => ?_
  refine l_nil ?_
  obtain ⟨q_99, hl_100, hd⟩ := bind_some hd
  refine k_cut (fun a w => ∃ l_154 : List Int, l_154 = q_99 ∧ ∃ (G_153 : GH) (it_155 : Itm), GLe G_6 G_153 ∧ Fr a 65 [] ∧ Mem W G_153 w (it_155 :: H) ∧ Ow (RI .i64) 2 G_153 it_155 v0 l_154) ?_ ?_
  ·refine k_block ?_
   have m := m.front 1 rfl
   have m := m.front 1 rfl
   refine k_loop (fun s_103 a w => ∃ l_106 : List Int, ∃ x_109 : Int, ∃ x_110 : Int, (l_106, x_109, x_110) = s_103 ∧ ∃ (G_105 : GH) (it_107 : Itm), GLe G_6 G_105 ∧ Fr a 65 [(0, v0), (1, (.int .i64 x1)), (6, (.int .i64 (IntKind.i64.wrap (x2 - x1)))), (7, (.pointer (some ⟨b_3, 0, none⟩))), (8, (.int .u64 y_4)), (9, (.int .i64 x_109))] ∧ Mem W G_105 w (Itm.box b_3 145 [(.int .u64 x_110)] :: it_107 :: H) ∧ Ow (RI .i64) 2 G_105 it_107 v0 l_106) hl_100 ⟨_, _, _, rfl, _, it0, (GLe.refl _), f.weak ⟨rfl, rfl, rfl, rfl, rfl, rfl, trivial⟩, m, o0⟩ ?_
   clear hl_100 f m
   rintro s_103 o_104 hs_101 hq_102 a w ⟨l_106, x_109, x_110, rfl, G_105, it_107, hl_111, f, m, o_108⟩
   refine k_seq (k_seq (k_region ?_))
   refine l_mv f rfl rfl fun a f => ?_
   refine l_mv f rfl rfl fun a f => ?_
   refine l_mv f rfl rfl fun a f => ?_
   refine l_in f rfl rfl rfl (b_quo rfl) fun a f => ?_
   refine l_in f rfl rfl rfl b_mul fun a f => ?_
   refine l_in f rfl rfl rfl b_add fun a f => ?_
   refine l_in f rfl rfl rfl b_add fun a f => ?_
   refine l_in f rfl rfl rfl b_leq fun a f => ?_
   refine l_nil ?_
   rcases cond_some hs_101 with ⟨hc_158, hs_101⟩ | ⟨hc_158, hs_101⟩
   ·refine k_true f rfl hc_158 ?_
    refine k_skip ?_
    refine k_seq (k_block (k_seq (k_region ?_)))
    obtain ⟨y_159, hy_160, hs_101⟩ := bind_some hs_101
    refine l_res f rfl rfl Tryd.call145 (Wk.slices_xorshift_Next m  hy_160) fun v_164 G_161 Ho_165 w hl_162 m hQ_163 a f => ?_
    obtain ⟨rfl, rfl⟩ := hQ_163
    have o_108 := Ow.mono (RI.mono _) hl_162 o_108
    refine l_mv f rfl rfl fun a f => ?_
    refine l_in f rfl rfl rfl b_sub fun a f => ?_
    refine l_in f rfl rfl rfl b_and fun a f => ?_
    refine l_op f rfl rfl rfl (r_conv (f.eval rfl) ⟨_, Tryd.underlying111⟩ Tryd.underlying3) fun a f => ?_
    refine l_as f rfl rfl fun a f => ?_
    refine l_nil (k_seq (k_seq (k_region ?_)))
    refine l_mv f rfl rfl fun a f => ?_
    refine l_mv f rfl rfl fun a f => ?_
    refine l_in f rfl rfl rfl b_geq fun a f => ?_
    refine l_nil ?_
    obtain ⟨j_167, hj_168, hs_101⟩ := bind_some hs_101
    refine k_cut (fun a w => ∃ x_170 : Int, x_170 = j_167 ∧ ∃ (G_169 : GH), GLe G_161 G_169 ∧ Fr a 65 [(0, v0), (1, (.int .i64 x1)), (6, (.int .i64 (IntKind.i64.wrap (x2 - x1)))), (7, (.pointer (some ⟨b_3, 0, none⟩))), (8, (.int .u64 y_4)), (9, (.int .i64 x_109)), (10, (.int .i64 x_170))] ∧ Mem W G_169 w (Itm.box b_3 145 [(.int .u64 y_159.2)] :: it_107 :: H)) ?_ ?_
    ·rcases cond_some hj_168 with ⟨hc_172, hj_168⟩ | ⟨hc_172, hj_168⟩
     ·refine k_true f rfl hc_172 ?_
      refine k_region ?_
      refine l_mv f rfl rfl fun a f => ?_
      refine l_mv f rfl rfl fun a f => ?_
      refine l_in f rfl rfl rfl b_sub fun a f => ?_
      refine l_as f rfl rfl fun a f => ?_
      refine l_nil ?_
      have m := m.front 1 rfl
      have m := m.front 1 rfl
      obtain rfl := sj hj_168
      exact ⟨_, rfl, _, (GLe.refl _), f.weak ⟨rfl, rfl, rfl, rfl, rfl, rfl, rfl, trivial⟩, m⟩
     ·refine k_false f rfl hc_172 ?_
      refine k_skip ?_
      have m := m.front 1 rfl
      have m := m.front 1 rfl
      obtain rfl := sj hj_168
      exact ⟨_, rfl, _, (GLe.refl _), f.weak ⟨rfl, rfl, rfl, rfl, rfl, rfl, rfl, trivial⟩, m⟩
    ·rintro a w ⟨x_170, rfl, G_169, hl_171, f, m⟩
     have o_108 := Ow.mono (RI.mono _) hl_171 o_108
     refine k_draw0 Follows m ?_
     refine p_p 2 rfl (by kernel_rfl) f rfl rfl rfl (fun _ => r_move (f.eval rfl)) fun a f => ?_
     refine p_p 3 rfl (by kernel_rfl) f rfl rfl rfl (fun _ => r_move (f.eval rfl)) fun a f => ?_
     refine p_p 4 rfl (by kernel_rfl) f rfl rfl rfl (fun _ => r_move (f.eval rfl)) fun a f => ?_
     refine p_p 5 rfl (by kernel_rfl) f rfl rfl rfl (fun _ => r_int (f.eval rfl) (f.eval rfl) b_add) fun a f => ?_
     refine k_draw1 60017 13 (by kernel_rfl) rfl ?_
     refine q_mv 0 60017 rfl (by kernel_rfl) f rfl rfl rfl fun a f => ?_
     refine q_mv 1 60017 rfl (by kernel_rfl) f rfl rfl rfl fun a f => ?_
     refine q_mv 6 60017 rfl (by kernel_rfl) f rfl rfl rfl fun a f => ?_
     refine q_mv 7 60017 rfl (by kernel_rfl) f rfl rfl rfl fun a f => ?_
     refine q_mv 8 60017 rfl (by kernel_rfl) f rfl rfl rfl fun a f => ?_
     refine q_p 9 60017 rfl (by kernel_rfl) f rfl rfl rfl (fun _ => r_int (f.eval rfl) (f.eval rfl) b_add) fun a f => ?_
     obtain ⟨e_173, he_174, hs_101⟩ := bind_some hs_101
     refine q_own_at (i := 10) 60017 1 m o_108 rfl T31 he_174 rfl (by kernel_rfl) rfl f rfl rfl rfl rfl fun p_175 a ha_176 f => ?_
     refine q_own_load (i := 11) 60017 1 o_108 rfl Pl2 ha_176 he_174 rfl (by kernel_rfl) rfl f rfl rfl rfl fun c_177 a h_178 f => ?_
     subst h_178
     refine q_mv 12 60017 rfl (by kernel_rfl) f rfl rfl rfl fun a f => ?_
     refine q_mv 13 60017 rfl (by kernel_rfl) f rfl rfl rfl fun a f => ?_
     obtain ⟨e_179, he_180, hs_101⟩ := bind_some hs_101
     refine q_own_at (i := 14) 60017 1 m o_108 rfl T31 he_180 rfl (by kernel_rfl) rfl f rfl rfl rfl rfl fun p_181 a ha_182 f => ?_
     refine q_own_load (i := 15) 60017 1 o_108 rfl Pl2 ha_182 he_180 rfl (by kernel_rfl) rfl f rfl rfl rfl fun c_183 a h_184 f => ?_
     subst h_184
     obtain ⟨e_185, he_186, hs_101⟩ := bind_some hs_101
     refine q_own_at (i := 16) 60017 1 m o_108 rfl T31 he_186 rfl (by kernel_rfl) rfl f rfl rfl rfl rfl fun p_187 a ha_188 f => ?_
     refine q_end fun G_189 w hl_190 m => ?_
     have o_108 := Ow.mono (RI.mono _) hl_190 o_108
     refine l_own_store 1 m o_108 rfl Tryd.sizeOf2 f rfl rfl ha_188 he_186 rfl rfl rfl fun it_191 w m o_192 => ?_
     obtain ⟨e_193, he_194, hs_101⟩ := bind_some hs_101
     refine l_own_at 1 m o_192 rfl T31 f rfl rfl rfl he_194 fun p_195 a ha_196 f => ?_
     refine l_own_store 1 m o_192 rfl Tryd.sizeOf2 f rfl rfl ha_196 he_194 rfl rfl rfl fun it_197 w m o_198 => ?_
     refine l_nil (k_region ?_)
     refine l_mv f rfl rfl fun a f => ?_
     refine l_in f rfl rfl rfl b_add fun a f => ?_
     refine l_as f rfl rfl fun a f => ?_
     refine l_nil ?_
     have m := m.front 1 rfl
     have m := m.front 1 rfl
     obtain rfl := sj hs_101
     exact ⟨_, rfl, _, _, _, rfl, _, it_197, (GLe.trans hl_111 (GLe.trans hl_162 (GLe.trans hl_171 hl_190))), f.weak ⟨rfl, rfl, rfl, rfl, rfl, rfl, trivial⟩, m, o_198⟩
   ·refine k_false f rfl hc_158 ?_
    refine k_exit rfl ?_
    have m := m.front 1 rfl
    have m := m.eraseAt 1
    obtain rfl := sj hs_101
    obtain rfl := hq_102 _ rfl
    exact ⟨_, rfl, _, it_107, hl_111, f.weak trivial, m, o_108⟩
  ·rintro a w ⟨l_154, rfl, G_153, it_155, hl_157, f, m, o_156⟩
   obtain rfl := sj hd
   exact ⟨[], trivial, f.defers, _, [it_155], (GLe.trans hl_7 hl_157), m, _, rfl, o_156⟩
 ·refine k_false f rfl hc_1 ?_
  refine k_skip ?_
  obtain rfl := sj hd
  exact ⟨[], trivial, f.defers, _, [it0], (GLe.refl _), m, _, rfl, o0⟩

theorem Wk.slices_order2Ordered_int64 {W w : World} {G : GH} {H : List Itm} {v0 : Value} {it0 : Itm} {b3 : Nat} {x0 : (List Int)} {x1 : Int} {x2 : Int} {x3_0 : Int} (m : Mem W G w (it0 :: Itm.box b3 3 [(.int .i64 x3_0)] :: H)) (o0 : Ow (RI .i64) 2 G it0 v0 x0) {y : Int × Int × ((List Int)) × Int} (hd : D.slices_order2Ordered_int64 x0 x1 x2 x3_0 = some y) :
  Calls Tryd.prog 149 #[v0, (.int .i64 x1), (.int .i64 x2), (.pointer (some ⟨b3, 0, none⟩))] w (Res W G H (fun G' Ho v => ∃ i0 : Itm, Ho = [i0, Itm.box b3 3 [(.int .i64 y.2.2.2)]] ∧ v = .tuple #[(.int .i64 y.1), (.int .i64 y.2.1)] ∧ Ow (RI .i64) 2 G' i0 v0 y.2.2.1)) := by
 refine calls_b (args := [v0, (.int .i64 x1), (.int .i64 x2), (.pointer (some ⟨b3, 0, none⟩))]) (N := 28) [.tmp 8, .tmp 9] Tryd.func149 rfl rfl (Nat.le_of_ble_eq_true rfl) rfl fun a f => ?_
 unfold D.slices_order2Ordered_int64 at hd
 refine k_seq (k_region ?_)
 refine l_as f rfl rfl fun a f => ?_
 refine l_as f rfl rfl fun a f => ?_
 refine l_nil (k_seq (k_seq ?_))
 refine k_draw 9 Follows (by kernel_rfl) m ?_
 refine q_mv 0 9 rfl (by kernel_rfl) f rfl rfl rfl fun a f => ?_
 refine q_mv 1 9 rfl (by kernel_rfl) f rfl rfl rfl fun a f => ?_
 obtain ⟨e_1, he_2, hd⟩ := bind_some hd
 refine q_own_at (i := 2) 9 0 m o0 rfl T31 he_2 rfl (by kernel_rfl) rfl f rfl rfl rfl rfl fun p_3 a ha_4 f => ?_
 refine q_own_load (i := 3) 9 0 o0 rfl Pl2 ha_4 he_2 rfl (by kernel_rfl) rfl f rfl rfl rfl fun c_5 a h_6 f => ?_
 subst h_6
 refine q_mv 4 9 rfl (by kernel_rfl) f rfl rfl rfl fun a f => ?_
 refine q_mv 5 9 rfl (by kernel_rfl) f rfl rfl rfl fun a f => ?_
 obtain ⟨e_7, he_8, hd⟩ := bind_some hd
 refine q_own_at (i := 6) 9 0 m o0 rfl T31 he_8 rfl (by kernel_rfl) rfl f rfl rfl rfl rfl fun p_9 a ha_10 f => ?_
 refine q_own_load (i := 7) 9 0 o0 rfl Pl2 ha_10 he_8 rfl (by kernel_rfl) rfl f rfl rfl rfl fun c_11 a h_12 f => ?_
 subst h_12
 obtain ⟨y_13, hy_14, hd⟩ := bind_some hd
 refine q_call (i := 8) 9 rfl (by kernel_rfl) rfl f rfl rfl rfl Tryd.call138 (fun _ _ w hG_15 m => Wk.cmp_Less_int64 m  hy_14) fun a f => ?_
 refine q_end fun G_16 w hl_17 m => ?_
 have o0 := Ow.mono (RI.mono _) hl_17 o0
 refine l_nil ?_
 rcases cond_some hd with ⟨hc_18, hd⟩ | ⟨hc_18, hd⟩
 ·refine k_true f rfl hc_18 ?_
  refine k_seq (k_region ?_)
  refine l_mv f rfl rfl fun a f => ?_
  refine l_op f rfl rfl rfl (r_nilCheck (f.eval rfl)) fun a f => ?_
  refine l_boxCell 1 0 m Pl3 f rfl rfl rfl rfl fun a f => ?_
  refine l_in f rfl rfl rfl b_add fun a f => ?_
  refine l_op f rfl rfl rfl (r_nilCheck (f.eval rfl)) fun a f => ?_
  refine l_boxStore 1 0 (ds := [(.int .i64 (IntKind.i64.wrap (x3_0 + 1)))]) m Tryd.sizeOf3 f rfl rfl rfl (ones_cons rfl ones_nil) rfl (Nat.le_of_ble_eq_true rfl) rfl fun w m => ?_
  refine l_nil (k_seq (k_region ?_))
  refine l_mv f rfl rfl fun a f => ?_
  refine l_mv f rfl rfl fun a f => ?_
  refine l_as f rfl rfl fun a f => ?_
  refine l_as f rfl rfl fun a f => ?_
  refine l_nil ?_
  refine k_ret ?_
  have m := m.front 1 rfl
  have m := m.front 1 rfl
  obtain rfl := sj hd
  exact ⟨[(.int .i64 x2), (.int .i64 x1)], ⟨f.get _ _ rfl, f.get _ _ rfl, trivial⟩, f.defers, _, [it0, Itm.box b3 3 [(.int .i64 (IntKind.i64.wrap (x3_0 + 1)))]], hl_17, m, _, rfl, rfl, o0⟩
 ·refine k_false f rfl hc_18 ?_
  refine k_skip ?_
  refine k_seq (k_region ?_)
  refine l_mv f rfl rfl fun a f => ?_
  refine l_mv f rfl rfl fun a f => ?_
  refine l_as f rfl rfl fun a f => ?_
  refine l_as f rfl rfl fun a f => ?_
  refine l_nil ?_
  refine k_ret ?_
  have m := m.front 1 rfl
  have m := m.front 1 rfl
  obtain rfl := sj hd
  exact ⟨[(.int .i64 x1), (.int .i64 x2)], ⟨f.get _ _ rfl, f.get _ _ rfl, trivial⟩, f.defers, _, [it0, Itm.box b3 3 [(.int .i64 x3_0)]], hl_17, m, _, rfl, rfl, o0⟩

theorem Wk.slices_medianOrdered_int64 {W w : World} {G : GH} {H : List Itm} {v0 : Value} {it0 : Itm} {b4 : Nat} {x0 : (List Int)} {x1 : Int} {x2 : Int} {x3 : Int} {x4_0 : Int} (m : Mem W G w (it0 :: Itm.box b4 3 [(.int .i64 x4_0)] :: H)) (o0 : Ow (RI .i64) 2 G it0 v0 x0) {y : Int × ((List Int)) × Int} (hd : D.slices_medianOrdered_int64 x0 x1 x2 x3 x4_0 = some y) :
  Calls Tryd.prog 147 #[v0, (.int .i64 x1), (.int .i64 x2), (.int .i64 x3), (.pointer (some ⟨b4, 0, none⟩))] w (Res W G H (fun G' Ho v => ∃ i0 : Itm, Ho = [i0, Itm.box b4 3 [(.int .i64 y.2.2)]] ∧ v = (.int .i64 y.1) ∧ Ow (RI .i64) 2 G' i0 v0 y.2.1)) := by
 refine calls_b (args := [v0, (.int .i64 x1), (.int .i64 x2), (.int .i64 x3), (.pointer (some ⟨b4, 0, none⟩))]) (N := 36) [.tmp 10] Tryd.func147 rfl rfl (Nat.le_of_ble_eq_true rfl) rfl fun a f => ?_
 unfold D.slices_medianOrdered_int64 at hd
 refine k_seq (k_region ?_)
 refine l_as f rfl rfl fun a f => ?_
 refine l_nil (k_seq (k_region ?_))
 refine l_mv f rfl rfl fun a f => ?_
 refine l_mv f rfl rfl fun a f => ?_
 refine l_mv f rfl rfl fun a f => ?_
 refine l_mv f rfl rfl fun a f => ?_
 have m := m.front 1 rfl
 have m := m.front 1 rfl
 obtain ⟨y_1, hy_2, hd⟩ := bind_some hd
 refine l_res f rfl rfl Tryd.call149 (Wk.slices_order2Ordered_int64 m o0 hy_2) fun v_6 G_3 Ho_7 w hl_4 m hQ_5 a f => ?_
 obtain ⟨it_8, rfl, rfl, o_9⟩ := hQ_5
 refine l_mv f rfl rfl fun a f => ?_
 refine l_op f rfl rfl rfl (r_extract (f.eval rfl) rfl) fun a f => ?_
 refine l_op f rfl rfl rfl (r_extract (f.eval rfl) rfl) fun a f => ?_
 refine l_as f rfl rfl fun a f => ?_
 refine l_as f rfl rfl fun a f => ?_
 refine l_nil (k_seq (k_region ?_))
 refine l_mv f rfl rfl fun a f => ?_
 refine l_mv f rfl rfl fun a f => ?_
 refine l_mv f rfl rfl fun a f => ?_
 refine l_mv f rfl rfl fun a f => ?_
 have m := m.front 1 rfl
 have m := m.front 1 rfl
 obtain ⟨y_10, hy_11, hd⟩ := bind_some hd
 refine l_res f rfl rfl Tryd.call149 (Wk.slices_order2Ordered_int64 m o_9 hy_11) fun v_15 G_12 Ho_16 w hl_13 m hQ_14 a f => ?_
 obtain ⟨it_17, rfl, rfl, o_18⟩ := hQ_14
 refine l_mv f rfl rfl fun a f => ?_
 refine l_op f rfl rfl rfl (r_extract (f.eval rfl) rfl) fun a f => ?_
 refine l_op f rfl rfl rfl (r_extract (f.eval rfl) rfl) fun a f => ?_
 refine l_as f rfl rfl fun a f => ?_
 refine l_as f rfl rfl fun a f => ?_
 refine l_nil (k_seq (k_region ?_))
 refine l_mv f rfl rfl fun a f => ?_
 refine l_mv f rfl rfl fun a f => ?_
 refine l_mv f rfl rfl fun a f => ?_
 refine l_mv f rfl rfl fun a f => ?_
 have m := m.front 1 rfl
 have m := m.front 1 rfl
 obtain ⟨y_19, hy_20, hd⟩ := bind_some hd
 refine l_res f rfl rfl Tryd.call149 (Wk.slices_order2Ordered_int64 m o_18 hy_20) fun v_24 G_21 Ho_25 w hl_22 m hQ_23 a f => ?_
 obtain ⟨it_26, rfl, rfl, o_27⟩ := hQ_23
 refine l_mv f rfl rfl fun a f => ?_
 refine l_op f rfl rfl rfl (r_extract (f.eval rfl) rfl) fun a f => ?_
 refine l_op f rfl rfl rfl (r_extract (f.eval rfl) rfl) fun a f => ?_
 refine l_as f rfl rfl fun a f => ?_
 refine l_as f rfl rfl fun a f => ?_
 refine l_nil (k_seq (k_region ?_))
 refine l_mv f rfl rfl fun a f => ?_
 refine l_as f rfl rfl fun a f => ?_
 refine l_nil ?_
 refine k_ret ?_
 have m := m.front 1 rfl
 have m := m.front 1 rfl
 obtain rfl := sj hd
 exact ⟨[(.int .i64 y_19.2.1)], ⟨f.get _ _ rfl, trivial⟩, f.defers, _, [it_26, Itm.box b4 3 [(.int .i64 y_19.2.2.2)]], (GLe.trans hl_4 (GLe.trans hl_13 hl_22)), m, _, rfl, rfl, o_27⟩

theorem Wk.slices_medianAdjacentOrdered_int64 {W w : World} {G : GH} {H : List Itm} {v0 : Value} {it0 : Itm} {b2 : Nat} {x0 : (List Int)} {x1 : Int} {x2_0 : Int} (m : Mem W G w (it0 :: Itm.box b2 3 [(.int .i64 x2_0)] :: H)) (o0 : Ow (RI .i64) 2 G it0 v0 x0) {y : Int × ((List Int)) × Int} (hd : D.slices_medianAdjacentOrdered_int64 x0 x1 x2_0 = some y) :
  Calls Tryd.prog 146 #[v0, (.int .i64 x1), (.pointer (some ⟨b2, 0, none⟩))] w (Res W G H (fun G' Ho v => ∃ i0 : Itm, Ho = [i0, Itm.box b2 3 [(.int .i64 y.2.2)]] ∧ v = (.int .i64 y.1) ∧ Ow (RI .i64) 2 G' i0 v0 y.2.1)) := by
 refine calls_b (args := [v0, (.int .i64 x1), (.pointer (some ⟨b2, 0, none⟩))]) (N := 15) [.tmp 6] Tryd.func146 rfl rfl (Nat.le_of_ble_eq_true rfl) rfl fun a f => ?_
 unfold D.slices_medianAdjacentOrdered_int64 at hd
 refine k_seq (k_region ?_)
 refine l_as f rfl rfl fun a f => ?_
 refine l_nil (k_seq (k_region ?_))
 refine l_mv f rfl rfl fun a f => ?_
 refine l_mv f rfl rfl fun a f => ?_
 refine l_in f rfl rfl rfl b_sub fun a f => ?_
 refine l_mv f rfl rfl fun a f => ?_
 refine l_mv f rfl rfl fun a f => ?_
 refine l_in f rfl rfl rfl b_add fun a f => ?_
 refine l_mv f rfl rfl fun a f => ?_
 have m := m.front 1 rfl
 have m := m.front 1 rfl
 obtain ⟨y_1, hy_2, hd⟩ := bind_some hd
 refine l_res f rfl rfl Tryd.call147 (Wk.slices_medianOrdered_int64 m o0 hy_2) fun v_6 G_3 Ho_7 w hl_4 m hQ_5 a f => ?_
 obtain ⟨it_8, rfl, rfl, o_9⟩ := hQ_5
 refine l_as f rfl rfl fun a f => ?_
 refine l_nil ?_
 refine k_ret ?_
 have m := m.front 1 rfl
 have m := m.front 1 rfl
 obtain rfl := sj hd
 exact ⟨[(.int .i64 y_1.1)], ⟨f.get _ _ rfl, trivial⟩, f.defers, _, [it_8, Itm.box b2 3 [(.int .i64 y_1.2.2)]], hl_4, m, _, rfl, rfl, o_9⟩

theorem Wk.slices_choosePivotOrdered_int64 {W w : World} {G : GH} {H : List Itm} {v0 : Value} {it0 : Itm} {x0 : (List Int)} {x1 : Int} {x2 : Int} (m : Mem W G w (it0 :: H)) (o0 : Ow (RI .i64) 2 G it0 v0 x0) {y : Int × Int × ((List Int))} (hd : D.slices_choosePivotOrdered_int64 x0 x1 x2 = some y) :
  Calls Tryd.prog 135 #[v0, (.int .i64 x1), (.int .i64 x2)] w (Res W G H (fun G' Ho v => ∃ i0 : Itm, Ho = [i0] ∧ v = .tuple #[(.int .i64 y.1), (.int .i64 y.2.1)] ∧ Ow (RI .i64) 2 G' i0 v0 y.2.2)) := by
 refine calls_b (args := [v0, (.int .i64 x1), (.int .i64 x2)]) (N := 57) [.tmp 6, .tmp 7] Tryd.func135 rfl rfl (Nat.le_of_ble_eq_true rfl) rfl fun a f => ?_
 unfold D.slices_choosePivotOrdered_int64 at hd
 refine k_seq (k_region ?_)
 refine l_as f rfl rfl fun a f => ?_
 refine l_as f rfl rfl fun a f => ?_
 refine l_nil (k_seq (k_region ?_))
 refine l_mv f rfl rfl fun a f => ?_
 refine l_mv f rfl rfl fun a f => ?_
 refine l_in f rfl rfl rfl b_sub fun a f => ?_
 refine l_as f rfl rfl fun a f => ?_
 refine l_nil (k_seq (k_region ?_))
 refine l_alloc (cs := [(.int .i64 0)]) Tryd.zeroValue3 m f rfl rfl fun b_2 w a m f => ?_
 refine l_nil (k_seq (k_region ?_))
 refine l_mv f rfl rfl fun a f => ?_
 refine l_mv f rfl rfl fun a f => ?_
 refine l_in f rfl rfl rfl (b_quo rfl) fun a f => ?_
 refine l_in f rfl rfl rfl b_mul fun a f => ?_
 refine l_in f rfl rfl rfl b_add fun a f => ?_
 refine l_as f rfl rfl fun a f => ?_
 refine l_nil (k_seq (k_region ?_))
 refine l_mv f rfl rfl fun a f => ?_
 refine l_mv f rfl rfl fun a f => ?_
 refine l_in f rfl rfl rfl (b_quo rfl) fun a f => ?_
 refine l_in f rfl rfl rfl b_mul fun a f => ?_
 refine l_in f rfl rfl rfl b_add fun a f => ?_
 refine l_as f rfl rfl fun a f => ?_
 refine l_nil (k_seq (k_region ?_))
 refine l_mv f rfl rfl fun a f => ?_
 refine l_mv f rfl rfl fun a f => ?_
 refine l_in f rfl rfl rfl (b_quo rfl) fun a f => ?_
 refine l_in f rfl rfl rfl b_mul fun a f => ?_
 refine l_in f rfl rfl rfl b_add fun a f => ?_
 refine l_as f rfl rfl fun a f => ?_
 refine l_nil (k_seq (k_seq (k_region ?_)))
 refine l_mv f rfl rfl fun a f => ?_
 refine l_in f rfl rfl rfl b_geq fun a f => ?_
 refine l_nil ?_
 rcases cond_some hd with ⟨hc_3, hd⟩ | ⟨hc_3, hd⟩
 ·refine k_true f rfl hc_3 ?_
  refine k_seq (k_seq (k_region ?_))
  refine l_mv f rfl rfl fun a f => ?_
  refine l_in f rfl rfl rfl b_geq fun a f => ?_
  refine l_nil ?_
  obtain ⟨j_32, hj_33, hd⟩ := bind_some hd
  refine k_cut (fun a w => ∃ l_35 : List Int, ∃ x_38 : Int, ∃ x_39 : Int, ∃ x_40 : Int, ∃ x_41 : Int, (l_35, x_38, x_39, x_40, x_41) = j_32 ∧ ∃ (G_34 : GH) (it_36 : Itm), GLe G G_34 ∧ Fr a 57 [(0, v0), (9, (.pointer (some ⟨b_2, 0, none⟩))), (10, (.int .i64 x_38)), (11, (.int .i64 x_39)), (12, (.int .i64 x_40))] ∧ Mem W G_34 w (Itm.box b_2 3 [(.int .i64 x_41)] :: it_36 :: H) ∧ Ow (RI .i64) 2 G_34 it_36 v0 l_35) ?_ ?_
  ·rcases cond_some hj_33 with ⟨hc_43, hj_33⟩ | ⟨hc_43, hj_33⟩
   ·refine k_true f rfl hc_43 ?_
    refine k_seq (k_region ?_)
    refine l_mv f rfl rfl fun a f => ?_
    refine l_mv f rfl rfl fun a f => ?_
    have m := m.front 1 rfl
    obtain ⟨y_44, hy_45, hj_33⟩ := bind_some hj_33
    refine l_res f rfl rfl Tryd.call146 (Wk.slices_medianAdjacentOrdered_int64 m o0 hy_45) fun v_49 G_46 Ho_50 w hl_47 m hQ_48 a f => ?_
    obtain ⟨it_51, rfl, rfl, o_52⟩ := hQ_48
    refine l_as f rfl rfl fun a f => ?_
    refine l_nil (k_seq (k_region ?_))
    refine l_mv f rfl rfl fun a f => ?_
    refine l_mv f rfl rfl fun a f => ?_
    have m := m.front 1 rfl
    have m := m.front 1 rfl
    obtain ⟨y_53, hy_54, hj_33⟩ := bind_some hj_33
    refine l_res f rfl rfl Tryd.call146 (Wk.slices_medianAdjacentOrdered_int64 m o_52 hy_54) fun v_58 G_55 Ho_59 w hl_56 m hQ_57 a f => ?_
    obtain ⟨it_60, rfl, rfl, o_61⟩ := hQ_57
    refine l_as f rfl rfl fun a f => ?_
    refine l_nil (k_region ?_)
    refine l_mv f rfl rfl fun a f => ?_
    refine l_mv f rfl rfl fun a f => ?_
    have m := m.front 1 rfl
    have m := m.front 1 rfl
    obtain ⟨y_62, hy_63, hj_33⟩ := bind_some hj_33
    refine l_res f rfl rfl Tryd.call146 (Wk.slices_medianAdjacentOrdered_int64 m o_61 hy_63) fun v_67 G_64 Ho_68 w hl_65 m hQ_66 a f => ?_
    obtain ⟨it_69, rfl, rfl, o_70⟩ := hQ_66
    refine l_as f rfl rfl fun a f => ?_
    refine l_nil ?_
    have m := m.front 1 rfl
    obtain rfl := sj hj_33
    exact ⟨_, _, _, _, _, rfl, _, it_69, (GLe.trans hl_47 (GLe.trans hl_56 hl_65)), f.weak ⟨rfl, rfl, rfl, rfl, rfl, trivial⟩, m, o_70⟩
   ·refine k_false f rfl hc_43 ?_
    refine k_skip ?_
    have m := m.front 1 rfl
    have m := m.front 1 rfl
    obtain rfl := sj hj_33
    exact ⟨_, _, _, _, _, rfl, _, it0, (GLe.refl _), f.weak ⟨rfl, rfl, rfl, rfl, rfl, trivial⟩, m, o0⟩
  ·rintro a w ⟨l_35, x_38, x_39, x_40, x_41, rfl, G_34, it_36, hl_42, f, m, o_37⟩
   refine k_region ?_
   refine l_mv f rfl rfl fun a f => ?_
   refine l_mv f rfl rfl fun a f => ?_
   refine l_mv f rfl rfl fun a f => ?_
   refine l_mv f rfl rfl fun a f => ?_
   have m := m.front 1 rfl
   obtain ⟨y_71, hy_72, hd⟩ := bind_some hd
   refine l_res f rfl rfl Tryd.call147 (Wk.slices_medianOrdered_int64 m o_37 hy_72) fun v_76 G_73 Ho_77 w hl_74 m hQ_75 a f => ?_
   obtain ⟨it_78, rfl, rfl, o_79⟩ := hQ_75
   refine l_as f rfl rfl fun a f => ?_
   refine l_nil (k_seq (k_region ?_))
   refine l_boxCell 1 0 m Pl3 f rfl rfl rfl rfl fun a f => ?_
   refine l_nil (k_block (k_seq (k_region ?_)))
   refine l_in f rfl rfl rfl b_eql fun a f => ?_
   refine l_as f rfl rfl fun a f => ?_
   refine l_nil ?_
   rcases cond_some hd with ⟨hc_80, hd⟩ | ⟨hc_80, hd⟩
   ·refine k_true f rfl hc_80 ?_
    refine k_seq (k_region ?_)
    refine l_mv f rfl rfl fun a f => ?_
    refine l_as f rfl rfl fun a f => ?_
    refine l_as f rfl rfl fun a f => ?_
    refine l_nil ?_
    refine k_ret ?_
    have m := m.eraseAt 1
    obtain rfl := sj hd
    exact ⟨[(.int .i64 y_71.1), (.int .i64 1)], ⟨f.get _ _ rfl, f.get _ _ rfl, trivial⟩, f.defers, _, [it_78], (GLe.trans hl_42 hl_74), m, _, rfl, rfl, o_79⟩
   ·refine k_false f rfl hc_80 ?_
    refine k_seq (k_region ?_)
    refine l_in f rfl rfl rfl b_eql fun a f => ?_
    refine l_as f rfl rfl fun a f => ?_
    refine l_nil ?_
    rcases cond_some hd with ⟨hc_81, hd⟩ | ⟨hc_81, hd⟩
    ·refine k_true f rfl hc_81 ?_
     refine k_seq (k_region ?_)
     refine l_mv f rfl rfl fun a f => ?_
     refine l_as f rfl rfl fun a f => ?_
     refine l_as f rfl rfl fun a f => ?_
     refine l_nil ?_
     refine k_ret ?_
     have m := m.eraseAt 1
     obtain rfl := sj hd
     exact ⟨[(.int .i64 y_71.1), (.int .i64 2)], ⟨f.get _ _ rfl, f.get _ _ rfl, trivial⟩, f.defers, _, [it_78], (GLe.trans hl_42 hl_74), m, _, rfl, rfl, o_79⟩
    ·refine k_false f rfl hc_81 ?_
     refine k_seq (k_region ?_)
     refine l_mv f rfl rfl fun a f => ?_
     refine l_as f rfl rfl fun a f => ?_
     refine l_as f rfl rfl fun a f => ?_
     refine l_nil ?_
     refine k_ret ?_
     have m := m.eraseAt 1
     obtain rfl := sj hd
     exact ⟨[(.int .i64 y_71.1), (.int .i64 0)], ⟨f.get _ _ rfl, f.get _ _ rfl, trivial⟩, f.defers, _, [it_78], (GLe.trans hl_42 hl_74), m, _, rfl, rfl, o_79⟩
 ·refine k_false f rfl hc_3 ?_
  refine k_skip ?_
  refine k_seq (k_region ?_)
  refine l_boxCell 0 0 m Pl3 f rfl rfl rfl rfl fun a f => ?_
  refine l_nil (k_block (k_seq (k_region ?_)))
  refine l_in f rfl rfl rfl b_eql fun a f => ?_
  refine l_as f rfl rfl fun a f => ?_
  refine l_nil ?_
  rcases cond_some hd with ⟨hc_82, hd⟩ | ⟨hc_82, hd⟩
  ·refine k_true f rfl hc_82 ?_
   refine k_seq (k_region ?_)
   refine l_mv f rfl rfl fun a f => ?_
   refine l_as f rfl rfl fun a f => ?_
   refine l_as f rfl rfl fun a f => ?_
   refine l_nil ?_
   refine k_ret ?_
   have m := m.front 1 rfl
   have m := m.eraseAt 1
   obtain rfl := sj hd
   exact ⟨[(.int .i64 (IntKind.i64.wrap (x1 + (IntKind.i64.wrap ((IntKind.i64.wrap (Int.tdiv (IntKind.i64.wrap (x2 - x1)) 4)) * 2))))), (.int .i64 1)], ⟨f.get _ _ rfl, f.get _ _ rfl, trivial⟩, f.defers, _, [it0], (GLe.refl _), m, _, rfl, rfl, o0⟩
  ·refine k_false f rfl hc_82 ?_
   refine k_seq (k_region ?_)
   refine l_in f rfl rfl rfl b_eql fun a f => ?_
   refine l_as f rfl rfl fun a f => ?_
   refine l_nil ?_
   rcases cond_some hd with ⟨hc_83, hd⟩ | ⟨hc_83, hd⟩
   ·refine k_true f rfl hc_83 ?_
    refine k_seq (k_region ?_)
    refine l_mv f rfl rfl fun a f => ?_
    refine l_as f rfl rfl fun a f => ?_
    refine l_as f rfl rfl fun a f => ?_
    refine l_nil ?_
    refine k_ret ?_
    have m := m.front 1 rfl
    have m := m.eraseAt 1
    obtain rfl := sj hd
    exact ⟨[(.int .i64 (IntKind.i64.wrap (x1 + (IntKind.i64.wrap ((IntKind.i64.wrap (Int.tdiv (IntKind.i64.wrap (x2 - x1)) 4)) * 2))))), (.int .i64 2)], ⟨f.get _ _ rfl, f.get _ _ rfl, trivial⟩, f.defers, _, [it0], (GLe.refl _), m, _, rfl, rfl, o0⟩
   ·refine k_false f rfl hc_83 ?_
    refine k_seq (k_region ?_)
    refine l_mv f rfl rfl fun a f => ?_
    refine l_as f rfl rfl fun a f => ?_
    refine l_as f rfl rfl fun a f => ?_
    refine l_nil ?_
    refine k_ret ?_
    have m := m.front 1 rfl
    have m := m.eraseAt 1
    obtain rfl := sj hd
    exact ⟨[(.int .i64 (IntKind.i64.wrap (x1 + (IntKind.i64.wrap ((IntKind.i64.wrap (Int.tdiv (IntKind.i64.wrap (x2 - x1)) 4)) * 2))))), (.int .i64 0)], ⟨f.get _ _ rfl, f.get _ _ rfl, trivial⟩, f.defers, _, [it0], (GLe.refl _), m, _, rfl, rfl, o0⟩

theorem Wk.slices_reverseRangeOrdered_int64 {W w : World} {G : GH} {H : List Itm} {v0 : Value} {it0 : Itm} {x0 : (List Int)} {x1 : Int} {x2 : Int} (m : Mem W G w (it0 :: H)) (o0 : Ow (RI .i64) 2 G it0 v0 x0) {y : ((List Int))} (hd : D.slices_reverseRangeOrdered_int64 x0 x1 x2 = some y) :
  Calls Tryd.prog 136 #[v0, (.int .i64 x1), (.int .i64 x2)] w (Res W G H (fun G' Ho _ => ∃ i0 : Itm, Ho = [i0] ∧ Ow (RI .i64) 2 G' i0 v0 y)) := by
 refine calls_b (args := [v0, (.int .i64 x1), (.int .i64 x2)]) (N := 32) [] Tryd.func136 rfl rfl (Nat.le_of_ble_eq_true rfl) rfl fun a f => ?_
 unfold D.slices_reverseRangeOrdered_int64 at hd
 refine k_seq (k_region ?_)
 refine l_mv f rfl rfl fun a f => ?_
 refine l_as f rfl rfl fun a f => ?_
 refine l_nil (k_seq (k_region ?_))
 refine l_mv f rfl rfl fun a f => ?_
 refine l_in f rfl rfl rfl b_sub fun a f => ?_
 refine l_as f rfl rfl fun a f => ?_
 refine l_nil ?_
 obtain ⟨q_61, hl_62, hd⟩ := bind_some hd
 refine k_cut (fun a w => ∃ l_102 : List Int, l_102 = q_61 ∧ ∃ (G_101 : GH) (it_103 : Itm), GLe G G_101 ∧ Fr a 32 [] ∧ Mem W G_101 w (it_103 :: H) ∧ Ow (RI .i64) 2 G_101 it_103 v0 l_102) ?_ ?_
 ·refine k_block ?_
  refine k_loop (fun s_65 a w => ∃ l_68 : List Int, ∃ x_71 : Int, ∃ x_72 : Int, (l_68, x_71, x_72) = s_65 ∧ ∃ (G_67 : GH) (it_69 : Itm), GLe G G_67 ∧ Fr a 32 [(0, v0), (6, (.int .i64 x_71)), (7, (.int .i64 x_72))] ∧ Mem W G_67 w (it_69 :: H) ∧ Ow (RI .i64) 2 G_67 it_69 v0 l_68) hl_62 ⟨_, _, _, rfl, _, it0, (GLe.refl _), f.weak ⟨rfl, rfl, rfl, trivial⟩, m, o0⟩ ?_
  clear hl_62 f m
  rintro s_65 o_66 hs_63 hq_64 a w ⟨l_68, x_71, x_72, rfl, G_67, it_69, hl_73, f, m, o_70⟩
  refine k_seq (k_seq (k_region ?_))
  refine l_mv f rfl rfl fun a f => ?_
  refine l_mv f rfl rfl fun a f => ?_
  refine l_in f rfl rfl rfl b_lss fun a f => ?_
  refine l_nil ?_
  rcases cond_some hs_63 with ⟨hc_106, hs_63⟩ | ⟨hc_106, hs_63⟩
  ·refine k_true f rfl hc_106 ?_
   refine k_skip ?_
   refine k_block (k_seq ?_)
   refine k_draw0 Follows m ?_
   refine p_p 2 rfl (by kernel_rfl) f rfl rfl rfl (fun _ => r_move (f.eval rfl)) fun a f => ?_
   refine p_p 3 rfl (by kernel_rfl) f rfl rfl rfl (fun _ => r_move (f.eval rfl)) fun a f => ?_
   refine k_draw1 12013 11 (by kernel_rfl) rfl ?_
   refine q_mv 0 12013 rfl (by kernel_rfl) f rfl rfl rfl fun a f => ?_
   refine q_mv 1 12013 rfl (by kernel_rfl) f rfl rfl rfl fun a f => ?_
   refine q_mv 4 12013 rfl (by kernel_rfl) f rfl rfl rfl fun a f => ?_
   refine q_mv 5 12013 rfl (by kernel_rfl) f rfl rfl rfl fun a f => ?_
   obtain ⟨e_107, he_108, hs_63⟩ := bind_some hs_63
   refine q_own_at (i := 6) 12013 0 m o_70 rfl T31 he_108 rfl (by kernel_rfl) rfl f rfl rfl rfl rfl fun p_109 a ha_110 f => ?_
   refine q_own_load (i := 7) 12013 0 o_70 rfl Pl2 ha_110 he_108 rfl (by kernel_rfl) rfl f rfl rfl rfl fun c_111 a h_112 f => ?_
   subst h_112
   refine q_mv 8 12013 rfl (by kernel_rfl) f rfl rfl rfl fun a f => ?_
   refine q_mv 9 12013 rfl (by kernel_rfl) f rfl rfl rfl fun a f => ?_
   obtain ⟨e_113, he_114, hs_63⟩ := bind_some hs_63
   refine q_own_at (i := 10) 12013 0 m o_70 rfl T31 he_114 rfl (by kernel_rfl) rfl f rfl rfl rfl rfl fun p_115 a ha_116 f => ?_
   refine q_own_load (i := 11) 12013 0 o_70 rfl Pl2 ha_116 he_114 rfl (by kernel_rfl) rfl f rfl rfl rfl fun c_117 a h_118 f => ?_
   subst h_118
   obtain ⟨e_119, he_120, hs_63⟩ := bind_some hs_63
   refine q_own_at (i := 12) 12013 0 m o_70 rfl T31 he_120 rfl (by kernel_rfl) rfl f rfl rfl rfl rfl fun p_121 a ha_122 f => ?_
   refine q_end fun G_123 w hl_124 m => ?_
   have o_70 := Ow.mono (RI.mono _) hl_124 o_70
   refine l_own_store 0 m o_70 rfl Tryd.sizeOf2 f rfl rfl ha_122 he_120 rfl rfl rfl fun it_125 w m o_126 => ?_
   obtain ⟨e_127, he_128, hs_63⟩ := bind_some hs_63
   refine l_own_at 0 m o_126 rfl T31 f rfl rfl rfl he_128 fun p_129 a ha_130 f => ?_
   refine l_own_store 0 m o_126 rfl Tryd.sizeOf2 f rfl rfl ha_130 he_128 rfl rfl rfl fun it_131 w m o_132 => ?_
   refine l_nil (k_seq (k_region ?_))
   refine l_mv f rfl rfl fun a f => ?_
   refine l_in f rfl rfl rfl b_add fun a f => ?_
   refine l_as f rfl rfl fun a f => ?_
   refine l_nil (k_region ?_)
   refine l_mv f rfl rfl fun a f => ?_
   refine l_in f rfl rfl rfl b_sub fun a f => ?_
   refine l_as f rfl rfl fun a f => ?_
   refine l_nil ?_
   obtain rfl := sj hs_63
   exact ⟨_, rfl, _, _, _, rfl, _, it_131, (GLe.trans hl_73 hl_124), f.weak ⟨rfl, rfl, rfl, trivial⟩, m, o_132⟩
  ·refine k_false f rfl hc_106 ?_
   refine k_exit rfl ?_
   obtain rfl := sj hs_63
   obtain rfl := hq_64 _ rfl
   exact ⟨_, rfl, _, it_69, hl_73, f.weak trivial, m, o_70⟩
 ·rintro a w ⟨l_102, rfl, G_101, it_103, hl_105, f, m, o_104⟩
  obtain rfl := sj hd
  exact ⟨[], trivial, f.defers, _, [it_103], hl_105, m, _, rfl, o_104⟩

theorem Wk.slices_partialInsertionSortOrdered_int64 {W w : World} {G : GH} {H : List Itm} {v0 : Value} {it0 : Itm} {x0 : (List Int)} {x1 : Int} {x2 : Int} (m : Mem W G w (it0 :: H)) (o0 : Ow (RI .i64) 2 G it0 v0 x0) {y : Bool × ((List Int))} (hd : D.slices_partialInsertionSortOrdered_int64 x0 x1 x2 = some y) :
  Calls Tryd.prog 137 #[v0, (.int .i64 x1), (.int .i64 x2)] w (Res W G H (fun G' Ho v => ∃ i0 : Itm, Ho = [i0] ∧ v = (.bool y.1) ∧ Ow (RI .i64) 2 G' i0 v0 y.2)) := by
 refine calls_b (args := [v0, (.int .i64 x1), (.int .i64 x2)]) (N := 133) [.tmp 6] Tryd.func137 rfl rfl (Nat.le_of_ble_eq_true rfl) rfl fun a f => ?_
 unfold D.slices_partialInsertionSortOrdered_int64 at hd
 refine k_seq (k_region ?_)
 refine l_as f rfl rfl fun a f => ?_
 refine l_nil (k_seq (k_region ?_))
 refine l_mv f rfl rfl fun a f => ?_
 refine l_in f rfl rfl rfl b_add fun a f => ?_
 refine l_as f rfl rfl fun a f => ?_
 refine l_nil (k_seq (k_seq (k_region ?_)))
 refine l_as f rfl rfl fun a f => ?_
 refine l_nil ?_
 obtain ⟨q_1621, hl_1622, hd⟩ := bind_some hd
 refine k_cut (fun a w => ∃ q_1621' : (List Int), q_1621 = .inl q_1621' ∧ ∃ l_2442 : List Int, l_2442 = q_1621' ∧ ∃ (G_2441 : GH) (it_2443 : Itm), GLe G G_2441 ∧ Fr a 133 [] ∧ Mem W G_2441 w (it_2443 :: H) ∧ Ow (RI .i64) 2 G_2441 it_2443 v0 l_2442) ?_ ?_
 ·refine k_block ?_
  refine k_loop (fun s_1625 a w => ∃ l_1628 : List Int, ∃ x_1631 : Int, ∃ x_1632 : Int, (l_1628, x_1631, x_1632) = s_1625 ∧ ∃ (G_1627 : GH) (it_1629 : Itm), GLe G G_1627 ∧ Fr a 133 [(0, v0), (1, (.int .i64 x1)), (2, (.int .i64 x2)), (7, (.int .i64 x_1631)), (8, (.int .i64 x_1632))] ∧ Mem W G_1627 w (it_1629 :: H) ∧ Ow (RI .i64) 2 G_1627 it_1629 v0 l_1628) hl_1622 ⟨_, _, _, rfl, _, it0, (GLe.refl _), f.weak ⟨rfl, rfl, rfl, rfl, rfl, trivial⟩, m, o0⟩ ?_
  clear hl_1622 f m
  rintro s_1625 o_1626 hs_1623 hq_1624 a w ⟨l_1628, x_1631, x_1632, rfl, G_1627, it_1629, hl_1633, f, m, o_1630⟩
  refine k_seq (k_seq (k_region ?_))
  refine l_mv f rfl rfl fun a f => ?_
  refine l_in f rfl rfl rfl b_lss fun a f => ?_
  refine l_nil ?_
  rcases cond_some hs_1623 with ⟨hc_2446, hs_1623⟩ | ⟨hc_2446, hs_1623⟩
  ·refine k_true f rfl hc_2446 ?_
   refine k_skip ?_
   refine k_seq (k_block (k_seq ?_))
   obtain ⟨q_2523, hl_2524, hs_1623⟩ := bind_some hs_1623
   refine k_cut (fun a w => ∃ x_2570 : Int, x_2570 = q_2523 ∧ ∃ (G_2569 : GH), GLe G_1627 G_2569 ∧ Fr a 133 [(0, v0), (1, (.int .i64 x1)), (2, (.int .i64 x2)), (7, (.int .i64 x_2570)), (8, (.int .i64 x_1632))] ∧ Mem W G_2569 w (it_1629 :: H)) ?_ ?_
   ·refine k_block ?_
    refine k_loop (fun s_2527 a w => ∃ x_2530 : Int, x_2530 = s_2527 ∧ ∃ (G_2529 : GH), GLe G_1627 G_2529 ∧ Fr a 133 [(0, v0), (1, (.int .i64 x1)), (2, (.int .i64 x2)), (7, (.int .i64 x_2530)), (8, (.int .i64 x_1632))] ∧ Mem W G_2529 w (it_1629 :: H)) hl_2524 ⟨_, rfl, _, (GLe.refl _), f.weak ⟨rfl, rfl, rfl, rfl, rfl, trivial⟩, m⟩ ?_
    clear hl_2524 f m
    rintro s_2527 o_2528 hs_2525 hq_2526 a w ⟨x_2530, rfl, G_2529, hl_2531, f, m⟩
    have o_1630 := Ow.mono (RI.mono _) hl_2531 o_1630
    refine k_seq (k_seq ?_)
    refine k_draw 16 Follows (by kernel_rfl) m ?_
    refine q_mv 0 16 rfl (by kernel_rfl) f rfl rfl rfl fun a f => ?_
    refine q_mv 1 16 rfl (by kernel_rfl) f rfl rfl rfl fun a f => ?_
    refine q_p 2 16 rfl (by kernel_rfl) f rfl rfl rfl (fun _ => r_int (f.eval rfl) (f.eval rfl) b_lss) fun a f => ?_
    refine q_mv 3 16 rfl (by kernel_rfl) f rfl rfl rfl fun a f => ?_
    obtain ⟨b_2589, hj_2590, hs_2525⟩ := bind_some hs_2525
    refine q_cut (fuel' := 0) (listed' := #[true, true, true, true, true, true, true, true, true, true, true, true, true, true, true, true]) (fun a => Fr a 133 [(0, v0), (1, (.int .i64 x1)), (2, (.int .i64 x2)), (7, (.int .i64 x_2530)), (8, (.int .i64 x_1632)), (17, (.int .i64 x_2530)), (18, (.int .i64 x2)), (19, (.bool (decide (x_2530 < x2)))), (20, (.bool (decide (x_2530 < x2)))), (32, (.bool b_2589))]) ?_ ?_
    ·intro a f
     refine q_end fun G_2606 w hl_2607 m => ?_
     have o_1630 := Ow.mono (RI.mono _) hl_2607 o_1630
     refine l_nil ?_
     rcases cond_some hs_2525 with ⟨hc_2608, hs_2525⟩ | ⟨hc_2608, hs_2525⟩
     ·refine k_true f rfl hc_2608 ?_
      refine k_skip ?_
      refine k_block (k_region ?_)
      refine l_mv f rfl rfl fun a f => ?_
      refine l_in f rfl rfl rfl b_add fun a f => ?_
      refine l_as f rfl rfl fun a f => ?_
      refine l_nil ?_
      obtain rfl := sj hs_2525
      exact ⟨_, rfl, _, rfl, _, (GLe.trans hl_2531 hl_2607), f.weak ⟨rfl, rfl, rfl, rfl, rfl, trivial⟩, m⟩
     ·refine k_false f rfl hc_2608 ?_
      refine k_exit rfl ?_
      obtain rfl := sj hs_2525
      obtain rfl := hq_2526 _ rfl
      exact ⟨_, rfl, _, (GLe.trans hl_2531 hl_2607), f.weak ⟨rfl, rfl, rfl, rfl, rfl, trivial⟩, m⟩
    ·intro K_2588
     rcases cond_some hj_2590 with ⟨hc_2572, hj_2590⟩ | ⟨hc_2572, hj_2590⟩
     ·refine q_mv 4 16 rfl (by kernel_rfl) f (wanted_of f rfl rfl rfl hc_2572) rfl rfl fun a f => ?_
      refine q_mv 5 16 rfl (by kernel_rfl) f (wanted_of f rfl rfl rfl hc_2572) rfl rfl fun a f => ?_
      obtain ⟨e_2591, he_2592, hj_2590⟩ := bind_some hj_2590
      refine q_own_at (i := 6) 16 0 m o_1630 rfl T31 he_2592 rfl (by kernel_rfl) rfl f (wanted_of f rfl rfl rfl hc_2572) rfl rfl rfl fun p_2593 a ha_2594 f => ?_
      refine q_own_load (i := 7) 16 0 o_1630 rfl Pl2 ha_2594 he_2592 rfl (by kernel_rfl) rfl f (wanted_of f rfl rfl rfl hc_2572) rfl rfl fun c_2595 a h_2596 f => ?_
      subst h_2596
      refine q_mv 8 16 rfl (by kernel_rfl) f (wanted_of f rfl rfl rfl hc_2572) rfl rfl fun a f => ?_
      refine q_mv 9 16 rfl (by kernel_rfl) f (wanted_of f rfl rfl rfl hc_2572) rfl rfl fun a f => ?_
      refine q_p 10 16 rfl (by kernel_rfl) f (wanted_of f rfl rfl rfl hc_2572) rfl rfl (fun _ => r_int (f.eval rfl) (f.eval rfl) b_sub) fun a f => ?_
      obtain ⟨e_2597, he_2598, hj_2590⟩ := bind_some hj_2590
      refine q_own_at (i := 11) 16 0 m o_1630 rfl T31 he_2598 rfl (by kernel_rfl) rfl f (wanted_of f rfl rfl rfl hc_2572) rfl rfl rfl fun p_2599 a ha_2600 f => ?_
      refine q_own_load (i := 12) 16 0 o_1630 rfl Pl2 ha_2600 he_2598 rfl (by kernel_rfl) rfl f (wanted_of f rfl rfl rfl hc_2572) rfl rfl fun c_2601 a h_2602 f => ?_
      subst h_2602
      obtain ⟨y_2603, hy_2604, hj_2590⟩ := bind_some hj_2590
      refine q_call (i := 13) 16 rfl (by kernel_rfl) rfl f (wanted_of f rfl rfl rfl hc_2572) rfl rfl Tryd.call138 (fun _ _ w hG_2605 m => Wk.cmp_Less_int64 m  hy_2604) fun a f => ?_
      refine q_p 14 16 rfl (by kernel_rfl) f (wanted_of f rfl rfl rfl hc_2572) rfl rfl (fun _ => r_not (f.eval rfl)) fun a f => ?_
      refine q_p 15 16 rfl (by kernel_rfl) f rfl rfl rfl (fun _ => r_pickT (f.eval rfl) hc_2572 (f.eval rfl)) fun a f => ?_
      obtain rfl := sj hj_2590
      exact K_2588 _ (f.weak ⟨rfl, rfl, rfl, rfl, rfl, rfl, rfl, rfl, rfl, rfl, trivial⟩)
     ·refine q_ng 4 16 rfl (by kernel_rfl) f rfl rfl hc_2572 rfl fun a f => ?_
      refine q_ng 5 16 rfl (by kernel_rfl) f rfl rfl hc_2572 rfl fun a f => ?_
      refine q_ng 6 16 rfl (by kernel_rfl) f rfl rfl hc_2572 rfl fun a f => ?_
      refine q_ng 7 16 rfl (by kernel_rfl) f rfl rfl hc_2572 rfl fun a f => ?_
      refine q_ng 8 16 rfl (by kernel_rfl) f rfl rfl hc_2572 rfl fun a f => ?_
      refine q_ng 9 16 rfl (by kernel_rfl) f rfl rfl hc_2572 rfl fun a f => ?_
      refine q_ng 10 16 rfl (by kernel_rfl) f rfl rfl hc_2572 rfl fun a f => ?_
      refine q_ng 11 16 rfl (by kernel_rfl) f rfl rfl hc_2572 rfl fun a f => ?_
      refine q_ng 12 16 rfl (by kernel_rfl) f rfl rfl hc_2572 rfl fun a f => ?_
      refine q_ng 13 16 rfl (by kernel_rfl) f rfl rfl hc_2572 rfl fun a f => ?_
      refine q_ng 14 16 rfl (by kernel_rfl) f rfl rfl hc_2572 rfl fun a f => ?_
      refine q_p 15 16 rfl (by kernel_rfl) f rfl rfl rfl (fun _ => r_pickF (f.eval rfl) hc_2572 (f.eval rfl)) fun a f => ?_
      obtain rfl := sj hj_2590
      exact K_2588 _ (f.weak ⟨rfl, rfl, rfl, rfl, rfl, rfl, rfl, rfl, rfl, rfl, trivial⟩)
   ·rintro a w ⟨x_2570, rfl, G_2569, hl_2571, f, m⟩
    have o_1630 := Ow.mono (RI.mono _) hl_2571 o_1630
    refine k_seq (k_seq (k_region ?_))
    refine l_mv f rfl rfl fun a f => ?_
    refine l_mv f rfl rfl fun a f => ?_
    refine l_in f rfl rfl rfl b_eql fun a f => ?_
    refine l_nil ?_
    rcases cond_some hs_1623 with ⟨hc_2609, hs_1623⟩ | ⟨hc_2609, hs_1623⟩
    ·refine k_true f rfl hc_2609 ?_
     refine k_seq (k_region ?_)
     refine l_as f rfl rfl fun a f => ?_
     refine l_nil ?_
     refine k_ret ?_
     obtain rfl := sj hs_1623
     obtain rfl := hq_1624 _ rfl
     obtain rfl := sj hd
     exact ⟨[(.bool true)], ⟨f.get _ _ rfl, trivial⟩, f.defers, _, [it_1629], (GLe.trans hl_1633 hl_2571), m, _, rfl, rfl, o_1630⟩
    ·refine k_false f rfl hc_2609 ?_
     refine k_skip ?_
     refine k_seq (k_seq (k_region ?_))
     refine l_mv f rfl rfl fun a f => ?_
     refine l_mv f rfl rfl fun a f => ?_
     refine l_in f rfl rfl rfl b_sub fun a f => ?_
     refine l_in f rfl rfl rfl b_lss fun a f => ?_
     refine l_nil ?_
     rcases cond_some hs_1623 with ⟨hc_2610, hs_1623⟩ | ⟨hc_2610, hs_1623⟩
     ·refine k_true f rfl hc_2610 ?_
      refine k_seq (k_region ?_)
      refine l_as f rfl rfl fun a f => ?_
      refine l_nil ?_
      refine k_ret ?_
      obtain rfl := sj hs_1623
      obtain rfl := hq_1624 _ rfl
      obtain rfl := sj hd
      exact ⟨[(.bool false)], ⟨f.get _ _ rfl, trivial⟩, f.defers, _, [it_1629], (GLe.trans hl_1633 hl_2571), m, _, rfl, rfl, o_1630⟩
     ·refine k_false f rfl hc_2610 ?_
      refine k_skip ?_
      refine k_seq ?_
      refine k_draw0 Follows m ?_
      refine p_p 2 rfl (by kernel_rfl) f rfl rfl rfl (fun _ => r_move (f.eval rfl)) fun a f => ?_
      refine p_p 3 rfl (by kernel_rfl) f rfl rfl rfl (fun _ => r_move (f.eval rfl)) fun a f => ?_
      refine p_p 4 rfl (by kernel_rfl) f rfl rfl rfl (fun _ => r_int (f.eval rfl) (f.eval rfl) b_sub) fun a f => ?_
      refine k_draw1 28015 12 (by kernel_rfl) rfl ?_
      refine q_mv 0 28015 rfl (by kernel_rfl) f rfl rfl rfl fun a f => ?_
      refine q_mv 1 28015 rfl (by kernel_rfl) f rfl rfl rfl fun a f => ?_
      refine q_mv 5 28015 rfl (by kernel_rfl) f rfl rfl rfl fun a f => ?_
      refine q_mv 6 28015 rfl (by kernel_rfl) f rfl rfl rfl fun a f => ?_
      refine q_p 7 28015 rfl (by kernel_rfl) f rfl rfl rfl (fun _ => r_int (f.eval rfl) (f.eval rfl) b_sub) fun a f => ?_
      obtain ⟨e_2611, he_2612, hs_1623⟩ := bind_some hs_1623
      refine q_own_at (i := 8) 28015 0 m o_1630 rfl T31 he_2612 rfl (by kernel_rfl) rfl f rfl rfl rfl rfl fun p_2613 a ha_2614 f => ?_
      refine q_own_load (i := 9) 28015 0 o_1630 rfl Pl2 ha_2614 he_2612 rfl (by kernel_rfl) rfl f rfl rfl rfl fun c_2615 a h_2616 f => ?_
      subst h_2616
      refine q_mv 10 28015 rfl (by kernel_rfl) f rfl rfl rfl fun a f => ?_
      refine q_mv 11 28015 rfl (by kernel_rfl) f rfl rfl rfl fun a f => ?_
      obtain ⟨e_2617, he_2618, hs_1623⟩ := bind_some hs_1623
      refine q_own_at (i := 12) 28015 0 m o_1630 rfl T31 he_2618 rfl (by kernel_rfl) rfl f rfl rfl rfl rfl fun p_2619 a ha_2620 f => ?_
      refine q_own_load (i := 13) 28015 0 o_1630 rfl Pl2 ha_2620 he_2618 rfl (by kernel_rfl) rfl f rfl rfl rfl fun c_2621 a h_2622 f => ?_
      subst h_2622
      obtain ⟨e_2623, he_2624, hs_1623⟩ := bind_some hs_1623
      refine q_own_at (i := 14) 28015 0 m o_1630 rfl T31 he_2624 rfl (by kernel_rfl) rfl f rfl rfl rfl rfl fun p_2625 a ha_2626 f => ?_
      refine q_end fun G_2627 w hl_2628 m => ?_
      have o_1630 := Ow.mono (RI.mono _) hl_2628 o_1630
      refine l_own_store 0 m o_1630 rfl Tryd.sizeOf2 f rfl rfl ha_2626 he_2624 rfl rfl rfl fun it_2629 w m o_2630 => ?_
      obtain ⟨e_2631, he_2632, hs_1623⟩ := bind_some hs_1623
      refine l_own_at 0 m o_2630 rfl T31 f rfl rfl rfl he_2632 fun p_2633 a ha_2634 f => ?_
      refine l_own_store 0 m o_2630 rfl Tryd.sizeOf2 f rfl rfl ha_2634 he_2632 rfl rfl rfl fun it_2635 w m o_2636 => ?_
      refine l_nil (k_seq (k_seq (k_region ?_)))
      refine l_mv f rfl rfl fun a f => ?_
      refine l_mv f rfl rfl fun a f => ?_
      refine l_in f rfl rfl rfl b_sub fun a f => ?_
      refine l_in f rfl rfl rfl b_geq fun a f => ?_
      refine l_nil ?_
      obtain ⟨j_2840, hj_2841, hs_1623⟩ := bind_some hs_1623
      refine k_cut (fun a w => ∃ l_2843 : List Int, l_2843 = j_2840 ∧ ∃ (G_2842 : GH) (it_2844 : Itm), GLe G_2627 G_2842 ∧ Fr a 133 [(0, v0), (1, (.int .i64 x1)), (2, (.int .i64 x2)), (7, (.int .i64 x_2570)), (8, (.int .i64 x_1632))] ∧ Mem W G_2842 w (it_2844 :: H) ∧ Ow (RI .i64) 2 G_2842 it_2844 v0 l_2843) ?_ ?_
      ·rcases cond_some hj_2841 with ⟨hc_2847, hj_2841⟩ | ⟨hc_2847, hj_2841⟩
       ·refine k_true f rfl hc_2847 ?_
        refine k_seq (k_region ?_)
        refine l_mv f rfl rfl fun a f => ?_
        refine l_in f rfl rfl rfl b_sub fun a f => ?_
        refine l_as f rfl rfl fun a f => ?_
        refine l_nil ?_
        obtain ⟨q_2943, hl_2944, hj_2841⟩ := bind_some hj_2841
        refine k_cut (fun a w => ∃ l_3001 : List Int, l_3001 = q_2943 ∧ ∃ (G_3000 : GH) (it_3002 : Itm), GLe G_2627 G_3000 ∧ Fr a 133 [(0, v0), (1, (.int .i64 x1)), (2, (.int .i64 x2)), (7, (.int .i64 x_2570)), (8, (.int .i64 x_1632))] ∧ Mem W G_3000 w (it_3002 :: H) ∧ Ow (RI .i64) 2 G_3000 it_3002 v0 l_3001) ?_ ?_
        ·refine k_block ?_
         refine k_loop (fun s_2947 a w => ∃ l_2950 : List Int, ∃ x_2953 : Int, (l_2950, x_2953) = s_2947 ∧ ∃ (G_2949 : GH) (it_2951 : Itm), GLe G_2627 G_2949 ∧ Fr a 133 [(0, v0), (1, (.int .i64 x1)), (2, (.int .i64 x2)), (7, (.int .i64 x_2570)), (8, (.int .i64 x_1632)), (9, (.int .i64 x_2953))] ∧ Mem W G_2949 w (it_2951 :: H) ∧ Ow (RI .i64) 2 G_2949 it_2951 v0 l_2950) hl_2944 ⟨_, _, rfl, _, it_2635, (GLe.refl _), f.weak ⟨rfl, rfl, rfl, rfl, rfl, rfl, trivial⟩, m, o_2636⟩ ?_
         clear hl_2944 f m
         rintro s_2947 o_2948 hs_2945 hq_2946 a w ⟨l_2950, x_2953, rfl, G_2949, it_2951, hl_2954, f, m, o_2952⟩
         refine k_seq (k_seq (k_region ?_))
         refine l_mv f rfl rfl fun a f => ?_
         refine l_in f rfl rfl rfl b_geq fun a f => ?_
         refine l_nil ?_
         rcases cond_some hs_2945 with ⟨hc_3005, hs_2945⟩ | ⟨hc_3005, hs_2945⟩
         ·refine k_true f rfl hc_3005 ?_
          refine k_skip ?_
          refine k_seq (k_block (k_seq (k_seq ?_)))
          refine k_draw 11 Follows (by kernel_rfl) m ?_
          refine q_mv 0 11 rfl (by kernel_rfl) f rfl rfl rfl fun a f => ?_
          refine q_mv 1 11 rfl (by kernel_rfl) f rfl rfl rfl fun a f => ?_
          obtain ⟨e_3006, he_3007, hs_2945⟩ := bind_some hs_2945
          refine q_own_at (i := 2) 11 0 m o_2952 rfl T31 he_3007 rfl (by kernel_rfl) rfl f rfl rfl rfl rfl fun p_3008 a ha_3009 f => ?_
          refine q_own_load (i := 3) 11 0 o_2952 rfl Pl2 ha_3009 he_3007 rfl (by kernel_rfl) rfl f rfl rfl rfl fun c_3010 a h_3011 f => ?_
          subst h_3011
          refine q_mv 4 11 rfl (by kernel_rfl) f rfl rfl rfl fun a f => ?_
          refine q_mv 5 11 rfl (by kernel_rfl) f rfl rfl rfl fun a f => ?_
          refine q_p 6 11 rfl (by kernel_rfl) f rfl rfl rfl (fun _ => r_int (f.eval rfl) (f.eval rfl) b_sub) fun a f => ?_
          obtain ⟨e_3012, he_3013, hs_2945⟩ := bind_some hs_2945
          refine q_own_at (i := 7) 11 0 m o_2952 rfl T31 he_3013 rfl (by kernel_rfl) rfl f rfl rfl rfl rfl fun p_3014 a ha_3015 f => ?_
          refine q_own_load (i := 8) 11 0 o_2952 rfl Pl2 ha_3015 he_3013 rfl (by kernel_rfl) rfl f rfl rfl rfl fun c_3016 a h_3017 f => ?_
          subst h_3017
          obtain ⟨y_3018, hy_3019, hs_2945⟩ := bind_some hs_2945
          refine q_call (i := 9) 11 rfl (by kernel_rfl) rfl f rfl rfl rfl Tryd.call138 (fun _ _ w hG_3020 m => Wk.cmp_Less_int64 m  hy_3019) fun a f => ?_
          refine q_p 10 11 rfl (by kernel_rfl) f rfl rfl rfl (fun _ => r_not (f.eval rfl)) fun a f => ?_
          refine q_end fun G_3021 w hl_3022 m => ?_
          have o_2952 := Ow.mono (RI.mono _) hl_3022 o_2952
          refine l_nil ?_
          rcases cond_some hs_2945 with ⟨hc_3023, hs_2945⟩ | ⟨hc_3023, hs_2945⟩
          ·refine k_true f rfl hc_3023 ?_
           refine k_exit rfl ?_
           obtain rfl := sj hs_2945
           obtain rfl := hq_2946 _ rfl
           exact ⟨_, rfl, _, it_2951, (GLe.trans hl_2954 hl_3022), f.weak ⟨rfl, rfl, rfl, rfl, rfl, trivial⟩, m, o_2952⟩
          ·refine k_false f rfl hc_3023 ?_
           refine k_skip ?_
           refine k_draw0 Follows m ?_
           refine p_p 2 rfl (by kernel_rfl) f rfl rfl rfl (fun _ => r_move (f.eval rfl)) fun a f => ?_
           refine p_p 3 rfl (by kernel_rfl) f rfl rfl rfl (fun _ => r_move (f.eval rfl)) fun a f => ?_
           refine p_p 4 rfl (by kernel_rfl) f rfl rfl rfl (fun _ => r_int (f.eval rfl) (f.eval rfl) b_sub) fun a f => ?_
           refine k_draw1 28015 12 (by kernel_rfl) rfl ?_
           refine q_mv 0 28015 rfl (by kernel_rfl) f rfl rfl rfl fun a f => ?_
           refine q_mv 1 28015 rfl (by kernel_rfl) f rfl rfl rfl fun a f => ?_
           refine q_mv 5 28015 rfl (by kernel_rfl) f rfl rfl rfl fun a f => ?_
           refine q_mv 6 28015 rfl (by kernel_rfl) f rfl rfl rfl fun a f => ?_
           refine q_p 7 28015 rfl (by kernel_rfl) f rfl rfl rfl (fun _ => r_int (f.eval rfl) (f.eval rfl) b_sub) fun a f => ?_
           obtain ⟨e_3024, he_3025, hs_2945⟩ := bind_some hs_2945
           refine q_own_at (i := 8) 28015 0 m o_2952 rfl T31 he_3025 rfl (by kernel_rfl) rfl f rfl rfl rfl rfl fun p_3026 a ha_3027 f => ?_
           refine q_own_load (i := 9) 28015 0 o_2952 rfl Pl2 ha_3027 he_3025 rfl (by kernel_rfl) rfl f rfl rfl rfl fun c_3028 a h_3029 f => ?_
           subst h_3029
           refine q_mv 10 28015 rfl (by kernel_rfl) f rfl rfl rfl fun a f => ?_
           refine q_mv 11 28015 rfl (by kernel_rfl) f rfl rfl rfl fun a f => ?_
           obtain ⟨e_3030, he_3031, hs_2945⟩ := bind_some hs_2945
           refine q_own_at (i := 12) 28015 0 m o_2952 rfl T31 he_3031 rfl (by kernel_rfl) rfl f rfl rfl rfl rfl fun p_3032 a ha_3033 f => ?_
           refine q_own_load (i := 13) 28015 0 o_2952 rfl Pl2 ha_3033 he_3031 rfl (by kernel_rfl) rfl f rfl rfl rfl fun c_3034 a h_3035 f => ?_
           subst h_3035
           obtain ⟨e_3036, he_3037, hs_2945⟩ := bind_some hs_2945
           refine q_own_at (i := 14) 28015 0 m o_2952 rfl T31 he_3037 rfl (by kernel_rfl) rfl f rfl rfl rfl rfl fun p_3038 a ha_3039 f => ?_
           refine q_end fun G_3040 w hl_3041 m => ?_
           have o_2952 := Ow.mono (RI.mono _) hl_3041 o_2952
           refine l_own_store 0 m o_2952 rfl Tryd.sizeOf2 f rfl rfl ha_3039 he_3037 rfl rfl rfl fun it_3042 w m o_3043 => ?_
           obtain ⟨e_3044, he_3045, hs_2945⟩ := bind_some hs_2945
           refine l_own_at 0 m o_3043 rfl T31 f rfl rfl rfl he_3045 fun p_3046 a ha_3047 f => ?_
           refine l_own_store 0 m o_3043 rfl Tryd.sizeOf2 f rfl rfl ha_3047 he_3045 rfl rfl rfl fun it_3048 w m o_3049 => ?_
           refine l_nil (k_region ?_)
           refine l_mv f rfl rfl fun a f => ?_
           refine l_in f rfl rfl rfl b_sub fun a f => ?_
           refine l_as f rfl rfl fun a f => ?_
           refine l_nil ?_
           obtain rfl := sj hs_2945
           exact ⟨_, rfl, _, _, rfl, _, it_3048, (GLe.trans hl_2954 (GLe.trans hl_3022 hl_3041)), f.weak ⟨rfl, rfl, rfl, rfl, rfl, rfl, trivial⟩, m, o_3049⟩
         ·refine k_false f rfl hc_3005 ?_
          refine k_exit rfl ?_
          obtain rfl := sj hs_2945
          obtain rfl := hq_2946 _ rfl
          exact ⟨_, rfl, _, it_2951, hl_2954, f.weak ⟨rfl, rfl, rfl, rfl, rfl, trivial⟩, m, o_2952⟩
        ·rintro a w ⟨l_3001, rfl, G_3000, it_3002, hl_3004, f, m, o_3003⟩
         obtain rfl := sj hj_2841
         exact ⟨_, rfl, _, it_3002, hl_3004, f.weak ⟨rfl, rfl, rfl, rfl, rfl, trivial⟩, m, o_3003⟩
       ·refine k_false f rfl hc_2847 ?_
        refine k_skip ?_
        obtain rfl := sj hj_2841
        exact ⟨_, rfl, _, it_2635, (GLe.refl _), f.weak ⟨rfl, rfl, rfl, rfl, rfl, trivial⟩, m, o_2636⟩
      ·rintro a w ⟨l_2843, rfl, G_2842, it_2844, hl_2846, f, m, o_2845⟩
       refine k_seq (k_region ?_)
       refine l_mv f rfl rfl fun a f => ?_
       refine l_mv f rfl rfl fun a f => ?_
       refine l_in f rfl rfl rfl b_sub fun a f => ?_
       refine l_in f rfl rfl rfl b_geq fun a f => ?_
       refine l_nil ?_
       rcases cond_some hs_1623 with ⟨hc_3050, hs_1623⟩ | ⟨hc_3050, hs_1623⟩
       ·refine k_true f rfl hc_3050 ?_
        refine k_seq (k_region ?_)
        refine l_mv f rfl rfl fun a f => ?_
        refine l_in f rfl rfl rfl b_add fun a f => ?_
        refine l_as f rfl rfl fun a f => ?_
        refine l_nil ?_
        obtain ⟨q_3146, hl_3147, hs_1623⟩ := bind_some hs_1623
        refine k_cut (fun a w => ∃ l_3204 : List Int, l_3204 = q_3146 ∧ ∃ (G_3203 : GH) (it_3205 : Itm), GLe G_2842 G_3203 ∧ Fr a 133 [(0, v0), (1, (.int .i64 x1)), (2, (.int .i64 x2)), (7, (.int .i64 x_2570)), (8, (.int .i64 x_1632))] ∧ Mem W G_3203 w (it_3205 :: H) ∧ Ow (RI .i64) 2 G_3203 it_3205 v0 l_3204) ?_ ?_
        ·refine k_block ?_
         refine k_loop (fun s_3150 a w => ∃ l_3153 : List Int, ∃ x_3156 : Int, (l_3153, x_3156) = s_3150 ∧ ∃ (G_3152 : GH) (it_3154 : Itm), GLe G_2842 G_3152 ∧ Fr a 133 [(0, v0), (1, (.int .i64 x1)), (2, (.int .i64 x2)), (7, (.int .i64 x_2570)), (8, (.int .i64 x_1632)), (10, (.int .i64 x_3156))] ∧ Mem W G_3152 w (it_3154 :: H) ∧ Ow (RI .i64) 2 G_3152 it_3154 v0 l_3153) hl_3147 ⟨_, _, rfl, _, it_2844, (GLe.refl _), f.weak ⟨rfl, rfl, rfl, rfl, rfl, rfl, trivial⟩, m, o_2845⟩ ?_
         clear hl_3147 f m
         rintro s_3150 o_3151 hs_3148 hq_3149 a w ⟨l_3153, x_3156, rfl, G_3152, it_3154, hl_3157, f, m, o_3155⟩
         refine k_seq (k_seq (k_region ?_))
         refine l_mv f rfl rfl fun a f => ?_
         refine l_mv f rfl rfl fun a f => ?_
         refine l_in f rfl rfl rfl b_lss fun a f => ?_
         refine l_nil ?_
         rcases cond_some hs_3148 with ⟨hc_3208, hs_3148⟩ | ⟨hc_3208, hs_3148⟩
         ·refine k_true f rfl hc_3208 ?_
          refine k_skip ?_
          refine k_seq (k_block (k_seq (k_seq ?_)))
          refine k_draw 11 Follows (by kernel_rfl) m ?_
          refine q_mv 0 11 rfl (by kernel_rfl) f rfl rfl rfl fun a f => ?_
          refine q_mv 1 11 rfl (by kernel_rfl) f rfl rfl rfl fun a f => ?_
          obtain ⟨e_3209, he_3210, hs_3148⟩ := bind_some hs_3148
          refine q_own_at (i := 2) 11 0 m o_3155 rfl T31 he_3210 rfl (by kernel_rfl) rfl f rfl rfl rfl rfl fun p_3211 a ha_3212 f => ?_
          refine q_own_load (i := 3) 11 0 o_3155 rfl Pl2 ha_3212 he_3210 rfl (by kernel_rfl) rfl f rfl rfl rfl fun c_3213 a h_3214 f => ?_
          subst h_3214
          refine q_mv 4 11 rfl (by kernel_rfl) f rfl rfl rfl fun a f => ?_
          refine q_mv 5 11 rfl (by kernel_rfl) f rfl rfl rfl fun a f => ?_
          refine q_p 6 11 rfl (by kernel_rfl) f rfl rfl rfl (fun _ => r_int (f.eval rfl) (f.eval rfl) b_sub) fun a f => ?_
          obtain ⟨e_3215, he_3216, hs_3148⟩ := bind_some hs_3148
          refine q_own_at (i := 7) 11 0 m o_3155 rfl T31 he_3216 rfl (by kernel_rfl) rfl f rfl rfl rfl rfl fun p_3217 a ha_3218 f => ?_
          refine q_own_load (i := 8) 11 0 o_3155 rfl Pl2 ha_3218 he_3216 rfl (by kernel_rfl) rfl f rfl rfl rfl fun c_3219 a h_3220 f => ?_
          subst h_3220
          obtain ⟨y_3221, hy_3222, hs_3148⟩ := bind_some hs_3148
          refine q_call (i := 9) 11 rfl (by kernel_rfl) rfl f rfl rfl rfl Tryd.call138 (fun _ _ w hG_3223 m => Wk.cmp_Less_int64 m  hy_3222) fun a f => ?_
          refine q_p 10 11 rfl (by kernel_rfl) f rfl rfl rfl (fun _ => r_not (f.eval rfl)) fun a f => ?_
          refine q_end fun G_3224 w hl_3225 m => ?_
          have o_3155 := Ow.mono (RI.mono _) hl_3225 o_3155
          refine l_nil ?_
          rcases cond_some hs_3148 with ⟨hc_3226, hs_3148⟩ | ⟨hc_3226, hs_3148⟩
          ·refine k_true f rfl hc_3226 ?_
           refine k_exit rfl ?_
           obtain rfl := sj hs_3148
           obtain rfl := hq_3149 _ rfl
           exact ⟨_, rfl, _, it_3154, (GLe.trans hl_3157 hl_3225), f.weak ⟨rfl, rfl, rfl, rfl, rfl, trivial⟩, m, o_3155⟩
          ·refine k_false f rfl hc_3226 ?_
           refine k_skip ?_
           refine k_draw0 Follows m ?_
           refine p_p 2 rfl (by kernel_rfl) f rfl rfl rfl (fun _ => r_move (f.eval rfl)) fun a f => ?_
           refine p_p 3 rfl (by kernel_rfl) f rfl rfl rfl (fun _ => r_move (f.eval rfl)) fun a f => ?_
           refine p_p 4 rfl (by kernel_rfl) f rfl rfl rfl (fun _ => r_int (f.eval rfl) (f.eval rfl) b_sub) fun a f => ?_
           refine k_draw1 28015 12 (by kernel_rfl) rfl ?_
           refine q_mv 0 28015 rfl (by kernel_rfl) f rfl rfl rfl fun a f => ?_
           refine q_mv 1 28015 rfl (by kernel_rfl) f rfl rfl rfl fun a f => ?_
           refine q_mv 5 28015 rfl (by kernel_rfl) f rfl rfl rfl fun a f => ?_
           refine q_mv 6 28015 rfl (by kernel_rfl) f rfl rfl rfl fun a f => ?_
           refine q_p 7 28015 rfl (by kernel_rfl) f rfl rfl rfl (fun _ => r_int (f.eval rfl) (f.eval rfl) b_sub) fun a f => ?_
           obtain ⟨e_3227, he_3228, hs_3148⟩ := bind_some hs_3148
           refine q_own_at (i := 8) 28015 0 m o_3155 rfl T31 he_3228 rfl (by kernel_rfl) rfl f rfl rfl rfl rfl fun p_3229 a ha_3230 f => ?_
           refine q_own_load (i := 9) 28015 0 o_3155 rfl Pl2 ha_3230 he_3228 rfl (by kernel_rfl) rfl f rfl rfl rfl fun c_3231 a h_3232 f => ?_
           subst h_3232
           refine q_mv 10 28015 rfl (by kernel_rfl) f rfl rfl rfl fun a f => ?_
           refine q_mv 11 28015 rfl (by kernel_rfl) f rfl rfl rfl fun a f => ?_
           obtain ⟨e_3233, he_3234, hs_3148⟩ := bind_some hs_3148
           refine q_own_at (i := 12) 28015 0 m o_3155 rfl T31 he_3234 rfl (by kernel_rfl) rfl f rfl rfl rfl rfl fun p_3235 a ha_3236 f => ?_
           refine q_own_load (i := 13) 28015 0 o_3155 rfl Pl2 ha_3236 he_3234 rfl (by kernel_rfl) rfl f rfl rfl rfl fun c_3237 a h_3238 f => ?_
           subst h_3238
           obtain ⟨e_3239, he_3240, hs_3148⟩ := bind_some hs_3148
           refine q_own_at (i := 14) 28015 0 m o_3155 rfl T31 he_3240 rfl (by kernel_rfl) rfl f rfl rfl rfl rfl fun p_3241 a ha_3242 f => ?_
           refine q_end fun G_3243 w hl_3244 m => ?_
           have o_3155 := Ow.mono (RI.mono _) hl_3244 o_3155
           refine l_own_store 0 m o_3155 rfl Tryd.sizeOf2 f rfl rfl ha_3242 he_3240 rfl rfl rfl fun it_3245 w m o_3246 => ?_
           obtain ⟨e_3247, he_3248, hs_3148⟩ := bind_some hs_3148
           refine l_own_at 0 m o_3246 rfl T31 f rfl rfl rfl he_3248 fun p_3249 a ha_3250 f => ?_
           refine l_own_store 0 m o_3246 rfl Tryd.sizeOf2 f rfl rfl ha_3250 he_3248 rfl rfl rfl fun it_3251 w m o_3252 => ?_
           refine l_nil (k_region ?_)
           refine l_mv f rfl rfl fun a f => ?_
           refine l_in f rfl rfl rfl b_add fun a f => ?_
           refine l_as f rfl rfl fun a f => ?_
           refine l_nil ?_
           obtain rfl := sj hs_3148
           exact ⟨_, rfl, _, _, rfl, _, it_3251, (GLe.trans hl_3157 (GLe.trans hl_3225 hl_3244)), f.weak ⟨rfl, rfl, rfl, rfl, rfl, rfl, trivial⟩, m, o_3252⟩
         ·refine k_false f rfl hc_3208 ?_
          refine k_exit rfl ?_
          obtain rfl := sj hs_3148
          obtain rfl := hq_3149 _ rfl
          exact ⟨_, rfl, _, it_3154, hl_3157, f.weak ⟨rfl, rfl, rfl, rfl, rfl, trivial⟩, m, o_3155⟩
        ·rintro a w ⟨l_3204, rfl, G_3203, it_3205, hl_3207, f, m, o_3206⟩
         refine k_region ?_
         refine l_mv f rfl rfl fun a f => ?_
         refine l_in f rfl rfl rfl b_add fun a f => ?_
         refine l_as f rfl rfl fun a f => ?_
         refine l_nil ?_
         obtain rfl := sj hs_1623
         exact ⟨_, rfl, _, _, _, rfl, _, it_3205, (GLe.trans hl_1633 (GLe.trans hl_2571 (GLe.trans hl_2628 (GLe.trans hl_2846 hl_3207)))), f.weak ⟨rfl, rfl, rfl, rfl, rfl, trivial⟩, m, o_3206⟩
       ·refine k_false f rfl hc_3050 ?_
        refine k_skip ?_
        refine k_region ?_
        refine l_mv f rfl rfl fun a f => ?_
        refine l_in f rfl rfl rfl b_add fun a f => ?_
        refine l_as f rfl rfl fun a f => ?_
        refine l_nil ?_
        obtain rfl := sj hs_1623
        exact ⟨_, rfl, _, _, _, rfl, _, it_2844, (GLe.trans hl_1633 (GLe.trans hl_2571 (GLe.trans hl_2628 hl_2846))), f.weak ⟨rfl, rfl, rfl, rfl, rfl, trivial⟩, m, o_2845⟩
  ·refine k_false f rfl hc_2446 ?_
   refine k_exit rfl ?_
   obtain rfl := sj hs_1623
   obtain rfl := hq_1624 _ rfl
   exact ⟨_, rfl, _, rfl, _, it_1629, hl_1633, f.weak trivial, m, o_1630⟩
 ·rintro a w ⟨_, rfl, l_2442, rfl, G_2441, it_2443, hl_2445, f, m, o_2444⟩
  refine k_seq (k_region ?_)
  refine l_as f rfl rfl fun a f => ?_
  refine l_nil ?_
  refine k_ret ?_
  obtain rfl := sj hd
  exact ⟨[(.bool false)], ⟨f.get _ _ rfl, trivial⟩, f.defers, _, [it_2443], hl_2445, m, _, rfl, rfl, o_2444⟩

theorem Wk.slices_partitionEqualOrdered_int64 {W w : World} {G : GH} {H : List Itm} {v0 : Value} {it0 : Itm} {x0 : (List Int)} {x1 : Int} {x2 : Int} {x3 : Int} (m : Mem W G w (it0 :: H)) (o0 : Ow (RI .i64) 2 G it0 v0 x0) {y : Int × ((List Int))} (hd : D.slices_partitionEqualOrdered_int64 x0 x1 x2 x3 = some y) :
  Calls Tryd.prog 139 #[v0, (.int .i64 x1), (.int .i64 x2), (.int .i64 x3)] w (Res W G H (fun G' Ho v => ∃ i0 : Itm, Ho = [i0] ∧ v = (.int .i64 y.1) ∧ Ow (RI .i64) 2 G' i0 v0 y.2)) := by
 refine calls_b (args := [v0, (.int .i64 x1), (.int .i64 x2), (.int .i64 x3)]) (N := 84) [.tmp 8] Tryd.func139 rfl rfl (Nat.le_of_ble_eq_true rfl) rfl fun a f => ?_
 unfold D.slices_partitionEqualOrdered_int64 at hd
 refine k_seq (k_region ?_)
 refine l_as f rfl rfl fun a f => ?_
 refine l_nil (k_seq ?_)
 refine k_draw0 Follows m ?_
 refine p_p 2 rfl (by kernel_rfl) f rfl rfl rfl (fun _ => r_move (f.eval rfl)) fun a f => ?_
 refine p_p 3 rfl (by kernel_rfl) f rfl rfl rfl (fun _ => r_move (f.eval rfl)) fun a f => ?_
 refine k_draw1 12013 11 (by kernel_rfl) rfl ?_
 refine q_mv 0 12013 rfl (by kernel_rfl) f rfl rfl rfl fun a f => ?_
 refine q_mv 1 12013 rfl (by kernel_rfl) f rfl rfl rfl fun a f => ?_
 refine q_mv 4 12013 rfl (by kernel_rfl) f rfl rfl rfl fun a f => ?_
 refine q_mv 5 12013 rfl (by kernel_rfl) f rfl rfl rfl fun a f => ?_
 obtain ⟨e_1, he_2, hd⟩ := bind_some hd
 refine q_own_at (i := 6) 12013 0 m o0 rfl T31 he_2 rfl (by kernel_rfl) rfl f rfl rfl rfl rfl fun p_3 a ha_4 f => ?_
 refine q_own_load (i := 7) 12013 0 o0 rfl Pl2 ha_4 he_2 rfl (by kernel_rfl) rfl f rfl rfl rfl fun c_5 a h_6 f => ?_
 subst h_6
 refine q_mv 8 12013 rfl (by kernel_rfl) f rfl rfl rfl fun a f => ?_
 refine q_mv 9 12013 rfl (by kernel_rfl) f rfl rfl rfl fun a f => ?_
 obtain ⟨e_7, he_8, hd⟩ := bind_some hd
 refine q_own_at (i := 10) 12013 0 m o0 rfl T31 he_8 rfl (by kernel_rfl) rfl f rfl rfl rfl rfl fun p_9 a ha_10 f => ?_
 refine q_own_load (i := 11) 12013 0 o0 rfl Pl2 ha_10 he_8 rfl (by kernel_rfl) rfl f rfl rfl rfl fun c_11 a h_12 f => ?_
 subst h_12
 obtain ⟨e_13, he_14, hd⟩ := bind_some hd
 refine q_own_at (i := 12) 12013 0 m o0 rfl T31 he_14 rfl (by kernel_rfl) rfl f rfl rfl rfl rfl fun p_15 a ha_16 f => ?_
 refine q_end fun G_17 w hl_18 m => ?_
 have o0 := Ow.mono (RI.mono _) hl_18 o0
 refine l_own_store 0 m o0 rfl Tryd.sizeOf2 f rfl rfl ha_16 he_14 rfl rfl rfl fun it_19 w m o_20 => ?_
 obtain ⟨e_21, he_22, hd⟩ := bind_some hd
 refine l_own_at 0 m o_20 rfl T31 f rfl rfl rfl he_22 fun p_23 a ha_24 f => ?_
 refine l_own_store 0 m o_20 rfl Tryd.sizeOf2 f rfl rfl ha_24 he_22 rfl rfl rfl fun it_25 w m o_26 => ?_
 refine l_nil (k_seq (k_region ?_))
 refine l_mv f rfl rfl fun a f => ?_
 refine l_in f rfl rfl rfl b_add fun a f => ?_
 refine l_mv f rfl rfl fun a f => ?_
 refine l_in f rfl rfl rfl b_sub fun a f => ?_
 refine l_as f rfl rfl fun a f => ?_
 refine l_as f rfl rfl fun a f => ?_
 refine l_nil (k_seq ?_)
 obtain ⟨q_735, hl_736, hd⟩ := bind_some hd
 refine k_cut (fun a w => ∃ l_1100 : List Int, ∃ x_1103 : Int, (l_1100, x_1103) = q_735 ∧ ∃ (G_1099 : GH) (it_1101 : Itm), GLe G_17 G_1099 ∧ Fr a 84 [(9, (.int .i64 x_1103))] ∧ Mem W G_1099 w (it_1101 :: H) ∧ Ow (RI .i64) 2 G_1099 it_1101 v0 l_1100) ?_ ?_
 ·refine k_block ?_
  refine k_loop (fun s_739 a w => ∃ l_742 : List Int, ∃ x_745 : Int, ∃ x_746 : Int, (l_742, x_745, x_746) = s_739 ∧ ∃ (G_741 : GH) (it_743 : Itm), GLe G_17 G_741 ∧ Fr a 84 [(0, v0), (1, (.int .i64 x1)), (9, (.int .i64 x_745)), (10, (.int .i64 x_746))] ∧ Mem W G_741 w (it_743 :: H) ∧ Ow (RI .i64) 2 G_741 it_743 v0 l_742) hl_736 ⟨_, _, _, rfl, _, it_25, (GLe.refl _), f.weak ⟨rfl, rfl, rfl, rfl, trivial⟩, m, o_26⟩ ?_
  clear hl_736 f m
  rintro s_739 o_740 hs_737 hq_738 a w ⟨l_742, x_745, x_746, rfl, G_741, it_743, hl_747, f, m, o_744⟩
  refine k_block (k_seq ?_)
  obtain ⟨q_1181, hl_1182, hs_737⟩ := bind_some hs_737
  refine k_cut (fun a w => ∃ x_1228 : Int, x_1228 = q_1181 ∧ ∃ (G_1227 : GH), GLe G_741 G_1227 ∧ Fr a 84 [(0, v0), (1, (.int .i64 x1)), (9, (.int .i64 x_1228)), (10, (.int .i64 x_746))] ∧ Mem W G_1227 w (it_743 :: H)) ?_ ?_
  ·refine k_block ?_
   refine k_loop (fun s_1185 a w => ∃ x_1188 : Int, x_1188 = s_1185 ∧ ∃ (G_1187 : GH), GLe G_741 G_1187 ∧ Fr a 84 [(0, v0), (1, (.int .i64 x1)), (9, (.int .i64 x_1188)), (10, (.int .i64 x_746))] ∧ Mem W G_1187 w (it_743 :: H)) hl_1182 ⟨_, rfl, _, (GLe.refl _), f.weak ⟨rfl, rfl, rfl, rfl, trivial⟩, m⟩ ?_
   clear hl_1182 f m
   rintro s_1185 o_1186 hs_1183 hq_1184 a w ⟨x_1188, rfl, G_1187, hl_1189, f, m⟩
   have o_744 := Ow.mono (RI.mono _) hl_1189 o_744
   refine k_seq (k_seq ?_)
   refine k_draw 15 Follows (by kernel_rfl) m ?_
   refine q_mv 0 15 rfl (by kernel_rfl) f rfl rfl rfl fun a f => ?_
   refine q_mv 1 15 rfl (by kernel_rfl) f rfl rfl rfl fun a f => ?_
   refine q_p 2 15 rfl (by kernel_rfl) f rfl rfl rfl (fun _ => r_int (f.eval rfl) (f.eval rfl) b_leq) fun a f => ?_
   refine q_mv 3 15 rfl (by kernel_rfl) f rfl rfl rfl fun a f => ?_
   obtain ⟨b_1247, hj_1248, hs_1183⟩ := bind_some hs_1183
   refine q_cut (fuel' := 0) (listed' := #[true, true, true, true, true, true, true, true, true, true, true, true, true, true, true]) (fun a => Fr a 84 [(0, v0), (1, (.int .i64 x1)), (9, (.int .i64 x_1188)), (10, (.int .i64 x_746)), (29, (.int .i64 x_1188)), (30, (.int .i64 x_746)), (31, (.bool (decide (x_1188 ≤ x_746)))), (32, (.bool (decide (x_1188 ≤ x_746)))), (43, (.bool b_1247))]) ?_ ?_
   ·intro a f
    refine q_end fun G_1264 w hl_1265 m => ?_
    have o_744 := Ow.mono (RI.mono _) hl_1265 o_744
    refine l_nil ?_
    rcases cond_some hs_1183 with ⟨hc_1266, hs_1183⟩ | ⟨hc_1266, hs_1183⟩
    ·refine k_true f rfl hc_1266 ?_
     refine k_skip ?_
     refine k_block (k_region ?_)
     refine l_mv f rfl rfl fun a f => ?_
     refine l_in f rfl rfl rfl b_add fun a f => ?_
     refine l_as f rfl rfl fun a f => ?_
     refine l_nil ?_
     obtain rfl := sj hs_1183
     exact ⟨_, rfl, _, rfl, _, (GLe.trans hl_1189 hl_1265), f.weak ⟨rfl, rfl, rfl, rfl, trivial⟩, m⟩
    ·refine k_false f rfl hc_1266 ?_
     refine k_exit rfl ?_
     obtain rfl := sj hs_1183
     obtain rfl := hq_1184 _ rfl
     exact ⟨_, rfl, _, (GLe.trans hl_1189 hl_1265), f.weak ⟨rfl, rfl, rfl, rfl, trivial⟩, m⟩
   ·intro K_1246
    rcases cond_some hj_1248 with ⟨hc_1230, hj_1248⟩ | ⟨hc_1230, hj_1248⟩
    ·refine q_mv 4 15 rfl (by kernel_rfl) f (wanted_of f rfl rfl rfl hc_1230) rfl rfl fun a f => ?_
     refine q_mv 5 15 rfl (by kernel_rfl) f (wanted_of f rfl rfl rfl hc_1230) rfl rfl fun a f => ?_
     obtain ⟨e_1249, he_1250, hj_1248⟩ := bind_some hj_1248
     refine q_own_at (i := 6) 15 0 m o_744 rfl T31 he_1250 rfl (by kernel_rfl) rfl f (wanted_of f rfl rfl rfl hc_1230) rfl rfl rfl fun p_1251 a ha_1252 f => ?_
     refine q_own_load (i := 7) 15 0 o_744 rfl Pl2 ha_1252 he_1250 rfl (by kernel_rfl) rfl f (wanted_of f rfl rfl rfl hc_1230) rfl rfl fun c_1253 a h_1254 f => ?_
     subst h_1254
     refine q_mv 8 15 rfl (by kernel_rfl) f (wanted_of f rfl rfl rfl hc_1230) rfl rfl fun a f => ?_
     refine q_mv 9 15 rfl (by kernel_rfl) f (wanted_of f rfl rfl rfl hc_1230) rfl rfl fun a f => ?_
     obtain ⟨e_1255, he_1256, hj_1248⟩ := bind_some hj_1248
     refine q_own_at (i := 10) 15 0 m o_744 rfl T31 he_1256 rfl (by kernel_rfl) rfl f (wanted_of f rfl rfl rfl hc_1230) rfl rfl rfl fun p_1257 a ha_1258 f => ?_
     refine q_own_load (i := 11) 15 0 o_744 rfl Pl2 ha_1258 he_1256 rfl (by kernel_rfl) rfl f (wanted_of f rfl rfl rfl hc_1230) rfl rfl fun c_1259 a h_1260 f => ?_
     subst h_1260
     obtain ⟨y_1261, hy_1262, hj_1248⟩ := bind_some hj_1248
     refine q_call (i := 12) 15 rfl (by kernel_rfl) rfl f (wanted_of f rfl rfl rfl hc_1230) rfl rfl Tryd.call138 (fun _ _ w hG_1263 m => Wk.cmp_Less_int64 m  hy_1262) fun a f => ?_
     refine q_p 13 15 rfl (by kernel_rfl) f (wanted_of f rfl rfl rfl hc_1230) rfl rfl (fun _ => r_not (f.eval rfl)) fun a f => ?_
     refine q_p 14 15 rfl (by kernel_rfl) f rfl rfl rfl (fun _ => r_pickT (f.eval rfl) hc_1230 (f.eval rfl)) fun a f => ?_
     obtain rfl := sj hj_1248
     exact K_1246 _ (f.weak ⟨rfl, rfl, rfl, rfl, rfl, rfl, rfl, rfl, rfl, trivial⟩)
    ·refine q_ng 4 15 rfl (by kernel_rfl) f rfl rfl hc_1230 rfl fun a f => ?_
     refine q_ng 5 15 rfl (by kernel_rfl) f rfl rfl hc_1230 rfl fun a f => ?_
     refine q_ng 6 15 rfl (by kernel_rfl) f rfl rfl hc_1230 rfl fun a f => ?_
     refine q_ng 7 15 rfl (by kernel_rfl) f rfl rfl hc_1230 rfl fun a f => ?_
     refine q_ng 8 15 rfl (by kernel_rfl) f rfl rfl hc_1230 rfl fun a f => ?_
     refine q_ng 9 15 rfl (by kernel_rfl) f rfl rfl hc_1230 rfl fun a f => ?_
     refine q_ng 10 15 rfl (by kernel_rfl) f rfl rfl hc_1230 rfl fun a f => ?_
     refine q_ng 11 15 rfl (by kernel_rfl) f rfl rfl hc_1230 rfl fun a f => ?_
     refine q_ng 12 15 rfl (by kernel_rfl) f rfl rfl hc_1230 rfl fun a f => ?_
     refine q_ng 13 15 rfl (by kernel_rfl) f rfl rfl hc_1230 rfl fun a f => ?_
     refine q_p 14 15 rfl (by kernel_rfl) f rfl rfl rfl (fun _ => r_pickF (f.eval rfl) hc_1230 (f.eval rfl)) fun a f => ?_
     obtain rfl := sj hj_1248
     exact K_1246 _ (f.weak ⟨rfl, rfl, rfl, rfl, rfl, rfl, rfl, rfl, rfl, trivial⟩)
  ·rintro a w ⟨x_1228, rfl, G_1227, hl_1229, f, m⟩
   have o_744 := Ow.mono (RI.mono _) hl_1229 o_744
   refine k_seq ?_
   obtain ⟨q_1343, hl_1344, hs_737⟩ := bind_some hs_737
   refine k_cut (fun a w => ∃ x_1390 : Int, x_1390 = q_1343 ∧ ∃ (G_1389 : GH), GLe G_1227 G_1389 ∧ Fr a 84 [(0, v0), (1, (.int .i64 x1)), (9, (.int .i64 x_1228)), (10, (.int .i64 x_1390))] ∧ Mem W G_1389 w (it_743 :: H)) ?_ ?_
   ·refine k_block ?_
    refine k_loop (fun s_1347 a w => ∃ x_1350 : Int, x_1350 = s_1347 ∧ ∃ (G_1349 : GH), GLe G_1227 G_1349 ∧ Fr a 84 [(0, v0), (1, (.int .i64 x1)), (9, (.int .i64 x_1228)), (10, (.int .i64 x_1350))] ∧ Mem W G_1349 w (it_743 :: H)) hl_1344 ⟨_, rfl, _, (GLe.refl _), f.weak ⟨rfl, rfl, rfl, rfl, trivial⟩, m⟩ ?_
    clear hl_1344 f m
    rintro s_1347 o_1348 hs_1345 hq_1346 a w ⟨x_1350, rfl, G_1349, hl_1351, f, m⟩
    have o_744 := Ow.mono (RI.mono _) hl_1351 o_744
    refine k_seq (k_seq ?_)
    refine k_draw 14 Follows (by kernel_rfl) m ?_
    refine q_mv 0 14 rfl (by kernel_rfl) f rfl rfl rfl fun a f => ?_
    refine q_mv 1 14 rfl (by kernel_rfl) f rfl rfl rfl fun a f => ?_
    refine q_p 2 14 rfl (by kernel_rfl) f rfl rfl rfl (fun _ => r_int (f.eval rfl) (f.eval rfl) b_leq) fun a f => ?_
    refine q_mv 3 14 rfl (by kernel_rfl) f rfl rfl rfl fun a f => ?_
    obtain ⟨b_1409, hj_1410, hs_1345⟩ := bind_some hs_1345
    refine q_cut (fuel' := 0) (listed' := #[true, true, true, true, true, true, true, true, true, true, true, true, true, true]) (fun a => Fr a 84 [(0, v0), (1, (.int .i64 x1)), (9, (.int .i64 x_1228)), (10, (.int .i64 x_1350)), (46, (.int .i64 x_1228)), (47, (.int .i64 x_1350)), (48, (.bool (decide (x_1228 ≤ x_1350)))), (49, (.bool (decide (x_1228 ≤ x_1350)))), (59, (.bool b_1409))]) ?_ ?_
    ·intro a f
     refine q_end fun G_1426 w hl_1427 m => ?_
     have o_744 := Ow.mono (RI.mono _) hl_1427 o_744
     refine l_nil ?_
     rcases cond_some hs_1345 with ⟨hc_1428, hs_1345⟩ | ⟨hc_1428, hs_1345⟩
     ·refine k_true f rfl hc_1428 ?_
      refine k_skip ?_
      refine k_block (k_region ?_)
      refine l_mv f rfl rfl fun a f => ?_
      refine l_in f rfl rfl rfl b_sub fun a f => ?_
      refine l_as f rfl rfl fun a f => ?_
      refine l_nil ?_
      obtain rfl := sj hs_1345
      exact ⟨_, rfl, _, rfl, _, (GLe.trans hl_1351 hl_1427), f.weak ⟨rfl, rfl, rfl, rfl, trivial⟩, m⟩
     ·refine k_false f rfl hc_1428 ?_
      refine k_exit rfl ?_
      obtain rfl := sj hs_1345
      obtain rfl := hq_1346 _ rfl
      exact ⟨_, rfl, _, (GLe.trans hl_1351 hl_1427), f.weak ⟨rfl, rfl, rfl, rfl, trivial⟩, m⟩
    ·intro K_1408
     rcases cond_some hj_1410 with ⟨hc_1392, hj_1410⟩ | ⟨hc_1392, hj_1410⟩
     ·refine q_mv 4 14 rfl (by kernel_rfl) f (wanted_of f rfl rfl rfl hc_1392) rfl rfl fun a f => ?_
      refine q_mv 5 14 rfl (by kernel_rfl) f (wanted_of f rfl rfl rfl hc_1392) rfl rfl fun a f => ?_
      obtain ⟨e_1411, he_1412, hj_1410⟩ := bind_some hj_1410
      refine q_own_at (i := 6) 14 0 m o_744 rfl T31 he_1412 rfl (by kernel_rfl) rfl f (wanted_of f rfl rfl rfl hc_1392) rfl rfl rfl fun p_1413 a ha_1414 f => ?_
      refine q_own_load (i := 7) 14 0 o_744 rfl Pl2 ha_1414 he_1412 rfl (by kernel_rfl) rfl f (wanted_of f rfl rfl rfl hc_1392) rfl rfl fun c_1415 a h_1416 f => ?_
      subst h_1416
      refine q_mv 8 14 rfl (by kernel_rfl) f (wanted_of f rfl rfl rfl hc_1392) rfl rfl fun a f => ?_
      refine q_mv 9 14 rfl (by kernel_rfl) f (wanted_of f rfl rfl rfl hc_1392) rfl rfl fun a f => ?_
      obtain ⟨e_1417, he_1418, hj_1410⟩ := bind_some hj_1410
      refine q_own_at (i := 10) 14 0 m o_744 rfl T31 he_1418 rfl (by kernel_rfl) rfl f (wanted_of f rfl rfl rfl hc_1392) rfl rfl rfl fun p_1419 a ha_1420 f => ?_
      refine q_own_load (i := 11) 14 0 o_744 rfl Pl2 ha_1420 he_1418 rfl (by kernel_rfl) rfl f (wanted_of f rfl rfl rfl hc_1392) rfl rfl fun c_1421 a h_1422 f => ?_
      subst h_1422
      obtain ⟨y_1423, hy_1424, hj_1410⟩ := bind_some hj_1410
      refine q_call (i := 12) 14 rfl (by kernel_rfl) rfl f (wanted_of f rfl rfl rfl hc_1392) rfl rfl Tryd.call138 (fun _ _ w hG_1425 m => Wk.cmp_Less_int64 m  hy_1424) fun a f => ?_
      refine q_p 13 14 rfl (by kernel_rfl) f rfl rfl rfl (fun _ => r_pickT (f.eval rfl) hc_1392 (f.eval rfl)) fun a f => ?_
      obtain rfl := sj hj_1410
      exact K_1408 _ (f.weak ⟨rfl, rfl, rfl, rfl, rfl, rfl, rfl, rfl, rfl, trivial⟩)
     ·refine q_ng 4 14 rfl (by kernel_rfl) f rfl rfl hc_1392 rfl fun a f => ?_
      refine q_ng 5 14 rfl (by kernel_rfl) f rfl rfl hc_1392 rfl fun a f => ?_
      refine q_ng 6 14 rfl (by kernel_rfl) f rfl rfl hc_1392 rfl fun a f => ?_
      refine q_ng 7 14 rfl (by kernel_rfl) f rfl rfl hc_1392 rfl fun a f => ?_
      refine q_ng 8 14 rfl (by kernel_rfl) f rfl rfl hc_1392 rfl fun a f => ?_
      refine q_ng 9 14 rfl (by kernel_rfl) f rfl rfl hc_1392 rfl fun a f => ?_
      refine q_ng 10 14 rfl (by kernel_rfl) f rfl rfl hc_1392 rfl fun a f => ?_
      refine q_ng 11 14 rfl (by kernel_rfl) f rfl rfl hc_1392 rfl fun a f => ?_
      refine q_ng 12 14 rfl (by kernel_rfl) f rfl rfl hc_1392 rfl fun a f => ?_
      refine q_p 13 14 rfl (by kernel_rfl) f rfl rfl rfl (fun _ => r_pickF (f.eval rfl) hc_1392 (f.eval rfl)) fun a f => ?_
      obtain rfl := sj hj_1410
      exact K_1408 _ (f.weak ⟨rfl, rfl, rfl, rfl, rfl, rfl, rfl, rfl, rfl, trivial⟩)
   ·rintro a w ⟨x_1390, rfl, G_1389, hl_1391, f, m⟩
    have o_744 := Ow.mono (RI.mono _) hl_1391 o_744
    refine k_seq (k_seq (k_region ?_))
    refine l_mv f rfl rfl fun a f => ?_
    refine l_mv f rfl rfl fun a f => ?_
    refine l_in f rfl rfl rfl b_gtr fun a f => ?_
    refine l_nil ?_
    rcases cond_some hs_737 with ⟨hc_1429, hs_737⟩ | ⟨hc_1429, hs_737⟩
    ·refine k_true f rfl hc_1429 ?_
     refine k_exit rfl ?_
     obtain rfl := sj hs_737
     obtain rfl := hq_738 _ rfl
     exact ⟨_, _, rfl, _, it_743, (GLe.trans hl_747 (GLe.trans hl_1229 hl_1391)), f.weak ⟨rfl, trivial⟩, m, o_744⟩
    ·refine k_false f rfl hc_1429 ?_
     refine k_skip ?_
     refine k_seq ?_
     refine k_draw0 Follows m ?_
     refine p_p 2 rfl (by kernel_rfl) f rfl rfl rfl (fun _ => r_move (f.eval rfl)) fun a f => ?_
     refine p_p 3 rfl (by kernel_rfl) f rfl rfl rfl (fun _ => r_move (f.eval rfl)) fun a f => ?_
     refine k_draw1 12013 11 (by kernel_rfl) rfl ?_
     refine q_mv 0 12013 rfl (by kernel_rfl) f rfl rfl rfl fun a f => ?_
     refine q_mv 1 12013 rfl (by kernel_rfl) f rfl rfl rfl fun a f => ?_
     refine q_mv 4 12013 rfl (by kernel_rfl) f rfl rfl rfl fun a f => ?_
     refine q_mv 5 12013 rfl (by kernel_rfl) f rfl rfl rfl fun a f => ?_
     obtain ⟨e_1430, he_1431, hs_737⟩ := bind_some hs_737
     refine q_own_at (i := 6) 12013 0 m o_744 rfl T31 he_1431 rfl (by kernel_rfl) rfl f rfl rfl rfl rfl fun p_1432 a ha_1433 f => ?_
     refine q_own_load (i := 7) 12013 0 o_744 rfl Pl2 ha_1433 he_1431 rfl (by kernel_rfl) rfl f rfl rfl rfl fun c_1434 a h_1435 f => ?_
     subst h_1435
     refine q_mv 8 12013 rfl (by kernel_rfl) f rfl rfl rfl fun a f => ?_
     refine q_mv 9 12013 rfl (by kernel_rfl) f rfl rfl rfl fun a f => ?_
     obtain ⟨e_1436, he_1437, hs_737⟩ := bind_some hs_737
     refine q_own_at (i := 10) 12013 0 m o_744 rfl T31 he_1437 rfl (by kernel_rfl) rfl f rfl rfl rfl rfl fun p_1438 a ha_1439 f => ?_
     refine q_own_load (i := 11) 12013 0 o_744 rfl Pl2 ha_1439 he_1437 rfl (by kernel_rfl) rfl f rfl rfl rfl fun c_1440 a h_1441 f => ?_
     subst h_1441
     obtain ⟨e_1442, he_1443, hs_737⟩ := bind_some hs_737
     refine q_own_at (i := 12) 12013 0 m o_744 rfl T31 he_1443 rfl (by kernel_rfl) rfl f rfl rfl rfl rfl fun p_1444 a ha_1445 f => ?_
     refine q_end fun G_1446 w hl_1447 m => ?_
     have o_744 := Ow.mono (RI.mono _) hl_1447 o_744
     refine l_own_store 0 m o_744 rfl Tryd.sizeOf2 f rfl rfl ha_1445 he_1443 rfl rfl rfl fun it_1448 w m o_1449 => ?_
     obtain ⟨e_1450, he_1451, hs_737⟩ := bind_some hs_737
     refine l_own_at 0 m o_1449 rfl T31 f rfl rfl rfl he_1451 fun p_1452 a ha_1453 f => ?_
     refine l_own_store 0 m o_1449 rfl Tryd.sizeOf2 f rfl rfl ha_1453 he_1451 rfl rfl rfl fun it_1454 w m o_1455 => ?_
     refine l_nil (k_seq (k_region ?_))
     refine l_mv f rfl rfl fun a f => ?_
     refine l_in f rfl rfl rfl b_add fun a f => ?_
     refine l_as f rfl rfl fun a f => ?_
     refine l_nil (k_region ?_)
     refine l_mv f rfl rfl fun a f => ?_
     refine l_in f rfl rfl rfl b_sub fun a f => ?_
     refine l_as f rfl rfl fun a f => ?_
     refine l_nil ?_
     obtain rfl := sj hs_737
     exact ⟨_, rfl, _, _, _, rfl, _, it_1454, (GLe.trans hl_747 (GLe.trans hl_1229 (GLe.trans hl_1391 hl_1447))), f.weak ⟨rfl, rfl, rfl, rfl, trivial⟩, m, o_1455⟩
 ·rintro a w ⟨l_1100, x_1103, rfl, G_1099, it_1101, hl_1104, f, m, o_1102⟩
  refine k_seq (k_region ?_)
  refine l_mv f rfl rfl fun a f => ?_
  refine l_as f rfl rfl fun a f => ?_
  refine l_nil ?_
  refine k_ret ?_
  obtain rfl := sj hd
  exact ⟨[(.int .i64 x_1103)], ⟨f.get _ _ rfl, trivial⟩, f.defers, _, [it_1101], (GLe.trans hl_18 hl_1104), m, _, rfl, rfl, o_1102⟩

theorem Wk.slices_partitionOrdered_int64 {W w : World} {G : GH} {H : List Itm} {v0 : Value} {it0 : Itm} {x0 : (List Int)} {x1 : Int} {x2 : Int} {x3 : Int} (m : Mem W G w (it0 :: H)) (o0 : Ow (RI .i64) 2 G it0 v0 x0) {y : Int × Bool × ((List Int))} (hd : D.slices_partitionOrdered_int64 x0 x1 x2 x3 = some y) :
  Calls Tryd.prog 140 #[v0, (.int .i64 x1), (.int .i64 x2), (.int .i64 x3)] w (Res W G H (fun G' Ho v => ∃ i0 : Itm, Ho = [i0] ∧ v = .tuple #[(.int .i64 y.1), (.bool y.2.1)] ∧ Ow (RI .i64) 2 G' i0 v0 y.2.2)) := by
 refine calls_b (args := [v0, (.int .i64 x1), (.int .i64 x2), (.int .i64 x3)]) (N := 168) [.tmp 8, .tmp 9] Tryd.func140 rfl rfl (Nat.le_of_ble_eq_true rfl) rfl fun a f => ?_
 unfold D.slices_partitionOrdered_int64 at hd
 refine k_seq (k_region ?_)
 refine l_as f rfl rfl fun a f => ?_
 refine l_as f rfl rfl fun a f => ?_
 refine l_nil (k_seq ?_)
 refine k_draw0 Follows m ?_
 refine p_p 2 rfl (by kernel_rfl) f rfl rfl rfl (fun _ => r_move (f.eval rfl)) fun a f => ?_
 refine p_p 3 rfl (by kernel_rfl) f rfl rfl rfl (fun _ => r_move (f.eval rfl)) fun a f => ?_
 refine k_draw1 12013 11 (by kernel_rfl) rfl ?_
 refine q_mv 0 12013 rfl (by kernel_rfl) f rfl rfl rfl fun a f => ?_
 refine q_mv 1 12013 rfl (by kernel_rfl) f rfl rfl rfl fun a f => ?_
 refine q_mv 4 12013 rfl (by kernel_rfl) f rfl rfl rfl fun a f => ?_
 refine q_mv 5 12013 rfl (by kernel_rfl) f rfl rfl rfl fun a f => ?_
 obtain ⟨e_1, he_2, hd⟩ := bind_some hd
 refine q_own_at (i := 6) 12013 0 m o0 rfl T31 he_2 rfl (by kernel_rfl) rfl f rfl rfl rfl rfl fun p_3 a ha_4 f => ?_
 refine q_own_load (i := 7) 12013 0 o0 rfl Pl2 ha_4 he_2 rfl (by kernel_rfl) rfl f rfl rfl rfl fun c_5 a h_6 f => ?_
 subst h_6
 refine q_mv 8 12013 rfl (by kernel_rfl) f rfl rfl rfl fun a f => ?_
 refine q_mv 9 12013 rfl (by kernel_rfl) f rfl rfl rfl fun a f => ?_
 obtain ⟨e_7, he_8, hd⟩ := bind_some hd
 refine q_own_at (i := 10) 12013 0 m o0 rfl T31 he_8 rfl (by kernel_rfl) rfl f rfl rfl rfl rfl fun p_9 a ha_10 f => ?_
 refine q_own_load (i := 11) 12013 0 o0 rfl Pl2 ha_10 he_8 rfl (by kernel_rfl) rfl f rfl rfl rfl fun c_11 a h_12 f => ?_
 subst h_12
 obtain ⟨e_13, he_14, hd⟩ := bind_some hd
 refine q_own_at (i := 12) 12013 0 m o0 rfl T31 he_14 rfl (by kernel_rfl) rfl f rfl rfl rfl rfl fun p_15 a ha_16 f => ?_
 refine q_end fun G_17 w hl_18 m => ?_
 have o0 := Ow.mono (RI.mono _) hl_18 o0
 refine l_own_store 0 m o0 rfl Tryd.sizeOf2 f rfl rfl ha_16 he_14 rfl rfl rfl fun it_19 w m o_20 => ?_
 obtain ⟨e_21, he_22, hd⟩ := bind_some hd
 refine l_own_at 0 m o_20 rfl T31 f rfl rfl rfl he_22 fun p_23 a ha_24 f => ?_
 refine l_own_store 0 m o_20 rfl Tryd.sizeOf2 f rfl rfl ha_24 he_22 rfl rfl rfl fun it_25 w m o_26 => ?_
 refine l_nil (k_seq (k_region ?_))
 refine l_mv f rfl rfl fun a f => ?_
 refine l_in f rfl rfl rfl b_add fun a f => ?_
 refine l_mv f rfl rfl fun a f => ?_
 refine l_in f rfl rfl rfl b_sub fun a f => ?_
 refine l_as f rfl rfl fun a f => ?_
 refine l_as f rfl rfl fun a f => ?_
 refine l_nil (k_seq ?_)
 obtain ⟨q_103, hl_104, hd⟩ := bind_some hd
 refine k_cut (fun a w => ∃ x_150 : Int, x_150 = q_103 ∧ ∃ (G_149 : GH), GLe G_17 G_149 ∧ Fr a 168 [(0, v0), (1, (.int .i64 x1)), (10, (.int .i64 x_150)), (11, (.int .i64 (IntKind.i64.wrap (x2 - 1))))] ∧ Mem W G_149 w (it_25 :: H)) ?_ ?_
 ·refine k_block ?_
  refine k_loop (fun s_107 a w => ∃ x_110 : Int, x_110 = s_107 ∧ ∃ (G_109 : GH), GLe G_17 G_109 ∧ Fr a 168 [(0, v0), (1, (.int .i64 x1)), (10, (.int .i64 x_110)), (11, (.int .i64 (IntKind.i64.wrap (x2 - 1))))] ∧ Mem W G_109 w (it_25 :: H)) hl_104 ⟨_, rfl, _, (GLe.refl _), f.weak ⟨rfl, rfl, rfl, rfl, trivial⟩, m⟩ ?_
  clear hl_104 f m
  rintro s_107 o_108 hs_105 hq_106 a w ⟨x_110, rfl, G_109, hl_111, f, m⟩
  have o_26 := Ow.mono (RI.mono _) hl_111 o_26
  refine k_seq (k_seq ?_)
  refine k_draw 14 Follows (by kernel_rfl) m ?_
  refine q_mv 0 14 rfl (by kernel_rfl) f rfl rfl rfl fun a f => ?_
  refine q_mv 1 14 rfl (by kernel_rfl) f rfl rfl rfl fun a f => ?_
  refine q_p 2 14 rfl (by kernel_rfl) f rfl rfl rfl (fun _ => r_int (f.eval rfl) (f.eval rfl) b_leq) fun a f => ?_
  refine q_mv 3 14 rfl (by kernel_rfl) f rfl rfl rfl fun a f => ?_
  obtain ⟨b_169, hj_170, hs_105⟩ := bind_some hs_105
  refine q_cut (fuel' := 0) (listed' := #[true, true, true, true, true, true, true, true, true, true, true, true, true, true]) (fun a => Fr a 168 [(0, v0), (1, (.int .i64 x1)), (10, (.int .i64 x_110)), (11, (.int .i64 (IntKind.i64.wrap (x2 - 1)))), (30, (.int .i64 x_110)), (31, (.int .i64 (IntKind.i64.wrap (x2 - 1)))), (32, (.bool (decide (x_110 ≤ (IntKind.i64.wrap (x2 - 1)))))), (33, (.bool (decide (x_110 ≤ (IntKind.i64.wrap (x2 - 1)))))), (43, (.bool b_169))]) ?_ ?_
  ·intro a f
   refine q_end fun G_186 w hl_187 m => ?_
   have o_26 := Ow.mono (RI.mono _) hl_187 o_26
   refine l_nil ?_
   rcases cond_some hs_105 with ⟨hc_188, hs_105⟩ | ⟨hc_188, hs_105⟩
   ·refine k_true f rfl hc_188 ?_
    refine k_skip ?_
    refine k_block (k_region ?_)
    refine l_mv f rfl rfl fun a f => ?_
    refine l_in f rfl rfl rfl b_add fun a f => ?_
    refine l_as f rfl rfl fun a f => ?_
    refine l_nil ?_
    obtain rfl := sj hs_105
    exact ⟨_, rfl, _, rfl, _, (GLe.trans hl_111 hl_187), f.weak ⟨rfl, rfl, rfl, rfl, trivial⟩, m⟩
   ·refine k_false f rfl hc_188 ?_
    refine k_exit rfl ?_
    obtain rfl := sj hs_105
    obtain rfl := hq_106 _ rfl
    exact ⟨_, rfl, _, (GLe.trans hl_111 hl_187), f.weak ⟨rfl, rfl, rfl, rfl, trivial⟩, m⟩
  ·intro K_168
   rcases cond_some hj_170 with ⟨hc_152, hj_170⟩ | ⟨hc_152, hj_170⟩
   ·refine q_mv 4 14 rfl (by kernel_rfl) f (wanted_of f rfl rfl rfl hc_152) rfl rfl fun a f => ?_
    refine q_mv 5 14 rfl (by kernel_rfl) f (wanted_of f rfl rfl rfl hc_152) rfl rfl fun a f => ?_
    obtain ⟨e_171, he_172, hj_170⟩ := bind_some hj_170
    refine q_own_at (i := 6) 14 0 m o_26 rfl T31 he_172 rfl (by kernel_rfl) rfl f (wanted_of f rfl rfl rfl hc_152) rfl rfl rfl fun p_173 a ha_174 f => ?_
    refine q_own_load (i := 7) 14 0 o_26 rfl Pl2 ha_174 he_172 rfl (by kernel_rfl) rfl f (wanted_of f rfl rfl rfl hc_152) rfl rfl fun c_175 a h_176 f => ?_
    subst h_176
    refine q_mv 8 14 rfl (by kernel_rfl) f (wanted_of f rfl rfl rfl hc_152) rfl rfl fun a f => ?_
    refine q_mv 9 14 rfl (by kernel_rfl) f (wanted_of f rfl rfl rfl hc_152) rfl rfl fun a f => ?_
    obtain ⟨e_177, he_178, hj_170⟩ := bind_some hj_170
    refine q_own_at (i := 10) 14 0 m o_26 rfl T31 he_178 rfl (by kernel_rfl) rfl f (wanted_of f rfl rfl rfl hc_152) rfl rfl rfl fun p_179 a ha_180 f => ?_
    refine q_own_load (i := 11) 14 0 o_26 rfl Pl2 ha_180 he_178 rfl (by kernel_rfl) rfl f (wanted_of f rfl rfl rfl hc_152) rfl rfl fun c_181 a h_182 f => ?_
    subst h_182
    obtain ⟨y_183, hy_184, hj_170⟩ := bind_some hj_170
    refine q_call (i := 12) 14 rfl (by kernel_rfl) rfl f (wanted_of f rfl rfl rfl hc_152) rfl rfl Tryd.call138 (fun _ _ w hG_185 m => Wk.cmp_Less_int64 m  hy_184) fun a f => ?_
    refine q_p 13 14 rfl (by kernel_rfl) f rfl rfl rfl (fun _ => r_pickT (f.eval rfl) hc_152 (f.eval rfl)) fun a f => ?_
    obtain rfl := sj hj_170
    exact K_168 _ (f.weak ⟨rfl, rfl, rfl, rfl, rfl, rfl, rfl, rfl, rfl, trivial⟩)
   ·refine q_ng 4 14 rfl (by kernel_rfl) f rfl rfl hc_152 rfl fun a f => ?_
    refine q_ng 5 14 rfl (by kernel_rfl) f rfl rfl hc_152 rfl fun a f => ?_
    refine q_ng 6 14 rfl (by kernel_rfl) f rfl rfl hc_152 rfl fun a f => ?_
    refine q_ng 7 14 rfl (by kernel_rfl) f rfl rfl hc_152 rfl fun a f => ?_
    refine q_ng 8 14 rfl (by kernel_rfl) f rfl rfl hc_152 rfl fun a f => ?_
    refine q_ng 9 14 rfl (by kernel_rfl) f rfl rfl hc_152 rfl fun a f => ?_
    refine q_ng 10 14 rfl (by kernel_rfl) f rfl rfl hc_152 rfl fun a f => ?_
    refine q_ng 11 14 rfl (by kernel_rfl) f rfl rfl hc_152 rfl fun a f => ?_
    refine q_ng 12 14 rfl (by kernel_rfl) f rfl rfl hc_152 rfl fun a f => ?_
    refine q_p 13 14 rfl (by kernel_rfl) f rfl rfl rfl (fun _ => r_pickF (f.eval rfl) hc_152 (f.eval rfl)) fun a f => ?_
    obtain rfl := sj hj_170
    exact K_168 _ (f.weak ⟨rfl, rfl, rfl, rfl, rfl, rfl, rfl, rfl, rfl, trivial⟩)
 ·rintro a w ⟨x_150, rfl, G_149, hl_151, f, m⟩
  have o_26 := Ow.mono (RI.mono _) hl_151 o_26
  refine k_seq ?_
  obtain ⟨q_265, hl_266, hd⟩ := bind_some hd
  refine k_cut (fun a w => ∃ x_312 : Int, x_312 = q_265 ∧ ∃ (G_311 : GH), GLe G_149 G_311 ∧ Fr a 168 [(0, v0), (1, (.int .i64 x1)), (10, (.int .i64 x_150)), (11, (.int .i64 x_312))] ∧ Mem W G_311 w (it_25 :: H)) ?_ ?_
  ·refine k_block ?_
   refine k_loop (fun s_269 a w => ∃ x_272 : Int, x_272 = s_269 ∧ ∃ (G_271 : GH), GLe G_149 G_271 ∧ Fr a 168 [(0, v0), (1, (.int .i64 x1)), (10, (.int .i64 x_150)), (11, (.int .i64 x_272))] ∧ Mem W G_271 w (it_25 :: H)) hl_266 ⟨_, rfl, _, (GLe.refl _), f.weak ⟨rfl, rfl, rfl, rfl, trivial⟩, m⟩ ?_
   clear hl_266 f m
   rintro s_269 o_270 hs_267 hq_268 a w ⟨x_272, rfl, G_271, hl_273, f, m⟩
   have o_26 := Ow.mono (RI.mono _) hl_273 o_26
   refine k_seq (k_seq ?_)
   refine k_draw 15 Follows (by kernel_rfl) m ?_
   refine q_mv 0 15 rfl (by kernel_rfl) f rfl rfl rfl fun a f => ?_
   refine q_mv 1 15 rfl (by kernel_rfl) f rfl rfl rfl fun a f => ?_
   refine q_p 2 15 rfl (by kernel_rfl) f rfl rfl rfl (fun _ => r_int (f.eval rfl) (f.eval rfl) b_leq) fun a f => ?_
   refine q_mv 3 15 rfl (by kernel_rfl) f rfl rfl rfl fun a f => ?_
   obtain ⟨b_331, hj_332, hs_267⟩ := bind_some hs_267
   refine q_cut (fuel' := 0) (listed' := #[true, true, true, true, true, true, true, true, true, true, true, true, true, true, true]) (fun a => Fr a 168 [(0, v0), (1, (.int .i64 x1)), (10, (.int .i64 x_150)), (11, (.int .i64 x_272)), (46, (.int .i64 x_150)), (47, (.int .i64 x_272)), (48, (.bool (decide (x_150 ≤ x_272)))), (49, (.bool (decide (x_150 ≤ x_272)))), (60, (.bool b_331))]) ?_ ?_
   ·intro a f
    refine q_end fun G_348 w hl_349 m => ?_
    have o_26 := Ow.mono (RI.mono _) hl_349 o_26
    refine l_nil ?_
    rcases cond_some hs_267 with ⟨hc_350, hs_267⟩ | ⟨hc_350, hs_267⟩
    ·refine k_true f rfl hc_350 ?_
     refine k_skip ?_
     refine k_block (k_region ?_)
     refine l_mv f rfl rfl fun a f => ?_
     refine l_in f rfl rfl rfl b_sub fun a f => ?_
     refine l_as f rfl rfl fun a f => ?_
     refine l_nil ?_
     obtain rfl := sj hs_267
     exact ⟨_, rfl, _, rfl, _, (GLe.trans hl_273 hl_349), f.weak ⟨rfl, rfl, rfl, rfl, trivial⟩, m⟩
    ·refine k_false f rfl hc_350 ?_
     refine k_exit rfl ?_
     obtain rfl := sj hs_267
     obtain rfl := hq_268 _ rfl
     exact ⟨_, rfl, _, (GLe.trans hl_273 hl_349), f.weak ⟨rfl, rfl, rfl, rfl, trivial⟩, m⟩
   ·intro K_330
    rcases cond_some hj_332 with ⟨hc_314, hj_332⟩ | ⟨hc_314, hj_332⟩
    ·refine q_mv 4 15 rfl (by kernel_rfl) f (wanted_of f rfl rfl rfl hc_314) rfl rfl fun a f => ?_
     refine q_mv 5 15 rfl (by kernel_rfl) f (wanted_of f rfl rfl rfl hc_314) rfl rfl fun a f => ?_
     obtain ⟨e_333, he_334, hj_332⟩ := bind_some hj_332
     refine q_own_at (i := 6) 15 0 m o_26 rfl T31 he_334 rfl (by kernel_rfl) rfl f (wanted_of f rfl rfl rfl hc_314) rfl rfl rfl fun p_335 a ha_336 f => ?_
     refine q_own_load (i := 7) 15 0 o_26 rfl Pl2 ha_336 he_334 rfl (by kernel_rfl) rfl f (wanted_of f rfl rfl rfl hc_314) rfl rfl fun c_337 a h_338 f => ?_
     subst h_338
     refine q_mv 8 15 rfl (by kernel_rfl) f (wanted_of f rfl rfl rfl hc_314) rfl rfl fun a f => ?_
     refine q_mv 9 15 rfl (by kernel_rfl) f (wanted_of f rfl rfl rfl hc_314) rfl rfl fun a f => ?_
     obtain ⟨e_339, he_340, hj_332⟩ := bind_some hj_332
     refine q_own_at (i := 10) 15 0 m o_26 rfl T31 he_340 rfl (by kernel_rfl) rfl f (wanted_of f rfl rfl rfl hc_314) rfl rfl rfl fun p_341 a ha_342 f => ?_
     refine q_own_load (i := 11) 15 0 o_26 rfl Pl2 ha_342 he_340 rfl (by kernel_rfl) rfl f (wanted_of f rfl rfl rfl hc_314) rfl rfl fun c_343 a h_344 f => ?_
     subst h_344
     obtain ⟨y_345, hy_346, hj_332⟩ := bind_some hj_332
     refine q_call (i := 12) 15 rfl (by kernel_rfl) rfl f (wanted_of f rfl rfl rfl hc_314) rfl rfl Tryd.call138 (fun _ _ w hG_347 m => Wk.cmp_Less_int64 m  hy_346) fun a f => ?_
     refine q_p 13 15 rfl (by kernel_rfl) f (wanted_of f rfl rfl rfl hc_314) rfl rfl (fun _ => r_not (f.eval rfl)) fun a f => ?_
     refine q_p 14 15 rfl (by kernel_rfl) f rfl rfl rfl (fun _ => r_pickT (f.eval rfl) hc_314 (f.eval rfl)) fun a f => ?_
     obtain rfl := sj hj_332
     exact K_330 _ (f.weak ⟨rfl, rfl, rfl, rfl, rfl, rfl, rfl, rfl, rfl, trivial⟩)
    ·refine q_ng 4 15 rfl (by kernel_rfl) f rfl rfl hc_314 rfl fun a f => ?_
     refine q_ng 5 15 rfl (by kernel_rfl) f rfl rfl hc_314 rfl fun a f => ?_
     refine q_ng 6 15 rfl (by kernel_rfl) f rfl rfl hc_314 rfl fun a f => ?_
     refine q_ng 7 15 rfl (by kernel_rfl) f rfl rfl hc_314 rfl fun a f => ?_
     refine q_ng 8 15 rfl (by kernel_rfl) f rfl rfl hc_314 rfl fun a f => ?_
     refine q_ng 9 15 rfl (by kernel_rfl) f rfl rfl hc_314 rfl fun a f => ?_
     refine q_ng 10 15 rfl (by kernel_rfl) f rfl rfl hc_314 rfl fun a f => ?_
     refine q_ng 11 15 rfl (by kernel_rfl) f rfl rfl hc_314 rfl fun a f => ?_
     refine q_ng 12 15 rfl (by kernel_rfl) f rfl rfl hc_314 rfl fun a f => ?_
     refine q_ng 13 15 rfl (by kernel_rfl) f rfl rfl hc_314 rfl fun a f => ?_
     refine q_p 14 15 rfl (by kernel_rfl) f rfl rfl rfl (fun _ => r_pickF (f.eval rfl) hc_314 (f.eval rfl)) fun a f => ?_
     obtain rfl := sj hj_332
     exact K_330 _ (f.weak ⟨rfl, rfl, rfl, rfl, rfl, rfl, rfl, rfl, rfl, trivial⟩)
  ·rintro a w ⟨x_312, rfl, G_311, hl_313, f, m⟩
   have o_26 := Ow.mono (RI.mono _) hl_313 o_26
   refine k_seq (k_seq (k_region ?_))
   refine l_mv f rfl rfl fun a f => ?_
   refine l_mv f rfl rfl fun a f => ?_
   refine l_in f rfl rfl rfl b_gtr fun a f => ?_
   refine l_nil ?_
   rcases cond_some hd with ⟨hc_351, hd⟩ | ⟨hc_351, hd⟩
   ·refine k_true f rfl hc_351 ?_
    refine k_seq ?_
    refine k_draw0 Follows m ?_
    refine p_p 2 rfl (by kernel_rfl) f rfl rfl rfl (fun _ => r_move (f.eval rfl)) fun a f => ?_
    refine p_p 3 rfl (by kernel_rfl) f rfl rfl rfl (fun _ => r_move (f.eval rfl)) fun a f => ?_
    refine k_draw1 12013 11 (by kernel_rfl) rfl ?_
    refine q_mv 0 12013 rfl (by kernel_rfl) f rfl rfl rfl fun a f => ?_
    refine q_mv 1 12013 rfl (by kernel_rfl) f rfl rfl rfl fun a f => ?_
    refine q_mv 4 12013 rfl (by kernel_rfl) f rfl rfl rfl fun a f => ?_
    refine q_mv 5 12013 rfl (by kernel_rfl) f rfl rfl rfl fun a f => ?_
    obtain ⟨e_352, he_353, hd⟩ := bind_some hd
    refine q_own_at (i := 6) 12013 0 m o_26 rfl T31 he_353 rfl (by kernel_rfl) rfl f rfl rfl rfl rfl fun p_354 a ha_355 f => ?_
    refine q_own_load (i := 7) 12013 0 o_26 rfl Pl2 ha_355 he_353 rfl (by kernel_rfl) rfl f rfl rfl rfl fun c_356 a h_357 f => ?_
    subst h_357
    refine q_mv 8 12013 rfl (by kernel_rfl) f rfl rfl rfl fun a f => ?_
    refine q_mv 9 12013 rfl (by kernel_rfl) f rfl rfl rfl fun a f => ?_
    obtain ⟨e_358, he_359, hd⟩ := bind_some hd
    refine q_own_at (i := 10) 12013 0 m o_26 rfl T31 he_359 rfl (by kernel_rfl) rfl f rfl rfl rfl rfl fun p_360 a ha_361 f => ?_
    refine q_own_load (i := 11) 12013 0 o_26 rfl Pl2 ha_361 he_359 rfl (by kernel_rfl) rfl f rfl rfl rfl fun c_362 a h_363 f => ?_
    subst h_363
    obtain ⟨e_364, he_365, hd⟩ := bind_some hd
    refine q_own_at (i := 12) 12013 0 m o_26 rfl T31 he_365 rfl (by kernel_rfl) rfl f rfl rfl rfl rfl fun p_366 a ha_367 f => ?_
    refine q_end fun G_368 w hl_369 m => ?_
    have o_26 := Ow.mono (RI.mono _) hl_369 o_26
    refine l_own_store 0 m o_26 rfl Tryd.sizeOf2 f rfl rfl ha_367 he_365 rfl rfl rfl fun it_370 w m o_371 => ?_
    obtain ⟨e_372, he_373, hd⟩ := bind_some hd
    refine l_own_at 0 m o_371 rfl T31 f rfl rfl rfl he_373 fun p_374 a ha_375 f => ?_
    refine l_own_store 0 m o_371 rfl Tryd.sizeOf2 f rfl rfl ha_375 he_373 rfl rfl rfl fun it_376 w m o_377 => ?_
    refine l_nil (k_seq (k_region ?_))
    refine l_mv f rfl rfl fun a f => ?_
    refine l_as f rfl rfl fun a f => ?_
    refine l_as f rfl rfl fun a f => ?_
    refine l_nil ?_
    refine k_ret ?_
    obtain rfl := sj hd
    exact ⟨[(.int .i64 x_312), (.bool true)], ⟨f.get _ _ rfl, f.get _ _ rfl, trivial⟩, f.defers, _, [it_376], (GLe.trans hl_18 (GLe.trans hl_151 (GLe.trans hl_313 hl_369))), m, _, rfl, rfl, o_377⟩
   ·refine k_false f rfl hc_351 ?_
    refine k_skip ?_
    refine k_seq ?_
    refine k_draw0 Follows m ?_
    refine p_p 2 rfl (by kernel_rfl) f rfl rfl rfl (fun _ => r_move (f.eval rfl)) fun a f => ?_
    refine p_p 3 rfl (by kernel_rfl) f rfl rfl rfl (fun _ => r_move (f.eval rfl)) fun a f => ?_
    refine k_draw1 12013 11 (by kernel_rfl) rfl ?_
    refine q_mv 0 12013 rfl (by kernel_rfl) f rfl rfl rfl fun a f => ?_
    refine q_mv 1 12013 rfl (by kernel_rfl) f rfl rfl rfl fun a f => ?_
    refine q_mv 4 12013 rfl (by kernel_rfl) f rfl rfl rfl fun a f => ?_
    refine q_mv 5 12013 rfl (by kernel_rfl) f rfl rfl rfl fun a f => ?_
    obtain ⟨e_378, he_379, hd⟩ := bind_some hd
    refine q_own_at (i := 6) 12013 0 m o_26 rfl T31 he_379 rfl (by kernel_rfl) rfl f rfl rfl rfl rfl fun p_380 a ha_381 f => ?_
    refine q_own_load (i := 7) 12013 0 o_26 rfl Pl2 ha_381 he_379 rfl (by kernel_rfl) rfl f rfl rfl rfl fun c_382 a h_383 f => ?_
    subst h_383
    refine q_mv 8 12013 rfl (by kernel_rfl) f rfl rfl rfl fun a f => ?_
    refine q_mv 9 12013 rfl (by kernel_rfl) f rfl rfl rfl fun a f => ?_
    obtain ⟨e_384, he_385, hd⟩ := bind_some hd
    refine q_own_at (i := 10) 12013 0 m o_26 rfl T31 he_385 rfl (by kernel_rfl) rfl f rfl rfl rfl rfl fun p_386 a ha_387 f => ?_
    refine q_own_load (i := 11) 12013 0 o_26 rfl Pl2 ha_387 he_385 rfl (by kernel_rfl) rfl f rfl rfl rfl fun c_388 a h_389 f => ?_
    subst h_389
    obtain ⟨e_390, he_391, hd⟩ := bind_some hd
    refine q_own_at (i := 12) 12013 0 m o_26 rfl T31 he_391 rfl (by kernel_rfl) rfl f rfl rfl rfl rfl fun p_392 a ha_393 f => ?_
    refine q_end fun G_394 w hl_395 m => ?_
    have o_26 := Ow.mono (RI.mono _) hl_395 o_26
    refine l_own_store 0 m o_26 rfl Tryd.sizeOf2 f rfl rfl ha_393 he_391 rfl rfl rfl fun it_396 w m o_397 => ?_
    obtain ⟨e_398, he_399, hd⟩ := bind_some hd
    refine l_own_at 0 m o_397 rfl T31 f rfl rfl rfl he_399 fun p_400 a ha_401 f => ?_
    refine l_own_store 0 m o_397 rfl Tryd.sizeOf2 f rfl rfl ha_401 he_399 rfl rfl rfl fun it_402 w m o_403 => ?_
    refine l_nil (k_seq (k_region ?_))
    refine l_mv f rfl rfl fun a f => ?_
    refine l_in f rfl rfl rfl b_add fun a f => ?_
    refine l_as f rfl rfl fun a f => ?_
    refine l_nil (k_seq (k_region ?_))
    refine l_mv f rfl rfl fun a f => ?_
    refine l_in f rfl rfl rfl b_sub fun a f => ?_
    refine l_as f rfl rfl fun a f => ?_
    refine l_nil (k_seq ?_)
    obtain ⟨q_1112, hl_1113, hd⟩ := bind_some hd
    refine k_cut (fun a w => ∃ l_1477 : List Int, ∃ x_1480 : Int, (l_1477, x_1480) = q_1112 ∧ ∃ (G_1476 : GH) (it_1478 : Itm), GLe G_394 G_1476 ∧ Fr a 168 [(0, v0), (1, (.int .i64 x1)), (11, (.int .i64 x_1480))] ∧ Mem W G_1476 w (it_1478 :: H) ∧ Ow (RI .i64) 2 G_1476 it_1478 v0 l_1477) ?_ ?_
    ·refine k_block ?_
     refine k_loop (fun s_1116 a w => ∃ l_1119 : List Int, ∃ x_1122 : Int, ∃ x_1123 : Int, (l_1119, x_1122, x_1123) = s_1116 ∧ ∃ (G_1118 : GH) (it_1120 : Itm), GLe G_394 G_1118 ∧ Fr a 168 [(0, v0), (1, (.int .i64 x1)), (10, (.int .i64 x_1122)), (11, (.int .i64 x_1123))] ∧ Mem W G_1118 w (it_1120 :: H) ∧ Ow (RI .i64) 2 G_1118 it_1120 v0 l_1119) hl_1113 ⟨_, _, _, rfl, _, it_402, (GLe.refl _), f.weak ⟨rfl, rfl, rfl, rfl, trivial⟩, m, o_403⟩ ?_
     clear hl_1113 f m
     rintro s_1116 o_1117 hs_1114 hq_1115 a w ⟨l_1119, x_1122, x_1123, rfl, G_1118, it_1120, hl_1124, f, m, o_1121⟩
     refine k_block (k_seq ?_)
     obtain ⟨q_1558, hl_1559, hs_1114⟩ := bind_some hs_1114
     refine k_cut (fun a w => ∃ x_1605 : Int, x_1605 = q_1558 ∧ ∃ (G_1604 : GH), GLe G_1118 G_1604 ∧ Fr a 168 [(0, v0), (1, (.int .i64 x1)), (10, (.int .i64 x_1605)), (11, (.int .i64 x_1123))] ∧ Mem W G_1604 w (it_1120 :: H)) ?_ ?_
     ·refine k_block ?_
      refine k_loop (fun s_1562 a w => ∃ x_1565 : Int, x_1565 = s_1562 ∧ ∃ (G_1564 : GH), GLe G_1118 G_1564 ∧ Fr a 168 [(0, v0), (1, (.int .i64 x1)), (10, (.int .i64 x_1565)), (11, (.int .i64 x_1123))] ∧ Mem W G_1564 w (it_1120 :: H)) hl_1559 ⟨_, rfl, _, (GLe.refl _), f.weak ⟨rfl, rfl, rfl, rfl, trivial⟩, m⟩ ?_
      clear hl_1559 f m
      rintro s_1562 o_1563 hs_1560 hq_1561 a w ⟨x_1565, rfl, G_1564, hl_1566, f, m⟩
      have o_1121 := Ow.mono (RI.mono _) hl_1566 o_1121
      refine k_seq (k_seq ?_)
      refine k_draw 14 Follows (by kernel_rfl) m ?_
      refine q_mv 0 14 rfl (by kernel_rfl) f rfl rfl rfl fun a f => ?_
      refine q_mv 1 14 rfl (by kernel_rfl) f rfl rfl rfl fun a f => ?_
      refine q_p 2 14 rfl (by kernel_rfl) f rfl rfl rfl (fun _ => r_int (f.eval rfl) (f.eval rfl) b_leq) fun a f => ?_
      refine q_mv 3 14 rfl (by kernel_rfl) f rfl rfl rfl fun a f => ?_
      obtain ⟨b_1624, hj_1625, hs_1560⟩ := bind_some hs_1560
      refine q_cut (fuel' := 0) (listed' := #[true, true, true, true, true, true, true, true, true, true, true, true, true, true]) (fun a => Fr a 168 [(0, v0), (1, (.int .i64 x1)), (10, (.int .i64 x_1565)), (11, (.int .i64 x_1123)), (99, (.int .i64 x_1565)), (100, (.int .i64 x_1123)), (101, (.bool (decide (x_1565 ≤ x_1123)))), (102, (.bool (decide (x_1565 ≤ x_1123)))), (112, (.bool b_1624))]) ?_ ?_
      ·intro a f
       refine q_end fun G_1641 w hl_1642 m => ?_
       have o_1121 := Ow.mono (RI.mono _) hl_1642 o_1121
       refine l_nil ?_
       rcases cond_some hs_1560 with ⟨hc_1643, hs_1560⟩ | ⟨hc_1643, hs_1560⟩
       ·refine k_true f rfl hc_1643 ?_
        refine k_skip ?_
        refine k_block (k_region ?_)
        refine l_mv f rfl rfl fun a f => ?_
        refine l_in f rfl rfl rfl b_add fun a f => ?_
        refine l_as f rfl rfl fun a f => ?_
        refine l_nil ?_
        obtain rfl := sj hs_1560
        exact ⟨_, rfl, _, rfl, _, (GLe.trans hl_1566 hl_1642), f.weak ⟨rfl, rfl, rfl, rfl, trivial⟩, m⟩
       ·refine k_false f rfl hc_1643 ?_
        refine k_exit rfl ?_
        obtain rfl := sj hs_1560
        obtain rfl := hq_1561 _ rfl
        exact ⟨_, rfl, _, (GLe.trans hl_1566 hl_1642), f.weak ⟨rfl, rfl, rfl, rfl, trivial⟩, m⟩
      ·intro K_1623
       rcases cond_some hj_1625 with ⟨hc_1607, hj_1625⟩ | ⟨hc_1607, hj_1625⟩
       ·refine q_mv 4 14 rfl (by kernel_rfl) f (wanted_of f rfl rfl rfl hc_1607) rfl rfl fun a f => ?_
        refine q_mv 5 14 rfl (by kernel_rfl) f (wanted_of f rfl rfl rfl hc_1607) rfl rfl fun a f => ?_
        obtain ⟨e_1626, he_1627, hj_1625⟩ := bind_some hj_1625
        refine q_own_at (i := 6) 14 0 m o_1121 rfl T31 he_1627 rfl (by kernel_rfl) rfl f (wanted_of f rfl rfl rfl hc_1607) rfl rfl rfl fun p_1628 a ha_1629 f => ?_
        refine q_own_load (i := 7) 14 0 o_1121 rfl Pl2 ha_1629 he_1627 rfl (by kernel_rfl) rfl f (wanted_of f rfl rfl rfl hc_1607) rfl rfl fun c_1630 a h_1631 f => ?_
        subst h_1631
        refine q_mv 8 14 rfl (by kernel_rfl) f (wanted_of f rfl rfl rfl hc_1607) rfl rfl fun a f => ?_
        refine q_mv 9 14 rfl (by kernel_rfl) f (wanted_of f rfl rfl rfl hc_1607) rfl rfl fun a f => ?_
        obtain ⟨e_1632, he_1633, hj_1625⟩ := bind_some hj_1625
        refine q_own_at (i := 10) 14 0 m o_1121 rfl T31 he_1633 rfl (by kernel_rfl) rfl f (wanted_of f rfl rfl rfl hc_1607) rfl rfl rfl fun p_1634 a ha_1635 f => ?_
        refine q_own_load (i := 11) 14 0 o_1121 rfl Pl2 ha_1635 he_1633 rfl (by kernel_rfl) rfl f (wanted_of f rfl rfl rfl hc_1607) rfl rfl fun c_1636 a h_1637 f => ?_
        subst h_1637
        obtain ⟨y_1638, hy_1639, hj_1625⟩ := bind_some hj_1625
        refine q_call (i := 12) 14 rfl (by kernel_rfl) rfl f (wanted_of f rfl rfl rfl hc_1607) rfl rfl Tryd.call138 (fun _ _ w hG_1640 m => Wk.cmp_Less_int64 m  hy_1639) fun a f => ?_
        refine q_p 13 14 rfl (by kernel_rfl) f rfl rfl rfl (fun _ => r_pickT (f.eval rfl) hc_1607 (f.eval rfl)) fun a f => ?_
        obtain rfl := sj hj_1625
        exact K_1623 _ (f.weak ⟨rfl, rfl, rfl, rfl, rfl, rfl, rfl, rfl, rfl, trivial⟩)
       ·refine q_ng 4 14 rfl (by kernel_rfl) f rfl rfl hc_1607 rfl fun a f => ?_
        refine q_ng 5 14 rfl (by kernel_rfl) f rfl rfl hc_1607 rfl fun a f => ?_
        refine q_ng 6 14 rfl (by kernel_rfl) f rfl rfl hc_1607 rfl fun a f => ?_
        refine q_ng 7 14 rfl (by kernel_rfl) f rfl rfl hc_1607 rfl fun a f => ?_
        refine q_ng 8 14 rfl (by kernel_rfl) f rfl rfl hc_1607 rfl fun a f => ?_
        refine q_ng 9 14 rfl (by kernel_rfl) f rfl rfl hc_1607 rfl fun a f => ?_
        refine q_ng 10 14 rfl (by kernel_rfl) f rfl rfl hc_1607 rfl fun a f => ?_
        refine q_ng 11 14 rfl (by kernel_rfl) f rfl rfl hc_1607 rfl fun a f => ?_
        refine q_ng 12 14 rfl (by kernel_rfl) f rfl rfl hc_1607 rfl fun a f => ?_
        refine q_p 13 14 rfl (by kernel_rfl) f rfl rfl rfl (fun _ => r_pickF (f.eval rfl) hc_1607 (f.eval rfl)) fun a f => ?_
        obtain rfl := sj hj_1625
        exact K_1623 _ (f.weak ⟨rfl, rfl, rfl, rfl, rfl, rfl, rfl, rfl, rfl, trivial⟩)
     ·rintro a w ⟨x_1605, rfl, G_1604, hl_1606, f, m⟩
      have o_1121 := Ow.mono (RI.mono _) hl_1606 o_1121
      refine k_seq ?_
      obtain ⟨q_1720, hl_1721, hs_1114⟩ := bind_some hs_1114
      refine k_cut (fun a w => ∃ x_1767 : Int, x_1767 = q_1720 ∧ ∃ (G_1766 : GH), GLe G_1604 G_1766 ∧ Fr a 168 [(0, v0), (1, (.int .i64 x1)), (10, (.int .i64 x_1605)), (11, (.int .i64 x_1767))] ∧ Mem W G_1766 w (it_1120 :: H)) ?_ ?_
      ·refine k_block ?_
       refine k_loop (fun s_1724 a w => ∃ x_1727 : Int, x_1727 = s_1724 ∧ ∃ (G_1726 : GH), GLe G_1604 G_1726 ∧ Fr a 168 [(0, v0), (1, (.int .i64 x1)), (10, (.int .i64 x_1605)), (11, (.int .i64 x_1727))] ∧ Mem W G_1726 w (it_1120 :: H)) hl_1721 ⟨_, rfl, _, (GLe.refl _), f.weak ⟨rfl, rfl, rfl, rfl, trivial⟩, m⟩ ?_
       clear hl_1721 f m
       rintro s_1724 o_1725 hs_1722 hq_1723 a w ⟨x_1727, rfl, G_1726, hl_1728, f, m⟩
       have o_1121 := Ow.mono (RI.mono _) hl_1728 o_1121
       refine k_seq (k_seq ?_)
       refine k_draw 15 Follows (by kernel_rfl) m ?_
       refine q_mv 0 15 rfl (by kernel_rfl) f rfl rfl rfl fun a f => ?_
       refine q_mv 1 15 rfl (by kernel_rfl) f rfl rfl rfl fun a f => ?_
       refine q_p 2 15 rfl (by kernel_rfl) f rfl rfl rfl (fun _ => r_int (f.eval rfl) (f.eval rfl) b_leq) fun a f => ?_
       refine q_mv 3 15 rfl (by kernel_rfl) f rfl rfl rfl fun a f => ?_
       obtain ⟨b_1786, hj_1787, hs_1722⟩ := bind_some hs_1722
       refine q_cut (fuel' := 0) (listed' := #[true, true, true, true, true, true, true, true, true, true, true, true, true, true, true]) (fun a => Fr a 168 [(0, v0), (1, (.int .i64 x1)), (10, (.int .i64 x_1605)), (11, (.int .i64 x_1727)), (115, (.int .i64 x_1605)), (116, (.int .i64 x_1727)), (117, (.bool (decide (x_1605 ≤ x_1727)))), (118, (.bool (decide (x_1605 ≤ x_1727)))), (129, (.bool b_1786))]) ?_ ?_
       ·intro a f
        refine q_end fun G_1803 w hl_1804 m => ?_
        have o_1121 := Ow.mono (RI.mono _) hl_1804 o_1121
        refine l_nil ?_
        rcases cond_some hs_1722 with ⟨hc_1805, hs_1722⟩ | ⟨hc_1805, hs_1722⟩
        ·refine k_true f rfl hc_1805 ?_
         refine k_skip ?_
         refine k_block (k_region ?_)
         refine l_mv f rfl rfl fun a f => ?_
         refine l_in f rfl rfl rfl b_sub fun a f => ?_
         refine l_as f rfl rfl fun a f => ?_
         refine l_nil ?_
         obtain rfl := sj hs_1722
         exact ⟨_, rfl, _, rfl, _, (GLe.trans hl_1728 hl_1804), f.weak ⟨rfl, rfl, rfl, rfl, trivial⟩, m⟩
        ·refine k_false f rfl hc_1805 ?_
         refine k_exit rfl ?_
         obtain rfl := sj hs_1722
         obtain rfl := hq_1723 _ rfl
         exact ⟨_, rfl, _, (GLe.trans hl_1728 hl_1804), f.weak ⟨rfl, rfl, rfl, rfl, trivial⟩, m⟩
       ·intro K_1785
        rcases cond_some hj_1787 with ⟨hc_1769, hj_1787⟩ | ⟨hc_1769, hj_1787⟩
        ·refine q_mv 4 15 rfl (by kernel_rfl) f (wanted_of f rfl rfl rfl hc_1769) rfl rfl fun a f => ?_
         refine q_mv 5 15 rfl (by kernel_rfl) f (wanted_of f rfl rfl rfl hc_1769) rfl rfl fun a f => ?_
         obtain ⟨e_1788, he_1789, hj_1787⟩ := bind_some hj_1787
         refine q_own_at (i := 6) 15 0 m o_1121 rfl T31 he_1789 rfl (by kernel_rfl) rfl f (wanted_of f rfl rfl rfl hc_1769) rfl rfl rfl fun p_1790 a ha_1791 f => ?_
         refine q_own_load (i := 7) 15 0 o_1121 rfl Pl2 ha_1791 he_1789 rfl (by kernel_rfl) rfl f (wanted_of f rfl rfl rfl hc_1769) rfl rfl fun c_1792 a h_1793 f => ?_
         subst h_1793
         refine q_mv 8 15 rfl (by kernel_rfl) f (wanted_of f rfl rfl rfl hc_1769) rfl rfl fun a f => ?_
         refine q_mv 9 15 rfl (by kernel_rfl) f (wanted_of f rfl rfl rfl hc_1769) rfl rfl fun a f => ?_
         obtain ⟨e_1794, he_1795, hj_1787⟩ := bind_some hj_1787
         refine q_own_at (i := 10) 15 0 m o_1121 rfl T31 he_1795 rfl (by kernel_rfl) rfl f (wanted_of f rfl rfl rfl hc_1769) rfl rfl rfl fun p_1796 a ha_1797 f => ?_
         refine q_own_load (i := 11) 15 0 o_1121 rfl Pl2 ha_1797 he_1795 rfl (by kernel_rfl) rfl f (wanted_of f rfl rfl rfl hc_1769) rfl rfl fun c_1798 a h_1799 f => ?_
         subst h_1799
         obtain ⟨y_1800, hy_1801, hj_1787⟩ := bind_some hj_1787
         refine q_call (i := 12) 15 rfl (by kernel_rfl) rfl f (wanted_of f rfl rfl rfl hc_1769) rfl rfl Tryd.call138 (fun _ _ w hG_1802 m => Wk.cmp_Less_int64 m  hy_1801) fun a f => ?_
         refine q_p 13 15 rfl (by kernel_rfl) f (wanted_of f rfl rfl rfl hc_1769) rfl rfl (fun _ => r_not (f.eval rfl)) fun a f => ?_
         refine q_p 14 15 rfl (by kernel_rfl) f rfl rfl rfl (fun _ => r_pickT (f.eval rfl) hc_1769 (f.eval rfl)) fun a f => ?_
         obtain rfl := sj hj_1787
         exact K_1785 _ (f.weak ⟨rfl, rfl, rfl, rfl, rfl, rfl, rfl, rfl, rfl, trivial⟩)
        ·refine q_ng 4 15 rfl (by kernel_rfl) f rfl rfl hc_1769 rfl fun a f => ?_
         refine q_ng 5 15 rfl (by kernel_rfl) f rfl rfl hc_1769 rfl fun a f => ?_
         refine q_ng 6 15 rfl (by kernel_rfl) f rfl rfl hc_1769 rfl fun a f => ?_
         refine q_ng 7 15 rfl (by kernel_rfl) f rfl rfl hc_1769 rfl fun a f => ?_
         refine q_ng 8 15 rfl (by kernel_rfl) f rfl rfl hc_1769 rfl fun a f => ?_
         refine q_ng 9 15 rfl (by kernel_rfl) f rfl rfl hc_1769 rfl fun a f => ?_
         refine q_ng 10 15 rfl (by kernel_rfl) f rfl rfl hc_1769 rfl fun a f => ?_
         refine q_ng 11 15 rfl (by kernel_rfl) f rfl rfl hc_1769 rfl fun a f => ?_
         refine q_ng 12 15 rfl (by kernel_rfl) f rfl rfl hc_1769 rfl fun a f => ?_
         refine q_ng 13 15 rfl (by kernel_rfl) f rfl rfl hc_1769 rfl fun a f => ?_
         refine q_p 14 15 rfl (by kernel_rfl) f rfl rfl rfl (fun _ => r_pickF (f.eval rfl) hc_1769 (f.eval rfl)) fun a f => ?_
         obtain rfl := sj hj_1787
         exact K_1785 _ (f.weak ⟨rfl, rfl, rfl, rfl, rfl, rfl, rfl, rfl, rfl, trivial⟩)
      ·rintro a w ⟨x_1767, rfl, G_1766, hl_1768, f, m⟩
       have o_1121 := Ow.mono (RI.mono _) hl_1768 o_1121
       refine k_seq (k_seq (k_region ?_))
       refine l_mv f rfl rfl fun a f => ?_
       refine l_mv f rfl rfl fun a f => ?_
       refine l_in f rfl rfl rfl b_gtr fun a f => ?_
       refine l_nil ?_
       rcases cond_some hs_1114 with ⟨hc_1806, hs_1114⟩ | ⟨hc_1806, hs_1114⟩
       ·refine k_true f rfl hc_1806 ?_
        refine k_exit rfl ?_
        obtain rfl := sj hs_1114
        obtain rfl := hq_1115 _ rfl
        exact ⟨_, _, rfl, _, it_1120, (GLe.trans hl_1124 (GLe.trans hl_1606 hl_1768)), f.weak ⟨rfl, rfl, rfl, trivial⟩, m, o_1121⟩
       ·refine k_false f rfl hc_1806 ?_
        refine k_skip ?_
        refine k_seq ?_
        refine k_draw0 Follows m ?_
        refine p_p 2 rfl (by kernel_rfl) f rfl rfl rfl (fun _ => r_move (f.eval rfl)) fun a f => ?_
        refine p_p 3 rfl (by kernel_rfl) f rfl rfl rfl (fun _ => r_move (f.eval rfl)) fun a f => ?_
        refine k_draw1 12013 11 (by kernel_rfl) rfl ?_
        refine q_mv 0 12013 rfl (by kernel_rfl) f rfl rfl rfl fun a f => ?_
        refine q_mv 1 12013 rfl (by kernel_rfl) f rfl rfl rfl fun a f => ?_
        refine q_mv 4 12013 rfl (by kernel_rfl) f rfl rfl rfl fun a f => ?_
        refine q_mv 5 12013 rfl (by kernel_rfl) f rfl rfl rfl fun a f => ?_
        obtain ⟨e_1807, he_1808, hs_1114⟩ := bind_some hs_1114
        refine q_own_at (i := 6) 12013 0 m o_1121 rfl T31 he_1808 rfl (by kernel_rfl) rfl f rfl rfl rfl rfl fun p_1809 a ha_1810 f => ?_
        refine q_own_load (i := 7) 12013 0 o_1121 rfl Pl2 ha_1810 he_1808 rfl (by kernel_rfl) rfl f rfl rfl rfl fun c_1811 a h_1812 f => ?_
        subst h_1812
        refine q_mv 8 12013 rfl (by kernel_rfl) f rfl rfl rfl fun a f => ?_
        refine q_mv 9 12013 rfl (by kernel_rfl) f rfl rfl rfl fun a f => ?_
        obtain ⟨e_1813, he_1814, hs_1114⟩ := bind_some hs_1114
        refine q_own_at (i := 10) 12013 0 m o_1121 rfl T31 he_1814 rfl (by kernel_rfl) rfl f rfl rfl rfl rfl fun p_1815 a ha_1816 f => ?_
        refine q_own_load (i := 11) 12013 0 o_1121 rfl Pl2 ha_1816 he_1814 rfl (by kernel_rfl) rfl f rfl rfl rfl fun c_1817 a h_1818 f => ?_
        subst h_1818
        obtain ⟨e_1819, he_1820, hs_1114⟩ := bind_some hs_1114
        refine q_own_at (i := 12) 12013 0 m o_1121 rfl T31 he_1820 rfl (by kernel_rfl) rfl f rfl rfl rfl rfl fun p_1821 a ha_1822 f => ?_
        refine q_end fun G_1823 w hl_1824 m => ?_
        have o_1121 := Ow.mono (RI.mono _) hl_1824 o_1121
        refine l_own_store 0 m o_1121 rfl Tryd.sizeOf2 f rfl rfl ha_1822 he_1820 rfl rfl rfl fun it_1825 w m o_1826 => ?_
        obtain ⟨e_1827, he_1828, hs_1114⟩ := bind_some hs_1114
        refine l_own_at 0 m o_1826 rfl T31 f rfl rfl rfl he_1828 fun p_1829 a ha_1830 f => ?_
        refine l_own_store 0 m o_1826 rfl Tryd.sizeOf2 f rfl rfl ha_1830 he_1828 rfl rfl rfl fun it_1831 w m o_1832 => ?_
        refine l_nil (k_seq (k_region ?_))
        refine l_mv f rfl rfl fun a f => ?_
        refine l_in f rfl rfl rfl b_add fun a f => ?_
        refine l_as f rfl rfl fun a f => ?_
        refine l_nil (k_region ?_)
        refine l_mv f rfl rfl fun a f => ?_
        refine l_in f rfl rfl rfl b_sub fun a f => ?_
        refine l_as f rfl rfl fun a f => ?_
        refine l_nil ?_
        obtain rfl := sj hs_1114
        exact ⟨_, rfl, _, _, _, rfl, _, it_1831, (GLe.trans hl_1124 (GLe.trans hl_1606 (GLe.trans hl_1768 hl_1824))), f.weak ⟨rfl, rfl, rfl, rfl, trivial⟩, m, o_1832⟩
    ·rintro a w ⟨l_1477, x_1480, rfl, G_1476, it_1478, hl_1481, f, m, o_1479⟩
     refine k_seq ?_
     refine k_draw0 Follows m ?_
     refine p_p 2 rfl (by kernel_rfl) f rfl rfl rfl (fun _ => r_move (f.eval rfl)) fun a f => ?_
     refine p_p 3 rfl (by kernel_rfl) f rfl rfl rfl (fun _ => r_move (f.eval rfl)) fun a f => ?_
     refine k_draw1 12013 11 (by kernel_rfl) rfl ?_
     refine q_mv 0 12013 rfl (by kernel_rfl) f rfl rfl rfl fun a f => ?_
     refine q_mv 1 12013 rfl (by kernel_rfl) f rfl rfl rfl fun a f => ?_
     refine q_mv 4 12013 rfl (by kernel_rfl) f rfl rfl rfl fun a f => ?_
     refine q_mv 5 12013 rfl (by kernel_rfl) f rfl rfl rfl fun a f => ?_
     obtain ⟨e_1833, he_1834, hd⟩ := bind_some hd
     refine q_own_at (i := 6) 12013 0 m o_1479 rfl T31 he_1834 rfl (by kernel_rfl) rfl f rfl rfl rfl rfl fun p_1835 a ha_1836 f => ?_
     refine q_own_load (i := 7) 12013 0 o_1479 rfl Pl2 ha_1836 he_1834 rfl (by kernel_rfl) rfl f rfl rfl rfl fun c_1837 a h_1838 f => ?_
     subst h_1838
     refine q_mv 8 12013 rfl (by kernel_rfl) f rfl rfl rfl fun a f => ?_
     refine q_mv 9 12013 rfl (by kernel_rfl) f rfl rfl rfl fun a f => ?_
     obtain ⟨e_1839, he_1840, hd⟩ := bind_some hd
     refine q_own_at (i := 10) 12013 0 m o_1479 rfl T31 he_1840 rfl (by kernel_rfl) rfl f rfl rfl rfl rfl fun p_1841 a ha_1842 f => ?_
     refine q_own_load (i := 11) 12013 0 o_1479 rfl Pl2 ha_1842 he_1840 rfl (by kernel_rfl) rfl f rfl rfl rfl fun c_1843 a h_1844 f => ?_
     subst h_1844
     obtain ⟨e_1845, he_1846, hd⟩ := bind_some hd
     refine q_own_at (i := 12) 12013 0 m o_1479 rfl T31 he_1846 rfl (by kernel_rfl) rfl f rfl rfl rfl rfl fun p_1847 a ha_1848 f => ?_
     refine q_end fun G_1849 w hl_1850 m => ?_
     have o_1479 := Ow.mono (RI.mono _) hl_1850 o_1479
     refine l_own_store 0 m o_1479 rfl Tryd.sizeOf2 f rfl rfl ha_1848 he_1846 rfl rfl rfl fun it_1851 w m o_1852 => ?_
     obtain ⟨e_1853, he_1854, hd⟩ := bind_some hd
     refine l_own_at 0 m o_1852 rfl T31 f rfl rfl rfl he_1854 fun p_1855 a ha_1856 f => ?_
     refine l_own_store 0 m o_1852 rfl Tryd.sizeOf2 f rfl rfl ha_1856 he_1854 rfl rfl rfl fun it_1857 w m o_1858 => ?_
     refine l_nil (k_seq (k_region ?_))
     refine l_mv f rfl rfl fun a f => ?_
     refine l_as f rfl rfl fun a f => ?_
     refine l_as f rfl rfl fun a f => ?_
     refine l_nil ?_
     refine k_ret ?_
     obtain rfl := sj hd
     exact ⟨[(.int .i64 x_1480), (.bool false)], ⟨f.get _ _ rfl, f.get _ _ rfl, trivial⟩, f.defers, _, [it_1857], (GLe.trans hl_18 (GLe.trans hl_151 (GLe.trans hl_313 (GLe.trans hl_395 (GLe.trans hl_1481 hl_1850))))), m, _, rfl, rfl, o_1858⟩

theorem Wk.slices_pdqsortOrdered_int64R {W : World} (n : Nat) : ∀ {w : World} {G : GH} {H : List Itm} {v0 : Value} {it0 : Itm} {x0 : (List Int)} {x1 : Int} {x2 : Int} {x3 : Int} (m : Mem W G w (it0 :: H)) (o0 : Ow (RI .i64) 2 G it0 v0 x0) {y : ((List Int))} (hd : D.slices_pdqsortOrdered_int64R n x0 x1 x2 x3 = some y),
  Calls Tryd.prog 128 #[v0, (.int .i64 x1), (.int .i64 x2), (.int .i64 x3)] w (Res W G H (fun G' Ho _ => ∃ i0 : Itm, Ho = [i0] ∧ Ow (RI .i64) 2 G' i0 v0 y)) := by
 induction n with
 | zero => intros; rename_i hd; simp [D.slices_pdqsortOrdered_int64R] at hd
 | succ fuel ih =>
  intro w G H v0 it0 x0 x1 x2 x3 m o0 y hd
  refine calls_b (args := [v0, (.int .i64 x1), (.int .i64 x2), (.int .i64 x3)]) (N := 134) [] Tryd.func128 rfl rfl (Nat.le_of_ble_eq_true rfl) rfl fun a f => ?_
  unfold D.slices_pdqsortOrdered_int64R at hd
  refine k_seq (k_region ?_)
  refine l_as f rfl rfl fun a f => ?_
  refine l_nil (k_seq (k_region ?_))
  refine l_as f rfl rfl fun a f => ?_
  refine l_nil ?_
  obtain ⟨q_394, hl_395, hd⟩ := bind_some hd
  refine k_block ?_
  refine k_loop (fun s_398 a w => ∃ l_401 : List Int, ∃ x_404 : Int, ∃ x_405 : Int, ∃ x_406 : Int, ∃ b_407 : Bool, ∃ b_408 : Bool, (l_401, x_404, x_405, x_406, b_407, b_408) = s_398 ∧ ∃ (G_400 : GH) (it_402 : Itm), GLe G G_400 ∧ Fr a 134 [(0, v0), (1, (.int .i64 x_404)), (2, (.int .i64 x_405)), (3, (.int .i64 x_406)), (8, (.bool b_407)), (9, (.bool b_408))] ∧ Mem W G_400 w (it_402 :: H) ∧ Ow (RI .i64) 2 G_400 it_402 v0 l_401) hl_395 ⟨_, _, _, _, _, _, rfl, _, it0, (GLe.refl _), f.weak ⟨rfl, rfl, rfl, rfl, rfl, rfl, trivial⟩, m, o0⟩ ?_
  clear hl_395 f m
  rintro s_398 o_399 hs_396 hq_397 a w ⟨l_401, x_404, x_405, x_406, b_407, b_408, rfl, G_400, it_402, hl_409, f, m, o_403⟩
  refine k_block (k_seq (k_region ?_))
  refine l_mv f rfl rfl fun a f => ?_
  refine l_mv f rfl rfl fun a f => ?_
  refine l_in f rfl rfl rfl b_sub fun a f => ?_
  refine l_as f rfl rfl fun a f => ?_
  refine l_nil (k_seq (k_seq (k_region ?_)))
  refine l_mv f rfl rfl fun a f => ?_
  refine l_in f rfl rfl rfl b_leq fun a f => ?_
  refine l_nil ?_
  rcases cond_some hs_396 with ⟨hc_410, hs_396⟩ | ⟨hc_410, hs_396⟩
  ·refine k_true f rfl hc_410 ?_
   refine k_seq (k_region ?_)
   refine l_mv f rfl rfl fun a f => ?_
   refine l_mv f rfl rfl fun a f => ?_
   refine l_mv f rfl rfl fun a f => ?_
   obtain ⟨y_411, hy_412, hs_396⟩ := bind_some hs_396
   refine l_res f rfl rfl Tryd.call132 (Wk.slices_insertionSortOrdered_int64 m o_403 hy_412) fun v_416 G_413 Ho_417 w hl_414 m hQ_415 a f => ?_
   obtain ⟨it_418, rfl, o_419⟩ := hQ_415
   refine l_nil ?_
   refine k_ret ?_
   obtain rfl := sj hs_396
   obtain rfl := hq_397 _ rfl
   obtain rfl := sj hd
   exact ⟨[], trivial, f.defers, _, [it_418], (GLe.trans hl_409 hl_414), m, _, rfl, o_419⟩
  ·refine k_false f rfl hc_410 ?_
   refine k_skip ?_
   refine k_seq (k_seq (k_region ?_))
   refine l_mv f rfl rfl fun a f => ?_
   refine l_in f rfl rfl rfl b_eql fun a f => ?_
   refine l_nil ?_
   rcases cond_some hs_396 with ⟨hc_420, hs_396⟩ | ⟨hc_420, hs_396⟩
   ·refine k_true f rfl hc_420 ?_
    refine k_seq (k_region ?_)
    refine l_mv f rfl rfl fun a f => ?_
    refine l_mv f rfl rfl fun a f => ?_
    refine l_mv f rfl rfl fun a f => ?_
    obtain ⟨y_421, hy_422, hs_396⟩ := bind_some hs_396
    refine l_res f rfl rfl Tryd.call133 (Wk.slices_heapSortOrdered_int64 m o_403 hy_422) fun v_426 G_423 Ho_427 w hl_424 m hQ_425 a f => ?_
    obtain ⟨it_428, rfl, o_429⟩ := hQ_425
    refine l_nil ?_
    refine k_ret ?_
    obtain rfl := sj hs_396
    obtain rfl := hq_397 _ rfl
    obtain rfl := sj hd
    exact ⟨[], trivial, f.defers, _, [it_428], (GLe.trans hl_409 hl_424), m, _, rfl, o_429⟩
   ·refine k_false f rfl hc_420 ?_
    refine k_skip ?_
    refine k_seq (k_seq (k_region ?_))
    refine l_mv f rfl rfl fun a f => ?_
    refine l_op f rfl rfl rfl (r_not (f.eval rfl)) fun a f => ?_
    refine l_nil ?_
    obtain ⟨j_440, hj_441, hs_396⟩ := bind_some hs_396
    refine k_cut (fun a w => ∃ l_443 : List Int, ∃ x_446 : Int, (l_443, x_446) = j_440 ∧ ∃ (G_442 : GH) (it_444 : Itm), GLe G_400 G_442 ∧ Fr a 134 [(0, v0), (1, (.int .i64 x_404)), (2, (.int .i64 x_405)), (3, (.int .i64 x_446)), (8, (.bool b_407)), (9, (.bool b_408)), (10, (.int .i64 (IntKind.i64.wrap (x_405 - x_404))))] ∧ Mem W G_442 w (it_444 :: H) ∧ Ow (RI .i64) 2 G_442 it_444 v0 l_443) ?_ ?_
    ·rcases cond_some hj_441 with ⟨hc_448, hj_441⟩ | ⟨hc_448, hj_441⟩
     ·refine k_true f rfl hc_448 ?_
      refine k_seq (k_region ?_)
      refine l_mv f rfl rfl fun a f => ?_
      refine l_mv f rfl rfl fun a f => ?_
      refine l_mv f rfl rfl fun a f => ?_
      obtain ⟨y_449, hy_450, hj_441⟩ := bind_some hj_441
      refine l_res f rfl rfl Tryd.call134 (Wk.slices_breakPatternsOrdered_int64 m o_403 hy_450) fun v_454 G_451 Ho_455 w hl_452 m hQ_453 a f => ?_
      obtain ⟨it_456, rfl, o_457⟩ := hQ_453
      refine l_nil (k_region ?_)
      refine l_mv f rfl rfl fun a f => ?_
      refine l_in f rfl rfl rfl b_sub fun a f => ?_
      refine l_as f rfl rfl fun a f => ?_
      refine l_nil ?_
      obtain rfl := sj hj_441
      exact ⟨_, _, rfl, _, it_456, hl_452, f.weak ⟨rfl, rfl, rfl, rfl, rfl, rfl, rfl, trivial⟩, m, o_457⟩
     ·refine k_false f rfl hc_448 ?_
      refine k_skip ?_
      obtain rfl := sj hj_441
      exact ⟨_, _, rfl, _, it_402, (GLe.refl _), f.weak ⟨rfl, rfl, rfl, rfl, rfl, rfl, rfl, trivial⟩, m, o_403⟩
    ·rintro a w ⟨l_443, x_446, rfl, G_442, it_444, hl_447, f, m, o_445⟩
     refine k_seq (k_region ?_)
     refine l_mv f rfl rfl fun a f => ?_
     refine l_mv f rfl rfl fun a f => ?_
     refine l_mv f rfl rfl fun a f => ?_
     obtain ⟨y_458, hy_459, hs_396⟩ := bind_some hs_396
     refine l_res f rfl rfl Tryd.call135 (Wk.slices_choosePivotOrdered_int64 m o_445 hy_459) fun v_463 G_460 Ho_464 w hl_461 m hQ_462 a f => ?_
     obtain ⟨it_465, rfl, rfl, o_466⟩ := hQ_462
     refine l_mv f rfl rfl fun a f => ?_
     refine l_op f rfl rfl rfl (r_extract (f.eval rfl) rfl) fun a f => ?_
     refine l_op f rfl rfl rfl (r_extract (f.eval rfl) rfl) fun a f => ?_
     refine l_as f rfl rfl fun a f => ?_
     refine l_as f rfl rfl fun a f => ?_
     refine l_nil (k_seq (k_seq (k_region ?_)))
     refine l_mv f rfl rfl fun a f => ?_
     refine l_in f rfl rfl rfl b_eql fun a f => ?_
     refine l_nil ?_
     obtain ⟨j_477, hj_478, hs_396⟩ := bind_some hs_396
     refine k_cut (fun a w => ∃ l_480 : List Int, ∃ x_483 : Int, ∃ x_484 : Int, (l_480, x_483, x_484) = j_477 ∧ ∃ (G_479 : GH) (it_481 : Itm), GLe G_460 G_479 ∧ Fr a 134 [(0, v0), (1, (.int .i64 x_404)), (2, (.int .i64 x_405)), (3, (.int .i64 x_446)), (8, (.bool b_407)), (9, (.bool b_408)), (10, (.int .i64 (IntKind.i64.wrap (x_405 - x_404)))), (11, (.int .i64 x_483)), (12, (.int .i64 x_484))] ∧ Mem W G_479 w (it_481 :: H) ∧ Ow (RI .i64) 2 G_479 it_481 v0 l_480) ?_ ?_
     ·rcases cond_some hj_478 with ⟨hc_486, hj_478⟩ | ⟨hc_486, hj_478⟩
      ·refine k_true f rfl hc_486 ?_
       refine k_seq (k_region ?_)
       refine l_mv f rfl rfl fun a f => ?_
       refine l_mv f rfl rfl fun a f => ?_
       refine l_mv f rfl rfl fun a f => ?_
       obtain ⟨y_487, hy_488, hj_478⟩ := bind_some hj_478
       refine l_res f rfl rfl Tryd.call136 (Wk.slices_reverseRangeOrdered_int64 m o_466 hy_488) fun v_492 G_489 Ho_493 w hl_490 m hQ_491 a f => ?_
       obtain ⟨it_494, rfl, o_495⟩ := hQ_491
       refine l_nil (k_seq (k_region ?_))
       refine l_mv f rfl rfl fun a f => ?_
       refine l_in f rfl rfl rfl b_sub fun a f => ?_
       refine l_mv f rfl rfl fun a f => ?_
       refine l_mv f rfl rfl fun a f => ?_
       refine l_in f rfl rfl rfl b_sub fun a f => ?_
       refine l_in f rfl rfl rfl b_sub fun a f => ?_
       refine l_as f rfl rfl fun a f => ?_
       refine l_nil (k_region ?_)
       refine l_as f rfl rfl fun a f => ?_
       refine l_nil ?_
       obtain rfl := sj hj_478
       exact ⟨_, _, _, rfl, _, it_494, hl_490, f.weak ⟨rfl, rfl, rfl, rfl, rfl, rfl, rfl, rfl, rfl, trivial⟩, m, o_495⟩
      ·refine k_false f rfl hc_486 ?_
       refine k_skip ?_
       obtain rfl := sj hj_478
       exact ⟨_, _, _, rfl, _, it_465, (GLe.refl _), f.weak ⟨rfl, rfl, rfl, rfl, rfl, rfl, rfl, rfl, rfl, trivial⟩, m, o_466⟩
     ·rintro a w ⟨l_480, x_483, x_484, rfl, G_479, it_481, hl_485, f, m, o_482⟩
      refine k_seq (k_seq (k_region ?_))
      refine l_mv f rfl rfl fun a f => ?_
      refine l_mv f rfl rfl fun a f => ?_
      refine l_cut 2 (fun a w => ∃ G_497, GLe G_479 G_497 ∧ Mem W G_497 w (it_481 :: H) ∧ Fr a 134 [(0, v0), (1, (.int .i64 x_404)), (2, (.int .i64 x_405)), (3, (.int .i64 x_446)), (8, (.bool b_407)), (9, (.bool b_408)), (10, (.int .i64 (IntKind.i64.wrap (x_405 - x_404)))), (11, (.int .i64 x_483)), (12, (.int .i64 x_484)), (61, (.bool b_407)), (62, (.bool b_407)), (64, (.bool (b_407 && b_408)))]) ?_ ?_
      ·rcases Bool.eq_false_or_eq_true b_407 with hc_496 | hc_496
       ·refine l_run f rfl rfl hc_496 ?_
        refine l_mv f rfl rfl fun a f => ?_
        refine l_op f rfl rfl rfl (r_pickT (f.eval rfl) hc_496 (f.eval rfl)) fun a f => ?_
        exact ⟨_, (GLe.refl _), m, f.weak ⟨rfl, rfl, rfl, rfl, rfl, rfl, rfl, rfl, rfl, rfl, rfl, by rw [hc_496]; rfl, trivial⟩⟩
       ·refine l_not' f rfl rfl rfl hc_496 fun a f => ?_
        refine l_op f rfl rfl rfl (r_pickF (f.eval rfl) hc_496 (f.eval rfl)) fun a f => ?_
        exact ⟨_, (GLe.refl _), m, f.weak ⟨rfl, rfl, rfl, rfl, rfl, rfl, rfl, rfl, rfl, rfl, rfl, by rw [hc_496]; rfl, trivial⟩⟩
      ·rintro a w ⟨G_497, hl_498, m, f⟩
       have o_482 := Ow.mono (RI.mono _) hl_498 o_482
       refine l_mv f rfl rfl fun a f => ?_
       refine l_cut 3 (fun a w => ∃ G_500, GLe G_497 G_500 ∧ Mem W G_500 w (it_481 :: H) ∧ Fr a 134 [(0, v0), (1, (.int .i64 x_404)), (2, (.int .i64 x_405)), (3, (.int .i64 x_446)), (8, (.bool b_407)), (9, (.bool b_408)), (10, (.int .i64 (IntKind.i64.wrap (x_405 - x_404)))), (11, (.int .i64 x_483)), (12, (.int .i64 x_484)), (61, (.bool b_407)), (62, (.bool b_407)), (64, (.bool (b_407 && b_408))), (65, (.bool (b_407 && b_408))), (68, (.bool ((b_407 && b_408) && (x_484 == 1))))]) ?_ ?_
       ·rcases Bool.eq_false_or_eq_true (b_407 && b_408) with hc_499 | hc_499
        ·refine l_run f rfl rfl hc_499 ?_
         refine l_mv f rfl rfl fun a f => ?_
         refine l_run f rfl rfl hc_499 ?_
         refine l_in f rfl rfl rfl b_eql fun a f => ?_
         refine l_op f rfl rfl rfl (r_pickT (f.eval rfl) hc_499 (f.eval rfl)) fun a f => ?_
         exact ⟨_, (GLe.refl _), m, f.weak ⟨rfl, rfl, rfl, rfl, rfl, rfl, rfl, rfl, rfl, rfl, rfl, rfl, rfl, by rw [hc_499]; rfl, trivial⟩⟩
        ·refine l_not' f rfl rfl rfl hc_499 fun a f => ?_
         refine l_not' f rfl rfl rfl hc_499 fun a f => ?_
         refine l_op f rfl rfl rfl (r_pickF (f.eval rfl) hc_499 (f.eval rfl)) fun a f => ?_
         exact ⟨_, (GLe.refl _), m, f.weak ⟨rfl, rfl, rfl, rfl, rfl, rfl, rfl, rfl, rfl, rfl, rfl, rfl, rfl, by rw [hc_499]; rfl, trivial⟩⟩
       ·rintro a w ⟨G_500, hl_501, m, f⟩
        have o_482 := Ow.mono (RI.mono _) hl_501 o_482
        refine l_nil ?_
        obtain ⟨j_513, hj_514, hs_396⟩ := bind_some hs_396
        refine k_cut (fun a w => ∃ j_513' : (List Int), j_513 = .inl j_513' ∧ ∃ l_516 : List Int, l_516 = j_513' ∧ ∃ (G_515 : GH) (it_517 : Itm), GLe G_500 G_515 ∧ Fr a 134 [(0, v0), (1, (.int .i64 x_404)), (2, (.int .i64 x_405)), (3, (.int .i64 x_446)), (8, (.bool b_407)), (9, (.bool b_408)), (10, (.int .i64 (IntKind.i64.wrap (x_405 - x_404)))), (11, (.int .i64 x_483))] ∧ Mem W G_515 w (it_517 :: H) ∧ Ow (RI .i64) 2 G_515 it_517 v0 l_516) ?_ ?_
        ·rcases cond_some hj_514 with ⟨hc_520, hj_514⟩ | ⟨hc_520, hj_514⟩
         ·refine k_true f rfl hc_520 ?_
          refine k_seq (k_region ?_)
          refine l_mv f rfl rfl fun a f => ?_
          refine l_mv f rfl rfl fun a f => ?_
          refine l_mv f rfl rfl fun a f => ?_
          obtain ⟨y_521, hy_522, hj_514⟩ := bind_some hj_514
          refine l_res f rfl rfl Tryd.call137 (Wk.slices_partialInsertionSortOrdered_int64 m o_482 hy_522) fun v_526 G_523 Ho_527 w hl_524 m hQ_525 a f => ?_
          obtain ⟨it_528, rfl, rfl, o_529⟩ := hQ_525
          refine l_nil ?_
          rcases cond_some hj_514 with ⟨hc_530, hj_514⟩ | ⟨hc_530, hj_514⟩
          ·refine k_true f rfl hc_530 ?_
           refine k_ret ?_
           obtain rfl := sj hj_514
           obtain rfl := sj hs_396
           obtain rfl := hq_397 _ rfl
           obtain rfl := sj hd
           exact ⟨[], trivial, f.defers, _, [it_528], (GLe.trans hl_409 (GLe.trans hl_447 (GLe.trans hl_461 (GLe.trans hl_485 (GLe.trans hl_498 (GLe.trans hl_501 hl_524)))))), m, _, rfl, o_529⟩
          ·refine k_false f rfl hc_530 ?_
           refine k_skip ?_
           obtain rfl := sj hj_514
           exact ⟨_, rfl, _, rfl, _, it_528, hl_524, f.weak ⟨rfl, rfl, rfl, rfl, rfl, rfl, rfl, rfl, trivial⟩, m, o_529⟩
         ·refine k_false f rfl hc_520 ?_
          refine k_skip ?_
          obtain rfl := sj hj_514
          exact ⟨_, rfl, _, rfl, _, it_481, (GLe.refl _), f.weak ⟨rfl, rfl, rfl, rfl, rfl, rfl, rfl, rfl, trivial⟩, m, o_482⟩
        ·rintro a w ⟨_, rfl, l_516, rfl, G_515, it_517, hl_519, f, m, o_518⟩
         refine k_seq (k_seq ?_)
         refine k_draw 15 Follows (by kernel_rfl) m ?_
         refine q_mv 0 15 rfl (by kernel_rfl) f rfl rfl rfl fun a f => ?_
         refine q_p 1 15 rfl (by kernel_rfl) f rfl rfl rfl (fun _ => r_int (f.eval rfl) (f.eval rfl) b_gtr) fun a f => ?_
         refine q_mv 2 15 rfl (by kernel_rfl) f rfl rfl rfl fun a f => ?_
         obtain ⟨b_548, hj_549, hs_396⟩ := bind_some hs_396
         refine q_cut (fuel' := 0) (listed' := #[true, true, true, true, true, true, true, true, true, true, true, true, true, true, true]) (fun a => Fr a 134 [(0, v0), (1, (.int .i64 x_404)), (2, (.int .i64 x_405)), (3, (.int .i64 x_446)), (8, (.bool b_407)), (9, (.bool b_408)), (10, (.int .i64 (IntKind.i64.wrap (x_405 - x_404)))), (11, (.int .i64 x_483)), (73, (.int .i64 x_404)), (74, (.bool (decide ((0 : Int) < x_404)))), (75, (.bool (decide ((0 : Int) < x_404)))), (87, (.bool b_548))]) ?_ ?_
         ·intro a f
          refine q_end fun G_565 w hl_566 m => ?_
          have o_518 := Ow.mono (RI.mono _) hl_566 o_518
          refine l_nil ?_
          rcases cond_some hs_396 with ⟨hc_567, hs_396⟩ | ⟨hc_567, hs_396⟩
          ·refine k_true f rfl hc_567 ?_
           refine k_seq (k_region ?_)
           refine l_mv f rfl rfl fun a f => ?_
           refine l_mv f rfl rfl fun a f => ?_
           refine l_mv f rfl rfl fun a f => ?_
           refine l_mv f rfl rfl fun a f => ?_
           obtain ⟨y_568, hy_569, hs_396⟩ := bind_some hs_396
           refine l_res f rfl rfl Tryd.call139 (Wk.slices_partitionEqualOrdered_int64 m o_518 hy_569) fun v_573 G_570 Ho_574 w hl_571 m hQ_572 a f => ?_
           obtain ⟨it_575, rfl, rfl, o_576⟩ := hQ_572
           refine l_as f rfl rfl fun a f => ?_
           refine l_nil (k_seq (k_region ?_))
           refine l_mv f rfl rfl fun a f => ?_
           refine l_as f rfl rfl fun a f => ?_
           refine l_nil ?_
           refine k_exit rfl ?_
           obtain rfl := sj hs_396
           exact ⟨_, rfl, _, _, _, _, _, _, rfl, _, it_575, (GLe.trans hl_409 (GLe.trans hl_447 (GLe.trans hl_461 (GLe.trans hl_485 (GLe.trans hl_498 (GLe.trans hl_501 (GLe.trans hl_519 (GLe.trans hl_566 hl_571)))))))), f.weak ⟨rfl, rfl, rfl, rfl, rfl, rfl, trivial⟩, m, o_576⟩
          ·refine k_false f rfl hc_567 ?_
           refine k_skip ?_
           refine k_seq (k_region ?_)
           refine l_mv f rfl rfl fun a f => ?_
           refine l_mv f rfl rfl fun a f => ?_
           refine l_mv f rfl rfl fun a f => ?_
           refine l_mv f rfl rfl fun a f => ?_
           obtain ⟨y_577, hy_578, hs_396⟩ := bind_some hs_396
           refine l_res f rfl rfl Tryd.call140 (Wk.slices_partitionOrdered_int64 m o_518 hy_578) fun v_582 G_579 Ho_583 w hl_580 m hQ_581 a f => ?_
           obtain ⟨it_584, rfl, rfl, o_585⟩ := hQ_581
           refine l_mv f rfl rfl fun a f => ?_
           refine l_op f rfl rfl rfl (r_extract (f.eval rfl) rfl) fun a f => ?_
           refine l_op f rfl rfl rfl (r_extract (f.eval rfl) rfl) fun a f => ?_
           refine l_as f rfl rfl fun a f => ?_
           refine l_as f rfl rfl fun a f => ?_
           refine l_nil (k_seq (k_region ?_))
           refine l_mv f rfl rfl fun a f => ?_
           refine l_as f rfl rfl fun a f => ?_
           refine l_nil (k_seq (k_region ?_))
           refine l_mv f rfl rfl fun a f => ?_
           refine l_mv f rfl rfl fun a f => ?_
           refine l_in f rfl rfl rfl b_sub fun a f => ?_
           refine l_mv f rfl rfl fun a f => ?_
           refine l_mv f rfl rfl fun a f => ?_
           refine l_in f rfl rfl rfl b_sub fun a f => ?_
           refine l_as f rfl rfl fun a f => ?_
           refine l_as f rfl rfl fun a f => ?_
           refine l_nil (k_seq (k_region ?_))
           refine l_mv f rfl rfl fun a f => ?_
           refine l_in f rfl rfl rfl (b_quo rfl) fun a f => ?_
           refine l_as f rfl rfl fun a f => ?_
           refine l_nil (k_seq (k_region ?_))
           refine l_mv f rfl rfl fun a f => ?_
           refine l_mv f rfl rfl fun a f => ?_
           refine l_in f rfl rfl rfl b_lss fun a f => ?_
           refine l_nil ?_
           rcases cond_some hs_396 with ⟨hc_586, hs_396⟩ | ⟨hc_586, hs_396⟩
           ·refine k_true f rfl hc_586 ?_
            refine k_seq (k_region ?_)
            refine l_mv f rfl rfl fun a f => ?_
            refine l_mv f rfl rfl fun a f => ?_
            refine l_in f rfl rfl rfl b_geq fun a f => ?_
            refine l_as f rfl rfl fun a f => ?_
            refine l_nil (k_seq (k_region ?_))
            refine l_mv f rfl rfl fun a f => ?_
            refine l_mv f rfl rfl fun a f => ?_
            refine l_mv f rfl rfl fun a f => ?_
            refine l_mv f rfl rfl fun a f => ?_
            obtain ⟨y_587, hy_588, hs_396⟩ := bind_some hs_396
            refine l_res f rfl rfl Tryd.call128 (ih m o_585 hy_588) fun v_592 G_589 Ho_593 w hl_590 m hQ_591 a f => ?_
            obtain ⟨it_594, rfl, o_595⟩ := hQ_591
            refine l_nil (k_region ?_)
            refine l_mv f rfl rfl fun a f => ?_
            refine l_in f rfl rfl rfl b_add fun a f => ?_
            refine l_as f rfl rfl fun a f => ?_
            refine l_nil ?_
            obtain rfl := sj hs_396
            exact ⟨_, rfl, _, _, _, _, _, _, rfl, _, it_594, (GLe.trans hl_409 (GLe.trans hl_447 (GLe.trans hl_461 (GLe.trans hl_485 (GLe.trans hl_498 (GLe.trans hl_501 (GLe.trans hl_519 (GLe.trans hl_566 (GLe.trans hl_580 hl_590))))))))), f.weak ⟨rfl, rfl, rfl, rfl, rfl, rfl, trivial⟩, m, o_595⟩
           ·refine k_false f rfl hc_586 ?_
            refine k_seq (k_region ?_)
            refine l_mv f rfl rfl fun a f => ?_
            refine l_mv f rfl rfl fun a f => ?_
            refine l_in f rfl rfl rfl b_geq fun a f => ?_
            refine l_as f rfl rfl fun a f => ?_
            refine l_nil (k_seq (k_region ?_))
            refine l_mv f rfl rfl fun a f => ?_
            refine l_mv f rfl rfl fun a f => ?_
            refine l_in f rfl rfl rfl b_add fun a f => ?_
            refine l_mv f rfl rfl fun a f => ?_
            refine l_mv f rfl rfl fun a f => ?_
            obtain ⟨y_596, hy_597, hs_396⟩ := bind_some hs_396
            refine l_res f rfl rfl Tryd.call128 (ih m o_585 hy_597) fun v_601 G_598 Ho_602 w hl_599 m hQ_600 a f => ?_
            obtain ⟨it_603, rfl, o_604⟩ := hQ_600
            refine l_nil (k_region ?_)
            refine l_mv f rfl rfl fun a f => ?_
            refine l_as f rfl rfl fun a f => ?_
            refine l_nil ?_
            obtain rfl := sj hs_396
            exact ⟨_, rfl, _, _, _, _, _, _, rfl, _, it_603, (GLe.trans hl_409 (GLe.trans hl_447 (GLe.trans hl_461 (GLe.trans hl_485 (GLe.trans hl_498 (GLe.trans hl_501 (GLe.trans hl_519 (GLe.trans hl_566 (GLe.trans hl_580 hl_599))))))))), f.weak ⟨rfl, rfl, rfl, rfl, rfl, rfl, trivial⟩, m, o_604⟩
         ·intro K_547
          rcases cond_some hj_549 with ⟨hc_531, hj_549⟩ | ⟨hc_531, hj_549⟩
          ·refine q_mv 3 15 rfl (by kernel_rfl) f (wanted_of f rfl rfl rfl hc_531) rfl rfl fun a f => ?_
           refine q_mv 4 15 rfl (by kernel_rfl) f (wanted_of f rfl rfl rfl hc_531) rfl rfl fun a f => ?_
           refine q_p 5 15 rfl (by kernel_rfl) f (wanted_of f rfl rfl rfl hc_531) rfl rfl (fun _ => r_int (f.eval rfl) (f.eval rfl) b_sub) fun a f => ?_
           obtain ⟨e_550, he_551, hj_549⟩ := bind_some hj_549
           refine q_own_at (i := 6) 15 0 m o_518 rfl T31 he_551 rfl (by kernel_rfl) rfl f (wanted_of f rfl rfl rfl hc_531) rfl rfl rfl fun p_552 a ha_553 f => ?_
           refine q_own_load (i := 7) 15 0 o_518 rfl Pl2 ha_553 he_551 rfl (by kernel_rfl) rfl f (wanted_of f rfl rfl rfl hc_531) rfl rfl fun c_554 a h_555 f => ?_
           subst h_555
           refine q_mv 8 15 rfl (by kernel_rfl) f (wanted_of f rfl rfl rfl hc_531) rfl rfl fun a f => ?_
           refine q_mv 9 15 rfl (by kernel_rfl) f (wanted_of f rfl rfl rfl hc_531) rfl rfl fun a f => ?_
           obtain ⟨e_556, he_557, hj_549⟩ := bind_some hj_549
           refine q_own_at (i := 10) 15 0 m o_518 rfl T31 he_557 rfl (by kernel_rfl) rfl f (wanted_of f rfl rfl rfl hc_531) rfl rfl rfl fun p_558 a ha_559 f => ?_
           refine q_own_load (i := 11) 15 0 o_518 rfl Pl2 ha_559 he_557 rfl (by kernel_rfl) rfl f (wanted_of f rfl rfl rfl hc_531) rfl rfl fun c_560 a h_561 f => ?_
           subst h_561
           obtain ⟨y_562, hy_563, hj_549⟩ := bind_some hj_549
           refine q_call (i := 12) 15 rfl (by kernel_rfl) rfl f (wanted_of f rfl rfl rfl hc_531) rfl rfl Tryd.call138 (fun _ _ w hG_564 m => Wk.cmp_Less_int64 m  hy_563) fun a f => ?_
           refine q_p 13 15 rfl (by kernel_rfl) f (wanted_of f rfl rfl rfl hc_531) rfl rfl (fun _ => r_not (f.eval rfl)) fun a f => ?_
           refine q_p 14 15 rfl (by kernel_rfl) f rfl rfl rfl (fun _ => r_pickT (f.eval rfl) hc_531 (f.eval rfl)) fun a f => ?_
           obtain rfl := sj hj_549
           exact K_547 _ (f.weak ⟨rfl, rfl, rfl, rfl, rfl, rfl, rfl, rfl, rfl, rfl, rfl, rfl, trivial⟩)
          ·refine q_ng 3 15 rfl (by kernel_rfl) f rfl rfl hc_531 rfl fun a f => ?_
           refine q_ng 4 15 rfl (by kernel_rfl) f rfl rfl hc_531 rfl fun a f => ?_
           refine q_ng 5 15 rfl (by kernel_rfl) f rfl rfl hc_531 rfl fun a f => ?_
           refine q_ng 6 15 rfl (by kernel_rfl) f rfl rfl hc_531 rfl fun a f => ?_
           refine q_ng 7 15 rfl (by kernel_rfl) f rfl rfl hc_531 rfl fun a f => ?_
           refine q_ng 8 15 rfl (by kernel_rfl) f rfl rfl hc_531 rfl fun a f => ?_
           refine q_ng 9 15 rfl (by kernel_rfl) f rfl rfl hc_531 rfl fun a f => ?_
           refine q_ng 10 15 rfl (by kernel_rfl) f rfl rfl hc_531 rfl fun a f => ?_
           refine q_ng 11 15 rfl (by kernel_rfl) f rfl rfl hc_531 rfl fun a f => ?_
           refine q_ng 12 15 rfl (by kernel_rfl) f rfl rfl hc_531 rfl fun a f => ?_
           refine q_ng 13 15 rfl (by kernel_rfl) f rfl rfl hc_531 rfl fun a f => ?_
           refine q_p 14 15 rfl (by kernel_rfl) f rfl rfl rfl (fun _ => r_pickF (f.eval rfl) hc_531 (f.eval rfl)) fun a f => ?_
           obtain rfl := sj hj_549
           exact K_547 _ (f.weak ⟨rfl, rfl, rfl, rfl, rfl, rfl, rfl, rfl, rfl, rfl, rfl, rfl, trivial⟩)

theorem Wk.slices_pdqsortOrdered_int64 {W w : World} {G : GH} {H : List Itm} {v0 : Value} {it0 : Itm} {x0 : (List Int)} {x1 : Int} {x2 : Int} {x3 : Int} (m : Mem W G w (it0 :: H)) (o0 : Ow (RI .i64) 2 G it0 v0 x0) {y : ((List Int))} (hd : D.slices_pdqsortOrdered_int64 x0 x1 x2 x3 = some y) :
  Calls Tryd.prog 128 #[v0, (.int .i64 x1), (.int .i64 x2), (.int .i64 x3)] w (Res W G H (fun G' Ho _ => ∃ i0 : Itm, Ho = [i0] ∧ Ow (RI .i64) 2 G' i0 v0 y)) := by
 exact Wk.slices_pdqsortOrdered_int64R recFuel m o0 hd

theorem Wk.slices_Sort_int64_int64 {W w : World} {G : GH} {H : List Itm} {v0 : Value} {it0 : Itm} {x0 : (List Int)} (m : Mem W G w (it0 :: H)) (o0 : Ow (RI .i64) 2 G it0 v0 x0) {y : ((List Int))} (hd : D.slices_Sort_int64_int64 x0 = some y) :
  Calls Tryd.prog 111 #[v0] w (Res W G H (fun G' Ho _ => ∃ i0 : Itm, Ho = [i0] ∧ Ow (RI .i64) 2 G' i0 v0 y)) := by
 refine calls_b (args := [v0]) (N := 11) [] Tryd.func111 rfl rfl (Nat.le_of_ble_eq_true rfl) rfl fun a f => ?_
 unfold D.slices_Sort_int64_int64 at hd
 refine k_seq (k_region ?_)
 refine l_mv f rfl rfl fun a f => ?_
 refine l_own_len 0 m o0 rfl Tryd.underlying31 f rfl rfl fun a f => ?_
 refine l_as f rfl rfl fun a f => ?_
 refine l_nil (k_region ?_)
 refine l_mv f rfl rfl fun a f => ?_
 refine l_mv f rfl rfl fun a f => ?_
 refine l_mv f rfl rfl fun a f => ?_
 refine l_op f rfl rfl rfl (r_conv (f.eval rfl) ⟨_, Tryd.underlying3⟩ Tryd.underlying111) fun a f => ?_
 obtain ⟨y_1, hy_2, hd⟩ := bind_some hd
 refine l_res f rfl rfl Tryd.call129 (Wk.math_bits_Len m  hy_2) fun v_6 G_3 Ho_7 w hl_4 m hQ_5 a f => ?_
 obtain ⟨rfl, rfl⟩ := hQ_5
 have o0 := Ow.mono (RI.mono _) hl_4 o0
 obtain ⟨y_8, hy_9, hd⟩ := bind_some hd
 refine l_res f rfl rfl Tryd.call128 (Wk.slices_pdqsortOrdered_int64 m o0 hy_9) fun v_13 G_10 Ho_14 w hl_11 m hQ_12 a f => ?_
 obtain ⟨it_15, rfl, o_16⟩ := hQ_12
 refine l_nil ?_
 obtain rfl := sj hd
 exact ⟨[], trivial, f.defers, _, [it_15], (GLe.trans hl_4 hl_11), m, _, rfl, o_16⟩

theorem Wk.slices_Sorted_int64 {W w : World} {G : GH} {H : List Itm} {v0 : Value} {b0 : Nat} {x0 : (List Int)} (m : Mem W G w (Itm.box b0 31 [v0] :: H)) (h0 : RSl (RI .i64) G v0 x0) {y : ((List Int))} (hd : D.slices_Sorted_int64 x0 = some y) :
  Calls Tryd.prog 73 #[(.func (.func 112) #[] #[(.pointer (some ⟨b0, 0, none⟩))])] w (Res W G H (fun G' Ho v => ∃ r0 : Value, ∃ i0 : Itm, Ho = [i0] ∧ r0 = v ∧ Ow (RI .i64) 2 G' i0 r0 y)) := by
 refine calls_b (args := [(.func (.func 112) #[] #[(.pointer (some ⟨b0, 0, none⟩))])]) (N := 9) [.tmp 2] Tryd.func73 rfl rfl (Nat.le_of_ble_eq_true rfl) rfl fun a f => ?_
 unfold D.slices_Sorted_int64 at hd
 refine k_seq (k_region ?_)
 refine l_as f rfl rfl fun a f => ?_
 refine l_nil (k_seq (k_region ?_))
 refine l_mv f rfl rfl fun a f => ?_
 obtain ⟨y_1, hy_2, hd⟩ := bind_some hd
 refine l_res f rfl rfl Tryd.call110 (Wk.slices_Collect_int64 m h0 hy_2) fun v_6 G_3 Ho_7 w hl_4 m hQ_5 a f => ?_
 obtain ⟨v_11, it_8, rfl, rfl, o_9⟩ := hQ_5
 refine l_as f rfl rfl fun a f => ?_
 refine l_nil (k_seq (k_region ?_))
 refine l_mv f rfl rfl fun a f => ?_
 obtain ⟨y_12, hy_13, hd⟩ := bind_some hd
 refine l_res f rfl rfl Tryd.call111 (Wk.slices_Sort_int64_int64 m o_9 hy_13) fun v_17 G_14 Ho_18 w hl_15 m hQ_16 a f => ?_
 obtain ⟨it_19, rfl, o_20⟩ := hQ_16
 refine l_nil (k_seq (k_region ?_))
 refine l_mv f rfl rfl fun a f => ?_
 refine l_as f rfl rfl fun a f => ?_
 refine l_nil ?_
 refine k_ret ?_
 obtain rfl := sj hd
 exact ⟨[v_11], ⟨f.get _ _ rfl, trivial⟩, f.defers, _, [it_19], (GLe.trans hl_4 hl_15), m, _, _, rfl, rfl, o_20⟩

theorem Wk.math_bits_TrailingZeros32 {W w : World} {G : GH} {H : List Itm} {x0 : Int} (hW : TabW W) (m : Mem W G w (H))  {y : Int} (hd : D.math_bits_TrailingZeros32 x0 = some y) :
  Calls Tryd.prog 118 #[(.int .u32 x0)] w (Res W G H (fun _ Ho v => Ho = [] ∧ v = (.int .i64 y))) := by
 refine calls_b (args := [(.int .u32 x0)]) (N := 14) [.tmp 2] Tryd.func118 rfl rfl (Nat.le_of_ble_eq_true rfl) rfl fun a f => ?_
 unfold D.math_bits_TrailingZeros32 at hd
 refine k_seq (k_region ?_)
 refine l_as f rfl rfl fun a f => ?_
 refine l_nil (k_seq (k_seq (k_region ?_)))
 refine l_mv f rfl rfl fun a f => ?_
 refine l_in f rfl rfl rfl b_eql fun a f => ?_
 refine l_nil ?_
 rcases cond_some hd with ⟨hc_1, hd⟩ | ⟨hc_1, hd⟩
 ·refine k_true f rfl hc_1 ?_
  refine k_seq (k_region ?_)
  refine l_as f rfl rfl fun a f => ?_
  refine l_nil ?_
  refine k_ret ?_
  obtain rfl := sj hd
  exact ⟨[(.int .i64 32)], ⟨f.get _ _ rfl, trivial⟩, f.defers, _, [], (GLe.refl _), m, rfl, rfl⟩
 ·refine k_false f rfl hc_1 ?_
  refine k_skip ?_
  refine k_seq (k_region ?_)
  refine l_mv f rfl rfl fun a f => ?_
  refine l_mv f rfl rfl fun a f => ?_
  refine l_op f rfl rfl rfl (r_neg (f.eval rfl)) fun a f => ?_
  refine l_in f rfl rfl rfl b_and fun a f => ?_
  refine l_in f rfl rfl rfl b_mul fun a f => ?_
  refine l_op f rfl rfl rfl (r_shr (f.eval rfl) (f.eval rfl) (by decide)) fun a f => ?_
  obtain ⟨e_3, he_4, hd⟩ := bind_some hd
  refine l_tab hW m Tryd.underlying133 Tryd.sizeOf5 f rfl rfl he_4 fun p_5 a g_6 f => ?_
  refine l_loadAt m Pl5 f rfl rfl g_6 fun a f => ?_
  refine l_op f rfl rfl rfl (r_conv (f.eval rfl) ⟨_, Tryd.underlying5⟩ Tryd.underlying3) fun a f => ?_
  refine l_as f rfl rfl fun a f => ?_
  refine l_nil ?_
  refine k_ret ?_
  obtain rfl := sj hd
  exact ⟨[(.int .i64 (IntKind.i64.wrap e_3))], ⟨f.get _ _ rfl, trivial⟩, f.defers, _, [], (GLe.refl _), m, rfl, rfl⟩

theorem Wk.slices_Index_int64_int64 {W w : World} {G : GH} {H : List Itm} {v0 : Value} {x0 : (List Int)} {x1 : Int} (m : Mem W G w (H)) (h0 : RSl (RI .i64) G v0 x0) {y : Int} (hd : D.slices_Index_int64_int64 x0 x1 = some y) :
  Calls Tryd.prog 124 #[v0, (.int .i64 x1)] w (Res W G H (fun _ Ho v => Ho = [] ∧ v = (.int .i64 y))) := by
 refine calls_b (args := [v0, (.int .i64 x1)]) (N := 19) [.tmp 4] Tryd.func124 rfl rfl (Nat.le_of_ble_eq_true rfl) rfl fun a f => ?_
 unfold D.slices_Index_int64_int64 at hd
 refine k_seq (k_region ?_)
 refine l_as f rfl rfl fun a f => ?_
 refine l_nil (k_seq (k_seq (k_region ?_)))
 refine l_mv f rfl rfl fun a f => ?_
 refine l_len Tryd.underlying31 f rfl rfl h0 fun a f => ?_
 refine l_mv f rfl rfl fun a f => ?_
 refine l_nil ?_
 obtain ⟨q_19, hl_20, hd⟩ := bind_some hd
 refine k_cut (fun a w => ∃ q_19' : Unit, q_19 = .inl q_19' ∧ ∃ (G_36 : GH), GLe G G_36 ∧ Fr a 19 [] ∧ Mem W G_36 w (H)) ?_ ?_
 ·refine k_block ?_
  refine k_loop (fun s_23 a w => ∃ x_26 : Int, x_26 = s_23 ∧ ∃ (G_25 : GH), GLe G G_25 ∧ Fr a 19 [(0, v0), (1, (.int .i64 x1)), (7, (.int .i64 (x0.length : Int))), (8, (.int .i64 x_26))] ∧ Mem W G_25 w (H)) hl_20 ⟨_, rfl, _, (GLe.refl _), f.weak ⟨rfl, rfl, rfl, rfl, trivial⟩, m⟩ ?_
  clear hl_20 f m
  rintro s_23 o_24 hs_21 hq_22 a w ⟨x_26, rfl, G_25, hl_27, f, m⟩
  have h0 := RSl.mono (RI.mono _) _ _ _ _ hl_27 h0
  refine k_seq (k_region ?_)
  refine l_in f rfl rfl rfl b_lss fun a f => ?_
  refine l_nil (k_seq ?_)
  rcases cond_some hs_21 with ⟨hc_38, hs_21⟩ | ⟨hc_38, hs_21⟩
  ·refine k_true f rfl hc_38 ?_
   refine k_skip ?_
   refine k_seq (k_block (k_seq (k_region ?_)))
   refine l_mv f rfl rfl fun a f => ?_
   refine l_as f rfl rfl fun a f => ?_
   refine l_nil (k_seq (k_region ?_))
   refine l_mv f rfl rfl fun a f => ?_
   refine l_mv f rfl rfl fun a f => ?_
   refine l_mv f rfl rfl fun a f => ?_
   obtain ⟨e_39, he_40, hs_21⟩ := bind_some hs_21
   refine l_at T31 f rfl rfl rfl h0 he_40 fun p_41 c_42 a g_43 h_44 f => ?_
   subst h_44
   refine l_loadAt m Pl2 f rfl rfl g_43 fun a f => ?_
   refine l_in f rfl rfl rfl b_eql fun a f => ?_
   refine l_nil ?_
   rcases cond_some hs_21 with ⟨hc_45, hs_21⟩ | ⟨hc_45, hs_21⟩
   ·refine k_true f rfl hc_45 ?_
    refine k_seq (k_region ?_)
    refine l_mv f rfl rfl fun a f => ?_
    refine l_as f rfl rfl fun a f => ?_
    refine l_nil ?_
    refine k_ret ?_
    obtain rfl := sj hs_21
    obtain rfl := hq_22 _ rfl
    obtain rfl := sj hd
    exact ⟨[(.int .i64 x_26)], ⟨f.get _ _ rfl, trivial⟩, f.defers, _, [], hl_27, m, rfl, rfl⟩
   ·refine k_false f rfl hc_45 ?_
    refine k_skip ?_
    refine k_region ?_
    refine l_in f rfl rfl rfl b_add fun a f => ?_
    refine l_mv f rfl rfl fun a f => ?_
    refine l_nil ?_
    obtain rfl := sj hs_21
    exact ⟨_, rfl, _, rfl, _, hl_27, f.weak ⟨rfl, rfl, rfl, rfl, trivial⟩, m⟩
  ·refine k_false f rfl hc_38 ?_
   refine k_exit rfl ?_
   obtain rfl := sj hs_21
   obtain rfl := hq_22 _ rfl
   exact ⟨_, rfl, _, hl_27, f.weak trivial, m⟩
 ·rintro a w ⟨_, rfl, G_36, hl_37, f, m⟩
  refine k_seq (k_region ?_)
  refine l_as f rfl rfl fun a f => ?_
  refine l_nil ?_
  refine k_ret ?_
  obtain rfl := sj hd
  exact ⟨[(.int .i64 (-1))], ⟨f.get _ _ rfl, trivial⟩, f.defers, _, [], hl_37, m, rfl, rfl⟩

theorem Wk.slices_Contains_int64_int64 {W w : World} {G : GH} {H : List Itm} {v0 : Value} {x0 : (List Int)} {x1 : Int} (m : Mem W G w (H)) (h0 : RSl (RI .i64) G v0 x0) {y : Bool} (hd : D.slices_Contains_int64_int64 x0 x1 = some y) :
  Calls Tryd.prog 103 #[v0, (.int .i64 x1)] w (Res W G H (fun _ Ho v => Ho = [] ∧ v = (.bool y))) := by
 refine calls_b (args := [v0, (.int .i64 x1)]) (N := 9) [.tmp 4] Tryd.func103 rfl rfl (Nat.le_of_ble_eq_true rfl) rfl fun a f => ?_
 unfold D.slices_Contains_int64_int64 at hd
 refine k_seq (k_region ?_)
 refine l_as f rfl rfl fun a f => ?_
 refine l_nil (k_seq (k_region ?_))
 refine l_mv f rfl rfl fun a f => ?_
 refine l_mv f rfl rfl fun a f => ?_
 obtain ⟨y_1, hy_2, hd⟩ := bind_some hd
 refine l_res f rfl rfl Tryd.call124 (Wk.slices_Index_int64_int64 m h0 hy_2) fun v_6 G_3 Ho_7 w hl_4 m hQ_5 a f => ?_
 obtain ⟨rfl, rfl⟩ := hQ_5
 have h0 := RSl.mono (RI.mono _) _ _ _ _ hl_4 h0
 refine l_in f rfl rfl rfl b_geq fun a f => ?_
 refine l_as f rfl rfl fun a f => ?_
 refine l_nil ?_
 refine k_ret ?_
 obtain rfl := sj hd
 exact ⟨[(.bool (decide ((0 : Int) ≤ y_1)))], ⟨f.get _ _ rfl, trivial⟩, f.defers, _, [], hl_4, m, rfl, rfl⟩

end Go.Proofs.YtehnblgkgaakeaaDoor
