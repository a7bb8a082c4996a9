/- Parts of the proof: CBW. -/
import Derived.Test.YtocakchlhemmeaaDoorLa2
import Derived.Test.YtocakchlhemmeaaDoorProg
import Derived.KernelRfl
set_option linter.unusedVariables false
set_option linter.unusedSimpArgs false
set_option linter.unusedSectionVars false
set_option maxRecDepth 100000
namespace Go.Proofs.YtocakchlhemmeaaDoor
open Go Go.Sx
theorem Pl36 : Plain Tryd.prog 36 := Tryd.isAgg36
theorem T22 : SlT Tryd.prog 22 36 1 24 (.slice none 0 0) := ⟨Tryd.underlying22, Tryd.t36, by kernel_rfl, by kernel_rfl, by kernel_rfl, by kernel_rfl⟩
theorem Pl22 : Plain Tryd.prog 22 := Tryd.isAgg22
theorem Ag27 : Agg Tryd.prog 27 1 := ⟨Tryd.isAgg27, Tryd.sizeOf27⟩

theorem Wk.laws_szInt64S {W w : World} {G : GH} {H : List Itm} {v0 : Value} {x0 : (List Int)} {x1 : Int} (m : Mem W G w (H)) (h0 : RSl (RI .i64) G v0 x0) {y : Int} (hd : D.laws_szInt64S x0 x1 = some y) :
  Calls Tryd.prog 74 #[v0, (.int .i64 x1)] w (Res W G H (fun _ Ho v => Ho = [] ∧ v = (.int .i64 y))) := by
 refine calls_b (args := [v0, (.int .i64 x1)]) (N := 12) [.tmp 4] Tryd.func74 rfl rfl (Nat.le_of_ble_eq_true rfl) rfl fun a f => ?_
 unfold D.laws_szInt64S at hd
 refine k_seq (k_region ?_)
 refine l_as f rfl rfl fun a f => ?_
 refine l_nil (k_seq (k_region ?_))
 refine l_mv f rfl rfl fun a f => ?_
 refine l_mv f rfl rfl fun a f => ?_
 refine l_len Tryd.underlying36 f rfl rfl h0 fun a f => ?_
 refine l_in f rfl rfl rfl b_sub fun a f => ?_
 refine l_as f rfl rfl fun a f => ?_
 refine l_nil (k_seq (k_seq (k_region ?_)))
 refine l_mv f rfl rfl fun a f => ?_
 refine l_in f rfl rfl rfl b_lss fun a f => ?_
 refine l_nil ?_
 rcases cond_some hd with ⟨hc_1, hd⟩ | ⟨hc_1, hd⟩
 ·refine k_true f rfl hc_1 ?_
  refine k_seq (k_region ?_)
  refine l_as f rfl rfl fun a f => ?_
  refine l_nil ?_
  refine k_ret ?_
  obtain rfl := sj hd
  exact ⟨[(.int .i64 (-1))], ⟨f.get _ _ rfl, trivial⟩, f.defers, _, [], (GLe.refl _), m, rfl, rfl⟩
 ·refine k_false f rfl hc_1 ?_
  refine k_skip ?_
  refine k_seq (k_region ?_)
  refine l_mv f rfl rfl fun a f => ?_
  refine l_as f rfl rfl fun a f => ?_
  refine l_nil ?_
  refine k_ret ?_
  obtain rfl := sj hd
  exact ⟨[(.int .i64 (IntKind.i64.wrap (x1 - (x0.length : Int))))], ⟨f.get _ _ rfl, trivial⟩, f.defers, _, [], (GLe.refl _), m, rfl, rfl⟩

theorem Wk.laws_szInt64SS {W w : World} {G : GH} {H : List Itm} {v0 : Value} {x0 : (List (List Int))} {x1 : Int} (m : Mem W G w (H)) (h0 : RSl (RSl (RI .i64)) G v0 x0) {y : Int} (hd : D.laws_szInt64SS x0 x1 = some y) :
  Calls Tryd.prog 33 #[v0, (.int .i64 x1)] w (Res W G H (fun _ Ho v => Ho = [] ∧ v = (.int .i64 y))) := by
 refine calls_b (args := [v0, (.int .i64 x1)]) (N := 27) [.tmp 4] Tryd.func33 rfl rfl (Nat.le_of_ble_eq_true rfl) rfl fun a f => ?_
 unfold D.laws_szInt64SS at hd
 refine k_seq (k_region ?_)
 refine l_as f rfl rfl fun a f => ?_
 refine l_nil (k_seq (k_region ?_))
 refine l_mv f rfl rfl fun a f => ?_
 refine l_mv f rfl rfl fun a f => ?_
 refine l_len Tryd.underlying22 f rfl rfl h0 fun a f => ?_
 refine l_in f rfl rfl rfl b_sub fun a f => ?_
 refine l_as f rfl rfl fun a f => ?_
 refine l_nil (k_seq (k_seq (k_region ?_)))
 refine l_mv f rfl rfl fun a f => ?_
 refine l_in f rfl rfl rfl b_lss fun a f => ?_
 refine l_nil ?_
 rcases cond_some hd with ⟨hc_1, hd⟩ | ⟨hc_1, hd⟩
 ·refine k_true f rfl hc_1 ?_
  refine k_seq (k_region ?_)
  refine l_as f rfl rfl fun a f => ?_
  refine l_nil ?_
  refine k_ret ?_
  obtain rfl := sj hd
  exact ⟨[(.int .i64 (-1))], ⟨f.get _ _ rfl, trivial⟩, f.defers, _, [], (GLe.refl _), m, rfl, rfl⟩
 ·refine k_false f rfl hc_1 ?_
  refine k_skip ?_
  refine k_seq (k_seq (k_region ?_))
  refine l_as f rfl rfl fun a f => ?_
  refine l_nil ?_
  obtain ⟨q_35, hl_36, hd⟩ := bind_some hd
  refine k_cut (fun a w => ∃ q_35' : Int, q_35 = .inl q_35' ∧ ∃ x_61 : Int, x_61 = q_35' ∧ ∃ (G_60 : GH), GLe G G_60 ∧ Fr a 27 [(1, (.int .i64 x_61))] ∧ Mem W G_60 w (H)) ?_ ?_
  ·refine k_block ?_
   refine k_loop (fun s_39 a w => ∃ x_42 : Int, ∃ x_43 : Int, (x_42, x_43) = s_39 ∧ ∃ (G_41 : GH), GLe G G_41 ∧ Fr a 27 [(0, v0), (1, (.int .i64 x_42)), (5, (.int .i64 x_43))] ∧ Mem W G_41 w (H)) hl_36 ⟨_, _, rfl, _, (GLe.refl _), f.weak ⟨rfl, rfl, rfl, trivial⟩, m⟩ ?_
   clear hl_36 f m
   rintro s_39 o_40 hs_37 hq_38 a w ⟨x_42, x_43, rfl, G_41, hl_44, f, m⟩
   have h0 := RSl.mono (RSl.mono (RI.mono _)) _ _ _ _ hl_44 h0
   refine k_seq (k_seq (k_region ?_))
   refine l_mv f rfl rfl fun a f => ?_
   refine l_mv f rfl rfl fun a f => ?_
   refine l_len Tryd.underlying22 f rfl rfl h0 fun a f => ?_
   refine l_in f rfl rfl rfl b_lss fun a f => ?_
   refine l_nil ?_
   rcases cond_some hs_37 with ⟨hc_63, hs_37⟩ | ⟨hc_63, hs_37⟩
   ·refine k_true f rfl hc_63 ?_
    refine k_skip ?_
    refine k_seq (k_block (k_seq (k_region ?_)))
    refine l_mv f rfl rfl fun a f => ?_
    refine l_mv f rfl rfl fun a f => ?_
    obtain ⟨e_64, he_65, hs_37⟩ := bind_some hs_37
    refine l_at T22 f rfl rfl rfl h0 he_65 fun p_66 c_67 a g_68 h_69 f => ?_
    refine l_loadAt m Pl36 f rfl rfl g_68 fun a f => ?_
    refine l_mv f rfl rfl fun a f => ?_
    obtain ⟨y_70, hy_71, hs_37⟩ := bind_some hs_37
    refine l_res f rfl rfl Tryd.call74 (Wk.laws_szInt64S m h_69 hy_71) fun v_75 G_72 Ho_76 w hl_73 m hQ_74 a f => ?_
    obtain ⟨rfl, rfl⟩ := hQ_74
    have h0 := RSl.mono (RSl.mono (RI.mono _)) _ _ _ _ hl_73 h0
    have g_68 := At.mono hl_73 g_68
    have h_69 := RSl.mono (RI.mono _) _ _ _ _ hl_73 h_69
    refine l_as f rfl rfl fun a f => ?_
    refine l_nil (k_seq (k_region ?_))
    refine l_mv f rfl rfl fun a f => ?_
    refine l_in f rfl rfl rfl b_lss fun a f => ?_
    refine l_nil ?_
    rcases cond_some hs_37 with ⟨hc_77, hs_37⟩ | ⟨hc_77, hs_37⟩
    ·refine k_true f rfl hc_77 ?_
     refine k_seq (k_region ?_)
     refine l_as f rfl rfl fun a f => ?_
     refine l_nil ?_
     refine k_ret ?_
     obtain rfl := sj hs_37
     obtain rfl := hq_38 _ rfl
     obtain rfl := sj hd
     exact ⟨[(.int .i64 (-1))], ⟨f.get _ _ rfl, trivial⟩, f.defers, _, [], (GLe.trans hl_44 hl_73), m, rfl, rfl⟩
    ·refine k_false f rfl hc_77 ?_
     refine k_skip ?_
     refine k_region ?_
     refine l_mv f rfl rfl fun a f => ?_
     refine l_in f rfl rfl rfl b_add fun a f => ?_
     refine l_as f rfl rfl fun a f => ?_
     refine l_nil ?_
     obtain rfl := sj hs_37
     exact ⟨_, rfl, _, _, rfl, _, (GLe.trans hl_44 hl_73), f.weak ⟨rfl, rfl, rfl, trivial⟩, m⟩
   ·refine k_false f rfl hc_63 ?_
    refine k_exit rfl ?_
    obtain rfl := sj hs_37
    obtain rfl := hq_38 _ rfl
    exact ⟨_, rfl, _, rfl, _, hl_44, f.weak ⟨rfl, trivial⟩, m⟩
  ·rintro a w ⟨_, rfl, x_61, rfl, G_60, hl_62, f, m⟩
   refine k_seq (k_region ?_)
   refine l_mv f rfl rfl fun a f => ?_
   refine l_as f rfl rfl fun a f => ?_
   refine l_nil ?_
   refine k_ret ?_
   obtain rfl := sj hd
   exact ⟨[(.int .i64 x_61)], ⟨f.get _ _ rfl, trivial⟩, f.defers, _, [], hl_62, m, rfl, rfl⟩

theorem Wk.laws_szGraph {W w : World} {G : GH} {H : List Itm} {v0_0 : Value} {x0_0 : (List (List Int))} {x1 : Int} (m : Mem W G w (H)) (h0_0 : RSl (RSl (RI .i64)) G v0_0 x0_0) {y : Int} (hd : D.laws_szGraph x0_0 x1 = some y) :
  Calls Tryd.prog 6 #[(.agg #[v0_0]), (.int .i64 x1)] w (Res W G H (fun _ Ho v => Ho = [] ∧ v = (.int .i64 y))) := by
 refine calls_b (args := [(.agg #[v0_0]), (.int .i64 x1)]) (N := 12) [.tmp 4] Tryd.func6 rfl rfl (Nat.le_of_ble_eq_true rfl) rfl fun a f => ?_
 unfold D.laws_szGraph at hd
 refine k_seq (k_region ?_)
 refine l_box (cs := [v0_0]) m f rfl rfl rfl fun b_2 w a m f => ?_
 refine l_as f rfl rfl fun a f => ?_
 refine l_nil (k_seq (k_region ?_))
 refine l_fieldAddr Tryd.underlying24 rfl Tryd.sizeOf22 (by decide) f rfl rfl fun a f => ?_
 refine l_boxCell 0 0 m Pl22 f rfl rfl rfl rfl fun a f => ?_
 refine l_mv f rfl rfl fun a f => ?_
 obtain ⟨y_3, hy_4, hd⟩ := bind_some hd
 refine l_res f rfl rfl Tryd.call33 (Wk.laws_szInt64SS m h0_0 hy_4) fun v_8 G_5 Ho_9 w hl_6 m hQ_7 a f => ?_
 obtain ⟨rfl, rfl⟩ := hQ_7
 have h0_0 := RSl.mono (RSl.mono (RI.mono _)) _ _ _ _ hl_6 h0_0
 refine l_as f rfl rfl fun a f => ?_
 refine l_nil (k_seq (k_seq (k_region ?_)))
 refine l_mv f rfl rfl fun a f => ?_
 refine l_in f rfl rfl rfl b_lss fun a f => ?_
 refine l_nil ?_
 rcases cond_some hd with ⟨hc_10, hd⟩ | ⟨hc_10, hd⟩
 ·refine k_true f rfl hc_10 ?_
  refine k_seq (k_region ?_)
  refine l_as f rfl rfl fun a f => ?_
  refine l_nil ?_
  refine k_ret ?_
  have m : Mem W G_5 w H := Mem.drop (H' := [Itm.box b_2 24 [v0_0]]) m
  obtain rfl := sj hd
  exact ⟨[(.int .i64 (-1))], ⟨f.get _ _ rfl, trivial⟩, f.defers, _, [], hl_6, m, rfl, rfl⟩
 ·refine k_false f rfl hc_10 ?_
  refine k_skip ?_
  refine k_seq (k_region ?_)
  refine l_mv f rfl rfl fun a f => ?_
  refine l_as f rfl rfl fun a f => ?_
  refine l_nil ?_
  refine k_ret ?_
  have m : Mem W G_5 w H := Mem.drop (H' := [Itm.box b_2 24 [v0_0]]) m
  obtain rfl := sj hd
  exact ⟨[(.int .i64 y_3)], ⟨f.get _ _ rfl, trivial⟩, f.defers, _, [], hl_6, m, rfl, rfl⟩

theorem Wk.laws_toInt64S {W w : World} {G : GH} {H : List Itm} {v0 : Value} {x0 : (List Int)} (m : Mem W G w (H)) (h0 : RSl (RI .i64) G v0 x0) {y : ((List Int))} (hd : D.laws_toInt64S x0 = some y) :
  Calls Tryd.prog 77 #[v0] w (Res W G H (fun G' Ho v => ∃ r0 : Value, ∃ i0 : Itm, Ho = [i0] ∧ r0 = v ∧ Ow (RI .i64) 2 G' i0 r0 y)) := by
 refine calls_b (args := [v0]) (N := 22) [.tmp 2] Tryd.func77 rfl rfl (Nat.le_of_ble_eq_true rfl) rfl fun a f => ?_
 unfold D.laws_toInt64S at hd
 refine k_seq (k_region ?_)
 refine l_as f rfl rfl fun a f => ?_
 refine l_nil (k_seq (k_region ?_))
 refine l_mv f rfl rfl fun a f => ?_
 refine l_len Tryd.underlying36 f rfl rfl h0 fun a f => ?_
 obtain ⟨l_1, hx_2, hd⟩ := bind_some hd
 refine l_make (R := (RI .i64)) m T36 rfl (by decide) rfl f rfl rfl rfl hx_2 fun it_3 v_4 w a m o_5 f => ?_
 refine l_as f rfl rfl fun a f => ?_
 refine l_nil (k_seq (k_seq (k_region ?_)))
 refine l_as f rfl rfl fun a f => ?_
 refine l_nil ?_
 obtain ⟨q_38, hl_39, hd⟩ := bind_some hd
 refine k_cut (fun a w => ∃ l_64 : List Int, l_64 = q_38 ∧ ∃ (G_63 : GH) (it_65 : Itm), GLe G G_63 ∧ Fr a 22 [(3, v_4)] ∧ Mem W G_63 w (it_65 :: H) ∧ Ow (RI .i64) 2 G_63 it_65 v_4 l_64) ?_ ?_
 ·refine k_block ?_
  refine k_loop (fun s_42 a w => ∃ l_45 : List Int, ∃ x_48 : Int, (l_45, x_48) = s_42 ∧ ∃ (G_44 : GH) (it_46 : Itm), GLe G G_44 ∧ Fr a 22 [(0, v0), (3, v_4), (4, (.int .i64 x_48))] ∧ Mem W G_44 w (it_46 :: H) ∧ Ow (RI .i64) 2 G_44 it_46 v_4 l_45) hl_39 ⟨_, _, rfl, _, it_3, (GLe.refl _), f.weak ⟨rfl, rfl, rfl, trivial⟩, m, o_5⟩ ?_
  clear hl_39 f m
  rintro s_42 o_43 hs_40 hq_41 a w ⟨l_45, x_48, rfl, G_44, it_46, hl_49, f, m, o_47⟩
  have h0 := RSl.mono (RI.mono _) _ _ _ _ hl_49 h0
  refine k_seq (k_seq (k_region ?_))
  refine l_mv f rfl rfl fun a f => ?_
  refine l_mv f rfl rfl fun a f => ?_
  refine l_len Tryd.underlying36 f rfl rfl h0 fun a f => ?_
  refine l_in f rfl rfl rfl b_lss fun a f => ?_
  refine l_nil ?_
  rcases cond_some hs_40 with ⟨hc_68, hs_40⟩ | ⟨hc_68, hs_40⟩
  ·refine k_true f rfl hc_68 ?_
   refine k_skip ?_
   refine k_seq (k_block (k_region ?_))
   refine l_mv f rfl rfl fun a f => ?_
   refine l_mv f rfl rfl fun a f => ?_
   refine l_mv f rfl rfl fun a f => ?_
   refine l_mv f rfl rfl fun a f => ?_
   obtain ⟨e_69, he_70, hs_40⟩ := bind_some hs_40
   refine l_at T36 f rfl rfl rfl h0 he_70 fun p_71 c_72 a g_73 h_74 f => ?_
   subst h_74
   refine l_loadAt m Pl2 f rfl rfl g_73 fun a f => ?_
   obtain ⟨e_75, he_76, hs_40⟩ := bind_some hs_40
   refine l_own_at 0 m o_47 rfl T36 f rfl rfl rfl he_76 fun p_77 a ha_78 f => ?_
   refine l_own_store 0 m o_47 rfl Tryd.sizeOf2 f rfl rfl ha_78 he_76 rfl rfl rfl fun it_79 w m o_80 => ?_
   refine l_nil (k_region ?_)
   refine l_mv f rfl rfl fun a f => ?_
   refine l_in f rfl rfl rfl b_add fun a f => ?_
   refine l_as f rfl rfl fun a f => ?_
   refine l_nil ?_
   obtain rfl := sj hs_40
   exact ⟨_, rfl, _, _, rfl, _, it_79, hl_49, f.weak ⟨rfl, rfl, rfl, trivial⟩, m, o_80⟩
  ·refine k_false f rfl hc_68 ?_
   refine k_exit rfl ?_
   obtain rfl := sj hs_40
   obtain rfl := hq_41 _ rfl
   exact ⟨_, rfl, _, it_46, hl_49, f.weak ⟨rfl, trivial⟩, m, o_47⟩
 ·rintro a w ⟨l_64, rfl, G_63, it_65, hl_67, f, m, o_66⟩
  refine k_seq (k_region ?_)
  refine l_mv f rfl rfl fun a f => ?_
  refine l_as f rfl rfl fun a f => ?_
  refine l_nil ?_
  refine k_ret ?_
  obtain rfl := sj hd
  exact ⟨[v_4], ⟨f.get _ _ rfl, trivial⟩, f.defers, _, [it_65], hl_67, m, _, _, rfl, rfl, o_66⟩

theorem Wk.laws_toInt64SS {W w : World} {G : GH} {H : List Itm} {v0 : Value} {x0 : (List (List Int))} (m : Mem W G w (H)) (h0 : RSl (RSl (RI .i64)) G v0 x0) {y : ((List (List Int)))} (hd : D.laws_toInt64SS x0 = some y) :
  Calls Tryd.prog 39 #[v0] w (Res W G H (fun G' Ho v => ∃ r0 : Value, ∃ i0 : Itm, Ho = [i0] ∧ r0 = v ∧ Ow2 (RI .i64) 36 2 G' i0 r0 y)) := by
 refine calls_b (args := [v0]) (N := 23) [.tmp 2] Tryd.func39 rfl rfl (Nat.le_of_ble_eq_true rfl) rfl fun a f => ?_
 unfold D.laws_toInt64SS at hd
 refine k_seq (k_region ?_)
 refine l_as f rfl rfl fun a f => ?_
 refine l_nil (k_seq (k_region ?_))
 refine l_mv f rfl rfl fun a f => ?_
 refine l_len Tryd.underlying22 f rfl rfl h0 fun a f => ?_
 obtain ⟨l_1, hx_2, hd⟩ := bind_some hd
 refine l_make2 (R := (RI .i64)) (t2 := 2) m T22 (by decide) f rfl rfl rfl hx_2 fun it_3 v_4 w a m o_5 f => ?_
 refine l_as f rfl rfl fun a f => ?_
 refine l_nil (k_seq (k_seq (k_region ?_)))
 refine l_as f rfl rfl fun a f => ?_
 refine l_nil ?_
 obtain ⟨q_60, hl_61, hd⟩ := bind_some hd
 refine k_cut (fun a w => ∃ l_97 : List (List Int), l_97 = q_60 ∧ ∃ (G_96 : GH) (it_98 : Itm), GLe G G_96 ∧ Fr a 23 [(3, v_4)] ∧ Mem W G_96 w (it_98 :: H) ∧ Ow2 (RI .i64) 36 2 G_96 it_98 v_4 l_97) ?_ ?_
 ·refine k_block ?_
  refine k_loop (fun s_64 a w => ∃ l_67 : List (List Int), ∃ x_70 : Int, (l_67, x_70) = s_64 ∧ ∃ (G_66 : GH) (it_68 : Itm), GLe G G_66 ∧ Fr a 23 [(0, v0), (3, v_4), (4, (.int .i64 x_70))] ∧ Mem W G_66 w (it_68 :: H) ∧ Ow2 (RI .i64) 36 2 G_66 it_68 v_4 l_67) hl_61 ⟨_, _, rfl, _, it_3, (GLe.refl _), f.weak ⟨rfl, rfl, rfl, trivial⟩, m, o_5⟩ ?_
  clear hl_61 f m
  rintro s_64 o_65 hs_62 hq_63 a w ⟨l_67, x_70, rfl, G_66, it_68, hl_71, f, m, o_69⟩
  have h0 := RSl.mono (RSl.mono (RI.mono _)) _ _ _ _ hl_71 h0
  refine k_seq (k_seq (k_region ?_))
  refine l_mv f rfl rfl fun a f => ?_
  refine l_mv f rfl rfl fun a f => ?_
  refine l_len Tryd.underlying22 f rfl rfl h0 fun a f => ?_
  refine l_in f rfl rfl rfl b_lss fun a f => ?_
  refine l_nil ?_
  rcases cond_some hs_62 with ⟨hc_101, hs_62⟩ | ⟨hc_101, hs_62⟩
  ·refine k_true f rfl hc_101 ?_
   refine k_skip ?_
   refine k_seq (k_block (k_region ?_))
   refine l_mv f rfl rfl fun a f => ?_
   refine l_mv f rfl rfl fun a f => ?_
   refine l_mv f rfl rfl fun a f => ?_
   refine l_mv f rfl rfl fun a f => ?_
   obtain ⟨e_102, he_103, hs_62⟩ := bind_some hs_62
   refine l_at T22 f rfl rfl rfl h0 he_103 fun p_104 c_105 a g_106 h_107 f => ?_
   refine l_loadAt m Pl36 f rfl rfl g_106 fun a f => ?_
   obtain ⟨y_108, hy_109, hs_62⟩ := bind_some hs_62
   refine l_res f rfl rfl Tryd.call77 (Wk.laws_toInt64S m h_107 hy_109) fun v_113 G_110 Ho_114 w hl_111 m hQ_112 a f => ?_
   obtain ⟨v_115, it_116, rfl, rfl, o_117⟩ := hQ_112
   have h0 := RSl.mono (RSl.mono (RI.mono _)) _ _ _ _ hl_111 h0
   have g_106 := At.mono hl_111 g_106
   have h_107 := RSl.mono (RI.mono _) _ _ _ _ hl_111 h_107
   have o_69 := Ow2.mono (RI.mono _) hl_111 o_69
   obtain ⟨e_119, he_120, hs_62⟩ := bind_some hs_62
   refine l_own2_at 1 m o_69 rfl T22 f rfl rfl rfl he_120 fun p_121 a ha_122 f => ?_
   have m := m.front 1 rfl
   refine l_own2_store m o_69 o_117 Tryd.sizeOf36 f rfl rfl ha_122 he_120 fun it_123 w m o_124 => ?_
   refine l_nil (k_region ?_)
   refine l_mv f rfl rfl fun a f => ?_
   refine l_in f rfl rfl rfl b_add fun a f => ?_
   refine l_as f rfl rfl fun a f => ?_
   refine l_nil ?_
   obtain rfl := sj hs_62
   exact ⟨_, rfl, _, _, rfl, _, it_123, (GLe.trans hl_71 hl_111), f.weak ⟨rfl, rfl, rfl, trivial⟩, m, o_124⟩
  ·refine k_false f rfl hc_101 ?_
   refine k_exit rfl ?_
   obtain rfl := sj hs_62
   obtain rfl := hq_63 _ rfl
   exact ⟨_, rfl, _, it_68, hl_71, f.weak ⟨rfl, trivial⟩, m, o_69⟩
 ·rintro a w ⟨l_97, rfl, G_96, it_98, hl_100, f, m, o_99⟩
  refine k_seq (k_region ?_)
  refine l_mv f rfl rfl fun a f => ?_
  refine l_as f rfl rfl fun a f => ?_
  refine l_nil ?_
  refine k_ret ?_
  obtain rfl := sj hd
  exact ⟨[v_4], ⟨f.get _ _ rfl, trivial⟩, f.defers, _, [it_98], hl_100, m, _, _, rfl, rfl, o_99⟩

theorem Wk.laws_toGraph {W w : World} {G : GH} {H : List Itm} {v0_0 : Value} {x0_0 : (List (List Int))} (m : Mem W G w (H)) (h0_0 : RSl (RSl (RI .i64)) G v0_0 x0_0) {y : ((List (List Int)))} (hd : D.laws_toGraph x0_0 = some y) :
  Calls Tryd.prog 8 #[(.agg #[v0_0])] w (Res W G H (fun G' Ho v => ∃ r0 : Value, ∃ i0 : Itm, Ho = [i0] ∧ v = (.agg #[r0]) ∧ Ow2 (RI .i64) 36 2 G' i0 r0 y)) := by
 refine calls_b (args := [(.agg #[v0_0])]) (N := 9) [.cell 2 27] Tryd.func8 rfl rfl (Nat.le_of_ble_eq_true rfl) rfl fun a f => ?_
 unfold D.laws_toGraph at hd
 refine k_seq (k_region ?_)
 refine l_box (cs := [v0_0]) m f rfl rfl rfl fun b_2 w a m f => ?_
 refine l_alloc (cs := [(.slice none 0 0)]) Tryd.zeroValue27 m f rfl rfl fun b_4 w a m f => ?_
 refine l_nil (k_seq (k_region ?_))
 refine l_alloc (cs := [(.slice none 0 0)]) Tryd.zeroValue27 m f rfl rfl fun b_6 w a m f => ?_
 refine l_nil (k_seq (k_region ?_))
 refine l_fieldAddr Tryd.underlying24 rfl Tryd.sizeOf22 (by decide) f rfl rfl fun a f => ?_
 refine l_boxCell 2 0 m Pl22 f rfl rfl rfl rfl fun a f => ?_
 obtain ⟨y_7, hy_8, hd⟩ := bind_some hd
 refine l_res f rfl rfl Tryd.call39 (Wk.laws_toInt64SS m h0_0 hy_8) fun v_12 G_9 Ho_13 w hl_10 m hQ_11 a f => ?_
 obtain ⟨v_14, it_15, rfl, rfl, o_16⟩ := hQ_11
 have h0_0 := RSl.mono (RSl.mono (RI.mono _)) _ _ _ _ hl_10 h0_0
 refine l_fieldAddr Tryd.underlying27 rfl Tryd.sizeOf22 (by decide) f rfl rfl fun a f => ?_
 refine l_boxStore 1 0 (ds := [v_14]) m Tryd.sizeOf22 f rfl rfl (Ow2.cells 0 m o_16 rfl) (ones_cons (Ow2.one1 0 m o_16 rfl) ones_nil) rfl (Nat.le_of_ble_eq_true rfl) rfl fun w m => ?_
 refine l_nil (k_seq (k_region ?_))
 refine l_boxAgg 1 0 (ds := [v_14]) m Ag27 f rfl rfl rfl rfl rfl fun a f => ?_
 refine l_boxStore 2 0 (ds := [v_14]) m Tryd.sizeOf27 f rfl rfl rfl (ones_cons (Ow2.one1 0 m o_16 rfl) ones_nil) rfl (Nat.le_of_ble_eq_true rfl) rfl fun w m => ?_
 refine l_nil ?_
 refine k_ret ?_
 have rc_18 := rr_agg (P := Tryd.prog) 2 m Ag27 f (s := 2) rfl rfl rfl
 have m := m.eraseAt 3
 have m := m.eraseAt 2
 have m := m.eraseAt 1
 obtain rfl := sj hd
 exact ⟨[(.agg #[v_14])], ⟨rc_18, trivial⟩, f.defers, _, [it_15], hl_10, m, _, _, rfl, rfl, o_16⟩

theorem Wk.spec_l1Size {W w : World} {G : GH} {H : List Itm} {v0_0 : Value} {x0_0 : (List (List Int))} (m : Mem W G w (H)) (h0_0 : RSl (RSl (RI .i64)) G v0_0 x0_0) {y : Int} (hd : D.spec_l1Size x0_0 = some y) :
  Calls Tryd.prog 62 #[(.agg #[v0_0])] w (Res W G H (fun _ Ho v => Ho = [] ∧ v = (.int .i64 y))) := by
 refine calls_b (args := [(.agg #[v0_0])]) (N := 6) [.tmp 2] Tryd.func62 rfl rfl (Nat.le_of_ble_eq_true rfl) rfl fun a f => ?_
 unfold D.spec_l1Size at hd
 refine k_seq (k_region ?_)
 refine l_box (cs := [v0_0]) m f rfl rfl rfl fun b_2 w a m f => ?_
 refine l_as f rfl rfl fun a f => ?_
 refine l_nil (k_seq (k_region ?_))
 refine l_fieldAddr Tryd.underlying27 rfl Tryd.sizeOf22 (by decide) f rfl rfl fun a f => ?_
 refine l_boxCell 0 0 m Pl22 f rfl rfl rfl rfl fun a f => ?_
 refine l_len Tryd.underlying22 f rfl rfl h0_0 fun a f => ?_
 refine l_as f rfl rfl fun a f => ?_
 refine l_nil ?_
 refine k_ret ?_
 have m : Mem W G w H := Mem.drop (H' := [Itm.box b_2 27 [v0_0]]) m
 obtain rfl := sj hd
 exact ⟨[(.int .i64 (x0_0.length : Int))], ⟨f.get _ _ rfl, trivial⟩, f.defers, _, [], (GLe.refl _), m, rfl, rfl⟩

theorem Wk.spec_l1In {W w : World} {G : GH} {H : List Itm} {x0 : Int} {x1 : Int} {x2 : Int} (m : Mem W G w (H))  {y : Bool} (hd : D.spec_l1In x0 x1 x2 = some y) :
  Calls Tryd.prog 63 #[(.int .i64 x0), (.int .i64 x1), (.int .i64 x2)] w (Res W G H (fun _ Ho v => Ho = [] ∧ v = (.bool y))) := by
 refine calls_b (args := [(.int .i64 x0), (.int .i64 x1), (.int .i64 x2)]) (N := 15) [.tmp 6] Tryd.func63 rfl rfl (Nat.le_of_ble_eq_true rfl) rfl fun a f => ?_
 unfold D.spec_l1In at hd
 refine k_seq (k_region ?_)
 refine l_as f rfl rfl fun a f => ?_
 refine l_nil (k_seq (k_region ?_))
 refine l_mv f rfl rfl fun a f => ?_
 refine l_mv f rfl rfl fun a f => ?_
 refine l_in f rfl rfl rfl b_geq fun a f => ?_
 refine l_mv f rfl rfl fun a f => ?_
 refine l_cut 4 (fun a w => ∃ G_2, GLe G G_2 ∧ Mem W G_2 w (H) ∧ Fr a 15 [(0, (.int .i64 x0)), (1, (.int .i64 x1)), (2, (.int .i64 x2)), (7, (.int .i64 x0)), (8, (.int .i64 x1)), (9, (.bool (decide (x1 ≤ x0)))), (10, (.bool (decide (x1 ≤ x0)))), (14, (.bool ((decide (x1 ≤ x0)) && (decide (x0 ≤ x2)))))]) ?_ ?_
 ·rcases Bool.eq_false_or_eq_true (decide (x1 ≤ x0)) with hc_1 | hc_1
  ·refine l_run f rfl rfl hc_1 ?_
   refine l_mv f rfl rfl fun a f => ?_
   refine l_run f rfl rfl hc_1 ?_
   refine l_mv f rfl rfl fun a f => ?_
   refine l_run f rfl rfl hc_1 ?_
   refine l_in f rfl rfl rfl b_leq fun a f => ?_
   refine l_op f rfl rfl rfl (r_pickT (f.eval rfl) hc_1 (f.eval rfl)) fun a f => ?_
   exact ⟨_, (GLe.refl _), m, f.weak ⟨rfl, rfl, rfl, rfl, rfl, rfl, rfl, by rw [hc_1]; rfl, trivial⟩⟩
  ·refine l_not' f rfl rfl rfl hc_1 fun a f => ?_
   refine l_not' f rfl rfl rfl hc_1 fun a f => ?_
   refine l_not' f rfl rfl rfl hc_1 fun a f => ?_
   refine l_op f rfl rfl rfl (r_pickF (f.eval rfl) hc_1 (f.eval rfl)) fun a f => ?_
   exact ⟨_, (GLe.refl _), m, f.weak ⟨rfl, rfl, rfl, rfl, rfl, rfl, rfl, by rw [hc_1]; rfl, trivial⟩⟩
 ·rintro a w ⟨G_2, hl_3, m, f⟩
  refine l_as f rfl rfl fun a f => ?_
  refine l_nil ?_
  refine k_ret ?_
  obtain rfl := sj hd
  exact ⟨[(.bool ((decide (x1 ≤ x0)) && (decide (x0 ≤ x2))))], ⟨f.get _ _ rfl, trivial⟩, f.defers, _, [], hl_3, m, rfl, rfl⟩

theorem Wk.spec_l1Set {W w : World} {G : GH} {H : List Itm} {v0 : Value} {x0 : (List Int)} {x1 : Int} (m : Mem W G w (H)) (h0 : RSl (RI .i64) G v0 x0) {y : Bool} (hd : D.spec_l1Set x0 x1 = some y) :
  Calls Tryd.prog 61 #[v0, (.int .i64 x1)] w (Res W G H (fun _ Ho v => Ho = [] ∧ v = (.bool y))) := by
 refine calls_b (args := [v0, (.int .i64 x1)]) (N := 40) [.tmp 4] Tryd.func61 rfl rfl (Nat.le_of_ble_eq_true rfl) rfl fun a f => ?_
 unfold D.spec_l1Set at hd
 refine k_seq (k_region ?_)
 refine l_as f rfl rfl fun a f => ?_
 refine l_nil (k_seq (k_seq (k_region ?_)))
 refine l_mv f rfl rfl fun a f => ?_
 refine l_len Tryd.underlying36 f rfl rfl h0 fun a f => ?_
 refine l_mv f rfl rfl fun a f => ?_
 refine l_in f rfl rfl rfl b_gtr fun a f => ?_
 refine l_nil ?_
 rcases cond_some hd with ⟨hc_1, hd⟩ | ⟨hc_1, hd⟩
 ·refine k_true f rfl hc_1 ?_
  refine k_seq (k_region ?_)
  refine l_as f rfl rfl fun a f => ?_
  refine l_nil ?_
  refine k_ret ?_
  obtain rfl := sj hd
  exact ⟨[(.bool false)], ⟨f.get _ _ rfl, trivial⟩, f.defers, _, [], (GLe.refl _), m, rfl, rfl⟩
 ·refine k_false f rfl hc_1 ?_
  refine k_skip ?_
  refine k_seq (k_seq (k_region ?_))
  refine l_as f rfl rfl fun a f => ?_
  refine l_nil ?_
  obtain ⟨q_150, hl_151, hd⟩ := bind_some hd
  refine k_cut (fun a w => ∃ q_150' : Unit, q_150 = .inl q_150' ∧ ∃ (G_232 : GH), GLe G G_232 ∧ Fr a 40 [] ∧ Mem W G_232 w (H)) ?_ ?_
  ·refine k_block ?_
   refine k_loop (fun s_154 a w => ∃ x_157 : Int, x_157 = s_154 ∧ ∃ (G_156 : GH), GLe G G_156 ∧ Fr a 40 [(0, v0), (1, (.int .i64 x1)), (5, (.int .i64 x_157))] ∧ Mem W G_156 w (H)) hl_151 ⟨_, rfl, _, (GLe.refl _), f.weak ⟨rfl, rfl, rfl, trivial⟩, m⟩ ?_
   clear hl_151 f m
   rintro s_154 o_155 hs_152 hq_153 a w ⟨x_157, rfl, G_156, hl_158, f, m⟩
   have h0 := RSl.mono (RI.mono _) _ _ _ _ hl_158 h0
   refine k_seq (k_seq (k_region ?_))
   refine l_mv f rfl rfl fun a f => ?_
   refine l_mv f rfl rfl fun a f => ?_
   refine l_len Tryd.underlying36 f rfl rfl h0 fun a f => ?_
   refine l_in f rfl rfl rfl b_lss fun a f => ?_
   refine l_nil ?_
   rcases cond_some hs_152 with ⟨hc_234, hs_152⟩ | ⟨hc_234, hs_152⟩
   ·refine k_true f rfl hc_234 ?_
    refine k_skip ?_
    refine k_seq (k_block (k_seq ?_))
    refine k_draw 24 Follows (by kernel_rfl) m ?_
    refine q_mv 0 24 rfl (by kernel_rfl) f rfl rfl rfl fun a f => ?_
    refine q_mv 1 24 rfl (by kernel_rfl) f rfl rfl rfl fun a f => ?_
    obtain ⟨e_235, he_236, hs_152⟩ := bind_some hs_152
    refine q_at (i := 2) 24 T36 h0 he_236 rfl (by kernel_rfl) rfl f rfl rfl rfl rfl fun p_237 c_238 a g_239 h_240 f => ?_
    subst h_240
    refine q_loadAt (i := 3) 24 Pl2 g_239 rfl (by kernel_rfl) rfl f rfl rfl rfl fun a f => ?_
    refine q_mv 4 24 rfl (by kernel_rfl) f rfl rfl rfl fun a f => ?_
    refine q_p 5 24 rfl (by kernel_rfl) f rfl rfl rfl (fun _ => r_int (f.eval rfl) (f.eval rfl) b_sub) fun a f => ?_
    obtain ⟨y_241, hy_242, hs_152⟩ := bind_some hs_152
    refine q_call (i := 6) 24 rfl (by kernel_rfl) rfl f rfl rfl rfl Tryd.call63 (fun _ _ w hG_243 m => Wk.spec_l1In m  hy_242) fun a f => ?_
    refine q_p 7 24 rfl (by kernel_rfl) f rfl rfl rfl (fun _ => r_not (f.eval rfl)) fun a f => ?_
    refine q_mv 8 24 rfl (by kernel_rfl) f rfl rfl rfl fun a f => ?_
    obtain ⟨b_274, hj_275, hs_152⟩ := bind_some hs_152
    refine q_cut (fuel' := 0) (listed' := #[true, true, true, true, true, true, true, true, true, true, true, true, true, true, true, true, true, true, true, true, true, true, true, true]) (fun a => Fr a 40 [(0, v0), (1, (.int .i64 x1)), (5, (.int .i64 x_157)), (13, (.bool (decide (x_157 < (x0.length : Int))))), (16, v0), (17, (.int .i64 x_157)), (18, p_237), (19, (.int .i64 e_235)), (20, (.int .i64 x1)), (21, (.int .i64 (IntKind.i64.wrap (x1 - 1)))), (22, (.bool y_241)), (23, (.bool (!y_241))), (24, (.bool (!y_241))), (39, (.bool b_274))]) ?_ ?_
    ·intro a f
     refine q_end fun G_304 w hl_305 m => ?_
     have h0 := RSl.mono (RI.mono _) _ _ _ _ hl_305 h0
     have g_239 := At.mono hl_305 g_239
     refine l_nil ?_
     rcases cond_some hs_152 with ⟨hc_306, hs_152⟩ | ⟨hc_306, hs_152⟩
     ·refine k_true f rfl hc_306 ?_
      refine k_seq (k_region ?_)
      refine l_as f rfl rfl fun a f => ?_
      refine l_nil ?_
      refine k_ret ?_
      obtain rfl := sj hs_152
      obtain rfl := hq_153 _ rfl
      obtain rfl := sj hd
      exact ⟨[(.bool false)], ⟨f.get _ _ rfl, trivial⟩, f.defers, _, [], (GLe.trans hl_158 hl_305), m, rfl, rfl⟩
     ·refine k_false f rfl hc_306 ?_
      refine k_skip ?_
      refine k_region ?_
      refine l_mv f rfl rfl fun a f => ?_
      refine l_in f rfl rfl rfl b_add fun a f => ?_
      refine l_as f rfl rfl fun a f => ?_
      refine l_nil ?_
      obtain rfl := sj hs_152
      exact ⟨_, rfl, _, rfl, _, (GLe.trans hl_158 hl_305), f.weak ⟨rfl, rfl, rfl, trivial⟩, m⟩
    ·intro K_273
     rcases cond_some hj_275 with ⟨hc_244, hj_275⟩ | ⟨hc_244, hj_275⟩
     ·refine q_ng 9 24 rfl (by kernel_rfl) f rfl rfl hc_244 rfl fun a f => ?_
      refine q_ng 10 24 rfl (by kernel_rfl) f rfl rfl hc_244 rfl fun a f => ?_
      refine q_ng 11 24 rfl (by kernel_rfl) f rfl rfl hc_244 rfl fun a f => ?_
      refine q_nu 12 24 rfl (by kernel_rfl) f rfl rfl rfl fun a f => ?_
      refine q_nu 13 24 rfl (by kernel_rfl) f rfl rfl rfl fun a f => ?_
      refine q_nu 14 24 rfl (by kernel_rfl) f rfl rfl rfl fun a f => ?_
      refine q_nu 15 24 rfl (by kernel_rfl) f rfl rfl rfl fun a f => ?_
      refine q_nu 16 24 rfl (by kernel_rfl) f rfl rfl rfl fun a f => ?_
      refine q_nu 17 24 rfl (by kernel_rfl) f rfl rfl rfl fun a f => ?_
      refine q_nu 18 24 rfl (by kernel_rfl) f rfl rfl rfl fun a f => ?_
      refine q_nu 19 24 rfl (by kernel_rfl) f rfl rfl rfl fun a f => ?_
      refine q_nu 20 24 rfl (by kernel_rfl) f rfl rfl rfl fun a f => ?_
      refine q_nu 21 24 rfl (by kernel_rfl) f rfl rfl rfl fun a f => ?_
      refine q_ng 22 24 rfl (by kernel_rfl) f rfl rfl hc_244 rfl fun a f => ?_
      refine q_p 23 24 rfl (by kernel_rfl) f rfl rfl rfl (fun _ => r_pickT (f.eval rfl) hc_244 (f.eval rfl)) fun a f => ?_
      obtain rfl := sj hj_275
      exact K_273 _ (f.weak ⟨rfl, rfl, rfl, rfl, rfl, rfl, rfl, rfl, rfl, rfl, rfl, rfl, rfl, rfl, trivial⟩)
     ·refine q_mv 9 24 rfl (by kernel_rfl) f (wanted_of f rfl rfl rfl hc_244) rfl rfl fun a f => ?_
      refine q_p 10 24 rfl (by kernel_rfl) f (wanted_of f rfl rfl rfl hc_244) rfl rfl (fun _ => r_int (f.eval rfl) (f.eval rfl) b_gtr) fun a f => ?_
      refine q_mv 11 24 rfl (by kernel_rfl) f (wanted_of f rfl rfl rfl hc_244) rfl rfl fun a f => ?_
      obtain ⟨b_290, hj_291, hj_275⟩ := bind_some hj_275
      refine q_cut (fuel' := 1) (listed' := #[true, true, true, true, true, true, true, true, true, true, true, true, true, true, true, true, true, true, true, true, true, true, true, false]) (fun a => Fr a 40 [(0, v0), (1, (.int .i64 x1)), (5, (.int .i64 x_157)), (13, (.bool (decide (x_157 < (x0.length : Int))))), (16, v0), (17, (.int .i64 x_157)), (18, p_237), (19, (.int .i64 e_235)), (20, (.int .i64 x1)), (21, (.int .i64 (IntKind.i64.wrap (x1 - 1)))), (22, (.bool y_241)), (23, (.bool (!y_241))), (24, (.bool (!y_241))), (25, (.int .i64 x_157)), (26, (.bool (decide ((0 : Int) < x_157)))), (27, (.bool (decide ((0 : Int) < x_157)))), (38, (.bool b_290))]) ?_ ?_
      ·intro a f
       refine q_p 23 24 rfl (by kernel_rfl) f rfl rfl rfl (fun _ => r_pickF (f.eval rfl) hc_244 (f.eval rfl)) fun a f => ?_
       obtain rfl := sj hj_275
       exact K_273 _ (f.weak ⟨rfl, rfl, rfl, rfl, rfl, rfl, rfl, rfl, rfl, rfl, rfl, rfl, rfl, rfl, trivial⟩)
      ·intro K_289
       rcases cond_some hj_291 with ⟨hc_276, hj_291⟩ | ⟨hc_276, hj_291⟩
       ·refine q_mv 12 24 rfl (by kernel_rfl) f (wanted_of f rfl rfl rfl hc_276) rfl rfl fun a f => ?_
        refine q_mv 13 24 rfl (by kernel_rfl) f (wanted_of f rfl rfl rfl hc_276) rfl rfl fun a f => ?_
        obtain ⟨e_292, he_293, hj_291⟩ := bind_some hj_291
        refine q_at (i := 14) 24 T36 h0 he_293 rfl (by kernel_rfl) rfl f (wanted_of f rfl rfl rfl hc_276) rfl rfl rfl fun p_294 c_295 a g_296 h_297 f => ?_
        subst h_297
        refine q_loadAt (i := 15) 24 Pl2 g_296 rfl (by kernel_rfl) rfl f (wanted_of f rfl rfl rfl hc_276) rfl rfl fun a f => ?_
        refine q_mv 16 24 rfl (by kernel_rfl) f (wanted_of f rfl rfl rfl hc_276) rfl rfl fun a f => ?_
        refine q_mv 17 24 rfl (by kernel_rfl) f (wanted_of f rfl rfl rfl hc_276) rfl rfl fun a f => ?_
        refine q_p 18 24 rfl (by kernel_rfl) f (wanted_of f rfl rfl rfl hc_276) rfl rfl (fun _ => r_int (f.eval rfl) (f.eval rfl) b_sub) fun a f => ?_
        obtain ⟨e_298, he_299, hj_291⟩ := bind_some hj_291
        refine q_at (i := 19) 24 T36 h0 he_299 rfl (by kernel_rfl) rfl f (wanted_of f rfl rfl rfl hc_276) rfl rfl rfl fun p_300 c_301 a g_302 h_303 f => ?_
        subst h_303
        refine q_loadAt (i := 20) 24 Pl2 g_302 rfl (by kernel_rfl) rfl f (wanted_of f rfl rfl rfl hc_276) rfl rfl fun a f => ?_
        refine q_p 21 24 rfl (by kernel_rfl) f (wanted_of f rfl rfl rfl hc_276) rfl rfl (fun _ => r_int (f.eval rfl) (f.eval rfl) b_leq) fun a f => ?_
        refine q_p 22 24 rfl (by kernel_rfl) f (wanted_of f rfl rfl rfl hc_244) rfl rfl (fun _ => r_pickT (f.eval rfl) hc_276 (f.eval rfl)) fun a f => ?_
        obtain rfl := sj hj_291
        exact K_289 _ (f.weak ⟨rfl, rfl, rfl, rfl, rfl, rfl, rfl, rfl, rfl, rfl, rfl, rfl, rfl, rfl, rfl, rfl, rfl, trivial⟩)
       ·refine q_ng 12 24 rfl (by kernel_rfl) f rfl rfl hc_276 rfl fun a f => ?_
        refine q_ng 13 24 rfl (by kernel_rfl) f rfl rfl hc_276 rfl fun a f => ?_
        refine q_ng 14 24 rfl (by kernel_rfl) f rfl rfl hc_276 rfl fun a f => ?_
        refine q_ng 15 24 rfl (by kernel_rfl) f rfl rfl hc_276 rfl fun a f => ?_
        refine q_ng 16 24 rfl (by kernel_rfl) f rfl rfl hc_276 rfl fun a f => ?_
        refine q_ng 17 24 rfl (by kernel_rfl) f rfl rfl hc_276 rfl fun a f => ?_
        refine q_ng 18 24 rfl (by kernel_rfl) f rfl rfl hc_276 rfl fun a f => ?_
        refine q_ng 19 24 rfl (by kernel_rfl) f rfl rfl hc_276 rfl fun a f => ?_
        refine q_ng 20 24 rfl (by kernel_rfl) f rfl rfl hc_276 rfl fun a f => ?_
        refine q_ng 21 24 rfl (by kernel_rfl) f rfl rfl hc_276 rfl fun a f => ?_
        refine q_p 22 24 rfl (by kernel_rfl) f (wanted_of f rfl rfl rfl hc_244) rfl rfl (fun _ => r_pickF (f.eval rfl) hc_276 (f.eval rfl)) fun a f => ?_
        obtain rfl := sj hj_291
        exact K_289 _ (f.weak ⟨rfl, rfl, rfl, rfl, rfl, rfl, rfl, rfl, rfl, rfl, rfl, rfl, rfl, rfl, rfl, rfl, rfl, trivial⟩)
   ·refine k_false f rfl hc_234 ?_
    refine k_exit rfl ?_
    obtain rfl := sj hs_152
    obtain rfl := hq_153 _ rfl
    exact ⟨_, rfl, _, hl_158, f.weak trivial, m⟩
  ·rintro a w ⟨_, rfl, G_232, hl_233, f, m⟩
   refine k_seq (k_region ?_)
   refine l_as f rfl rfl fun a f => ?_
   refine l_nil ?_
   refine k_ret ?_
   obtain rfl := sj hd
   exact ⟨[(.bool true)], ⟨f.get _ _ rfl, trivial⟩, f.defers, _, [], hl_233, m, rfl, rfl⟩

theorem Wk.spec_l1Has {W w : World} {G : GH} {H : List Itm} {v0 : Value} {x0 : (List Int)} {x1 : Int} (m : Mem W G w (H)) (h0 : RSl (RI .i64) G v0 x0) {y : Bool} (hd : D.spec_l1Has x0 x1 = some y) :
  Calls Tryd.prog 64 #[v0, (.int .i64 x1)] w (Res W G H (fun _ Ho v => Ho = [] ∧ v = (.bool y))) := by
 refine calls_b (args := [v0, (.int .i64 x1)]) (N := 18) [.tmp 4] Tryd.func64 rfl rfl (Nat.le_of_ble_eq_true rfl) rfl fun a f => ?_
 unfold D.spec_l1Has at hd
 refine k_seq (k_region ?_)
 refine l_as f rfl rfl fun a f => ?_
 refine l_nil (k_seq (k_seq (k_region ?_)))
 refine l_as f rfl rfl fun a f => ?_
 refine l_nil ?_
 obtain ⟨q_19, hl_20, hd⟩ := bind_some hd
 refine k_cut (fun a w => ∃ q_19' : Unit, q_19 = .inl q_19' ∧ ∃ (G_36 : GH), GLe G G_36 ∧ Fr a 18 [] ∧ Mem W G_36 w (H)) ?_ ?_
 ·refine k_block ?_
  refine k_loop (fun s_23 a w => ∃ x_26 : Int, x_26 = s_23 ∧ ∃ (G_25 : GH), GLe G G_25 ∧ Fr a 18 [(0, v0), (1, (.int .i64 x1)), (5, (.int .i64 x_26))] ∧ Mem W G_25 w (H)) hl_20 ⟨_, rfl, _, (GLe.refl _), f.weak ⟨rfl, rfl, rfl, trivial⟩, m⟩ ?_
  clear hl_20 f m
  rintro s_23 o_24 hs_21 hq_22 a w ⟨x_26, rfl, G_25, hl_27, f, m⟩
  have h0 := RSl.mono (RI.mono _) _ _ _ _ hl_27 h0
  refine k_seq (k_seq (k_region ?_))
  refine l_mv f rfl rfl fun a f => ?_
  refine l_mv f rfl rfl fun a f => ?_
  refine l_len Tryd.underlying36 f rfl rfl h0 fun a f => ?_
  refine l_in f rfl rfl rfl b_lss fun a f => ?_
  refine l_nil ?_
  rcases cond_some hs_21 with ⟨hc_38, hs_21⟩ | ⟨hc_38, hs_21⟩
  ·refine k_true f rfl hc_38 ?_
   refine k_skip ?_
   refine k_seq (k_block (k_seq (k_region ?_)))
   refine l_mv f rfl rfl fun a f => ?_
   refine l_mv f rfl rfl fun a f => ?_
   obtain ⟨e_39, he_40, hs_21⟩ := bind_some hs_21
   refine l_at T36 f rfl rfl rfl h0 he_40 fun p_41 c_42 a g_43 h_44 f => ?_
   subst h_44
   refine l_loadAt m Pl2 f rfl rfl g_43 fun a f => ?_
   refine l_mv f rfl rfl fun a f => ?_
   refine l_in f rfl rfl rfl b_eql fun a f => ?_
   refine l_nil ?_
   rcases cond_some hs_21 with ⟨hc_45, hs_21⟩ | ⟨hc_45, hs_21⟩
   ·refine k_true f rfl hc_45 ?_
    refine k_seq (k_region ?_)
    refine l_as f rfl rfl fun a f => ?_
    refine l_nil ?_
    refine k_ret ?_
    obtain rfl := sj hs_21
    obtain rfl := hq_22 _ rfl
    obtain rfl := sj hd
    exact ⟨[(.bool true)], ⟨f.get _ _ rfl, trivial⟩, f.defers, _, [], hl_27, m, rfl, rfl⟩
   ·refine k_false f rfl hc_45 ?_
    refine k_skip ?_
    refine k_region ?_
    refine l_mv f rfl rfl fun a f => ?_
    refine l_in f rfl rfl rfl b_add fun a f => ?_
    refine l_as f rfl rfl fun a f => ?_
    refine l_nil ?_
    obtain rfl := sj hs_21
    exact ⟨_, rfl, _, rfl, _, hl_27, f.weak ⟨rfl, rfl, rfl, trivial⟩, m⟩
  ·refine k_false f rfl hc_38 ?_
   refine k_exit rfl ?_
   obtain rfl := sj hs_21
   obtain rfl := hq_22 _ rfl
   exact ⟨_, rfl, _, hl_27, f.weak trivial, m⟩
 ·rintro a w ⟨_, rfl, G_36, hl_37, f, m⟩
  refine k_seq (k_region ?_)
  refine l_as f rfl rfl fun a f => ?_
  refine l_nil ?_
  refine k_ret ?_
  obtain rfl := sj hd
  exact ⟨[(.bool false)], ⟨f.get _ _ rfl, trivial⟩, f.defers, _, [], hl_37, m, rfl, rfl⟩

theorem Wk.spec_GraphOk {W w : World} {G : GH} {H : List Itm} {v0_0 : Value} {x0_0 : (List (List Int))} (m : Mem W G w (H)) (h0_0 : RSl (RSl (RI .i64)) G v0_0 x0_0) {y : Bool} (hd : D.spec_GraphOk x0_0 = some y) :
  Calls Tryd.prog 23 #[(.agg #[v0_0])] w (Res W G H (fun _ Ho v => Ho = [] ∧ v = (.bool y))) := by
 refine calls_b (args := [(.agg #[v0_0])]) (N := 64) [.tmp 2] Tryd.func23 rfl rfl (Nat.le_of_ble_eq_true rfl) rfl fun a f => ?_
 unfold D.spec_GraphOk at hd
 refine k_seq (k_region ?_)
 refine l_box (cs := [v0_0]) m f rfl rfl rfl fun b_2 w a m f => ?_
 refine l_as f rfl rfl fun a f => ?_
 refine l_nil (k_seq (k_region ?_))
 refine l_boxAgg 0 0 (ds := [v0_0]) m Ag27 f rfl rfl rfl rfl rfl fun a f => ?_
 obtain ⟨y_3, hy_4, hd⟩ := bind_some hd
 refine l_res f rfl rfl Tryd.call62 (Wk.spec_l1Size m h0_0 hy_4) fun v_8 G_5 Ho_9 w hl_6 m hQ_7 a f => ?_
 obtain ⟨rfl, rfl⟩ := hQ_7
 have h0_0 := RSl.mono (RSl.mono (RI.mono _)) _ _ _ _ hl_6 h0_0
 refine l_as f rfl rfl fun a f => ?_
 refine l_nil (k_seq (k_seq (k_region ?_)))
 refine l_mv f rfl rfl fun a f => ?_
 obtain ⟨y_10, hy_11, hd⟩ := bind_some hd
 refine l_res f rfl rfl Tryd.call63 (Wk.spec_l1In m  hy_11) fun v_15 G_12 Ho_16 w hl_13 m hQ_14 a f => ?_
 obtain ⟨rfl, rfl⟩ := hQ_14
 have h0_0 := RSl.mono (RSl.mono (RI.mono _)) _ _ _ _ hl_13 h0_0
 refine l_op f rfl rfl rfl (r_not (f.eval rfl)) fun a f => ?_
 refine l_nil ?_
 rcases cond_some hd with ⟨hc_17, hd⟩ | ⟨hc_17, hd⟩
 ·refine k_true f rfl hc_17 ?_
  refine k_seq (k_region ?_)
  refine l_as f rfl rfl fun a f => ?_
  refine l_nil ?_
  refine k_ret ?_
  have m : Mem W G_12 w H := Mem.drop (H' := [Itm.box b_2 27 [v0_0]]) m
  obtain rfl := sj hd
  exact ⟨[(.bool false)], ⟨f.get _ _ rfl, trivial⟩, f.defers, _, [], (GLe.trans hl_6 hl_13), m, rfl, rfl⟩
 ·refine k_false f rfl hc_17 ?_
  refine k_skip ?_
  refine k_seq (k_seq (k_region ?_))
  refine l_as f rfl rfl fun a f => ?_
  refine l_nil ?_
  obtain ⟨q_138, hl_139, hd⟩ := bind_some hd
  refine k_cut (fun a w => ∃ q_138' : Unit, q_138 = .inl q_138' ∧ ∃ (G_206 : GH), GLe G_12 G_206 ∧ Fr a 64 [(1, (.pointer (some ⟨b_2, 0, none⟩))), (3, (.int .i64 y_3))] ∧ Mem W G_206 w (Itm.box b_2 27 [v0_0] :: H)) ?_ ?_
  ·refine k_block ?_
   refine k_loop (fun s_142 a w => ∃ x_145 : Int, x_145 = s_142 ∧ ∃ (G_144 : GH), GLe G_12 G_144 ∧ Fr a 64 [(1, (.pointer (some ⟨b_2, 0, none⟩))), (3, (.int .i64 y_3)), (4, (.int .i64 x_145))] ∧ Mem W G_144 w (Itm.box b_2 27 [v0_0] :: H)) hl_139 ⟨_, rfl, _, (GLe.refl _), f.weak ⟨rfl, rfl, rfl, trivial⟩, m⟩ ?_
   clear hl_139 f m
   rintro s_142 o_143 hs_140 hq_141 a w ⟨x_145, rfl, G_144, hl_146, f, m⟩
   have h0_0 := RSl.mono (RSl.mono (RI.mono _)) _ _ _ _ hl_146 h0_0
   refine k_seq (k_seq (k_region ?_))
   refine l_mv f rfl rfl fun a f => ?_
   refine l_mv f rfl rfl fun a f => ?_
   refine l_in f rfl rfl rfl b_lss fun a f => ?_
   refine l_nil ?_
   rcases cond_some hs_140 with ⟨hc_208, hs_140⟩ | ⟨hc_208, hs_140⟩
   ·refine k_true f rfl hc_208 ?_
    refine k_skip ?_
    refine k_seq (k_block (k_seq (k_region ?_)))
    refine l_fieldAddr Tryd.underlying27 rfl Tryd.sizeOf22 (by decide) f rfl rfl fun a f => ?_
    refine l_boxCell 0 0 m Pl22 f rfl rfl rfl rfl fun a f => ?_
    refine l_mv f rfl rfl fun a f => ?_
    obtain ⟨e_209, he_210, hs_140⟩ := bind_some hs_140
    refine l_at T22 f rfl rfl rfl h0_0 he_210 fun p_211 c_212 a g_213 h_214 f => ?_
    refine l_loadAt m Pl36 f rfl rfl g_213 fun a f => ?_
    refine l_mv f rfl rfl fun a f => ?_
    obtain ⟨y_215, hy_216, hs_140⟩ := bind_some hs_140
    refine l_res f rfl rfl Tryd.call61 (Wk.spec_l1Set m h_214 hy_216) fun v_220 G_217 Ho_221 w hl_218 m hQ_219 a f => ?_
    obtain ⟨rfl, rfl⟩ := hQ_219
    have h0_0 := RSl.mono (RSl.mono (RI.mono _)) _ _ _ _ hl_218 h0_0
    have g_213 := At.mono hl_218 g_213
    have h_214 := RSl.mono (RI.mono _) _ _ _ _ hl_218 h_214
    refine l_op f rfl rfl rfl (r_not (f.eval rfl)) fun a f => ?_
    refine l_mv f rfl rfl fun a f => ?_
    obtain ⟨b_251, hj_252, hs_140⟩ := bind_some hs_140
    refine l_cut 8 (fun a w => ∃ G_249, GLe G_217 G_249 ∧ Mem W G_249 w (Itm.box b_2 27 [v0_0] :: H) ∧ Fr a 64 [(1, (.pointer (some ⟨b_2, 0, none⟩))), (3, (.int .i64 y_3)), (4, (.int .i64 x_145)), (14, (.bool (decide (x_145 < y_3)))), (17, (.pointer (some ⟨b_2, 0, none⟩))), (18, v0_0), (19, (.int .i64 x_145)), (20, p_211), (21, c_212), (22, (.int .i64 y_3)), (23, (.bool y_215)), (24, (.bool (!y_215))), (25, (.bool (!y_215))), (33, (.bool b_251))]) ?_ ?_
    ·rcases cond_some hj_252 with ⟨hc_222, hj_252⟩ | ⟨hc_222, hj_252⟩
     ·refine l_not' f rfl rfl rfl hc_222 fun a f => ?_
      refine l_not' f rfl rfl rfl hc_222 fun a f => ?_
      refine l_not' f rfl rfl rfl hc_222 fun a f => ?_
      refine l_not' f rfl rfl rfl hc_222 fun a f => ?_
      refine l_not' f rfl rfl rfl hc_222 fun a f => ?_
      refine l_not' f rfl rfl rfl hc_222 fun a f => ?_
      refine l_not' f rfl rfl rfl hc_222 fun a f => ?_
      refine l_op f rfl rfl rfl (r_pickT (f.eval rfl) hc_222 (f.eval rfl)) fun a f => ?_
      obtain rfl := sj hj_252
      exact ⟨_, (GLe.refl _), m, f.weak ⟨rfl, rfl, rfl, rfl, rfl, rfl, rfl, rfl, rfl, rfl, rfl, rfl, rfl, rfl, trivial⟩⟩
     ·refine l_run f rfl rfl hc_222 ?_
      refine l_fieldAddr Tryd.underlying27 rfl Tryd.sizeOf22 (by decide) f rfl rfl fun a f => ?_
      refine l_run f rfl rfl hc_222 ?_
      refine l_boxCell 0 0 m Pl22 f rfl rfl rfl rfl fun a f => ?_
      refine l_run f rfl rfl hc_222 ?_
      refine l_mv f rfl rfl fun a f => ?_
      refine l_run f rfl rfl hc_222 ?_
      obtain ⟨e_253, he_254, hj_252⟩ := bind_some hj_252
      refine l_at T22 f rfl rfl rfl h0_0 he_254 fun p_255 c_256 a g_257 h_258 f => ?_
      refine l_run f rfl rfl hc_222 ?_
      refine l_loadAt m Pl36 f rfl rfl g_257 fun a f => ?_
      refine l_run f rfl rfl hc_222 ?_
      refine l_mv f rfl rfl fun a f => ?_
      refine l_run f rfl rfl hc_222 ?_
      obtain ⟨y_259, hy_260, hj_252⟩ := bind_some hj_252
      refine l_res f rfl rfl Tryd.call64 (Wk.spec_l1Has m h_258 hy_260) fun v_264 G_261 Ho_265 w hl_262 m hQ_263 a f => ?_
      obtain ⟨rfl, rfl⟩ := hQ_263
      have h0_0 := RSl.mono (RSl.mono (RI.mono _)) _ _ _ _ hl_262 h0_0
      have g_213 := At.mono hl_262 g_213
      have h_214 := RSl.mono (RI.mono _) _ _ _ _ hl_262 h_214
      have g_257 := At.mono hl_262 g_257
      have h_258 := RSl.mono (RI.mono _) _ _ _ _ hl_262 h_258
      refine l_op f rfl rfl rfl (r_pickF (f.eval rfl) hc_222 (f.eval rfl)) fun a f => ?_
      obtain rfl := sj hj_252
      exact ⟨_, hl_262, m, f.weak ⟨rfl, rfl, rfl, rfl, rfl, rfl, rfl, rfl, rfl, rfl, rfl, rfl, rfl, rfl, trivial⟩⟩
    ·rintro a w ⟨G_249, hl_250, m, f⟩
     have h0_0 := RSl.mono (RSl.mono (RI.mono _)) _ _ _ _ hl_250 h0_0
     have g_213 := At.mono hl_250 g_213
     have h_214 := RSl.mono (RI.mono _) _ _ _ _ hl_250 h_214
     refine l_nil ?_
     rcases cond_some hs_140 with ⟨hc_266, hs_140⟩ | ⟨hc_266, hs_140⟩
     ·refine k_true f rfl hc_266 ?_
      refine k_seq (k_region ?_)
      refine l_as f rfl rfl fun a f => ?_
      refine l_nil ?_
      refine k_ret ?_
      have m : Mem W G_249 w H := Mem.drop (H' := [Itm.box b_2 27 [v0_0]]) m
      obtain rfl := sj hs_140
      obtain rfl := hq_141 _ rfl
      obtain rfl := sj hd
      exact ⟨[(.bool false)], ⟨f.get _ _ rfl, trivial⟩, f.defers, _, [], (GLe.trans hl_6 (GLe.trans hl_13 (GLe.trans hl_146 (GLe.trans hl_218 hl_250)))), m, rfl, rfl⟩
     ·refine k_false f rfl hc_266 ?_
      refine k_skip ?_
      refine k_region ?_
      refine l_mv f rfl rfl fun a f => ?_
      refine l_in f rfl rfl rfl b_add fun a f => ?_
      refine l_as f rfl rfl fun a f => ?_
      refine l_nil ?_
      obtain rfl := sj hs_140
      exact ⟨_, rfl, _, rfl, _, (GLe.trans hl_146 (GLe.trans hl_218 hl_250)), f.weak ⟨rfl, rfl, rfl, trivial⟩, m⟩
   ·refine k_false f rfl hc_208 ?_
    refine k_exit rfl ?_
    obtain rfl := sj hs_140
    obtain rfl := hq_141 _ rfl
    exact ⟨_, rfl, _, hl_146, f.weak ⟨rfl, rfl, trivial⟩, m⟩
  ·rintro a w ⟨_, rfl, G_206, hl_207, f, m⟩
   have h0_0 := RSl.mono (RSl.mono (RI.mono _)) _ _ _ _ hl_207 h0_0
   refine k_seq (k_seq (k_region ?_))
   refine l_as f rfl rfl fun a f => ?_
   refine l_nil ?_
   obtain ⟨q_545, hl_546, hd⟩ := bind_some hd
   refine k_cut (fun a w => ∃ q_545' : Unit, q_545 = .inl q_545' ∧ ∃ (G_692 : GH), GLe G_206 G_692 ∧ Fr a 64 [] ∧ Mem W G_692 w (H)) ?_ ?_
   ·refine k_block ?_
    refine k_loop (fun s_549 a w => ∃ x_552 : Int, x_552 = s_549 ∧ ∃ (G_551 : GH), GLe G_206 G_551 ∧ Fr a 64 [(1, (.pointer (some ⟨b_2, 0, none⟩))), (3, (.int .i64 y_3)), (5, (.int .i64 x_552))] ∧ Mem W G_551 w (Itm.box b_2 27 [v0_0] :: H)) hl_546 ⟨_, rfl, _, (GLe.refl _), f.weak ⟨rfl, rfl, rfl, trivial⟩, m⟩ ?_
    clear hl_546 f m
    rintro s_549 o_550 hs_547 hq_548 a w ⟨x_552, rfl, G_551, hl_553, f, m⟩
    have h0_0 := RSl.mono (RSl.mono (RI.mono _)) _ _ _ _ hl_553 h0_0
    refine k_seq (k_seq (k_region ?_))
    refine l_mv f rfl rfl fun a f => ?_
    refine l_mv f rfl rfl fun a f => ?_
    refine l_in f rfl rfl rfl b_lss fun a f => ?_
    refine l_nil ?_
    rcases cond_some hs_547 with ⟨hc_694, hs_547⟩ | ⟨hc_694, hs_547⟩
    ·refine k_true f rfl hc_694 ?_
     refine k_skip ?_
     refine k_seq (k_block (k_seq (k_region ?_)))
     refine l_as f rfl rfl fun a f => ?_
     refine l_nil ?_
     obtain ⟨q_759, hl_760, hs_547⟩ := bind_some hs_547
     refine k_cut (fun a w => ∃ q_759' : Unit, q_759 = .inl q_759' ∧ ∃ (G_799 : GH), GLe G_551 G_799 ∧ Fr a 64 [(1, (.pointer (some ⟨b_2, 0, none⟩))), (3, (.int .i64 y_3)), (5, (.int .i64 x_552))] ∧ Mem W G_799 w (Itm.box b_2 27 [v0_0] :: H)) ?_ ?_
     ·refine k_block ?_
      refine k_loop (fun s_763 a w => ∃ x_766 : Int, x_766 = s_763 ∧ ∃ (G_765 : GH), GLe G_551 G_765 ∧ Fr a 64 [(1, (.pointer (some ⟨b_2, 0, none⟩))), (3, (.int .i64 y_3)), (5, (.int .i64 x_552)), (6, (.int .i64 x_766))] ∧ Mem W G_765 w (Itm.box b_2 27 [v0_0] :: H)) hl_760 ⟨_, rfl, _, (GLe.refl _), f.weak ⟨rfl, rfl, rfl, rfl, trivial⟩, m⟩ ?_
      clear hl_760 f m
      rintro s_763 o_764 hs_761 hq_762 a w ⟨x_766, rfl, G_765, hl_767, f, m⟩
      have h0_0 := RSl.mono (RSl.mono (RI.mono _)) _ _ _ _ hl_767 h0_0
      refine k_seq (k_seq (k_region ?_))
      refine l_mv f rfl rfl fun a f => ?_
      refine l_fieldAddr Tryd.underlying27 rfl Tryd.sizeOf22 (by decide) f rfl rfl fun a f => ?_
      refine l_boxCell 0 0 m Pl22 f rfl rfl rfl rfl fun a f => ?_
      refine l_mv f rfl rfl fun a f => ?_
      obtain ⟨e_801, he_802, hs_761⟩ := bind_some hs_761
      refine l_at T22 f rfl rfl rfl h0_0 he_802 fun p_803 c_804 a g_805 h_806 f => ?_
      refine l_loadAt m Pl36 f rfl rfl g_805 fun a f => ?_
      refine l_len Tryd.underlying36 f rfl rfl h_806 fun a f => ?_
      refine l_in f rfl rfl rfl b_lss fun a f => ?_
      refine l_nil ?_
      rcases cond_some hs_761 with ⟨hc_807, hs_761⟩ | ⟨hc_807, hs_761⟩
      ·refine k_true f rfl hc_807 ?_
       refine k_skip ?_
       refine k_seq (k_block (k_seq ?_))
       refine k_draw 15 Follows (by kernel_rfl) m ?_
       refine q_fieldAddr (i := 0) 15 Tryd.underlying27 rfl Tryd.sizeOf22 (by decide) rfl (by kernel_rfl) rfl f rfl rfl rfl fun a f => ?_
       refine q_boxCell (i := 1) 15 0 Pl22 rfl rfl rfl (by kernel_rfl) rfl f rfl rfl rfl fun a f => ?_
       refine q_fieldAddr (i := 2) 15 Tryd.underlying27 rfl Tryd.sizeOf22 (by decide) rfl (by kernel_rfl) rfl f rfl rfl rfl fun a f => ?_
       refine q_boxCell (i := 3) 15 0 Pl22 rfl rfl rfl (by kernel_rfl) rfl f rfl rfl rfl fun a f => ?_
       refine q_mv 4 15 rfl (by kernel_rfl) f rfl rfl rfl fun a f => ?_
       obtain ⟨e_808, he_809, hs_761⟩ := bind_some hs_761
       refine q_at (i := 5) 15 T22 h0_0 he_809 rfl (by kernel_rfl) rfl f rfl rfl rfl rfl fun p_810 c_811 a g_812 h_813 f => ?_
       refine q_loadAt (i := 6) 15 Pl36 g_812 rfl (by kernel_rfl) rfl f rfl rfl rfl fun a f => ?_
       refine q_mv 7 15 rfl (by kernel_rfl) f rfl rfl rfl fun a f => ?_
       obtain ⟨e_814, he_815, hs_761⟩ := bind_some hs_761
       refine q_at (i := 8) 15 T36 h_813 he_815 rfl (by kernel_rfl) rfl f rfl rfl rfl rfl fun p_816 c_817 a g_818 h_819 f => ?_
       subst h_819
       refine q_loadAt (i := 9) 15 Pl2 g_818 rfl (by kernel_rfl) rfl f rfl rfl rfl fun a f => ?_
       obtain ⟨e_820, he_821, hs_761⟩ := bind_some hs_761
       refine q_at (i := 10) 15 T22 h0_0 he_821 rfl (by kernel_rfl) rfl f rfl rfl rfl rfl fun p_822 c_823 a g_824 h_825 f => ?_
       refine q_loadAt (i := 11) 15 Pl36 g_824 rfl (by kernel_rfl) rfl f rfl rfl rfl fun a f => ?_
       refine q_mv 12 15 rfl (by kernel_rfl) f rfl rfl rfl fun a f => ?_
       obtain ⟨y_826, hy_827, hs_761⟩ := bind_some hs_761
       refine q_call (i := 13) 15 rfl (by kernel_rfl) rfl f rfl rfl rfl Tryd.call64 (fun _ _ w hG_828 m => Wk.spec_l1Has m (RSl.mono (RI.mono _) _ _ _ _ hG_828 h_825) hy_827) fun a f => ?_
       refine q_p 14 15 rfl (by kernel_rfl) f rfl rfl rfl (fun _ => r_not (f.eval rfl)) fun a f => ?_
       refine q_end fun G_829 w hl_830 m => ?_
       have h0_0 := RSl.mono (RSl.mono (RI.mono _)) _ _ _ _ hl_830 h0_0
       have g_812 := At.mono hl_830 g_812
       have h_813 := RSl.mono (RI.mono _) _ _ _ _ hl_830 h_813
       have g_818 := At.mono hl_830 g_818
       have g_824 := At.mono hl_830 g_824
       have h_825 := RSl.mono (RI.mono _) _ _ _ _ hl_830 h_825
       refine l_nil ?_
       rcases cond_some hs_761 with ⟨hc_831, hs_761⟩ | ⟨hc_831, hs_761⟩
       ·refine k_true f rfl hc_831 ?_
        refine k_seq (k_region ?_)
        refine l_as f rfl rfl fun a f => ?_
        refine l_nil ?_
        refine k_ret ?_
        have m : Mem W G_829 w H := Mem.drop (H' := [Itm.box b_2 27 [v0_0]]) m
        obtain rfl := sj hs_761
        obtain rfl := hq_762 _ rfl
        obtain rfl := sj hs_547
        obtain rfl := hq_548 _ rfl
        obtain rfl := sj hd
        exact ⟨[(.bool false)], ⟨f.get _ _ rfl, trivial⟩, f.defers, _, [], (GLe.trans hl_6 (GLe.trans hl_13 (GLe.trans hl_207 (GLe.trans hl_553 (GLe.trans hl_767 hl_830))))), m, rfl, rfl⟩
       ·refine k_false f rfl hc_831 ?_
        refine k_skip ?_
        refine k_region ?_
        refine l_mv f rfl rfl fun a f => ?_
        refine l_in f rfl rfl rfl b_add fun a f => ?_
        refine l_as f rfl rfl fun a f => ?_
        refine l_nil ?_
        obtain rfl := sj hs_761
        exact ⟨_, rfl, _, rfl, _, (GLe.trans hl_767 hl_830), f.weak ⟨rfl, rfl, rfl, rfl, trivial⟩, m⟩
      ·refine k_false f rfl hc_807 ?_
       refine k_exit rfl ?_
       obtain rfl := sj hs_761
       obtain rfl := hq_762 _ rfl
       exact ⟨_, rfl, _, hl_767, f.weak ⟨rfl, rfl, rfl, trivial⟩, m⟩
     ·rintro a w ⟨_, rfl, G_799, hl_800, f, m⟩
      have h0_0 := RSl.mono (RSl.mono (RI.mono _)) _ _ _ _ hl_800 h0_0
      refine k_region ?_
      refine l_mv f rfl rfl fun a f => ?_
      refine l_in f rfl rfl rfl b_add fun a f => ?_
      refine l_as f rfl rfl fun a f => ?_
      refine l_nil ?_
      obtain rfl := sj hs_547
      exact ⟨_, rfl, _, rfl, _, (GLe.trans hl_553 hl_800), f.weak ⟨rfl, rfl, rfl, trivial⟩, m⟩
    ·refine k_false f rfl hc_694 ?_
     refine k_exit rfl ?_
     have m : Mem W G_551 w H := Mem.drop (H' := [Itm.box b_2 27 [v0_0]]) m
     obtain rfl := sj hs_547
     obtain rfl := hq_548 _ rfl
     exact ⟨_, rfl, _, hl_553, f.weak trivial, m⟩
   ·rintro a w ⟨_, rfl, G_692, hl_693, f, m⟩
    refine k_seq (k_region ?_)
    refine l_as f rfl rfl fun a f => ?_
    refine l_nil ?_
    refine k_ret ?_
    obtain rfl := sj hd
    exact ⟨[(.bool true)], ⟨f.get _ _ rfl, trivial⟩, f.defers, _, [], (GLe.trans hl_6 (GLe.trans hl_13 (GLe.trans hl_207 hl_693))), m, rfl, rfl⟩

theorem Wk.spec_l25Bits {W w : World} {G : GH} {H : List Itm} {v0_0 : Value} {x0_0 : (List (List Int))} (m : Mem W G w (H)) (h0_0 : RSl (RSl (RI .i64)) G v0_0 x0_0) {y : ((List Int))} (hd : D.spec_l25Bits x0_0 = some y) :
  Calls Tryd.prog 34 #[(.agg #[v0_0])] w (Res W G H (fun G' Ho v => ∃ r0 : Value, ∃ i0 : Itm, Ho = [i0] ∧ r0 = v ∧ Ow (RI .i64) 2 G' i0 r0 y)) := by
 refine calls_b (args := [(.agg #[v0_0])]) (N := 42) [.tmp 2] Tryd.func34 rfl rfl (Nat.le_of_ble_eq_true rfl) rfl fun a f => ?_
 unfold D.spec_l25Bits at hd
 refine k_seq (k_region ?_)
 refine l_box (cs := [v0_0]) m f rfl rfl rfl fun b_2 w a m f => ?_
 refine l_as f rfl rfl fun a f => ?_
 refine l_nil (k_seq (k_region ?_))
 refine l_slit (R := (RI .i64)) (xs := ([] : List Int)) (RI.one _) m T36 f rfl rfl rfl (by decide) (All2.nil _) fun it_3 v_4 w a m o_5 f => ?_
 refine l_as f rfl rfl fun a f => ?_
 refine l_nil (k_seq (k_seq (k_region ?_)))
 refine l_as f rfl rfl fun a f => ?_
 refine l_nil ?_
 obtain ⟨q_228, hl_229, hd⟩ := bind_some hd
 refine k_cut (fun a w => ∃ l_350 : List Int, l_350 = q_228 ∧ ∃ (G_349 : GH) (v_351 : Value) (it_352 : Itm), GLe G G_349 ∧ Fr a 42 [(3, v_351)] ∧ Mem W G_349 w (it_352 :: H) ∧ Ow (RI .i64) 2 G_349 it_352 v_351 l_350) ?_ ?_
 ·refine k_block ?_
  have m := m.front 1 rfl
  refine k_loop (fun s_232 a w => ∃ l_235 : List Int, ∃ x_240 : Int, (l_235, x_240) = s_232 ∧ ∃ (G_234 : GH) (v_236 : Value) (it_237 : Itm), GLe G G_234 ∧ Fr a 42 [(1, (.pointer (some ⟨b_2, 0, none⟩))), (3, v_236), (4, (.int .i64 x_240))] ∧ Mem W G_234 w (Itm.box b_2 27 [v0_0] :: it_237 :: H) ∧ Ow (RI .i64) 2 G_234 it_237 v_236 l_235) hl_229 ⟨_, _, rfl, _, v_4, it_3, (GLe.refl _), f.weak ⟨rfl, rfl, rfl, trivial⟩, m, o_5⟩ ?_
  clear hl_229 f m
  rintro s_232 o_233 hs_230 hq_231 a w ⟨l_235, x_240, rfl, G_234, v_236, it_237, hl_241, f, m, o_238⟩
  have h0_0 := RSl.mono (RSl.mono (RI.mono _)) _ _ _ _ hl_241 h0_0
  refine k_seq (k_seq (k_region ?_))
  refine l_mv f rfl rfl fun a f => ?_
  refine l_fieldAddr Tryd.underlying27 rfl Tryd.sizeOf22 (by decide) f rfl rfl fun a f => ?_
  refine l_boxCell 0 0 m Pl22 f rfl rfl rfl rfl fun a f => ?_
  refine l_len Tryd.underlying22 f rfl rfl h0_0 fun a f => ?_
  refine l_in f rfl rfl rfl b_lss fun a f => ?_
  refine l_nil ?_
  rcases cond_some hs_230 with ⟨hc_356, hs_230⟩ | ⟨hc_356, hs_230⟩
  ·refine k_true f rfl hc_356 ?_
   refine k_skip ?_
   refine k_seq (k_block (k_seq (k_region ?_)))
   refine l_as f rfl rfl fun a f => ?_
   refine l_nil (k_seq (k_seq (k_region ?_)))
   refine l_as f rfl rfl fun a f => ?_
   refine l_nil ?_
   obtain ⟨q_400, hl_401, hs_230⟩ := bind_some hs_230
   refine k_cut (fun a w => ∃ x_431 : Int, x_431 = q_400 ∧ ∃ (G_430 : GH), GLe G_234 G_430 ∧ Fr a 42 [(1, (.pointer (some ⟨b_2, 0, none⟩))), (3, v_236), (4, (.int .i64 x_240)), (5, (.int .i64 x_431))] ∧ Mem W G_430 w (Itm.box b_2 27 [v0_0] :: it_237 :: H)) ?_ ?_
   ·refine k_block ?_
    have m := m.front 1 rfl
    have m := m.front 1 rfl
    refine k_loop (fun s_404 a w => ∃ x_407 : Int, ∃ x_408 : Int, (x_407, x_408) = s_404 ∧ ∃ (G_406 : GH), GLe G_234 G_406 ∧ Fr a 42 [(1, (.pointer (some ⟨b_2, 0, none⟩))), (3, v_236), (4, (.int .i64 x_240)), (5, (.int .i64 x_407)), (6, (.int .i64 x_408))] ∧ Mem W G_406 w (Itm.box b_2 27 [v0_0] :: it_237 :: H)) hl_401 ⟨_, _, rfl, _, (GLe.refl _), f.weak ⟨rfl, rfl, rfl, rfl, rfl, trivial⟩, m⟩ ?_
    clear hl_401 f m
    rintro s_404 o_405 hs_402 hq_403 a w ⟨x_407, x_408, rfl, G_406, hl_409, f, m⟩
    have h0_0 := RSl.mono (RSl.mono (RI.mono _)) _ _ _ _ hl_409 h0_0
    have o_238 := Ow.mono (RI.mono _) hl_409 o_238
    refine k_seq (k_seq (k_region ?_))
    refine l_mv f rfl rfl fun a f => ?_
    refine l_fieldAddr Tryd.underlying27 rfl Tryd.sizeOf22 (by decide) f rfl rfl fun a f => ?_
    refine l_boxCell 0 0 m Pl22 f rfl rfl rfl rfl fun a f => ?_
    refine l_mv f rfl rfl fun a f => ?_
    obtain ⟨e_433, he_434, hs_402⟩ := bind_some hs_402
    refine l_at T22 f rfl rfl rfl h0_0 he_434 fun p_435 c_436 a g_437 h_438 f => ?_
    refine l_loadAt m Pl36 f rfl rfl g_437 fun a f => ?_
    refine l_len Tryd.underlying36 f rfl rfl h_438 fun a f => ?_
    refine l_in f rfl rfl rfl b_lss fun a f => ?_
    refine l_nil ?_
    rcases cond_some hs_402 with ⟨hc_439, hs_402⟩ | ⟨hc_439, hs_402⟩
    ·refine k_true f rfl hc_439 ?_
     refine k_skip ?_
     refine k_seq (k_block (k_region ?_))
     refine l_mv f rfl rfl fun a f => ?_
     refine l_fieldAddr Tryd.underlying27 rfl Tryd.sizeOf22 (by decide) f rfl rfl fun a f => ?_
     refine l_boxCell 0 0 m Pl22 f rfl rfl rfl rfl fun a f => ?_
     refine l_mv f rfl rfl fun a f => ?_
     obtain ⟨e_440, he_441, hs_402⟩ := bind_some hs_402
     refine l_at T22 f rfl rfl rfl h0_0 he_441 fun p_442 c_443 a g_444 h_445 f => ?_
     refine l_loadAt m Pl36 f rfl rfl g_444 fun a f => ?_
     refine l_mv f rfl rfl fun a f => ?_
     obtain ⟨e_446, he_447, hs_402⟩ := bind_some hs_402
     refine l_at T36 f rfl rfl rfl h_445 he_447 fun p_448 c_449 a g_450 h_451 f => ?_
     subst h_451
     refine l_loadAt m Pl2 f rfl rfl g_450 fun a f => ?_
     refine l_op f rfl rfl rfl (r_conv (f.eval rfl) ⟨_, Tryd.underlying2⟩ Tryd.underlying48) fun a f => ?_
     obtain ⟨hn_452, hs_402⟩ := cond_none hs_402
     refine l_op f rfl rfl rfl (r_shl (f.eval rfl) (f.eval rfl) hn_452) fun a f => ?_
     refine l_in f rfl rfl rfl b_or fun a f => ?_
     refine l_as f rfl rfl fun a f => ?_
     refine l_nil (k_region ?_)
     refine l_mv f rfl rfl fun a f => ?_
     refine l_in f rfl rfl rfl b_add fun a f => ?_
     refine l_as f rfl rfl fun a f => ?_
     refine l_nil ?_
     have m := m.front 1 rfl
     have m := m.front 1 rfl
     obtain rfl := sj hs_402
     exact ⟨_, rfl, _, _, rfl, _, hl_409, f.weak ⟨rfl, rfl, rfl, rfl, rfl, trivial⟩, m⟩
    ·refine k_false f rfl hc_439 ?_
     refine k_exit rfl ?_
     have m := m.front 1 rfl
     have m := m.front 1 rfl
     obtain rfl := sj hs_402
     obtain rfl := hq_403 _ rfl
     exact ⟨_, rfl, _, hl_409, f.weak ⟨rfl, rfl, rfl, rfl, trivial⟩, m⟩
   ·rintro a w ⟨x_431, rfl, G_430, hl_432, f, m⟩
    have h0_0 := RSl.mono (RSl.mono (RI.mono _)) _ _ _ _ hl_432 h0_0
    have o_238 := Ow.mono (RI.mono _) hl_432 o_238
    refine k_region ?_
    refine l_mv f rfl rfl fun a f => ?_
    refine l_mv f rfl rfl fun a f => ?_
    refine l_slit (R := (RI .i64)) (xs := ([x_431] : List Int)) (RI.one _) m T36 f rfl rfl rfl (by decide) (All2.cons rfl (All2.nil _)) fun it_453 v_454 w a m o_455 f => ?_
    obtain ⟨l_457, hx_458, hs_230⟩ := bind_some hs_230
    refine l_append (RI.one _) 2 m o_238 rfl T36 rfl (by decide) f rfl rfl rfl (Ow.src (j := 0) o_455 m rfl) hx_458 fun it_459 v_460 w a m o_461 f => ?_
    refine l_as f rfl rfl fun a f => ?_
    refine l_nil (k_region ?_)
    refine l_mv f rfl rfl fun a f => ?_
    refine l_in f rfl rfl rfl b_add fun a f => ?_
    refine l_as f rfl rfl fun a f => ?_
    refine l_nil ?_
    have m := m.front 2 rfl
    have m := m.front 2 rfl
    have m := m.eraseAt 2
    obtain rfl := sj hs_230
    exact ⟨_, rfl, _, _, rfl, _, v_460, it_459, (GLe.trans hl_241 hl_432), f.weak ⟨rfl, rfl, rfl, trivial⟩, m, o_461⟩
  ·refine k_false f rfl hc_356 ?_
   refine k_exit rfl ?_
   have m := m.front 1 rfl
   have m := m.eraseAt 1
   obtain rfl := sj hs_230
   obtain rfl := hq_231 _ rfl
   exact ⟨_, rfl, _, v_236, it_237, hl_241, f.weak ⟨rfl, trivial⟩, m, o_238⟩
 ·rintro a w ⟨l_350, rfl, G_349, v_351, it_352, hl_355, f, m, o_353⟩
  refine k_seq (k_region ?_)
  refine l_mv f rfl rfl fun a f => ?_
  refine l_as f rfl rfl fun a f => ?_
  refine l_nil ?_
  refine k_ret ?_
  obtain rfl := sj hd
  exact ⟨[v_351], ⟨f.get _ _ rfl, trivial⟩, f.defers, _, [it_352], hl_355, m, _, _, rfl, rfl, o_353⟩

theorem Wk.spec_l25All {W w : World} {G : GH} {H : List Itm} {v0_0 : Value} {x0_0 : (List (List Int))} (m : Mem W G w (H)) (h0_0 : RSl (RSl (RI .i64)) G v0_0 x0_0) {y : Int} (hd : D.spec_l25All x0_0 = some y) :
  Calls Tryd.prog 35 #[(.agg #[v0_0])] w (Res W G H (fun _ Ho v => Ho = [] ∧ v = (.int .i64 y))) := by
 refine calls_b (args := [(.agg #[v0_0])]) (N := 9) [.tmp 2] Tryd.func35 rfl rfl (Nat.le_of_ble_eq_true rfl) rfl fun a f => ?_
 unfold D.spec_l25All at hd
 refine k_seq (k_region ?_)
 refine l_box (cs := [v0_0]) m f rfl rfl rfl fun b_2 w a m f => ?_
 refine l_as f rfl rfl fun a f => ?_
 refine l_nil (k_seq (k_region ?_))
 refine l_fieldAddr Tryd.underlying27 rfl Tryd.sizeOf22 (by decide) f rfl rfl fun a f => ?_
 refine l_boxCell 0 0 m Pl22 f rfl rfl rfl rfl fun a f => ?_
 refine l_len Tryd.underlying22 f rfl rfl h0_0 fun a f => ?_
 refine l_op f rfl rfl rfl (r_conv (f.eval rfl) ⟨_, Tryd.underlying3⟩ Tryd.underlying48) fun a f => ?_
 obtain ⟨hn_3, hd⟩ := cond_none hd
 refine l_op f rfl rfl rfl (r_shl (f.eval rfl) (f.eval rfl) hn_3) fun a f => ?_
 refine l_in f rfl rfl rfl b_sub fun a f => ?_
 refine l_as f rfl rfl fun a f => ?_
 refine l_nil ?_
 refine k_ret ?_
 have m : Mem W G w H := Mem.drop (H' := [Itm.box b_2 27 [v0_0]]) m
 obtain rfl := sj hd
 exact ⟨[(.int .i64 (IntKind.i64.wrap ((ishl .i64 1 (IntKind.u64.wrap (x0_0.length : Int))) - 1)))], ⟨f.get _ _ rfl, trivial⟩, f.defers, _, [], (GLe.refl _), m, rfl, rfl⟩

theorem Wk.spec_l25Stable {W w : World} {G : GH} {H : List Itm} {v0 : Value} {x0 : (List Int)} {x1 : Int} (m : Mem W G w (H)) (h0 : RSl (RI .i64) G v0 x0) {y : Bool} (hd : D.spec_l25Stable x0 x1 = some y) :
  Calls Tryd.prog 36 #[v0, (.int .i64 x1)] w (Res W G H (fun _ Ho v => Ho = [] ∧ v = (.bool y))) := by
 refine calls_b (args := [v0, (.int .i64 x1)]) (N := 27) [.tmp 4] Tryd.func36 rfl rfl (Nat.le_of_ble_eq_true rfl) rfl fun a f => ?_
 unfold D.spec_l25Stable at hd
 refine k_seq (k_region ?_)
 refine l_as f rfl rfl fun a f => ?_
 refine l_nil (k_seq (k_seq (k_region ?_)))
 refine l_as f rfl rfl fun a f => ?_
 refine l_nil ?_
 obtain ⟨q_55, hl_56, hd⟩ := bind_some hd
 refine k_cut (fun a w => ∃ q_55' : Unit, q_55 = .inl q_55' ∧ ∃ (G_90 : GH), GLe G G_90 ∧ Fr a 27 [] ∧ Mem W G_90 w (H)) ?_ ?_
 ·refine k_block ?_
  refine k_loop (fun s_59 a w => ∃ x_62 : Int, x_62 = s_59 ∧ ∃ (G_61 : GH), GLe G G_61 ∧ Fr a 27 [(0, v0), (1, (.int .i64 x1)), (5, (.int .i64 x_62))] ∧ Mem W G_61 w (H)) hl_56 ⟨_, rfl, _, (GLe.refl _), f.weak ⟨rfl, rfl, rfl, trivial⟩, m⟩ ?_
  clear hl_56 f m
  rintro s_59 o_60 hs_57 hq_58 a w ⟨x_62, rfl, G_61, hl_63, f, m⟩
  have h0 := RSl.mono (RI.mono _) _ _ _ _ hl_63 h0
  refine k_seq (k_seq (k_region ?_))
  refine l_mv f rfl rfl fun a f => ?_
  refine l_mv f rfl rfl fun a f => ?_
  refine l_len Tryd.underlying36 f rfl rfl h0 fun a f => ?_
  refine l_in f rfl rfl rfl b_lss fun a f => ?_
  refine l_nil ?_
  rcases cond_some hs_57 with ⟨hc_92, hs_57⟩ | ⟨hc_92, hs_57⟩
  ·refine k_true f rfl hc_92 ?_
   refine k_skip ?_
   refine k_seq (k_block (k_seq (k_region ?_)))
   refine l_mv f rfl rfl fun a f => ?_
   refine l_mv f rfl rfl fun a f => ?_
   refine l_op f rfl rfl rfl (r_conv (f.eval rfl) ⟨_, Tryd.underlying3⟩ Tryd.underlying48) fun a f => ?_
   obtain ⟨hn_93, hs_57⟩ := cond_none hs_57
   refine l_op f rfl rfl rfl (r_shr (f.eval rfl) (f.eval rfl) hn_93) fun a f => ?_
   refine l_in f rfl rfl rfl b_and fun a f => ?_
   refine l_in f rfl rfl rfl b_eql fun a f => ?_
   refine l_mv f rfl rfl fun a f => ?_
   obtain ⟨b_109, hj_110, hs_57⟩ := bind_some hs_57
   refine l_cut 8 (fun a w => ∃ G_107, GLe G_61 G_107 ∧ Mem W G_107 w (H) ∧ Fr a 27 [(0, v0), (1, (.int .i64 x1)), (5, (.int .i64 x_62)), (9, (.bool (decide (x_62 < (x0.length : Int))))), (12, (.int .i64 x1)), (13, (.int .i64 x_62)), (14, (.int .u64 (IntKind.u64.wrap x_62))), (15, (.int .i64 (ishr .i64 x1 (IntKind.u64.wrap x_62)))), (16, (.int .i64 (iand .i64 (ishr .i64 x1 (IntKind.u64.wrap x_62)) 1))), (17, (.bool ((iand .i64 (ishr .i64 x1 (IntKind.u64.wrap x_62)) 1) == 1))), (18, (.bool ((iand .i64 (ishr .i64 x1 (IntKind.u64.wrap x_62)) 1) == 1))), (26, (.bool b_109))]) ?_ ?_
   ·rcases cond_some hj_110 with ⟨hc_94, hj_110⟩ | ⟨hc_94, hj_110⟩
    ·refine l_run f rfl rfl hc_94 ?_
     refine l_mv f rfl rfl fun a f => ?_
     refine l_run f rfl rfl hc_94 ?_
     refine l_mv f rfl rfl fun a f => ?_
     refine l_run f rfl rfl hc_94 ?_
     obtain ⟨e_111, he_112, hj_110⟩ := bind_some hj_110
     refine l_at T36 f rfl rfl rfl h0 he_112 fun p_113 c_114 a g_115 h_116 f => ?_
     subst h_116
     refine l_run f rfl rfl hc_94 ?_
     refine l_loadAt m Pl2 f rfl rfl g_115 fun a f => ?_
     refine l_run f rfl rfl hc_94 ?_
     refine l_mv f rfl rfl fun a f => ?_
     refine l_run f rfl rfl hc_94 ?_
     refine l_in f rfl rfl rfl b_and fun a f => ?_
     refine l_run f rfl rfl hc_94 ?_
     refine l_in f rfl rfl rfl b_neq fun a f => ?_
     refine l_op f rfl rfl rfl (r_pickT (f.eval rfl) hc_94 (f.eval rfl)) fun a f => ?_
     obtain rfl := sj hj_110
     exact ⟨_, (GLe.refl _), m, f.weak ⟨rfl, rfl, rfl, rfl, rfl, rfl, rfl, rfl, rfl, rfl, rfl, rfl, trivial⟩⟩
    ·refine l_not' f rfl rfl rfl hc_94 fun a f => ?_
     refine l_not' f rfl rfl rfl hc_94 fun a f => ?_
     refine l_not' f rfl rfl rfl hc_94 fun a f => ?_
     refine l_not' f rfl rfl rfl hc_94 fun a f => ?_
     refine l_not' f rfl rfl rfl hc_94 fun a f => ?_
     refine l_not' f rfl rfl rfl hc_94 fun a f => ?_
     refine l_not' f rfl rfl rfl hc_94 fun a f => ?_
     refine l_op f rfl rfl rfl (r_pickF (f.eval rfl) hc_94 (f.eval rfl)) fun a f => ?_
     obtain rfl := sj hj_110
     exact ⟨_, (GLe.refl _), m, f.weak ⟨rfl, rfl, rfl, rfl, rfl, rfl, rfl, rfl, rfl, rfl, rfl, rfl, trivial⟩⟩
   ·rintro a w ⟨G_107, hl_108, m, f⟩
    have h0 := RSl.mono (RI.mono _) _ _ _ _ hl_108 h0
    refine l_nil ?_
    rcases cond_some hs_57 with ⟨hc_117, hs_57⟩ | ⟨hc_117, hs_57⟩
    ·refine k_true f rfl hc_117 ?_
     refine k_seq (k_region ?_)
     refine l_as f rfl rfl fun a f => ?_
     refine l_nil ?_
     refine k_ret ?_
     obtain rfl := sj hs_57
     obtain rfl := hq_58 _ rfl
     obtain rfl := sj hd
     exact ⟨[(.bool false)], ⟨f.get _ _ rfl, trivial⟩, f.defers, _, [], (GLe.trans hl_63 hl_108), m, rfl, rfl⟩
    ·refine k_false f rfl hc_117 ?_
     refine k_skip ?_
     refine k_region ?_
     refine l_mv f rfl rfl fun a f => ?_
     refine l_in f rfl rfl rfl b_add fun a f => ?_
     refine l_as f rfl rfl fun a f => ?_
     refine l_nil ?_
     obtain rfl := sj hs_57
     exact ⟨_, rfl, _, rfl, _, (GLe.trans hl_63 hl_108), f.weak ⟨rfl, rfl, rfl, trivial⟩, m⟩
  ·refine k_false f rfl hc_92 ?_
   refine k_exit rfl ?_
   obtain rfl := sj hs_57
   obtain rfl := hq_58 _ rfl
   exact ⟨_, rfl, _, hl_63, f.weak trivial, m⟩
 ·rintro a w ⟨_, rfl, G_90, hl_91, f, m⟩
  refine k_seq (k_region ?_)
  refine l_as f rfl rfl fun a f => ?_
  refine l_nil ?_
  refine k_ret ?_
  obtain rfl := sj hd
  exact ⟨[(.bool true)], ⟨f.get _ _ rfl, trivial⟩, f.defers, _, [], hl_91, m, rfl, rfl⟩

theorem Wk.spec_l25Many {W w : World} {G : GH} {H : List Itm} {x0 : Int} (m : Mem W G w (H))  {y : Int} (hd : D.spec_l25Many x0 = some y) :
  Calls Tryd.prog 75 #[(.int .i64 x0)] w (Res W G H (fun _ Ho v => Ho = [] ∧ v = (.int .i64 y))) := by
 refine calls_b (args := [(.int .i64 x0)]) (N := 13) [.tmp 2] Tryd.func75 rfl rfl (Nat.le_of_ble_eq_true rfl) rfl fun a f => ?_
 unfold D.spec_l25Many at hd
 refine k_seq (k_region ?_)
 refine l_as f rfl rfl fun a f => ?_
 refine l_nil (k_seq (k_region ?_))
 refine l_as f rfl rfl fun a f => ?_
 refine l_nil (k_seq ?_)
 obtain ⟨q_6, hl_7, hd⟩ := bind_some hd
 refine k_cut (fun a w => ∃ x_18 : Int, x_18 = q_6 ∧ ∃ (G_17 : GH), GLe G G_17 ∧ Fr a 13 [(3, (.int .i64 x_18))] ∧ Mem W G_17 w (H)) ?_ ?_
 ·refine k_block ?_
  refine k_loop (fun s_10 a w => ∃ x_13 : Int, ∃ x_14 : Int, (x_13, x_14) = s_10 ∧ ∃ (G_12 : GH), GLe G G_12 ∧ Fr a 13 [(0, (.int .i64 x_13)), (3, (.int .i64 x_14))] ∧ Mem W G_12 w (H)) hl_7 ⟨_, _, rfl, _, (GLe.refl _), f.weak ⟨rfl, rfl, trivial⟩, m⟩ ?_
  clear hl_7 f m
  rintro s_10 o_11 hs_8 hq_9 a w ⟨x_13, x_14, rfl, G_12, hl_15, f, m⟩
  refine k_seq (k_seq (k_region ?_))
  refine l_mv f rfl rfl fun a f => ?_
  refine l_in f rfl rfl rfl b_gtr fun a f => ?_
  refine l_nil ?_
  rcases cond_some hs_8 with ⟨hc_20, hs_8⟩ | ⟨hc_20, hs_8⟩
  ·refine k_true f rfl hc_20 ?_
   refine k_skip ?_
   refine k_seq (k_block (k_region ?_))
   refine l_mv f rfl rfl fun a f => ?_
   refine l_in f rfl rfl rfl b_add fun a f => ?_
   refine l_as f rfl rfl fun a f => ?_
   refine l_nil (k_region ?_)
   refine l_mv f rfl rfl fun a f => ?_
   refine l_mv f rfl rfl fun a f => ?_
   refine l_in f rfl rfl rfl b_sub fun a f => ?_
   refine l_in f rfl rfl rfl b_and fun a f => ?_
   refine l_as f rfl rfl fun a f => ?_
   refine l_nil ?_
   obtain rfl := sj hs_8
   exact ⟨_, rfl, _, _, rfl, _, hl_15, f.weak ⟨rfl, rfl, trivial⟩, m⟩
  ·refine k_false f rfl hc_20 ?_
   refine k_exit rfl ?_
   obtain rfl := sj hs_8
   obtain rfl := hq_9 _ rfl
   exact ⟨_, rfl, _, hl_15, f.weak ⟨rfl, trivial⟩, m⟩
 ·rintro a w ⟨x_18, rfl, G_17, hl_19, f, m⟩
  refine k_seq (k_region ?_)
  refine l_mv f rfl rfl fun a f => ?_
  refine l_as f rfl rfl fun a f => ?_
  refine l_nil ?_
  refine k_ret ?_
  obtain rfl := sj hd
  exact ⟨[(.int .i64 x_18)], ⟨f.get _ _ rfl, trivial⟩, f.defers, _, [], hl_19, m, rfl, rfl⟩

theorem Wk.spec_l25Less {W w : World} {G : GH} {H : List Itm} {x0 : Int} {x1 : Int} (m : Mem W G w (H))  {y : Bool} (hd : D.spec_l25Less x0 x1 = some y) :
  Calls Tryd.prog 76 #[(.int .i64 x0), (.int .i64 x1)] w (Res W G H (fun _ Ho v => Ho = [] ∧ v = (.bool y))) := by
 refine calls_b (args := [(.int .i64 x0), (.int .i64 x1)]) (N := 18) [.tmp 4] Tryd.func76 rfl rfl (Nat.le_of_ble_eq_true rfl) rfl fun a f => ?_
 unfold D.spec_l25Less at hd
 refine k_seq (k_region ?_)
 refine l_as f rfl rfl fun a f => ?_
 refine l_nil (k_seq (k_region ?_))
 refine l_mv f rfl rfl fun a f => ?_
 refine l_mv f rfl rfl fun a f => ?_
 refine l_in f rfl rfl rfl b_xor fun a f => ?_
 refine l_mv f rfl rfl fun a f => ?_
 refine l_mv f rfl rfl fun a f => ?_
 refine l_in f rfl rfl rfl b_xor fun a f => ?_
 refine l_op f rfl rfl rfl (r_neg (f.eval rfl)) fun a f => ?_
 refine l_in f rfl rfl rfl b_and fun a f => ?_
 refine l_as f rfl rfl fun a f => ?_
 refine l_nil (k_seq (k_region ?_))
 refine l_mv f rfl rfl fun a f => ?_
 refine l_mv f rfl rfl fun a f => ?_
 refine l_in f rfl rfl rfl b_and fun a f => ?_
 refine l_in f rfl rfl rfl b_neq fun a f => ?_
 refine l_as f rfl rfl fun a f => ?_
 refine l_nil ?_
 refine k_ret ?_
 obtain rfl := sj hd
 exact ⟨[(.bool ((iand .i64 x0 (iand .i64 (ixor .i64 x0 x1) (IntKind.i64.wrap (0 - (ixor .i64 x0 x1))))) != 0))], ⟨f.get _ _ rfl, trivial⟩, f.defers, _, [], (GLe.refl _), m, rfl, rfl⟩

theorem Wk.spec_l25Insert {W w : World} {G : GH} {H : List Itm} {v0 : Value} {x0 : (List Int)} {x1 : Int} (m : Mem W G w (H)) (h0 : RSl (RI .i64) G v0 x0) {y : ((List Int))} (hd : D.spec_l25Insert x0 x1 = some y) :
  Calls Tryd.prog 37 #[v0, (.int .i64 x1)] w (Res W G H (fun G' Ho v => ∃ r0 : Value, ∃ i0 : Itm, Ho = [i0] ∧ r0 = v ∧ Ow (RI .i64) 2 G' i0 r0 y)) := by
 refine calls_b (args := [v0, (.int .i64 x1)]) (N := 58) [.tmp 4] Tryd.func37 rfl rfl (Nat.le_of_ble_eq_true rfl) rfl fun a f => ?_
 unfold D.spec_l25Insert at hd
 refine k_seq (k_region ?_)
 refine l_as f rfl rfl fun a f => ?_
 refine l_nil (k_seq (k_region ?_))
 refine l_mv f rfl rfl fun a f => ?_
 refine l_len Tryd.underlying36 f rfl rfl h0 fun a f => ?_
 refine l_as f rfl rfl fun a f => ?_
 refine l_nil (k_seq ?_)
 obtain ⟨q_353, hl_354, hd⟩ := bind_some hd
 refine k_cut (fun a w => ∃ x_538 : Int, x_538 = q_353 ∧ ∃ (G_537 : GH), GLe G G_537 ∧ Fr a 58 [(0, v0), (1, (.int .i64 x1)), (5, (.int .i64 x_538))] ∧ Mem W G_537 w (H)) ?_ ?_
 ·refine k_block ?_
  refine k_loop (fun s_357 a w => ∃ x_360 : Int, x_360 = s_357 ∧ ∃ (G_359 : GH), GLe G G_359 ∧ Fr a 58 [(0, v0), (1, (.int .i64 x1)), (5, (.int .i64 x_360))] ∧ Mem W G_359 w (H)) hl_354 ⟨_, rfl, _, (GLe.refl _), f.weak ⟨rfl, rfl, rfl, trivial⟩, m⟩ ?_
  clear hl_354 f m
  rintro s_357 o_358 hs_355 hq_356 a w ⟨x_360, rfl, G_359, hl_361, f, m⟩
  have h0 := RSl.mono (RI.mono _) _ _ _ _ hl_361 h0
  refine k_seq (k_seq ?_)
  refine k_draw 33 Follows (by kernel_rfl) m ?_
  refine q_mv 0 33 rfl (by kernel_rfl) f rfl rfl rfl fun a f => ?_
  refine q_p 1 33 rfl (by kernel_rfl) f rfl rfl rfl (fun _ => r_int (f.eval rfl) (f.eval rfl) b_gtr) fun a f => ?_
  refine q_mv 2 33 rfl (by kernel_rfl) f rfl rfl rfl fun a f => ?_
  obtain ⟨b_626, hj_627, hs_355⟩ := bind_some hs_355
  refine q_cut (fuel' := 0) (listed' := #[true, true, true, true, true, true, true, true, true, true, true, true, true, true, true, true, true, true, true, true, true, true, true, true, true, true, true, true, true, true, true, true, true]) (fun a => Fr a 58 [(0, v0), (1, (.int .i64 x1)), (5, (.int .i64 x_360)), (9, (.int .i64 x_360)), (10, (.bool (decide ((0 : Int) < x_360)))), (11, (.bool (decide ((0 : Int) < x_360)))), (41, (.bool b_626))]) ?_ ?_
  ·intro a f
   refine q_end fun G_712 w hl_713 m => ?_
   have h0 := RSl.mono (RI.mono _) _ _ _ _ hl_713 h0
   refine l_nil ?_
   rcases cond_some hs_355 with ⟨hc_714, hs_355⟩ | ⟨hc_714, hs_355⟩
   ·refine k_true f rfl hc_714 ?_
    refine k_skip ?_
    refine k_block (k_region ?_)
    refine l_mv f rfl rfl fun a f => ?_
    refine l_in f rfl rfl rfl b_sub fun a f => ?_
    refine l_as f rfl rfl fun a f => ?_
    refine l_nil ?_
    obtain rfl := sj hs_355
    exact ⟨_, rfl, _, rfl, _, (GLe.trans hl_361 hl_713), f.weak ⟨rfl, rfl, rfl, trivial⟩, m⟩
   ·refine k_false f rfl hc_714 ?_
    refine k_exit rfl ?_
    obtain rfl := sj hs_355
    obtain rfl := hq_356 _ rfl
    exact ⟨_, rfl, _, (GLe.trans hl_361 hl_713), f.weak ⟨rfl, rfl, rfl, trivial⟩, m⟩
  ·intro K_625
   rcases cond_some hj_627 with ⟨hc_540, hj_627⟩ | ⟨hc_540, hj_627⟩
   ·refine q_mv 3 33 rfl (by kernel_rfl) f (wanted_of f rfl rfl rfl hc_540) rfl rfl fun a f => ?_
    obtain ⟨y_628, hy_629, hj_627⟩ := bind_some hj_627
    refine q_call (i := 4) 33 rfl (by kernel_rfl) rfl f (wanted_of f rfl rfl rfl hc_540) rfl rfl Tryd.call75 (fun _ _ w hG_630 m => Wk.spec_l25Many m  hy_629) fun a f => ?_
    refine q_mv 5 33 rfl (by kernel_rfl) f (wanted_of f rfl rfl rfl hc_540) rfl rfl fun a f => ?_
    refine q_mv 6 33 rfl (by kernel_rfl) f (wanted_of f rfl rfl rfl hc_540) rfl rfl fun a f => ?_
    refine q_p 7 33 rfl (by kernel_rfl) f (wanted_of f rfl rfl rfl hc_540) rfl rfl (fun _ => r_int (f.eval rfl) (f.eval rfl) b_sub) fun a f => ?_
    obtain ⟨e_631, he_632, hj_627⟩ := bind_some hj_627
    refine q_at (i := 8) 33 T36 h0 he_632 rfl (by kernel_rfl) rfl f (wanted_of f rfl rfl rfl hc_540) rfl rfl rfl fun p_633 c_634 a g_635 h_636 f => ?_
    subst h_636
    refine q_loadAt (i := 9) 33 Pl2 g_635 rfl (by kernel_rfl) rfl f (wanted_of f rfl rfl rfl hc_540) rfl rfl fun a f => ?_
    obtain ⟨y_637, hy_638, hj_627⟩ := bind_some hj_627
    refine q_call (i := 10) 33 rfl (by kernel_rfl) rfl f (wanted_of f rfl rfl rfl hc_540) rfl rfl Tryd.call75 (fun _ _ w hG_639 m => Wk.spec_l25Many m  hy_638) fun a f => ?_
    refine q_p 11 33 rfl (by kernel_rfl) f (wanted_of f rfl rfl rfl hc_540) rfl rfl (fun _ => r_int (f.eval rfl) (f.eval rfl) b_lss) fun a f => ?_
    refine q_mv 12 33 rfl (by kernel_rfl) f (wanted_of f rfl rfl rfl hc_540) rfl rfl fun a f => ?_
    obtain ⟨b_676, hj_677, hj_627⟩ := bind_some hj_627
    refine q_cut (fuel' := 1) (listed' := #[true, true, true, true, true, true, true, true, true, true, true, true, true, true, true, true, true, true, true, true, true, true, true, true, true, true, true, true, true, true, true, true, false]) (fun a => Fr a 58 [(0, v0), (1, (.int .i64 x1)), (5, (.int .i64 x_360)), (9, (.int .i64 x_360)), (10, (.bool (decide ((0 : Int) < x_360)))), (11, (.bool (decide ((0 : Int) < x_360)))), (12, (.int .i64 x1)), (13, (.int .i64 y_628)), (14, v0), (15, (.int .i64 x_360)), (16, (.int .i64 (IntKind.i64.wrap (x_360 - 1)))), (17, p_633), (18, (.int .i64 e_631)), (19, (.int .i64 y_637)), (20, (.bool (decide (y_628 < y_637)))), (21, (.bool (decide (y_628 < y_637)))), (40, (.bool b_676))]) ?_ ?_
    ·intro a f
     refine q_p 32 33 rfl (by kernel_rfl) f rfl rfl rfl (fun _ => r_pickT (f.eval rfl) hc_540 (f.eval rfl)) fun a f => ?_
     obtain rfl := sj hj_627
     exact K_625 _ (f.weak ⟨rfl, rfl, rfl, rfl, rfl, rfl, rfl, trivial⟩)
    ·intro K_675
     rcases cond_some hj_677 with ⟨hc_640, hj_677⟩ | ⟨hc_640, hj_677⟩
     ·refine q_ng 13 33 rfl (by kernel_rfl) f rfl rfl hc_640 rfl fun a f => ?_
      refine q_ng 14 33 rfl (by kernel_rfl) f rfl rfl hc_640 rfl fun a f => ?_
      refine q_ng 15 33 rfl (by kernel_rfl) f rfl rfl hc_640 rfl fun a f => ?_
      refine q_ng 16 33 rfl (by kernel_rfl) f rfl rfl hc_640 rfl fun a f => ?_
      refine q_ng 17 33 rfl (by kernel_rfl) f rfl rfl hc_640 rfl fun a f => ?_
      refine q_ng 18 33 rfl (by kernel_rfl) f rfl rfl hc_640 rfl fun a f => ?_
      refine q_ng 19 33 rfl (by kernel_rfl) f rfl rfl hc_640 rfl fun a f => ?_
      refine q_ng 20 33 rfl (by kernel_rfl) f rfl rfl hc_640 rfl fun a f => ?_
      refine q_ng 21 33 rfl (by kernel_rfl) f rfl rfl hc_640 rfl fun a f => ?_
      refine q_ng 22 33 rfl (by kernel_rfl) f rfl rfl hc_640 rfl fun a f => ?_
      refine q_nu 23 33 rfl (by kernel_rfl) f rfl rfl rfl fun a f => ?_
      refine q_nu 24 33 rfl (by kernel_rfl) f rfl rfl rfl fun a f => ?_
      refine q_nu 25 33 rfl (by kernel_rfl) f rfl rfl rfl fun a f => ?_
      refine q_nu 26 33 rfl (by kernel_rfl) f rfl rfl rfl fun a f => ?_
      refine q_nu 27 33 rfl (by kernel_rfl) f rfl rfl rfl fun a f => ?_
      refine q_nu 28 33 rfl (by kernel_rfl) f rfl rfl rfl fun a f => ?_
      refine q_nu 29 33 rfl (by kernel_rfl) f rfl rfl rfl fun a f => ?_
      refine q_ng 30 33 rfl (by kernel_rfl) f rfl rfl hc_640 rfl fun a f => ?_
      refine q_p 31 33 rfl (by kernel_rfl) f (wanted_of f rfl rfl rfl hc_540) rfl rfl (fun _ => r_pickT (f.eval rfl) hc_640 (f.eval rfl)) fun a f => ?_
      obtain rfl := sj hj_677
      exact K_675 _ (f.weak ⟨rfl, rfl, rfl, rfl, rfl, rfl, rfl, rfl, rfl, rfl, rfl, rfl, rfl, rfl, rfl, rfl, rfl, trivial⟩)
     ·refine q_mv 13 33 rfl (by kernel_rfl) f (wanted_of f rfl rfl rfl hc_640) rfl rfl fun a f => ?_
      obtain ⟨y_678, hy_679, hj_677⟩ := bind_some hj_677
      refine q_call (i := 14) 33 rfl (by kernel_rfl) rfl f (wanted_of f rfl rfl rfl hc_640) rfl rfl Tryd.call75 (fun _ _ w hG_680 m => Wk.spec_l25Many m  hy_679) fun a f => ?_
      refine q_mv 15 33 rfl (by kernel_rfl) f (wanted_of f rfl rfl rfl hc_640) rfl rfl fun a f => ?_
      refine q_mv 16 33 rfl (by kernel_rfl) f (wanted_of f rfl rfl rfl hc_640) rfl rfl fun a f => ?_
      refine q_p 17 33 rfl (by kernel_rfl) f (wanted_of f rfl rfl rfl hc_640) rfl rfl (fun _ => r_int (f.eval rfl) (f.eval rfl) b_sub) fun a f => ?_
      obtain ⟨e_681, he_682, hj_677⟩ := bind_some hj_677
      refine q_at (i := 18) 33 T36 h0 he_682 rfl (by kernel_rfl) rfl f (wanted_of f rfl rfl rfl hc_640) rfl rfl rfl fun p_683 c_684 a g_685 h_686 f => ?_
      subst h_686
      refine q_loadAt (i := 19) 33 Pl2 g_685 rfl (by kernel_rfl) rfl f (wanted_of f rfl rfl rfl hc_640) rfl rfl fun a f => ?_
      obtain ⟨y_687, hy_688, hj_677⟩ := bind_some hj_677
      refine q_call (i := 20) 33 rfl (by kernel_rfl) rfl f (wanted_of f rfl rfl rfl hc_640) rfl rfl Tryd.call75 (fun _ _ w hG_689 m => Wk.spec_l25Many m  hy_688) fun a f => ?_
      refine q_p 21 33 rfl (by kernel_rfl) f (wanted_of f rfl rfl rfl hc_640) rfl rfl (fun _ => r_int (f.eval rfl) (f.eval rfl) b_eql) fun a f => ?_
      refine q_mv 22 33 rfl (by kernel_rfl) f (wanted_of f rfl rfl rfl hc_640) rfl rfl fun a f => ?_
      obtain ⟨b_701, hj_702, hj_677⟩ := bind_some hj_677
      refine q_cut (fuel' := 2) (listed' := #[true, true, true, true, true, true, true, true, true, true, true, true, true, true, true, true, true, true, true, true, true, true, true, true, true, true, true, true, true, true, true, false, false]) (fun a => Fr a 58 [(0, v0), (1, (.int .i64 x1)), (5, (.int .i64 x_360)), (9, (.int .i64 x_360)), (10, (.bool (decide ((0 : Int) < x_360)))), (11, (.bool (decide ((0 : Int) < x_360)))), (12, (.int .i64 x1)), (13, (.int .i64 y_628)), (14, v0), (15, (.int .i64 x_360)), (16, (.int .i64 (IntKind.i64.wrap (x_360 - 1)))), (17, p_633), (18, (.int .i64 e_631)), (19, (.int .i64 y_637)), (20, (.bool (decide (y_628 < y_637)))), (21, (.bool (decide (y_628 < y_637)))), (22, (.int .i64 x1)), (23, (.int .i64 y_678)), (24, v0), (25, (.int .i64 x_360)), (26, (.int .i64 (IntKind.i64.wrap (x_360 - 1)))), (27, p_683), (28, (.int .i64 e_681)), (29, (.int .i64 y_687)), (30, (.bool (y_678 == y_687))), (31, (.bool (y_678 == y_687))), (39, (.bool b_701))]) ?_ ?_
      ·intro a f
       refine q_p 31 33 rfl (by kernel_rfl) f (wanted_of f rfl rfl rfl hc_540) rfl rfl (fun _ => r_pickF (f.eval rfl) hc_640 (f.eval rfl)) fun a f => ?_
       obtain rfl := sj hj_677
       exact K_675 _ (f.weak ⟨rfl, rfl, rfl, rfl, rfl, rfl, rfl, rfl, rfl, rfl, rfl, rfl, rfl, rfl, rfl, rfl, rfl, trivial⟩)
      ·intro K_700
       rcases cond_some hj_702 with ⟨hc_690, hj_702⟩ | ⟨hc_690, hj_702⟩
       ·refine q_mv 23 33 rfl (by kernel_rfl) f (wanted_of f rfl rfl rfl hc_690) rfl rfl fun a f => ?_
        refine q_mv 24 33 rfl (by kernel_rfl) f (wanted_of f rfl rfl rfl hc_690) rfl rfl fun a f => ?_
        refine q_mv 25 33 rfl (by kernel_rfl) f (wanted_of f rfl rfl rfl hc_690) rfl rfl fun a f => ?_
        refine q_p 26 33 rfl (by kernel_rfl) f (wanted_of f rfl rfl rfl hc_690) rfl rfl (fun _ => r_int (f.eval rfl) (f.eval rfl) b_sub) fun a f => ?_
        obtain ⟨e_703, he_704, hj_702⟩ := bind_some hj_702
        refine q_at (i := 27) 33 T36 h0 he_704 rfl (by kernel_rfl) rfl f (wanted_of f rfl rfl rfl hc_690) rfl rfl rfl fun p_705 c_706 a g_707 h_708 f => ?_
        subst h_708
        refine q_loadAt (i := 28) 33 Pl2 g_707 rfl (by kernel_rfl) rfl f (wanted_of f rfl rfl rfl hc_690) rfl rfl fun a f => ?_
        obtain ⟨y_709, hy_710, hj_702⟩ := bind_some hj_702
        refine q_call (i := 29) 33 rfl (by kernel_rfl) rfl f (wanted_of f rfl rfl rfl hc_690) rfl rfl Tryd.call76 (fun _ _ w hG_711 m => Wk.spec_l25Less m  hy_710) fun a f => ?_
        refine q_p 30 33 rfl (by kernel_rfl) f (wanted_of f rfl rfl rfl hc_640) rfl rfl (fun _ => r_pickT (f.eval rfl) hc_690 (f.eval rfl)) fun a f => ?_
        obtain rfl := sj hj_702
        exact K_700 _ (f.weak ⟨rfl, rfl, rfl, rfl, rfl, rfl, rfl, rfl, rfl, rfl, rfl, rfl, rfl, rfl, rfl, rfl, rfl, rfl, rfl, rfl, rfl, rfl, rfl, rfl, rfl, rfl, rfl, trivial⟩)
       ·refine q_ng 23 33 rfl (by kernel_rfl) f rfl rfl hc_690 rfl fun a f => ?_
        refine q_ng 24 33 rfl (by kernel_rfl) f rfl rfl hc_690 rfl fun a f => ?_
        refine q_ng 25 33 rfl (by kernel_rfl) f rfl rfl hc_690 rfl fun a f => ?_
        refine q_ng 26 33 rfl (by kernel_rfl) f rfl rfl hc_690 rfl fun a f => ?_
        refine q_ng 27 33 rfl (by kernel_rfl) f rfl rfl hc_690 rfl fun a f => ?_
        refine q_ng 28 33 rfl (by kernel_rfl) f rfl rfl hc_690 rfl fun a f => ?_
        refine q_ng 29 33 rfl (by kernel_rfl) f rfl rfl hc_690 rfl fun a f => ?_
        refine q_p 30 33 rfl (by kernel_rfl) f (wanted_of f rfl rfl rfl hc_640) rfl rfl (fun _ => r_pickF (f.eval rfl) hc_690 (f.eval rfl)) fun a f => ?_
        obtain rfl := sj hj_702
        exact K_700 _ (f.weak ⟨rfl, rfl, rfl, rfl, rfl, rfl, rfl, rfl, rfl, rfl, rfl, rfl, rfl, rfl, rfl, rfl, rfl, rfl, rfl, rfl, rfl, rfl, rfl, rfl, rfl, rfl, rfl, trivial⟩)
   ·refine q_ng 3 33 rfl (by kernel_rfl) f rfl rfl hc_540 rfl fun a f => ?_
    refine q_ng 4 33 rfl (by kernel_rfl) f rfl rfl hc_540 rfl fun a f => ?_
    refine q_ng 5 33 rfl (by kernel_rfl) f rfl rfl hc_540 rfl fun a f => ?_
    refine q_ng 6 33 rfl (by kernel_rfl) f rfl rfl hc_540 rfl fun a f => ?_
    refine q_ng 7 33 rfl (by kernel_rfl) f rfl rfl hc_540 rfl fun a f => ?_
    refine q_ng 8 33 rfl (by kernel_rfl) f rfl rfl hc_540 rfl fun a f => ?_
    refine q_ng 9 33 rfl (by kernel_rfl) f rfl rfl hc_540 rfl fun a f => ?_
    refine q_ng 10 33 rfl (by kernel_rfl) f rfl rfl hc_540 rfl fun a f => ?_
    refine q_ng 11 33 rfl (by kernel_rfl) f rfl rfl hc_540 rfl fun a f => ?_
    refine q_ng 12 33 rfl (by kernel_rfl) f rfl rfl hc_540 rfl fun a f => ?_
    refine q_nu 13 33 rfl (by kernel_rfl) f rfl rfl rfl fun a f => ?_
    refine q_nu 14 33 rfl (by kernel_rfl) f rfl rfl rfl fun a f => ?_
    refine q_nu 15 33 rfl (by kernel_rfl) f rfl rfl rfl fun a f => ?_
    refine q_nu 16 33 rfl (by kernel_rfl) f rfl rfl rfl fun a f => ?_
    refine q_nu 17 33 rfl (by kernel_rfl) f rfl rfl rfl fun a f => ?_
    refine q_nu 18 33 rfl (by kernel_rfl) f rfl rfl rfl fun a f => ?_
    refine q_nu 19 33 rfl (by kernel_rfl) f rfl rfl rfl fun a f => ?_
    refine q_nu 20 33 rfl (by kernel_rfl) f rfl rfl rfl fun a f => ?_
    refine q_nu 21 33 rfl (by kernel_rfl) f rfl rfl rfl fun a f => ?_
    refine q_nu 22 33 rfl (by kernel_rfl) f rfl rfl rfl fun a f => ?_
    refine q_nu 23 33 rfl (by kernel_rfl) f rfl rfl rfl fun a f => ?_
    refine q_nu 24 33 rfl (by kernel_rfl) f rfl rfl rfl fun a f => ?_
    refine q_nu 25 33 rfl (by kernel_rfl) f rfl rfl rfl fun a f => ?_
    refine q_nu 26 33 rfl (by kernel_rfl) f rfl rfl rfl fun a f => ?_
    refine q_nu 27 33 rfl (by kernel_rfl) f rfl rfl rfl fun a f => ?_
    refine q_nu 28 33 rfl (by kernel_rfl) f rfl rfl rfl fun a f => ?_
    refine q_nu 29 33 rfl (by kernel_rfl) f rfl rfl rfl fun a f => ?_
    refine q_nu 30 33 rfl (by kernel_rfl) f rfl rfl rfl fun a f => ?_
    refine q_ng 31 33 rfl (by kernel_rfl) f rfl rfl hc_540 rfl fun a f => ?_
    refine q_p 32 33 rfl (by kernel_rfl) f rfl rfl rfl (fun _ => r_pickF (f.eval rfl) hc_540 (f.eval rfl)) fun a f => ?_
    obtain rfl := sj hj_627
    exact K_625 _ (f.weak ⟨rfl, rfl, rfl, rfl, rfl, rfl, rfl, trivial⟩)
 ·rintro a w ⟨x_538, rfl, G_537, hl_539, f, m⟩
  have h0 := RSl.mono (RI.mono _) _ _ _ _ hl_539 h0
  refine k_seq (k_region ?_)
  refine l_slit (R := (RI .i64)) (xs := ([] : List Int)) (RI.one _) m T36 f rfl rfl rfl (by decide) (All2.nil _) fun it_715 v_716 w a m o_717 f => ?_
  refine l_mv f rfl rfl fun a f => ?_
  refine l_mv f rfl rfl fun a f => ?_
  obtain ⟨l_719, hx_720, hd⟩ := bind_some hd
  refine l_slice T36 f rfl rfl h0 (.inl ⟨rfl, rfl⟩) (.inr ⟨_, _, rfl, rfl⟩) hx_720 fun v_721 a h_722 f => ?_
  obtain ⟨l_723, hx_724, hd⟩ := bind_some hd
  refine l_append (RI.one _) 0 m o_717 rfl T36 rfl (by decide) f rfl rfl rfl (h_722.src m) hx_724 fun it_725 v_726 w a m o_727 f => ?_
  refine l_as f rfl rfl fun a f => ?_
  refine l_nil (k_seq (k_region ?_))
  refine l_mv f rfl rfl fun a f => ?_
  refine l_mv f rfl rfl fun a f => ?_
  refine l_slit (R := (RI .i64)) (xs := ([x1] : List Int)) (RI.one _) m T36 f rfl rfl rfl (by decide) (All2.cons rfl (All2.nil _)) fun it_729 v_730 w a m o_731 f => ?_
  obtain ⟨l_733, hx_734, hd⟩ := bind_some hd
  refine l_append (RI.one _) 1 m o_727 rfl T36 rfl (by decide) f rfl rfl rfl (Ow.src (j := 0) o_731 m rfl) hx_734 fun it_735 v_736 w a m o_737 f => ?_
  refine l_as f rfl rfl fun a f => ?_
  refine l_nil (k_seq (k_region ?_))
  refine l_mv f rfl rfl fun a f => ?_
  refine l_mv f rfl rfl fun a f => ?_
  refine l_mv f rfl rfl fun a f => ?_
  obtain ⟨l_739, hx_740, hd⟩ := bind_some hd
  refine l_slice T36 f rfl rfl h0 (.inr ⟨_, _, rfl, rfl⟩) (.inl ⟨rfl, rfl⟩) hx_740 fun v_741 a h_742 f => ?_
  obtain ⟨l_743, hx_744, hd⟩ := bind_some hd
  refine l_append (RI.one _) 1 m o_737 rfl T36 rfl (by decide) f rfl rfl rfl (h_742.src m) hx_744 fun it_745 v_746 w a m o_747 f => ?_
  refine l_as f rfl rfl fun a f => ?_
  refine l_nil ?_
  refine k_ret ?_
  have m := m.front 1 rfl
  have m := m.eraseAt 1
  obtain rfl := sj hd
  exact ⟨[v_746], ⟨f.get _ _ rfl, trivial⟩, f.defers, _, [it_745], hl_539, m, _, _, rfl, rfl, o_747⟩

theorem Wk.spec_l25Set {W w : World} {G : GH} {H : List Itm} {x0 : Int} (m : Mem W G w (H))  {y : ((List Int))} (hd : D.spec_l25Set x0 = some y) :
  Calls Tryd.prog 38 #[(.int .i64 x0)] w (Res W G H (fun G' Ho v => ∃ r0 : Value, ∃ i0 : Itm, Ho = [i0] ∧ r0 = v ∧ Ow (RI .i64) 2 G' i0 r0 y)) := by
 refine calls_b (args := [(.int .i64 x0)]) (N := 24) [.tmp 2] Tryd.func38 rfl rfl (Nat.le_of_ble_eq_true rfl) rfl fun a f => ?_
 unfold D.spec_l25Set at hd
 refine k_seq (k_region ?_)
 refine l_as f rfl rfl fun a f => ?_
 refine l_nil (k_seq (k_region ?_))
 refine l_slit (R := (RI .i64)) (xs := ([] : List Int)) (RI.one _) m T36 f rfl rfl rfl (by decide) (All2.nil _) fun it_1 v_2 w a m o_3 f => ?_
 refine l_as f rfl rfl fun a f => ?_
 refine l_nil (k_seq (k_seq (k_region ?_)))
 refine l_as f rfl rfl fun a f => ?_
 refine l_nil ?_
 obtain ⟨q_40, hl_41, hd⟩ := bind_some hd
 refine k_cut (fun a w => ∃ l_69 : List Int, l_69 = q_40 ∧ ∃ (G_68 : GH) (v_70 : Value) (it_71 : Itm), GLe G G_68 ∧ Fr a 24 [(3, v_70)] ∧ Mem W G_68 w (it_71 :: H) ∧ Ow (RI .i64) 2 G_68 it_71 v_70 l_69) ?_ ?_
 ·refine k_block ?_
  refine k_loop (fun s_44 a w => ∃ l_47 : List Int, ∃ x_52 : Int, (l_47, x_52) = s_44 ∧ ∃ (G_46 : GH) (v_48 : Value) (it_49 : Itm), GLe G G_46 ∧ Fr a 24 [(0, (.int .i64 x0)), (3, v_48), (4, (.int .i64 x_52))] ∧ Mem W G_46 w (it_49 :: H) ∧ Ow (RI .i64) 2 G_46 it_49 v_48 l_47) hl_41 ⟨_, _, rfl, _, v_2, it_1, (GLe.refl _), f.weak ⟨rfl, rfl, rfl, trivial⟩, m, o_3⟩ ?_
  clear hl_41 f m
  rintro s_44 o_45 hs_42 hq_43 a w ⟨l_47, x_52, rfl, G_46, v_48, it_49, hl_53, f, m, o_50⟩
  refine k_seq (k_seq (k_region ?_))
  refine l_mv f rfl rfl fun a f => ?_
  refine l_mv f rfl rfl fun a f => ?_
  refine l_op f rfl rfl rfl (r_conv (f.eval rfl) ⟨_, Tryd.underlying2⟩ Tryd.underlying48) fun a f => ?_
  obtain ⟨hn_75, hs_42⟩ := cond_none hs_42
  refine l_op f rfl rfl rfl (r_shr (f.eval rfl) (f.eval rfl) hn_75) fun a f => ?_
  refine l_in f rfl rfl rfl b_gtr fun a f => ?_
  refine l_nil ?_
  rcases cond_some hs_42 with ⟨hc_76, hs_42⟩ | ⟨hc_76, hs_42⟩
  ·refine k_true f rfl hc_76 ?_
   refine k_skip ?_
   refine k_seq (k_block (k_seq (k_region ?_)))
   refine l_mv f rfl rfl fun a f => ?_
   refine l_mv f rfl rfl fun a f => ?_
   refine l_op f rfl rfl rfl (r_conv (f.eval rfl) ⟨_, Tryd.underlying2⟩ Tryd.underlying48) fun a f => ?_
   obtain ⟨hn_77, hs_42⟩ := cond_none hs_42
   refine l_op f rfl rfl rfl (r_shr (f.eval rfl) (f.eval rfl) hn_77) fun a f => ?_
   refine l_in f rfl rfl rfl b_and fun a f => ?_
   refine l_in f rfl rfl rfl b_eql fun a f => ?_
   refine l_nil ?_
   rcases cond_some hs_42 with ⟨hc_78, hs_42⟩ | ⟨hc_78, hs_42⟩
   ·refine k_true f rfl hc_78 ?_
    refine k_region ?_
    refine l_mv f rfl rfl fun a f => ?_
    refine l_mv f rfl rfl fun a f => ?_
    refine l_slit (R := (RI .i64)) (xs := ([x_52] : List Int)) (RI.one _) m T36 f rfl rfl rfl (by decide) (All2.cons rfl (All2.nil _)) fun it_79 v_80 w a m o_81 f => ?_
    obtain ⟨l_83, hx_84, hs_42⟩ := bind_some hs_42
    refine l_append (RI.one _) 1 m o_50 rfl T36 rfl (by decide) f rfl rfl rfl (Ow.src (j := 0) o_81 m rfl) hx_84 fun it_85 v_86 w a m o_87 f => ?_
    refine l_as f rfl rfl fun a f => ?_
    refine l_nil (k_region ?_)
    refine l_mv f rfl rfl fun a f => ?_
    refine l_in f rfl rfl rfl b_add fun a f => ?_
    refine l_as f rfl rfl fun a f => ?_
    refine l_nil ?_
    have m := m.front 1 rfl
    have m := m.eraseAt 1
    obtain rfl := sj hs_42
    exact ⟨_, rfl, _, _, rfl, _, v_86, it_85, hl_53, f.weak ⟨rfl, rfl, rfl, trivial⟩, m, o_87⟩
   ·refine k_false f rfl hc_78 ?_
    refine k_skip ?_
    refine k_region ?_
    refine l_mv f rfl rfl fun a f => ?_
    refine l_in f rfl rfl rfl b_add fun a f => ?_
    refine l_as f rfl rfl fun a f => ?_
    refine l_nil ?_
    obtain rfl := sj hs_42
    exact ⟨_, rfl, _, _, rfl, _, v_48, it_49, hl_53, f.weak ⟨rfl, rfl, rfl, trivial⟩, m, o_50⟩
  ·refine k_false f rfl hc_76 ?_
   refine k_exit rfl ?_
   obtain rfl := sj hs_42
   obtain rfl := hq_43 _ rfl
   exact ⟨_, rfl, _, v_48, it_49, hl_53, f.weak ⟨rfl, trivial⟩, m, o_50⟩
 ·rintro a w ⟨l_69, rfl, G_68, v_70, it_71, hl_74, f, m, o_72⟩
  refine k_seq (k_region ?_)
  refine l_mv f rfl rfl fun a f => ?_
  refine l_as f rfl rfl fun a f => ?_
  refine l_nil ?_
  refine k_ret ?_
  obtain rfl := sj hd
  exact ⟨[v_70], ⟨f.get _ _ rfl, trivial⟩, f.defers, _, [it_71], hl_74, m, _, _, rfl, rfl, o_72⟩

theorem Wk.spec_LastingStables {W w : World} {G : GH} {H : List Itm} {v0_0 : Value} {x0_0 : (List (List Int))} (m : Mem W G w (H)) (h0_0 : RSl (RSl (RI .i64)) G v0_0 x0_0) {y : ((List (List Int)))} (hd : D.spec_LastingStables x0_0 = some y) :
  Calls Tryd.prog 7 #[(.agg #[v0_0])] w (Res W G H (fun G' Ho v => ∃ r0 : Value, ∃ i0 : Itm, Ho = [i0] ∧ r0 = v ∧ Ow (RSl (RI .i64)) 36 G' i0 r0 y)) := by
 refine calls_b (args := [(.agg #[v0_0])]) (N := 69) [.tmp 2] Tryd.func7 rfl rfl (Nat.le_of_ble_eq_true rfl) rfl fun a f => ?_
 unfold D.spec_LastingStables at hd
 refine k_seq (k_region ?_)
 refine l_box (cs := [v0_0]) m f rfl rfl rfl fun b_2 w a m f => ?_
 refine l_as f rfl rfl fun a f => ?_
 refine l_nil (k_seq (k_region ?_))
 refine l_slit (R := (RSl (RI .i64))) (xs := ([] : List (List Int))) (RSl.one _) m T22 f rfl rfl rfl (by decide) (All2.nil _) fun it_3 v_4 w a m o_5 f => ?_
 refine l_as f rfl rfl fun a f => ?_
 refine l_nil (k_seq (k_seq (k_region ?_)))
 refine l_boxAgg 1 0 (ds := [v0_0]) m Ag27 f rfl rfl rfl rfl rfl fun a f => ?_
 obtain ⟨y_7, hy_8, hd⟩ := bind_some hd
 refine l_res f rfl rfl Tryd.call23 (Wk.spec_GraphOk m h0_0 hy_8) fun v_12 G_9 Ho_13 w hl_10 m hQ_11 a f => ?_
 obtain ⟨rfl, rfl⟩ := hQ_11
 have h0_0 := RSl.mono (RSl.mono (RI.mono _)) _ _ _ _ hl_10 h0_0
 have o_5 := Ow.mono (RSl.mono (RI.mono _)) hl_10 o_5
 refine l_op f rfl rfl rfl (r_not (f.eval rfl)) fun a f => ?_
 refine l_nil ?_
 rcases cond_some hd with ⟨hc_14, hd⟩ | ⟨hc_14, hd⟩
 ·refine k_true f rfl hc_14 ?_
  refine k_seq (k_region ?_)
  refine l_mv f rfl rfl fun a f => ?_
  refine l_as f rfl rfl fun a f => ?_
  refine l_nil ?_
  refine k_ret ?_
  have m := m.eraseAt 1
  obtain rfl := sj hd
  exact ⟨[v_4], ⟨f.get _ _ rfl, trivial⟩, f.defers, _, [it_3], hl_10, m, _, _, rfl, rfl, o_5⟩
 ·refine k_false f rfl hc_14 ?_
  refine k_skip ?_
  refine k_seq (k_region ?_)
  refine l_boxAgg 1 0 (ds := [v0_0]) m Ag27 f rfl rfl rfl rfl rfl fun a f => ?_
  obtain ⟨y_15, hy_16, hd⟩ := bind_some hd
  refine l_res f rfl rfl Tryd.call34 (Wk.spec_l25Bits m h0_0 hy_16) fun v_20 G_17 Ho_21 w hl_18 m hQ_19 a f => ?_
  obtain ⟨v_22, it_23, rfl, rfl, o_24⟩ := hQ_19
  have h0_0 := RSl.mono (RSl.mono (RI.mono _)) _ _ _ _ hl_18 h0_0
  have o_5 := Ow.mono (RSl.mono (RI.mono _)) hl_18 o_5
  refine l_as f rfl rfl fun a f => ?_
  refine l_nil (k_seq (k_region ?_))
  refine l_slit (R := (RI .i64)) (xs := ([] : List Int)) (RI.one _) m T36 f rfl rfl rfl (by decide) (All2.nil _) fun it_26 v_27 w a m o_28 f => ?_
  refine l_as f rfl rfl fun a f => ?_
  refine l_nil (k_seq (k_seq (k_region ?_)))
  refine l_as f rfl rfl fun a f => ?_
  refine l_nil ?_
  obtain ⟨q_223, hl_224, hd⟩ := bind_some hd
  refine k_cut (fun a w => ∃ l_331 : List Int, l_331 = q_223 ∧ ∃ (G_330 : GH) (v_332 : Value) (it_333 : Itm), GLe G_17 G_330 ∧ Fr a 69 [(3, v_4), (5, v_332)] ∧ Mem W G_330 w (it_3 :: it_333 :: H) ∧ Ow (RI .i64) 2 G_330 it_333 v_332 l_331) ?_ ?_
  ·refine k_block ?_
   have m := m.front 1 rfl
   have m := m.front 2 rfl
   have m := m.front 3 rfl
   refine k_loop (fun s_227 a w => ∃ l_230 : List Int, ∃ x_235 : Int, (l_230, x_235) = s_227 ∧ ∃ (G_229 : GH) (v_231 : Value) (it_232 : Itm), GLe G_17 G_229 ∧ Fr a 69 [(1, (.pointer (some ⟨b_2, 0, none⟩))), (3, v_4), (4, v_22), (5, v_231), (6, (.int .i64 x_235))] ∧ Mem W G_229 w (Itm.box b_2 27 [v0_0] :: it_3 :: it_23 :: it_232 :: H) ∧ Ow (RI .i64) 2 G_229 it_232 v_231 l_230) hl_224 ⟨_, _, rfl, _, v_27, it_26, (GLe.refl _), f.weak ⟨rfl, rfl, rfl, rfl, rfl, trivial⟩, m, o_28⟩ ?_
   clear hl_224 f m
   rintro s_227 o_228 hs_225 hq_226 a w ⟨l_230, x_235, rfl, G_229, v_231, it_232, hl_236, f, m, o_233⟩
   have h0_0 := RSl.mono (RSl.mono (RI.mono _)) _ _ _ _ hl_236 h0_0
   have o_5 := Ow.mono (RSl.mono (RI.mono _)) hl_236 o_5
   have o_24 := Ow.mono (RI.mono _) hl_236 o_24
   refine k_seq (k_seq (k_region ?_))
   refine l_mv f rfl rfl fun a f => ?_
   refine l_boxAgg 0 0 (ds := [v0_0]) m Ag27 f rfl rfl rfl rfl rfl fun a f => ?_
   obtain ⟨y_337, hy_338, hs_225⟩ := bind_some hs_225
   refine l_res f rfl rfl Tryd.call35 (Wk.spec_l25All m h0_0 hy_338) fun v_342 G_339 Ho_343 w hl_340 m hQ_341 a f => ?_
   obtain ⟨rfl, rfl⟩ := hQ_341
   have h0_0 := RSl.mono (RSl.mono (RI.mono _)) _ _ _ _ hl_340 h0_0
   have o_5 := Ow.mono (RSl.mono (RI.mono _)) hl_340 o_5
   have o_24 := Ow.mono (RI.mono _) hl_340 o_24
   have o_233 := Ow.mono (RI.mono _) hl_340 o_233
   refine l_in f rfl rfl rfl b_leq fun a f => ?_
   refine l_nil ?_
   rcases cond_some hs_225 with ⟨hc_344, hs_225⟩ | ⟨hc_344, hs_225⟩
   ·refine k_true f rfl hc_344 ?_
    refine k_skip ?_
    refine k_seq (k_block (k_seq (k_seq (k_region ?_))))
    refine l_mv f rfl rfl fun a f => ?_
    refine l_mv f rfl rfl fun a f => ?_
    obtain ⟨y_345, hy_346, hs_225⟩ := bind_some hs_225
    refine l_res f rfl rfl Tryd.call36 (Ow.lendCall (RI.mono _) 2 o_24 m rfl (fun G_347 hl_348 m h_349 => Wk.spec_l25Stable m h_349 hy_346) (fun _ _ _ _ h => h)) fun v_353 G_350 Ho_354 w hl_351 m hQ_352 a f => ?_
    obtain ⟨rfl, rfl⟩ := hQ_352
    have h0_0 := RSl.mono (RSl.mono (RI.mono _)) _ _ _ _ hl_351 h0_0
    have o_5 := Ow.mono (RSl.mono (RI.mono _)) hl_351 o_5
    have o_24 := Ow.mono (RI.mono _) hl_351 o_24
    have o_233 := Ow.mono (RI.mono _) hl_351 o_233
    refine l_op f rfl rfl rfl (r_not (f.eval rfl)) fun a f => ?_
    refine l_nil ?_
    rcases cond_some hs_225 with ⟨hc_355, hs_225⟩ | ⟨hc_355, hs_225⟩
    ·refine k_true f rfl hc_355 ?_
     refine k_exit rfl ?_
     refine k_region ?_
     refine l_mv f rfl rfl fun a f => ?_
     refine l_in f rfl rfl rfl b_add fun a f => ?_
     refine l_as f rfl rfl fun a f => ?_
     refine l_nil ?_
     have m := m.front 3 rfl
     have m := m.front 3 rfl
     have m := m.front 3 rfl
     have m := m.front 3 rfl
     obtain rfl := sj hs_225
     exact ⟨_, rfl, _, _, rfl, _, v_231, it_232, (GLe.trans hl_236 (GLe.trans hl_340 hl_351)), f.weak ⟨rfl, rfl, rfl, rfl, rfl, trivial⟩, m, o_233⟩
    ·refine k_false f rfl hc_355 ?_
     refine k_skip ?_
     refine k_seq (k_region ?_)
     refine l_mv f rfl rfl fun a f => ?_
     refine l_as f rfl rfl fun a f => ?_
     refine l_nil (k_seq (k_seq (k_region ?_)))
     refine l_as f rfl rfl fun a f => ?_
     refine l_nil ?_
     obtain ⟨q_377, hl_378, hs_225⟩ := bind_some hs_225
     refine k_cut (fun a w => ∃ x_397 : Int, x_397 = q_377 ∧ ∃ (G_396 : GH), GLe G_350 G_396 ∧ Fr a 69 [(1, (.pointer (some ⟨b_2, 0, none⟩))), (3, v_4), (4, v_22), (5, v_231), (6, (.int .i64 x_235)), (7, (.int .i64 x_397))] ∧ Mem W G_396 w (Itm.box b_2 27 [v0_0] :: it_3 :: it_23 :: it_232 :: H)) ?_ ?_
     ·refine k_block ?_
      have m := m.front 3 rfl
      have m := m.front 3 rfl
      have m := m.front 3 rfl
      have m := m.front 3 rfl
      refine k_loop (fun s_381 a w => ∃ x_384 : Int, ∃ x_385 : Int, (x_384, x_385) = s_381 ∧ ∃ (G_383 : GH), GLe G_350 G_383 ∧ Fr a 69 [(1, (.pointer (some ⟨b_2, 0, none⟩))), (3, v_4), (4, v_22), (5, v_231), (6, (.int .i64 x_235)), (7, (.int .i64 x_384)), (8, (.int .i64 x_385))] ∧ Mem W G_383 w (Itm.box b_2 27 [v0_0] :: it_3 :: it_23 :: it_232 :: H)) hl_378 ⟨_, _, rfl, _, (GLe.refl _), f.weak ⟨rfl, rfl, rfl, rfl, rfl, rfl, rfl, trivial⟩, m⟩ ?_
      clear hl_378 f m
      rintro s_381 o_382 hs_379 hq_380 a w ⟨x_384, x_385, rfl, G_383, hl_386, f, m⟩
      have h0_0 := RSl.mono (RSl.mono (RI.mono _)) _ _ _ _ hl_386 h0_0
      have o_5 := Ow.mono (RSl.mono (RI.mono _)) hl_386 o_5
      have o_24 := Ow.mono (RI.mono _) hl_386 o_24
      have o_233 := Ow.mono (RI.mono _) hl_386 o_233
      refine k_seq (k_seq (k_region ?_))
      refine l_mv f rfl rfl fun a f => ?_
      refine l_mv f rfl rfl fun a f => ?_
      refine l_own_len 2 m o_24 rfl Tryd.underlying36 f rfl rfl fun a f => ?_
      refine l_in f rfl rfl rfl b_lss fun a f => ?_
      refine l_nil ?_
      rcases cond_some hs_379 with ⟨hc_399, hs_379⟩ | ⟨hc_399, hs_379⟩
      ·refine k_true f rfl hc_399 ?_
       refine k_skip ?_
       refine k_seq (k_block (k_seq (k_region ?_)))
       refine l_mv f rfl rfl fun a f => ?_
       refine l_mv f rfl rfl fun a f => ?_
       refine l_op f rfl rfl rfl (r_conv (f.eval rfl) ⟨_, Tryd.underlying3⟩ Tryd.underlying48) fun a f => ?_
       obtain ⟨hn_400, hs_379⟩ := cond_none hs_379
       refine l_op f rfl rfl rfl (r_shr (f.eval rfl) (f.eval rfl) hn_400) fun a f => ?_
       refine l_in f rfl rfl rfl b_and fun a f => ?_
       refine l_in f rfl rfl rfl b_eql fun a f => ?_
       refine l_nil ?_
       rcases cond_some hs_379 with ⟨hc_401, hs_379⟩ | ⟨hc_401, hs_379⟩
       ·refine k_true f rfl hc_401 ?_
        refine k_region ?_
        refine l_mv f rfl rfl fun a f => ?_
        refine l_mv f rfl rfl fun a f => ?_
        refine l_mv f rfl rfl fun a f => ?_
        obtain ⟨e_402, he_403, hs_379⟩ := bind_some hs_379
        refine l_own_at 2 m o_24 rfl T36 f rfl rfl rfl he_403 fun p_404 a ha_405 f => ?_
        refine l_own_load 2 m o_24 rfl Pl2 f rfl rfl ha_405 he_403 fun c_406 a h_407 f => ?_
        subst h_407
        refine l_in f rfl rfl rfl b_or fun a f => ?_
        refine l_as f rfl rfl fun a f => ?_
        refine l_nil (k_region ?_)
        refine l_mv f rfl rfl fun a f => ?_
        refine l_in f rfl rfl rfl b_add fun a f => ?_
        refine l_as f rfl rfl fun a f => ?_
        refine l_nil ?_
        have m := m.front 3 rfl
        have m := m.front 3 rfl
        have m := m.front 3 rfl
        have m := m.front 3 rfl
        obtain rfl := sj hs_379
        exact ⟨_, rfl, _, _, rfl, _, hl_386, f.weak ⟨rfl, rfl, rfl, rfl, rfl, rfl, rfl, trivial⟩, m⟩
       ·refine k_false f rfl hc_401 ?_
        refine k_skip ?_
        refine k_region ?_
        refine l_mv f rfl rfl fun a f => ?_
        refine l_in f rfl rfl rfl b_add fun a f => ?_
        refine l_as f rfl rfl fun a f => ?_
        refine l_nil ?_
        have m := m.front 3 rfl
        have m := m.front 3 rfl
        have m := m.front 3 rfl
        have m := m.front 3 rfl
        obtain rfl := sj hs_379
        exact ⟨_, rfl, _, _, rfl, _, hl_386, f.weak ⟨rfl, rfl, rfl, rfl, rfl, rfl, rfl, trivial⟩, m⟩
      ·refine k_false f rfl hc_399 ?_
       refine k_exit rfl ?_
       have m := m.front 3 rfl
       have m := m.front 3 rfl
       have m := m.front 3 rfl
       have m := m.front 3 rfl
       obtain rfl := sj hs_379
       obtain rfl := hq_380 _ rfl
       exact ⟨_, rfl, _, hl_386, f.weak ⟨rfl, rfl, rfl, rfl, rfl, rfl, trivial⟩, m⟩
     ·rintro a w ⟨x_397, rfl, G_396, hl_398, f, m⟩
      have h0_0 := RSl.mono (RSl.mono (RI.mono _)) _ _ _ _ hl_398 h0_0
      have o_5 := Ow.mono (RSl.mono (RI.mono _)) hl_398 o_5
      have o_24 := Ow.mono (RI.mono _) hl_398 o_24
      have o_233 := Ow.mono (RI.mono _) hl_398 o_233
      refine k_seq (k_region ?_)
      refine l_mv f rfl rfl fun a f => ?_
      refine l_boxAgg 0 0 (ds := [v0_0]) m Ag27 f rfl rfl rfl rfl rfl fun a f => ?_
      obtain ⟨y_408, hy_409, hs_225⟩ := bind_some hs_225
      refine l_res f rfl rfl Tryd.call35 (Wk.spec_l25All m h0_0 hy_409) fun v_413 G_410 Ho_414 w hl_411 m hQ_412 a f => ?_
      obtain ⟨rfl, rfl⟩ := hQ_412
      have h0_0 := RSl.mono (RSl.mono (RI.mono _)) _ _ _ _ hl_411 h0_0
      have o_5 := Ow.mono (RSl.mono (RI.mono _)) hl_411 o_5
      have o_24 := Ow.mono (RI.mono _) hl_411 o_24
      have o_233 := Ow.mono (RI.mono _) hl_411 o_233
      refine l_in f rfl rfl rfl b_eql fun a f => ?_
      refine l_nil ?_
      rcases cond_some hs_225 with ⟨hc_415, hs_225⟩ | ⟨hc_415, hs_225⟩
      ·refine k_true f rfl hc_415 ?_
       refine k_region ?_
       refine l_mv f rfl rfl fun a f => ?_
       refine l_mv f rfl rfl fun a f => ?_
       obtain ⟨y_416, hy_417, hs_225⟩ := bind_some hs_225
       refine l_res f rfl rfl Tryd.call37 (Ow.lendCall (RI.mono _) 3 o_233 m rfl (fun G_418 hl_419 m h_420 => Wk.spec_l25Insert m h_420 hy_417) (fun _ G' _ _ ⟨a0, a1, e1, e2, o0⟩ => ⟨a0, a1, e1, e2, Ow.free (RI.free _) G' o0⟩)) fun v_424 G_421 Ho_425 w hl_422 m hQ_423 a f => ?_
       obtain ⟨v_426, it_427, rfl, rfl, o_428⟩ := hQ_423
       have h0_0 := RSl.mono (RSl.mono (RI.mono _)) _ _ _ _ hl_422 h0_0
       have o_5 := Ow.mono (RSl.mono (RI.mono _)) hl_422 o_5
       have o_24 := Ow.mono (RI.mono _) hl_422 o_24
       have o_233 := Ow.mono (RI.mono _) hl_422 o_233
       refine l_as f rfl rfl fun a f => ?_
       refine l_nil (k_region ?_)
       refine l_mv f rfl rfl fun a f => ?_
       refine l_in f rfl rfl rfl b_add fun a f => ?_
       refine l_as f rfl rfl fun a f => ?_
       refine l_nil ?_
       have m := m.front 3 rfl
       have m := m.front 3 rfl
       have m := m.front 3 rfl
       have m := m.eraseAt 4
       obtain rfl := sj hs_225
       exact ⟨_, rfl, _, _, rfl, _, v_426, it_427, (GLe.trans hl_236 (GLe.trans hl_340 (GLe.trans hl_351 (GLe.trans hl_398 (GLe.trans hl_411 hl_422))))), f.weak ⟨rfl, rfl, rfl, rfl, rfl, trivial⟩, m, o_428⟩
      ·refine k_false f rfl hc_415 ?_
       refine k_skip ?_
       refine k_region ?_
       refine l_mv f rfl rfl fun a f => ?_
       refine l_in f rfl rfl rfl b_add fun a f => ?_
       refine l_as f rfl rfl fun a f => ?_
       refine l_nil ?_
       have m := m.front 3 rfl
       have m := m.front 3 rfl
       have m := m.front 3 rfl
       have m := m.front 3 rfl
       obtain rfl := sj hs_225
       exact ⟨_, rfl, _, _, rfl, _, v_231, it_232, (GLe.trans hl_236 (GLe.trans hl_340 (GLe.trans hl_351 (GLe.trans hl_398 hl_411)))), f.weak ⟨rfl, rfl, rfl, rfl, rfl, trivial⟩, m, o_233⟩
   ·refine k_false f rfl hc_344 ?_
    refine k_exit rfl ?_
    have m := m.front 3 rfl
    have m := m.front 2 rfl
    have m := m.eraseAt 3
    have m := m.eraseAt 2
    obtain rfl := sj hs_225
    obtain rfl := hq_226 _ rfl
    exact ⟨_, rfl, _, v_231, it_232, (GLe.trans hl_236 hl_340), f.weak ⟨rfl, rfl, trivial⟩, m, o_233⟩
  ·rintro a w ⟨l_331, rfl, G_330, v_332, it_333, hl_336, f, m, o_334⟩
   have o_5 := Ow.mono (RSl.mono (RI.mono _)) hl_336 o_5
   refine k_seq (k_seq (k_region ?_))
   refine l_as f rfl rfl fun a f => ?_
   refine l_nil ?_
   obtain ⟨q_499, hl_500, hd⟩ := bind_some hd
   refine k_cut (fun a w => ∃ l_545 : List (List Int), l_545 = q_499 ∧ ∃ (G_544 : GH) (v_546 : Value) (it_547 : Itm), GLe G_330 G_544 ∧ Fr a 69 [(3, v_546)] ∧ Mem W G_544 w (it_547 :: H) ∧ Ow (RSl (RI .i64)) 36 G_544 it_547 v_546 l_545) ?_ ?_
   ·refine k_block ?_
    have m := m.front 1 rfl
    have m := m.front 1 rfl
    refine k_loop (fun s_503 a w => ∃ l_506 : List (List Int), ∃ x_511 : Int, (l_506, x_511) = s_503 ∧ ∃ (G_505 : GH) (v_507 : Value) (it_508 : Itm), GLe G_330 G_505 ∧ Fr a 69 [(3, v_507), (5, v_332), (9, (.int .i64 x_511))] ∧ Mem W G_505 w (it_508 :: it_333 :: H) ∧ Ow (RSl (RI .i64)) 36 G_505 it_508 v_507 l_506) hl_500 ⟨_, _, rfl, _, v_4, it_3, (GLe.refl _), f.weak ⟨rfl, rfl, rfl, trivial⟩, m, o_5⟩ ?_
    clear hl_500 f m
    rintro s_503 o_504 hs_501 hq_502 a w ⟨l_506, x_511, rfl, G_505, v_507, it_508, hl_512, f, m, o_509⟩
    have o_334 := Ow.mono (RI.mono _) hl_512 o_334
    refine k_seq (k_seq (k_region ?_))
    refine l_mv f rfl rfl fun a f => ?_
    refine l_mv f rfl rfl fun a f => ?_
    refine l_own_len 1 m o_334 rfl Tryd.underlying36 f rfl rfl fun a f => ?_
    refine l_in f rfl rfl rfl b_lss fun a f => ?_
    refine l_nil ?_
    rcases cond_some hs_501 with ⟨hc_551, hs_501⟩ | ⟨hc_551, hs_501⟩
    ·refine k_true f rfl hc_551 ?_
     refine k_skip ?_
     refine k_seq (k_block (k_region ?_))
     refine l_mv f rfl rfl fun a f => ?_
     refine l_mv f rfl rfl fun a f => ?_
     refine l_mv f rfl rfl fun a f => ?_
     obtain ⟨e_552, he_553, hs_501⟩ := bind_some hs_501
     refine l_own_at 1 m o_334 rfl T36 f rfl rfl rfl he_553 fun p_554 a ha_555 f => ?_
     refine l_own_load 1 m o_334 rfl Pl2 f rfl rfl ha_555 he_553 fun c_556 a h_557 f => ?_
     subst h_557
     obtain ⟨y_558, hy_559, hs_501⟩ := bind_some hs_501
     refine l_res f rfl rfl Tryd.call38 (Wk.spec_l25Set m  hy_559) fun v_563 G_560 Ho_564 w hl_561 m hQ_562 a f => ?_
     obtain ⟨v_565, it_566, rfl, rfl, o_567⟩ := hQ_562
     have o_509 := Ow.mono (RSl.mono (RI.mono _)) hl_561 o_509
     have o_334 := Ow.mono (RI.mono _) hl_561 o_334
     obtain ⟨G_569, hl_570, m, h_571⟩ := Ow.stamp (RI.mono _) o_567 m
     have o_509 := Ow.mono (RSl.mono (RI.mono _)) hl_570 o_509
     have o_334 := Ow.mono (RI.mono _) hl_570 o_334
     refine l_slit (R := (RSl (RI .i64))) (xs := ([y_558] : List (List Int))) (RSl.one _) m T22 f rfl rfl rfl (by decide) (All2.cons h_571 (All2.nil _)) fun it_572 v_573 w a m o_574 f => ?_
     obtain ⟨l_576, hx_577, hs_501⟩ := bind_some hs_501
     refine l_append (RSl.one _) 1 m o_509 rfl T22 rfl (by decide) f rfl rfl rfl (Ow.src (j := 0) o_574 m rfl) hx_577 fun it_578 v_579 w a m o_580 f => ?_
     refine l_as f rfl rfl fun a f => ?_
     refine l_nil (k_region ?_)
     refine l_mv f rfl rfl fun a f => ?_
     refine l_in f rfl rfl rfl b_add fun a f => ?_
     refine l_as f rfl rfl fun a f => ?_
     refine l_nil ?_
     have m := m.front 2 rfl
     have m := m.front 2 rfl
     have m := m.eraseAt 2
     obtain rfl := sj hs_501
     exact ⟨_, rfl, _, _, rfl, _, v_579, it_578, (GLe.trans hl_512 (GLe.trans hl_561 hl_570)), f.weak ⟨rfl, rfl, rfl, trivial⟩, m, o_580⟩
    ·refine k_false f rfl hc_551 ?_
     refine k_exit rfl ?_
     have m := m.eraseAt 1
     obtain rfl := sj hs_501
     obtain rfl := hq_502 _ rfl
     exact ⟨_, rfl, _, v_507, it_508, hl_512, f.weak ⟨rfl, trivial⟩, m, o_509⟩
   ·rintro a w ⟨l_545, rfl, G_544, v_546, it_547, hl_550, f, m, o_548⟩
    refine k_seq (k_region ?_)
    refine l_mv f rfl rfl fun a f => ?_
    refine l_as f rfl rfl fun a f => ?_
    refine l_nil ?_
    refine k_ret ?_
    obtain rfl := sj hd
    exact ⟨[v_546], ⟨f.get _ _ rfl, trivial⟩, f.defers, _, [it_547], (GLe.trans hl_10 (GLe.trans hl_18 (GLe.trans hl_336 hl_550))), m, _, _, rfl, rfl, o_548⟩

theorem Wk.impl_inRange {W w : World} {G : GH} {H : List Itm} {x0 : Int} {x1 : Int} {x2 : Int} (m : Mem W G w (H))  {y : Bool} (hd : D.impl_inRange x0 x1 x2 = some y) :
  Calls Tryd.prog 97 #[(.int .i64 x0), (.int .i64 x1), (.int .i64 x2)] w (Res W G H (fun _ Ho v => Ho = [] ∧ v = (.bool y))) := by
 refine calls_b (args := [(.int .i64 x0), (.int .i64 x1), (.int .i64 x2)]) (N := 15) [.tmp 6] Tryd.func97 rfl rfl (Nat.le_of_ble_eq_true rfl) rfl fun a f => ?_
 unfold D.impl_inRange at hd
 refine k_seq (k_region ?_)
 refine l_as f rfl rfl fun a f => ?_
 refine l_nil (k_seq (k_region ?_))
 refine l_mv f rfl rfl fun a f => ?_
 refine l_mv f rfl rfl fun a f => ?_
 refine l_in f rfl rfl rfl b_leq fun a f => ?_
 refine l_mv f rfl rfl fun a f => ?_
 refine l_cut 4 (fun a w => ∃ G_2, GLe G G_2 ∧ Mem W G_2 w (H) ∧ Fr a 15 [(0, (.int .i64 x0)), (1, (.int .i64 x1)), (2, (.int .i64 x2)), (7, (.int .i64 x1)), (8, (.int .i64 x0)), (9, (.bool (decide (x1 ≤ x0)))), (10, (.bool (decide (x1 ≤ x0)))), (14, (.bool ((decide (x1 ≤ x0)) && (decide (x0 ≤ x2)))))]) ?_ ?_
 ·rcases Bool.eq_false_or_eq_true (decide (x1 ≤ x0)) with hc_1 | hc_1
  ·refine l_run f rfl rfl hc_1 ?_
   refine l_mv f rfl rfl fun a f => ?_
   refine l_run f rfl rfl hc_1 ?_
   refine l_mv f rfl rfl fun a f => ?_
   refine l_run f rfl rfl hc_1 ?_
   refine l_in f rfl rfl rfl b_leq fun a f => ?_
   refine l_op f rfl rfl rfl (r_pickT (f.eval rfl) hc_1 (f.eval rfl)) fun a f => ?_
   exact ⟨_, (GLe.refl _), m, f.weak ⟨rfl, rfl, rfl, rfl, rfl, rfl, rfl, by rw [hc_1]; rfl, trivial⟩⟩
  ·refine l_not' f rfl rfl rfl hc_1 fun a f => ?_
   refine l_not' f rfl rfl rfl hc_1 fun a f => ?_
   refine l_not' f rfl rfl rfl hc_1 fun a f => ?_
   refine l_op f rfl rfl rfl (r_pickF (f.eval rfl) hc_1 (f.eval rfl)) fun a f => ?_
   exact ⟨_, (GLe.refl _), m, f.weak ⟨rfl, rfl, rfl, rfl, rfl, rfl, rfl, by rw [hc_1]; rfl, trivial⟩⟩
 ·rintro a w ⟨G_2, hl_3, m, f⟩
  refine l_as f rfl rfl fun a f => ?_
  refine l_nil ?_
  refine k_ret ?_
  obtain rfl := sj hd
  exact ⟨[(.bool ((decide (x1 ≤ x0)) && (decide (x0 ≤ x2))))], ⟨f.get _ _ rfl, trivial⟩, f.defers, _, [], hl_3, m, rfl, rfl⟩

theorem Wk.impl_increasing {W w : World} {G : GH} {H : List Itm} {v0 : Value} {x0 : (List Int)} {x1 : Int} (m : Mem W G w (H)) (h0 : RSl (RI .i64) G v0 x0) {y : Bool} (hd : D.impl_increasing x0 x1 = some y) :
  Calls Tryd.prog 55 #[v0, (.int .i64 x1)] w (Res W G H (fun _ Ho v => Ho = [] ∧ v = (.bool y))) := by
 refine calls_b (args := [v0, (.int .i64 x1)]) (N := 33) [.tmp 4] Tryd.func55 rfl rfl (Nat.le_of_ble_eq_true rfl) rfl fun a f => ?_
 unfold D.impl_increasing at hd
 refine k_seq (k_region ?_)
 refine l_as f rfl rfl fun a f => ?_
 refine l_nil (k_seq (k_seq (k_region ?_)))
 refine l_mv f rfl rfl fun a f => ?_
 refine l_len Tryd.underlying36 f rfl rfl h0 fun a f => ?_
 refine l_mv f rfl rfl fun a f => ?_
 refine l_nil ?_
 obtain ⟨q_181, hl_182, hd⟩ := bind_some hd
 refine k_cut (fun a w => ∃ q_181' : Unit, q_181 = .inl q_181' ∧ ∃ (G_279 : GH), GLe G G_279 ∧ Fr a 33 [] ∧ Mem W G_279 w (H)) ?_ ?_
 ·refine k_block ?_
  refine k_loop (fun s_185 a w => ∃ x_188 : Int, x_188 = s_185 ∧ ∃ (G_187 : GH), GLe G G_187 ∧ Fr a 33 [(0, v0), (1, (.int .i64 x1)), (7, v0), (8, (.int .i64 (x0.length : Int))), (9, (.int .i64 x_188))] ∧ Mem W G_187 w (H)) hl_182 ⟨_, rfl, _, (GLe.refl _), f.weak ⟨rfl, rfl, rfl, rfl, rfl, trivial⟩, m⟩ ?_
  clear hl_182 f m
  rintro s_185 o_186 hs_183 hq_184 a w ⟨x_188, rfl, G_187, hl_189, f, m⟩
  have h0 := RSl.mono (RI.mono _) _ _ _ _ hl_189 h0
  refine k_seq (k_region ?_)
  refine l_in f rfl rfl rfl b_lss fun a f => ?_
  refine l_nil (k_seq ?_)
  rcases cond_some hs_183 with ⟨hc_281, hs_183⟩ | ⟨hc_281, hs_183⟩
  ·refine k_true f rfl hc_281 ?_
   refine k_skip ?_
   refine k_seq (k_block (k_seq (k_region ?_)))
   refine l_mv f rfl rfl fun a f => ?_
   obtain ⟨e_282, he_283, hs_183⟩ := bind_some hs_183
   refine l_at T36 f rfl rfl rfl h0 he_283 fun p_284 c_285 a g_286 h_287 f => ?_
   subst h_287
   refine l_loadAt m Pl2 f rfl rfl g_286 fun a f => ?_
   refine l_as f rfl rfl fun a f => ?_
   refine l_as f rfl rfl fun a f => ?_
   refine l_nil (k_seq (k_region ?_))
   refine l_mv f rfl rfl fun a f => ?_
   refine l_mv f rfl rfl fun a f => ?_
   refine l_in f rfl rfl rfl b_sub fun a f => ?_
   obtain ⟨y_288, hy_289, hs_183⟩ := bind_some hs_183
   refine l_res f rfl rfl Tryd.call97 (Wk.impl_inRange m  hy_289) fun v_293 G_290 Ho_294 w hl_291 m hQ_292 a f => ?_
   obtain ⟨rfl, rfl⟩ := hQ_292
   have h0 := RSl.mono (RI.mono _) _ _ _ _ hl_291 h0
   refine l_op f rfl rfl rfl (r_not (f.eval rfl)) fun a f => ?_
   refine l_mv f rfl rfl fun a f => ?_
   obtain ⟨b_344, hj_345, hs_183⟩ := bind_some hs_183
   refine l_cut 12 (fun a w => ∃ G_342, GLe G_290 G_342 ∧ Mem W G_342 w (H) ∧ Fr a 33 [(0, v0), (1, (.int .i64 x1)), (5, (.int .i64 x_188)), (6, (.int .i64 e_282)), (7, v0), (8, (.int .i64 (x0.length : Int))), (9, (.int .i64 x_188)), (14, (.int .i64 e_282)), (15, (.int .i64 x1)), (16, (.int .i64 (IntKind.i64.wrap (x1 - 1)))), (17, (.bool y_288)), (18, (.bool (!y_288))), (19, (.bool (!y_288))), (31, (.bool b_344))]) ?_ ?_
   ·rcases cond_some hj_345 with ⟨hc_295, hj_345⟩ | ⟨hc_295, hj_345⟩
    ·refine l_not' f rfl rfl rfl hc_295 fun a f => ?_
     refine l_not' f rfl rfl rfl hc_295 fun a f => ?_
     refine l_not' f rfl rfl rfl hc_295 fun a f => ?_
     refine l_notU f rfl rfl rfl fun a f => ?_
     refine l_notU f rfl rfl rfl fun a f => ?_
     refine l_notU f rfl rfl rfl fun a f => ?_
     refine l_notU f rfl rfl rfl fun a f => ?_
     refine l_notU f rfl rfl rfl fun a f => ?_
     refine l_notU f rfl rfl rfl fun a f => ?_
     refine l_notU f rfl rfl rfl fun a f => ?_
     refine l_not' f rfl rfl rfl hc_295 fun a f => ?_
     refine l_op f rfl rfl rfl (r_pickT (f.eval rfl) hc_295 (f.eval rfl)) fun a f => ?_
     obtain rfl := sj hj_345
     exact ⟨_, (GLe.refl _), m, f.weak ⟨rfl, rfl, rfl, rfl, rfl, rfl, rfl, rfl, rfl, rfl, rfl, rfl, rfl, rfl, trivial⟩⟩
    ·refine l_run f rfl rfl hc_295 ?_
     refine l_mv f rfl rfl fun a f => ?_
     refine l_run f rfl rfl hc_295 ?_
     refine l_in f rfl rfl rfl b_gtr fun a f => ?_
     refine l_run f rfl rfl hc_295 ?_
     refine l_mv f rfl rfl fun a f => ?_
     obtain ⟨b_361, hj_362, hj_345⟩ := bind_some hj_345
     refine l_cut 8 (fun a w => ∃ G_359, GLe G_290 G_359 ∧ Mem W G_359 w (H) ∧ Fr a 33 [(0, v0), (1, (.int .i64 x1)), (5, (.int .i64 x_188)), (6, (.int .i64 e_282)), (7, v0), (8, (.int .i64 (x0.length : Int))), (9, (.int .i64 x_188)), (14, (.int .i64 e_282)), (15, (.int .i64 x1)), (16, (.int .i64 (IntKind.i64.wrap (x1 - 1)))), (17, (.bool y_288)), (18, (.bool (!y_288))), (19, (.bool (!y_288))), (20, (.int .i64 x_188)), (21, (.bool (decide ((0 : Int) < x_188)))), (22, (.bool (decide ((0 : Int) < x_188)))), (30, (.bool b_361))]) ?_ ?_
     ·rcases cond_some hj_362 with ⟨hc_346, hj_362⟩ | ⟨hc_346, hj_362⟩
      ·refine l_run f rfl rfl hc_346 ?_
       refine l_mv f rfl rfl fun a f => ?_
       refine l_run f rfl rfl hc_346 ?_
       refine l_mv f rfl rfl fun a f => ?_
       refine l_run f rfl rfl hc_346 ?_
       refine l_in f rfl rfl rfl b_sub fun a f => ?_
       refine l_run f rfl rfl hc_346 ?_
       obtain ⟨e_363, he_364, hj_362⟩ := bind_some hj_362
       refine l_at T36 f rfl rfl rfl h0 he_364 fun p_365 c_366 a g_367 h_368 f => ?_
       subst h_368
       refine l_run f rfl rfl hc_346 ?_
       refine l_loadAt m Pl2 f rfl rfl g_367 fun a f => ?_
       refine l_run f rfl rfl hc_346 ?_
       refine l_mv f rfl rfl fun a f => ?_
       refine l_run f rfl rfl hc_346 ?_
       refine l_in f rfl rfl rfl b_geq fun a f => ?_
       refine l_run f rfl rfl hc_295 ?_
       refine l_op f rfl rfl rfl (r_pickT (f.eval rfl) hc_346 (f.eval rfl)) fun a f => ?_
       obtain rfl := sj hj_362
       exact ⟨_, (GLe.refl _), m, f.weak ⟨rfl, rfl, rfl, rfl, rfl, rfl, rfl, rfl, rfl, rfl, rfl, rfl, rfl, rfl, rfl, rfl, rfl, trivial⟩⟩
      ·refine l_not' f rfl rfl rfl hc_346 fun a f => ?_
       refine l_not' f rfl rfl rfl hc_346 fun a f => ?_
       refine l_not' f rfl rfl rfl hc_346 fun a f => ?_
       refine l_not' f rfl rfl rfl hc_346 fun a f => ?_
       refine l_not' f rfl rfl rfl hc_346 fun a f => ?_
       refine l_not' f rfl rfl rfl hc_346 fun a f => ?_
       refine l_not' f rfl rfl rfl hc_346 fun a f => ?_
       refine l_run f rfl rfl hc_295 ?_
       refine l_op f rfl rfl rfl (r_pickF (f.eval rfl) hc_346 (f.eval rfl)) fun a f => ?_
       obtain rfl := sj hj_362
       exact ⟨_, (GLe.refl _), m, f.weak ⟨rfl, rfl, rfl, rfl, rfl, rfl, rfl, rfl, rfl, rfl, rfl, rfl, rfl, rfl, rfl, rfl, rfl, trivial⟩⟩
     ·rintro a w ⟨G_359, hl_360, m, f⟩
      have h0 := RSl.mono (RI.mono _) _ _ _ _ hl_360 h0
      refine l_op f rfl rfl rfl (r_pickF (f.eval rfl) hc_295 (f.eval rfl)) fun a f => ?_
      obtain rfl := sj hj_345
      exact ⟨_, hl_360, m, f.weak ⟨rfl, rfl, rfl, rfl, rfl, rfl, rfl, rfl, rfl, rfl, rfl, rfl, rfl, rfl, trivial⟩⟩
   ·rintro a w ⟨G_342, hl_343, m, f⟩
    have h0 := RSl.mono (RI.mono _) _ _ _ _ hl_343 h0
    refine l_nil ?_
    rcases cond_some hs_183 with ⟨hc_369, hs_183⟩ | ⟨hc_369, hs_183⟩
    ·refine k_true f rfl hc_369 ?_
     refine k_seq (k_region ?_)
     refine l_as f rfl rfl fun a f => ?_
     refine l_nil ?_
     refine k_ret ?_
     obtain rfl := sj hs_183
     obtain rfl := hq_184 _ rfl
     obtain rfl := sj hd
     exact ⟨[(.bool false)], ⟨f.get _ _ rfl, trivial⟩, f.defers, _, [], (GLe.trans hl_189 (GLe.trans hl_291 hl_343)), m, rfl, rfl⟩
    ·refine k_false f rfl hc_369 ?_
     refine k_skip ?_
     refine k_region ?_
     refine l_in f rfl rfl rfl b_add fun a f => ?_
     refine l_mv f rfl rfl fun a f => ?_
     refine l_nil ?_
     obtain rfl := sj hs_183
     exact ⟨_, rfl, _, rfl, _, (GLe.trans hl_189 (GLe.trans hl_291 hl_343)), f.weak ⟨rfl, rfl, rfl, rfl, rfl, trivial⟩, m⟩
  ·refine k_false f rfl hc_281 ?_
   refine k_exit rfl ?_
   obtain rfl := sj hs_183
   obtain rfl := hq_184 _ rfl
   exact ⟨_, rfl, _, hl_189, f.weak trivial, m⟩
 ·rintro a w ⟨_, rfl, G_279, hl_280, f, m⟩
  refine k_seq (k_region ?_)
  refine l_as f rfl rfl fun a f => ?_
  refine l_nil ?_
  refine k_ret ?_
  obtain rfl := sj hd
  exact ⟨[(.bool true)], ⟨f.get _ _ rfl, trivial⟩, f.defers, _, [], hl_280, m, rfl, rfl⟩

theorem Wk.impl_GraphOk {W w : World} {G : GH} {H : List Itm} {v0_0 : Value} {x0_0 : (List (List Int))} (m : Mem W G w (H)) (h0_0 : RSl (RSl (RI .i64)) G v0_0 x0_0) {y : Bool} (hd : D.impl_GraphOk x0_0 = some y) :
  Calls Tryd.prog 40 #[(.agg #[v0_0])] w (Res W G H (fun _ Ho v => Ho = [] ∧ v = (.bool y))) := by
 refine calls_b (args := [(.agg #[v0_0])]) (N := 61) [.tmp 2] Tryd.func40 rfl rfl (Nat.le_of_ble_eq_true rfl) rfl fun a f => ?_
 unfold D.impl_GraphOk at hd
 refine k_seq (k_region ?_)
 refine l_box (cs := [v0_0]) m f rfl rfl rfl fun b_2 w a m f => ?_
 refine l_as f rfl rfl fun a f => ?_
 refine l_nil (k_seq (k_region ?_))
 refine l_fieldAddr Tryd.underlying27 rfl Tryd.sizeOf22 (by decide) f rfl rfl fun a f => ?_
 refine l_boxCell 0 0 m Pl22 f rfl rfl rfl rfl fun a f => ?_
 refine l_len Tryd.underlying22 f rfl rfl h0_0 fun a f => ?_
 refine l_as f rfl rfl fun a f => ?_
 refine l_nil (k_seq (k_seq (k_region ?_)))
 refine l_mv f rfl rfl fun a f => ?_
 refine l_in f rfl rfl rfl b_lss fun a f => ?_
 refine l_mv f rfl rfl fun a f => ?_
 refine l_cut 3 (fun a w => ∃ G_4, GLe G G_4 ∧ Mem W G_4 w (Itm.box b_2 27 [v0_0] :: H) ∧ Fr a 61 [(0, (.agg #[v0_0])), (1, (.pointer (some ⟨b_2, 0, none⟩))), (3, (.int .i64 (x0_0.length : Int))), (13, (.int .i64 (x0_0.length : Int))), (14, (.bool (decide ((x0_0.length : Int) < 1)))), (15, (.bool (decide ((x0_0.length : Int) < 1)))), (18, (.bool ((decide ((x0_0.length : Int) < 1)) || (decide ((16 : Int) < (x0_0.length : Int))))))]) ?_ ?_
 ·rcases Bool.eq_false_or_eq_true (decide ((x0_0.length : Int) < 1)) with hc_3 | hc_3
  ·refine l_not' f rfl rfl rfl hc_3 fun a f => ?_
   refine l_not' f rfl rfl rfl hc_3 fun a f => ?_
   refine l_op f rfl rfl rfl (r_pickT (f.eval rfl) hc_3 (f.eval rfl)) fun a f => ?_
   exact ⟨_, (GLe.refl _), m, f.weak ⟨rfl, rfl, rfl, rfl, rfl, rfl, by rw [hc_3]; rfl, trivial⟩⟩
  ·refine l_run f rfl rfl hc_3 ?_
   refine l_mv f rfl rfl fun a f => ?_
   refine l_run f rfl rfl hc_3 ?_
   refine l_in f rfl rfl rfl b_gtr fun a f => ?_
   refine l_op f rfl rfl rfl (r_pickF (f.eval rfl) hc_3 (f.eval rfl)) fun a f => ?_
   exact ⟨_, (GLe.refl _), m, f.weak ⟨rfl, rfl, rfl, rfl, rfl, rfl, by rw [hc_3]; rfl, trivial⟩⟩
 ·rintro a w ⟨G_4, hl_5, m, f⟩
  have h0_0 := RSl.mono (RSl.mono (RI.mono _)) _ _ _ _ hl_5 h0_0
  refine l_nil ?_
  rcases cond_some hd with ⟨hc_6, hd⟩ | ⟨hc_6, hd⟩
  ·refine k_true f rfl hc_6 ?_
   refine k_seq (k_region ?_)
   refine l_as f rfl rfl fun a f => ?_
   refine l_nil ?_
   refine k_ret ?_
   have m : Mem W G_4 w H := Mem.drop (H' := [Itm.box b_2 27 [v0_0]]) m
   obtain rfl := sj hd
   exact ⟨[(.bool false)], ⟨f.get _ _ rfl, trivial⟩, f.defers, _, [], hl_5, m, rfl, rfl⟩
  ·refine k_false f rfl hc_6 ?_
   refine k_skip ?_
   refine k_seq (k_seq (k_region ?_))
   refine l_fieldAddr Tryd.underlying27 rfl Tryd.sizeOf22 (by decide) f rfl rfl fun a f => ?_
   refine l_boxCell 0 0 m Pl22 f rfl rfl rfl rfl fun a f => ?_
   refine l_len Tryd.underlying22 f rfl rfl h0_0 fun a f => ?_
   refine l_mv f rfl rfl fun a f => ?_
   refine l_nil ?_
   obtain ⟨q_91, hl_92, hd⟩ := bind_some hd
   refine k_cut (fun a w => ∃ q_91' : Unit, q_91 = .inl q_91' ∧ ∃ (G_141 : GH), GLe G_4 G_141 ∧ Fr a 61 [(1, (.pointer (some ⟨b_2, 0, none⟩)))] ∧ Mem W G_141 w (Itm.box b_2 27 [v0_0] :: H)) ?_ ?_
   ·refine k_block ?_
    refine k_loop (fun s_95 a w => ∃ x_98 : Int, x_98 = s_95 ∧ ∃ (G_97 : GH), GLe G_4 G_97 ∧ Fr a 61 [(1, (.pointer (some ⟨b_2, 0, none⟩))), (3, (.int .i64 (x0_0.length : Int))), (20, v0_0), (21, (.int .i64 (x0_0.length : Int))), (22, (.int .i64 x_98))] ∧ Mem W G_97 w (Itm.box b_2 27 [v0_0] :: H)) hl_92 ⟨_, rfl, _, (GLe.refl _), f.weak ⟨rfl, rfl, rfl, rfl, rfl, trivial⟩, m⟩ ?_
    clear hl_92 f m
    rintro s_95 o_96 hs_93 hq_94 a w ⟨x_98, rfl, G_97, hl_99, f, m⟩
    have h0_0 := RSl.mono (RSl.mono (RI.mono _)) _ _ _ _ hl_99 h0_0
    refine k_seq (k_region ?_)
    refine l_in f rfl rfl rfl b_lss fun a f => ?_
    refine l_nil (k_seq ?_)
    rcases cond_some hs_93 with ⟨hc_143, hs_93⟩ | ⟨hc_143, hs_93⟩
    ·refine k_true f rfl hc_143 ?_
     refine k_skip ?_
     refine k_seq (k_block (k_seq (k_region ?_)))
     refine l_mv f rfl rfl fun a f => ?_
     obtain ⟨e_144, he_145, hs_93⟩ := bind_some hs_93
     refine l_at T22 f rfl rfl rfl h0_0 he_145 fun p_146 c_147 a g_148 h_149 f => ?_
     refine l_loadAt m Pl36 f rfl rfl g_148 fun a f => ?_
     refine l_as f rfl rfl fun a f => ?_
     refine l_as f rfl rfl fun a f => ?_
     refine l_nil (k_seq (k_region ?_))
     refine l_mv f rfl rfl fun a f => ?_
     refine l_mv f rfl rfl fun a f => ?_
     obtain ⟨y_150, hy_151, hs_93⟩ := bind_some hs_93
     refine l_res f rfl rfl Tryd.call55 (Wk.impl_increasing m h_149 hy_151) fun v_155 G_152 Ho_156 w hl_153 m hQ_154 a f => ?_
     obtain ⟨rfl, rfl⟩ := hQ_154
     have h_149 := RSl.mono (RI.mono _) _ _ _ _ hl_153 h_149
     have h0_0 := RSl.mono (RSl.mono (RI.mono _)) _ _ _ _ hl_153 h0_0
     refine l_op f rfl rfl rfl (r_not (f.eval rfl)) fun a f => ?_
     refine l_mv f rfl rfl fun a f => ?_
     obtain ⟨b_174, hj_175, hs_93⟩ := bind_some hs_93
     refine l_cut 4 (fun a w => ∃ G_172, GLe G_152 G_172 ∧ Mem W G_172 w (Itm.box b_2 27 [v0_0] :: H) ∧ Fr a 61 [(1, (.pointer (some ⟨b_2, 0, none⟩))), (3, (.int .i64 (x0_0.length : Int))), (4, (.int .i64 x_98)), (5, c_147), (20, v0_0), (21, (.int .i64 (x0_0.length : Int))), (22, (.int .i64 x_98)), (27, c_147), (28, (.int .i64 (x0_0.length : Int))), (29, (.bool y_150)), (30, (.bool (!y_150))), (31, (.bool (!y_150))), (35, (.bool b_174))]) ?_ ?_
     ·rcases cond_some hj_175 with ⟨hc_157, hj_175⟩ | ⟨hc_157, hj_175⟩
      ·refine l_not' f rfl rfl rfl hc_157 fun a f => ?_
       refine l_not' f rfl rfl rfl hc_157 fun a f => ?_
       refine l_not' f rfl rfl rfl hc_157 fun a f => ?_
       refine l_op f rfl rfl rfl (r_pickT (f.eval rfl) hc_157 (f.eval rfl)) fun a f => ?_
       obtain rfl := sj hj_175
       exact ⟨_, (GLe.refl _), m, f.weak ⟨rfl, rfl, rfl, rfl, rfl, rfl, rfl, rfl, rfl, rfl, rfl, rfl, rfl, trivial⟩⟩
      ·refine l_run f rfl rfl hc_157 ?_
       refine l_mv f rfl rfl fun a f => ?_
       refine l_run f rfl rfl hc_157 ?_
       refine l_mv f rfl rfl fun a f => ?_
       refine l_run f rfl rfl hc_157 ?_
       obtain ⟨y_176, hy_177, hj_175⟩ := bind_some hj_175
       refine l_res f rfl rfl Tryd.call78 (Wk.slices_Contains_int64_int64 m h_149 hy_177) fun v_181 G_178 Ho_182 w hl_179 m hQ_180 a f => ?_
       obtain ⟨rfl, rfl⟩ := hQ_180
       have h_149 := RSl.mono (RI.mono _) _ _ _ _ hl_179 h_149
       have h0_0 := RSl.mono (RSl.mono (RI.mono _)) _ _ _ _ hl_179 h0_0
       refine l_op f rfl rfl rfl (r_pickF (f.eval rfl) hc_157 (f.eval rfl)) fun a f => ?_
       obtain rfl := sj hj_175
       exact ⟨_, hl_179, m, f.weak ⟨rfl, rfl, rfl, rfl, rfl, rfl, rfl, rfl, rfl, rfl, rfl, rfl, rfl, trivial⟩⟩
     ·rintro a w ⟨G_172, hl_173, m, f⟩
      have h_149 := RSl.mono (RI.mono _) _ _ _ _ hl_173 h_149
      have h0_0 := RSl.mono (RSl.mono (RI.mono _)) _ _ _ _ hl_173 h0_0
      refine l_nil ?_
      rcases cond_some hs_93 with ⟨hc_183, hs_93⟩ | ⟨hc_183, hs_93⟩
      ·refine k_true f rfl hc_183 ?_
       refine k_seq (k_region ?_)
       refine l_as f rfl rfl fun a f => ?_
       refine l_nil ?_
       refine k_ret ?_
       have m : Mem W G_172 w H := Mem.drop (H' := [Itm.box b_2 27 [v0_0]]) m
       obtain rfl := sj hs_93
       obtain rfl := hq_94 _ rfl
       obtain rfl := sj hd
       exact ⟨[(.bool false)], ⟨f.get _ _ rfl, trivial⟩, f.defers, _, [], (GLe.trans hl_5 (GLe.trans hl_99 (GLe.trans hl_153 hl_173))), m, rfl, rfl⟩
      ·refine k_false f rfl hc_183 ?_
       refine k_skip ?_
       refine k_region ?_
       refine l_in f rfl rfl rfl b_add fun a f => ?_
       refine l_mv f rfl rfl fun a f => ?_
       refine l_nil ?_
       obtain rfl := sj hs_93
       exact ⟨_, rfl, _, rfl, _, (GLe.trans hl_99 (GLe.trans hl_153 hl_173)), f.weak ⟨rfl, rfl, rfl, rfl, rfl, trivial⟩, m⟩
    ·refine k_false f rfl hc_143 ?_
     refine k_exit rfl ?_
     obtain rfl := sj hs_93
     obtain rfl := hq_94 _ rfl
     exact ⟨_, rfl, _, hl_99, f.weak ⟨rfl, trivial⟩, m⟩
   ·rintro a w ⟨_, rfl, G_141, hl_142, f, m⟩
    have h0_0 := RSl.mono (RSl.mono (RI.mono _)) _ _ _ _ hl_142 h0_0
    refine k_seq (k_seq (k_region ?_))
    refine l_fieldAddr Tryd.underlying27 rfl Tryd.sizeOf22 (by decide) f rfl rfl fun a f => ?_
    refine l_boxCell 0 0 m Pl22 f rfl rfl rfl rfl fun a f => ?_
    refine l_len Tryd.underlying22 f rfl rfl h0_0 fun a f => ?_
    refine l_mv f rfl rfl fun a f => ?_
    refine l_nil ?_
    obtain ⟨q_394, hl_395, hd⟩ := bind_some hd
    refine k_cut (fun a w => ∃ q_394' : Unit, q_394 = .inl q_394' ∧ ∃ (G_507 : GH), GLe G_141 G_507 ∧ Fr a 61 [] ∧ Mem W G_507 w (H)) ?_ ?_
    ·refine k_block ?_
     refine k_loop (fun s_398 a w => ∃ x_401 : Int, x_401 = s_398 ∧ ∃ (G_400 : GH), GLe G_141 G_400 ∧ Fr a 61 [(1, (.pointer (some ⟨b_2, 0, none⟩))), (38, v0_0), (39, (.int .i64 (x0_0.length : Int))), (40, (.int .i64 x_401))] ∧ Mem W G_400 w (Itm.box b_2 27 [v0_0] :: H)) hl_395 ⟨_, rfl, _, (GLe.refl _), f.weak ⟨rfl, rfl, rfl, rfl, trivial⟩, m⟩ ?_
     clear hl_395 f m
     rintro s_398 o_399 hs_396 hq_397 a w ⟨x_401, rfl, G_400, hl_402, f, m⟩
     have h0_0 := RSl.mono (RSl.mono (RI.mono _)) _ _ _ _ hl_402 h0_0
     refine k_seq (k_region ?_)
     refine l_in f rfl rfl rfl b_lss fun a f => ?_
     refine l_nil (k_seq ?_)
     rcases cond_some hs_396 with ⟨hc_509, hs_396⟩ | ⟨hc_509, hs_396⟩
     ·refine k_true f rfl hc_509 ?_
      refine k_skip ?_
      refine k_seq (k_block (k_seq (k_region ?_)))
      refine l_mv f rfl rfl fun a f => ?_
      obtain ⟨e_510, he_511, hs_396⟩ := bind_some hs_396
      refine l_at T22 f rfl rfl rfl h0_0 he_511 fun p_512 c_513 a g_514 h_515 f => ?_
      refine l_loadAt m Pl36 f rfl rfl g_514 fun a f => ?_
      refine l_as f rfl rfl fun a f => ?_
      refine l_as f rfl rfl fun a f => ?_
      refine l_nil (k_seq (k_region ?_))
      refine l_mv f rfl rfl fun a f => ?_
      refine l_len Tryd.underlying36 f rfl rfl h_515 fun a f => ?_
      refine l_mv f rfl rfl fun a f => ?_
      refine l_nil ?_
      obtain ⟨q_560, hl_561, hs_396⟩ := bind_some hs_396
      refine k_cut (fun a w => ∃ q_560' : Unit, q_560 = .inl q_560' ∧ ∃ (G_590 : GH), GLe G_400 G_590 ∧ Fr a 61 [(1, (.pointer (some ⟨b_2, 0, none⟩))), (38, v0_0), (39, (.int .i64 (x0_0.length : Int))), (40, (.int .i64 x_401))] ∧ Mem W G_590 w (Itm.box b_2 27 [v0_0] :: H)) ?_ ?_
      ·refine k_block ?_
       refine k_loop (fun s_564 a w => ∃ x_567 : Int, x_567 = s_564 ∧ ∃ (G_566 : GH), GLe G_400 G_566 ∧ Fr a 61 [(1, (.pointer (some ⟨b_2, 0, none⟩))), (6, (.int .i64 x_401)), (38, v0_0), (39, (.int .i64 (x0_0.length : Int))), (40, (.int .i64 x_401)), (45, c_513), (46, (.int .i64 (e_510.length : Int))), (47, (.int .i64 x_567))] ∧ Mem W G_566 w (Itm.box b_2 27 [v0_0] :: H)) hl_561 ⟨_, rfl, _, (GLe.refl _), f.weak ⟨rfl, rfl, rfl, rfl, rfl, rfl, rfl, rfl, trivial⟩, m⟩ ?_
       clear hl_561 f m
       rintro s_564 o_565 hs_562 hq_563 a w ⟨x_567, rfl, G_566, hl_568, f, m⟩
       have h0_0 := RSl.mono (RSl.mono (RI.mono _)) _ _ _ _ hl_568 h0_0
       have h_515 := RSl.mono (RI.mono _) _ _ _ _ hl_568 h_515
       refine k_seq (k_region ?_)
       refine l_in f rfl rfl rfl b_lss fun a f => ?_
       refine l_nil (k_seq ?_)
       rcases cond_some hs_562 with ⟨hc_592, hs_562⟩ | ⟨hc_592, hs_562⟩
       ·refine k_true f rfl hc_592 ?_
        refine k_skip ?_
        refine k_seq (k_block (k_seq (k_region ?_)))
        obtain ⟨e_593, he_594, hs_562⟩ := bind_some hs_562
        refine l_at T36 f rfl rfl rfl h_515 he_594 fun p_595 c_596 a g_597 h_598 f => ?_
        subst h_598
        refine l_loadAt m Pl2 f rfl rfl g_597 fun a f => ?_
        refine l_as f rfl rfl fun a f => ?_
        refine l_nil (k_seq (k_region ?_))
        refine l_fieldAddr Tryd.underlying27 rfl Tryd.sizeOf22 (by decide) f rfl rfl fun a f => ?_
        refine l_boxCell 0 0 m Pl22 f rfl rfl rfl rfl fun a f => ?_
        refine l_mv f rfl rfl fun a f => ?_
        obtain ⟨e_599, he_600, hs_562⟩ := bind_some hs_562
        refine l_at T22 f rfl rfl rfl h0_0 he_600 fun p_601 c_602 a g_603 h_604 f => ?_
        refine l_loadAt m Pl36 f rfl rfl g_603 fun a f => ?_
        refine l_mv f rfl rfl fun a f => ?_
        obtain ⟨y_605, hy_606, hs_562⟩ := bind_some hs_562
        refine l_res f rfl rfl Tryd.call78 (Wk.slices_Contains_int64_int64 m h_604 hy_606) fun v_610 G_607 Ho_611 w hl_608 m hQ_609 a f => ?_
        obtain ⟨rfl, rfl⟩ := hQ_609
        have h0_0 := RSl.mono (RSl.mono (RI.mono _)) _ _ _ _ hl_608 h0_0
        have h_515 := RSl.mono (RI.mono _) _ _ _ _ hl_608 h_515
        have g_603 := At.mono hl_608 g_603
        have h_604 := RSl.mono (RI.mono _) _ _ _ _ hl_608 h_604
        refine l_op f rfl rfl rfl (r_not (f.eval rfl)) fun a f => ?_
        refine l_nil ?_
        rcases cond_some hs_562 with ⟨hc_612, hs_562⟩ | ⟨hc_612, hs_562⟩
        ·refine k_true f rfl hc_612 ?_
         refine k_seq (k_region ?_)
         refine l_as f rfl rfl fun a f => ?_
         refine l_nil ?_
         refine k_ret ?_
         have m : Mem W G_607 w H := Mem.drop (H' := [Itm.box b_2 27 [v0_0]]) m
         obtain rfl := sj hs_562
         obtain rfl := hq_563 _ rfl
         obtain rfl := sj hs_396
         obtain rfl := hq_397 _ rfl
         obtain rfl := sj hd
         exact ⟨[(.bool false)], ⟨f.get _ _ rfl, trivial⟩, f.defers, _, [], (GLe.trans hl_5 (GLe.trans hl_142 (GLe.trans hl_402 (GLe.trans hl_568 hl_608)))), m, rfl, rfl⟩
        ·refine k_false f rfl hc_612 ?_
         refine k_skip ?_
         refine k_region ?_
         refine l_in f rfl rfl rfl b_add fun a f => ?_
         refine l_mv f rfl rfl fun a f => ?_
         refine l_nil ?_
         obtain rfl := sj hs_562
         exact ⟨_, rfl, _, rfl, _, (GLe.trans hl_568 hl_608), f.weak ⟨rfl, rfl, rfl, rfl, rfl, rfl, rfl, rfl, trivial⟩, m⟩
       ·refine k_false f rfl hc_592 ?_
        refine k_exit rfl ?_
        obtain rfl := sj hs_562
        obtain rfl := hq_563 _ rfl
        exact ⟨_, rfl, _, hl_568, f.weak ⟨rfl, rfl, rfl, rfl, trivial⟩, m⟩
      ·rintro a w ⟨_, rfl, G_590, hl_591, f, m⟩
       have h0_0 := RSl.mono (RSl.mono (RI.mono _)) _ _ _ _ hl_591 h0_0
       refine k_region ?_
       refine l_in f rfl rfl rfl b_add fun a f => ?_
       refine l_mv f rfl rfl fun a f => ?_
       refine l_nil ?_
       obtain rfl := sj hs_396
       exact ⟨_, rfl, _, rfl, _, (GLe.trans hl_402 hl_591), f.weak ⟨rfl, rfl, rfl, rfl, trivial⟩, m⟩
     ·refine k_false f rfl hc_509 ?_
      refine k_exit rfl ?_
      have m : Mem W G_400 w H := Mem.drop (H' := [Itm.box b_2 27 [v0_0]]) m
      obtain rfl := sj hs_396
      obtain rfl := hq_397 _ rfl
      exact ⟨_, rfl, _, hl_402, f.weak trivial, m⟩
    ·rintro a w ⟨_, rfl, G_507, hl_508, f, m⟩
     refine k_seq (k_region ?_)
     refine l_as f rfl rfl fun a f => ?_
     refine l_nil ?_
     refine k_ret ?_
     obtain rfl := sj hd
     exact ⟨[(.bool true)], ⟨f.get _ _ rfl, trivial⟩, f.defers, _, [], (GLe.trans hl_5 (GLe.trans hl_142 hl_508)), m, rfl, rfl⟩

end Go.Proofs.YtocakchlhemmeaaDoor
