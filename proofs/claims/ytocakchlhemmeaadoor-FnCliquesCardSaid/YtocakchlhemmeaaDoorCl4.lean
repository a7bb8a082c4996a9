/- Parts of the proof: CEW, CFW. -/
import Derived.Test.YtocakchlhemmeaaDoorCl3
import Derived.Test.YtocakchlhemmeaaDoorProg
import Derived.KernelRfl
set_option linter.unusedVariables false
set_option linter.unusedSimpArgs false
set_option linter.unusedSectionVars false
set_option maxRecDepth 100000
namespace Go.Proofs.YtocakchlhemmeaaDoor
open Go Go.Sx
theorem T34 : SlT Tryd.prog 34 5 1 1 (.int .u8 0) := ⟨Tryd.underlying34, Tryd.t5, by kernel_rfl, by kernel_rfl, by kernel_rfl, by kernel_rfl⟩
theorem Pl34 : Plain Tryd.prog 34 := Tryd.isAgg34

theorem Wk.laws_big {W w : World} {G : GH} {H : List Itm} {v0 : Value} {x0 : (List Int)} (m : Mem W G w (H)) (h0 : RSl (RI .u8) G v0 x0) {y : Bool} (hd : D.laws_big x0 = some y) :
  Calls Tryd.prog 15 #[v0] w (Res W G H (fun _ Ho v => Ho = [] ∧ v = (.bool y))) := by
 refine calls_b (args := [v0]) (N := 6) [.tmp 2] Tryd.func15 rfl rfl (Nat.le_of_ble_eq_true rfl) rfl fun a f => ?_
 unfold D.laws_big at hd
 refine k_seq (k_region ?_)
 refine l_as f rfl rfl fun a f => ?_
 refine l_nil (k_seq (k_region ?_))
 refine l_mv f rfl rfl fun a f => ?_
 refine l_len Tryd.underlying34 f rfl rfl h0 fun a f => ?_
 refine l_in f rfl rfl rfl b_gtr fun a f => ?_
 refine l_as f rfl rfl fun a f => ?_
 refine l_nil ?_
 refine k_ret ?_
 obtain rfl := sj hd
 exact ⟨[(.bool (decide ((4096 : Int) < (x0.length : Int))))], ⟨f.get _ _ rfl, trivial⟩, f.defers, _, [], (GLe.refl _), m, rfl, rfl⟩

theorem Wk.spec_l1New {W w : World} {G : GH} {H : List Itm} {v0 : Value} {x0 : (List Int)} (m : Mem W G w (H)) (h0 : RSl (RI .u8) G v0 x0) {y : ((List Int)) × Int × Int} (hd : D.spec_l1New x0 = some y) :
  Calls Tryd.prog 50 #[v0] w (Res W G H (fun G' Ho v => ∃ r0 : Value, ∃ c1 : Nat, Ho = [Itm.box c1 94 [r0, (.int .i64 y.2.1), (.int .i64 y.2.2)]] ∧ v = (.pointer (some ⟨c1, 0, none⟩)) ∧ RSl (RI .u8) G' r0 y.1)) := by
 refine calls_b (args := [v0]) (N := 28) [.tmp 2] Tryd.func50 rfl rfl (Nat.le_of_ble_eq_true rfl) rfl fun a f => ?_
 unfold D.spec_l1New at hd
 refine k_seq (k_region ?_)
 refine l_as f rfl rfl fun a f => ?_
 refine l_nil (k_seq (k_region ?_))
 refine l_mv f rfl rfl fun a f => ?_
 refine l_len Tryd.underlying34 f rfl rfl h0 fun a f => ?_
 refine l_in f rfl rfl rfl b_add fun a f => ?_
 refine l_as f rfl rfl fun a f => ?_
 refine l_nil (k_seq (k_seq (k_region ?_)))
 refine l_as f rfl rfl fun a f => ?_
 refine l_nil ?_
 obtain ⟨q_18, hl_19, hd⟩ := bind_some hd
 refine k_cut (fun a w => ∃ x_36 : Int, x_36 = q_18 ∧ ∃ (G_35 : GH), GLe G G_35 ∧ Fr a 28 [(0, v0), (3, (.int .i64 x_36))] ∧ Mem W G_35 w (H)) ?_ ?_
 ·refine k_block ?_
  refine k_loop (fun s_22 a w => ∃ x_25 : Int, ∃ x_26 : Int, (x_25, x_26) = s_22 ∧ ∃ (G_24 : GH), GLe G G_24 ∧ Fr a 28 [(0, v0), (3, (.int .i64 x_25)), (4, (.int .i64 x_26))] ∧ Mem W G_24 w (H)) hl_19 ⟨_, _, rfl, _, (GLe.refl _), f.weak ⟨rfl, rfl, rfl, trivial⟩, m⟩ ?_
  clear hl_19 f m
  rintro s_22 o_23 hs_20 hq_21 a w ⟨x_25, x_26, rfl, G_24, hl_27, f, m⟩
  have h0 := RSl.mono (RI.mono _) _ _ _ _ hl_27 h0
  refine k_seq (k_seq (k_region ?_))
  refine l_mv f rfl rfl fun a f => ?_
  refine l_mv f rfl rfl fun a f => ?_
  refine l_len Tryd.underlying34 f rfl rfl h0 fun a f => ?_
  refine l_in f rfl rfl rfl b_lss fun a f => ?_
  refine l_nil ?_
  rcases cond_some hs_20 with ⟨hc_38, hs_20⟩ | ⟨hc_38, hs_20⟩
  ·refine k_true f rfl hc_38 ?_
   refine k_skip ?_
   refine k_seq (k_block (k_region ?_))
   refine l_mv f rfl rfl fun a f => ?_
   refine l_in f rfl rfl rfl b_mul fun a f => ?_
   refine l_mv f rfl rfl fun a f => ?_
   refine l_mv f rfl rfl fun a f => ?_
   obtain ⟨e_39, he_40, hs_20⟩ := bind_some hs_20
   refine l_at T34 f rfl rfl rfl h0 he_40 fun p_41 c_42 a g_43 h_44 f => ?_
   subst h_44
   refine l_loadAt m Pl5 f rfl rfl g_43 fun a f => ?_
   refine l_op f rfl rfl rfl (r_conv (f.eval rfl) ⟨_, Tryd.underlying5⟩ Tryd.underlying2) fun a f => ?_
   refine l_in f rfl rfl rfl b_add fun a f => ?_
   refine l_in f rfl rfl rfl b_add fun a f => ?_
   refine l_in f rfl rfl rfl b_and fun a f => ?_
   refine l_as f rfl rfl fun a f => ?_
   refine l_nil (k_region ?_)
   refine l_mv f rfl rfl fun a f => ?_
   refine l_in f rfl rfl rfl b_add fun a f => ?_
   refine l_as f rfl rfl fun a f => ?_
   refine l_nil ?_
   obtain rfl := sj hs_20
   exact ⟨_, rfl, _, _, rfl, _, hl_27, f.weak ⟨rfl, rfl, rfl, trivial⟩, m⟩
  ·refine k_false f rfl hc_38 ?_
   refine k_exit rfl ?_
   obtain rfl := sj hs_20
   obtain rfl := hq_21 _ rfl
   exact ⟨_, rfl, _, hl_27, f.weak ⟨rfl, rfl, trivial⟩, m⟩
 ·rintro a w ⟨x_36, rfl, G_35, hl_37, f, m⟩
  have h0 := RSl.mono (RI.mono _) _ _ _ _ hl_37 h0
  refine k_seq (k_region ?_)
  refine l_mv f rfl rfl fun a f => ?_
  refine l_mv f rfl rfl fun a f => ?_
  have hb_45 : ∀ w, (Instr.build 94 #[(0, v0), (2, (.int .i64 x_36))]).run Tryd.prog w = .ok (.agg #[v0, (.int .i64 0), (.int .i64 x_36)]) w := by intro w; simp [Instr.build, Instr.fill, h0.cells, cells_int, cells_bool, cells_string, cells_slice, cells_pointer, cells_agg]
  refine l_build f rfl rfl hb_45 fun a f => ?_
  refine l_box (cs := [v0, (.int .i64 0), (.int .i64 x_36)]) m f rfl rfl rfl fun b_47 w a m f => ?_
  refine l_as f rfl rfl fun a f => ?_
  refine l_nil ?_
  refine k_ret ?_
  obtain rfl := sj hd
  exact ⟨[(.pointer (some ⟨b_47, 0, none⟩))], ⟨f.get _ _ rfl, trivial⟩, f.defers, _, [Itm.box b_47 94 [v0, (.int .i64 0), (.int .i64 x_36)]], hl_37, m, _, _, rfl, rfl, h0⟩

theorem Wk.spec_l1Byte {W w : World} {G : GH} {H : List Itm} {v0_0 : Value} {b0 : Nat} {x0_0 : (List Int)} {x0_1 : Int} {x0_2 : Int} (m : Mem W G w (Itm.box b0 94 [v0_0, (.int .i64 x0_1), (.int .i64 x0_2)] :: H)) (h0_0 : RSl (RI .u8) G v0_0 x0_0) {y : Int × ((List Int)) × Int × Int} (hd : D.spec_l1Byte x0_0 x0_1 x0_2 = some y) :
  Calls Tryd.prog 124 #[(.pointer (some ⟨b0, 0, none⟩))] w (Res W G H (fun G' Ho v => ∃ r0 : Value, Ho = [Itm.box b0 94 [r0, (.int .i64 y.2.2.1), (.int .i64 y.2.2.2)]] ∧ v = (.int .i64 y.1) ∧ RSl (RI .u8) G' r0 y.2.1)) := by
 refine calls_b (args := [(.pointer (some ⟨b0, 0, none⟩))]) (N := 58) [.tmp 2] Tryd.func124 rfl rfl (Nat.le_of_ble_eq_true rfl) rfl fun a f => ?_
 unfold D.spec_l1Byte at hd
 refine k_seq (k_region ?_)
 refine l_as f rfl rfl fun a f => ?_
 refine l_nil (k_seq (k_region ?_))
 refine l_mv f rfl rfl fun a f => ?_
 refine l_mv f rfl rfl fun a f => ?_
 refine l_op f rfl rfl rfl (r_nilCheck (f.eval rfl)) fun a f => ?_
 refine l_fieldAddr Tryd.underlying94 rfl Tryd.sizeOf2 (by decide) f rfl rfl fun a f => ?_
 refine l_boxCell 0 2 m Pl2 f rfl rfl rfl rfl fun a f => ?_
 refine l_in f rfl rfl rfl b_mul fun a f => ?_
 refine l_in f rfl rfl rfl b_add fun a f => ?_
 refine l_op f rfl rfl rfl (r_nilCheck (f.eval rfl)) fun a f => ?_
 refine l_fieldAddr Tryd.underlying94 rfl Tryd.sizeOf2 (by decide) f rfl rfl fun a f => ?_
 refine l_boxStore 0 2 (ds := [(.int .i64 (IntKind.i64.wrap ((IntKind.i64.wrap (x0_2 * 6364136223846793005)) + 1442695040888963407)))]) m Tryd.sizeOf2 f rfl rfl rfl (ones_cons rfl ones_nil) rfl (Nat.le_of_ble_eq_true rfl) rfl fun w m => ?_
 refine l_nil (k_seq ?_)
 refine k_draw 13 Follows (by kernel_rfl) m ?_
 refine q_mv 0 13 rfl (by kernel_rfl) f rfl rfl rfl fun a f => ?_
 refine q_p 1 13 rfl (by kernel_rfl) f rfl rfl rfl (fun _ => r_nilCheck (f.eval rfl)) fun a f => ?_
 refine q_fieldAddr (i := 2) 13 Tryd.underlying94 rfl Tryd.sizeOf2 (by decide) rfl (by kernel_rfl) rfl f rfl rfl rfl fun a f => ?_
 refine q_boxCell (i := 3) 13 0 Pl2 rfl rfl rfl (by kernel_rfl) rfl f rfl rfl rfl fun a f => ?_
 refine q_p 4 13 rfl (by kernel_rfl) f rfl rfl rfl (fun _ => r_shr (f.eval rfl) (f.eval rfl) (by decide)) fun a f => ?_
 refine q_mv 5 13 rfl (by kernel_rfl) f rfl rfl rfl fun a f => ?_
 refine q_p 6 13 rfl (by kernel_rfl) f rfl rfl rfl (fun _ => r_nilCheck (f.eval rfl)) fun a f => ?_
 refine q_fieldAddr (i := 7) 13 Tryd.underlying94 rfl Tryd.sizeOf2 (by decide) rfl (by kernel_rfl) rfl f rfl rfl rfl fun a f => ?_
 refine q_boxCell (i := 8) 13 0 Pl2 rfl rfl rfl (by kernel_rfl) rfl f rfl rfl rfl fun a f => ?_
 refine q_p 9 13 rfl (by kernel_rfl) f rfl rfl rfl (fun _ => r_shr (f.eval rfl) (f.eval rfl) (by decide)) fun a f => ?_
 refine q_p 10 13 rfl (by kernel_rfl) f rfl rfl rfl (fun _ => r_int (f.eval rfl) (f.eval rfl) b_xor) fun a f => ?_
 refine q_p 11 13 rfl (by kernel_rfl) f rfl rfl rfl (fun _ => r_int (f.eval rfl) (f.eval rfl) b_and) fun a f => ?_
 refine q_p 12 13 rfl (by kernel_rfl) f rfl rfl rfl (fun _ => r_assign (f.eval rfl)) fun a f => ?_
 refine q_end fun G_3 w hl_4 m => ?_
 have h0_0 := RSl.mono (RI.mono _) _ _ _ _ hl_4 h0_0
 refine l_nil (k_seq (k_seq ?_))
 refine k_draw 10 Follows (by kernel_rfl) m ?_
 refine q_mv 0 10 rfl (by kernel_rfl) f rfl rfl rfl fun a f => ?_
 refine q_p 1 10 rfl (by kernel_rfl) f rfl rfl rfl (fun _ => r_nilCheck (f.eval rfl)) fun a f => ?_
 refine q_fieldAddr (i := 2) 10 Tryd.underlying94 rfl Tryd.sizeOf3 (by decide) rfl (by kernel_rfl) rfl f rfl rfl rfl fun a f => ?_
 refine q_boxCell (i := 3) 10 0 Pl3 rfl rfl rfl (by kernel_rfl) rfl f rfl rfl rfl fun a f => ?_
 refine q_mv 4 10 rfl (by kernel_rfl) f rfl rfl rfl fun a f => ?_
 refine q_p 5 10 rfl (by kernel_rfl) f rfl rfl rfl (fun _ => r_nilCheck (f.eval rfl)) fun a f => ?_
 refine q_fieldAddr (i := 6) 10 Tryd.underlying94 rfl Tryd.sizeOf34 (by decide) rfl (by kernel_rfl) rfl f rfl rfl rfl fun a f => ?_
 refine q_boxCell (i := 7) 10 0 Pl34 rfl rfl rfl (by kernel_rfl) rfl f rfl rfl rfl fun a f => ?_
 refine q_len (i := 8) 10 Tryd.underlying34 h0_0 rfl (by kernel_rfl) rfl f rfl rfl rfl fun a f => ?_
 refine q_p 9 10 rfl (by kernel_rfl) f rfl rfl rfl (fun _ => r_int (f.eval rfl) (f.eval rfl) b_lss) fun a f => ?_
 refine q_end fun G_5 w hl_6 m => ?_
 have h0_0 := RSl.mono (RI.mono _) _ _ _ _ hl_6 h0_0
 refine l_nil ?_
 rcases cond_some hd with ⟨hc_7, hd⟩ | ⟨hc_7, hd⟩
 ·refine k_true f rfl hc_7 ?_
  refine k_seq ?_
  refine k_draw 15 Follows (by kernel_rfl) m ?_
  refine q_mv 0 15 rfl (by kernel_rfl) f rfl rfl rfl fun a f => ?_
  refine q_mv 1 15 rfl (by kernel_rfl) f rfl rfl rfl fun a f => ?_
  refine q_p 2 15 rfl (by kernel_rfl) f rfl rfl rfl (fun _ => r_nilCheck (f.eval rfl)) fun a f => ?_
  refine q_fieldAddr (i := 3) 15 Tryd.underlying94 rfl Tryd.sizeOf34 (by decide) rfl (by kernel_rfl) rfl f rfl rfl rfl fun a f => ?_
  refine q_boxCell (i := 4) 15 0 Pl34 rfl rfl rfl (by kernel_rfl) rfl f rfl rfl rfl fun a f => ?_
  refine q_mv 5 15 rfl (by kernel_rfl) f rfl rfl rfl fun a f => ?_
  refine q_p 6 15 rfl (by kernel_rfl) f rfl rfl rfl (fun _ => r_nilCheck (f.eval rfl)) fun a f => ?_
  refine q_fieldAddr (i := 7) 15 Tryd.underlying94 rfl Tryd.sizeOf3 (by decide) rfl (by kernel_rfl) rfl f rfl rfl rfl fun a f => ?_
  refine q_boxCell (i := 8) 15 0 Pl3 rfl rfl rfl (by kernel_rfl) rfl f rfl rfl rfl fun a f => ?_
  obtain ⟨e_8, he_9, hd⟩ := bind_some hd
  refine q_at (i := 9) 15 T34 h0_0 he_9 rfl (by kernel_rfl) rfl f rfl rfl rfl rfl fun p_10 c_11 a g_12 h_13 f => ?_
  subst h_13
  refine q_loadAt (i := 10) 15 Pl5 g_12 rfl (by kernel_rfl) rfl f rfl rfl rfl fun a f => ?_
  refine q_p 11 15 rfl (by kernel_rfl) f rfl rfl rfl (fun _ => r_conv (f.eval rfl) ⟨_, Tryd.underlying5⟩ Tryd.underlying2) fun a f => ?_
  refine q_p 12 15 rfl (by kernel_rfl) f rfl rfl rfl (fun _ => r_int (f.eval rfl) (f.eval rfl) b_add) fun a f => ?_
  refine q_p 13 15 rfl (by kernel_rfl) f rfl rfl rfl (fun _ => r_int (f.eval rfl) (f.eval rfl) b_and) fun a f => ?_
  refine q_p 14 15 rfl (by kernel_rfl) f rfl rfl rfl (fun _ => r_assign (f.eval rfl)) fun a f => ?_
  refine q_end fun G_14 w hl_15 m => ?_
  have h0_0 := RSl.mono (RI.mono _) _ _ _ _ hl_15 h0_0
  have g_12 := At.mono hl_15 g_12
  refine l_nil (k_region ?_)
  refine l_mv f rfl rfl fun a f => ?_
  refine l_mv f rfl rfl fun a f => ?_
  refine l_op f rfl rfl rfl (r_nilCheck (f.eval rfl)) fun a f => ?_
  refine l_fieldAddr Tryd.underlying94 rfl Tryd.sizeOf3 (by decide) f rfl rfl fun a f => ?_
  refine l_boxCell 0 1 m Pl3 f rfl rfl rfl rfl fun a f => ?_
  refine l_in f rfl rfl rfl b_add fun a f => ?_
  refine l_op f rfl rfl rfl (r_nilCheck (f.eval rfl)) fun a f => ?_
  refine l_fieldAddr Tryd.underlying94 rfl Tryd.sizeOf3 (by decide) f rfl rfl fun a f => ?_
  refine l_boxStore 0 1 (ds := [(.int .i64 (IntKind.i64.wrap (x0_1 + 1)))]) m Tryd.sizeOf3 f rfl rfl rfl (ones_cons rfl ones_nil) rfl (Nat.le_of_ble_eq_true rfl) rfl fun w m => ?_
  refine l_nil (k_seq (k_region ?_))
  refine l_mv f rfl rfl fun a f => ?_
  refine l_as f rfl rfl fun a f => ?_
  refine l_nil ?_
  refine k_ret ?_
  obtain rfl := sj hd
  exact ⟨[(.int .i64 (iand .i64 (IntKind.i64.wrap ((iand .i64 (ixor .i64 (ishr .i64 (IntKind.i64.wrap ((IntKind.i64.wrap (x0_2 * 6364136223846793005)) + 1442695040888963407)) 33) (ishr .i64 (IntKind.i64.wrap ((IntKind.i64.wrap (x0_2 * 6364136223846793005)) + 1442695040888963407)) 45)) 255) + (IntKind.i64.wrap e_8))) 255))], ⟨f.get _ _ rfl, trivial⟩, f.defers, _, [Itm.box b0 94 [v0_0, (.int .i64 (IntKind.i64.wrap (x0_1 + 1))), (.int .i64 (IntKind.i64.wrap ((IntKind.i64.wrap (x0_2 * 6364136223846793005)) + 1442695040888963407)))]], (GLe.trans hl_4 (GLe.trans hl_6 hl_15)), m, _, rfl, rfl, h0_0⟩
 ·refine k_false f rfl hc_7 ?_
  refine k_skip ?_
  refine k_seq (k_region ?_)
  refine l_mv f rfl rfl fun a f => ?_
  refine l_as f rfl rfl fun a f => ?_
  refine l_nil ?_
  refine k_ret ?_
  obtain rfl := sj hd
  exact ⟨[(.int .i64 (iand .i64 (ixor .i64 (ishr .i64 (IntKind.i64.wrap ((IntKind.i64.wrap (x0_2 * 6364136223846793005)) + 1442695040888963407)) 33) (ishr .i64 (IntKind.i64.wrap ((IntKind.i64.wrap (x0_2 * 6364136223846793005)) + 1442695040888963407)) 45)) 255))], ⟨f.get _ _ rfl, trivial⟩, f.defers, _, [Itm.box b0 94 [v0_0, (.int .i64 x0_1), (.int .i64 (IntKind.i64.wrap ((IntKind.i64.wrap (x0_2 * 6364136223846793005)) + 1442695040888963407)))]], (GLe.trans hl_4 hl_6), m, _, rfl, rfl, h0_0⟩

theorem Wk.spec_l1Below {W w : World} {G : GH} {H : List Itm} {v0_0 : Value} {b0 : Nat} {x0_0 : (List Int)} {x0_1 : Int} {x0_2 : Int} {x1 : Int} (m : Mem W G w (Itm.box b0 94 [v0_0, (.int .i64 x0_1), (.int .i64 x0_2)] :: H)) (h0_0 : RSl (RI .u8) G v0_0 x0_0) {y : Int × ((List Int)) × Int × Int} (hd : D.spec_l1Below x0_0 x0_1 x0_2 x1 = some y) :
  Calls Tryd.prog 89 #[(.pointer (some ⟨b0, 0, none⟩)), (.int .i64 x1)] w (Res W G H (fun G' Ho v => ∃ r0 : Value, Ho = [Itm.box b0 94 [r0, (.int .i64 y.2.2.1), (.int .i64 y.2.2.2)]] ∧ v = (.int .i64 y.1) ∧ RSl (RI .u8) G' r0 y.2.1)) := by
 refine calls_b (args := [(.pointer (some ⟨b0, 0, none⟩)), (.int .i64 x1)]) (N := 37) [.tmp 4] Tryd.func89 rfl rfl (Nat.le_of_ble_eq_true rfl) rfl fun a f => ?_
 unfold D.spec_l1Below at hd
 refine k_seq (k_region ?_)
 refine l_as f rfl rfl fun a f => ?_
 refine l_nil (k_seq (k_seq (k_region ?_)))
 refine l_mv f rfl rfl fun a f => ?_
 refine l_in f rfl rfl rfl b_leq fun a f => ?_
 refine l_nil ?_
 rcases cond_some hd with ⟨hc_1, hd⟩ | ⟨hc_1, hd⟩
 ·refine k_true f rfl hc_1 ?_
  refine k_seq (k_region ?_)
  refine l_as f rfl rfl fun a f => ?_
  refine l_nil ?_
  refine k_ret ?_
  obtain rfl := sj hd
  exact ⟨[(.int .i64 0)], ⟨f.get _ _ rfl, trivial⟩, f.defers, _, [Itm.box b0 94 [v0_0, (.int .i64 x0_1), (.int .i64 x0_2)]], (GLe.refl _), m, _, rfl, rfl, h0_0⟩
 ·refine k_false f rfl hc_1 ?_
  refine k_skip ?_
  refine k_seq (k_seq (k_region ?_))
  refine l_mv f rfl rfl fun a f => ?_
  refine l_in f rfl rfl rfl b_leq fun a f => ?_
  refine l_nil ?_
  rcases cond_some hd with ⟨hc_2, hd⟩ | ⟨hc_2, hd⟩
  ·refine k_true f rfl hc_2 ?_
   refine k_seq (k_region ?_)
   refine l_mv f rfl rfl fun a f => ?_
   obtain ⟨y_3, hy_4, hd⟩ := bind_some hd
   refine l_res f rfl rfl Tryd.call124 (Wk.spec_l1Byte m h0_0 hy_4) fun v_8 G_5 Ho_9 w hl_6 m hQ_7 a f => ?_
   obtain ⟨v_10, rfl, rfl, h_11⟩ := hQ_7
   refine l_mv f rfl rfl fun a f => ?_
   obtain ⟨hn_12, hd⟩ := cond_none hd
   refine l_in f rfl rfl rfl (b_rem hn_12) fun a f => ?_
   refine l_as f rfl rfl fun a f => ?_
   refine l_nil ?_
   refine k_ret ?_
   obtain rfl := sj hd
   exact ⟨[(.int .i64 (Int.tmod y_3.1 x1))], ⟨f.get _ _ rfl, trivial⟩, f.defers, _, [Itm.box b0 94 [v_10, (.int .i64 y_3.2.2.1), (.int .i64 y_3.2.2.2)]], hl_6, m, _, rfl, rfl, h_11⟩
  ·refine k_false f rfl hc_2 ?_
   refine k_skip ?_
   refine k_seq (k_region ?_)
   refine l_mv f rfl rfl fun a f => ?_
   obtain ⟨y_13, hy_14, hd⟩ := bind_some hd
   refine l_res f rfl rfl Tryd.call124 (Wk.spec_l1Byte m h0_0 hy_14) fun v_18 G_15 Ho_19 w hl_16 m hQ_17 a f => ?_
   obtain ⟨v_20, rfl, rfl, h_21⟩ := hQ_17
   refine l_as f rfl rfl fun a f => ?_
   refine l_nil (k_seq (k_region ?_))
   refine l_mv f rfl rfl fun a f => ?_
   obtain ⟨y_22, hy_23, hd⟩ := bind_some hd
   refine l_res f rfl rfl Tryd.call124 (Wk.spec_l1Byte m h_21 hy_23) fun v_27 G_24 Ho_28 w hl_25 m hQ_26 a f => ?_
   obtain ⟨v_29, rfl, rfl, h_30⟩ := hQ_26
   refine l_as f rfl rfl fun a f => ?_
   refine l_nil (k_seq (k_region ?_))
   refine l_mv f rfl rfl fun a f => ?_
   obtain ⟨y_31, hy_32, hd⟩ := bind_some hd
   refine l_res f rfl rfl Tryd.call124 (Wk.spec_l1Byte m h_30 hy_32) fun v_36 G_33 Ho_37 w hl_34 m hQ_35 a f => ?_
   obtain ⟨v_38, rfl, rfl, h_39⟩ := hQ_35
   refine l_as f rfl rfl fun a f => ?_
   refine l_nil (k_seq (k_region ?_))
   refine l_mv f rfl rfl fun a f => ?_
   obtain ⟨y_40, hy_41, hd⟩ := bind_some hd
   refine l_res f rfl rfl Tryd.call124 (Wk.spec_l1Byte m h_39 hy_41) fun v_45 G_42 Ho_46 w hl_43 m hQ_44 a f => ?_
   obtain ⟨v_47, rfl, rfl, h_48⟩ := hQ_44
   refine l_as f rfl rfl fun a f => ?_
   refine l_nil (k_seq (k_region ?_))
   refine l_mv f rfl rfl fun a f => ?_
   refine l_in f rfl rfl rfl b_mul fun a f => ?_
   refine l_mv f rfl rfl fun a f => ?_
   refine l_in f rfl rfl rfl b_mul fun a f => ?_
   refine l_in f rfl rfl rfl b_add fun a f => ?_
   refine l_mv f rfl rfl fun a f => ?_
   refine l_in f rfl rfl rfl b_mul fun a f => ?_
   refine l_in f rfl rfl rfl b_add fun a f => ?_
   refine l_mv f rfl rfl fun a f => ?_
   refine l_in f rfl rfl rfl b_add fun a f => ?_
   refine l_mv f rfl rfl fun a f => ?_
   obtain ⟨hn_49, hd⟩ := cond_none hd
   refine l_in f rfl rfl rfl (b_rem hn_49) fun a f => ?_
   refine l_as f rfl rfl fun a f => ?_
   refine l_nil ?_
   refine k_ret ?_
   obtain rfl := sj hd
   exact ⟨[(.int .i64 (Int.tmod (IntKind.i64.wrap ((IntKind.i64.wrap ((IntKind.i64.wrap ((IntKind.i64.wrap (y_13.1 * 16777216)) + (IntKind.i64.wrap (y_22.1 * 65536)))) + (IntKind.i64.wrap (y_31.1 * 256)))) + y_40.1)) x1))], ⟨f.get _ _ rfl, trivial⟩, f.defers, _, [Itm.box b0 94 [v_47, (.int .i64 y_40.2.2.1), (.int .i64 y_40.2.2.2)]], (GLe.trans hl_16 (GLe.trans hl_25 (GLe.trans hl_34 hl_43))), m, _, rfl, rfl, h_48⟩

theorem Wk.spec_l1Copy {W w : World} {G : GH} {H : List Itm} {v0 : Value} {x0 : (List Int)} (m : Mem W G w (H)) (h0 : RSl (RI .i64) G v0 x0) {y : ((List Int))} (hd : D.spec_l1Copy x0 = some y) :
  Calls Tryd.prog 92 #[v0] w (Res W G H (fun G' Ho v => ∃ r0 : Value, ∃ i0 : Itm, Ho = [i0] ∧ r0 = v ∧ Ow (RI .i64) 2 G' i0 r0 y)) := by
 refine calls_b (args := [v0]) (N := 6) [.tmp 2] Tryd.func92 rfl rfl (Nat.le_of_ble_eq_true rfl) rfl fun a f => ?_
 unfold D.spec_l1Copy at hd
 refine k_seq (k_region ?_)
 refine l_as f rfl rfl fun a f => ?_
 refine l_nil (k_seq (k_region ?_))
 refine l_slit (R := (RI .i64)) (xs := ([] : List Int)) (RI.one _) m T36 f rfl rfl rfl (by decide) (All2.nil _) fun it_1 v_2 w a m o_3 f => ?_
 refine l_mv f rfl rfl fun a f => ?_
 obtain ⟨l_5, hx_6, hd⟩ := bind_some hd
 refine l_append (RI.one _) 0 m o_3 rfl T36 rfl (by decide) f rfl rfl rfl (h0.src m) hx_6 fun it_7 v_8 w a m o_9 f => ?_
 refine l_as f rfl rfl fun a f => ?_
 refine l_nil ?_
 refine k_ret ?_
 obtain rfl := sj hd
 exact ⟨[v_8], ⟨f.get _ _ rfl, trivial⟩, f.defers, _, [it_7], (GLe.refl _), m, _, _, rfl, rfl, o_9⟩

theorem Wk.spec_l1Into {W w : World} {G : GH} {H : List Itm} {v0 : Value} {x0 : (List Int)} {x1 : Int} (m : Mem W G w (H)) (h0 : RSl (RI .i64) G v0 x0) {y : ((List Int))} (hd : D.spec_l1Into x0 x1 = some y) :
  Calls Tryd.prog 155 #[v0, (.int .i64 x1)] w (Res W G H (fun G' Ho v => ∃ r0 : Value, Ho = [] ∧ r0 = v ∧ RSl (RI .i64) G' r0 y)) := by
 refine calls_b (args := [v0, (.int .i64 x1)]) (N := 46) [.tmp 4] Tryd.func155 rfl rfl (Nat.le_of_ble_eq_true rfl) rfl fun a f => ?_
 unfold D.spec_l1Into at hd
 refine k_seq (k_region ?_)
 refine l_as f rfl rfl fun a f => ?_
 refine l_nil (k_seq (k_region ?_))
 refine l_as f rfl rfl fun a f => ?_
 refine l_nil (k_seq ?_)
 obtain ⟨q_51, hl_52, hd⟩ := bind_some hd
 refine k_cut (fun a w => ∃ x_85 : Int, x_85 = q_51 ∧ ∃ (G_84 : GH), GLe G G_84 ∧ Fr a 46 [(0, v0), (1, (.int .i64 x1)), (5, (.int .i64 x_85))] ∧ Mem W G_84 w (H)) ?_ ?_
 ·refine k_block ?_
  refine k_loop (fun s_55 a w => ∃ x_58 : Int, x_58 = s_55 ∧ ∃ (G_57 : GH), GLe G G_57 ∧ Fr a 46 [(0, v0), (1, (.int .i64 x1)), (5, (.int .i64 x_58))] ∧ Mem W G_57 w (H)) hl_52 ⟨_, rfl, _, (GLe.refl _), f.weak ⟨rfl, rfl, rfl, trivial⟩, m⟩ ?_
  clear hl_52 f m
  rintro s_55 o_56 hs_53 hq_54 a w ⟨x_58, rfl, G_57, hl_59, f, m⟩
  have h0 := RSl.mono (RI.mono _) _ _ _ _ hl_59 h0
  refine k_seq (k_seq (k_region ?_))
  refine l_mv f rfl rfl fun a f => ?_
  refine l_mv f rfl rfl fun a f => ?_
  refine l_len Tryd.underlying36 f rfl rfl h0 fun a f => ?_
  refine l_in f rfl rfl rfl b_lss fun a f => ?_
  refine l_mv f rfl rfl fun a f => ?_
  obtain ⟨b_102, hj_103, hs_53⟩ := bind_some hs_53
  refine l_cut 7 (fun a w => ∃ G_100, GLe G_57 G_100 ∧ Mem W G_100 w (H) ∧ Fr a 46 [(0, v0), (1, (.int .i64 x1)), (5, (.int .i64 x_58)), (7, (.int .i64 x_58)), (8, v0), (9, (.int .i64 (x0.length : Int))), (10, (.bool (decide (x_58 < (x0.length : Int))))), (11, (.bool (decide (x_58 < (x0.length : Int))))), (18, (.bool b_102))]) ?_ ?_
  ·rcases cond_some hj_103 with ⟨hc_87, hj_103⟩ | ⟨hc_87, hj_103⟩
   ·refine l_run f rfl rfl hc_87 ?_
    refine l_mv f rfl rfl fun a f => ?_
    refine l_run f rfl rfl hc_87 ?_
    refine l_mv f rfl rfl fun a f => ?_
    refine l_run f rfl rfl hc_87 ?_
    obtain ⟨e_104, he_105, hj_103⟩ := bind_some hj_103
    refine l_at T36 f rfl rfl rfl h0 he_105 fun p_106 c_107 a g_108 h_109 f => ?_
    subst h_109
    refine l_run f rfl rfl hc_87 ?_
    refine l_loadAt m Pl2 f rfl rfl g_108 fun a f => ?_
    refine l_run f rfl rfl hc_87 ?_
    refine l_mv f rfl rfl fun a f => ?_
    refine l_run f rfl rfl hc_87 ?_
    refine l_in f rfl rfl rfl b_lss fun a f => ?_
    refine l_op f rfl rfl rfl (r_pickT (f.eval rfl) hc_87 (f.eval rfl)) fun a f => ?_
    obtain rfl := sj hj_103
    exact ⟨_, (GLe.refl _), m, f.weak ⟨rfl, rfl, rfl, rfl, rfl, rfl, rfl, rfl, rfl, trivial⟩⟩
   ·refine l_not' f rfl rfl rfl hc_87 fun a f => ?_
    refine l_not' f rfl rfl rfl hc_87 fun a f => ?_
    refine l_not' f rfl rfl rfl hc_87 fun a f => ?_
    refine l_not' f rfl rfl rfl hc_87 fun a f => ?_
    refine l_not' f rfl rfl rfl hc_87 fun a f => ?_
    refine l_not' f rfl rfl rfl hc_87 fun a f => ?_
    refine l_op f rfl rfl rfl (r_pickF (f.eval rfl) hc_87 (f.eval rfl)) fun a f => ?_
    obtain rfl := sj hj_103
    exact ⟨_, (GLe.refl _), m, f.weak ⟨rfl, rfl, rfl, rfl, rfl, rfl, rfl, rfl, rfl, trivial⟩⟩
  ·rintro a w ⟨G_100, hl_101, m, f⟩
   have h0 := RSl.mono (RI.mono _) _ _ _ _ hl_101 h0
   refine l_nil ?_
   rcases cond_some hs_53 with ⟨hc_110, hs_53⟩ | ⟨hc_110, hs_53⟩
   ·refine k_true f rfl hc_110 ?_
    refine k_skip ?_
    refine k_block (k_region ?_)
    refine l_mv f rfl rfl fun a f => ?_
    refine l_in f rfl rfl rfl b_add fun a f => ?_
    refine l_as f rfl rfl fun a f => ?_
    refine l_nil ?_
    obtain rfl := sj hs_53
    exact ⟨_, rfl, _, rfl, _, (GLe.trans hl_59 hl_101), f.weak ⟨rfl, rfl, rfl, trivial⟩, m⟩
   ·refine k_false f rfl hc_110 ?_
    refine k_exit rfl ?_
    obtain rfl := sj hs_53
    obtain rfl := hq_54 _ rfl
    exact ⟨_, rfl, _, (GLe.trans hl_59 hl_101), f.weak ⟨rfl, rfl, rfl, trivial⟩, m⟩
 ·rintro a w ⟨x_85, rfl, G_84, hl_86, f, m⟩
  have h0 := RSl.mono (RI.mono _) _ _ _ _ hl_86 h0
  refine k_seq (k_seq (k_region ?_))
  refine l_mv f rfl rfl fun a f => ?_
  refine l_mv f rfl rfl fun a f => ?_
  refine l_len Tryd.underlying36 f rfl rfl h0 fun a f => ?_
  refine l_in f rfl rfl rfl b_lss fun a f => ?_
  refine l_mv f rfl rfl fun a f => ?_
  obtain ⟨b_126, hj_127, hd⟩ := bind_some hd
  refine l_cut 7 (fun a w => ∃ G_124, GLe G_84 G_124 ∧ Mem W G_124 w (H) ∧ Fr a 46 [(0, v0), (1, (.int .i64 x1)), (5, (.int .i64 x_85)), (21, (.int .i64 x_85)), (22, v0), (23, (.int .i64 (x0.length : Int))), (24, (.bool (decide (x_85 < (x0.length : Int))))), (25, (.bool (decide (x_85 < (x0.length : Int))))), (32, (.bool b_126))]) ?_ ?_
  ·rcases cond_some hj_127 with ⟨hc_111, hj_127⟩ | ⟨hc_111, hj_127⟩
   ·refine l_run f rfl rfl hc_111 ?_
    refine l_mv f rfl rfl fun a f => ?_
    refine l_run f rfl rfl hc_111 ?_
    refine l_mv f rfl rfl fun a f => ?_
    refine l_run f rfl rfl hc_111 ?_
    obtain ⟨e_128, he_129, hj_127⟩ := bind_some hj_127
    refine l_at T36 f rfl rfl rfl h0 he_129 fun p_130 c_131 a g_132 h_133 f => ?_
    subst h_133
    refine l_run f rfl rfl hc_111 ?_
    refine l_loadAt m Pl2 f rfl rfl g_132 fun a f => ?_
    refine l_run f rfl rfl hc_111 ?_
    refine l_mv f rfl rfl fun a f => ?_
    refine l_run f rfl rfl hc_111 ?_
    refine l_in f rfl rfl rfl b_eql fun a f => ?_
    refine l_op f rfl rfl rfl (r_pickT (f.eval rfl) hc_111 (f.eval rfl)) fun a f => ?_
    obtain rfl := sj hj_127
    exact ⟨_, (GLe.refl _), m, f.weak ⟨rfl, rfl, rfl, rfl, rfl, rfl, rfl, rfl, rfl, trivial⟩⟩
   ·refine l_not' f rfl rfl rfl hc_111 fun a f => ?_
    refine l_not' f rfl rfl rfl hc_111 fun a f => ?_
    refine l_not' f rfl rfl rfl hc_111 fun a f => ?_
    refine l_not' f rfl rfl rfl hc_111 fun a f => ?_
    refine l_not' f rfl rfl rfl hc_111 fun a f => ?_
    refine l_not' f rfl rfl rfl hc_111 fun a f => ?_
    refine l_op f rfl rfl rfl (r_pickF (f.eval rfl) hc_111 (f.eval rfl)) fun a f => ?_
    obtain rfl := sj hj_127
    exact ⟨_, (GLe.refl _), m, f.weak ⟨rfl, rfl, rfl, rfl, rfl, rfl, rfl, rfl, rfl, trivial⟩⟩
  ·rintro a w ⟨G_124, hl_125, m, f⟩
   have h0 := RSl.mono (RI.mono _) _ _ _ _ hl_125 h0
   refine l_nil ?_
   rcases cond_some hd with ⟨hc_134, hd⟩ | ⟨hc_134, hd⟩
   ·refine k_true f rfl hc_134 ?_
    refine k_seq (k_region ?_)
    refine l_mv f rfl rfl fun a f => ?_
    refine l_as f rfl rfl fun a f => ?_
    refine l_nil ?_
    refine k_ret ?_
    obtain rfl := sj hd
    exact ⟨[v0], ⟨f.get _ _ rfl, trivial⟩, f.defers, _, [], (GLe.trans hl_86 hl_125), m, _, rfl, rfl, h0⟩
   ·refine k_false f rfl hc_134 ?_
    refine k_skip ?_
    refine k_seq (k_region ?_)
    refine l_mv f rfl rfl fun a f => ?_
    refine l_mv f rfl rfl fun a f => ?_
    obtain ⟨l_135, hx_136, hd⟩ := bind_some hd
    refine l_slice T36 f rfl rfl h0 (.inl ⟨rfl, rfl⟩) (.inr ⟨_, _, rfl, rfl⟩) hx_136 fun v_137 a h_138 f => ?_
    obtain ⟨y_139, hy_140, hd⟩ := bind_some hd
    refine l_res f rfl rfl Tryd.call92 (Wk.spec_l1Copy m h_138 hy_140) fun v_144 G_141 Ho_145 w hl_142 m hQ_143 a f => ?_
    obtain ⟨v_146, it_147, rfl, rfl, o_148⟩ := hQ_143
    have h0 := RSl.mono (RI.mono _) _ _ _ _ hl_142 h0
    have h_138 := RSl.mono (RI.mono _) _ _ _ _ hl_142 h_138
    refine l_mv f rfl rfl fun a f => ?_
    refine l_slit (R := (RI .i64)) (xs := ([x1] : List Int)) (RI.one _) m T36 f rfl rfl rfl (by decide) (All2.cons rfl (All2.nil _)) fun it_150 v_151 w a m o_152 f => ?_
    obtain ⟨l_154, hx_155, hd⟩ := bind_some hd
    refine l_append (RI.one _) 1 m o_148 rfl T36 rfl (by decide) f rfl rfl rfl (Ow.src (j := 0) o_152 m rfl) hx_155 fun it_156 v_157 w a m o_158 f => ?_
    refine l_as f rfl rfl fun a f => ?_
    refine l_nil (k_seq (k_region ?_))
    refine l_mv f rfl rfl fun a f => ?_
    refine l_mv f rfl rfl fun a f => ?_
    refine l_mv f rfl rfl fun a f => ?_
    obtain ⟨l_160, hx_161, hd⟩ := bind_some hd
    refine l_slice T36 f rfl rfl h0 (.inr ⟨_, _, rfl, rfl⟩) (.inl ⟨rfl, rfl⟩) hx_161 fun v_162 a h_163 f => ?_
    obtain ⟨l_164, hx_165, hd⟩ := bind_some hd
    refine l_append (RI.one _) 1 m o_158 rfl T36 rfl (by decide) f rfl rfl rfl (h_163.src m) hx_165 fun it_166 v_167 w a m o_168 f => ?_
    refine l_as f rfl rfl fun a f => ?_
    refine l_nil ?_
    refine k_ret ?_
    have m := m.front 1 rfl
    obtain ⟨G_170, hl_171, m, h_172⟩ := Ow.stamp (RI.mono _) o_168 m
    have h0 := RSl.mono (RI.mono _) _ _ _ _ hl_171 h0
    have o_152 := Ow.mono (RI.mono _) hl_171 o_152
    have m : Mem W G_170 w H := Mem.drop (H' := [it_150]) m
    obtain rfl := sj hd
    exact ⟨[v_167], ⟨f.get _ _ rfl, trivial⟩, f.defers, _, [], (GLe.trans hl_86 (GLe.trans hl_125 (GLe.trans hl_142 hl_171))), m, _, rfl, rfl, h_172⟩

theorem Wk.spec_l1Link {W w : World} {G : GH} {H : List Itm} {v0_0 : Value} {it0_0 : Itm} {x0_0 : (List (List Int))} {x1 : Int} {x2 : Int} (m : Mem W G w (it0_0 :: H)) (o0_0 : Ow (RSl (RI .i64)) 36 G it0_0 v0_0 x0_0) {y : ((List (List Int)))} (hd : D.spec_l1Link x0_0 x1 x2 = some y) :
  Calls Tryd.prog 138 #[(.agg #[v0_0]), (.int .i64 x1), (.int .i64 x2)] w (Res W G H (fun G' Ho v => ∃ i0 : Itm, Ho = [i0] ∧ v = (.agg #[v0_0]) ∧ Ow (RSl (RI .i64)) 36 G' i0 v0_0 y)) := by
 refine calls_b (args := [(.agg #[v0_0]), (.int .i64 x1), (.int .i64 x2)]) (N := 30) [.cell 6 27] Tryd.func138 rfl rfl (Nat.le_of_ble_eq_true rfl) rfl fun a f => ?_
 unfold D.spec_l1Link at hd
 refine k_seq (k_region ?_)
 refine l_box (cs := [v0_0]) m f rfl rfl rfl fun b_2 w a m f => ?_
 refine l_alloc (cs := [(.slice none 0 0)]) Tryd.zeroValue27 m f rfl rfl fun b_4 w a m f => ?_
 refine l_nil (k_seq ?_)
 refine k_draw 11 Follows (by kernel_rfl) m ?_
 refine q_fieldAddr (i := 0) 11 Tryd.underlying27 rfl Tryd.sizeOf22 (by decide) rfl (by kernel_rfl) rfl f rfl rfl rfl fun a f => ?_
 refine q_boxCell (i := 1) 11 1 Pl22 rfl rfl rfl (by kernel_rfl) rfl f rfl rfl rfl fun a f => ?_
 refine q_mv 2 11 rfl (by kernel_rfl) f rfl rfl rfl fun a f => ?_
 refine q_fieldAddr (i := 3) 11 Tryd.underlying27 rfl Tryd.sizeOf22 (by decide) rfl (by kernel_rfl) rfl f rfl rfl rfl fun a f => ?_
 refine q_boxCell (i := 4) 11 1 Pl22 rfl rfl rfl (by kernel_rfl) rfl f rfl rfl rfl fun a f => ?_
 refine q_mv 5 11 rfl (by kernel_rfl) f rfl rfl rfl fun a f => ?_
 obtain ⟨e_5, he_6, hd⟩ := bind_some hd
 refine q_own_at (i := 6) 11 2 m o0_0 rfl T22 he_6 rfl (by kernel_rfl) rfl f rfl rfl rfl rfl fun p_7 a ha_8 f => ?_
 refine q_own_load (i := 7) 11 2 o0_0 rfl Pl36 ha_8 he_6 rfl (by kernel_rfl) rfl f rfl rfl rfl fun c_9 a h_10 f => ?_
 refine q_mv 8 11 rfl (by kernel_rfl) f rfl rfl rfl fun a f => ?_
 refine q_one (i := 9) rfl (by kernel_rfl) rfl fun G_11 w hl_12 m K_13 K_13 => ?_
 have h_10 := RSl.mono (RI.mono _) _ _ _ _ hl_12 h_10
 have o0_0 := Ow.mono (RSl.mono (RI.mono _)) hl_12 o0_0
 obtain ⟨y_14, hy_15, hd⟩ := bind_some hd
 refine l_res f rfl rfl Tryd.call155 (Wk.spec_l1Into m h_10 hy_15) fun v_19 G_16 Ho_20 w hl_17 m hQ_18 a f => ?_
 obtain ⟨v_21, rfl, rfl, h_22⟩ := hQ_18
 have h_10 := RSl.mono (RI.mono _) _ _ _ _ hl_17 h_10
 have o0_0 := Ow.mono (RSl.mono (RI.mono _)) hl_17 o0_0
 refine l_nil ?_
 refine K_13 G_16 [] _ _ hl_17 m ?_
 obtain ⟨e_23, he_24, hd⟩ := bind_some hd
 refine q_own_at (i := 10) 11 2 m o0_0 rfl T22 he_24 rfl (by kernel_rfl) rfl f rfl rfl rfl rfl fun p_25 a ha_26 f => ?_
 refine q_end fun G_27 w hl_28 m => ?_
 have h_10 := RSl.mono (RI.mono _) _ _ _ _ hl_28 h_10
 have h_22 := RSl.mono (RI.mono _) _ _ _ _ hl_28 h_22
 have o0_0 := Ow.mono (RSl.mono (RI.mono _)) hl_28 o0_0
 refine l_own_store 2 m o0_0 rfl Tryd.sizeOf36 f rfl rfl ha_26 he_24 h_22.cells h_22.one1 h_22 fun it_29 w m o_30 => ?_
 refine l_nil (k_seq ?_)
 refine k_draw 11 Follows (by kernel_rfl) m ?_
 refine q_fieldAddr (i := 0) 11 Tryd.underlying27 rfl Tryd.sizeOf22 (by decide) rfl (by kernel_rfl) rfl f rfl rfl rfl fun a f => ?_
 refine q_boxCell (i := 1) 11 1 Pl22 rfl rfl rfl (by kernel_rfl) rfl f rfl rfl rfl fun a f => ?_
 refine q_mv 2 11 rfl (by kernel_rfl) f rfl rfl rfl fun a f => ?_
 refine q_fieldAddr (i := 3) 11 Tryd.underlying27 rfl Tryd.sizeOf22 (by decide) rfl (by kernel_rfl) rfl f rfl rfl rfl fun a f => ?_
 refine q_boxCell (i := 4) 11 1 Pl22 rfl rfl rfl (by kernel_rfl) rfl f rfl rfl rfl fun a f => ?_
 refine q_mv 5 11 rfl (by kernel_rfl) f rfl rfl rfl fun a f => ?_
 obtain ⟨e_31, he_32, hd⟩ := bind_some hd
 refine q_own_at (i := 6) 11 2 m o_30 rfl T22 he_32 rfl (by kernel_rfl) rfl f rfl rfl rfl rfl fun p_33 a ha_34 f => ?_
 refine q_own_load (i := 7) 11 2 o_30 rfl Pl36 ha_34 he_32 rfl (by kernel_rfl) rfl f rfl rfl rfl fun c_35 a h_36 f => ?_
 refine q_mv 8 11 rfl (by kernel_rfl) f rfl rfl rfl fun a f => ?_
 refine q_one (i := 9) rfl (by kernel_rfl) rfl fun G_37 w hl_38 m K_39 K_39 => ?_
 have h_36 := RSl.mono (RI.mono _) _ _ _ _ hl_38 h_36
 have o_30 := Ow.mono (RSl.mono (RI.mono _)) hl_38 o_30
 obtain ⟨y_40, hy_41, hd⟩ := bind_some hd
 refine l_res f rfl rfl Tryd.call155 (Wk.spec_l1Into m h_36 hy_41) fun v_45 G_42 Ho_46 w hl_43 m hQ_44 a f => ?_
 obtain ⟨v_47, rfl, rfl, h_48⟩ := hQ_44
 have h_36 := RSl.mono (RI.mono _) _ _ _ _ hl_43 h_36
 have o_30 := Ow.mono (RSl.mono (RI.mono _)) hl_43 o_30
 refine l_nil ?_
 refine K_39 G_42 [] _ _ hl_43 m ?_
 obtain ⟨e_49, he_50, hd⟩ := bind_some hd
 refine q_own_at (i := 10) 11 2 m o_30 rfl T22 he_50 rfl (by kernel_rfl) rfl f rfl rfl rfl rfl fun p_51 a ha_52 f => ?_
 refine q_end fun G_53 w hl_54 m => ?_
 have h_36 := RSl.mono (RI.mono _) _ _ _ _ hl_54 h_36
 have h_48 := RSl.mono (RI.mono _) _ _ _ _ hl_54 h_48
 have o_30 := Ow.mono (RSl.mono (RI.mono _)) hl_54 o_30
 refine l_own_store 2 m o_30 rfl Tryd.sizeOf36 f rfl rfl ha_52 he_50 h_48.cells h_48.one1 h_48 fun it_55 w m o_56 => ?_
 refine l_nil (k_seq (k_region ?_))
 refine l_boxAgg 1 0 (ds := [v0_0]) m Ag27 f rfl rfl rfl rfl rfl fun a f => ?_
 refine l_boxStore 0 0 (ds := [v0_0]) m Tryd.sizeOf27 f rfl rfl rfl (ones_cons (Ow.one1 2 m o_56 rfl) ones_nil) rfl (Nat.le_of_ble_eq_true rfl) rfl fun w m => ?_
 refine l_nil ?_
 refine k_ret ?_
 have rc_57 := rr_agg (P := Tryd.prog) 0 m Ag27 f (s := 6) rfl rfl rfl
 have m := m.front 2 rfl
 have m := m.eraseAt 2
 have m := m.eraseAt 1
 obtain rfl := sj hd
 exact ⟨[(.agg #[v0_0])], ⟨rc_57, trivial⟩, f.defers, _, [it_55], (GLe.trans hl_12 (GLe.trans hl_17 (GLe.trans hl_28 (GLe.trans hl_38 (GLe.trans hl_43 hl_54))))), m, _, rfl, rfl, o_56⟩

theorem Wk.spec_l1Once {W w : World} {G : GH} {H : List Itm} {v0_0 : Value} {b0 : Nat} {x0_0 : (List Int)} {x0_1 : Int} {x0_2 : Int} {x1 : Int} (m : Mem W G w (Itm.box b0 94 [v0_0, (.int .i64 x0_1), (.int .i64 x0_2)] :: H)) (h0_0 : RSl (RI .u8) G v0_0 x0_0) {y : Bool × ((List Int)) × Int × Int} (hd : D.spec_l1Once x0_0 x0_1 x0_2 x1 = some y) :
  Calls Tryd.prog 88 #[(.pointer (some ⟨b0, 0, none⟩)), (.int .i64 x1)] w (Res W G H (fun G' Ho v => ∃ r0 : Value, Ho = [Itm.box b0 94 [r0, (.int .i64 y.2.2.1), (.int .i64 y.2.2.2)]] ∧ v = (.bool y.1) ∧ RSl (RI .u8) G' r0 y.2.1)) := by
 refine calls_b (args := [(.pointer (some ⟨b0, 0, none⟩)), (.int .i64 x1)]) (N := 9) [.tmp 4] Tryd.func88 rfl rfl (Nat.le_of_ble_eq_true rfl) rfl fun a f => ?_
 unfold D.spec_l1Once at hd
 refine k_seq (k_region ?_)
 refine l_as f rfl rfl fun a f => ?_
 refine l_nil (k_seq (k_region ?_))
 refine l_mv f rfl rfl fun a f => ?_
 refine l_mv f rfl rfl fun a f => ?_
 obtain ⟨y_1, hy_2, hd⟩ := bind_some hd
 refine l_res f rfl rfl Tryd.call89 (Wk.spec_l1Below m h0_0 hy_2) fun v_6 G_3 Ho_7 w hl_4 m hQ_5 a f => ?_
 obtain ⟨v_8, rfl, rfl, h_9⟩ := hQ_5
 refine l_in f rfl rfl rfl b_eql fun a f => ?_
 refine l_as f rfl rfl fun a f => ?_
 refine l_nil ?_
 refine k_ret ?_
 obtain rfl := sj hd
 exact ⟨[(.bool (y_1.1 == 0))], ⟨f.get _ _ rfl, trivial⟩, f.defers, _, [Itm.box b0 94 [v_8, (.int .i64 y_1.2.2.1), (.int .i64 y_1.2.2.2)]], hl_4, m, _, rfl, rfl, h_9⟩

theorem Wk.spec_l1Odd {W w : World} {G : GH} {H : List Itm} {v0_0 : Value} {b0 : Nat} {x0_0 : (List Int)} {x0_1 : Int} {x0_2 : Int} (m : Mem W G w (Itm.box b0 94 [v0_0, (.int .i64 x0_1), (.int .i64 x0_2)] :: H)) (h0_0 : RSl (RI .u8) G v0_0 x0_0) {y : Int × ((List Int)) × Int × Int} (hd : D.spec_l1Odd x0_0 x0_1 x0_2 = some y) :
  Calls Tryd.prog 125 #[(.pointer (some ⟨b0, 0, none⟩))] w (Res W G H (fun G' Ho v => ∃ r0 : Value, Ho = [Itm.box b0 94 [r0, (.int .i64 y.2.2.1), (.int .i64 y.2.2.2)]] ∧ v = (.int .i64 y.1) ∧ RSl (RI .u8) G' r0 y.2.1)) := by
 refine calls_b (args := [(.pointer (some ⟨b0, 0, none⟩))]) (N := 8) [.tmp 2] Tryd.func125 rfl rfl (Nat.le_of_ble_eq_true rfl) rfl fun a f => ?_
 unfold D.spec_l1Odd at hd
 refine k_seq (k_region ?_)
 refine l_as f rfl rfl fun a f => ?_
 refine l_nil (k_seq (k_region ?_))
 refine l_slit (R := (RI .i64)) (xs := ([(-1), 0, 1, 2147483648, (-2147483648), 1099511627776, 4611686018427387904, (-4611686018427387904), 9223372036854775807, (-9223372036854775808)] : List Int)) (RI.one _) m T36 f rfl rfl rfl (by decide) (All2.cons rfl (All2.cons rfl (All2.cons rfl (All2.cons rfl (All2.cons rfl (All2.cons rfl (All2.cons rfl (All2.cons rfl (All2.cons rfl (All2.cons rfl (All2.nil _))))))))))) fun it_1 v_2 w a m o_3 f => ?_
 refine l_mv f rfl rfl fun a f => ?_
 have m := m.front 1 rfl
 obtain ⟨y_5, hy_6, hd⟩ := bind_some hd
 refine l_res f rfl rfl Tryd.call89 (Wk.spec_l1Below m h0_0 hy_6) fun v_10 G_7 Ho_11 w hl_8 m hQ_9 a f => ?_
 obtain ⟨v_12, rfl, rfl, h_13⟩ := hQ_9
 have o_3 := Ow.mono (RI.mono _) hl_8 o_3
 obtain ⟨e_14, he_15, hd⟩ := bind_some hd
 refine l_own_at 1 m o_3 rfl T36 f rfl rfl rfl he_15 fun p_16 a ha_17 f => ?_
 refine l_own_load 1 m o_3 rfl Pl2 f rfl rfl ha_17 he_15 fun c_18 a h_19 f => ?_
 subst h_19
 refine l_as f rfl rfl fun a f => ?_
 refine l_nil ?_
 refine k_ret ?_
 have m := m.eraseAt 1
 obtain rfl := sj hd
 exact ⟨[(.int .i64 e_14)], ⟨f.get _ _ rfl, trivial⟩, f.defers, _, [Itm.box b0 94 [v_12, (.int .i64 y_5.2.2.1), (.int .i64 y_5.2.2.2)]], hl_8, m, _, rfl, rfl, h_13⟩

theorem Wk.spec_l1Min {W w : World} {G : GH} {H : List Itm} {x0 : Int} {x1 : Int} (m : Mem W G w (H))  {y : Int} (hd : D.spec_l1Min x0 x1 = some y) :
  Calls Tryd.prog 126 #[(.int .i64 x0), (.int .i64 x1)] w (Res W G H (fun _ Ho v => Ho = [] ∧ v = (.int .i64 y))) := by
 refine calls_b (args := [(.int .i64 x0), (.int .i64 x1)]) (N := 10) [.tmp 4] Tryd.func126 rfl rfl (Nat.le_of_ble_eq_true rfl) rfl fun a f => ?_
 unfold D.spec_l1Min at hd
 refine k_seq (k_region ?_)
 refine l_as f rfl rfl fun a f => ?_
 refine l_nil (k_seq (k_seq (k_region ?_)))
 refine l_mv f rfl rfl fun a f => ?_
 refine l_mv f rfl rfl fun a f => ?_
 refine l_in f rfl rfl rfl b_lss fun a f => ?_
 refine l_nil ?_
 rcases cond_some hd with ⟨hc_1, hd⟩ | ⟨hc_1, hd⟩
 ·refine k_true f rfl hc_1 ?_
  refine k_seq (k_region ?_)
  refine l_mv f rfl rfl fun a f => ?_
  refine l_as f rfl rfl fun a f => ?_
  refine l_nil ?_
  refine k_ret ?_
  obtain rfl := sj hd
  exact ⟨[(.int .i64 x0)], ⟨f.get _ _ rfl, trivial⟩, f.defers, _, [], (GLe.refl _), m, rfl, rfl⟩
 ·refine k_false f rfl hc_1 ?_
  refine k_skip ?_
  refine k_seq (k_region ?_)
  refine l_mv f rfl rfl fun a f => ?_
  refine l_as f rfl rfl fun a f => ?_
  refine l_nil ?_
  refine k_ret ?_
  obtain rfl := sj hd
  exact ⟨[(.int .i64 x1)], ⟨f.get _ _ rfl, trivial⟩, f.defers, _, [], (GLe.refl _), m, rfl, rfl⟩

theorem Wk.spec_l1Num {W w : World} {G : GH} {H : List Itm} {v0_0 : Value} {b0 : Nat} {x0_0 : (List Int)} {x0_1 : Int} {x0_2 : Int} {x1 : Int} (m : Mem W G w (Itm.box b0 94 [v0_0, (.int .i64 x0_1), (.int .i64 x0_2)] :: H)) (h0_0 : RSl (RI .u8) G v0_0 x0_0) {y : Int × ((List Int)) × Int × Int} (hd : D.spec_l1Num x0_0 x0_1 x0_2 x1 = some y) :
  Calls Tryd.prog 90 #[(.pointer (some ⟨b0, 0, none⟩)), (.int .i64 x1)] w (Res W G H (fun G' Ho v => ∃ r0 : Value, Ho = [Itm.box b0 94 [r0, (.int .i64 y.2.2.1), (.int .i64 y.2.2.2)]] ∧ v = (.int .i64 y.1) ∧ RSl (RI .u8) G' r0 y.2.1)) := by
 refine calls_b (args := [(.pointer (some ⟨b0, 0, none⟩)), (.int .i64 x1)]) (N := 28) [.tmp 4] Tryd.func90 rfl rfl (Nat.le_of_ble_eq_true rfl) rfl fun a f => ?_
 unfold D.spec_l1Num at hd
 refine k_seq (k_region ?_)
 refine l_as f rfl rfl fun a f => ?_
 refine l_nil (k_seq (k_seq (k_region ?_)))
 refine l_mv f rfl rfl fun a f => ?_
 obtain ⟨y_1, hy_2, hd⟩ := bind_some hd
 refine l_res f rfl rfl Tryd.call88 (Wk.spec_l1Once m h0_0 hy_2) fun v_6 G_3 Ho_7 w hl_4 m hQ_5 a f => ?_
 obtain ⟨v_8, rfl, rfl, h_9⟩ := hQ_5
 refine l_nil ?_
 rcases cond_some hd with ⟨hc_10, hd⟩ | ⟨hc_10, hd⟩
 ·refine k_true f rfl hc_10 ?_
  refine k_seq (k_region ?_)
  refine l_mv f rfl rfl fun a f => ?_
  refine l_mv f rfl rfl fun a f => ?_
  refine l_in f rfl rfl rfl b_add fun a f => ?_
  refine l_mv f rfl rfl fun a f => ?_
  obtain ⟨y_11, hy_12, hd⟩ := bind_some hd
  refine l_res f rfl rfl Tryd.call125 (Wk.spec_l1Odd m h_9 hy_12) fun v_16 G_13 Ho_17 w hl_14 m hQ_15 a f => ?_
  obtain ⟨v_18, rfl, rfl, h_19⟩ := hQ_15
  refine l_slit (R := (RI .i64)) (xs := ([(-1), x1, (IntKind.i64.wrap (x1 + 1)), y_11.1] : List Int)) (RI.one _) m T36 f rfl rfl rfl (by decide) (All2.cons rfl (All2.cons rfl (All2.cons rfl (All2.cons rfl (All2.nil _))))) fun it_20 v_21 w a m o_22 f => ?_
  refine l_mv f rfl rfl fun a f => ?_
  have m := m.front 1 rfl
  obtain ⟨y_24, hy_25, hd⟩ := bind_some hd
  refine l_res f rfl rfl Tryd.call89 (Wk.spec_l1Below m h_19 hy_25) fun v_29 G_26 Ho_30 w hl_27 m hQ_28 a f => ?_
  obtain ⟨v_31, rfl, rfl, h_32⟩ := hQ_28
  have o_22 := Ow.mono (RI.mono _) hl_27 o_22
  obtain ⟨e_33, he_34, hd⟩ := bind_some hd
  refine l_own_at 1 m o_22 rfl T36 f rfl rfl rfl he_34 fun p_35 a ha_36 f => ?_
  refine l_own_load 1 m o_22 rfl Pl2 f rfl rfl ha_36 he_34 fun c_37 a h_38 f => ?_
  subst h_38
  refine l_as f rfl rfl fun a f => ?_
  refine l_nil ?_
  refine k_ret ?_
  have m := m.eraseAt 1
  obtain rfl := sj hd
  exact ⟨[(.int .i64 e_33)], ⟨f.get _ _ rfl, trivial⟩, f.defers, _, [Itm.box b0 94 [v_31, (.int .i64 y_24.2.2.1), (.int .i64 y_24.2.2.2)]], (GLe.trans hl_4 (GLe.trans hl_14 hl_27)), m, _, rfl, rfl, h_32⟩
 ·refine k_false f rfl hc_10 ?_
  refine k_skip ?_
  refine k_seq (k_seq (k_region ?_))
  refine l_mv f rfl rfl fun a f => ?_
  obtain ⟨y_39, hy_40, hd⟩ := bind_some hd
  refine l_res f rfl rfl Tryd.call88 (Wk.spec_l1Once m h_9 hy_40) fun v_44 G_41 Ho_45 w hl_42 m hQ_43 a f => ?_
  obtain ⟨v_46, rfl, rfl, h_47⟩ := hQ_43
  refine l_nil ?_
  rcases cond_some hd with ⟨hc_48, hd⟩ | ⟨hc_48, hd⟩
  ·refine k_true f rfl hc_48 ?_
   refine k_seq (k_region ?_)
   refine l_mv f rfl rfl fun a f => ?_
   refine l_mv f rfl rfl fun a f => ?_
   obtain ⟨y_49, hy_50, hd⟩ := bind_some hd
   refine l_res f rfl rfl Tryd.call126 (Wk.spec_l1Min m  hy_50) fun v_54 G_51 Ho_55 w hl_52 m hQ_53 a f => ?_
   obtain ⟨rfl, rfl⟩ := hQ_53
   have h_47 := RSl.mono (RI.mono _) _ _ _ _ hl_52 h_47
   refine l_in f rfl rfl rfl b_add fun a f => ?_
   obtain ⟨y_56, hy_57, hd⟩ := bind_some hd
   refine l_res f rfl rfl Tryd.call89 (Wk.spec_l1Below m h_47 hy_57) fun v_61 G_58 Ho_62 w hl_59 m hQ_60 a f => ?_
   obtain ⟨v_63, rfl, rfl, h_64⟩ := hQ_60
   refine l_as f rfl rfl fun a f => ?_
   refine l_nil ?_
   refine k_ret ?_
   obtain rfl := sj hd
   exact ⟨[(.int .i64 y_56.1)], ⟨f.get _ _ rfl, trivial⟩, f.defers, _, [Itm.box b0 94 [v_63, (.int .i64 y_56.2.2.1), (.int .i64 y_56.2.2.2)]], (GLe.trans hl_4 (GLe.trans hl_42 (GLe.trans hl_52 hl_59))), m, _, rfl, rfl, h_64⟩
  ·refine k_false f rfl hc_48 ?_
   refine k_skip ?_
   refine k_seq (k_region ?_)
   refine l_mv f rfl rfl fun a f => ?_
   refine l_mv f rfl rfl fun a f => ?_
   refine l_in f rfl rfl rfl b_add fun a f => ?_
   obtain ⟨y_65, hy_66, hd⟩ := bind_some hd
   refine l_res f rfl rfl Tryd.call89 (Wk.spec_l1Below m h_47 hy_66) fun v_70 G_67 Ho_71 w hl_68 m hQ_69 a f => ?_
   obtain ⟨v_72, rfl, rfl, h_73⟩ := hQ_69
   refine l_as f rfl rfl fun a f => ?_
   refine l_nil ?_
   refine k_ret ?_
   obtain rfl := sj hd
   exact ⟨[(.int .i64 y_65.1)], ⟨f.get _ _ rfl, trivial⟩, f.defers, _, [Itm.box b0 94 [v_72, (.int .i64 y_65.2.2.1), (.int .i64 y_65.2.2.2)]], (GLe.trans hl_4 (GLe.trans hl_42 hl_68)), m, _, rfl, rfl, h_73⟩

theorem Wk.spec_l1Into__deep {W w : World} {G : GH} {H : List Itm} {v0 : Value} {it0 : Itm} {x0 : (List Int)} {x1 : Int} (m : Mem W G w (it0 :: H)) (o0 : Ow (RI .i64) 2 G it0 v0 x0) {y : ((List Int))} (hd : D.spec_l1Into__deep x0 x1 = some y) :
  Calls Tryd.prog 155 #[v0, (.int .i64 x1)] w (Res W G H (fun G' Ho v => ∃ r0 : Value, ∃ i0 : Itm, Ho = [i0] ∧ r0 = v ∧ Ow (RI .i64) 2 G' i0 r0 y)) := by
 refine calls_b (args := [v0, (.int .i64 x1)]) (N := 46) [.tmp 4] Tryd.func155 rfl rfl (Nat.le_of_ble_eq_true rfl) rfl fun a f => ?_
 unfold D.spec_l1Into__deep at hd
 refine k_seq (k_region ?_)
 refine l_as f rfl rfl fun a f => ?_
 refine l_nil (k_seq (k_region ?_))
 refine l_as f rfl rfl fun a f => ?_
 refine l_nil (k_seq ?_)
 obtain ⟨q_51, hl_52, hd⟩ := bind_some hd
 refine k_cut (fun a w => ∃ x_85 : Int, x_85 = q_51 ∧ ∃ (G_84 : GH), GLe G G_84 ∧ Fr a 46 [(0, v0), (1, (.int .i64 x1)), (5, (.int .i64 x_85))] ∧ Mem W G_84 w (it0 :: H)) ?_ ?_
 ·refine k_block ?_
  refine k_loop (fun s_55 a w => ∃ x_58 : Int, x_58 = s_55 ∧ ∃ (G_57 : GH), GLe G G_57 ∧ Fr a 46 [(0, v0), (1, (.int .i64 x1)), (5, (.int .i64 x_58))] ∧ Mem W G_57 w (it0 :: H)) hl_52 ⟨_, rfl, _, (GLe.refl _), f.weak ⟨rfl, rfl, rfl, trivial⟩, m⟩ ?_
  clear hl_52 f m
  rintro s_55 o_56 hs_53 hq_54 a w ⟨x_58, rfl, G_57, hl_59, f, m⟩
  have o0 := Ow.mono (RI.mono _) hl_59 o0
  refine k_seq (k_seq (k_region ?_))
  refine l_mv f rfl rfl fun a f => ?_
  refine l_mv f rfl rfl fun a f => ?_
  refine l_own_len 0 m o0 rfl Tryd.underlying36 f rfl rfl fun a f => ?_
  refine l_in f rfl rfl rfl b_lss fun a f => ?_
  refine l_mv f rfl rfl fun a f => ?_
  obtain ⟨b_102, hj_103, hs_53⟩ := bind_some hs_53
  refine l_cut 7 (fun a w => ∃ G_100, GLe G_57 G_100 ∧ Mem W G_100 w (it0 :: H) ∧ Fr a 46 [(0, v0), (1, (.int .i64 x1)), (5, (.int .i64 x_58)), (7, (.int .i64 x_58)), (8, v0), (9, (.int .i64 (x0.length : Int))), (10, (.bool (decide (x_58 < (x0.length : Int))))), (11, (.bool (decide (x_58 < (x0.length : Int))))), (18, (.bool b_102))]) ?_ ?_
  ·rcases cond_some hj_103 with ⟨hc_87, hj_103⟩ | ⟨hc_87, hj_103⟩
   ·refine l_run f rfl rfl hc_87 ?_
    refine l_mv f rfl rfl fun a f => ?_
    refine l_run f rfl rfl hc_87 ?_
    refine l_mv f rfl rfl fun a f => ?_
    refine l_run f rfl rfl hc_87 ?_
    obtain ⟨e_104, he_105, hj_103⟩ := bind_some hj_103
    refine l_own_at 0 m o0 rfl T36 f rfl rfl rfl he_105 fun p_106 a ha_107 f => ?_
    refine l_run f rfl rfl hc_87 ?_
    refine l_own_load 0 m o0 rfl Pl2 f rfl rfl ha_107 he_105 fun c_108 a h_109 f => ?_
    subst h_109
    refine l_run f rfl rfl hc_87 ?_
    refine l_mv f rfl rfl fun a f => ?_
    refine l_run f rfl rfl hc_87 ?_
    refine l_in f rfl rfl rfl b_lss fun a f => ?_
    refine l_op f rfl rfl rfl (r_pickT (f.eval rfl) hc_87 (f.eval rfl)) fun a f => ?_
    obtain rfl := sj hj_103
    exact ⟨_, (GLe.refl _), m, f.weak ⟨rfl, rfl, rfl, rfl, rfl, rfl, rfl, rfl, rfl, trivial⟩⟩
   ·refine l_not' f rfl rfl rfl hc_87 fun a f => ?_
    refine l_not' f rfl rfl rfl hc_87 fun a f => ?_
    refine l_not' f rfl rfl rfl hc_87 fun a f => ?_
    refine l_not' f rfl rfl rfl hc_87 fun a f => ?_
    refine l_not' f rfl rfl rfl hc_87 fun a f => ?_
    refine l_not' f rfl rfl rfl hc_87 fun a f => ?_
    refine l_op f rfl rfl rfl (r_pickF (f.eval rfl) hc_87 (f.eval rfl)) fun a f => ?_
    obtain rfl := sj hj_103
    exact ⟨_, (GLe.refl _), m, f.weak ⟨rfl, rfl, rfl, rfl, rfl, rfl, rfl, rfl, rfl, trivial⟩⟩
  ·rintro a w ⟨G_100, hl_101, m, f⟩
   have o0 := Ow.mono (RI.mono _) hl_101 o0
   refine l_nil ?_
   rcases cond_some hs_53 with ⟨hc_110, hs_53⟩ | ⟨hc_110, hs_53⟩
   ·refine k_true f rfl hc_110 ?_
    refine k_skip ?_
    refine k_block (k_region ?_)
    refine l_mv f rfl rfl fun a f => ?_
    refine l_in f rfl rfl rfl b_add fun a f => ?_
    refine l_as f rfl rfl fun a f => ?_
    refine l_nil ?_
    obtain rfl := sj hs_53
    exact ⟨_, rfl, _, rfl, _, (GLe.trans hl_59 hl_101), f.weak ⟨rfl, rfl, rfl, trivial⟩, m⟩
   ·refine k_false f rfl hc_110 ?_
    refine k_exit rfl ?_
    obtain rfl := sj hs_53
    obtain rfl := hq_54 _ rfl
    exact ⟨_, rfl, _, (GLe.trans hl_59 hl_101), f.weak ⟨rfl, rfl, rfl, trivial⟩, m⟩
 ·rintro a w ⟨x_85, rfl, G_84, hl_86, f, m⟩
  have o0 := Ow.mono (RI.mono _) hl_86 o0
  refine k_seq (k_seq (k_region ?_))
  refine l_mv f rfl rfl fun a f => ?_
  refine l_mv f rfl rfl fun a f => ?_
  refine l_own_len 0 m o0 rfl Tryd.underlying36 f rfl rfl fun a f => ?_
  refine l_in f rfl rfl rfl b_lss fun a f => ?_
  refine l_mv f rfl rfl fun a f => ?_
  obtain ⟨b_126, hj_127, hd⟩ := bind_some hd
  refine l_cut 7 (fun a w => ∃ G_124, GLe G_84 G_124 ∧ Mem W G_124 w (it0 :: H) ∧ Fr a 46 [(0, v0), (1, (.int .i64 x1)), (5, (.int .i64 x_85)), (21, (.int .i64 x_85)), (22, v0), (23, (.int .i64 (x0.length : Int))), (24, (.bool (decide (x_85 < (x0.length : Int))))), (25, (.bool (decide (x_85 < (x0.length : Int))))), (32, (.bool b_126))]) ?_ ?_
  ·rcases cond_some hj_127 with ⟨hc_111, hj_127⟩ | ⟨hc_111, hj_127⟩
   ·refine l_run f rfl rfl hc_111 ?_
    refine l_mv f rfl rfl fun a f => ?_
    refine l_run f rfl rfl hc_111 ?_
    refine l_mv f rfl rfl fun a f => ?_
    refine l_run f rfl rfl hc_111 ?_
    obtain ⟨e_128, he_129, hj_127⟩ := bind_some hj_127
    refine l_own_at 0 m o0 rfl T36 f rfl rfl rfl he_129 fun p_130 a ha_131 f => ?_
    refine l_run f rfl rfl hc_111 ?_
    refine l_own_load 0 m o0 rfl Pl2 f rfl rfl ha_131 he_129 fun c_132 a h_133 f => ?_
    subst h_133
    refine l_run f rfl rfl hc_111 ?_
    refine l_mv f rfl rfl fun a f => ?_
    refine l_run f rfl rfl hc_111 ?_
    refine l_in f rfl rfl rfl b_eql fun a f => ?_
    refine l_op f rfl rfl rfl (r_pickT (f.eval rfl) hc_111 (f.eval rfl)) fun a f => ?_
    obtain rfl := sj hj_127
    exact ⟨_, (GLe.refl _), m, f.weak ⟨rfl, rfl, rfl, rfl, rfl, rfl, rfl, rfl, rfl, trivial⟩⟩
   ·refine l_not' f rfl rfl rfl hc_111 fun a f => ?_
    refine l_not' f rfl rfl rfl hc_111 fun a f => ?_
    refine l_not' f rfl rfl rfl hc_111 fun a f => ?_
    refine l_not' f rfl rfl rfl hc_111 fun a f => ?_
    refine l_not' f rfl rfl rfl hc_111 fun a f => ?_
    refine l_not' f rfl rfl rfl hc_111 fun a f => ?_
    refine l_op f rfl rfl rfl (r_pickF (f.eval rfl) hc_111 (f.eval rfl)) fun a f => ?_
    obtain rfl := sj hj_127
    exact ⟨_, (GLe.refl _), m, f.weak ⟨rfl, rfl, rfl, rfl, rfl, rfl, rfl, rfl, rfl, trivial⟩⟩
  ·rintro a w ⟨G_124, hl_125, m, f⟩
   have o0 := Ow.mono (RI.mono _) hl_125 o0
   refine l_nil ?_
   rcases cond_some hd with ⟨hc_134, hd⟩ | ⟨hc_134, hd⟩
   ·refine k_true f rfl hc_134 ?_
    refine k_seq (k_region ?_)
    refine l_mv f rfl rfl fun a f => ?_
    refine l_as f rfl rfl fun a f => ?_
    refine l_nil ?_
    refine k_ret ?_
    obtain rfl := sj hd
    exact ⟨[v0], ⟨f.get _ _ rfl, trivial⟩, f.defers, _, [it0], (GLe.trans hl_86 hl_125), m, _, _, rfl, rfl, o0⟩
   ·refine k_false f rfl hc_134 ?_
    refine k_skip ?_
    refine k_seq (k_region ?_)
    refine l_mv f rfl rfl fun a f => ?_
    refine l_mv f rfl rfl fun a f => ?_
    obtain ⟨G_135, hl_136, m, h_137⟩ := Ow.stamp (RI.mono _) o0 m
    obtain ⟨l_138, hx_139, hd⟩ := bind_some hd
    refine l_slice T36 f rfl rfl h_137 (.inl ⟨rfl, rfl⟩) (.inr ⟨_, _, rfl, rfl⟩) hx_139 fun v_140 a h_141 f => ?_
    obtain ⟨y_142, hy_143, hd⟩ := bind_some hd
    refine l_res f rfl rfl Tryd.call92 (Wk.spec_l1Copy m h_141 hy_143) fun v_147 G_144 Ho_148 w hl_145 m hQ_146 a f => ?_
    obtain ⟨v_149, it_150, rfl, rfl, o_151⟩ := hQ_146
    have h_137 := RSl.mono (RI.mono _) _ _ _ _ hl_145 h_137
    have h_141 := RSl.mono (RI.mono _) _ _ _ _ hl_145 h_141
    refine l_mv f rfl rfl fun a f => ?_
    refine l_slit (R := (RI .i64)) (xs := ([x1] : List Int)) (RI.one _) m T36 f rfl rfl rfl (by decide) (All2.cons rfl (All2.nil _)) fun it_153 v_154 w a m o_155 f => ?_
    obtain ⟨l_157, hx_158, hd⟩ := bind_some hd
    refine l_append (RI.one _) 1 m o_151 rfl T36 rfl (by decide) f rfl rfl rfl (Ow.src (j := 0) o_155 m rfl) hx_158 fun it_159 v_160 w a m o_161 f => ?_
    refine l_as f rfl rfl fun a f => ?_
    refine l_nil (k_seq (k_region ?_))
    refine l_mv f rfl rfl fun a f => ?_
    refine l_mv f rfl rfl fun a f => ?_
    refine l_mv f rfl rfl fun a f => ?_
    obtain ⟨l_163, hx_164, hd⟩ := bind_some hd
    refine l_slice T36 f rfl rfl h_137 (.inr ⟨_, _, rfl, rfl⟩) (.inl ⟨rfl, rfl⟩) hx_164 fun v_165 a h_166 f => ?_
    obtain ⟨l_167, hx_168, hd⟩ := bind_some hd
    refine l_append (RI.one _) 1 m o_161 rfl T36 rfl (by decide) f rfl rfl rfl (h_166.src m) hx_168 fun it_169 v_170 w a m o_171 f => ?_
    refine l_as f rfl rfl fun a f => ?_
    refine l_nil ?_
    refine k_ret ?_
    have m := m.front 1 rfl
    have m := m.eraseAt 1
    obtain rfl := sj hd
    exact ⟨[v_170], ⟨f.get _ _ rfl, trivial⟩, f.defers, _, [it_169], (GLe.trans hl_86 (GLe.trans hl_125 (GLe.trans hl_136 hl_145))), m, _, _, rfl, rfl, o_171⟩

theorem Wk.spec_l1Empty__deep {W w : World} {G : GH} {H : List Itm} {x0 : Int} (m : Mem W G w (H))  {y : ((List (List Int)))} (hd : D.spec_l1Empty__deep x0 = some y) :
  Calls Tryd.prog 91 #[(.int .i64 x0)] w (Res W G H (fun G' Ho v => ∃ r0 : Value, ∃ i0 : Itm, Ho = [i0] ∧ v = (.agg #[r0]) ∧ Ow2 (RI .i64) 36 2 G' i0 r0 y)) := by
 refine calls_b (args := [(.int .i64 x0)]) (N := 18) [.cell 2 27] Tryd.func91 rfl rfl (Nat.le_of_ble_eq_true rfl) rfl fun a f => ?_
 unfold D.spec_l1Empty__deep at hd
 refine k_seq (k_region ?_)
 refine l_alloc (cs := [(.slice none 0 0)]) Tryd.zeroValue27 m f rfl rfl fun b_2 w a m f => ?_
 refine l_nil (k_seq (k_region ?_))
 have hb_3 : ∀ w, (Instr.build 27 #[]).run Tryd.prog w = .ok (.agg #[(.slice none 0 0)]) w := by intro w; simp [Instr.build, Instr.fill, cells_int, cells_bool, cells_string, cells_slice, cells_pointer, cells_agg]
 refine l_build f rfl rfl hb_3 fun a f => ?_
 refine l_alloc (cs := [(.slice none 0 0)]) Tryd.zeroValue27 m f rfl rfl fun b_5 w a m f => ?_
 refine l_boxStore 0 0 (ds := [(.slice none 0 0)]) m Tryd.sizeOf27 f rfl rfl rfl (ones_cons rfl ones_nil) rfl (Nat.le_of_ble_eq_true rfl) rfl fun w m => ?_
 refine l_nil (k_seq (k_seq (k_region ?_)))
 refine l_as f rfl rfl fun a f => ?_
 refine l_nil ?_
 obtain ⟨it_52, m, o_53⟩ := Ow2.nil (RI .i64) 36 2 m
 obtain ⟨q_46, hl_47, hd⟩ := bind_some hd
 refine k_cut (fun a w => ∃ l_79 : List (List Int), l_79 = q_46 ∧ ∃ (G_78 : GH) (v_80 : Value) (it_81 : Itm), GLe G G_78 ∧ Fr a 18 [(2, (.pointer (some ⟨b_2, 0, none⟩))), (3, (.pointer (some ⟨b_5, 0, none⟩)))] ∧ Mem W G_78 w (Itm.box b_2 27 [(.slice none 0 0)] :: Itm.box b_5 27 [v_80] :: it_81 :: H) ∧ Ow2 (RI .i64) 36 2 G_78 it_81 v_80 l_79) ?_ ?_
 ·refine k_block ?_
  have m := m.front 1 rfl
  have m := m.front 2 rfl
  refine k_loop (fun s_50 a w => ∃ x_56 : Int, ∃ l_57 : List (List Int), (x_56, l_57) = s_50 ∧ ∃ (G_55 : GH) (v_58 : Value) (it_59 : Itm), GLe G G_55 ∧ Fr a 18 [(0, (.int .i64 x0)), (2, (.pointer (some ⟨b_2, 0, none⟩))), (3, (.pointer (some ⟨b_5, 0, none⟩))), (4, (.int .i64 x_56))] ∧ Mem W G_55 w (Itm.box b_2 27 [(.slice none 0 0)] :: Itm.box b_5 27 [v_58] :: it_59 :: H) ∧ Ow2 (RI .i64) 36 2 G_55 it_59 v_58 l_57) hl_47 ⟨_, _, rfl, _, (.slice none 0 0), it_52, (GLe.refl _), f.weak ⟨rfl, rfl, rfl, rfl, trivial⟩, m, o_53⟩ ?_
  clear hl_47 f m
  rintro s_50 o_51 hs_48 hq_49 a w ⟨x_56, l_57, rfl, G_55, v_58, it_59, hl_62, f, m, o_60⟩
  refine k_seq (k_seq (k_region ?_))
  refine l_mv f rfl rfl fun a f => ?_
  refine l_mv f rfl rfl fun a f => ?_
  refine l_in f rfl rfl rfl b_lss fun a f => ?_
  refine l_nil ?_
  rcases cond_some hs_48 with ⟨hc_85, hs_48⟩ | ⟨hc_85, hs_48⟩
  ·refine k_true f rfl hc_85 ?_
   refine k_skip ?_
   refine k_seq (k_block (k_region ?_))
   refine l_fieldAddr Tryd.underlying27 rfl Tryd.sizeOf22 (by decide) f rfl rfl fun a f => ?_
   refine l_boxCell 1 0 m Pl22 f rfl rfl rfl rfl fun a f => ?_
   refine l_slit (R := (RI .i64)) (xs := ([] : List Int)) (RI.one _) m T36 f rfl rfl rfl (by decide) (All2.nil _) fun it_86 v_87 w a m o_88 f => ?_
   refine l_slit (R := RawS) (xs := [v_87]) RawS.one m T22 f rfl rfl rfl (by decide) (All2.cons ⟨rfl, Ow.one1 0 m o_88 rfl, Ow.cells 0 m o_88 rfl⟩ (All2.nil _)) fun it_90 v_91 w a m o_92 f => ?_
   have m := m.front 1 rfl
   have m := m.front 4 rfl
   obtain ⟨l_94, hx_95, hs_48⟩ := bind_some hs_48
   refine l_append2 m o_60 o_88 o_92 T22 rfl (by decide) f rfl rfl rfl hx_95 fun it_96 v_97 w a m o_98 f => ?_
   refine l_fieldAddr Tryd.underlying27 rfl Tryd.sizeOf22 (by decide) f rfl rfl fun a f => ?_
   refine l_boxStore 2 0 (ds := [v_97]) m Tryd.sizeOf22 f rfl rfl (Ow2.cells 0 m o_98 rfl) (ones_cons (Ow2.one1 0 m o_98 rfl) ones_nil) rfl (Nat.le_of_ble_eq_true rfl) rfl fun w m => ?_
   refine l_nil (k_region ?_)
   refine l_mv f rfl rfl fun a f => ?_
   refine l_in f rfl rfl rfl b_add fun a f => ?_
   refine l_as f rfl rfl fun a f => ?_
   refine l_nil ?_
   have m := m.front 2 rfl
   have m := m.front 2 rfl
   obtain rfl := sj hs_48
   exact ⟨_, rfl, _, _, rfl, _, v_97, it_96, hl_62, f.weak ⟨rfl, rfl, rfl, rfl, trivial⟩, m, o_98⟩
  ·refine k_false f rfl hc_85 ?_
   refine k_exit rfl ?_
   have m := m.front 2 rfl
   have m := m.front 2 rfl
   have m := m.front 2 rfl
   obtain rfl := sj hs_48
   obtain rfl := hq_49 _ rfl
   exact ⟨_, rfl, _, v_58, it_59, hl_62, f.weak ⟨rfl, rfl, trivial⟩, m, o_60⟩
 ·rintro a w ⟨l_79, rfl, G_78, v_80, it_81, hl_84, f, m, o_82⟩
  refine k_seq (k_region ?_)
  refine l_boxAgg 1 0 (ds := [v_80]) m Ag27 f rfl rfl rfl rfl rfl fun a f => ?_
  refine l_boxStore 0 0 (ds := [v_80]) m Tryd.sizeOf27 f rfl rfl rfl (ones_cons (Ow2.one1 2 m o_82 rfl) ones_nil) rfl (Nat.le_of_ble_eq_true rfl) rfl fun w m => ?_
  refine l_nil ?_
  refine k_ret ?_
  have rc_100 := rr_agg (P := Tryd.prog) 0 m Ag27 f (s := 2) rfl rfl rfl
  have m := m.front 2 rfl
  have m := m.eraseAt 2
  have m := m.eraseAt 1
  obtain rfl := sj hd
  exact ⟨[(.agg #[v_80])], ⟨rc_100, trivial⟩, f.defers, _, [it_81], hl_84, m, _, _, rfl, rfl, o_82⟩

theorem Wk.spec_l1Link__deep {W w : World} {G : GH} {H : List Itm} {v0_0 : Value} {it0_0 : Itm} {x0_0 : (List (List Int))} {x1 : Int} {x2 : Int} (m : Mem W G w (it0_0 :: H)) (o0_0 : Ow2 (RI .i64) 36 2 G it0_0 v0_0 x0_0) {y : ((List (List Int)))} (hd : D.spec_l1Link__deep x0_0 x1 x2 = some y) :
  Calls Tryd.prog 138 #[(.agg #[v0_0]), (.int .i64 x1), (.int .i64 x2)] w (Res W G H (fun G' Ho v => ∃ i0 : Itm, Ho = [i0] ∧ v = (.agg #[v0_0]) ∧ Ow2 (RI .i64) 36 2 G' i0 v0_0 y)) := by
 refine calls_b (args := [(.agg #[v0_0]), (.int .i64 x1), (.int .i64 x2)]) (N := 30) [.cell 6 27] Tryd.func138 rfl rfl (Nat.le_of_ble_eq_true rfl) rfl fun a f => ?_
 unfold D.spec_l1Link__deep at hd
 refine k_seq (k_region ?_)
 refine l_box (cs := [v0_0]) m f rfl rfl rfl fun b_2 w a m f => ?_
 refine l_alloc (cs := [(.slice none 0 0)]) Tryd.zeroValue27 m f rfl rfl fun b_4 w a m f => ?_
 refine l_nil (k_seq ?_)
 have m := m.front 2 rfl
 refine k_drawE [it0_0] (Itm.box b_4 27 [(.slice none 0 0)] :: Itm.box b_2 27 [v0_0] :: H) 10 Follows (by kernel_rfl) m ?_
 refine q_fieldAddr (i := 0) 10 Tryd.underlying27 rfl Tryd.sizeOf22 (by decide) rfl (by kernel_rfl) rfl f rfl rfl rfl fun a f => ?_
 refine q_boxCell (i := 1) 10 1 Pl22 rfl rfl rfl (by kernel_rfl) rfl f rfl rfl rfl fun a f => ?_
 refine q_mv 2 10 rfl (by kernel_rfl) f rfl rfl rfl fun a f => ?_
 refine q_fieldAddr (i := 3) 10 Tryd.underlying27 rfl Tryd.sizeOf22 (by decide) rfl (by kernel_rfl) rfl f rfl rfl rfl fun a f => ?_
 refine q_boxCell (i := 4) 10 1 Pl22 rfl rfl rfl (by kernel_rfl) rfl f rfl rfl rfl fun a f => ?_
 refine q_mv 5 10 rfl (by kernel_rfl) f rfl rfl rfl fun a f => ?_
 refine q_mv 8 10 rfl (by kernel_rfl) f rfl rfl rfl fun a f => ?_
 refine q_one (i := 6) rfl (by kernel_rfl) rfl fun G_5 w hl_6 m K_7 K_7 => ?_
 have o0_0 := Ow2.mono (RI.mono _) hl_6 o0_0
 obtain ⟨e_8, he_9, hd⟩ := bind_some hd
 refine l_own2_at 0 m o0_0 rfl T22 f rfl rfl rfl he_9 fun p_10 a ha_11 f => ?_
 refine l_nil ?_
 refine K_7 G_5 [it0_0] _ _ (GLe.refl _) m ?_
 refine q_one (i := 7) rfl (by kernel_rfl) rfl fun G_12 w hl_13 m K_14 K_14 => ?_
 have o0_0 := Ow2.mono (RI.mono _) hl_13 o0_0
 refine l_own2_load 0 m o0_0 rfl Pl36 f rfl rfl ha_11 he_9 fun c_15 a h_16 f => ?_
 refine l_nil ?_
 refine K_14 G_12 [it0_0] _ _ (GLe.refl _) m ?_
 refine q_one (i := 9) rfl (by kernel_rfl) rfl fun G_17 w hl_18 m K_19 K_19 => ?_
 have o0_0 := Ow2.mono (RI.mono _) hl_18 o0_0
 obtain ⟨it_20, it_22, m, o_21, o_23⟩ := Ow2.out o0_0 m he_9 h_16
 have m := m.front 1 rfl
 obtain ⟨y_25, hy_26, hd⟩ := bind_some hd
 refine l_res f rfl rfl Tryd.call155 (Wk.spec_l1Into__deep m o_23 hy_26) fun v_30 G_27 Ho_31 w hl_28 m hQ_29 a f => ?_
 obtain ⟨v_32, it_33, rfl, rfl, o_34⟩ := hQ_29
 have o_21 := OwH.mono (RI.mono _) hl_28 o_21
 refine l_nil ?_
 refine K_19 G_27 [it_33, it_20] _ _ hl_28 m ?_
 refine q_end fun G_36 w hl_37 m => ?_
 have o_34 := Ow.mono (RI.mono _) hl_37 o_34
 have o_21 := OwH.mono (RI.mono _) hl_37 o_21
 obtain ⟨e_38, he_39, hd⟩ := bind_some hd
 refine l_ownH_at 1 m o_21 rfl T22 f rfl rfl rfl he_39 fun p_40 a ha_41 f => ?_
 have m := m.front 1 rfl
 refine l_ownH_store m o_21 o_34 Tryd.sizeOf36 f rfl rfl ha_41 fun it_42 w m o_43 => ?_
 refine l_nil (k_seq ?_)
 refine k_drawE [it_42] (Itm.box b_4 27 [(.slice none 0 0)] :: Itm.box b_2 27 [v0_0] :: H) 10 Follows (by kernel_rfl) m ?_
 refine q_fieldAddr (i := 0) 10 Tryd.underlying27 rfl Tryd.sizeOf22 (by decide) rfl (by kernel_rfl) rfl f rfl rfl rfl fun a f => ?_
 refine q_boxCell (i := 1) 10 1 Pl22 rfl rfl rfl (by kernel_rfl) rfl f rfl rfl rfl fun a f => ?_
 refine q_mv 2 10 rfl (by kernel_rfl) f rfl rfl rfl fun a f => ?_
 refine q_fieldAddr (i := 3) 10 Tryd.underlying27 rfl Tryd.sizeOf22 (by decide) rfl (by kernel_rfl) rfl f rfl rfl rfl fun a f => ?_
 refine q_boxCell (i := 4) 10 1 Pl22 rfl rfl rfl (by kernel_rfl) rfl f rfl rfl rfl fun a f => ?_
 refine q_mv 5 10 rfl (by kernel_rfl) f rfl rfl rfl fun a f => ?_
 refine q_mv 8 10 rfl (by kernel_rfl) f rfl rfl rfl fun a f => ?_
 refine q_one (i := 6) rfl (by kernel_rfl) rfl fun G_44 w hl_45 m K_46 K_46 => ?_
 have o_43 := Ow2.mono (RI.mono _) hl_45 o_43
 obtain ⟨e_47, he_48, hd⟩ := bind_some hd
 refine l_own2_at 0 m o_43 rfl T22 f rfl rfl rfl he_48 fun p_49 a ha_50 f => ?_
 refine l_nil ?_
 refine K_46 G_44 [it_42] _ _ (GLe.refl _) m ?_
 refine q_one (i := 7) rfl (by kernel_rfl) rfl fun G_51 w hl_52 m K_53 K_53 => ?_
 have o_43 := Ow2.mono (RI.mono _) hl_52 o_43
 refine l_own2_load 0 m o_43 rfl Pl36 f rfl rfl ha_50 he_48 fun c_54 a h_55 f => ?_
 refine l_nil ?_
 refine K_53 G_51 [it_42] _ _ (GLe.refl _) m ?_
 refine q_one (i := 9) rfl (by kernel_rfl) rfl fun G_56 w hl_57 m K_58 K_58 => ?_
 have o_43 := Ow2.mono (RI.mono _) hl_57 o_43
 obtain ⟨it_59, it_61, m, o_60, o_62⟩ := Ow2.out o_43 m he_48 h_55
 have m := m.front 1 rfl
 obtain ⟨y_64, hy_65, hd⟩ := bind_some hd
 refine l_res f rfl rfl Tryd.call155 (Wk.spec_l1Into__deep m o_62 hy_65) fun v_69 G_66 Ho_70 w hl_67 m hQ_68 a f => ?_
 obtain ⟨v_71, it_72, rfl, rfl, o_73⟩ := hQ_68
 have o_60 := OwH.mono (RI.mono _) hl_67 o_60
 refine l_nil ?_
 refine K_58 G_66 [it_72, it_59] _ _ hl_67 m ?_
 refine q_end fun G_75 w hl_76 m => ?_
 have o_73 := Ow.mono (RI.mono _) hl_76 o_73
 have o_60 := OwH.mono (RI.mono _) hl_76 o_60
 obtain ⟨e_77, he_78, hd⟩ := bind_some hd
 refine l_ownH_at 1 m o_60 rfl T22 f rfl rfl rfl he_78 fun p_79 a ha_80 f => ?_
 have m := m.front 1 rfl
 refine l_ownH_store m o_60 o_73 Tryd.sizeOf36 f rfl rfl ha_80 fun it_81 w m o_82 => ?_
 refine l_nil (k_seq (k_region ?_))
 refine l_boxAgg 2 0 (ds := [v0_0]) m Ag27 f rfl rfl rfl rfl rfl fun a f => ?_
 refine l_boxStore 1 0 (ds := [v0_0]) m Tryd.sizeOf27 f rfl rfl rfl (ones_cons (Ow2.one1 0 m o_82 rfl) ones_nil) rfl (Nat.le_of_ble_eq_true rfl) rfl fun w m => ?_
 refine l_nil ?_
 refine k_ret ?_
 have rc_83 := rr_agg (P := Tryd.prog) 1 m Ag27 f (s := 6) rfl rfl rfl
 have m := m.eraseAt 2
 have m := m.eraseAt 1
 obtain rfl := sj hd
 exact ⟨[(.agg #[v0_0])], ⟨rc_83, trivial⟩, f.defers, _, [it_81], (GLe.trans hl_6 (GLe.trans hl_13 (GLe.trans hl_18 (GLe.trans hl_28 (GLe.trans hl_37 (GLe.trans hl_45 (GLe.trans hl_52 (GLe.trans hl_57 (GLe.trans hl_67 hl_76))))))))), m, _, rfl, rfl, o_82⟩

theorem Wk.spec_l6Of__deep {W w : World} {G : GH} {H : List Itm} {x0 : Int} (m : Mem W G w (H))  {y : ((List (List Int))) × Bool} (hd : D.spec_l6Of__deep x0 = some y) :
  Calls Tryd.prog 139 #[(.int .i64 x0)] w (Res W G H (fun G' Ho v => ∃ r0 : Value, ∃ i0 : Itm, Ho = [i0] ∧ v = .tuple #[(.agg #[r0]), (.bool y.2)] ∧ Ow2 (RI .i64) 36 2 G' i0 r0 y.1)) := by
 refine calls_b (args := [(.int .i64 x0)]) (N := 10) [.cell 2 27, .tmp 3] Tryd.func139 rfl rfl (Nat.le_of_ble_eq_true rfl) rfl fun a f => ?_
 unfold D.spec_l6Of__deep at hd
 refine k_seq (k_region ?_)
 refine l_alloc (cs := [(.slice none 0 0)]) Tryd.zeroValue27 m f rfl rfl fun b_2 w a m f => ?_
 refine l_as f rfl rfl fun a f => ?_
 refine l_nil (k_seq (k_seq (k_region ?_)))
 refine l_mv f rfl rfl fun a f => ?_
 obtain ⟨y_3, hy_4, hd⟩ := bind_some hd
 refine l_res f rfl rfl Tryd.call63 (Wk.spec_l1In m  hy_4) fun v_8 G_5 Ho_9 w hl_6 m hQ_7 a f => ?_
 obtain ⟨rfl, rfl⟩ := hQ_7
 refine l_op f rfl rfl rfl (r_not (f.eval rfl)) fun a f => ?_
 refine l_nil ?_
 rcases cond_some hd with ⟨hc_10, hd⟩ | ⟨hc_10, hd⟩
 ·refine k_true f rfl hc_10 ?_
  refine k_seq (k_region ?_)
  have hb_11 : ∀ w, (Instr.build 27 #[]).run Tryd.prog w = .ok (.agg #[(.slice none 0 0)]) w := by intro w; simp [Instr.build, Instr.fill, cells_int, cells_bool, cells_string, cells_slice, cells_pointer, cells_agg]
  refine l_build f rfl rfl hb_11 fun a f => ?_
  refine l_boxStore 0 0 (ds := [(.slice none 0 0)]) m Tryd.sizeOf27 f rfl rfl rfl (ones_cons rfl ones_nil) rfl (Nat.le_of_ble_eq_true rfl) rfl fun w m => ?_
  refine l_as f rfl rfl fun a f => ?_
  refine l_nil ?_
  refine k_ret ?_
  obtain ⟨it_12, m, o_13⟩ := Ow2.nil (RI .i64) 36 2 m
  have rc_15 := rr_agg (P := Tryd.prog) 1 m Ag27 f (s := 2) rfl rfl rfl
  have m := m.eraseAt 1
  obtain rfl := sj hd
  exact ⟨[(.agg #[(.slice none 0 0)]), (.bool false)], ⟨rc_15, f.get _ _ rfl, trivial⟩, f.defers, _, [it_12], hl_6, m, _, _, rfl, rfl, o_13⟩
 ·refine k_false f rfl hc_10 ?_
  refine k_skip ?_
  refine k_seq (k_region ?_)
  refine l_mv f rfl rfl fun a f => ?_
  obtain ⟨y_16, hy_17, hd⟩ := bind_some hd
  refine l_res f rfl rfl Tryd.call91 (Wk.spec_l1Empty__deep m  hy_17) fun v_21 G_18 Ho_22 w hl_19 m hQ_20 a f => ?_
  obtain ⟨v_23, it_24, rfl, rfl, o_25⟩ := hQ_20
  refine l_boxStore 1 0 (ds := [v_23]) m Tryd.sizeOf27 f rfl rfl rfl (ones_cons (Ow2.one1 0 m o_25 rfl) ones_nil) rfl (Nat.le_of_ble_eq_true rfl) rfl fun w m => ?_
  refine l_as f rfl rfl fun a f => ?_
  refine l_nil ?_
  refine k_ret ?_
  have rc_27 := rr_agg (P := Tryd.prog) 1 m Ag27 f (s := 2) rfl rfl rfl
  have m := m.eraseAt 1
  obtain rfl := sj hd
  exact ⟨[(.agg #[v_23]), (.bool true)], ⟨rc_27, f.get _ _ rfl, trivial⟩, f.defers, _, [it_24], (GLe.trans hl_6 hl_19), m, _, _, rfl, rfl, o_25⟩

theorem Wk.spec_PathGraph__deep {W w : World} {G : GH} {H : List Itm} {x0 : Int} (m : Mem W G w (H))  {y : ((List (List Int))) × Bool} (hd : D.spec_PathGraph__deep x0 = some y) :
  Calls Tryd.prog 122 #[(.int .i64 x0)] w (Res W G H (fun G' Ho v => ∃ r0 : Value, ∃ i0 : Itm, Ho = [i0] ∧ v = .tuple #[(.agg #[r0]), (.bool y.2)] ∧ Ow2 (RI .i64) 36 2 G' i0 r0 y.1)) := by
 refine calls_b (args := [(.int .i64 x0)]) (N := 27) [.cell 2 27, .tmp 3] Tryd.func122 rfl rfl (Nat.le_of_ble_eq_true rfl) rfl fun a f => ?_
 unfold D.spec_PathGraph__deep at hd
 refine k_seq (k_region ?_)
 refine l_alloc (cs := [(.slice none 0 0)]) Tryd.zeroValue27 m f rfl rfl fun b_2 w a m f => ?_
 refine l_as f rfl rfl fun a f => ?_
 refine l_nil (k_seq (k_region ?_))
 refine l_mv f rfl rfl fun a f => ?_
 obtain ⟨y_3, hy_4, hd⟩ := bind_some hd
 refine l_res f rfl rfl Tryd.call139 (Wk.spec_l6Of__deep m  hy_4) fun v_8 G_5 Ho_9 w hl_6 m hQ_7 a f => ?_
 obtain ⟨v_10, it_11, rfl, rfl, o_12⟩ := hQ_7
 refine l_mv f rfl rfl fun a f => ?_
 refine l_op f rfl rfl rfl (r_extract (f.eval rfl) rfl) fun a f => ?_
 refine l_op f rfl rfl rfl (r_extract (f.eval rfl) rfl) fun a f => ?_
 refine l_alloc (cs := [(.slice none 0 0)]) Tryd.zeroValue27 m f rfl rfl fun b_15 w a m f => ?_
 refine l_boxStore 0 0 (ds := [v_10]) m Tryd.sizeOf27 f rfl rfl rfl (ones_cons (Ow2.one1 1 m o_12 rfl) ones_nil) rfl (Nat.le_of_ble_eq_true rfl) rfl fun w m => ?_
 refine l_as f rfl rfl fun a f => ?_
 refine l_nil (k_seq (k_seq (k_region ?_)))
 refine l_as f rfl rfl fun a f => ?_
 refine l_nil ?_
 obtain ⟨q_47, hl_48, hd⟩ := bind_some hd
 refine k_cut (fun a w => ∃ l_73 : List (List Int), l_73 = q_47 ∧ ∃ (G_72 : GH) (it_74 : Itm), GLe G_5 G_72 ∧ Fr a 27 [(2, (.pointer (some ⟨b_2, 0, none⟩))), (4, (.pointer (some ⟨b_15, 0, none⟩))), (5, (.bool y_3.2))] ∧ Mem W G_72 w (Itm.box b_2 27 [(.slice none 0 0)] :: Itm.box b_15 27 [v_10] :: it_74 :: H) ∧ Ow2 (RI .i64) 36 2 G_72 it_74 v_10 l_73) ?_ ?_
 ·refine k_block ?_
  have m := m.front 1 rfl
  have m := m.front 1 rfl
  have m := m.front 2 rfl
  refine k_loop (fun s_51 a w => ∃ x_54 : Int, ∃ l_55 : List (List Int), (x_54, l_55) = s_51 ∧ ∃ (G_53 : GH) (it_56 : Itm), GLe G_5 G_53 ∧ Fr a 27 [(0, (.int .i64 x0)), (2, (.pointer (some ⟨b_2, 0, none⟩))), (4, (.pointer (some ⟨b_15, 0, none⟩))), (5, (.bool y_3.2)), (6, (.int .i64 x_54))] ∧ Mem W G_53 w (Itm.box b_2 27 [(.slice none 0 0)] :: Itm.box b_15 27 [v_10] :: it_56 :: H) ∧ Ow2 (RI .i64) 36 2 G_53 it_56 v_10 l_55) hl_48 ⟨_, _, rfl, _, it_11, (GLe.refl _), f.weak ⟨rfl, rfl, rfl, rfl, rfl, trivial⟩, m, o_12⟩ ?_
  clear hl_48 f m
  rintro s_51 o_52 hs_49 hq_50 a w ⟨x_54, l_55, rfl, G_53, it_56, hl_58, f, m, o_57⟩
  refine k_seq (k_seq (k_region ?_))
  refine l_mv f rfl rfl fun a f => ?_
  refine l_mv f rfl rfl fun a f => ?_
  refine l_in f rfl rfl rfl b_lss fun a f => ?_
  refine l_mv f rfl rfl fun a f => ?_
  refine l_cut 2 (fun a w => ∃ G_78, GLe G_53 G_78 ∧ Mem W G_78 w (Itm.box b_2 27 [(.slice none 0 0)] :: Itm.box b_15 27 [v_10] :: it_56 :: H) ∧ Fr a 27 [(0, (.int .i64 x0)), (2, (.pointer (some ⟨b_2, 0, none⟩))), (4, (.pointer (some ⟨b_15, 0, none⟩))), (5, (.bool y_3.2)), (6, (.int .i64 x_54)), (12, (.int .i64 x_54)), (13, (.int .i64 x0)), (14, (.bool (decide (x_54 < x0)))), (15, (.bool (decide (x_54 < x0)))), (17, (.bool ((decide (x_54 < x0)) && y_3.2)))]) ?_ ?_
  ·rcases Bool.eq_false_or_eq_true (decide (x_54 < x0)) with hc_77 | hc_77
   ·refine l_run f rfl rfl hc_77 ?_
    refine l_mv f rfl rfl fun a f => ?_
    refine l_op f rfl rfl rfl (r_pickT (f.eval rfl) hc_77 (f.eval rfl)) fun a f => ?_
    have m := m.front 2 rfl
    have m := m.front 2 rfl
    have m := m.front 2 rfl
    exact ⟨_, (GLe.refl _), m, f.weak ⟨rfl, rfl, rfl, rfl, rfl, rfl, rfl, rfl, rfl, by rw [hc_77]; rfl, trivial⟩⟩
   ·refine l_not' f rfl rfl rfl hc_77 fun a f => ?_
    refine l_op f rfl rfl rfl (r_pickF (f.eval rfl) hc_77 (f.eval rfl)) fun a f => ?_
    have m := m.front 2 rfl
    have m := m.front 2 rfl
    have m := m.front 2 rfl
    exact ⟨_, (GLe.refl _), m, f.weak ⟨rfl, rfl, rfl, rfl, rfl, rfl, rfl, rfl, rfl, by rw [hc_77]; rfl, trivial⟩⟩
  ·rintro a w ⟨G_78, hl_79, m, f⟩
   have o_57 := Ow2.mono (RI.mono _) hl_79 o_57
   refine l_nil ?_
   rcases cond_some hs_49 with ⟨hc_80, hs_49⟩ | ⟨hc_80, hs_49⟩
   ·refine k_true f rfl hc_80 ?_
    refine k_skip ?_
    refine k_seq (k_block (k_region ?_))
    refine l_boxAgg 1 0 (ds := [v_10]) m Ag27 f rfl rfl rfl rfl rfl fun a f => ?_
    refine l_mv f rfl rfl fun a f => ?_
    refine l_in f rfl rfl rfl b_sub fun a f => ?_
    refine l_mv f rfl rfl fun a f => ?_
    have m := m.front 2 rfl
    obtain ⟨y_81, hy_82, hs_49⟩ := bind_some hs_49
    refine l_res f rfl rfl Tryd.call138 (Wk.spec_l1Link__deep m o_57 hy_82) fun v_86 G_83 Ho_87 w hl_84 m hQ_85 a f => ?_
    obtain ⟨it_88, rfl, rfl, o_89⟩ := hQ_85
    refine l_boxStore 2 0 (ds := [v_10]) m Tryd.sizeOf27 f rfl rfl rfl (ones_cons (Ow2.one1 0 m o_89 rfl) ones_nil) rfl (Nat.le_of_ble_eq_true rfl) rfl fun w m => ?_
    refine l_nil (k_region ?_)
    refine l_mv f rfl rfl fun a f => ?_
    refine l_in f rfl rfl rfl b_add fun a f => ?_
    refine l_as f rfl rfl fun a f => ?_
    refine l_nil ?_
    have m := m.front 2 rfl
    have m := m.front 2 rfl
    obtain rfl := sj hs_49
    exact ⟨_, rfl, _, _, rfl, _, it_88, (GLe.trans hl_58 (GLe.trans hl_79 hl_84)), f.weak ⟨rfl, rfl, rfl, rfl, rfl, trivial⟩, m, o_89⟩
   ·refine k_false f rfl hc_80 ?_
    refine k_exit rfl ?_
    have m := m.front 2 rfl
    have m := m.front 2 rfl
    have m := m.front 2 rfl
    obtain rfl := sj hs_49
    obtain rfl := hq_50 _ rfl
    exact ⟨_, rfl, _, it_56, (GLe.trans hl_58 hl_79), f.weak ⟨rfl, rfl, rfl, trivial⟩, m, o_57⟩
 ·rintro a w ⟨l_73, rfl, G_72, it_74, hl_76, f, m, o_75⟩
  refine k_seq (k_region ?_)
  refine l_boxAgg 1 0 (ds := [v_10]) m Ag27 f rfl rfl rfl rfl rfl fun a f => ?_
  refine l_mv f rfl rfl fun a f => ?_
  refine l_boxStore 0 0 (ds := [v_10]) m Tryd.sizeOf27 f rfl rfl rfl (ones_cons (Ow2.one1 2 m o_75 rfl) ones_nil) rfl (Nat.le_of_ble_eq_true rfl) rfl fun w m => ?_
  refine l_as f rfl rfl fun a f => ?_
  refine l_nil ?_
  refine k_ret ?_
  have rc_90 := rr_agg (P := Tryd.prog) 0 m Ag27 f (s := 2) rfl rfl rfl
  have m := m.front 2 rfl
  have m := m.eraseAt 2
  have m := m.eraseAt 1
  obtain rfl := sj hd
  exact ⟨[(.agg #[v_10]), (.bool y_3.2)], ⟨rc_90, f.get _ _ rfl, trivial⟩, f.defers, _, [it_74], (GLe.trans hl_6 hl_76), m, _, _, rfl, rfl, o_75⟩

theorem Wk.spec_LoopGraph__deep {W w : World} {G : GH} {H : List Itm} {x0 : Int} (m : Mem W G w (H))  {y : ((List (List Int))) × Bool} (hd : D.spec_LoopGraph__deep x0 = some y) :
  Calls Tryd.prog 121 #[(.int .i64 x0)] w (Res W G H (fun G' Ho v => ∃ r0 : Value, ∃ i0 : Itm, Ho = [i0] ∧ v = .tuple #[(.agg #[r0]), (.bool y.2)] ∧ Ow2 (RI .i64) 36 2 G' i0 r0 y.1)) := by
 refine calls_b (args := [(.int .i64 x0)]) (N := 22) [.cell 2 27, .tmp 3] Tryd.func121 rfl rfl (Nat.le_of_ble_eq_true rfl) rfl fun a f => ?_
 unfold D.spec_LoopGraph__deep at hd
 refine k_seq (k_region ?_)
 refine l_alloc (cs := [(.slice none 0 0)]) Tryd.zeroValue27 m f rfl rfl fun b_2 w a m f => ?_
 refine l_as f rfl rfl fun a f => ?_
 refine l_nil (k_seq (k_region ?_))
 refine l_mv f rfl rfl fun a f => ?_
 obtain ⟨y_3, hy_4, hd⟩ := bind_some hd
 refine l_res f rfl rfl Tryd.call122 (Wk.spec_PathGraph__deep m  hy_4) fun v_8 G_5 Ho_9 w hl_6 m hQ_7 a f => ?_
 obtain ⟨v_10, it_11, rfl, rfl, o_12⟩ := hQ_7
 refine l_mv f rfl rfl fun a f => ?_
 refine l_op f rfl rfl rfl (r_extract (f.eval rfl) rfl) fun a f => ?_
 refine l_op f rfl rfl rfl (r_extract (f.eval rfl) rfl) fun a f => ?_
 refine l_alloc (cs := [(.slice none 0 0)]) Tryd.zeroValue27 m f rfl rfl fun b_15 w a m f => ?_
 refine l_boxStore 0 0 (ds := [v_10]) m Tryd.sizeOf27 f rfl rfl rfl (ones_cons (Ow2.one1 1 m o_12 rfl) ones_nil) rfl (Nat.le_of_ble_eq_true rfl) rfl fun w m => ?_
 refine l_as f rfl rfl fun a f => ?_
 refine l_nil (k_seq (k_seq (k_region ?_)))
 refine l_mv f rfl rfl fun a f => ?_
 refine l_op f rfl rfl rfl (r_not (f.eval rfl)) fun a f => ?_
 refine l_mv f rfl rfl fun a f => ?_
 refine l_cut 3 (fun a w => ∃ G_17, GLe G_5 G_17 ∧ Mem W G_17 w (Itm.box b_15 27 [v_10] :: it_11 :: Itm.box b_2 27 [(.slice none 0 0)] :: H) ∧ Fr a 22 [(0, (.int .i64 x0)), (2, (.pointer (some ⟨b_2, 0, none⟩))), (4, (.pointer (some ⟨b_15, 0, none⟩))), (5, (.bool y_3.2)), (11, (.bool y_3.2)), (12, (.bool (!y_3.2))), (13, (.bool (!y_3.2))), (16, (.bool ((!y_3.2) || (decide (x0 < 3)))))]) ?_ ?_
 ·rcases Bool.eq_false_or_eq_true (!y_3.2) with hc_16 | hc_16
  ·refine l_not' f rfl rfl rfl hc_16 fun a f => ?_
   refine l_not' f rfl rfl rfl hc_16 fun a f => ?_
   refine l_op f rfl rfl rfl (r_pickT (f.eval rfl) hc_16 (f.eval rfl)) fun a f => ?_
   have m := m.front 2 rfl
   have m := m.front 2 rfl
   have m := m.front 2 rfl
   exact ⟨_, (GLe.refl _), m, f.weak ⟨rfl, rfl, rfl, rfl, rfl, rfl, rfl, by rw [hc_16]; rfl, trivial⟩⟩
  ·refine l_run f rfl rfl hc_16 ?_
   refine l_mv f rfl rfl fun a f => ?_
   refine l_run f rfl rfl hc_16 ?_
   refine l_in f rfl rfl rfl b_lss fun a f => ?_
   refine l_op f rfl rfl rfl (r_pickF (f.eval rfl) hc_16 (f.eval rfl)) fun a f => ?_
   have m := m.front 2 rfl
   have m := m.front 2 rfl
   have m := m.front 2 rfl
   exact ⟨_, (GLe.refl _), m, f.weak ⟨rfl, rfl, rfl, rfl, rfl, rfl, rfl, by rw [hc_16]; rfl, trivial⟩⟩
 ·rintro a w ⟨G_17, hl_18, m, f⟩
  have o_12 := Ow2.mono (RI.mono _) hl_18 o_12
  refine l_nil ?_
  rcases cond_some hd with ⟨hc_19, hd⟩ | ⟨hc_19, hd⟩
  ·refine k_true f rfl hc_19 ?_
   refine k_seq (k_region ?_)
   have hb_20 : ∀ w, (Instr.build 27 #[]).run Tryd.prog w = .ok (.agg #[(.slice none 0 0)]) w := by intro w; simp [Instr.build, Instr.fill, cells_int, cells_bool, cells_string, cells_slice, cells_pointer, cells_agg]
   refine l_build f rfl rfl hb_20 fun a f => ?_
   refine l_boxStore 2 0 (ds := [(.slice none 0 0)]) m Tryd.sizeOf27 f rfl rfl rfl (ones_cons rfl ones_nil) rfl (Nat.le_of_ble_eq_true rfl) rfl fun w m => ?_
   refine l_as f rfl rfl fun a f => ?_
   refine l_nil ?_
   refine k_ret ?_
   obtain ⟨it_21, m, o_22⟩ := Ow2.nil (RI .i64) 36 2 m
   have rc_24 := rr_agg (P := Tryd.prog) 3 m Ag27 f (s := 2) rfl rfl rfl
   have m := m.front 2 rfl
   have m := m.front 1 rfl
   have m := m.eraseAt 3
   have m := m.eraseAt 2
   have m := m.eraseAt 1
   obtain rfl := sj hd
   exact ⟨[(.agg #[(.slice none 0 0)]), (.bool false)], ⟨rc_24, f.get _ _ rfl, trivial⟩, f.defers, _, [it_21], (GLe.trans hl_6 hl_18), m, _, _, rfl, rfl, o_22⟩
  ·refine k_false f rfl hc_19 ?_
   refine k_skip ?_
   refine k_seq (k_region ?_)
   refine l_boxAgg 0 0 (ds := [v_10]) m Ag27 f rfl rfl rfl rfl rfl fun a f => ?_
   refine l_mv f rfl rfl fun a f => ?_
   refine l_in f rfl rfl rfl b_sub fun a f => ?_
   have m := m.front 1 rfl
   obtain ⟨y_25, hy_26, hd⟩ := bind_some hd
   refine l_res f rfl rfl Tryd.call138 (Wk.spec_l1Link__deep m o_12 hy_26) fun v_30 G_27 Ho_31 w hl_28 m hQ_29 a f => ?_
   obtain ⟨it_32, rfl, rfl, o_33⟩ := hQ_29
   refine l_boxStore 2 0 (ds := [v_10]) m Tryd.sizeOf27 f rfl rfl rfl (ones_cons (Ow2.one1 0 m o_33 rfl) ones_nil) rfl (Nat.le_of_ble_eq_true rfl) rfl fun w m => ?_
   refine l_as f rfl rfl fun a f => ?_
   refine l_nil ?_
   refine k_ret ?_
   have rc_34 := rr_agg (P := Tryd.prog) 2 m Ag27 f (s := 2) rfl rfl rfl
   have m := m.eraseAt 2
   have m := m.eraseAt 1
   obtain rfl := sj hd
   exact ⟨[(.agg #[v_10]), (.bool true)], ⟨rc_34, f.get _ _ rfl, trivial⟩, f.defers, _, [it_32], (GLe.trans hl_6 (GLe.trans hl_18 hl_28)), m, _, _, rfl, rfl, o_33⟩

theorem Wk.spec_l1DrawOf__deep {W w : World} {G : GH} {H : List Itm} {v0_0 : Value} {b0 : Nat} {x0_0 : (List Int)} {x0_1 : Int} {x0_2 : Int} {x1 : Int} (m : Mem W G w (Itm.box b0 94 [v0_0, (.int .i64 x0_1), (.int .i64 x0_2)] :: H)) (h0_0 : RSl (RI .u8) G v0_0 x0_0) {y : ((List (List Int))) × ((List Int)) × Int × Int} (hd : D.spec_l1DrawOf__deep x0_0 x0_1 x0_2 x1 = some y) :
  Calls Tryd.prog 123 #[(.pointer (some ⟨b0, 0, none⟩)), (.int .i64 x1)] w (Res W G H (fun G' Ho v => ∃ r0 : Value, ∃ i0 : Itm, ∃ r2 : Value, Ho = [i0, Itm.box b0 94 [r2, (.int .i64 y.2.2.1), (.int .i64 y.2.2.2)]] ∧ v = (.agg #[r0]) ∧ Ow2 (RI .i64) 36 2 G' i0 r0 y.1 ∧ RSl (RI .u8) G' r2 y.2.1)) := by
 refine calls_b (args := [(.pointer (some ⟨b0, 0, none⟩)), (.int .i64 x1)]) (N := 33) [.cell 4 27] Tryd.func123 rfl rfl (Nat.le_of_ble_eq_true rfl) rfl fun a f => ?_
 unfold D.spec_l1DrawOf__deep at hd
 refine k_seq (k_region ?_)
 refine l_alloc (cs := [(.slice none 0 0)]) Tryd.zeroValue27 m f rfl rfl fun b_2 w a m f => ?_
 refine l_nil (k_seq (k_region ?_))
 refine l_mv f rfl rfl fun a f => ?_
 obtain ⟨y_3, hy_4, hd⟩ := bind_some hd
 refine l_res f rfl rfl Tryd.call91 (Wk.spec_l1Empty__deep m  hy_4) fun v_8 G_5 Ho_9 w hl_6 m hQ_7 a f => ?_
 obtain ⟨v_10, it_11, rfl, rfl, o_12⟩ := hQ_7
 have h0_0 := RSl.mono (RI.mono _) _ _ _ _ hl_6 h0_0
 refine l_alloc (cs := [(.slice none 0 0)]) Tryd.zeroValue27 m f rfl rfl fun b_15 w a m f => ?_
 refine l_boxStore 0 0 (ds := [v_10]) m Tryd.sizeOf27 f rfl rfl rfl (ones_cons (Ow2.one1 1 m o_12 rfl) ones_nil) rfl (Nat.le_of_ble_eq_true rfl) rfl fun w m => ?_
 refine l_nil (k_seq (k_region ?_))
 refine l_mv f rfl rfl fun a f => ?_
 have m := m.front 3 rfl
 obtain ⟨y_16, hy_17, hd⟩ := bind_some hd
 refine l_res f rfl rfl Tryd.call89 (Wk.spec_l1Below m h0_0 hy_17) fun v_21 G_18 Ho_22 w hl_19 m hQ_20 a f => ?_
 obtain ⟨v_23, rfl, rfl, h_24⟩ := hQ_20
 have o_12 := Ow2.mono (RI.mono _) hl_19 o_12
 refine l_in f rfl rfl rfl b_add fun a f => ?_
 refine l_as f rfl rfl fun a f => ?_
 refine l_nil (k_seq (k_seq (k_region ?_)))
 refine l_as f rfl rfl fun a f => ?_
 refine l_nil ?_
 obtain ⟨q_271, hl_272, hd⟩ := bind_some hd
 refine k_cut (fun a w => ∃ l_407 : List (List Int), ∃ l_410 : List Int, ∃ x_413 : Int, ∃ x_414 : Int, (l_407, l_410, x_413, x_414) = q_271 ∧ ∃ (G_406 : GH) (it_408 : Itm) (v_411 : Value), GLe G_18 G_406 ∧ Fr a 33 [(4, (.pointer (some ⟨b_2, 0, none⟩))), (5, (.pointer (some ⟨b_15, 0, none⟩)))] ∧ Mem W G_406 w (Itm.box b_2 27 [(.slice none 0 0)] :: Itm.box b_15 27 [v_10] :: Itm.box b0 94 [v_411, (.int .i64 x_413), (.int .i64 x_414)] :: it_408 :: H) ∧ Ow2 (RI .i64) 36 2 G_406 it_408 v_10 l_407 ∧ RSl (RI .u8) G_406 v_411 l_410) ?_ ?_
 ·refine k_block ?_
  have m := m.front 2 rfl
  have m := m.front 2 rfl
  have m := m.front 3 rfl
  have m := m.front 3 rfl
  refine k_loop (fun s_275 a w => ∃ x_278 : Int, ∃ l_279 : List Int, ∃ x_282 : Int, ∃ x_283 : Int, ∃ l_284 : List (List Int), (x_278, l_279, x_282, x_283, l_284) = s_275 ∧ ∃ (G_277 : GH) (v_280 : Value) (it_285 : Itm), GLe G_18 G_277 ∧ Fr a 33 [(0, (.pointer (some ⟨b0, 0, none⟩))), (1, (.int .i64 x1)), (4, (.pointer (some ⟨b_2, 0, none⟩))), (5, (.pointer (some ⟨b_15, 0, none⟩))), (6, (.int .i64 (IntKind.i64.wrap (1 + y_16.1)))), (7, (.int .i64 x_278))] ∧ Mem W G_277 w (Itm.box b0 94 [v_280, (.int .i64 x_282), (.int .i64 x_283)] :: Itm.box b_2 27 [(.slice none 0 0)] :: Itm.box b_15 27 [v_10] :: it_285 :: H) ∧ RSl (RI .u8) G_277 v_280 l_279 ∧ Ow2 (RI .i64) 36 2 G_277 it_285 v_10 l_284) hl_272 ⟨_, _, _, _, _, rfl, _, v_23, it_11, (GLe.refl _), f.weak ⟨rfl, rfl, rfl, rfl, rfl, rfl, trivial⟩, m, h_24, o_12⟩ ?_
  clear hl_272 f m
  rintro s_275 o_276 hs_273 hq_274 a w ⟨x_278, l_279, x_282, x_283, l_284, rfl, G_277, v_280, it_285, hl_287, f, m, h_281, o_286⟩
  refine k_seq (k_seq (k_region ?_))
  refine l_mv f rfl rfl fun a f => ?_
  refine l_mv f rfl rfl fun a f => ?_
  refine l_in f rfl rfl rfl b_lss fun a f => ?_
  refine l_nil ?_
  rcases cond_some hs_273 with ⟨hc_416, hs_273⟩ | ⟨hc_416, hs_273⟩
  ·refine k_true f rfl hc_416 ?_
   refine k_skip ?_
   refine k_seq (k_block (k_seq (k_region ?_)))
   refine l_as f rfl rfl fun a f => ?_
   refine l_nil ?_
   obtain ⟨q_467, hl_468, hs_273⟩ := bind_some hs_273
   refine k_cut (fun a w => ∃ l_505 : List Int, ∃ x_508 : Int, ∃ x_509 : Int, ∃ l_510 : List (List Int), (l_505, x_508, x_509, l_510) = q_467 ∧ ∃ (G_504 : GH) (v_506 : Value) (it_511 : Itm), GLe G_277 G_504 ∧ Fr a 33 [(0, (.pointer (some ⟨b0, 0, none⟩))), (1, (.int .i64 x1)), (4, (.pointer (some ⟨b_2, 0, none⟩))), (5, (.pointer (some ⟨b_15, 0, none⟩))), (6, (.int .i64 (IntKind.i64.wrap (1 + y_16.1)))), (7, (.int .i64 x_278))] ∧ Mem W G_504 w (Itm.box b0 94 [v_506, (.int .i64 x_508), (.int .i64 x_509)] :: Itm.box b_2 27 [(.slice none 0 0)] :: Itm.box b_15 27 [v_10] :: it_511 :: H) ∧ RSl (RI .u8) G_504 v_506 l_505 ∧ Ow2 (RI .i64) 36 2 G_504 it_511 v_10 l_510) ?_ ?_
   ·refine k_block ?_
    have m := m.front 3 rfl
    have m := m.front 3 rfl
    have m := m.front 3 rfl
    have m := m.front 3 rfl
    refine k_loop (fun s_471 a w => ∃ x_474 : Int, ∃ l_475 : List Int, ∃ x_478 : Int, ∃ x_479 : Int, ∃ l_480 : List (List Int), (x_474, l_475, x_478, x_479, l_480) = s_471 ∧ ∃ (G_473 : GH) (v_476 : Value) (it_481 : Itm), GLe G_277 G_473 ∧ Fr a 33 [(0, (.pointer (some ⟨b0, 0, none⟩))), (1, (.int .i64 x1)), (4, (.pointer (some ⟨b_2, 0, none⟩))), (5, (.pointer (some ⟨b_15, 0, none⟩))), (6, (.int .i64 (IntKind.i64.wrap (1 + y_16.1)))), (7, (.int .i64 x_278)), (8, (.int .i64 x_474))] ∧ Mem W G_473 w (Itm.box b0 94 [v_476, (.int .i64 x_478), (.int .i64 x_479)] :: Itm.box b_2 27 [(.slice none 0 0)] :: Itm.box b_15 27 [v_10] :: it_481 :: H) ∧ RSl (RI .u8) G_473 v_476 l_475 ∧ Ow2 (RI .i64) 36 2 G_473 it_481 v_10 l_480) hl_468 ⟨_, _, _, _, _, rfl, _, v_280, it_285, (GLe.refl _), f.weak ⟨rfl, rfl, rfl, rfl, rfl, rfl, rfl, trivial⟩, m, h_281, o_286⟩ ?_
    clear hl_468 f m
    rintro s_471 o_472 hs_469 hq_470 a w ⟨x_474, l_475, x_478, x_479, l_480, rfl, G_473, v_476, it_481, hl_483, f, m, h_477, o_482⟩
    refine k_seq (k_seq (k_region ?_))
    refine l_mv f rfl rfl fun a f => ?_
    refine l_mv f rfl rfl fun a f => ?_
    refine l_in f rfl rfl rfl b_lss fun a f => ?_
    refine l_nil ?_
    rcases cond_some hs_469 with ⟨hc_514, hs_469⟩ | ⟨hc_514, hs_469⟩
    ·refine k_true f rfl hc_514 ?_
     refine k_skip ?_
     refine k_seq (k_block (k_seq (k_region ?_)))
     refine l_mv f rfl rfl fun a f => ?_
     obtain ⟨y_515, hy_516, hs_469⟩ := bind_some hs_469
     refine l_res f rfl rfl Tryd.call89 (Wk.spec_l1Below m h_477 hy_516) fun v_520 G_517 Ho_521 w hl_518 m hQ_519 a f => ?_
     obtain ⟨v_522, rfl, rfl, h_523⟩ := hQ_519
     have o_482 := Ow2.mono (RI.mono _) hl_518 o_482
     refine l_mv f rfl rfl fun a f => ?_
     refine l_in f rfl rfl rfl b_lss fun a f => ?_
     refine l_nil ?_
     rcases cond_some hs_469 with ⟨hc_524, hs_469⟩ | ⟨hc_524, hs_469⟩
     ·refine k_true f rfl hc_524 ?_
      refine k_region ?_
      refine l_boxAgg 2 0 (ds := [v_10]) m Ag27 f rfl rfl rfl rfl rfl fun a f => ?_
      refine l_mv f rfl rfl fun a f => ?_
      refine l_mv f rfl rfl fun a f => ?_
      have m := m.front 3 rfl
      obtain ⟨y_525, hy_526, hs_469⟩ := bind_some hs_469
      refine l_res f rfl rfl Tryd.call138 (Wk.spec_l1Link__deep m o_482 hy_526) fun v_530 G_527 Ho_531 w hl_528 m hQ_529 a f => ?_
      obtain ⟨it_532, rfl, rfl, o_533⟩ := hQ_529
      have h_523 := RSl.mono (RI.mono _) _ _ _ _ hl_528 h_523
      refine l_boxStore 3 0 (ds := [v_10]) m Tryd.sizeOf27 f rfl rfl rfl (ones_cons (Ow2.one1 0 m o_533 rfl) ones_nil) rfl (Nat.le_of_ble_eq_true rfl) rfl fun w m => ?_
      refine l_nil (k_region ?_)
      refine l_mv f rfl rfl fun a f => ?_
      refine l_in f rfl rfl rfl b_add fun a f => ?_
      refine l_as f rfl rfl fun a f => ?_
      refine l_nil ?_
      have m := m.front 3 rfl
      have m := m.front 3 rfl
      have m := m.front 3 rfl
      obtain rfl := sj hs_469
      exact ⟨_, rfl, _, _, _, _, _, rfl, _, v_522, it_532, (GLe.trans hl_483 (GLe.trans hl_518 hl_528)), f.weak ⟨rfl, rfl, rfl, rfl, rfl, rfl, rfl, trivial⟩, m, h_523, o_533⟩
     ·refine k_false f rfl hc_524 ?_
      refine k_skip ?_
      refine k_region ?_
      refine l_mv f rfl rfl fun a f => ?_
      refine l_in f rfl rfl rfl b_add fun a f => ?_
      refine l_as f rfl rfl fun a f => ?_
      refine l_nil ?_
      have m := m.front 3 rfl
      have m := m.front 3 rfl
      have m := m.front 3 rfl
      have m := m.front 3 rfl
      obtain rfl := sj hs_469
      exact ⟨_, rfl, _, _, _, _, _, rfl, _, v_522, it_481, (GLe.trans hl_483 hl_518), f.weak ⟨rfl, rfl, rfl, rfl, rfl, rfl, rfl, trivial⟩, m, h_523, o_482⟩
    ·refine k_false f rfl hc_514 ?_
     refine k_exit rfl ?_
     have m := m.front 3 rfl
     have m := m.front 3 rfl
     have m := m.front 3 rfl
     have m := m.front 3 rfl
     obtain rfl := sj hs_469
     obtain rfl := hq_470 _ rfl
     exact ⟨_, _, _, _, rfl, _, v_476, it_481, hl_483, f.weak ⟨rfl, rfl, rfl, rfl, rfl, rfl, trivial⟩, m, h_477, o_482⟩
   ·rintro a w ⟨l_505, x_508, x_509, l_510, rfl, G_504, v_506, it_511, hl_513, f, m, h_507, o_512⟩
    refine k_region ?_
    refine l_mv f rfl rfl fun a f => ?_
    refine l_in f rfl rfl rfl b_add fun a f => ?_
    refine l_as f rfl rfl fun a f => ?_
    refine l_nil ?_
    have m := m.front 3 rfl
    have m := m.front 3 rfl
    have m := m.front 3 rfl
    have m := m.front 3 rfl
    obtain rfl := sj hs_273
    exact ⟨_, rfl, _, _, _, _, _, rfl, _, v_506, it_511, (GLe.trans hl_287 hl_513), f.weak ⟨rfl, rfl, rfl, rfl, rfl, rfl, trivial⟩, m, h_507, o_512⟩
  ·refine k_false f rfl hc_416 ?_
   refine k_exit rfl ?_
   have m := m.front 3 rfl
   have m := m.front 1 rfl
   have m := m.front 3 rfl
   have m := m.front 3 rfl
   obtain rfl := sj hs_273
   obtain rfl := hq_274 _ rfl
   exact ⟨_, _, _, _, rfl, _, it_285, v_280, hl_287, f.weak ⟨rfl, rfl, trivial⟩, m, o_286, h_281⟩
 ·rintro a w ⟨l_407, l_410, x_413, x_414, rfl, G_406, it_408, v_411, hl_415, f, m, o_409, h_412⟩
  refine k_seq (k_region ?_)
  refine l_boxAgg 1 0 (ds := [v_10]) m Ag27 f rfl rfl rfl rfl rfl fun a f => ?_
  refine l_boxStore 0 0 (ds := [v_10]) m Tryd.sizeOf27 f rfl rfl rfl (ones_cons (Ow2.one1 3 m o_409 rfl) ones_nil) rfl (Nat.le_of_ble_eq_true rfl) rfl fun w m => ?_
  refine l_nil ?_
  refine k_ret ?_
  have rc_534 := rr_agg (P := Tryd.prog) 0 m Ag27 f (s := 4) rfl rfl rfl
  have m := m.front 2 rfl
  have m := m.front 3 rfl
  have m := m.eraseAt 3
  have m := m.eraseAt 2
  obtain rfl := sj hd
  exact ⟨[(.agg #[v_10])], ⟨rc_534, trivial⟩, f.defers, _, [it_408, Itm.box b0 94 [v_411, (.int .i64 x_413), (.int .i64 x_414)]], (GLe.trans hl_6 (GLe.trans hl_19 hl_415)), m, _, _, _, rfl, rfl, o_409, h_412⟩

theorem Wk.spec_l1Draw__deep {W w : World} {G : GH} {H : List Itm} {v0_0 : Value} {b0 : Nat} {x0_0 : (List Int)} {x0_1 : Int} {x0_2 : Int} (m : Mem W G w (Itm.box b0 94 [v0_0, (.int .i64 x0_1), (.int .i64 x0_2)] :: H)) (h0_0 : RSl (RI .u8) G v0_0 x0_0) {y : ((List (List Int))) × ((List Int)) × Int × Int} (hd : D.spec_l1Draw__deep x0_0 x0_1 x0_2 = some y) :
  Calls Tryd.prog 87 #[(.pointer (some ⟨b0, 0, none⟩))] w (Res W G H (fun G' Ho v => ∃ r0 : Value, ∃ i0 : Itm, ∃ r2 : Value, Ho = [i0, Itm.box b0 94 [r2, (.int .i64 y.2.2.1), (.int .i64 y.2.2.2)]] ∧ v = (.agg #[r0]) ∧ Ow2 (RI .i64) 36 2 G' i0 r0 y.1 ∧ RSl (RI .u8) G' r2 y.2.1)) := by
 refine calls_b (args := [(.pointer (some ⟨b0, 0, none⟩))]) (N := 34) [.cell 2 27] Tryd.func87 rfl rfl (Nat.le_of_ble_eq_true rfl) rfl fun a f => ?_
 unfold D.spec_l1Draw__deep at hd
 refine k_seq (k_region ?_)
 refine l_alloc (cs := [(.slice none 0 0)]) Tryd.zeroValue27 m f rfl rfl fun b_2 w a m f => ?_
 refine l_nil (k_seq (k_seq (k_region ?_)))
 refine l_mv f rfl rfl fun a f => ?_
 have m := m.front 1 rfl
 obtain ⟨y_3, hy_4, hd⟩ := bind_some hd
 refine l_res f rfl rfl Tryd.call89 (Wk.spec_l1Below m h0_0 hy_4) fun v_8 G_5 Ho_9 w hl_6 m hQ_7 a f => ?_
 obtain ⟨v_10, rfl, rfl, h_11⟩ := hQ_7
 refine l_nil (k_block (k_seq (k_region ?_)))
 refine l_in f rfl rfl rfl b_eql fun a f => ?_
 refine l_as f rfl rfl fun a f => ?_
 refine l_nil ?_
 rcases cond_some hd with ⟨hc_12, hd⟩ | ⟨hc_12, hd⟩
 ·refine k_true f rfl hc_12 ?_
  refine k_seq (k_region ?_)
  refine l_mv f rfl rfl fun a f => ?_
  obtain ⟨y_13, hy_14, hd⟩ := bind_some hd
  refine l_res f rfl rfl Tryd.call89 (Wk.spec_l1Below m h_11 hy_14) fun v_18 G_15 Ho_19 w hl_16 m hQ_17 a f => ?_
  obtain ⟨v_20, rfl, rfl, h_21⟩ := hQ_17
  refine l_in f rfl rfl rfl b_add fun a f => ?_
  obtain ⟨y_22, hy_23, hd⟩ := bind_some hd
  refine l_res f rfl rfl Tryd.call121 (Wk.spec_LoopGraph__deep m  hy_23) fun v_27 G_24 Ho_28 w hl_25 m hQ_26 a f => ?_
  obtain ⟨v_29, it_30, rfl, rfl, o_31⟩ := hQ_26
  have h_21 := RSl.mono (RI.mono _) _ _ _ _ hl_25 h_21
  refine l_mv f rfl rfl fun a f => ?_
  refine l_op f rfl rfl rfl (r_extract (f.eval rfl) rfl) fun a f => ?_
  refine l_op f rfl rfl rfl (r_extract (f.eval rfl) rfl) fun a f => ?_
  refine l_alloc (cs := [(.slice none 0 0)]) Tryd.zeroValue27 m f rfl rfl fun b_34 w a m f => ?_
  refine l_boxStore 0 0 (ds := [v_29]) m Tryd.sizeOf27 f rfl rfl rfl (ones_cons (Ow2.one1 1 m o_31 rfl) ones_nil) rfl (Nat.le_of_ble_eq_true rfl) rfl fun w m => ?_
  refine l_as f rfl rfl fun a f => ?_
  refine l_nil (k_seq (k_region ?_))
  refine l_boxAgg 0 0 (ds := [v_29]) m Ag27 f rfl rfl rfl rfl rfl fun a f => ?_
  refine l_boxStore 3 0 (ds := [v_29]) m Tryd.sizeOf27 f rfl rfl rfl (ones_cons (Ow2.one1 1 m o_31 rfl) ones_nil) rfl (Nat.le_of_ble_eq_true rfl) rfl fun w m => ?_
  refine l_nil ?_
  refine k_ret ?_
  have rc_35 := rr_agg (P := Tryd.prog) 3 m Ag27 f (s := 2) rfl rfl rfl
  have m := m.front 2 rfl
  have m := m.front 2 rfl
  have m := m.eraseAt 3
  have m := m.eraseAt 2
  obtain rfl := sj hd
  exact ⟨[(.agg #[v_29])], ⟨rc_35, trivial⟩, f.defers, _, [it_30, Itm.box b0 94 [v_20, (.int .i64 y_13.2.2.1), (.int .i64 y_13.2.2.2)]], (GLe.trans hl_6 (GLe.trans hl_16 hl_25)), m, _, _, _, rfl, rfl, o_31, h_21⟩
 ·refine k_false f rfl hc_12 ?_
  refine k_seq (k_region ?_)
  refine l_in f rfl rfl rfl b_eql fun a f => ?_
  refine l_as f rfl rfl fun a f => ?_
  refine l_nil ?_
  rcases cond_some hd with ⟨hc_36, hd⟩ | ⟨hc_36, hd⟩
  ·refine k_true f rfl hc_36 ?_
   refine k_seq (k_region ?_)
   refine l_mv f rfl rfl fun a f => ?_
   obtain ⟨y_37, hy_38, hd⟩ := bind_some hd
   refine l_res f rfl rfl Tryd.call89 (Wk.spec_l1Below m h_11 hy_38) fun v_42 G_39 Ho_43 w hl_40 m hQ_41 a f => ?_
   obtain ⟨v_44, rfl, rfl, h_45⟩ := hQ_41
   refine l_in f rfl rfl rfl b_add fun a f => ?_
   obtain ⟨y_46, hy_47, hd⟩ := bind_some hd
   refine l_res f rfl rfl Tryd.call122 (Wk.spec_PathGraph__deep m  hy_47) fun v_51 G_48 Ho_52 w hl_49 m hQ_50 a f => ?_
   obtain ⟨v_53, it_54, rfl, rfl, o_55⟩ := hQ_50
   have h_45 := RSl.mono (RI.mono _) _ _ _ _ hl_49 h_45
   refine l_mv f rfl rfl fun a f => ?_
   refine l_op f rfl rfl rfl (r_extract (f.eval rfl) rfl) fun a f => ?_
   refine l_op f rfl rfl rfl (r_extract (f.eval rfl) rfl) fun a f => ?_
   refine l_alloc (cs := [(.slice none 0 0)]) Tryd.zeroValue27 m f rfl rfl fun b_58 w a m f => ?_
   refine l_boxStore 0 0 (ds := [v_53]) m Tryd.sizeOf27 f rfl rfl rfl (ones_cons (Ow2.one1 1 m o_55 rfl) ones_nil) rfl (Nat.le_of_ble_eq_true rfl) rfl fun w m => ?_
   refine l_as f rfl rfl fun a f => ?_
   refine l_nil (k_seq (k_region ?_))
   refine l_boxAgg 0 0 (ds := [v_53]) m Ag27 f rfl rfl rfl rfl rfl fun a f => ?_
   refine l_boxStore 3 0 (ds := [v_53]) m Tryd.sizeOf27 f rfl rfl rfl (ones_cons (Ow2.one1 1 m o_55 rfl) ones_nil) rfl (Nat.le_of_ble_eq_true rfl) rfl fun w m => ?_
   refine l_nil ?_
   refine k_ret ?_
   have rc_59 := rr_agg (P := Tryd.prog) 3 m Ag27 f (s := 2) rfl rfl rfl
   have m := m.front 2 rfl
   have m := m.front 2 rfl
   have m := m.eraseAt 3
   have m := m.eraseAt 2
   obtain rfl := sj hd
   exact ⟨[(.agg #[v_53])], ⟨rc_59, trivial⟩, f.defers, _, [it_54, Itm.box b0 94 [v_44, (.int .i64 y_37.2.2.1), (.int .i64 y_37.2.2.2)]], (GLe.trans hl_6 (GLe.trans hl_40 hl_49)), m, _, _, _, rfl, rfl, o_55, h_45⟩
  ·refine k_false f rfl hc_36 ?_
   refine k_skip ?_
   refine k_seq (k_region ?_)
   refine l_mv f rfl rfl fun a f => ?_
   refine l_mv f rfl rfl fun a f => ?_
   obtain ⟨y_60, hy_61, hd⟩ := bind_some hd
   refine l_res f rfl rfl Tryd.call89 (Wk.spec_l1Below m h_11 hy_61) fun v_65 G_62 Ho_66 w hl_63 m hQ_64 a f => ?_
   obtain ⟨v_67, rfl, rfl, h_68⟩ := hQ_64
   refine l_in f rfl rfl rfl b_add fun a f => ?_
   obtain ⟨y_69, hy_70, hd⟩ := bind_some hd
   refine l_res f rfl rfl Tryd.call123 (Wk.spec_l1DrawOf__deep m h_68 hy_70) fun v_74 G_71 Ho_75 w hl_72 m hQ_73 a f => ?_
   obtain ⟨v_76, it_77, v_80, rfl, rfl, o_78, h_81⟩ := hQ_73
   refine l_boxStore 2 0 (ds := [v_76]) m Tryd.sizeOf27 f rfl rfl rfl (ones_cons (Ow2.one1 0 m o_78 rfl) ones_nil) rfl (Nat.le_of_ble_eq_true rfl) rfl fun w m => ?_
   refine l_nil ?_
   refine k_ret ?_
   have rc_82 := rr_agg (P := Tryd.prog) 2 m Ag27 f (s := 2) rfl rfl rfl
   have m := m.front 1 rfl
   have m := m.front 1 rfl
   have m := m.eraseAt 2
   obtain rfl := sj hd
   exact ⟨[(.agg #[v_76])], ⟨rc_82, trivial⟩, f.defers, _, [it_77, Itm.box b0 94 [v_80, (.int .i64 y_69.2.2.1), (.int .i64 y_69.2.2.2)]], (GLe.trans hl_6 (GLe.trans hl_63 hl_72)), m, _, _, _, rfl, rfl, o_78, h_81⟩

theorem Wk.spec_l1DrawAny {W w : World} {G : GH} {H : List Itm} {v0_0 : Value} {b0 : Nat} {x0_0 : (List Int)} {x0_1 : Int} {x0_2 : Int} (m : Mem W G w (Itm.box b0 94 [v0_0, (.int .i64 x0_1), (.int .i64 x0_2)] :: H)) (h0_0 : RSl (RI .u8) G v0_0 x0_0) {y : ((List (List Int))) × ((List Int)) × Int × Int} (hd : D.spec_l1DrawAny x0_0 x0_1 x0_2 = some y) :
  Calls Tryd.prog 51 #[(.pointer (some ⟨b0, 0, none⟩))] w (Res W G H (fun G' Ho v => ∃ r0 : Value, ∃ i0 : Itm, ∃ r2 : Value, Ho = [i0, Itm.box b0 94 [r2, (.int .i64 y.2.2.1), (.int .i64 y.2.2.2)]] ∧ v = (.agg #[r0]) ∧ Ow2 (RI .i64) 36 2 G' i0 r0 y.1 ∧ RSl (RI .u8) G' r2 y.2.1)) := by
 refine calls_b (args := [(.pointer (some ⟨b0, 0, none⟩))]) (N := 56) [.cell 2 27] Tryd.func51 rfl rfl (Nat.le_of_ble_eq_true rfl) rfl fun a f => ?_
 unfold D.spec_l1DrawAny at hd
 refine k_seq (k_region ?_)
 refine l_alloc (cs := [(.slice none 0 0)]) Tryd.zeroValue27 m f rfl rfl fun b_2 w a m f => ?_
 refine l_nil (k_seq (k_region ?_))
 refine l_mv f rfl rfl fun a f => ?_
 have m := m.front 1 rfl
 obtain ⟨y_3, hy_4, hd⟩ := bind_some hd
 refine l_res f rfl rfl Tryd.call87 (Wk.spec_l1Draw__deep m h0_0 hy_4) fun v_8 G_5 Ho_9 w hl_6 m hQ_7 a f => ?_
 obtain ⟨v_10, it_11, v_14, rfl, rfl, o_12, h_15⟩ := hQ_7
 refine l_alloc (cs := [(.slice none 0 0)]) Tryd.zeroValue27 m f rfl rfl fun b_17 w a m f => ?_
 refine l_boxStore 0 0 (ds := [v_10]) m Tryd.sizeOf27 f rfl rfl rfl (ones_cons (Ow2.one1 1 m o_12 rfl) ones_nil) rfl (Nat.le_of_ble_eq_true rfl) rfl fun w m => ?_
 refine l_nil (k_seq (k_seq (k_region ?_)))
 refine l_mv f rfl rfl fun a f => ?_
 have m := m.front 2 rfl
 obtain ⟨y_18, hy_19, hd⟩ := bind_some hd
 refine l_res f rfl rfl Tryd.call88 (Wk.spec_l1Once m h_15 hy_19) fun v_23 G_20 Ho_24 w hl_21 m hQ_22 a f => ?_
 obtain ⟨v_25, rfl, rfl, h_26⟩ := hQ_22
 have o_12 := Ow2.mono (RI.mono _) hl_21 o_12
 refine l_nil ?_
 rcases cond_some hd with ⟨hc_27, hd⟩ | ⟨hc_27, hd⟩
 ·refine k_true f rfl hc_27 ?_
  refine k_seq (k_region ?_)
  refine l_mv f rfl rfl fun a f => ?_
  refine l_fieldAddr Tryd.underlying27 rfl Tryd.sizeOf22 (by decide) f rfl rfl fun a f => ?_
  refine l_boxCell 1 0 m Pl22 f rfl rfl rfl rfl fun a f => ?_
  refine l_own2_len 2 m o_12 rfl Tryd.underlying22 f rfl rfl fun a f => ?_
  obtain ⟨y_28, hy_29, hd⟩ := bind_some hd
  refine l_res f rfl rfl Tryd.call89 (Wk.spec_l1Below m h_26 hy_29) fun v_33 G_30 Ho_34 w hl_31 m hQ_32 a f => ?_
  obtain ⟨v_35, rfl, rfl, h_36⟩ := hQ_32
  have o_12 := Ow2.mono (RI.mono _) hl_31 o_12
  refine l_as f rfl rfl fun a f => ?_
  refine l_nil (k_seq (k_region ?_))
  refine l_mv f rfl rfl fun a f => ?_
  obtain ⟨y_37, hy_38, hd⟩ := bind_some hd
  refine l_res f rfl rfl Tryd.call89 (Wk.spec_l1Below m h_36 hy_38) fun v_42 G_39 Ho_43 w hl_40 m hQ_41 a f => ?_
  obtain ⟨v_44, rfl, rfl, h_45⟩ := hQ_41
  have o_12 := Ow2.mono (RI.mono _) hl_40 o_12
  refine l_nil (k_block (k_seq (k_region ?_)))
  refine l_in f rfl rfl rfl b_eql fun a f => ?_
  refine l_as f rfl rfl fun a f => ?_
  refine l_nil ?_
  rcases cond_some hd with ⟨hc_46, hd⟩ | ⟨hc_46, hd⟩
  ·refine k_true f rfl hc_46 ?_
   obtain ⟨j_124, hj_125, hd⟩ := bind_some hd
   refine k_cut (fun a w => ∃ l_127 : List (List Int), ∃ l_130 : List Int, ∃ x_133 : Int, ∃ x_134 : Int, (l_127, l_130, x_133, x_134) = j_124 ∧ ∃ (G_126 : GH) (it_128 : Itm) (v_131 : Value), GLe G_39 G_126 ∧ Fr a 56 [(2, (.pointer (some ⟨b_2, 0, none⟩))), (3, (.pointer (some ⟨b_17, 0, none⟩)))] ∧ Mem W G_126 w (Itm.box b_2 27 [(.slice none 0 0)] :: Itm.box b_17 27 [v_10] :: Itm.box b0 94 [v_131, (.int .i64 x_133), (.int .i64 x_134)] :: it_128 :: H) ∧ Ow2 (RI .i64) 36 2 G_126 it_128 v_10 l_127 ∧ RSl (RI .u8) G_126 v_131 l_130) ?_ ?_
   ·have m := m.front 2 rfl
    refine k_drawE [it_11, Itm.box b0 94 [v_44, (.int .i64 y_37.2.2.1), (.int .i64 y_37.2.2.2)]] (Itm.box b_17 27 [v_10] :: Itm.box b_2 27 [(.slice none 0 0)] :: H) 12 Follows (by kernel_rfl) m ?_
    refine q_fieldAddr (i := 0) 12 Tryd.underlying27 rfl Tryd.sizeOf22 (by decide) rfl (by kernel_rfl) rfl f rfl rfl rfl fun a f => ?_
    refine q_boxCell (i := 1) 12 0 Pl22 rfl rfl rfl (by kernel_rfl) rfl f rfl rfl rfl fun a f => ?_
    refine q_mv 2 12 rfl (by kernel_rfl) f rfl rfl rfl fun a f => ?_
    refine q_fieldAddr (i := 3) 12 Tryd.underlying27 rfl Tryd.sizeOf22 (by decide) rfl (by kernel_rfl) rfl f rfl rfl rfl fun a f => ?_
    refine q_boxCell (i := 4) 12 0 Pl22 rfl rfl rfl (by kernel_rfl) rfl f rfl rfl rfl fun a f => ?_
    refine q_mv 5 12 rfl (by kernel_rfl) f rfl rfl rfl fun a f => ?_
    refine q_mv 8 12 rfl (by kernel_rfl) f rfl rfl rfl fun a f => ?_
    refine q_two (i := 6) (j := 9) (l1 := #[true, true, true, true, true, true, true, false, true, false, false, false, false, false]) (l2 := #[true, true, true, true, true, true, false, false, true, true, false, false, false, false]) rfl rfl (by kernel_rfl) rfl rfl ?_ ?_
    ·intro G_160 w hl_161 m K_162 K_162
     have o_12 := Ow2.mono (RI.mono _) hl_161 o_12
     have h_45 := RSl.mono (RI.mono _) _ _ _ _ hl_161 h_45
     obtain ⟨e_163, he_164, hj_125⟩ := bind_some hj_125
     refine l_own2_at 0 m o_12 rfl T22 f rfl rfl rfl he_164 fun p_165 a ha_166 f => ?_
     refine l_nil ?_
     refine K_162 G_160 [it_11, Itm.box b0 94 [v_44, (.int .i64 y_37.2.2.1), (.int .i64 y_37.2.2.2)]] _ _ (GLe.refl _) m ?_
     refine q_two (i := 7) (j := 9) (l1 := #[true, true, true, true, true, true, true, true, true, false, false, false, false, false]) (l2 := #[true, true, true, true, true, true, true, false, true, true, false, false, false, false]) rfl rfl (by kernel_rfl) rfl rfl ?_ ?_
     ·intro G_167 w hl_168 m K_169 K_169
      have o_12 := Ow2.mono (RI.mono _) hl_168 o_12
      have h_45 := RSl.mono (RI.mono _) _ _ _ _ hl_168 h_45
      refine l_own2_load 0 m o_12 rfl Pl36 f rfl rfl ha_166 he_164 fun c_170 a h_171 f => ?_
      refine l_nil ?_
      refine K_169 G_167 [it_11, Itm.box b0 94 [v_44, (.int .i64 y_37.2.2.1), (.int .i64 y_37.2.2.2)]] _ _ (GLe.refl _) m ?_
      refine q_one (i := 9) rfl (by kernel_rfl) rfl fun G_172 w hl_173 m K_174 K_174 => ?_
      have o_12 := Ow2.mono (RI.mono _) hl_173 o_12
      have h_45 := RSl.mono (RI.mono _) _ _ _ _ hl_173 h_45
      have m := m.front 1 rfl
      obtain ⟨y_175, hy_176, hj_125⟩ := bind_some hj_125
      refine l_res f rfl rfl Tryd.call90 (Wk.spec_l1Num m h_45 hy_176) fun v_180 G_177 Ho_181 w hl_178 m hQ_179 a f => ?_
      obtain ⟨v_182, rfl, rfl, h_183⟩ := hQ_179
      have o_12 := Ow2.mono (RI.mono _) hl_178 o_12
      refine l_nil ?_
      refine K_174 G_177 [Itm.box b0 94 [v_182, (.int .i64 y_175.2.2.1), (.int .i64 y_175.2.2.2)], it_11] _ _ hl_178 m ?_
      refine q_one (i := 10) rfl (by kernel_rfl) rfl fun G_184 w hl_185 m K_186 K_186 => ?_
      have h_183 := RSl.mono (RI.mono _) _ _ _ _ hl_185 h_183
      have o_12 := Ow2.mono (RI.mono _) hl_185 o_12
      refine l_slit (R := (RI .i64)) (xs := ([y_175.1] : List Int)) (RI.one _) m T36 f rfl rfl rfl (by decide) (All2.cons rfl (All2.nil _)) fun it_187 v_188 w a m o_189 f => ?_
      refine l_nil ?_
      refine K_186 G_184 [it_187, Itm.box b0 94 [v_182, (.int .i64 y_175.2.2.1), (.int .i64 y_175.2.2.2)], it_11] _ _ (GLe.refl _) m ?_
      refine q_one (i := 11) rfl (by kernel_rfl) rfl fun G_191 w hl_192 m K_193 K_193 => ?_
      have o_189 := Ow.mono (RI.mono _) hl_192 o_189
      have h_183 := RSl.mono (RI.mono _) _ _ _ _ hl_192 h_183
      have o_12 := Ow2.mono (RI.mono _) hl_192 o_12
      have m := m.front 2 rfl
      obtain ⟨it_194, it_196, m, o_195, o_197⟩ := Ow2.out o_12 m he_164 h_171
      obtain ⟨l_199, hx_200, hj_125⟩ := bind_some hj_125
      refine l_append (RI.one _) 1 m o_197 rfl T36 rfl (by decide) f rfl rfl rfl (Ow.src (j := 2) o_189 m rfl) hx_200 fun it_201 v_202 w a m o_203 f => ?_
      refine l_nil ?_
      refine K_193 G_191 [it_194, it_201, it_187, Itm.box b0 94 [v_182, (.int .i64 y_175.2.2.1), (.int .i64 y_175.2.2.2)]] _ _ (GLe.refl _) m ?_
      refine q_end fun G_205 w hl_206 m => ?_
      have o_195 := OwH.mono (RI.mono _) hl_206 o_195
      have o_203 := Ow.mono (RI.mono _) hl_206 o_203
      have o_189 := Ow.mono (RI.mono _) hl_206 o_189
      have h_183 := RSl.mono (RI.mono _) _ _ _ _ hl_206 h_183
      obtain ⟨e_207, he_208, hj_125⟩ := bind_some hj_125
      refine l_ownH_at 0 m o_195 rfl T22 f rfl rfl rfl he_208 fun p_209 a ha_210 f => ?_
      have m := m.front 1 rfl
      have m := m.front 1 rfl
      refine l_ownH_store m o_195 o_203 Tryd.sizeOf36 f rfl rfl ha_210 fun it_211 w m o_212 => ?_
      refine l_nil ?_
      have m := m.front 2 rfl
      have m := m.front 3 rfl
      have m := m.front 4 rfl
      have m := m.eraseAt 4
      obtain rfl := sj hj_125
      exact ⟨_, _, _, _, rfl, _, it_211, v_182, (GLe.trans hl_161 (GLe.trans hl_168 (GLe.trans hl_173 (GLe.trans hl_178 (GLe.trans hl_185 (GLe.trans hl_192 hl_206)))))), f.weak ⟨rfl, rfl, trivial⟩, m, o_212, h_183⟩
     ·intro G_172 w hl_173 m K_174 K_174
      obtain ⟨y_175, hy_176, hj_125⟩ := bind_some hj_125
      obtain ⟨l_199, hx_200, hj_125⟩ := bind_some hj_125
      obtain ⟨e_207, he_208, hj_125⟩ := bind_some hj_125
      have o_12 := Ow2.mono (RI.mono _) hl_173 o_12
      have h_45 := RSl.mono (RI.mono _) _ _ _ _ hl_173 h_45
      have m := m.front 1 rfl
      refine l_res f rfl rfl Tryd.call90 (Wk.spec_l1Num m h_45 hy_176) fun v_180 G_177 Ho_181 w hl_178 m hQ_179 a f => ?_
      obtain ⟨v_182, rfl, rfl, h_183⟩ := hQ_179
      have o_12 := Ow2.mono (RI.mono _) hl_178 o_12
      refine l_nil ?_
      refine K_174 G_177 [Itm.box b0 94 [v_182, (.int .i64 y_175.2.2.1), (.int .i64 y_175.2.2.2)], it_11] _ _ hl_178 m ?_
      refine q_two (i := 7) (j := 10) (l1 := #[true, true, true, true, true, true, true, true, true, true, false, false, false, false]) (l2 := #[true, true, true, true, true, true, true, false, true, true, true, false, false, false]) rfl rfl (by kernel_rfl) rfl rfl ?_ ?_
      ·intro G_167 w hl_168 m K_169 K_169
       have h_183 := RSl.mono (RI.mono _) _ _ _ _ hl_168 h_183
       have o_12 := Ow2.mono (RI.mono _) hl_168 o_12
       refine l_own2_load 1 m o_12 rfl Pl36 f rfl rfl ha_166 he_164 fun c_170 a h_171 f => ?_
       refine l_nil ?_
       refine K_169 G_167 [Itm.box b0 94 [v_182, (.int .i64 y_175.2.2.1), (.int .i64 y_175.2.2.2)], it_11] _ _ (GLe.refl _) m ?_
       refine q_one (i := 10) rfl (by kernel_rfl) rfl fun G_184 w hl_185 m K_186 K_186 => ?_
       have h_183 := RSl.mono (RI.mono _) _ _ _ _ hl_185 h_183
       have o_12 := Ow2.mono (RI.mono _) hl_185 o_12
       refine l_slit (R := (RI .i64)) (xs := ([y_175.1] : List Int)) (RI.one _) m T36 f rfl rfl rfl (by decide) (All2.cons rfl (All2.nil _)) fun it_187 v_188 w a m o_189 f => ?_
       refine l_nil ?_
       refine K_186 G_184 [it_187, Itm.box b0 94 [v_182, (.int .i64 y_175.2.2.1), (.int .i64 y_175.2.2.2)], it_11] _ _ (GLe.refl _) m ?_
       refine q_one (i := 11) rfl (by kernel_rfl) rfl fun G_191 w hl_192 m K_193 K_193 => ?_
       have o_189 := Ow.mono (RI.mono _) hl_192 o_189
       have h_183 := RSl.mono (RI.mono _) _ _ _ _ hl_192 h_183
       have o_12 := Ow2.mono (RI.mono _) hl_192 o_12
       have m := m.front 2 rfl
       obtain ⟨it_194, it_196, m, o_195, o_197⟩ := Ow2.out o_12 m he_164 h_171
       refine l_append (RI.one _) 1 m o_197 rfl T36 rfl (by decide) f rfl rfl rfl (Ow.src (j := 2) o_189 m rfl) hx_200 fun it_201 v_202 w a m o_203 f => ?_
       refine l_nil ?_
       refine K_193 G_191 [it_194, it_201, it_187, Itm.box b0 94 [v_182, (.int .i64 y_175.2.2.1), (.int .i64 y_175.2.2.2)]] _ _ (GLe.refl _) m ?_
       refine q_end fun G_205 w hl_206 m => ?_
       have o_195 := OwH.mono (RI.mono _) hl_206 o_195
       have o_203 := Ow.mono (RI.mono _) hl_206 o_203
       have o_189 := Ow.mono (RI.mono _) hl_206 o_189
       have h_183 := RSl.mono (RI.mono _) _ _ _ _ hl_206 h_183
       refine l_ownH_at 0 m o_195 rfl T22 f rfl rfl rfl he_208 fun p_209 a ha_210 f => ?_
       have m := m.front 1 rfl
       have m := m.front 1 rfl
       refine l_ownH_store m o_195 o_203 Tryd.sizeOf36 f rfl rfl ha_210 fun it_211 w m o_212 => ?_
       refine l_nil ?_
       have m := m.front 2 rfl
       have m := m.front 3 rfl
       have m := m.front 4 rfl
       have m := m.eraseAt 4
       obtain rfl := sj hj_125
       exact ⟨_, _, _, _, rfl, _, it_211, v_182, (GLe.trans hl_161 (GLe.trans hl_173 (GLe.trans hl_178 (GLe.trans hl_168 (GLe.trans hl_185 (GLe.trans hl_192 hl_206)))))), f.weak ⟨rfl, rfl, trivial⟩, m, o_212, h_183⟩
      ·intro G_184 w hl_185 m K_186 K_186
       have h_183 := RSl.mono (RI.mono _) _ _ _ _ hl_185 h_183
       have o_12 := Ow2.mono (RI.mono _) hl_185 o_12
       refine l_slit (R := (RI .i64)) (xs := ([y_175.1] : List Int)) (RI.one _) m T36 f rfl rfl rfl (by decide) (All2.cons rfl (All2.nil _)) fun it_187 v_188 w a m o_189 f => ?_
       refine l_nil ?_
       refine K_186 G_184 [it_187, Itm.box b0 94 [v_182, (.int .i64 y_175.2.2.1), (.int .i64 y_175.2.2.2)], it_11] _ _ (GLe.refl _) m ?_
       refine q_one (i := 7) rfl (by kernel_rfl) rfl fun G_167 w hl_168 m K_169 K_169 => ?_
       have o_189 := Ow.mono (RI.mono _) hl_168 o_189
       have h_183 := RSl.mono (RI.mono _) _ _ _ _ hl_168 h_183
       have o_12 := Ow2.mono (RI.mono _) hl_168 o_12
       refine l_own2_load 2 m o_12 rfl Pl36 f rfl rfl ha_166 he_164 fun c_170 a h_171 f => ?_
       refine l_nil ?_
       refine K_169 G_167 [it_187, Itm.box b0 94 [v_182, (.int .i64 y_175.2.2.1), (.int .i64 y_175.2.2.2)], it_11] _ _ (GLe.refl _) m ?_
       refine q_one (i := 11) rfl (by kernel_rfl) rfl fun G_191 w hl_192 m K_193 K_193 => ?_
       have o_189 := Ow.mono (RI.mono _) hl_192 o_189
       have h_183 := RSl.mono (RI.mono _) _ _ _ _ hl_192 h_183
       have o_12 := Ow2.mono (RI.mono _) hl_192 o_12
       have m := m.front 2 rfl
       obtain ⟨it_194, it_196, m, o_195, o_197⟩ := Ow2.out o_12 m he_164 h_171
       refine l_append (RI.one _) 1 m o_197 rfl T36 rfl (by decide) f rfl rfl rfl (Ow.src (j := 2) o_189 m rfl) hx_200 fun it_201 v_202 w a m o_203 f => ?_
       refine l_nil ?_
       refine K_193 G_191 [it_194, it_201, it_187, Itm.box b0 94 [v_182, (.int .i64 y_175.2.2.1), (.int .i64 y_175.2.2.2)]] _ _ (GLe.refl _) m ?_
       refine q_end fun G_205 w hl_206 m => ?_
       have o_195 := OwH.mono (RI.mono _) hl_206 o_195
       have o_203 := Ow.mono (RI.mono _) hl_206 o_203
       have o_189 := Ow.mono (RI.mono _) hl_206 o_189
       have h_183 := RSl.mono (RI.mono _) _ _ _ _ hl_206 h_183
       refine l_ownH_at 0 m o_195 rfl T22 f rfl rfl rfl he_208 fun p_209 a ha_210 f => ?_
       have m := m.front 1 rfl
       have m := m.front 1 rfl
       refine l_ownH_store m o_195 o_203 Tryd.sizeOf36 f rfl rfl ha_210 fun it_211 w m o_212 => ?_
       refine l_nil ?_
       have m := m.front 2 rfl
       have m := m.front 3 rfl
       have m := m.front 4 rfl
       have m := m.eraseAt 4
       obtain rfl := sj hj_125
       exact ⟨_, _, _, _, rfl, _, it_211, v_182, (GLe.trans hl_161 (GLe.trans hl_173 (GLe.trans hl_178 (GLe.trans hl_185 (GLe.trans hl_168 (GLe.trans hl_192 hl_206)))))), f.weak ⟨rfl, rfl, trivial⟩, m, o_212, h_183⟩
    ·intro G_172 w hl_173 m K_174 K_174
     obtain ⟨e_163, he_164, hj_125⟩ := bind_some hj_125
     obtain ⟨y_175, hy_176, hj_125⟩ := bind_some hj_125
     obtain ⟨l_199, hx_200, hj_125⟩ := bind_some hj_125
     obtain ⟨e_207, he_208, hj_125⟩ := bind_some hj_125
     have o_12 := Ow2.mono (RI.mono _) hl_173 o_12
     have h_45 := RSl.mono (RI.mono _) _ _ _ _ hl_173 h_45
     have m := m.front 1 rfl
     refine l_res f rfl rfl Tryd.call90 (Wk.spec_l1Num m h_45 hy_176) fun v_180 G_177 Ho_181 w hl_178 m hQ_179 a f => ?_
     obtain ⟨v_182, rfl, rfl, h_183⟩ := hQ_179
     have o_12 := Ow2.mono (RI.mono _) hl_178 o_12
     refine l_nil ?_
     refine K_174 G_177 [Itm.box b0 94 [v_182, (.int .i64 y_175.2.2.1), (.int .i64 y_175.2.2.2)], it_11] _ _ hl_178 m ?_
     refine q_two (i := 6) (j := 10) (l1 := #[true, true, true, true, true, true, true, false, true, true, false, false, false, false]) (l2 := #[true, true, true, true, true, true, false, false, true, true, true, false, false, false]) rfl rfl (by kernel_rfl) rfl rfl ?_ ?_
     ·intro G_160 w hl_161 m K_162 K_162
      have h_183 := RSl.mono (RI.mono _) _ _ _ _ hl_161 h_183
      have o_12 := Ow2.mono (RI.mono _) hl_161 o_12
      refine l_own2_at 1 m o_12 rfl T22 f rfl rfl rfl he_164 fun p_165 a ha_166 f => ?_
      refine l_nil ?_
      refine K_162 G_160 [Itm.box b0 94 [v_182, (.int .i64 y_175.2.2.1), (.int .i64 y_175.2.2.2)], it_11] _ _ (GLe.refl _) m ?_
      refine q_two (i := 7) (j := 10) (l1 := #[true, true, true, true, true, true, true, true, true, true, false, false, false, false]) (l2 := #[true, true, true, true, true, true, true, false, true, true, true, false, false, false]) rfl rfl (by kernel_rfl) rfl rfl ?_ ?_
      ·intro G_167 w hl_168 m K_169 K_169
       have h_183 := RSl.mono (RI.mono _) _ _ _ _ hl_168 h_183
       have o_12 := Ow2.mono (RI.mono _) hl_168 o_12
       refine l_own2_load 1 m o_12 rfl Pl36 f rfl rfl ha_166 he_164 fun c_170 a h_171 f => ?_
       refine l_nil ?_
       refine K_169 G_167 [Itm.box b0 94 [v_182, (.int .i64 y_175.2.2.1), (.int .i64 y_175.2.2.2)], it_11] _ _ (GLe.refl _) m ?_
       refine q_one (i := 10) rfl (by kernel_rfl) rfl fun G_184 w hl_185 m K_186 K_186 => ?_
       have h_183 := RSl.mono (RI.mono _) _ _ _ _ hl_185 h_183
       have o_12 := Ow2.mono (RI.mono _) hl_185 o_12
       refine l_slit (R := (RI .i64)) (xs := ([y_175.1] : List Int)) (RI.one _) m T36 f rfl rfl rfl (by decide) (All2.cons rfl (All2.nil _)) fun it_187 v_188 w a m o_189 f => ?_
       refine l_nil ?_
       refine K_186 G_184 [it_187, Itm.box b0 94 [v_182, (.int .i64 y_175.2.2.1), (.int .i64 y_175.2.2.2)], it_11] _ _ (GLe.refl _) m ?_
       refine q_one (i := 11) rfl (by kernel_rfl) rfl fun G_191 w hl_192 m K_193 K_193 => ?_
       have o_189 := Ow.mono (RI.mono _) hl_192 o_189
       have h_183 := RSl.mono (RI.mono _) _ _ _ _ hl_192 h_183
       have o_12 := Ow2.mono (RI.mono _) hl_192 o_12
       have m := m.front 2 rfl
       obtain ⟨it_194, it_196, m, o_195, o_197⟩ := Ow2.out o_12 m he_164 h_171
       refine l_append (RI.one _) 1 m o_197 rfl T36 rfl (by decide) f rfl rfl rfl (Ow.src (j := 2) o_189 m rfl) hx_200 fun it_201 v_202 w a m o_203 f => ?_
       refine l_nil ?_
       refine K_193 G_191 [it_194, it_201, it_187, Itm.box b0 94 [v_182, (.int .i64 y_175.2.2.1), (.int .i64 y_175.2.2.2)]] _ _ (GLe.refl _) m ?_
       refine q_end fun G_205 w hl_206 m => ?_
       have o_195 := OwH.mono (RI.mono _) hl_206 o_195
       have o_203 := Ow.mono (RI.mono _) hl_206 o_203
       have o_189 := Ow.mono (RI.mono _) hl_206 o_189
       have h_183 := RSl.mono (RI.mono _) _ _ _ _ hl_206 h_183
       refine l_ownH_at 0 m o_195 rfl T22 f rfl rfl rfl he_208 fun p_209 a ha_210 f => ?_
       have m := m.front 1 rfl
       have m := m.front 1 rfl
       refine l_ownH_store m o_195 o_203 Tryd.sizeOf36 f rfl rfl ha_210 fun it_211 w m o_212 => ?_
       refine l_nil ?_
       have m := m.front 2 rfl
       have m := m.front 3 rfl
       have m := m.front 4 rfl
       have m := m.eraseAt 4
       obtain rfl := sj hj_125
       exact ⟨_, _, _, _, rfl, _, it_211, v_182, (GLe.trans hl_173 (GLe.trans hl_178 (GLe.trans hl_161 (GLe.trans hl_168 (GLe.trans hl_185 (GLe.trans hl_192 hl_206)))))), f.weak ⟨rfl, rfl, trivial⟩, m, o_212, h_183⟩
      ·intro G_184 w hl_185 m K_186 K_186
       have h_183 := RSl.mono (RI.mono _) _ _ _ _ hl_185 h_183
       have o_12 := Ow2.mono (RI.mono _) hl_185 o_12
       refine l_slit (R := (RI .i64)) (xs := ([y_175.1] : List Int)) (RI.one _) m T36 f rfl rfl rfl (by decide) (All2.cons rfl (All2.nil _)) fun it_187 v_188 w a m o_189 f => ?_
       refine l_nil ?_
       refine K_186 G_184 [it_187, Itm.box b0 94 [v_182, (.int .i64 y_175.2.2.1), (.int .i64 y_175.2.2.2)], it_11] _ _ (GLe.refl _) m ?_
       refine q_one (i := 7) rfl (by kernel_rfl) rfl fun G_167 w hl_168 m K_169 K_169 => ?_
       have o_189 := Ow.mono (RI.mono _) hl_168 o_189
       have h_183 := RSl.mono (RI.mono _) _ _ _ _ hl_168 h_183
       have o_12 := Ow2.mono (RI.mono _) hl_168 o_12
       refine l_own2_load 2 m o_12 rfl Pl36 f rfl rfl ha_166 he_164 fun c_170 a h_171 f => ?_
       refine l_nil ?_
       refine K_169 G_167 [it_187, Itm.box b0 94 [v_182, (.int .i64 y_175.2.2.1), (.int .i64 y_175.2.2.2)], it_11] _ _ (GLe.refl _) m ?_
       refine q_one (i := 11) rfl (by kernel_rfl) rfl fun G_191 w hl_192 m K_193 K_193 => ?_
       have o_189 := Ow.mono (RI.mono _) hl_192 o_189
       have h_183 := RSl.mono (RI.mono _) _ _ _ _ hl_192 h_183
       have o_12 := Ow2.mono (RI.mono _) hl_192 o_12
       have m := m.front 2 rfl
       obtain ⟨it_194, it_196, m, o_195, o_197⟩ := Ow2.out o_12 m he_164 h_171
       refine l_append (RI.one _) 1 m o_197 rfl T36 rfl (by decide) f rfl rfl rfl (Ow.src (j := 2) o_189 m rfl) hx_200 fun it_201 v_202 w a m o_203 f => ?_
       refine l_nil ?_
       refine K_193 G_191 [it_194, it_201, it_187, Itm.box b0 94 [v_182, (.int .i64 y_175.2.2.1), (.int .i64 y_175.2.2.2)]] _ _ (GLe.refl _) m ?_
       refine q_end fun G_205 w hl_206 m => ?_
       have o_195 := OwH.mono (RI.mono _) hl_206 o_195
       have o_203 := Ow.mono (RI.mono _) hl_206 o_203
       have o_189 := Ow.mono (RI.mono _) hl_206 o_189
       have h_183 := RSl.mono (RI.mono _) _ _ _ _ hl_206 h_183
       refine l_ownH_at 0 m o_195 rfl T22 f rfl rfl rfl he_208 fun p_209 a ha_210 f => ?_
       have m := m.front 1 rfl
       have m := m.front 1 rfl
       refine l_ownH_store m o_195 o_203 Tryd.sizeOf36 f rfl rfl ha_210 fun it_211 w m o_212 => ?_
       refine l_nil ?_
       have m := m.front 2 rfl
       have m := m.front 3 rfl
       have m := m.front 4 rfl
       have m := m.eraseAt 4
       obtain rfl := sj hj_125
       exact ⟨_, _, _, _, rfl, _, it_211, v_182, (GLe.trans hl_173 (GLe.trans hl_178 (GLe.trans hl_161 (GLe.trans hl_185 (GLe.trans hl_168 (GLe.trans hl_192 hl_206)))))), f.weak ⟨rfl, rfl, trivial⟩, m, o_212, h_183⟩
     ·intro G_184 w hl_185 m K_186 K_186
      have h_183 := RSl.mono (RI.mono _) _ _ _ _ hl_185 h_183
      have o_12 := Ow2.mono (RI.mono _) hl_185 o_12
      refine l_slit (R := (RI .i64)) (xs := ([y_175.1] : List Int)) (RI.one _) m T36 f rfl rfl rfl (by decide) (All2.cons rfl (All2.nil _)) fun it_187 v_188 w a m o_189 f => ?_
      refine l_nil ?_
      refine K_186 G_184 [it_187, Itm.box b0 94 [v_182, (.int .i64 y_175.2.2.1), (.int .i64 y_175.2.2.2)], it_11] _ _ (GLe.refl _) m ?_
      refine q_one (i := 6) rfl (by kernel_rfl) rfl fun G_160 w hl_161 m K_162 K_162 => ?_
      have o_189 := Ow.mono (RI.mono _) hl_161 o_189
      have h_183 := RSl.mono (RI.mono _) _ _ _ _ hl_161 h_183
      have o_12 := Ow2.mono (RI.mono _) hl_161 o_12
      refine l_own2_at 2 m o_12 rfl T22 f rfl rfl rfl he_164 fun p_165 a ha_166 f => ?_
      refine l_nil ?_
      refine K_162 G_160 [it_187, Itm.box b0 94 [v_182, (.int .i64 y_175.2.2.1), (.int .i64 y_175.2.2.2)], it_11] _ _ (GLe.refl _) m ?_
      refine q_one (i := 7) rfl (by kernel_rfl) rfl fun G_167 w hl_168 m K_169 K_169 => ?_
      have o_189 := Ow.mono (RI.mono _) hl_168 o_189
      have h_183 := RSl.mono (RI.mono _) _ _ _ _ hl_168 h_183
      have o_12 := Ow2.mono (RI.mono _) hl_168 o_12
      refine l_own2_load 2 m o_12 rfl Pl36 f rfl rfl ha_166 he_164 fun c_170 a h_171 f => ?_
      refine l_nil ?_
      refine K_169 G_167 [it_187, Itm.box b0 94 [v_182, (.int .i64 y_175.2.2.1), (.int .i64 y_175.2.2.2)], it_11] _ _ (GLe.refl _) m ?_
      refine q_one (i := 11) rfl (by kernel_rfl) rfl fun G_191 w hl_192 m K_193 K_193 => ?_
      have o_189 := Ow.mono (RI.mono _) hl_192 o_189
      have h_183 := RSl.mono (RI.mono _) _ _ _ _ hl_192 h_183
      have o_12 := Ow2.mono (RI.mono _) hl_192 o_12
      have m := m.front 2 rfl
      obtain ⟨it_194, it_196, m, o_195, o_197⟩ := Ow2.out o_12 m he_164 h_171
      refine l_append (RI.one _) 1 m o_197 rfl T36 rfl (by decide) f rfl rfl rfl (Ow.src (j := 2) o_189 m rfl) hx_200 fun it_201 v_202 w a m o_203 f => ?_
      refine l_nil ?_
      refine K_193 G_191 [it_194, it_201, it_187, Itm.box b0 94 [v_182, (.int .i64 y_175.2.2.1), (.int .i64 y_175.2.2.2)]] _ _ (GLe.refl _) m ?_
      refine q_end fun G_205 w hl_206 m => ?_
      have o_195 := OwH.mono (RI.mono _) hl_206 o_195
      have o_203 := Ow.mono (RI.mono _) hl_206 o_203
      have o_189 := Ow.mono (RI.mono _) hl_206 o_189
      have h_183 := RSl.mono (RI.mono _) _ _ _ _ hl_206 h_183
      refine l_ownH_at 0 m o_195 rfl T22 f rfl rfl rfl he_208 fun p_209 a ha_210 f => ?_
      have m := m.front 1 rfl
      have m := m.front 1 rfl
      refine l_ownH_store m o_195 o_203 Tryd.sizeOf36 f rfl rfl ha_210 fun it_211 w m o_212 => ?_
      refine l_nil ?_
      have m := m.front 2 rfl
      have m := m.front 3 rfl
      have m := m.front 4 rfl
      have m := m.eraseAt 4
      obtain rfl := sj hj_125
      exact ⟨_, _, _, _, rfl, _, it_211, v_182, (GLe.trans hl_173 (GLe.trans hl_178 (GLe.trans hl_185 (GLe.trans hl_161 (GLe.trans hl_168 (GLe.trans hl_192 hl_206)))))), f.weak ⟨rfl, rfl, trivial⟩, m, o_212, h_183⟩
   ·rintro a w ⟨l_127, l_130, x_133, x_134, rfl, G_126, it_128, v_131, hl_135, f, m, o_129, h_132⟩
    refine k_seq (k_region ?_)
    refine l_boxAgg 1 0 (ds := [v_10]) m Ag27 f rfl rfl rfl rfl rfl fun a f => ?_
    refine l_boxStore 0 0 (ds := [v_10]) m Tryd.sizeOf27 f rfl rfl rfl (ones_cons (Ow2.one1 3 m o_129 rfl) ones_nil) rfl (Nat.le_of_ble_eq_true rfl) rfl fun w m => ?_
    refine l_nil ?_
    refine k_ret ?_
    have rc_213 := rr_agg (P := Tryd.prog) 0 m Ag27 f (s := 2) rfl rfl rfl
    have m := m.front 2 rfl
    have m := m.front 3 rfl
    have m := m.eraseAt 3
    have m := m.eraseAt 2
    obtain rfl := sj hd
    exact ⟨[(.agg #[v_10])], ⟨rc_213, trivial⟩, f.defers, _, [it_128, Itm.box b0 94 [v_131, (.int .i64 x_133), (.int .i64 x_134)]], (GLe.trans hl_6 (GLe.trans hl_21 (GLe.trans hl_31 (GLe.trans hl_40 hl_135)))), m, _, _, _, rfl, rfl, o_129, h_132⟩
  ·refine k_false f rfl hc_46 ?_
   refine k_seq (k_region ?_)
   refine l_in f rfl rfl rfl b_eql fun a f => ?_
   refine l_as f rfl rfl fun a f => ?_
   refine l_nil ?_
   rcases cond_some hd with ⟨hc_214, hd⟩ | ⟨hc_214, hd⟩
   ·refine k_true f rfl hc_214 ?_
    refine k_region ?_
    refine l_fieldAddr Tryd.underlying27 rfl Tryd.sizeOf22 (by decide) f rfl rfl fun a f => ?_
    refine l_boxCell 1 0 m Pl22 f rfl rfl rfl rfl fun a f => ?_
    refine l_mv f rfl rfl fun a f => ?_
    refine l_mv f rfl rfl fun a f => ?_
    refine l_slit (R := (RI .i64)) (xs := ([y_28.1] : List Int)) (RI.one _) m T36 f rfl rfl rfl (by decide) (All2.cons rfl (All2.nil _)) fun it_215 v_216 w a m o_217 f => ?_
    obtain ⟨e_219, he_220, hd⟩ := bind_some hd
    refine l_own2_at 3 m o_12 rfl T22 f rfl rfl rfl he_220 fun p_221 a ha_222 f => ?_
    have m := m.front 3 rfl
    refine l_own2_store m o_12 o_217 Tryd.sizeOf36 f rfl rfl ha_222 he_220 fun it_223 w m o_224 => ?_
    refine l_nil (k_seq (k_region ?_))
    refine l_boxAgg 2 0 (ds := [v_10]) m Ag27 f rfl rfl rfl rfl rfl fun a f => ?_
    refine l_boxStore 3 0 (ds := [v_10]) m Tryd.sizeOf27 f rfl rfl rfl (ones_cons (Ow2.one1 0 m o_224 rfl) ones_nil) rfl (Nat.le_of_ble_eq_true rfl) rfl fun w m => ?_
    refine l_nil ?_
    refine k_ret ?_
    have rc_225 := rr_agg (P := Tryd.prog) 3 m Ag27 f (s := 2) rfl rfl rfl
    have m := m.front 1 rfl
    have m := m.front 1 rfl
    have m := m.eraseAt 3
    have m := m.eraseAt 2
    obtain rfl := sj hd
    exact ⟨[(.agg #[v_10])], ⟨rc_225, trivial⟩, f.defers, _, [it_223, Itm.box b0 94 [v_44, (.int .i64 y_37.2.2.1), (.int .i64 y_37.2.2.2)]], (GLe.trans hl_6 (GLe.trans hl_21 (GLe.trans hl_31 hl_40))), m, _, _, _, rfl, rfl, o_224, h_45⟩
   ·refine k_false f rfl hc_214 ?_
    refine k_seq (k_region ?_)
    refine l_in f rfl rfl rfl b_eql fun a f => ?_
    refine l_as f rfl rfl fun a f => ?_
    refine l_nil ?_
    rcases cond_some hd with ⟨hc_226, hd⟩ | ⟨hc_226, hd⟩
    ·refine k_true f rfl hc_226 ?_
     refine k_region ?_
     refine l_mv f rfl rfl fun a f => ?_
     obtain ⟨y_227, hy_228, hd⟩ := bind_some hd
     refine l_res f rfl rfl Tryd.call89 (Wk.spec_l1Below m h_45 hy_228) fun v_232 G_229 Ho_233 w hl_230 m hQ_231 a f => ?_
     obtain ⟨v_234, rfl, rfl, h_235⟩ := hQ_231
     have o_12 := Ow2.mono (RI.mono _) hl_230 o_12
     refine l_in f rfl rfl rfl b_add fun a f => ?_
     obtain ⟨y_236, hy_237, hd⟩ := bind_some hd
     refine l_res f rfl rfl Tryd.call91 (Wk.spec_l1Empty__deep m  hy_237) fun v_241 G_238 Ho_242 w hl_239 m hQ_240 a f => ?_
     obtain ⟨v_243, it_244, rfl, rfl, o_245⟩ := hQ_240
     have h_235 := RSl.mono (RI.mono _) _ _ _ _ hl_239 h_235
     have o_12 := Ow2.mono (RI.mono _) hl_239 o_12
     refine l_boxStore 2 0 (ds := [v_243]) m Tryd.sizeOf27 f rfl rfl rfl (ones_cons (Ow2.one1 0 m o_245 rfl) ones_nil) rfl (Nat.le_of_ble_eq_true rfl) rfl fun w m => ?_
     refine l_nil (k_seq (k_region ?_))
     refine l_boxAgg 2 0 (ds := [v_243]) m Ag27 f rfl rfl rfl rfl rfl fun a f => ?_
     refine l_boxStore 4 0 (ds := [v_243]) m Tryd.sizeOf27 f rfl rfl rfl (ones_cons (Ow2.one1 0 m o_245 rfl) ones_nil) rfl (Nat.le_of_ble_eq_true rfl) rfl fun w m => ?_
     refine l_nil ?_
     refine k_ret ?_
     have rc_247 := rr_agg (P := Tryd.prog) 4 m Ag27 f (s := 2) rfl rfl rfl
     have m := m.front 1 rfl
     have m := m.front 1 rfl
     have m := m.front 3 rfl
     have m := m.front 2 rfl
     have m := m.front 2 rfl
     have m := m.eraseAt 4
     have m := m.eraseAt 3
     have m := m.eraseAt 2
     obtain rfl := sj hd
     exact ⟨[(.agg #[v_243])], ⟨rc_247, trivial⟩, f.defers, _, [it_244, Itm.box b0 94 [v_234, (.int .i64 y_227.2.2.1), (.int .i64 y_227.2.2.2)]], (GLe.trans hl_6 (GLe.trans hl_21 (GLe.trans hl_31 (GLe.trans hl_40 (GLe.trans hl_230 hl_239))))), m, _, _, _, rfl, rfl, o_245, h_235⟩
    ·refine k_false f rfl hc_226 ?_
     refine k_seq (k_region ?_)
     refine l_in f rfl rfl rfl b_eql fun a f => ?_
     refine l_as f rfl rfl fun a f => ?_
     refine l_nil ?_
     rcases cond_some hd with ⟨hc_248, hd⟩ | ⟨hc_248, hd⟩
     ·refine k_true f rfl hc_248 ?_
      refine k_region ?_
      have hb_249 : ∀ w, (Instr.build 27 #[]).run Tryd.prog w = .ok (.agg #[(.slice none 0 0)]) w := by intro w; simp [Instr.build, Instr.fill, cells_int, cells_bool, cells_string, cells_slice, cells_pointer, cells_agg]
      refine l_build f rfl rfl hb_249 fun a f => ?_
      refine l_boxStore 1 0 (ds := [(.slice none 0 0)]) m Tryd.sizeOf27 f rfl rfl rfl (ones_cons rfl ones_nil) rfl (Nat.le_of_ble_eq_true rfl) rfl fun w m => ?_
      refine l_nil (k_seq (k_region ?_))
      refine l_boxAgg 1 0 (ds := [(.slice none 0 0)]) m Ag27 f rfl rfl rfl rfl rfl fun a f => ?_
      refine l_boxStore 3 0 (ds := [(.slice none 0 0)]) m Tryd.sizeOf27 f rfl rfl rfl (ones_cons rfl ones_nil) rfl (Nat.le_of_ble_eq_true rfl) rfl fun w m => ?_
      refine l_nil ?_
      refine k_ret ?_
      obtain ⟨it_250, m, o_251⟩ := Ow2.nil (RI .i64) 36 2 m
      have rc_253 := rr_agg (P := Tryd.prog) 4 m Ag27 f (s := 2) rfl rfl rfl
      have m := m.front 1 rfl
      have m := m.front 1 rfl
      have m := m.eraseAt 4
      have m := m.eraseAt 3
      have m := m.eraseAt 2
      obtain rfl := sj hd
      exact ⟨[(.agg #[(.slice none 0 0)])], ⟨rc_253, trivial⟩, f.defers, _, [it_250, Itm.box b0 94 [v_44, (.int .i64 y_37.2.2.1), (.int .i64 y_37.2.2.2)]], (GLe.trans hl_6 (GLe.trans hl_21 (GLe.trans hl_31 hl_40))), m, _, _, _, rfl, rfl, o_251, h_45⟩
     ·refine k_false f rfl hc_248 ?_
      refine k_seq (k_region ?_)
      refine l_in f rfl rfl rfl b_eql fun a f => ?_
      refine l_as f rfl rfl fun a f => ?_
      refine l_nil ?_
      rcases cond_some hd with ⟨hc_254, hd⟩ | ⟨hc_254, hd⟩
      ·refine k_true f rfl hc_254 ?_
       refine k_region ?_
       refine l_fieldAddr Tryd.underlying27 rfl Tryd.sizeOf22 (by decide) f rfl rfl fun a f => ?_
       refine l_boxCell 1 0 m Pl22 f rfl rfl rfl rfl fun a f => ?_
       refine l_mv f rfl rfl fun a f => ?_
       refine l_slit (R := (RI .i64)) (xs := ([] : List Int)) (RI.one _) m T36 f rfl rfl rfl (by decide) (All2.nil _) fun it_255 v_256 w a m o_257 f => ?_
       obtain ⟨e_259, he_260, hd⟩ := bind_some hd
       refine l_own2_at 3 m o_12 rfl T22 f rfl rfl rfl he_260 fun p_261 a ha_262 f => ?_
       have m := m.front 3 rfl
       refine l_own2_store m o_12 o_257 Tryd.sizeOf36 f rfl rfl ha_262 he_260 fun it_263 w m o_264 => ?_
       refine l_nil (k_seq (k_region ?_))
       refine l_boxAgg 2 0 (ds := [v_10]) m Ag27 f rfl rfl rfl rfl rfl fun a f => ?_
       refine l_boxStore 3 0 (ds := [v_10]) m Tryd.sizeOf27 f rfl rfl rfl (ones_cons (Ow2.one1 0 m o_264 rfl) ones_nil) rfl (Nat.le_of_ble_eq_true rfl) rfl fun w m => ?_
       refine l_nil ?_
       refine k_ret ?_
       have rc_265 := rr_agg (P := Tryd.prog) 3 m Ag27 f (s := 2) rfl rfl rfl
       have m := m.front 1 rfl
       have m := m.front 1 rfl
       have m := m.eraseAt 3
       have m := m.eraseAt 2
       obtain rfl := sj hd
       exact ⟨[(.agg #[v_10])], ⟨rc_265, trivial⟩, f.defers, _, [it_263, Itm.box b0 94 [v_44, (.int .i64 y_37.2.2.1), (.int .i64 y_37.2.2.2)]], (GLe.trans hl_6 (GLe.trans hl_21 (GLe.trans hl_31 hl_40))), m, _, _, _, rfl, rfl, o_264, h_45⟩
      ·refine k_false f rfl hc_254 ?_
       refine k_skip ?_
       refine k_seq (k_region ?_)
       refine l_boxAgg 1 0 (ds := [v_10]) m Ag27 f rfl rfl rfl rfl rfl fun a f => ?_
       refine l_boxStore 3 0 (ds := [v_10]) m Tryd.sizeOf27 f rfl rfl rfl (ones_cons (Ow2.one1 2 m o_12 rfl) ones_nil) rfl (Nat.le_of_ble_eq_true rfl) rfl fun w m => ?_
       refine l_nil ?_
       refine k_ret ?_
       have rc_266 := rr_agg (P := Tryd.prog) 3 m Ag27 f (s := 2) rfl rfl rfl
       have m := m.front 2 rfl
       have m := m.eraseAt 3
       have m := m.eraseAt 2
       obtain rfl := sj hd
       exact ⟨[(.agg #[v_10])], ⟨rc_266, trivial⟩, f.defers, _, [it_11, Itm.box b0 94 [v_44, (.int .i64 y_37.2.2.1), (.int .i64 y_37.2.2.2)]], (GLe.trans hl_6 (GLe.trans hl_21 (GLe.trans hl_31 hl_40))), m, _, _, _, rfl, rfl, o_12, h_45⟩
 ·refine k_false f rfl hc_27 ?_
  refine k_skip ?_
  refine k_seq (k_region ?_)
  refine l_boxAgg 1 0 (ds := [v_10]) m Ag27 f rfl rfl rfl rfl rfl fun a f => ?_
  refine l_boxStore 3 0 (ds := [v_10]) m Tryd.sizeOf27 f rfl rfl rfl (ones_cons (Ow2.one1 2 m o_12 rfl) ones_nil) rfl (Nat.le_of_ble_eq_true rfl) rfl fun w m => ?_
  refine l_nil ?_
  refine k_ret ?_
  have rc_267 := rr_agg (P := Tryd.prog) 3 m Ag27 f (s := 2) rfl rfl rfl
  have m := m.front 2 rfl
  have m := m.eraseAt 3
  have m := m.eraseAt 2
  obtain rfl := sj hd
  exact ⟨[(.agg #[v_10])], ⟨rc_267, trivial⟩, f.defers, _, [it_11, Itm.box b0 94 [v_25, (.int .i64 y_18.2.2.1), (.int .i64 y_18.2.2.2)]], (GLe.trans hl_6 hl_21), m, _, _, _, rfl, rfl, o_12, h_26⟩

theorem Wk.spec_l1All {W w : World} {G : GH} {H : List Itm} {x0 : Int} (m : Mem W G w (H))  {y : ((List Int))} (hd : D.spec_l1All x0 = some y) :
  Calls Tryd.prog 70 #[(.int .i64 x0)] w (Res W G H (fun G' Ho v => ∃ r0 : Value, ∃ i0 : Itm, Ho = [i0] ∧ r0 = v ∧ Ow (RI .i64) 2 G' i0 r0 y)) := by
 refine calls_b (args := [(.int .i64 x0)]) (N := 16) [.tmp 2] Tryd.func70 rfl rfl (Nat.le_of_ble_eq_true rfl) rfl fun a f => ?_
 unfold D.spec_l1All at hd
 refine k_seq (k_region ?_)
 refine l_as f rfl rfl fun a f => ?_
 refine l_nil (k_seq (k_region ?_))
 refine l_slit (R := (RI .i64)) (xs := ([] : List Int)) (RI.one _) m T36 f rfl rfl rfl (by decide) (All2.nil _) fun it_1 v_2 w a m o_3 f => ?_
 refine l_as f rfl rfl fun a f => ?_
 refine l_nil (k_seq (k_seq (k_region ?_)))
 refine l_as f rfl rfl fun a f => ?_
 refine l_nil ?_
 obtain ⟨q_34, hl_35, hd⟩ := bind_some hd
 refine k_cut (fun a w => ∃ l_60 : List Int, l_60 = q_34 ∧ ∃ (G_59 : GH) (v_61 : Value) (it_62 : Itm), GLe G G_59 ∧ Fr a 16 [(3, v_61)] ∧ Mem W G_59 w (it_62 :: H) ∧ Ow (RI .i64) 2 G_59 it_62 v_61 l_60) ?_ ?_
 ·refine k_block ?_
  refine k_loop (fun s_38 a w => ∃ l_41 : List Int, ∃ x_46 : Int, (l_41, x_46) = s_38 ∧ ∃ (G_40 : GH) (v_42 : Value) (it_43 : Itm), GLe G G_40 ∧ Fr a 16 [(0, (.int .i64 x0)), (3, v_42), (4, (.int .i64 x_46))] ∧ Mem W G_40 w (it_43 :: H) ∧ Ow (RI .i64) 2 G_40 it_43 v_42 l_41) hl_35 ⟨_, _, rfl, _, v_2, it_1, (GLe.refl _), f.weak ⟨rfl, rfl, rfl, trivial⟩, m, o_3⟩ ?_
  clear hl_35 f m
  rintro s_38 o_39 hs_36 hq_37 a w ⟨l_41, x_46, rfl, G_40, v_42, it_43, hl_47, f, m, o_44⟩
  refine k_seq (k_seq (k_region ?_))
  refine l_mv f rfl rfl fun a f => ?_
  refine l_mv f rfl rfl fun a f => ?_
  refine l_in f rfl rfl rfl b_lss fun a f => ?_
  refine l_nil ?_
  rcases cond_some hs_36 with ⟨hc_66, hs_36⟩ | ⟨hc_66, hs_36⟩
  ·refine k_true f rfl hc_66 ?_
   refine k_skip ?_
   refine k_seq (k_block (k_region ?_))
   refine l_mv f rfl rfl fun a f => ?_
   refine l_mv f rfl rfl fun a f => ?_
   refine l_slit (R := (RI .i64)) (xs := ([x_46] : List Int)) (RI.one _) m T36 f rfl rfl rfl (by decide) (All2.cons rfl (All2.nil _)) fun it_67 v_68 w a m o_69 f => ?_
   obtain ⟨l_71, hx_72, hs_36⟩ := bind_some hs_36
   refine l_append (RI.one _) 1 m o_44 rfl T36 rfl (by decide) f rfl rfl rfl (Ow.src (j := 0) o_69 m rfl) hx_72 fun it_73 v_74 w a m o_75 f => ?_
   refine l_as f rfl rfl fun a f => ?_
   refine l_nil (k_region ?_)
   refine l_mv f rfl rfl fun a f => ?_
   refine l_in f rfl rfl rfl b_add fun a f => ?_
   refine l_as f rfl rfl fun a f => ?_
   refine l_nil ?_
   have m := m.front 1 rfl
   have m := m.eraseAt 1
   obtain rfl := sj hs_36
   exact ⟨_, rfl, _, _, rfl, _, v_74, it_73, hl_47, f.weak ⟨rfl, rfl, rfl, trivial⟩, m, o_75⟩
  ·refine k_false f rfl hc_66 ?_
   refine k_exit rfl ?_
   obtain rfl := sj hs_36
   obtain rfl := hq_37 _ rfl
   exact ⟨_, rfl, _, v_42, it_43, hl_47, f.weak ⟨rfl, trivial⟩, m, o_44⟩
 ·rintro a w ⟨l_60, rfl, G_59, v_61, it_62, hl_65, f, m, o_63⟩
  refine k_seq (k_region ?_)
  refine l_mv f rfl rfl fun a f => ?_
  refine l_as f rfl rfl fun a f => ?_
  refine l_nil ?_
  refine k_ret ?_
  obtain rfl := sj hd
  exact ⟨[v_61], ⟨f.get _ _ rfl, trivial⟩, f.defers, _, [it_62], hl_65, m, _, _, rfl, rfl, o_63⟩

theorem Wk.spec_l1From {W w : World} {G : GH} {H : List Itm} {v0_0 : Value} {b0 : Nat} {x0_0 : (List Int)} {x0_1 : Int} {x0_2 : Int} {x1 : Int} {x2 : Int} (m : Mem W G w (Itm.box b0 94 [v0_0, (.int .i64 x0_1), (.int .i64 x0_2)] :: H)) (h0_0 : RSl (RI .u8) G v0_0 x0_0) {y : Int × ((List Int)) × Int × Int} (hd : D.spec_l1From x0_0 x0_1 x0_2 x1 x2 = some y) :
  Calls Tryd.prog 93 #[(.pointer (some ⟨b0, 0, none⟩)), (.int .i64 x1), (.int .i64 x2)] w (Res W G H (fun G' Ho v => ∃ r0 : Value, Ho = [Itm.box b0 94 [r0, (.int .i64 y.2.2.1), (.int .i64 y.2.2.2)]] ∧ v = (.int .i64 y.1) ∧ RSl (RI .u8) G' r0 y.2.1)) := by
 refine calls_b (args := [(.pointer (some ⟨b0, 0, none⟩)), (.int .i64 x1), (.int .i64 x2)]) (N := 15) [.tmp 6] Tryd.func93 rfl rfl (Nat.le_of_ble_eq_true rfl) rfl fun a f => ?_
 unfold D.spec_l1From at hd
 refine k_seq (k_region ?_)
 refine l_as f rfl rfl fun a f => ?_
 refine l_nil (k_seq (k_region ?_))
 refine l_mv f rfl rfl fun a f => ?_
 refine l_mv f rfl rfl fun a f => ?_
 refine l_mv f rfl rfl fun a f => ?_
 refine l_mv f rfl rfl fun a f => ?_
 refine l_in f rfl rfl rfl b_sub fun a f => ?_
 refine l_in f rfl rfl rfl b_add fun a f => ?_
 obtain ⟨y_1, hy_2, hd⟩ := bind_some hd
 refine l_res f rfl rfl Tryd.call89 (Wk.spec_l1Below m h0_0 hy_2) fun v_6 G_3 Ho_7 w hl_4 m hQ_5 a f => ?_
 obtain ⟨v_8, rfl, rfl, h_9⟩ := hQ_5
 refine l_in f rfl rfl rfl b_add fun a f => ?_
 refine l_as f rfl rfl fun a f => ?_
 refine l_nil ?_
 refine k_ret ?_
 obtain rfl := sj hd
 exact ⟨[(.int .i64 (IntKind.i64.wrap (x1 + y_1.1)))], ⟨f.get _ _ rfl, trivial⟩, f.defers, _, [Itm.box b0 94 [v_8, (.int .i64 y_1.2.2.1), (.int .i64 y_1.2.2.2)]], hl_4, m, _, rfl, rfl, h_9⟩

theorem Wk.spec_l1DrawOrder {W w : World} {G : GH} {H : List Itm} {v0_0 : Value} {b0 : Nat} {v1_0 : Value} {x0_0 : (List Int)} {x0_1 : Int} {x0_2 : Int} {x1_0 : (List (List Int))} (m : Mem W G w (Itm.box b0 94 [v0_0, (.int .i64 x0_1), (.int .i64 x0_2)] :: H)) (h0_0 : RSl (RI .u8) G v0_0 x0_0) (h1_0 : RSl (RSl (RI .i64)) G v1_0 x1_0) {y : ((List Int)) × ((List Int)) × Int × Int} (hd : D.spec_l1DrawOrder x0_0 x0_1 x0_2 x1_0 = some y) :
  Calls Tryd.prog 52 #[(.pointer (some ⟨b0, 0, none⟩)), (.agg #[v1_0])] w (Res W G H (fun G' Ho v => ∃ r0 : Value, ∃ i0 : Itm, ∃ r2 : Value, Ho = [i0, Itm.box b0 94 [r2, (.int .i64 y.2.2.1), (.int .i64 y.2.2.2)]] ∧ r0 = v ∧ Ow (RI .i64) 2 G' i0 r0 y.1 ∧ RSl (RI .u8) G' r2 y.2.1)) := by
 refine calls_b (args := [(.pointer (some ⟨b0, 0, none⟩)), (.agg #[v1_0])]) (N := 52) [.tmp 4] Tryd.func52 rfl rfl (Nat.le_of_ble_eq_true rfl) rfl fun a f => ?_
 unfold D.spec_l1DrawOrder at hd
 refine k_seq (k_region ?_)
 refine l_box (cs := [v1_0]) m f rfl rfl rfl fun b_2 w a m f => ?_
 refine l_as f rfl rfl fun a f => ?_
 refine l_nil (k_seq (k_region ?_))
 refine l_fieldAddr Tryd.underlying27 rfl Tryd.sizeOf22 (by decide) f rfl rfl fun a f => ?_
 refine l_boxCell 0 0 m Pl22 f rfl rfl rfl rfl fun a f => ?_
 refine l_len Tryd.underlying22 f rfl rfl h1_0 fun a f => ?_
 obtain ⟨y_3, hy_4, hd⟩ := bind_some hd
 refine l_res f rfl rfl Tryd.call70 (Wk.spec_l1All m  hy_4) fun v_8 G_5 Ho_9 w hl_6 m hQ_7 a f => ?_
 obtain ⟨v_10, it_11, rfl, rfl, o_12⟩ := hQ_7
 have h1_0 := RSl.mono (RSl.mono (RI.mono _)) _ _ _ _ hl_6 h1_0
 have h0_0 := RSl.mono (RI.mono _) _ _ _ _ hl_6 h0_0
 refine l_as f rfl rfl fun a f => ?_
 refine l_nil (k_seq (k_region ?_))
 refine l_slit (R := (RI .i64)) (xs := ([] : List Int)) (RI.one _) m T36 f rfl rfl rfl (by decide) (All2.nil _) fun it_14 v_15 w a m o_16 f => ?_
 refine l_as f rfl rfl fun a f => ?_
 refine l_nil (k_seq ?_)
 obtain ⟨q_158, hl_159, hd⟩ := bind_some hd
 refine k_cut (fun a w => ∃ l_244 : List Int, ∃ l_249 : List Int, ∃ x_252 : Int, ∃ x_253 : Int, (l_244, l_249, x_252, x_253) = q_158 ∧ ∃ (G_243 : GH) (v_245 : Value) (it_246 : Itm) (v_250 : Value), GLe G_5 G_243 ∧ Fr a 52 [(0, (.pointer (some ⟨b0, 0, none⟩))), (6, v_245)] ∧ Mem W G_243 w (Itm.box b0 94 [v_250, (.int .i64 x_252), (.int .i64 x_253)] :: it_246 :: H) ∧ Ow (RI .i64) 2 G_243 it_246 v_245 l_244 ∧ RSl (RI .u8) G_243 v_250 l_249) ?_ ?_
 ·refine k_block ?_
  have m := m.front 1 rfl
  have m := m.front 3 rfl
  have m := m.eraseAt 3
  refine k_loop (fun s_162 a w => ∃ l_165 : List Int, ∃ l_170 : List Int, ∃ l_175 : List Int, ∃ x_178 : Int, ∃ x_179 : Int, (l_165, l_170, l_175, x_178, x_179) = s_162 ∧ ∃ (G_164 : GH) (v_166 : Value) (it_167 : Itm) (v_171 : Value) (it_172 : Itm) (v_176 : Value), GLe G_5 G_164 ∧ Fr a 52 [(0, (.pointer (some ⟨b0, 0, none⟩))), (5, v_166), (6, v_171)] ∧ Mem W G_164 w (Itm.box b0 94 [v_176, (.int .i64 x_178), (.int .i64 x_179)] :: it_167 :: it_172 :: H) ∧ Ow (RI .i64) 2 G_164 it_167 v_166 l_165 ∧ Ow (RI .i64) 2 G_164 it_172 v_171 l_170 ∧ RSl (RI .u8) G_164 v_176 l_175) hl_159 ⟨_, _, _, _, _, rfl, _, v_10, it_11, v_15, it_14, v0_0, (GLe.refl _), f.weak ⟨rfl, rfl, rfl, trivial⟩, m, o_12, o_16, h0_0⟩ ?_
  clear hl_159 f m
  rintro s_162 o_163 hs_160 hq_161 a w ⟨l_165, l_170, l_175, x_178, x_179, rfl, G_164, v_166, it_167, v_171, it_172, v_176, hl_180, f, m, o_168, o_173, h_177⟩
  refine k_seq (k_seq (k_region ?_))
  refine l_mv f rfl rfl fun a f => ?_
  refine l_own_len 1 m o_168 rfl Tryd.underlying36 f rfl rfl fun a f => ?_
  refine l_in f rfl rfl rfl b_gtr fun a f => ?_
  refine l_nil ?_
  rcases cond_some hs_160 with ⟨hc_255, hs_160⟩ | ⟨hc_255, hs_160⟩
  ·refine k_true f rfl hc_255 ?_
   refine k_skip ?_
   refine k_block (k_seq (k_region ?_))
   refine l_mv f rfl rfl fun a f => ?_
   refine l_mv f rfl rfl fun a f => ?_
   refine l_own_len 1 m o_168 rfl Tryd.underlying36 f rfl rfl fun a f => ?_
   obtain ⟨y_256, hy_257, hs_160⟩ := bind_some hs_160
   refine l_res f rfl rfl Tryd.call89 (Wk.spec_l1Below m h_177 hy_257) fun v_261 G_258 Ho_262 w hl_259 m hQ_260 a f => ?_
   obtain ⟨v_263, rfl, rfl, h_264⟩ := hQ_260
   have o_168 := Ow.mono (RI.mono _) hl_259 o_168
   have o_173 := Ow.mono (RI.mono _) hl_259 o_173
   refine l_as f rfl rfl fun a f => ?_
   refine l_nil (k_seq (k_region ?_))
   refine l_mv f rfl rfl fun a f => ?_
   refine l_mv f rfl rfl fun a f => ?_
   refine l_mv f rfl rfl fun a f => ?_
   obtain ⟨e_265, he_266, hs_160⟩ := bind_some hs_160
   refine l_own_at 1 m o_168 rfl T36 f rfl rfl rfl he_266 fun p_267 a ha_268 f => ?_
   refine l_own_load 1 m o_168 rfl Pl2 f rfl rfl ha_268 he_266 fun c_269 a h_270 f => ?_
   subst h_270
   refine l_slit (R := (RI .i64)) (xs := ([e_265] : List Int)) (RI.one _) m T36 f rfl rfl rfl (by decide) (All2.cons rfl (All2.nil _)) fun it_271 v_272 w a m o_273 f => ?_
   obtain ⟨l_275, hx_276, hs_160⟩ := bind_some hs_160
   refine l_append (RI.one _) 3 m o_173 rfl T36 rfl (by decide) f rfl rfl rfl (Ow.src (j := 0) o_273 m rfl) hx_276 fun it_277 v_278 w a m o_279 f => ?_
   refine l_as f rfl rfl fun a f => ?_
   refine l_nil ?_
   have m := m.front 2 rfl
   obtain ⟨G_284, hl_285, m, h_286⟩ := Ow.stamp (RI.mono _) o_168 m
   have o_273 := Ow.mono (RI.mono _) hl_285 o_273
   have h_264 := RSl.mono (RI.mono _) _ _ _ _ hl_285 h_264
   have o_279 := Ow.mono (RI.mono _) hl_285 o_279
   refine k_draw 8 Follows (by kernel_rfl) m ?_
   refine q_mv 0 8 rfl (by kernel_rfl) f rfl rfl rfl fun a f => ?_
   refine q_mv 1 8 rfl (by kernel_rfl) f rfl rfl rfl fun a f => ?_
   obtain ⟨l_287, hx_288, hs_160⟩ := bind_some hs_160
   refine q_slice (i := 2) 8 T36 h_286 hx_288 rfl (by kernel_rfl) rfl f rfl rfl rfl (.inl ⟨rfl, rfl⟩) (.inr ⟨_, _, rfl, rfl⟩) fun v_289 a h_290 f => ?_
   refine q_mv 4 8 rfl (by kernel_rfl) f rfl rfl rfl fun a f => ?_
   refine q_mv 5 8 rfl (by kernel_rfl) f rfl rfl rfl fun a f => ?_
   refine q_p 6 8 rfl (by kernel_rfl) f rfl rfl rfl (fun _ => r_int (f.eval rfl) (f.eval rfl) b_add) fun a f => ?_
   obtain ⟨l_291, hx_292, hs_160⟩ := bind_some hs_160
   refine q_slice (i := 7) 8 T36 h_286 hx_292 rfl (by kernel_rfl) rfl f rfl rfl rfl (.inr ⟨_, _, rfl, rfl⟩) (.inl ⟨rfl, rfl⟩) fun v_293 a h_294 f => ?_
   refine q_one (i := 3) rfl (by kernel_rfl) rfl fun G_295 w hl_296 m K_297 K_297 => ?_
   have h_286 := RSl.mono (RI.mono _) _ _ _ _ hl_296 h_286
   have h_290 := RSl.mono (RI.mono _) _ _ _ _ hl_296 h_290
   have h_294 := RSl.mono (RI.mono _) _ _ _ _ hl_296 h_294
   have o_273 := Ow.mono (RI.mono _) hl_296 o_273
   have h_264 := RSl.mono (RI.mono _) _ _ _ _ hl_296 h_264
   have o_279 := Ow.mono (RI.mono _) hl_296 o_279
   obtain ⟨y_298, hy_299, hs_160⟩ := bind_some hs_160
   refine l_res f rfl rfl Tryd.call92 (Wk.spec_l1Copy m h_290 hy_299) fun v_303 G_300 Ho_304 w hl_301 m hQ_302 a f => ?_
   obtain ⟨v_305, it_306, rfl, rfl, o_307⟩ := hQ_302
   have h_286 := RSl.mono (RI.mono _) _ _ _ _ hl_301 h_286
   have h_290 := RSl.mono (RI.mono _) _ _ _ _ hl_301 h_290
   have h_294 := RSl.mono (RI.mono _) _ _ _ _ hl_301 h_294
   have o_273 := Ow.mono (RI.mono _) hl_301 o_273
   have h_264 := RSl.mono (RI.mono _) _ _ _ _ hl_301 h_264
   have o_279 := Ow.mono (RI.mono _) hl_301 o_279
   refine l_nil ?_
   refine K_297 G_300 [it_306] _ _ hl_301 m ?_
   refine q_end fun G_309 w hl_310 m => ?_
   have h_286 := RSl.mono (RI.mono _) _ _ _ _ hl_310 h_286
   have h_290 := RSl.mono (RI.mono _) _ _ _ _ hl_310 h_290
   have h_294 := RSl.mono (RI.mono _) _ _ _ _ hl_310 h_294
   have o_307 := Ow.mono (RI.mono _) hl_310 o_307
   have o_273 := Ow.mono (RI.mono _) hl_310 o_273
   have h_264 := RSl.mono (RI.mono _) _ _ _ _ hl_310 h_264
   have o_279 := Ow.mono (RI.mono _) hl_310 o_279
   obtain ⟨l_311, hx_312, hs_160⟩ := bind_some hs_160
   refine l_append (RI.one _) 0 m o_307 rfl T36 rfl (by decide) f rfl rfl rfl (h_294.src m) hx_312 fun it_313 v_314 w a m o_315 f => ?_
   refine l_as f rfl rfl fun a f => ?_
   refine l_nil ?_
   have m := m.front 3 rfl
   have m := m.front 1 rfl
   have m := m.front 3 rfl
   have m := m.eraseAt 3
   obtain rfl := sj hs_160
   exact ⟨_, rfl, _, _, _, _, _, rfl, _, v_314, it_313, v_278, it_277, v_263, (GLe.trans hl_180 (GLe.trans hl_259 (GLe.trans hl_285 (GLe.trans hl_296 (GLe.trans hl_301 hl_310))))), f.weak ⟨rfl, rfl, rfl, trivial⟩, m, o_315, o_279, h_264⟩
  ·refine k_false f rfl hc_255 ?_
   refine k_exit rfl ?_
   have m := m.front 2 rfl
   have m := m.front 1 rfl
   have m := m.eraseAt 2
   obtain rfl := sj hs_160
   obtain rfl := hq_161 _ rfl
   exact ⟨_, _, _, _, rfl, _, v_171, it_172, v_176, hl_180, f.weak ⟨rfl, rfl, trivial⟩, m, o_173, h_177⟩
 ·rintro a w ⟨l_244, l_249, x_252, x_253, rfl, G_243, v_245, it_246, v_250, hl_254, f, m, o_247, h_251⟩
  refine k_seq (k_seq (k_region ?_))
  refine l_mv f rfl rfl fun a f => ?_
  obtain ⟨y_317, hy_318, hd⟩ := bind_some hd
  refine l_res f rfl rfl Tryd.call88 (Wk.spec_l1Once m h_251 hy_318) fun v_322 G_319 Ho_323 w hl_320 m hQ_321 a f => ?_
  obtain ⟨v_324, rfl, rfl, h_325⟩ := hQ_321
  have o_247 := Ow.mono (RI.mono _) hl_320 o_247
  refine l_mv f rfl rfl fun a f => ?_
  refine l_cut 4 (fun a w => ∃ G_327, GLe G_319 G_327 ∧ Mem W G_327 w (Itm.box b0 94 [v_324, (.int .i64 y_317.2.2.1), (.int .i64 y_317.2.2.2)] :: it_246 :: H) ∧ Fr a 52 [(0, (.pointer (some ⟨b0, 0, none⟩))), (6, v_245), (36, (.pointer (some ⟨b0, 0, none⟩))), (37, (.bool y_317.1)), (38, (.bool y_317.1)), (42, (.bool (y_317.1 && (decide ((0 : Int) < (l_244.length : Int))))))]) ?_ ?_
  ·rcases Bool.eq_false_or_eq_true y_317.1 with hc_326 | hc_326
   ·refine l_run f rfl rfl hc_326 ?_
    refine l_mv f rfl rfl fun a f => ?_
    refine l_run f rfl rfl hc_326 ?_
    refine l_own_len 1 m o_247 rfl Tryd.underlying36 f rfl rfl fun a f => ?_
    refine l_run f rfl rfl hc_326 ?_
    refine l_in f rfl rfl rfl b_gtr fun a f => ?_
    refine l_op f rfl rfl rfl (r_pickT (f.eval rfl) hc_326 (f.eval rfl)) fun a f => ?_
    have m := m.front 1 rfl
    have m := m.front 1 rfl
    exact ⟨_, (GLe.refl _), m, f.weak ⟨rfl, rfl, rfl, rfl, rfl, by rw [hc_326]; rfl, trivial⟩⟩
   ·refine l_not' f rfl rfl rfl hc_326 fun a f => ?_
    refine l_not' f rfl rfl rfl hc_326 fun a f => ?_
    refine l_not' f rfl rfl rfl hc_326 fun a f => ?_
    refine l_op f rfl rfl rfl (r_pickF (f.eval rfl) hc_326 (f.eval rfl)) fun a f => ?_
    have m := m.front 1 rfl
    have m := m.front 1 rfl
    exact ⟨_, (GLe.refl _), m, f.weak ⟨rfl, rfl, rfl, rfl, rfl, by rw [hc_326]; rfl, trivial⟩⟩
  ·rintro a w ⟨G_327, hl_328, m, f⟩
   have h_325 := RSl.mono (RI.mono _) _ _ _ _ hl_328 h_325
   have o_247 := Ow.mono (RI.mono _) hl_328 o_247
   refine l_nil ?_
   rcases cond_some hd with ⟨hc_329, hd⟩ | ⟨hc_329, hd⟩
   ·refine k_true f rfl hc_329 ?_
    refine k_region ?_
    refine l_mv f rfl rfl fun a f => ?_
    refine l_mv f rfl rfl fun a f => ?_
    refine l_mv f rfl rfl fun a f => ?_
    refine l_own_len 1 m o_247 rfl Tryd.underlying36 f rfl rfl fun a f => ?_
    obtain ⟨y_330, hy_331, hd⟩ := bind_some hd
    refine l_res f rfl rfl Tryd.call89 (Wk.spec_l1Below m h_325 hy_331) fun v_335 G_332 Ho_336 w hl_333 m hQ_334 a f => ?_
    obtain ⟨v_337, rfl, rfl, h_338⟩ := hQ_334
    have o_247 := Ow.mono (RI.mono _) hl_333 o_247
    refine l_mv f rfl rfl fun a f => ?_
    obtain ⟨y_339, hy_340, hd⟩ := bind_some hd
    refine l_res f rfl rfl Tryd.call93 (Wk.spec_l1From m h_338 hy_340) fun v_344 G_341 Ho_345 w hl_342 m hQ_343 a f => ?_
    obtain ⟨v_346, rfl, rfl, h_347⟩ := hQ_343
    have o_247 := Ow.mono (RI.mono _) hl_342 o_247
    obtain ⟨e_348, he_349, hd⟩ := bind_some hd
    refine l_own_at 1 m o_247 rfl T36 f rfl rfl rfl he_349 fun p_350 a ha_351 f => ?_
    refine l_own_store 1 m o_247 rfl Tryd.sizeOf2 f rfl rfl ha_351 he_349 rfl rfl rfl fun it_352 w m o_353 => ?_
    refine l_nil (k_seq (k_region ?_))
    refine l_mv f rfl rfl fun a f => ?_
    refine l_as f rfl rfl fun a f => ?_
    refine l_nil ?_
    refine k_ret ?_
    have m := m.front 1 rfl
    obtain rfl := sj hd
    exact ⟨[v_245], ⟨f.get _ _ rfl, trivial⟩, f.defers, _, [it_352, Itm.box b0 94 [v_346, (.int .i64 y_339.2.2.1), (.int .i64 y_339.2.2.2)]], (GLe.trans hl_6 (GLe.trans hl_254 (GLe.trans hl_320 (GLe.trans hl_328 (GLe.trans hl_333 hl_342))))), m, _, _, _, rfl, rfl, o_353, h_347⟩
   ·refine k_false f rfl hc_329 ?_
    refine k_skip ?_
    refine k_seq (k_region ?_)
    refine l_mv f rfl rfl fun a f => ?_
    refine l_as f rfl rfl fun a f => ?_
    refine l_nil ?_
    refine k_ret ?_
    have m := m.front 1 rfl
    obtain rfl := sj hd
    exact ⟨[v_245], ⟨f.get _ _ rfl, trivial⟩, f.defers, _, [it_246, Itm.box b0 94 [v_324, (.int .i64 y_317.2.2.1), (.int .i64 y_317.2.2.2)]], (GLe.trans hl_6 (GLe.trans hl_254 (GLe.trans hl_320 hl_328))), m, _, _, _, rfl, rfl, o_247, h_325⟩

end Go.Proofs.YtocakchlhemmeaaDoor

set_option maxRecDepth 100000
namespace Go.Proofs.YtocakchlhemmeaaDoor
open Go Go.Sx


theorem Wk.spec_l1There {W w : World} {G : GH} {H : List Itm} {v0_0 : Value} {x0_0 : (List (List Int))} {x1 : Int} (m : Mem W G w (H)) (h0_0 : RSl (RSl (RI .i64)) G v0_0 x0_0) {y : Bool} (hd : D.spec_l1There x0_0 x1 = some y) :
  Calls Tryd.prog 98 #[(.agg #[v0_0]), (.int .i64 x1)] w (Res W G H (fun _ Ho v => Ho = [] ∧ v = (.bool y))) := by
 refine calls_b (args := [(.agg #[v0_0]), (.int .i64 x1)]) (N := 10) [.tmp 4] Tryd.func98 rfl rfl (Nat.le_of_ble_eq_true rfl) rfl fun a f => ?_
 unfold D.spec_l1There at hd
 refine k_seq (k_region ?_)
 refine l_box (cs := [v0_0]) m f rfl rfl rfl fun b_2 w a m f => ?_
 refine l_as f rfl rfl fun a f => ?_
 refine l_nil (k_seq (k_region ?_))
 refine l_mv f rfl rfl fun a f => ?_
 refine l_boxAgg 0 0 (ds := [v0_0]) m Ag27 f rfl rfl rfl rfl rfl fun a f => ?_
 obtain ⟨y_3, hy_4, hd⟩ := bind_some hd
 refine l_res f rfl rfl Tryd.call62 (Wk.spec_l1Size m h0_0 hy_4) fun v_8 G_5 Ho_9 w hl_6 m hQ_7 a f => ?_
 obtain ⟨rfl, rfl⟩ := hQ_7
 have h0_0 := RSl.mono (RSl.mono (RI.mono _)) _ _ _ _ hl_6 h0_0
 refine l_in f rfl rfl rfl b_sub fun a f => ?_
 obtain ⟨y_10, hy_11, hd⟩ := bind_some hd
 refine l_res f rfl rfl Tryd.call63 (Wk.spec_l1In m  hy_11) fun v_15 G_12 Ho_16 w hl_13 m hQ_14 a f => ?_
 obtain ⟨rfl, rfl⟩ := hQ_14
 have h0_0 := RSl.mono (RSl.mono (RI.mono _)) _ _ _ _ hl_13 h0_0
 refine l_as f rfl rfl fun a f => ?_
 refine l_nil ?_
 refine k_ret ?_
 have m : Mem W G_12 w H := Mem.drop (H' := [Itm.box b_2 27 [v0_0]]) m
 obtain rfl := sj hd
 exact ⟨[(.bool y_10)], ⟨f.get _ _ rfl, trivial⟩, f.defers, _, [], (GLe.trans hl_6 hl_13), m, rfl, rfl⟩

theorem Wk.spec_l1Order {W w : World} {G : GH} {H : List Itm} {v0_0 : Value} {v1 : Value} {x0_0 : (List (List Int))} {x1 : (List Int)} (m : Mem W G w (H)) (h0_0 : RSl (RSl (RI .i64)) G v0_0 x0_0) (h1 : RSl (RI .i64) G v1 x1) {y : Bool} (hd : D.spec_l1Order x0_0 x1 = some y) :
  Calls Tryd.prog 56 #[(.agg #[v0_0]), v1] w (Res W G H (fun _ Ho v => Ho = [] ∧ v = (.bool y))) := by
 refine calls_b (args := [(.agg #[v0_0]), v1]) (N := 34) [.tmp 4] Tryd.func56 rfl rfl (Nat.le_of_ble_eq_true rfl) rfl fun a f => ?_
 unfold D.spec_l1Order at hd
 refine k_seq (k_region ?_)
 refine l_box (cs := [v0_0]) m f rfl rfl rfl fun b_2 w a m f => ?_
 refine l_as f rfl rfl fun a f => ?_
 refine l_nil (k_seq (k_seq (k_region ?_)))
 refine l_mv f rfl rfl fun a f => ?_
 refine l_len Tryd.underlying36 f rfl rfl h1 fun a f => ?_
 refine l_boxAgg 0 0 (ds := [v0_0]) m Ag27 f rfl rfl rfl rfl rfl fun a f => ?_
 obtain ⟨y_3, hy_4, hd⟩ := bind_some hd
 refine l_res f rfl rfl Tryd.call62 (Wk.spec_l1Size m h0_0 hy_4) fun v_8 G_5 Ho_9 w hl_6 m hQ_7 a f => ?_
 obtain ⟨rfl, rfl⟩ := hQ_7
 have h0_0 := RSl.mono (RSl.mono (RI.mono _)) _ _ _ _ hl_6 h0_0
 have h1 := RSl.mono (RI.mono _) _ _ _ _ hl_6 h1
 refine l_in f rfl rfl rfl b_neq fun a f => ?_
 refine l_nil ?_
 rcases cond_some hd with ⟨hc_10, hd⟩ | ⟨hc_10, hd⟩
 ·refine k_true f rfl hc_10 ?_
  refine k_seq (k_region ?_)
  refine l_as f rfl rfl fun a f => ?_
  refine l_nil ?_
  refine k_ret ?_
  have m : Mem W G_5 w H := Mem.drop (H' := [Itm.box b_2 27 [v0_0]]) m
  obtain rfl := sj hd
  exact ⟨[(.bool false)], ⟨f.get _ _ rfl, trivial⟩, f.defers, _, [], hl_6, m, rfl, rfl⟩
 ·refine k_false f rfl hc_10 ?_
  refine k_skip ?_
  refine k_seq (k_seq (k_region ?_))
  refine l_as f rfl rfl fun a f => ?_
  refine l_nil ?_
  obtain ⟨q_99, hl_100, hd⟩ := bind_some hd
  refine k_cut (fun a w => ∃ q_99' : Unit, q_99 = .inl q_99' ∧ ∃ (G_151 : GH), GLe G_5 G_151 ∧ Fr a 34 [] ∧ Mem W G_151 w (H)) ?_ ?_
  ·refine k_block ?_
   refine k_loop (fun s_103 a w => ∃ x_106 : Int, x_106 = s_103 ∧ ∃ (G_105 : GH), GLe G_5 G_105 ∧ Fr a 34 [(1, v1), (2, (.pointer (some ⟨b_2, 0, none⟩))), (5, (.int .i64 x_106))] ∧ Mem W G_105 w (Itm.box b_2 27 [v0_0] :: H)) hl_100 ⟨_, rfl, _, (GLe.refl _), f.weak ⟨rfl, rfl, rfl, trivial⟩, m⟩ ?_
   clear hl_100 f m
   rintro s_103 o_104 hs_101 hq_102 a w ⟨x_106, rfl, G_105, hl_107, f, m⟩
   have h1 := RSl.mono (RI.mono _) _ _ _ _ hl_107 h1
   have h0_0 := RSl.mono (RSl.mono (RI.mono _)) _ _ _ _ hl_107 h0_0
   refine k_seq (k_seq (k_region ?_))
   refine l_mv f rfl rfl fun a f => ?_
   refine l_mv f rfl rfl fun a f => ?_
   refine l_len Tryd.underlying36 f rfl rfl h1 fun a f => ?_
   refine l_in f rfl rfl rfl b_lss fun a f => ?_
   refine l_nil ?_
   rcases cond_some hs_101 with ⟨hc_153, hs_101⟩ | ⟨hc_153, hs_101⟩
   ·refine k_true f rfl hc_153 ?_
    refine k_skip ?_
    refine k_seq (k_block (k_seq ?_))
    refine k_draw 17 Follows (by kernel_rfl) m ?_
    refine q_boxAgg (i := 0) (ds := [v0_0]) 17 0 Ag27 rfl rfl rfl rfl (by kernel_rfl) rfl f rfl rfl rfl fun a f => ?_
    refine q_mv 1 17 rfl (by kernel_rfl) f rfl rfl rfl fun a f => ?_
    refine q_mv 2 17 rfl (by kernel_rfl) f rfl rfl rfl fun a f => ?_
    obtain ⟨e_154, he_155, hs_101⟩ := bind_some hs_101
    refine q_at (i := 3) 17 T36 h1 he_155 rfl (by kernel_rfl) rfl f rfl rfl rfl rfl fun p_156 c_157 a g_158 h_159 f => ?_
    subst h_159
    refine q_loadAt (i := 4) 17 Pl2 g_158 rfl (by kernel_rfl) rfl f rfl rfl rfl fun a f => ?_
    obtain ⟨y_160, hy_161, hs_101⟩ := bind_some hs_101
    refine q_call (i := 5) 17 rfl (by kernel_rfl) rfl f rfl rfl rfl Tryd.call98 (fun _ _ w hG_162 m => Wk.spec_l1There m (RSl.mono (RSl.mono (RI.mono _)) _ _ _ _ hG_162 h0_0) hy_161) fun a f => ?_
    refine q_p 6 17 rfl (by kernel_rfl) f rfl rfl rfl (fun _ => r_not (f.eval rfl)) fun a f => ?_
    refine q_mv 7 17 rfl (by kernel_rfl) f rfl rfl rfl fun a f => ?_
    obtain ⟨b_178, hj_179, hs_101⟩ := bind_some hs_101
    refine q_cut (fuel' := 0) (listed' := #[true, true, true, true, true, true, true, true, true, true, true, true, true, true, true, true, true]) (fun a => Fr a 34 [(1, v1), (2, (.pointer (some ⟨b_2, 0, none⟩))), (5, (.int .i64 x_106)), (14, (.bool (decide (x_106 < (x1.length : Int))))), (17, (.agg #[v0_0])), (18, v1), (19, (.int .i64 x_106)), (20, p_156), (21, (.int .i64 e_154)), (22, (.bool y_160)), (23, (.bool (!y_160))), (24, (.bool (!y_160))), (33, (.bool b_178))]) ?_ ?_
    ·intro a f
     refine q_end fun G_193 w hl_194 m => ?_
     have h1 := RSl.mono (RI.mono _) _ _ _ _ hl_194 h1
     have h0_0 := RSl.mono (RSl.mono (RI.mono _)) _ _ _ _ hl_194 h0_0
     have g_158 := At.mono hl_194 g_158
     refine l_nil ?_
     rcases cond_some hs_101 with ⟨hc_195, hs_101⟩ | ⟨hc_195, hs_101⟩
     ·refine k_true f rfl hc_195 ?_
      refine k_seq (k_region ?_)
      refine l_as f rfl rfl fun a f => ?_
      refine l_nil ?_
      refine k_ret ?_
      have m : Mem W G_193 w H := Mem.drop (H' := [Itm.box b_2 27 [v0_0]]) m
      obtain rfl := sj hs_101
      obtain rfl := hq_102 _ rfl
      obtain rfl := sj hd
      exact ⟨[(.bool false)], ⟨f.get _ _ rfl, trivial⟩, f.defers, _, [], (GLe.trans hl_6 (GLe.trans hl_107 hl_194)), m, rfl, rfl⟩
     ·refine k_false f rfl hc_195 ?_
      refine k_skip ?_
      refine k_region ?_
      refine l_mv f rfl rfl fun a f => ?_
      refine l_in f rfl rfl rfl b_add fun a f => ?_
      refine l_as f rfl rfl fun a f => ?_
      refine l_nil ?_
      obtain rfl := sj hs_101
      exact ⟨_, rfl, _, rfl, _, (GLe.trans hl_107 hl_194), f.weak ⟨rfl, rfl, rfl, trivial⟩, m⟩
    ·intro K_177
     rcases cond_some hj_179 with ⟨hc_163, hj_179⟩ | ⟨hc_163, hj_179⟩
     ·refine q_ng 8 17 rfl (by kernel_rfl) f rfl rfl hc_163 rfl fun a f => ?_
      refine q_ng 9 17 rfl (by kernel_rfl) f rfl rfl hc_163 rfl fun a f => ?_
      refine q_ng 10 17 rfl (by kernel_rfl) f rfl rfl hc_163 rfl fun a f => ?_
      refine q_ng 11 17 rfl (by kernel_rfl) f rfl rfl hc_163 rfl fun a f => ?_
      refine q_ng 12 17 rfl (by kernel_rfl) f rfl rfl hc_163 rfl fun a f => ?_
      refine q_ng 13 17 rfl (by kernel_rfl) f rfl rfl hc_163 rfl fun a f => ?_
      refine q_ng 14 17 rfl (by kernel_rfl) f rfl rfl hc_163 rfl fun a f => ?_
      refine q_ng 15 17 rfl (by kernel_rfl) f rfl rfl hc_163 rfl fun a f => ?_
      refine q_p 16 17 rfl (by kernel_rfl) f rfl rfl rfl (fun _ => r_pickT (f.eval rfl) hc_163 (f.eval rfl)) fun a f => ?_
      obtain rfl := sj hj_179
      exact K_177 _ (f.weak ⟨rfl, rfl, rfl, rfl, rfl, rfl, rfl, rfl, rfl, rfl, rfl, rfl, rfl, trivial⟩)
     ·refine q_mv 8 17 rfl (by kernel_rfl) f (wanted_of f rfl rfl rfl hc_163) rfl rfl fun a f => ?_
      refine q_mv 9 17 rfl (by kernel_rfl) f (wanted_of f rfl rfl rfl hc_163) rfl rfl fun a f => ?_
      obtain ⟨l_180, hx_181, hj_179⟩ := bind_some hj_179
      refine q_slice (i := 10) 17 T36 h1 hx_181 rfl (by kernel_rfl) rfl f (wanted_of f rfl rfl rfl hc_163) rfl rfl (.inl ⟨rfl, rfl⟩) (.inr ⟨_, _, rfl, rfl⟩) fun v_182 a h_183 f => ?_
      refine q_mv 11 17 rfl (by kernel_rfl) f (wanted_of f rfl rfl rfl hc_163) rfl rfl fun a f => ?_
      refine q_mv 12 17 rfl (by kernel_rfl) f (wanted_of f rfl rfl rfl hc_163) rfl rfl fun a f => ?_
      obtain ⟨e_184, he_185, hj_179⟩ := bind_some hj_179
      refine q_at (i := 13) 17 T36 h1 he_185 rfl (by kernel_rfl) rfl f (wanted_of f rfl rfl rfl hc_163) rfl rfl rfl fun p_186 c_187 a g_188 h_189 f => ?_
      subst h_189
      refine q_loadAt (i := 14) 17 Pl2 g_188 rfl (by kernel_rfl) rfl f (wanted_of f rfl rfl rfl hc_163) rfl rfl fun a f => ?_
      obtain ⟨y_190, hy_191, hj_179⟩ := bind_some hj_179
      refine q_call (i := 15) 17 rfl (by kernel_rfl) rfl f (wanted_of f rfl rfl rfl hc_163) rfl rfl Tryd.call64 (fun _ _ w hG_192 m => Wk.spec_l1Has m (RSl.mono (RI.mono _) _ _ _ _ hG_192 h_183) hy_191) fun a f => ?_
      refine q_p 16 17 rfl (by kernel_rfl) f rfl rfl rfl (fun _ => r_pickF (f.eval rfl) hc_163 (f.eval rfl)) fun a f => ?_
      obtain rfl := sj hj_179
      exact K_177 _ (f.weak ⟨rfl, rfl, rfl, rfl, rfl, rfl, rfl, rfl, rfl, rfl, rfl, rfl, rfl, trivial⟩)
   ·refine k_false f rfl hc_153 ?_
    refine k_exit rfl ?_
    have m : Mem W G_105 w H := Mem.drop (H' := [Itm.box b_2 27 [v0_0]]) m
    obtain rfl := sj hs_101
    obtain rfl := hq_102 _ rfl
    exact ⟨_, rfl, _, hl_107, f.weak trivial, m⟩
  ·rintro a w ⟨_, rfl, G_151, hl_152, f, m⟩
   refine k_seq (k_region ?_)
   refine l_as f rfl rfl fun a f => ?_
   refine l_nil ?_
   refine k_ret ?_
   obtain rfl := sj hd
   exact ⟨[(.bool true)], ⟨f.get _ _ rfl, trivial⟩, f.defers, _, [], (GLe.trans hl_6 hl_152), m, rfl, rfl⟩

theorem Wk.spec_OrderOk {W w : World} {G : GH} {H : List Itm} {v0_0 : Value} {v1 : Value} {x0_0 : (List (List Int))} {x1 : (List Int)} (m : Mem W G w (H)) (h0_0 : RSl (RSl (RI .i64)) G v0_0 x0_0) (h1 : RSl (RI .i64) G v1 x1) {y : Bool} (hd : D.spec_OrderOk x0_0 x1 = some y) :
  Calls Tryd.prog 18 #[(.agg #[v0_0]), v1] w (Res W G H (fun _ Ho v => Ho = [] ∧ v = (.bool y))) := by
 refine calls_b (args := [(.agg #[v0_0]), v1]) (N := 12) [.tmp 4] Tryd.func18 rfl rfl (Nat.le_of_ble_eq_true rfl) rfl fun a f => ?_
 unfold D.spec_OrderOk at hd
 refine k_seq (k_region ?_)
 refine l_box (cs := [v0_0]) m f rfl rfl rfl fun b_2 w a m f => ?_
 refine l_as f rfl rfl fun a f => ?_
 refine l_nil (k_seq (k_region ?_))
 refine l_boxAgg 0 0 (ds := [v0_0]) m Ag27 f rfl rfl rfl rfl rfl fun a f => ?_
 obtain ⟨y_3, hy_4, hd⟩ := bind_some hd
 refine l_res f rfl rfl Tryd.call23 (Wk.spec_GraphOk m h0_0 hy_4) fun v_8 G_5 Ho_9 w hl_6 m hQ_7 a f => ?_
 obtain ⟨rfl, rfl⟩ := hQ_7
 have h0_0 := RSl.mono (RSl.mono (RI.mono _)) _ _ _ _ hl_6 h0_0
 have h1 := RSl.mono (RI.mono _) _ _ _ _ hl_6 h1
 refine l_mv f rfl rfl fun a f => ?_
 obtain ⟨b_27, hj_28, hd⟩ := bind_some hd
 refine l_cut 4 (fun a w => ∃ G_25, GLe G_5 G_25 ∧ Mem W G_25 w (Itm.box b_2 27 [v0_0] :: H) ∧ Fr a 12 [(0, (.agg #[v0_0])), (1, v1), (2, (.pointer (some ⟨b_2, 0, none⟩))), (5, (.agg #[v0_0])), (6, (.bool y_3)), (7, (.bool y_3)), (11, (.bool b_27))]) ?_ ?_
 ·rcases cond_some hj_28 with ⟨hc_10, hj_28⟩ | ⟨hc_10, hj_28⟩
  ·refine l_run f rfl rfl hc_10 ?_
   refine l_boxAgg 0 0 (ds := [v0_0]) m Ag27 f rfl rfl rfl rfl rfl fun a f => ?_
   refine l_run f rfl rfl hc_10 ?_
   refine l_mv f rfl rfl fun a f => ?_
   refine l_run f rfl rfl hc_10 ?_
   obtain ⟨y_29, hy_30, hj_28⟩ := bind_some hj_28
   refine l_res f rfl rfl Tryd.call56 (Wk.spec_l1Order m h0_0 h1 hy_30) fun v_34 G_31 Ho_35 w hl_32 m hQ_33 a f => ?_
   obtain ⟨rfl, rfl⟩ := hQ_33
   have h0_0 := RSl.mono (RSl.mono (RI.mono _)) _ _ _ _ hl_32 h0_0
   have h1 := RSl.mono (RI.mono _) _ _ _ _ hl_32 h1
   refine l_op f rfl rfl rfl (r_pickT (f.eval rfl) hc_10 (f.eval rfl)) fun a f => ?_
   obtain rfl := sj hj_28
   exact ⟨_, hl_32, m, f.weak ⟨rfl, rfl, rfl, rfl, rfl, rfl, rfl, trivial⟩⟩
  ·refine l_not' f rfl rfl rfl hc_10 fun a f => ?_
   refine l_not' f rfl rfl rfl hc_10 fun a f => ?_
   refine l_not' f rfl rfl rfl hc_10 fun a f => ?_
   refine l_op f rfl rfl rfl (r_pickF (f.eval rfl) hc_10 (f.eval rfl)) fun a f => ?_
   obtain rfl := sj hj_28
   exact ⟨_, (GLe.refl _), m, f.weak ⟨rfl, rfl, rfl, rfl, rfl, rfl, rfl, trivial⟩⟩
 ·rintro a w ⟨G_25, hl_26, m, f⟩
  have h0_0 := RSl.mono (RSl.mono (RI.mono _)) _ _ _ _ hl_26 h0_0
  have h1 := RSl.mono (RI.mono _) _ _ _ _ hl_26 h1
  refine l_as f rfl rfl fun a f => ?_
  refine l_nil ?_
  refine k_ret ?_
  have m : Mem W G_25 w H := Mem.drop (H' := [Itm.box b_2 27 [v0_0]]) m
  obtain rfl := sj hd
  exact ⟨[(.bool b_27)], ⟨f.get _ _ rfl, trivial⟩, f.defers, _, [], (GLe.trans hl_6 hl_26), m, rfl, rfl⟩

theorem Wk.impl_SetOk {W w : World} {G : GH} {H : List Itm} {v0_0 : Value} {v1 : Value} {x0_0 : (List (List Int))} {x1 : (List Int)} (m : Mem W G w (H)) (h0_0 : RSl (RSl (RI .i64)) G v0_0 x0_0) (h1 : RSl (RI .i64) G v1 x1) {y : Bool} (hd : D.impl_SetOk x0_0 x1 = some y) :
  Calls Tryd.prog 21 #[(.agg #[v0_0]), v1] w (Res W G H (fun _ Ho v => Ho = [] ∧ v = (.bool y))) := by
 refine calls_b (args := [(.agg #[v0_0]), v1]) (N := 14) [.tmp 4] Tryd.func21 rfl rfl (Nat.le_of_ble_eq_true rfl) rfl fun a f => ?_
 unfold D.impl_SetOk at hd
 refine k_seq (k_region ?_)
 refine l_box (cs := [v0_0]) m f rfl rfl rfl fun b_2 w a m f => ?_
 refine l_as f rfl rfl fun a f => ?_
 refine l_nil (k_seq (k_region ?_))
 refine l_boxAgg 0 0 (ds := [v0_0]) m Ag27 f rfl rfl rfl rfl rfl fun a f => ?_
 obtain ⟨y_3, hy_4, hd⟩ := bind_some hd
 refine l_res f rfl rfl Tryd.call40 (Wk.impl_GraphOk m h0_0 hy_4) fun v_8 G_5 Ho_9 w hl_6 m hQ_7 a f => ?_
 obtain ⟨rfl, rfl⟩ := hQ_7
 have h0_0 := RSl.mono (RSl.mono (RI.mono _)) _ _ _ _ hl_6 h0_0
 have h1 := RSl.mono (RI.mono _) _ _ _ _ hl_6 h1
 refine l_mv f rfl rfl fun a f => ?_
 obtain ⟨b_27, hj_28, hd⟩ := bind_some hd
 refine l_cut 6 (fun a w => ∃ G_25, GLe G_5 G_25 ∧ Mem W G_25 w (Itm.box b_2 27 [v0_0] :: H) ∧ Fr a 14 [(0, (.agg #[v0_0])), (1, v1), (2, (.pointer (some ⟨b_2, 0, none⟩))), (5, (.agg #[v0_0])), (6, (.bool y_3)), (7, (.bool y_3)), (13, (.bool b_27))]) ?_ ?_
 ·rcases cond_some hj_28 with ⟨hc_10, hj_28⟩ | ⟨hc_10, hj_28⟩
  ·refine l_run f rfl rfl hc_10 ?_
   refine l_mv f rfl rfl fun a f => ?_
   refine l_run f rfl rfl hc_10 ?_
   refine l_fieldAddr Tryd.underlying27 rfl Tryd.sizeOf22 (by decide) f rfl rfl fun a f => ?_
   refine l_run f rfl rfl hc_10 ?_
   refine l_boxCell 0 0 m Pl22 f rfl rfl rfl rfl fun a f => ?_
   refine l_run f rfl rfl hc_10 ?_
   refine l_len Tryd.underlying22 f rfl rfl h0_0 fun a f => ?_
   refine l_run f rfl rfl hc_10 ?_
   obtain ⟨y_29, hy_30, hj_28⟩ := bind_some hj_28
   refine l_res f rfl rfl Tryd.call55 (Wk.impl_increasing m h1 hy_30) fun v_34 G_31 Ho_35 w hl_32 m hQ_33 a f => ?_
   obtain ⟨rfl, rfl⟩ := hQ_33
   have h0_0 := RSl.mono (RSl.mono (RI.mono _)) _ _ _ _ hl_32 h0_0
   have h1 := RSl.mono (RI.mono _) _ _ _ _ hl_32 h1
   refine l_op f rfl rfl rfl (r_pickT (f.eval rfl) hc_10 (f.eval rfl)) fun a f => ?_
   obtain rfl := sj hj_28
   exact ⟨_, hl_32, m, f.weak ⟨rfl, rfl, rfl, rfl, rfl, rfl, rfl, trivial⟩⟩
  ·refine l_not' f rfl rfl rfl hc_10 fun a f => ?_
   refine l_not' f rfl rfl rfl hc_10 fun a f => ?_
   refine l_not' f rfl rfl rfl hc_10 fun a f => ?_
   refine l_not' f rfl rfl rfl hc_10 fun a f => ?_
   refine l_not' f rfl rfl rfl hc_10 fun a f => ?_
   refine l_op f rfl rfl rfl (r_pickF (f.eval rfl) hc_10 (f.eval rfl)) fun a f => ?_
   obtain rfl := sj hj_28
   exact ⟨_, (GLe.refl _), m, f.weak ⟨rfl, rfl, rfl, rfl, rfl, rfl, rfl, trivial⟩⟩
 ·rintro a w ⟨G_25, hl_26, m, f⟩
  have h0_0 := RSl.mono (RSl.mono (RI.mono _)) _ _ _ _ hl_26 h0_0
  have h1 := RSl.mono (RI.mono _) _ _ _ _ hl_26 h1
  refine l_as f rfl rfl fun a f => ?_
  refine l_nil ?_
  refine k_ret ?_
  have m : Mem W G_25 w H := Mem.drop (H' := [Itm.box b_2 27 [v0_0]]) m
  obtain rfl := sj hd
  exact ⟨[(.bool b_27)], ⟨f.get _ _ rfl, trivial⟩, f.defers, _, [], (GLe.trans hl_6 hl_26), m, rfl, rfl⟩

end Go.Proofs.YtocakchlhemmeaaDoor
