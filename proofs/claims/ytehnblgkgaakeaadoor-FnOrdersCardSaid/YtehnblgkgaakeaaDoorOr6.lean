/- Parts of the proof: EFW. -/
import Derived.Test.YtehnblgkgaakeaaDoorOr5
import Derived.Test.YtehnblgkgaakeaaDoorProg
import Derived.KernelRfl
set_option linter.unusedVariables false
set_option linter.unusedSimpArgs false
set_option linter.unusedSectionVars false
set_option maxRecDepth 100000
namespace Go.Proofs.YtehnblgkgaakeaaDoor
open Go Go.Sx


theorem Wk.impl_DegeneracyOf {W w : World} {G : GH} {H : List Itm} {v0_0 : Value} {x0_0 : (List (List Int))} (hW : TabW W) (m : Mem W G w (H)) (h0_0 : RSl (RSl (RI .i64)) G v0_0 x0_0) {y : Int} (hd : D.impl_DegeneracyOf x0_0 = some y) :
  Calls Tryd.prog 30 #[(.agg #[v0_0])] w (Res W G H (fun _ Ho v => Ho = [] ∧ v = (.int .i64 y))) := by
 refine calls_b (args := [(.agg #[v0_0])]) (N := 58) [.tmp 2] Tryd.func30 rfl rfl (Nat.le_of_ble_eq_true rfl) rfl (fun a f => ?_)
 unfold D.impl_DegeneracyOf at hd
 refine k_seq ?_
 refine k_region ?_
 refine l_box (cs := [v0_0]) m f rfl rfl rfl (fun b_2 w a m f => ?_)
 refine l_op f rfl rfl rfl (r_assign (f.eval rfl)) (fun a f => ?_)
 refine l_nil ?_
 refine k_seq ?_
 refine k_seq ?_
 refine k_region ?_
 refine l_boxAgg 0 0 (ds := [v0_0]) m Ag29 f rfl rfl rfl rfl rfl (fun a f => ?_)
 obtain ⟨y_3, hy_4, hd⟩ := bind_some hd
 refine l_res f rfl rfl Tryd.call55 (Wk.impl_GraphOk m h0_0 hy_4) (fun v_8 G_5 Ho_9 w hl_6 m hQ_7 a f => ?_)
 obtain ⟨rfl, rfl⟩ := hQ_7
 have h0_0 := RSl.mono (RSl.mono (RI.mono _)) _ _ _ _ hl_6 h0_0
 have m : Mem W G_5 w (Itm.box b_2 29 [v0_0] :: H) := m
 refine l_op f rfl rfl rfl (r_not (f.eval rfl)) (fun a f => ?_)
 refine l_nil ?_
 rcases cond_some hd with ⟨hc_10, hd⟩ | ⟨hc_10, hd⟩
 ·refine k_true f rfl hc_10 ?_
  refine k_seq ?_
  refine k_region ?_
  refine l_op f rfl rfl rfl (r_assign (f.eval rfl)) (fun a f => ?_)
  refine l_nil ?_
  refine k_ret ?_
  have m : Mem W G_5 w H := Mem.drop (H' := [Itm.box b_2 29 [v0_0]]) m
  obtain rfl := Option.some.inj hd
  exact ⟨[(.int .i64 (-1))], ⟨f.get _ _ rfl, trivial⟩, f.defers, _, [], hl_6, m, rfl, rfl⟩
 ·refine k_false f rfl hc_10 ?_
  refine k_skip ?_
  refine k_seq ?_
  refine k_region ?_
  refine l_boxAgg 0 0 (ds := [v0_0]) m Ag29 f rfl rfl rfl rfl rfl (fun a f => ?_)
  obtain ⟨y_11, hy_12, hd⟩ := bind_some hd
  refine l_res f rfl rfl Tryd.call46 (Wk.impl_netsOf m h0_0 hy_12) (fun v_16 G_13 Ho_17 w hl_14 m hQ_15 a f => ?_)
  obtain ⟨v_18, it_19, rfl, rfl, o_20⟩ := hQ_15
  have h0_0 := RSl.mono (RSl.mono (RI.mono _)) _ _ _ _ hl_14 h0_0
  have m : Mem W G_13 w (it_19 :: Itm.box b_2 29 [v0_0] :: H) := m
  refine l_op f rfl rfl rfl (r_assign (f.eval rfl)) (fun a f => ?_)
  refine l_op f rfl rfl rfl (r_assign (f.eval rfl)) (fun a f => ?_)
  refine l_nil ?_
  refine k_seq ?_
  refine k_seq ?_
  refine k_region ?_
  refine l_op f rfl rfl rfl (r_move (f.eval rfl)) (fun a f => ?_)
  obtain ⟨y_22, hy_23, hd⟩ := bind_some hd
  refine l_res f rfl rfl Tryd.call84 (Ow.lendCall (RI.mono _) 0 o_20 m rfl (fun G_24 hl_25 m h_26 => Wk.impl_nets_all m h_26 hy_23) (fun _ _ _ _ h => h)) (fun v_30 G_27 Ho_31 w hl_28 m hQ_29 a f => ?_)
  obtain ⟨rfl, rfl⟩ := hQ_29
  have h0_0 := RSl.mono (RSl.mono (RI.mono _)) _ _ _ _ hl_28 h0_0
  have o_20 := Ow.mono (RI.mono _) hl_28 o_20
  have m : Mem W G_27 w (it_19 :: Itm.box b_2 29 [v0_0] :: H) := m
  refine l_op f rfl rfl rfl (r_assign (f.eval rfl)) (fun a f => ?_)
  refine l_nil ?_
  obtain ⟨q_369, hl_370, hd⟩ := bind_some hd
  refine k_cut (fun a w => ∃ x_547 : Int, x_547 = q_369 ∧ ∃ (G_546 : GH), GLe G_27 G_546 ∧ Fr a 58 [(4, (.int .i64 x_547))] ∧ Mem W G_546 w (H)) ?_ ?_
  ·refine k_block ?_
   have m : Mem W G_27 w (it_19 :: H) := m.eraseAt 1
   refine k_loop (fun s_373 a w => ∃ x_376 : Int, ∃ x_377 : Int, (x_376, x_377) = s_373 ∧ ∃ (G_375 : GH), GLe G_27 G_375 ∧ Fr a 58 [(3, v_18), (4, (.int .i64 x_376)), (5, (.int .u32 x_377))] ∧ Mem W G_375 w (it_19 :: H)) hl_370 ⟨_, _, rfl, _, (GLe.refl _), f.weak ⟨rfl, rfl, rfl, trivial⟩, m⟩ ?_
   clear hl_370 f m
   rintro s_373 o_374 hs_371 hq_372 a w ⟨x_376, x_377, rfl, G_375, hl_378, f, m⟩
   have o_20 := Ow.mono (RI.mono _) hl_378 o_20
   refine k_seq ?_
   refine k_seq ?_
   refine k_region ?_
   refine l_op f rfl rfl rfl (r_move (f.eval rfl)) (fun a f => ?_)
   refine l_op f rfl rfl rfl (r_int (f.eval rfl) (f.eval rfl) b_neq) (fun a f => ?_)
   refine l_nil ?_
   rcases cond_some hs_371 with ⟨hc_549, hs_371⟩ | ⟨hc_549, hs_371⟩
   ·refine k_true f rfl hc_549 ?_
    refine k_skip ?_
    refine k_block ?_
    refine k_seq ?_
    refine k_region ?_
    refine l_op f rfl rfl rfl (r_move (f.eval rfl)) (fun a f => ?_)
    obtain ⟨y_550, hy_551, hs_371⟩ := bind_some hs_371
    refine l_res f rfl rfl Tryd.call85 (Wk.impl_vset_least hW m  hy_551) (fun v_555 G_552 Ho_556 w hl_553 m hQ_554 a f => ?_)
    obtain ⟨rfl, rfl⟩ := hQ_554
    have o_20 := Ow.mono (RI.mono _) hl_553 o_20
    have m : Mem W G_552 w (it_19 :: H) := m
    refine l_op f rfl rfl rfl (r_assign (f.eval rfl)) (fun a f => ?_)
    refine l_nil ?_
    refine k_seq ?_
    refine k_seq ?_
    refine k_region ?_
    refine l_op f rfl rfl rfl (r_move (f.eval rfl)) (fun a f => ?_)
    obtain ⟨y_557, hy_558, hs_371⟩ := bind_some hs_371
    refine l_res f rfl rfl Tryd.call62 (Wk.impl_vset_list hW m  hy_558) (fun v_562 G_559 Ho_563 w hl_560 m hQ_561 a f => ?_)
    obtain ⟨v_564, it_565, rfl, rfl, o_566⟩ := hQ_561
    have o_20 := Ow.mono (RI.mono _) hl_560 o_20
    have m : Mem W G_559 w (it_565 :: it_19 :: H) := m
    refine l_own_len 0 m o_566 rfl Tryd.underlying63 f rfl rfl (fun a f => ?_)
    refine l_op f rfl rfl rfl (r_move (f.eval rfl)) (fun a f => ?_)
    refine l_nil ?_
    obtain ⟨q_627, hl_628, hs_371⟩ := bind_some hs_371
    refine k_cut (fun a w => ∃ x_666 : Int, x_666 = q_627 ∧ ∃ (G_665 : GH), GLe G_559 G_665 ∧ Fr a 58 [(3, v_18), (4, (.int .i64 x_376)), (5, (.int .u32 x_377)), (6, (.int .i64 x_666))] ∧ Mem W G_665 w (it_19 :: H)) ?_ ?_
    ·refine k_block ?_
     have m : Mem W G_559 w (it_19 :: it_565 :: H) := m.front 1 rfl
     refine k_loop (fun s_631 a w => ∃ x_634 : Int, ∃ x_635 : Int, (x_634, x_635) = s_631 ∧ ∃ (G_633 : GH), GLe G_559 G_633 ∧ Fr a 58 [(3, v_18), (4, (.int .i64 x_376)), (5, (.int .u32 x_377)), (6, (.int .i64 x_634)), (21, v_564), (22, (.int .i64 (y_557.length : Int))), (23, (.int .i64 x_635))] ∧ Mem W G_633 w (it_19 :: it_565 :: H)) hl_628 ⟨_, _, rfl, _, (GLe.refl _), f.weak ⟨rfl, rfl, rfl, rfl, rfl, rfl, rfl, trivial⟩, m⟩ ?_
     clear hl_628 f m
     rintro s_631 o_632 hs_629 hq_630 a w ⟨x_634, x_635, rfl, G_633, hl_636, f, m⟩
     have o_20 := Ow.mono (RI.mono _) hl_636 o_20
     have o_566 := Ow.mono (RI.mono _) hl_636 o_566
     refine k_seq ?_
     refine k_region ?_
     refine l_op f rfl rfl rfl (r_int (f.eval rfl) (f.eval rfl) b_lss) (fun a f => ?_)
     refine l_nil ?_
     refine k_seq ?_
     rcases cond_some hs_629 with ⟨hc_668, hs_629⟩ | ⟨hc_668, hs_629⟩
     ·refine k_true f rfl hc_668 ?_
      refine k_skip ?_
      refine k_seq ?_
      refine k_block ?_
      refine k_seq ?_
      refine k_region ?_
      obtain ⟨e_669, he_670, hs_629⟩ := bind_some hs_629
      refine l_own_at 1 m o_566 rfl T63 f rfl rfl rfl he_670 (fun p_671 a ha_672 f => ?_)
      refine l_own_load 1 m o_566 rfl Pl3 f rfl rfl ha_672 he_670 (fun c_673 a h_674 f => ?_)
      subst h_674
      refine l_op f rfl rfl rfl (r_assign (f.eval rfl)) (fun a f => ?_)
      refine l_nil ?_
      refine k_seq ?_
      refine k_draw 15 Follows (by kernel_rfl) m ?_
      refine q_op (i := 0) (listed' := #[true, false, false, false, false, false, false, false, false, false, false, false, false, false, false]) 15 rfl (by kernel_rfl) rfl f rfl rfl rfl (fun _ _ _ _ _ => r_move (f.eval rfl)) (fun a f => ?_)
      refine q_op (i := 1) (listed' := #[true, true, false, false, false, false, false, false, false, false, false, false, false, false, false]) 15 rfl (by kernel_rfl) rfl f rfl rfl rfl (fun _ _ _ _ _ => r_move (f.eval rfl)) (fun a f => ?_)
      obtain ⟨e_675, he_676, hs_629⟩ := bind_some hs_629
      refine q_own_at (i := 2) (listed' := #[true, true, true, false, false, false, false, false, false, false, false, false, false, false, false]) 15 0 m o_20 rfl T61 he_676 rfl (by kernel_rfl) rfl f rfl rfl rfl rfl (fun p_677 a ha_678 f => ?_)
      refine q_own_load (i := 3) (listed' := #[true, true, true, true, false, false, false, false, false, false, false, false, false, false, false]) 15 0 o_20 rfl Pl66 ha_678 he_676 rfl (by kernel_rfl) rfl f rfl rfl rfl (fun c_679 a h_680 f => ?_)
      subst h_680
      refine q_op (i := 4) (listed' := #[true, true, true, true, true, false, false, false, false, false, false, false, false, false, false]) 15 rfl (by kernel_rfl) rfl f rfl rfl rfl (fun _ _ _ _ _ => r_move (f.eval rfl)) (fun a f => ?_)
      refine q_op (i := 5) (listed' := #[true, true, true, true, true, true, false, false, false, false, false, false, false, false, false]) 15 rfl (by kernel_rfl) rfl f rfl rfl rfl (fun _ _ _ _ _ => r_int (f.eval rfl) (f.eval rfl) b_and) (fun a f => ?_)
      obtain ⟨y_681, hy_682, hs_629⟩ := bind_some hs_629
      refine q_call (i := 6) (listed' := #[true, true, true, true, true, true, true, false, false, false, false, false, false, false, false]) 15 rfl (by kernel_rfl) rfl f rfl rfl rfl Tryd.call50 (fun _ _ w hG_683 m => Wk.impl_vset_size m  hy_682) (fun a f => ?_)
      refine q_op (i := 7) (listed' := #[true, true, true, true, true, true, true, true, false, false, false, false, false, false, false]) 15 rfl (by kernel_rfl) rfl f rfl rfl rfl (fun _ _ _ _ _ => r_move (f.eval rfl)) (fun a f => ?_)
      refine q_op (i := 8) (listed' := #[true, true, true, true, true, true, true, true, true, false, false, false, false, false, false]) 15 rfl (by kernel_rfl) rfl f rfl rfl rfl (fun _ _ _ _ _ => r_move (f.eval rfl)) (fun a f => ?_)
      obtain ⟨e_684, he_685, hs_629⟩ := bind_some hs_629
      refine q_own_at (i := 9) (listed' := #[true, true, true, true, true, true, true, true, true, true, false, false, false, false, false]) 15 0 m o_20 rfl T61 he_685 rfl (by kernel_rfl) rfl f rfl rfl rfl rfl (fun p_686 a ha_687 f => ?_)
      refine q_own_load (i := 10) (listed' := #[true, true, true, true, true, true, true, true, true, true, true, false, false, false, false]) 15 0 o_20 rfl Pl66 ha_687 he_685 rfl (by kernel_rfl) rfl f rfl rfl rfl (fun c_688 a h_689 f => ?_)
      subst h_689
      refine q_op (i := 11) (listed' := #[true, true, true, true, true, true, true, true, true, true, true, true, false, false, false]) 15 rfl (by kernel_rfl) rfl f rfl rfl rfl (fun _ _ _ _ _ => r_move (f.eval rfl)) (fun a f => ?_)
      refine q_op (i := 12) (listed' := #[true, true, true, true, true, true, true, true, true, true, true, true, true, false, false]) 15 rfl (by kernel_rfl) rfl f rfl rfl rfl (fun _ _ _ _ _ => r_int (f.eval rfl) (f.eval rfl) b_and) (fun a f => ?_)
      obtain ⟨y_690, hy_691, hs_629⟩ := bind_some hs_629
      refine q_call (i := 13) (listed' := #[true, true, true, true, true, true, true, true, true, true, true, true, true, true, false]) 15 rfl (by kernel_rfl) rfl f rfl rfl rfl Tryd.call50 (fun _ _ w hG_692 m => Wk.impl_vset_size m  hy_691) (fun a f => ?_)
      refine q_op (i := 14) (listed' := #[true, true, true, true, true, true, true, true, true, true, true, true, true, true, true]) 15 rfl (by kernel_rfl) rfl f rfl rfl rfl (fun _ _ _ _ _ => r_int (f.eval rfl) (f.eval rfl) b_lss) (fun a f => ?_)
      refine q_end (fun G_693 w hl_694 m => ?_)
      have o_20 := Ow.mono (RI.mono _) hl_694 o_20
      have o_566 := Ow.mono (RI.mono _) hl_694 o_566
      have m : Mem W G_693 w (it_19 :: it_565 :: H) := m
      refine l_nil ?_
      rcases cond_some hs_629 with ⟨hc_695, hs_629⟩ | ⟨hc_695, hs_629⟩
      ·refine k_true f rfl hc_695 ?_
       refine k_region ?_
       refine l_op f rfl rfl rfl (r_move (f.eval rfl)) (fun a f => ?_)
       refine l_op f rfl rfl rfl (r_assign (f.eval rfl)) (fun a f => ?_)
       refine l_nil ?_
       refine k_region ?_
       refine l_op f rfl rfl rfl (r_int (f.eval rfl) (f.eval rfl) b_add) (fun a f => ?_)
       refine l_op f rfl rfl rfl (r_move (f.eval rfl)) (fun a f => ?_)
       refine l_nil ?_
       have m : Mem W G_693 w (it_565 :: it_19 :: H) := m.front 1 rfl
       have m : Mem W G_693 w (it_19 :: it_565 :: H) := m.front 1 rfl
       obtain rfl := Option.some.inj hs_629
       exact ⟨_, rfl, _, _, rfl, _, (GLe.trans hl_636 hl_694), f.weak ⟨rfl, rfl, rfl, rfl, rfl, rfl, rfl, trivial⟩, m⟩
      ·refine k_false f rfl hc_695 ?_
       refine k_skip ?_
       refine k_region ?_
       refine l_op f rfl rfl rfl (r_int (f.eval rfl) (f.eval rfl) b_add) (fun a f => ?_)
       refine l_op f rfl rfl rfl (r_move (f.eval rfl)) (fun a f => ?_)
       refine l_nil ?_
       have m : Mem W G_693 w (it_565 :: it_19 :: H) := m.front 1 rfl
       have m : Mem W G_693 w (it_19 :: it_565 :: H) := m.front 1 rfl
       obtain rfl := Option.some.inj hs_629
       exact ⟨_, rfl, _, _, rfl, _, (GLe.trans hl_636 hl_694), f.weak ⟨rfl, rfl, rfl, rfl, rfl, rfl, rfl, trivial⟩, m⟩
     ·refine k_false f rfl hc_668 ?_
      refine k_exit rfl ?_
      have m : Mem W G_633 w (it_19 :: H) := m.eraseAt 1
      obtain rfl := Option.some.inj hs_629
      obtain rfl := hq_630 _ rfl
      exact ⟨_, rfl, _, hl_636, f.weak ⟨rfl, rfl, rfl, rfl, trivial⟩, m⟩
    ·rintro a w ⟨x_666, rfl, G_665, hl_667, f, m⟩
     have o_20 := Ow.mono (RI.mono _) hl_667 o_20
     refine k_seq ?_
     refine k_region ?_
     refine l_op f rfl rfl rfl (r_move (f.eval rfl)) (fun a f => ?_)
     refine l_op f rfl rfl rfl (r_move (f.eval rfl)) (fun a f => ?_)
     refine l_op f rfl rfl rfl (r_move (f.eval rfl)) (fun a f => ?_)
     obtain ⟨e_696, he_697, hs_371⟩ := bind_some hs_371
     refine l_own_at 0 m o_20 rfl T61 f rfl rfl rfl he_697 (fun p_698 a ha_699 f => ?_)
     refine l_own_load 0 m o_20 rfl Pl66 f rfl rfl ha_699 he_697 (fun c_700 a h_701 f => ?_)
     subst h_701
     refine l_op f rfl rfl rfl (r_move (f.eval rfl)) (fun a f => ?_)
     refine l_op f rfl rfl rfl (r_int (f.eval rfl) (f.eval rfl) b_and) (fun a f => ?_)
     obtain ⟨y_702, hy_703, hs_371⟩ := bind_some hs_371
     refine l_res f rfl rfl Tryd.call50 (Wk.impl_vset_size m  hy_703) (fun v_707 G_704 Ho_708 w hl_705 m hQ_706 a f => ?_)
     obtain ⟨rfl, rfl⟩ := hQ_706
     have o_20 := Ow.mono (RI.mono _) hl_705 o_20
     have m : Mem W G_704 w (it_19 :: H) := m
     refine l_op f rfl rfl rfl (r_max2 (f.eval rfl) (f.eval rfl)) (fun a f => ?_)
     refine l_op f rfl rfl rfl (r_assign (f.eval rfl)) (fun a f => ?_)
     refine l_nil ?_
     refine k_region ?_
     refine l_op f rfl rfl rfl (r_move (f.eval rfl)) (fun a f => ?_)
     refine l_op f rfl rfl rfl (r_move (f.eval rfl)) (fun a f => ?_)
     obtain ⟨y_709, hy_710, hs_371⟩ := bind_some hs_371
     refine l_res f rfl rfl Tryd.call48 (Wk.impl_one m  hy_710) (fun v_714 G_711 Ho_715 w hl_712 m hQ_713 a f => ?_)
     obtain ⟨rfl, rfl⟩ := hQ_713
     have o_20 := Ow.mono (RI.mono _) hl_712 o_20
     have m : Mem W G_711 w (it_19 :: H) := m
     refine l_op f rfl rfl rfl (r_int (f.eval rfl) (f.eval rfl) b_andNot) (fun a f => ?_)
     refine l_op f rfl rfl rfl (r_assign (f.eval rfl)) (fun a f => ?_)
     refine l_nil ?_
     obtain rfl := Option.some.inj hs_371
     exact ⟨_, rfl, _, _, rfl, _, (GLe.trans hl_378 (GLe.trans hl_553 (GLe.trans hl_560 (GLe.trans hl_667 (GLe.trans hl_705 hl_712))))), f.weak ⟨rfl, rfl, rfl, trivial⟩, m⟩
   ·refine k_false f rfl hc_549 ?_
    refine k_exit rfl ?_
    have m : Mem W G_375 w H := Mem.drop (H' := [it_19]) m
    obtain rfl := Option.some.inj hs_371
    obtain rfl := hq_372 _ rfl
    exact ⟨_, rfl, _, hl_378, f.weak ⟨rfl, trivial⟩, m⟩
  ·rintro a w ⟨x_547, rfl, G_546, hl_548, f, m⟩
   refine k_seq ?_
   refine k_region ?_
   refine l_op f rfl rfl rfl (r_move (f.eval rfl)) (fun a f => ?_)
   refine l_op f rfl rfl rfl (r_assign (f.eval rfl)) (fun a f => ?_)
   refine l_nil ?_
   refine k_ret ?_
   obtain rfl := Option.some.inj hd
   exact ⟨[(.int .i64 x_547)], ⟨f.get _ _ rfl, trivial⟩, f.defers, _, [], (GLe.trans hl_6 (GLe.trans hl_14 (GLe.trans hl_28 hl_548))), m, rfl, rfl⟩

theorem Wk.impl_eliminate {W w : World} {G : GH} {H : List Itm} {v0 : Value} {it0 : Itm} {x0 : (List Int)} {x1 : Int} {x2 : Int} (hW : TabW W) (m : Mem W G w (it0 :: H)) (o0 : Ow (RI .u32) 66 G it0 v0 x0) {y : ((List Int))} (hd : D.impl_eliminate x0 x1 x2 = some y) :
  Calls Tryd.prog 119 #[v0, (.int .u32 x1), (.int .i64 x2)] w (Res W G H (fun G' Ho _ => ∃ i0 : Itm, Ho = [i0] ∧ Ow (RI .u32) 66 G' i0 v0 y)) := by
 refine calls_b (args := [v0, (.int .u32 x1), (.int .i64 x2)]) (N := 36) [] Tryd.func119 rfl rfl (Nat.le_of_ble_eq_true rfl) rfl (fun a f => ?_)
 unfold D.impl_eliminate at hd
 refine k_seq ?_
 refine k_draw 10 Follows (by kernel_rfl) m ?_
 refine q_op (i := 0) (listed' := #[true, false, false, false, false, false, false, false, false, false]) 10 rfl (by kernel_rfl) rfl f rfl rfl rfl (fun _ _ _ _ _ => r_move (f.eval rfl)) (fun a f => ?_)
 refine q_op (i := 1) (listed' := #[true, true, false, false, false, false, false, false, false, false]) 10 rfl (by kernel_rfl) rfl f rfl rfl rfl (fun _ _ _ _ _ => r_move (f.eval rfl)) (fun a f => ?_)
 obtain ⟨e_1, he_2, hd⟩ := bind_some hd
 refine q_own_at (i := 2) (listed' := #[true, true, true, false, false, false, false, false, false, false]) 10 0 m o0 rfl T61 he_2 rfl (by kernel_rfl) rfl f rfl rfl rfl rfl (fun p_3 a ha_4 f => ?_)
 refine q_own_load (i := 3) (listed' := #[true, true, true, true, false, false, false, false, false, false]) 10 0 o0 rfl Pl66 ha_4 he_2 rfl (by kernel_rfl) rfl f rfl rfl rfl (fun c_5 a h_6 f => ?_)
 subst h_6
 refine q_op (i := 4) (listed' := #[true, true, true, true, true, false, false, false, false, false]) 10 rfl (by kernel_rfl) rfl f rfl rfl rfl (fun _ _ _ _ _ => r_move (f.eval rfl)) (fun a f => ?_)
 refine q_op (i := 5) (listed' := #[true, true, true, true, true, true, false, false, false, false]) 10 rfl (by kernel_rfl) rfl f rfl rfl rfl (fun _ _ _ _ _ => r_int (f.eval rfl) (f.eval rfl) b_and) (fun a f => ?_)
 refine q_op (i := 6) (listed' := #[true, true, true, true, true, true, true, false, false, false]) 10 rfl (by kernel_rfl) rfl f rfl rfl rfl (fun _ _ _ _ _ => r_move (f.eval rfl)) (fun a f => ?_)
 obtain ⟨y_7, hy_8, hd⟩ := bind_some hd
 refine q_call (i := 7) (listed' := #[true, true, true, true, true, true, true, true, false, false]) 10 rfl (by kernel_rfl) rfl f rfl rfl rfl Tryd.call48 (fun _ _ w hG_9 m => Wk.impl_one m  hy_8) (fun a f => ?_)
 refine q_op (i := 8) (listed' := #[true, true, true, true, true, true, true, true, true, false]) 10 rfl (by kernel_rfl) rfl f rfl rfl rfl (fun _ _ _ _ _ => r_int (f.eval rfl) (f.eval rfl) b_andNot) (fun a f => ?_)
 refine q_op (i := 9) (listed' := #[true, true, true, true, true, true, true, true, true, true]) 10 rfl (by kernel_rfl) rfl f rfl rfl rfl (fun _ _ _ _ _ => r_assign (f.eval rfl)) (fun a f => ?_)
 refine q_end (fun G_10 w hl_11 m => ?_)
 have o0 := Ow.mono (RI.mono _) hl_11 o0
 have m : Mem W G_10 w (it0 :: H) := m
 refine l_nil ?_
 refine k_seq ?_
 refine k_region ?_
 refine l_op f rfl rfl rfl (r_move (f.eval rfl)) (fun a f => ?_)
 obtain ⟨y_12, hy_13, hd⟩ := bind_some hd
 refine l_res f rfl rfl Tryd.call62 (Wk.impl_vset_list hW m  hy_13) (fun v_17 G_14 Ho_18 w hl_15 m hQ_16 a f => ?_)
 obtain ⟨v_19, it_20, rfl, rfl, o_21⟩ := hQ_16
 have o0 := Ow.mono (RI.mono _) hl_15 o0
 have m : Mem W G_14 w (it_20 :: it0 :: H) := m
 refine l_own_len 0 m o_21 rfl Tryd.underlying63 f rfl rfl (fun a f => ?_)
 refine l_op f rfl rfl rfl (r_move (f.eval rfl)) (fun a f => ?_)
 refine l_nil ?_
 obtain ⟨q_76, hl_77, hd⟩ := bind_some hd
 refine k_cut (fun a w => ∃ l_113 : List Int, l_113 = q_76 ∧ ∃ (G_112 : GH) (it_114 : Itm), GLe G_14 G_112 ∧ Fr a 36 [] ∧ Mem W G_112 w (it_114 :: H) ∧ Ow (RI .u32) 66 G_112 it_114 v0 l_113) ?_ ?_
 ·refine k_block ?_
  have m : Mem W G_14 w (it0 :: it_20 :: H) := m.front 1 rfl
  refine k_loop (fun s_80 a w => ∃ l_83 : List Int, ∃ x_86 : Int, (l_83, x_86) = s_80 ∧ ∃ (G_82 : GH) (it_84 : Itm), GLe G_14 G_82 ∧ Fr a 36 [(0, v0), (6, (.int .u32 (iandNot .u32 (iand .u32 e_1 x1) y_7))), (19, v_19), (20, (.int .i64 (y_12.length : Int))), (21, (.int .i64 x_86))] ∧ Mem W G_82 w (it_84 :: it_20 :: H) ∧ Ow (RI .u32) 66 G_82 it_84 v0 l_83) hl_77 ⟨_, _, rfl, _, it0, (GLe.refl _), f.weak ⟨rfl, rfl, rfl, rfl, rfl, trivial⟩, m, o0⟩ ?_
  clear hl_77 f m
  rintro s_80 o_81 hs_78 hq_79 a w ⟨l_83, x_86, rfl, G_82, it_84, hl_87, f, m, o_85⟩
  have o_21 := Ow.mono (RI.mono _) hl_87 o_21
  refine k_seq ?_
  refine k_region ?_
  refine l_op f rfl rfl rfl (r_int (f.eval rfl) (f.eval rfl) b_lss) (fun a f => ?_)
  refine l_nil ?_
  refine k_seq ?_
  rcases cond_some hs_78 with ⟨hc_117, hs_78⟩ | ⟨hc_117, hs_78⟩
  ·refine k_true f rfl hc_117 ?_
   refine k_skip ?_
   refine k_seq ?_
   refine k_block ?_
   refine k_seq ?_
   refine k_region ?_
   obtain ⟨e_118, he_119, hs_78⟩ := bind_some hs_78
   refine l_own_at 1 m o_21 rfl T63 f rfl rfl rfl he_119 (fun p_120 a ha_121 f => ?_)
   refine l_own_load 1 m o_21 rfl Pl3 f rfl rfl ha_121 he_119 (fun c_122 a h_123 f => ?_)
   subst h_123
   refine l_op f rfl rfl rfl (r_assign (f.eval rfl)) (fun a f => ?_)
   refine l_nil ?_
   refine k_draw 10 Follows (by kernel_rfl) m ?_
   refine q_op (i := 0) (listed' := #[true, false, false, false, false, false, false, false, false, false, false]) 10 rfl (by kernel_rfl) rfl f rfl rfl rfl (fun _ _ _ _ _ => r_move (f.eval rfl)) (fun a f => ?_)
   refine q_op (i := 1) (listed' := #[true, true, false, false, false, false, false, false, false, false, false]) 10 rfl (by kernel_rfl) rfl f rfl rfl rfl (fun _ _ _ _ _ => r_move (f.eval rfl)) (fun a f => ?_)
   obtain ⟨e_124, he_125, hs_78⟩ := bind_some hs_78
   refine q_own_at (i := 2) (listed' := #[true, true, true, false, false, false, false, false, false, false, false]) 10 0 m o_85 rfl T61 he_125 rfl (by kernel_rfl) rfl f rfl rfl rfl rfl (fun p_126 a ha_127 f => ?_)
   refine q_own_load (i := 3) (listed' := #[true, true, true, true, false, false, false, false, false, false, false]) 10 0 o_85 rfl Pl66 ha_127 he_125 rfl (by kernel_rfl) rfl f rfl rfl rfl (fun c_128 a h_129 f => ?_)
   subst h_129
   refine q_op (i := 4) (listed' := #[true, true, true, true, true, false, false, false, false, false, false]) 10 rfl (by kernel_rfl) rfl f rfl rfl rfl (fun _ _ _ _ _ => r_move (f.eval rfl)) (fun a f => ?_)
   refine q_op (i := 5) (listed' := #[true, true, true, true, true, true, false, false, false, false, false]) 10 rfl (by kernel_rfl) rfl f rfl rfl rfl (fun _ _ _ _ _ => r_move (f.eval rfl)) (fun a f => ?_)
   obtain ⟨y_130, hy_131, hs_78⟩ := bind_some hs_78
   refine q_call (i := 6) (listed' := #[true, true, true, true, true, true, true, false, false, false, false]) 10 rfl (by kernel_rfl) rfl f rfl rfl rfl Tryd.call48 (fun _ _ w hG_132 m => Wk.impl_one m  hy_131) (fun a f => ?_)
   refine q_op (i := 7) (listed' := #[true, true, true, true, true, true, true, true, false, false, false]) 10 rfl (by kernel_rfl) rfl f rfl rfl rfl (fun _ _ _ _ _ => r_int (f.eval rfl) (f.eval rfl) b_andNot) (fun a f => ?_)
   refine q_op (i := 8) (listed' := #[true, true, true, true, true, true, true, true, true, false, false]) 10 rfl (by kernel_rfl) rfl f rfl rfl rfl (fun _ _ _ _ _ => r_int (f.eval rfl) (f.eval rfl) b_or) (fun a f => ?_)
   obtain ⟨e_133, he_134, hs_78⟩ := bind_some hs_78
   refine q_own_at (i := 9) (listed' := #[true, true, true, true, true, true, true, true, true, true, false]) 10 0 m o_85 rfl T61 he_134 rfl (by kernel_rfl) rfl f rfl rfl rfl rfl (fun p_135 a ha_136 f => ?_)
   refine q_end (fun G_137 w hl_138 m => ?_)
   have o_85 := Ow.mono (RI.mono _) hl_138 o_85
   have o_21 := Ow.mono (RI.mono _) hl_138 o_21
   have m : Mem W G_137 w (it_84 :: it_20 :: H) := m
   refine l_own_store 0 m o_85 rfl Tryd.sizeOf66 f rfl rfl ha_136 he_134 rfl rfl rfl (fun it_139 w m o_140 => ?_)
   have m : Mem W G_137 w (it_139 :: it_20 :: H) := m
   refine l_nil ?_
   refine k_region ?_
   refine l_op f rfl rfl rfl (r_int (f.eval rfl) (f.eval rfl) b_add) (fun a f => ?_)
   refine l_op f rfl rfl rfl (r_move (f.eval rfl)) (fun a f => ?_)
   refine l_nil ?_
   have m : Mem W G_137 w (it_20 :: it_139 :: H) := m.front 1 rfl
   have m : Mem W G_137 w (it_139 :: it_20 :: H) := m.front 1 rfl
   obtain rfl := Option.some.inj hs_78
   exact ⟨_, rfl, _, _, rfl, _, it_139, (GLe.trans hl_87 hl_138), f.weak ⟨rfl, rfl, rfl, rfl, rfl, trivial⟩, m, o_140⟩
  ·refine k_false f rfl hc_117 ?_
   refine k_exit rfl ?_
   have m : Mem W G_82 w (it_84 :: H) := m.eraseAt 1
   obtain rfl := Option.some.inj hs_78
   obtain rfl := hq_79 _ rfl
   exact ⟨_, rfl, _, it_84, hl_87, f.weak trivial, m, o_85⟩
 ·rintro a w ⟨l_113, rfl, G_112, it_114, hl_116, f, m, o_115⟩
  obtain rfl := Option.some.inj hd
  exact ⟨[], trivial, f.defers, _, [it_114], (GLe.trans hl_11 (GLe.trans hl_15 hl_116)), m, _, rfl, o_115⟩

theorem Wk.impl_ByDegree_1 {W w : World} {G : GH} {H : List Itm} {v0 : Value} {x0 : (List Int)} {x1 : Int} (m : Mem W G w (H)) (h0 : RSl (RI .u32) G v0 x0) {y : Int} (hd : D.impl_ByDegree_1 x0 x1 = some y) :
  Calls Tryd.prog 87 #[v0, (.int .u32 x1)] w (Res W G H (fun _ Ho v => Ho = [] ∧ v = (.int .i64 y))) := by
 refine calls_b (args := [v0, (.int .u32 x1)]) (N := 7) [.tmp 4] Tryd.func87 rfl rfl (Nat.le_of_ble_eq_true rfl) rfl (fun a f => ?_)
 unfold D.impl_ByDegree_1 at hd
 refine k_seq ?_
 refine k_region ?_
 refine l_op f rfl rfl rfl (r_assign (f.eval rfl)) (fun a f => ?_)
 refine l_nil ?_
 refine k_seq ?_
 refine k_region ?_
 refine l_op f rfl rfl rfl (r_move (f.eval rfl)) (fun a f => ?_)
 obtain ⟨y_1, hy_2, hd⟩ := bind_some hd
 refine l_res f rfl rfl Tryd.call50 (Wk.impl_vset_size m  hy_2) (fun v_6 G_3 Ho_7 w hl_4 m hQ_5 a f => ?_)
 obtain ⟨rfl, rfl⟩ := hQ_5
 have h0 := RSl.mono (RI.mono _) _ _ _ _ hl_4 h0
 have m : Mem W G_3 w (H) := m
 refine l_op f rfl rfl rfl (r_assign (f.eval rfl)) (fun a f => ?_)
 refine l_nil ?_
 refine k_ret ?_
 obtain rfl := Option.some.inj hd
 exact ⟨[(.int .i64 y_1)], ⟨f.get _ _ rfl, trivial⟩, f.defers, _, [], hl_4, m, rfl, rfl⟩

theorem Wk.impl_orderBy__impl_ByDegree_1 {W w : World} {G : GH} {H : List Itm} {v0 : Value} {x0 : (List Int)} (hW : TabW W) (m : Mem W G w (H)) (h0 : RSl (RI .u32) G v0 x0) {y : ((List Int))} (hd : D.impl_orderBy__impl_ByDegree_1 x0 = some y) :
  Calls Tryd.prog 86 #[v0, (.func (.func 87) #[] #[])] w (Res W G H (fun G' Ho v => ∃ r0 : Value, ∃ i0 : Itm, Ho = [i0] ∧ r0 = v ∧ Ow (RI .i64) 3 G' i0 r0 y)) := by
 refine calls_b (args := [v0, (.func (.func 87) #[] #[])]) (N := 59) [.tmp 4] Tryd.func86 rfl rfl (Nat.le_of_ble_eq_true rfl) rfl (fun a f => ?_)
 unfold D.impl_orderBy__impl_ByDegree_1 at hd
 refine k_seq ?_
 refine k_region ?_
 refine l_op f rfl rfl rfl (r_assign (f.eval rfl)) (fun a f => ?_)
 refine l_nil ?_
 refine k_seq ?_
 refine k_region ?_
 refine l_slit (R := (RI .u32)) (xs := ([] : List Int)) (RI.one _) m T61 f rfl rfl rfl (by decide) (All2.nil _) (fun it_1 v_2 w a m o_3 f => ?_)
 refine l_op f rfl rfl rfl (r_move (f.eval rfl)) (fun a f => ?_)
 obtain ⟨l_5, hx_6, hd⟩ := bind_some hd
 refine l_append (RI.one _) 0 m o_3 rfl T61 rfl (by decide) f rfl rfl rfl (h0.src m) hx_6 (fun it_7 v_8 w a m o_9 f => ?_)
 have m : Mem W G w (it_7 :: H) := m
 refine l_slit (R := (RI .i64)) (xs := ([] : List Int)) (RI.one _) m T63 f rfl rfl rfl (by decide) (All2.nil _) (fun it_11 v_12 w a m o_13 f => ?_)
 refine l_op f rfl rfl rfl (r_assign (f.eval rfl)) (fun a f => ?_)
 refine l_op f rfl rfl rfl (r_assign (f.eval rfl)) (fun a f => ?_)
 refine l_nil ?_
 refine k_seq ?_
 refine k_seq ?_
 refine k_region ?_
 refine l_op f rfl rfl rfl (r_move (f.eval rfl)) (fun a f => ?_)
 obtain ⟨y_15, hy_16, hd⟩ := bind_some hd
 refine l_res f rfl rfl Tryd.call84 (Ow.lendCall (RI.mono _) 1 o_9 m rfl (fun G_17 hl_18 m h_19 => Wk.impl_nets_all m h_19 hy_16) (fun _ _ _ _ h => h)) (fun v_23 G_20 Ho_24 w hl_21 m hQ_22 a f => ?_)
 obtain ⟨rfl, rfl⟩ := hQ_22
 have o_13 := Ow.mono (RI.mono _) hl_21 o_13
 have o_9 := Ow.mono (RI.mono _) hl_21 o_9
 have m : Mem W G_20 w (it_11 :: it_7 :: H) := m
 refine l_op f rfl rfl rfl (r_assign (f.eval rfl)) (fun a f => ?_)
 refine l_nil ?_
 obtain ⟨q_363, hl_364, hd⟩ := bind_some hd
 refine k_cut (fun a w => ∃ l_545 : List Int, l_545 = q_363 ∧ ∃ (G_544 : GH) (v_546 : Value) (it_547 : Itm), GLe G_20 G_544 ∧ Fr a 59 [(5, v_546)] ∧ Mem W G_544 w (it_547 :: H) ∧ Ow (RI .i64) 3 G_544 it_547 v_546 l_545) ?_ ?_
 ·refine k_block ?_
  have m : Mem W G_20 w (it_7 :: it_11 :: H) := m.front 1 rfl
  refine k_loop (fun s_367 a w => ∃ l_370 : List Int, ∃ l_373 : List Int, ∃ x_378 : Int, (l_370, l_373, x_378) = s_367 ∧ ∃ (G_369 : GH) (it_371 : Itm) (v_374 : Value) (it_375 : Itm), GLe G_20 G_369 ∧ Fr a 59 [(0, v_8), (1, (.func (.func 87) #[] #[])), (5, v_374), (6, (.int .u32 x_378))] ∧ Mem W G_369 w (it_371 :: it_375 :: H) ∧ Ow (RI .u32) 66 G_369 it_371 v_8 l_370 ∧ Ow (RI .i64) 3 G_369 it_375 v_374 l_373) hl_364 ⟨_, _, _, rfl, _, it_7, v_12, it_11, (GLe.refl _), f.weak ⟨rfl, rfl, rfl, rfl, trivial⟩, m, o_9, o_13⟩ ?_
  clear hl_364 f m
  rintro s_367 o_368 hs_365 hq_366 a w ⟨l_370, l_373, x_378, rfl, G_369, it_371, v_374, it_375, hl_379, f, m, o_372, o_376⟩
  refine k_seq ?_
  refine k_seq ?_
  refine k_region ?_
  refine l_op f rfl rfl rfl (r_move (f.eval rfl)) (fun a f => ?_)
  refine l_op f rfl rfl rfl (r_int (f.eval rfl) (f.eval rfl) b_neq) (fun a f => ?_)
  refine l_nil ?_
  rcases cond_some hs_365 with ⟨hc_551, hs_365⟩ | ⟨hc_551, hs_365⟩
  ·refine k_true f rfl hc_551 ?_
   refine k_skip ?_
   refine k_block ?_
   refine k_seq ?_
   refine k_region ?_
   refine l_op f rfl rfl rfl (r_assign (f.eval rfl)) (fun a f => ?_)
   refine l_op f rfl rfl rfl (r_assign (f.eval rfl)) (fun a f => ?_)
   refine l_nil ?_
   refine k_seq ?_
   refine k_seq ?_
   refine k_region ?_
   refine l_op f rfl rfl rfl (r_move (f.eval rfl)) (fun a f => ?_)
   obtain ⟨y_552, hy_553, hs_365⟩ := bind_some hs_365
   refine l_res f rfl rfl Tryd.call62 (Wk.impl_vset_list hW m  hy_553) (fun v_557 G_554 Ho_558 w hl_555 m hQ_556 a f => ?_)
   obtain ⟨v_559, it_560, rfl, rfl, o_561⟩ := hQ_556
   have o_372 := Ow.mono (RI.mono _) hl_555 o_372
   have o_376 := Ow.mono (RI.mono _) hl_555 o_376
   have m : Mem W G_554 w (it_560 :: it_371 :: it_375 :: H) := m
   refine l_own_len 0 m o_561 rfl Tryd.underlying63 f rfl rfl (fun a f => ?_)
   refine l_op f rfl rfl rfl (r_move (f.eval rfl)) (fun a f => ?_)
   refine l_nil ?_
   obtain ⟨q_621, hl_622, hs_365⟩ := bind_some hs_365
   refine k_cut (fun a w => ∃ x_660 : Int, x_660 = q_621 ∧ ∃ (G_659 : GH), GLe G_554 G_659 ∧ Fr a 59 [(0, v_8), (1, (.func (.func 87) #[] #[])), (5, v_374), (6, (.int .u32 x_378)), (7, (.int .i64 x_660))] ∧ Mem W G_659 w (it_371 :: it_375 :: H)) ?_ ?_
   ·refine k_block ?_
    have m : Mem W G_554 w (it_375 :: it_560 :: it_371 :: H) := m.front 2 rfl
    have m : Mem W G_554 w (it_371 :: it_375 :: it_560 :: H) := m.front 2 rfl
    refine k_loop (fun s_625 a w => ∃ x_628 : Int, ∃ x_629 : Int, ∃ x_630 : Int, (x_628, x_629, x_630) = s_625 ∧ ∃ (G_627 : GH), GLe G_554 G_627 ∧ Fr a 59 [(0, v_8), (1, (.func (.func 87) #[] #[])), (5, v_374), (6, (.int .u32 x_378)), (7, (.int .i64 x_628)), (8, (.int .i64 x_629)), (21, v_559), (22, (.int .i64 (y_552.length : Int))), (23, (.int .i64 x_630))] ∧ Mem W G_627 w (it_371 :: it_375 :: it_560 :: H)) hl_622 ⟨_, _, _, rfl, _, (GLe.refl _), f.weak ⟨rfl, rfl, rfl, rfl, rfl, rfl, rfl, rfl, rfl, trivial⟩, m⟩ ?_
    clear hl_622 f m
    rintro s_625 o_626 hs_623 hq_624 a w ⟨x_628, x_629, x_630, rfl, G_627, hl_631, f, m⟩
    have o_372 := Ow.mono (RI.mono _) hl_631 o_372
    have o_376 := Ow.mono (RI.mono _) hl_631 o_376
    have o_561 := Ow.mono (RI.mono _) hl_631 o_561
    refine k_seq ?_
    refine k_region ?_
    refine l_op f rfl rfl rfl (r_int (f.eval rfl) (f.eval rfl) b_lss) (fun a f => ?_)
    refine l_nil ?_
    refine k_seq ?_
    rcases cond_some hs_623 with ⟨hc_662, hs_623⟩ | ⟨hc_662, hs_623⟩
    ·refine k_true f rfl hc_662 ?_
     refine k_skip ?_
     refine k_seq ?_
     refine k_block ?_
     refine k_seq ?_
     refine k_region ?_
     obtain ⟨e_663, he_664, hs_623⟩ := bind_some hs_623
     refine l_own_at 2 m o_561 rfl T63 f rfl rfl rfl he_664 (fun p_665 a ha_666 f => ?_)
     refine l_own_load 2 m o_561 rfl Pl3 f rfl rfl ha_666 he_664 (fun c_667 a h_668 f => ?_)
     subst h_668
     refine l_op f rfl rfl rfl (r_assign (f.eval rfl)) (fun a f => ?_)
     refine l_nil ?_
     refine k_seq ?_
     refine k_region ?_
     refine l_op f rfl rfl rfl (r_move (f.eval rfl)) (fun a f => ?_)
     refine l_op f rfl rfl rfl (r_move (f.eval rfl)) (fun a f => ?_)
     refine l_op f rfl rfl rfl (r_move (f.eval rfl)) (fun a f => ?_)
     refine l_op f rfl rfl rfl (r_move (f.eval rfl)) (fun a f => ?_)
     obtain ⟨e_669, he_670, hs_623⟩ := bind_some hs_623
     refine l_own_at 0 m o_372 rfl T61 f rfl rfl rfl he_670 (fun p_671 a ha_672 f => ?_)
     refine l_own_load 0 m o_372 rfl Pl66 f rfl rfl ha_672 he_670 (fun c_673 a h_674 f => ?_)
     subst h_674
     refine l_op f rfl rfl rfl (r_move (f.eval rfl)) (fun a f => ?_)
     refine l_op f rfl rfl rfl (r_int (f.eval rfl) (f.eval rfl) b_and) (fun a f => ?_)
     obtain ⟨y_675, hy_676, hs_623⟩ := bind_some hs_623
     refine l_resv0 f rfl rfl rfl Tryd.call87 (Ow.lendCall (RI.mono _) 0 o_372 m rfl (fun G_677 hl_678 m h_679 => Wk.impl_ByDegree_1 m h_679 hy_676) (fun _ _ _ _ h => h)) (fun v_683 G_680 Ho_684 w hl_681 m hQ_682 a f => ?_)
     obtain ⟨rfl, rfl⟩ := hQ_682
     have o_372 := Ow.mono (RI.mono _) hl_681 o_372
     have o_376 := Ow.mono (RI.mono _) hl_681 o_376
     have o_561 := Ow.mono (RI.mono _) hl_681 o_561
     have m : Mem W G_680 w (it_371 :: it_375 :: it_560 :: H) := m
     refine l_op f rfl rfl rfl (r_assign (f.eval rfl)) (fun a f => ?_)
     refine l_nil ?_
     refine k_seq ?_
     refine k_region ?_
     refine l_op f rfl rfl rfl (r_move (f.eval rfl)) (fun a f => ?_)
     refine l_op f rfl rfl rfl (r_int (f.eval rfl) (f.eval rfl) b_lss) (fun a f => ?_)
     refine l_op f rfl rfl rfl (r_move (f.eval rfl)) (fun a f => ?_)
     refine l_cut 4 (fun a w => ∃ G_686, GLe G_680 G_686 ∧ Mem W G_686 w (it_371 :: it_375 :: it_560 :: H) ∧ Fr a 59 [(0, v_8), (1, (.func (.func 87) #[] #[])), (5, v_374), (6, (.int .u32 x_378)), (7, (.int .i64 x_628)), (8, (.int .i64 x_629)), (10, (.int .i64 e_663)), (11, (.int .i64 y_675)), (21, v_559), (22, (.int .i64 (y_552.length : Int))), (23, (.int .i64 x_630)), (36, (.int .i64 x_628)), (37, (.bool (decide (x_628 < 0)))), (38, (.bool (decide (x_628 < 0)))), (42, (.bool ((decide (x_628 < 0)) || (decide (y_675 < x_629)))))]) ?_ ?_
     ·rcases Bool.eq_false_or_eq_true (decide (x_628 < 0)) with hc_685 | hc_685
      ·refine l_not' f rfl rfl rfl hc_685 (fun a f => ?_)
       refine l_not' f rfl rfl rfl hc_685 (fun a f => ?_)
       refine l_not' f rfl rfl rfl hc_685 (fun a f => ?_)
       refine l_op f rfl rfl rfl (r_pickT (f.eval rfl) hc_685 (f.eval rfl)) (fun a f => ?_)
       have m : Mem W G_680 w (it_560 :: it_371 :: it_375 :: H) := m.front 2 rfl
       have m : Mem W G_680 w (it_375 :: it_560 :: it_371 :: H) := m.front 2 rfl
       have m : Mem W G_680 w (it_371 :: it_375 :: it_560 :: H) := m.front 2 rfl
       exact ⟨_, (GLe.refl _), m, f.weak ⟨rfl, rfl, rfl, rfl, rfl, rfl, rfl, rfl, rfl, rfl, rfl, rfl, rfl, rfl, by rw [hc_685]; rfl, trivial⟩⟩
      ·refine l_run f rfl rfl hc_685 ?_
       refine l_op f rfl rfl rfl (r_move (f.eval rfl)) (fun a f => ?_)
       refine l_run f rfl rfl hc_685 ?_
       refine l_op f rfl rfl rfl (r_move (f.eval rfl)) (fun a f => ?_)
       refine l_run f rfl rfl hc_685 ?_
       refine l_op f rfl rfl rfl (r_int (f.eval rfl) (f.eval rfl) b_lss) (fun a f => ?_)
       refine l_op f rfl rfl rfl (r_pickF (f.eval rfl) hc_685 (f.eval rfl)) (fun a f => ?_)
       have m : Mem W G_680 w (it_560 :: it_371 :: it_375 :: H) := m.front 2 rfl
       have m : Mem W G_680 w (it_375 :: it_560 :: it_371 :: H) := m.front 2 rfl
       have m : Mem W G_680 w (it_371 :: it_375 :: it_560 :: H) := m.front 2 rfl
       exact ⟨_, (GLe.refl _), m, f.weak ⟨rfl, rfl, rfl, rfl, rfl, rfl, rfl, rfl, rfl, rfl, rfl, rfl, rfl, rfl, by rw [hc_685]; rfl, trivial⟩⟩
     ·rintro a w ⟨G_686, hl_687, m, f⟩
      have o_372 := Ow.mono (RI.mono _) hl_687 o_372
      have o_376 := Ow.mono (RI.mono _) hl_687 o_376
      have o_561 := Ow.mono (RI.mono _) hl_687 o_561
      refine l_nil ?_
      rcases cond_some hs_623 with ⟨hc_688, hs_623⟩ | ⟨hc_688, hs_623⟩
      ·refine k_true f rfl hc_688 ?_
       refine k_region ?_
       refine l_op f rfl rfl rfl (r_move (f.eval rfl)) (fun a f => ?_)
       refine l_op f rfl rfl rfl (r_move (f.eval rfl)) (fun a f => ?_)
       refine l_op f rfl rfl rfl (r_assign (f.eval rfl)) (fun a f => ?_)
       refine l_op f rfl rfl rfl (r_assign (f.eval rfl)) (fun a f => ?_)
       refine l_nil ?_
       refine k_region ?_
       refine l_op f rfl rfl rfl (r_int (f.eval rfl) (f.eval rfl) b_add) (fun a f => ?_)
       refine l_op f rfl rfl rfl (r_move (f.eval rfl)) (fun a f => ?_)
       refine l_nil ?_
       have m : Mem W G_686 w (it_560 :: it_371 :: it_375 :: H) := m.front 2 rfl
       have m : Mem W G_686 w (it_375 :: it_560 :: it_371 :: H) := m.front 2 rfl
       have m : Mem W G_686 w (it_371 :: it_375 :: it_560 :: H) := m.front 2 rfl
       obtain rfl := Option.some.inj hs_623
       exact ⟨_, rfl, _, _, _, rfl, _, (GLe.trans hl_631 (GLe.trans hl_681 hl_687)), f.weak ⟨rfl, rfl, rfl, rfl, rfl, rfl, rfl, rfl, rfl, trivial⟩, m⟩
      ·refine k_false f rfl hc_688 ?_
       refine k_skip ?_
       refine k_region ?_
       refine l_op f rfl rfl rfl (r_int (f.eval rfl) (f.eval rfl) b_add) (fun a f => ?_)
       refine l_op f rfl rfl rfl (r_move (f.eval rfl)) (fun a f => ?_)
       refine l_nil ?_
       have m : Mem W G_686 w (it_560 :: it_371 :: it_375 :: H) := m.front 2 rfl
       have m : Mem W G_686 w (it_375 :: it_560 :: it_371 :: H) := m.front 2 rfl
       have m : Mem W G_686 w (it_371 :: it_375 :: it_560 :: H) := m.front 2 rfl
       obtain rfl := Option.some.inj hs_623
       exact ⟨_, rfl, _, _, _, rfl, _, (GLe.trans hl_631 (GLe.trans hl_681 hl_687)), f.weak ⟨rfl, rfl, rfl, rfl, rfl, rfl, rfl, rfl, rfl, trivial⟩, m⟩
    ·refine k_false f rfl hc_662 ?_
     refine k_exit rfl ?_
     have m : Mem W G_627 w (it_375 :: it_371 :: it_560 :: H) := m.front 1 rfl
     have m : Mem W G_627 w (it_371 :: it_375 :: it_560 :: H) := m.front 1 rfl
     have m : Mem W G_627 w (it_371 :: it_375 :: H) := m.eraseAt 2
     obtain rfl := Option.some.inj hs_623
     obtain rfl := hq_624 _ rfl
     exact ⟨_, rfl, _, hl_631, f.weak ⟨rfl, rfl, rfl, rfl, rfl, trivial⟩, m⟩
   ·rintro a w ⟨x_660, rfl, G_659, hl_661, f, m⟩
    have o_372 := Ow.mono (RI.mono _) hl_661 o_372
    have o_376 := Ow.mono (RI.mono _) hl_661 o_376
    refine k_seq ?_
    refine k_region ?_
    refine l_op f rfl rfl rfl (r_move (f.eval rfl)) (fun a f => ?_)
    refine l_op f rfl rfl rfl (r_move (f.eval rfl)) (fun a f => ?_)
    refine l_op f rfl rfl rfl (r_move (f.eval rfl)) (fun a f => ?_)
    obtain ⟨y_689, hy_690, hs_365⟩ := bind_some hs_365
    refine l_res f rfl rfl Tryd.call119 (Wk.impl_eliminate hW m o_372 hy_690) (fun v_694 G_691 Ho_695 w hl_692 m hQ_693 a f => ?_)
    obtain ⟨it_696, rfl, o_697⟩ := hQ_693
    have o_376 := Ow.mono (RI.mono _) hl_692 o_376
    have m : Mem W G_691 w (it_696 :: it_375 :: H) := m
    refine l_nil ?_
    refine k_seq ?_
    refine k_region ?_
    refine l_op f rfl rfl rfl (r_move (f.eval rfl)) (fun a f => ?_)
    refine l_op f rfl rfl rfl (r_move (f.eval rfl)) (fun a f => ?_)
    obtain ⟨y_698, hy_699, hs_365⟩ := bind_some hs_365
    refine l_res f rfl rfl Tryd.call48 (Wk.impl_one m  hy_699) (fun v_703 G_700 Ho_704 w hl_701 m hQ_702 a f => ?_)
    obtain ⟨rfl, rfl⟩ := hQ_702
    have o_697 := Ow.mono (RI.mono _) hl_701 o_697
    have o_376 := Ow.mono (RI.mono _) hl_701 o_376
    have m : Mem W G_700 w (it_696 :: it_375 :: H) := m
    refine l_op f rfl rfl rfl (r_int (f.eval rfl) (f.eval rfl) b_andNot) (fun a f => ?_)
    refine l_op f rfl rfl rfl (r_assign (f.eval rfl)) (fun a f => ?_)
    refine l_nil ?_
    refine k_region ?_
    refine l_op f rfl rfl rfl (r_move (f.eval rfl)) (fun a f => ?_)
    refine l_op f rfl rfl rfl (r_move (f.eval rfl)) (fun a f => ?_)
    refine l_slit (R := (RI .i64)) (xs := ([x_660] : List Int)) (RI.one _) m T63 f rfl rfl rfl (by decide) (All2.cons rfl (All2.nil _)) (fun it_705 v_706 w a m o_707 f => ?_)
    obtain ⟨l_709, hx_710, hs_365⟩ := bind_some hs_365
    refine l_append (RI.one _) 2 m o_376 rfl T63 rfl (by decide) f rfl rfl rfl (Ow.src (j := 0) o_707 m rfl) hx_710 (fun it_711 v_712 w a m o_713 f => ?_)
    have m : Mem W G_700 w (it_705 :: it_696 :: it_711 :: H) := m
    refine l_op f rfl rfl rfl (r_assign (f.eval rfl)) (fun a f => ?_)
    refine l_nil ?_
    have m : Mem W G_700 w (it_711 :: it_705 :: it_696 :: H) := m.front 2 rfl
    have m : Mem W G_700 w (it_696 :: it_711 :: it_705 :: H) := m.front 2 rfl
    have m : Mem W G_700 w (it_696 :: it_711 :: H) := m.eraseAt 2
    obtain rfl := Option.some.inj hs_365
    exact ⟨_, rfl, _, _, _, rfl, _, it_696, v_712, it_711, (GLe.trans hl_379 (GLe.trans hl_555 (GLe.trans hl_661 (GLe.trans hl_692 hl_701)))), f.weak ⟨rfl, rfl, rfl, rfl, trivial⟩, m, o_697, o_713⟩
  ·refine k_false f rfl hc_551 ?_
   refine k_exit rfl ?_
   have m : Mem W G_369 w (it_375 :: it_371 :: H) := m.front 1 rfl
   have m : Mem W G_369 w (it_375 :: H) := m.eraseAt 1
   obtain rfl := Option.some.inj hs_365
   obtain rfl := hq_366 _ rfl
   exact ⟨_, rfl, _, v_374, it_375, hl_379, f.weak ⟨rfl, trivial⟩, m, o_376⟩
 ·rintro a w ⟨l_545, rfl, G_544, v_546, it_547, hl_550, f, m, o_548⟩
  refine k_seq ?_
  refine k_region ?_
  refine l_op f rfl rfl rfl (r_move (f.eval rfl)) (fun a f => ?_)
  refine l_op f rfl rfl rfl (r_assign (f.eval rfl)) (fun a f => ?_)
  refine l_nil ?_
  refine k_ret ?_
  obtain rfl := Option.some.inj hd
  exact ⟨[v_546], ⟨f.get _ _ rfl, trivial⟩, f.defers, _, [it_547], (GLe.trans hl_21 hl_550), m, _, _, rfl, rfl, o_548⟩

theorem Wk.impl_ByDegree {W w : World} {G : GH} {H : List Itm} {v0_0 : Value} {x0_0 : (List (List Int))} (hW : TabW W) (m : Mem W G w (H)) (h0_0 : RSl (RSl (RI .i64)) G v0_0 x0_0) {y : ((List Int))} (hd : D.impl_ByDegree x0_0 = some y) :
  Calls Tryd.prog 31 #[(.agg #[v0_0])] w (Res W G H (fun G' Ho v => ∃ r0 : Value, ∃ i0 : Itm, Ho = [i0] ∧ r0 = v ∧ Ow (RI .i64) 2 G' i0 r0 y)) := by
 refine calls_b (args := [(.agg #[v0_0])]) (N := 10) [.tmp 2] Tryd.func31 rfl rfl (Nat.le_of_ble_eq_true rfl) rfl (fun a f => ?_)
 unfold D.impl_ByDegree at hd
 refine k_seq ?_
 refine k_region ?_
 refine l_box (cs := [v0_0]) m f rfl rfl rfl (fun b_2 w a m f => ?_)
 refine l_op f rfl rfl rfl (r_assign (f.eval rfl)) (fun a f => ?_)
 refine l_nil ?_
 refine k_seq ?_
 refine k_seq ?_
 refine k_region ?_
 refine l_boxAgg 0 0 (ds := [v0_0]) m Ag29 f rfl rfl rfl rfl rfl (fun a f => ?_)
 obtain ⟨y_3, hy_4, hd⟩ := bind_some hd
 refine l_res f rfl rfl Tryd.call55 (Wk.impl_GraphOk m h0_0 hy_4) (fun v_8 G_5 Ho_9 w hl_6 m hQ_7 a f => ?_)
 obtain ⟨rfl, rfl⟩ := hQ_7
 have h0_0 := RSl.mono (RSl.mono (RI.mono _)) _ _ _ _ hl_6 h0_0
 have m : Mem W G_5 w (Itm.box b_2 29 [v0_0] :: H) := m
 refine l_op f rfl rfl rfl (r_not (f.eval rfl)) (fun a f => ?_)
 refine l_nil ?_
 rcases cond_some hd with ⟨hc_10, hd⟩ | ⟨hc_10, hd⟩
 ·refine k_true f rfl hc_10 ?_
  refine k_seq ?_
  refine k_region ?_
  refine l_op f rfl rfl rfl (r_assign (f.eval rfl)) (fun a f => ?_)
  refine l_nil ?_
  refine k_ret ?_
  obtain ⟨it_11, m, o_12⟩ := Ow.nil (RI .i64) 2 m
  have m : Mem W G_5 w (it_11 :: Itm.box b_2 29 [v0_0] :: H) := m
  have m : Mem W G_5 w (it_11 :: H) := m.eraseAt 1
  obtain rfl := Option.some.inj hd
  exact ⟨[(.slice none 0 0)], ⟨f.get _ _ rfl, trivial⟩, f.defers, _, [it_11], hl_6, m, _, _, rfl, rfl, o_12⟩
 ·refine k_false f rfl hc_10 ?_
  refine k_skip ?_
  refine k_seq ?_
  refine k_region ?_
  refine l_boxAgg 0 0 (ds := [v0_0]) m Ag29 f rfl rfl rfl rfl rfl (fun a f => ?_)
  obtain ⟨y_14, hy_15, hd⟩ := bind_some hd
  refine l_res f rfl rfl Tryd.call46 (Wk.impl_netsOf m h0_0 hy_15) (fun v_19 G_16 Ho_20 w hl_17 m hQ_18 a f => ?_)
  obtain ⟨v_21, it_22, rfl, rfl, o_23⟩ := hQ_18
  have h0_0 := RSl.mono (RSl.mono (RI.mono _)) _ _ _ _ hl_17 h0_0
  have m : Mem W G_16 w (it_22 :: Itm.box b_2 29 [v0_0] :: H) := m
  obtain ⟨y_25, hy_26, hd⟩ := bind_some hd
  refine l_res f rfl rfl Tryd.call86 (Ow.lendCall (RI.mono _) 0 o_23 m rfl (fun G_27 hl_28 m h_29 => Wk.impl_orderBy__impl_ByDegree_1 hW m h_29 hy_26) (fun _ G' _ _ ⟨a0, a1, e1, e2, o0⟩ => ⟨a0, a1, e1, e2, Ow.free (RI.free _) G' o0⟩)) (fun v_33 G_30 Ho_34 w hl_31 m hQ_32 a f => ?_)
  obtain ⟨v_35, it_36, rfl, rfl, o_37⟩ := hQ_32
  have h0_0 := RSl.mono (RSl.mono (RI.mono _)) _ _ _ _ hl_31 h0_0
  have o_23 := Ow.mono (RI.mono _) hl_31 o_23
  have m : Mem W G_30 w (it_36 :: it_22 :: Itm.box b_2 29 [v0_0] :: H) := m
  obtain ⟨y_39, hy_40, hd⟩ := bind_some hd
  refine l_res f rfl rfl Tryd.call63 (Ow.lendCall (RI.mono _) 0 o_37 m rfl (fun G_41 hl_42 m h_43 => Wk.impl_wide m h_43 hy_40) (fun _ G' _ _ ⟨a0, a1, e1, e2, o0⟩ => ⟨a0, a1, e1, e2, Ow.free (RI.free _) G' o0⟩)) (fun v_47 G_44 Ho_48 w hl_45 m hQ_46 a f => ?_)
  obtain ⟨v_49, it_50, rfl, rfl, o_51⟩ := hQ_46
  have h0_0 := RSl.mono (RSl.mono (RI.mono _)) _ _ _ _ hl_45 h0_0
  have o_37 := Ow.mono (RI.mono _) hl_45 o_37
  have o_23 := Ow.mono (RI.mono _) hl_45 o_23
  have m : Mem W G_44 w (it_50 :: it_36 :: it_22 :: Itm.box b_2 29 [v0_0] :: H) := m
  refine l_op f rfl rfl rfl (r_assign (f.eval rfl)) (fun a f => ?_)
  refine l_nil ?_
  refine k_ret ?_
  have m : Mem W G_44 w (it_50 :: it_36 :: it_22 :: H) := m.eraseAt 3
  have m : Mem W G_44 w (it_50 :: it_36 :: H) := m.eraseAt 2
  have m : Mem W G_44 w (it_50 :: H) := m.eraseAt 1
  obtain rfl := Option.some.inj hd
  exact ⟨[v_49], ⟨f.get _ _ rfl, trivial⟩, f.defers, _, [it_50], (GLe.trans hl_6 (GLe.trans hl_17 (GLe.trans hl_31 hl_45))), m, _, _, rfl, rfl, o_51⟩

theorem Wk.impl_missing {W w : World} {G : GH} {H : List Itm} {v0 : Value} {x0 : (List Int)} {x1 : Int} (hW : TabW W) (m : Mem W G w (H)) (h0 : RSl (RI .u32) G v0 x0) {y : Int} (hd : D.impl_missing x0 x1 = some y) :
  Calls Tryd.prog 88 #[v0, (.int .u32 x1)] w (Res W G H (fun _ Ho v => Ho = [] ∧ v = (.int .i64 y))) := by
 refine calls_b (args := [v0, (.int .u32 x1)]) (N := 30) [.tmp 4] Tryd.func88 rfl rfl (Nat.le_of_ble_eq_true rfl) rfl (fun a f => ?_)
 unfold D.impl_missing at hd
 refine k_seq ?_
 refine k_region ?_
 refine l_op f rfl rfl rfl (r_assign (f.eval rfl)) (fun a f => ?_)
 refine l_nil ?_
 refine k_seq ?_
 refine k_region ?_
 refine l_op f rfl rfl rfl (r_assign (f.eval rfl)) (fun a f => ?_)
 refine l_nil ?_
 refine k_seq ?_
 refine k_seq ?_
 refine k_region ?_
 refine l_op f rfl rfl rfl (r_move (f.eval rfl)) (fun a f => ?_)
 obtain ⟨y_1, hy_2, hd⟩ := bind_some hd
 refine l_res f rfl rfl Tryd.call62 (Wk.impl_vset_list hW m  hy_2) (fun v_6 G_3 Ho_7 w hl_4 m hQ_5 a f => ?_)
 obtain ⟨v_8, it_9, rfl, rfl, o_10⟩ := hQ_5
 have h0 := RSl.mono (RI.mono _) _ _ _ _ hl_4 h0
 have m : Mem W G_3 w (it_9 :: H) := m
 refine l_own_len 0 m o_10 rfl Tryd.underlying63 f rfl rfl (fun a f => ?_)
 refine l_op f rfl rfl rfl (r_move (f.eval rfl)) (fun a f => ?_)
 refine l_nil ?_
 obtain ⟨q_57, hl_58, hd⟩ := bind_some hd
 refine k_cut (fun a w => ∃ x_89 : Int, x_89 = q_57 ∧ ∃ (G_88 : GH), GLe G_3 G_88 ∧ Fr a 30 [(5, (.int .i64 x_89))] ∧ Mem W G_88 w (H)) ?_ ?_
 ·refine k_block ?_
  refine k_loop (fun s_61 a w => ∃ x_64 : Int, ∃ x_65 : Int, (x_64, x_65) = s_61 ∧ ∃ (G_63 : GH), GLe G_3 G_63 ∧ Fr a 30 [(0, v0), (1, (.int .u32 x1)), (5, (.int .i64 x_64)), (9, v_8), (10, (.int .i64 (y_1.length : Int))), (11, (.int .i64 x_65))] ∧ Mem W G_63 w (it_9 :: H)) hl_58 ⟨_, _, rfl, _, (GLe.refl _), f.weak ⟨rfl, rfl, rfl, rfl, rfl, rfl, trivial⟩, m⟩ ?_
  clear hl_58 f m
  rintro s_61 o_62 hs_59 hq_60 a w ⟨x_64, x_65, rfl, G_63, hl_66, f, m⟩
  have h0 := RSl.mono (RI.mono _) _ _ _ _ hl_66 h0
  have o_10 := Ow.mono (RI.mono _) hl_66 o_10
  refine k_seq ?_
  refine k_region ?_
  refine l_op f rfl rfl rfl (r_int (f.eval rfl) (f.eval rfl) b_lss) (fun a f => ?_)
  refine l_nil ?_
  refine k_seq ?_
  rcases cond_some hs_59 with ⟨hc_91, hs_59⟩ | ⟨hc_91, hs_59⟩
  ·refine k_true f rfl hc_91 ?_
   refine k_skip ?_
   refine k_seq ?_
   refine k_block ?_
   refine k_seq ?_
   refine k_region ?_
   obtain ⟨e_92, he_93, hs_59⟩ := bind_some hs_59
   refine l_own_at 0 m o_10 rfl T63 f rfl rfl rfl he_93 (fun p_94 a ha_95 f => ?_)
   refine l_own_load 0 m o_10 rfl Pl3 f rfl rfl ha_95 he_93 (fun c_96 a h_97 f => ?_)
   subst h_97
   refine l_op f rfl rfl rfl (r_assign (f.eval rfl)) (fun a f => ?_)
   refine l_nil ?_
   refine k_draw 13 Follows (by kernel_rfl) m ?_
   refine q_op (i := 0) (listed' := #[true, false, false, false, false, false, false, false, false, false, false, false, false]) 13 rfl (by kernel_rfl) rfl f rfl rfl rfl (fun _ _ _ _ _ => r_move (f.eval rfl)) (fun a f => ?_)
   refine q_op (i := 1) (listed' := #[true, true, false, false, false, false, false, false, false, false, false, false, false]) 13 rfl (by kernel_rfl) rfl f rfl rfl rfl (fun _ _ _ _ _ => r_move (f.eval rfl)) (fun a f => ?_)
   refine q_op (i := 2) (listed' := #[true, true, true, false, false, false, false, false, false, false, false, false, false]) 13 rfl (by kernel_rfl) rfl f rfl rfl rfl (fun _ _ _ _ _ => r_move (f.eval rfl)) (fun a f => ?_)
   refine q_op (i := 3) (listed' := #[true, true, true, true, false, false, false, false, false, false, false, false, false]) 13 rfl (by kernel_rfl) rfl f rfl rfl rfl (fun _ _ _ _ _ => r_move (f.eval rfl)) (fun a f => ?_)
   obtain ⟨e_98, he_99, hs_59⟩ := bind_some hs_59
   refine q_at (i := 4) (listed' := #[true, true, true, true, true, false, false, false, false, false, false, false, false]) 13 T61 h0 he_99 rfl (by kernel_rfl) rfl f rfl rfl rfl rfl (fun p_100 c_101 a g_102 h_103 f => ?_)
   subst h_103
   refine q_loadAt (i := 5) (listed' := #[true, true, true, true, true, true, false, false, false, false, false, false, false]) 13 Pl66 g_102 rfl (by kernel_rfl) rfl f rfl rfl rfl (fun a f => ?_)
   refine q_op (i := 6) (listed' := #[true, true, true, true, true, true, true, false, false, false, false, false, false]) 13 rfl (by kernel_rfl) rfl f rfl rfl rfl (fun _ _ _ _ _ => r_int (f.eval rfl) (f.eval rfl) b_andNot) (fun a f => ?_)
   refine q_op (i := 7) (listed' := #[true, true, true, true, true, true, true, true, false, false, false, false, false]) 13 rfl (by kernel_rfl) rfl f rfl rfl rfl (fun _ _ _ _ _ => r_move (f.eval rfl)) (fun a f => ?_)
   obtain ⟨y_104, hy_105, hs_59⟩ := bind_some hs_59
   refine q_call (i := 8) (listed' := #[true, true, true, true, true, true, true, true, true, false, false, false, false]) 13 rfl (by kernel_rfl) rfl f rfl rfl rfl Tryd.call48 (fun _ _ w hG_106 m => Wk.impl_one m  hy_105) (fun a f => ?_)
   refine q_op (i := 9) (listed' := #[true, true, true, true, true, true, true, true, true, true, false, false, false]) 13 rfl (by kernel_rfl) rfl f rfl rfl rfl (fun _ _ _ _ _ => r_int (f.eval rfl) (f.eval rfl) b_andNot) (fun a f => ?_)
   obtain ⟨y_107, hy_108, hs_59⟩ := bind_some hs_59
   refine q_call (i := 10) (listed' := #[true, true, true, true, true, true, true, true, true, true, true, false, false]) 13 rfl (by kernel_rfl) rfl f rfl rfl rfl Tryd.call50 (fun _ _ w hG_109 m => Wk.impl_vset_size m  hy_108) (fun a f => ?_)
   refine q_op (i := 11) (listed' := #[true, true, true, true, true, true, true, true, true, true, true, true, false]) 13 rfl (by kernel_rfl) rfl f rfl rfl rfl (fun _ _ _ _ _ => r_int (f.eval rfl) (f.eval rfl) b_add) (fun a f => ?_)
   refine q_op (i := 12) (listed' := #[true, true, true, true, true, true, true, true, true, true, true, true, true]) 13 rfl (by kernel_rfl) rfl f rfl rfl rfl (fun _ _ _ _ _ => r_assign (f.eval rfl)) (fun a f => ?_)
   refine q_end (fun G_110 w hl_111 m => ?_)
   have h0 := RSl.mono (RI.mono _) _ _ _ _ hl_111 h0
   have g_102 := At.mono hl_111 g_102
   have o_10 := Ow.mono (RI.mono _) hl_111 o_10
   have m : Mem W G_110 w (it_9 :: H) := m
   refine l_nil ?_
   refine k_region ?_
   refine l_op f rfl rfl rfl (r_int (f.eval rfl) (f.eval rfl) b_add) (fun a f => ?_)
   refine l_op f rfl rfl rfl (r_move (f.eval rfl)) (fun a f => ?_)
   refine l_nil ?_
   obtain rfl := Option.some.inj hs_59
   exact ⟨_, rfl, _, _, rfl, _, (GLe.trans hl_66 hl_111), f.weak ⟨rfl, rfl, rfl, rfl, rfl, rfl, trivial⟩, m⟩
  ·refine k_false f rfl hc_91 ?_
   refine k_exit rfl ?_
   have m : Mem W G_63 w H := Mem.drop (H' := [it_9]) m
   obtain rfl := Option.some.inj hs_59
   obtain rfl := hq_60 _ rfl
   exact ⟨_, rfl, _, hl_66, f.weak ⟨rfl, trivial⟩, m⟩
 ·rintro a w ⟨x_89, rfl, G_88, hl_90, f, m⟩
  refine k_seq ?_
  refine k_region ?_
  refine l_op f rfl rfl rfl (r_move (f.eval rfl)) (fun a f => ?_)
  refine l_op f rfl rfl rfl (r_int (f.eval rfl) (f.eval rfl) (b_quo rfl)) (fun a f => ?_)
  refine l_op f rfl rfl rfl (r_assign (f.eval rfl)) (fun a f => ?_)
  refine l_nil ?_
  refine k_ret ?_
  obtain rfl := Option.some.inj hd
  exact ⟨[(.int .i64 (IntKind.i64.wrap (Int.tdiv x_89 2)))], ⟨f.get _ _ rfl, trivial⟩, f.defers, _, [], (GLe.trans hl_4 hl_90), m, rfl, rfl⟩

theorem Wk.impl_orderBy__impl_missing {W w : World} {G : GH} {H : List Itm} {v0 : Value} {x0 : (List Int)} (hW : TabW W) (m : Mem W G w (H)) (h0 : RSl (RI .u32) G v0 x0) {y : ((List Int))} (hd : D.impl_orderBy__impl_missing x0 = some y) :
  Calls Tryd.prog 86 #[v0, (.func (.func 88) #[] #[])] w (Res W G H (fun G' Ho v => ∃ r0 : Value, ∃ i0 : Itm, Ho = [i0] ∧ r0 = v ∧ Ow (RI .i64) 3 G' i0 r0 y)) := by
 refine calls_b (args := [v0, (.func (.func 88) #[] #[])]) (N := 59) [.tmp 4] Tryd.func86 rfl rfl (Nat.le_of_ble_eq_true rfl) rfl (fun a f => ?_)
 unfold D.impl_orderBy__impl_missing at hd
 refine k_seq ?_
 refine k_region ?_
 refine l_op f rfl rfl rfl (r_assign (f.eval rfl)) (fun a f => ?_)
 refine l_nil ?_
 refine k_seq ?_
 refine k_region ?_
 refine l_slit (R := (RI .u32)) (xs := ([] : List Int)) (RI.one _) m T61 f rfl rfl rfl (by decide) (All2.nil _) (fun it_1 v_2 w a m o_3 f => ?_)
 refine l_op f rfl rfl rfl (r_move (f.eval rfl)) (fun a f => ?_)
 obtain ⟨l_5, hx_6, hd⟩ := bind_some hd
 refine l_append (RI.one _) 0 m o_3 rfl T61 rfl (by decide) f rfl rfl rfl (h0.src m) hx_6 (fun it_7 v_8 w a m o_9 f => ?_)
 have m : Mem W G w (it_7 :: H) := m
 refine l_slit (R := (RI .i64)) (xs := ([] : List Int)) (RI.one _) m T63 f rfl rfl rfl (by decide) (All2.nil _) (fun it_11 v_12 w a m o_13 f => ?_)
 refine l_op f rfl rfl rfl (r_assign (f.eval rfl)) (fun a f => ?_)
 refine l_op f rfl rfl rfl (r_assign (f.eval rfl)) (fun a f => ?_)
 refine l_nil ?_
 refine k_seq ?_
 refine k_seq ?_
 refine k_region ?_
 refine l_op f rfl rfl rfl (r_move (f.eval rfl)) (fun a f => ?_)
 obtain ⟨y_15, hy_16, hd⟩ := bind_some hd
 refine l_res f rfl rfl Tryd.call84 (Ow.lendCall (RI.mono _) 1 o_9 m rfl (fun G_17 hl_18 m h_19 => Wk.impl_nets_all m h_19 hy_16) (fun _ _ _ _ h => h)) (fun v_23 G_20 Ho_24 w hl_21 m hQ_22 a f => ?_)
 obtain ⟨rfl, rfl⟩ := hQ_22
 have o_13 := Ow.mono (RI.mono _) hl_21 o_13
 have o_9 := Ow.mono (RI.mono _) hl_21 o_9
 have m : Mem W G_20 w (it_11 :: it_7 :: H) := m
 refine l_op f rfl rfl rfl (r_assign (f.eval rfl)) (fun a f => ?_)
 refine l_nil ?_
 obtain ⟨q_363, hl_364, hd⟩ := bind_some hd
 refine k_cut (fun a w => ∃ l_545 : List Int, l_545 = q_363 ∧ ∃ (G_544 : GH) (v_546 : Value) (it_547 : Itm), GLe G_20 G_544 ∧ Fr a 59 [(5, v_546)] ∧ Mem W G_544 w (it_547 :: H) ∧ Ow (RI .i64) 3 G_544 it_547 v_546 l_545) ?_ ?_
 ·refine k_block ?_
  have m : Mem W G_20 w (it_7 :: it_11 :: H) := m.front 1 rfl
  refine k_loop (fun s_367 a w => ∃ l_370 : List Int, ∃ l_373 : List Int, ∃ x_378 : Int, (l_370, l_373, x_378) = s_367 ∧ ∃ (G_369 : GH) (it_371 : Itm) (v_374 : Value) (it_375 : Itm), GLe G_20 G_369 ∧ Fr a 59 [(0, v_8), (1, (.func (.func 88) #[] #[])), (5, v_374), (6, (.int .u32 x_378))] ∧ Mem W G_369 w (it_371 :: it_375 :: H) ∧ Ow (RI .u32) 66 G_369 it_371 v_8 l_370 ∧ Ow (RI .i64) 3 G_369 it_375 v_374 l_373) hl_364 ⟨_, _, _, rfl, _, it_7, v_12, it_11, (GLe.refl _), f.weak ⟨rfl, rfl, rfl, rfl, trivial⟩, m, o_9, o_13⟩ ?_
  clear hl_364 f m
  rintro s_367 o_368 hs_365 hq_366 a w ⟨l_370, l_373, x_378, rfl, G_369, it_371, v_374, it_375, hl_379, f, m, o_372, o_376⟩
  refine k_seq ?_
  refine k_seq ?_
  refine k_region ?_
  refine l_op f rfl rfl rfl (r_move (f.eval rfl)) (fun a f => ?_)
  refine l_op f rfl rfl rfl (r_int (f.eval rfl) (f.eval rfl) b_neq) (fun a f => ?_)
  refine l_nil ?_
  rcases cond_some hs_365 with ⟨hc_551, hs_365⟩ | ⟨hc_551, hs_365⟩
  ·refine k_true f rfl hc_551 ?_
   refine k_skip ?_
   refine k_block ?_
   refine k_seq ?_
   refine k_region ?_
   refine l_op f rfl rfl rfl (r_assign (f.eval rfl)) (fun a f => ?_)
   refine l_op f rfl rfl rfl (r_assign (f.eval rfl)) (fun a f => ?_)
   refine l_nil ?_
   refine k_seq ?_
   refine k_seq ?_
   refine k_region ?_
   refine l_op f rfl rfl rfl (r_move (f.eval rfl)) (fun a f => ?_)
   obtain ⟨y_552, hy_553, hs_365⟩ := bind_some hs_365
   refine l_res f rfl rfl Tryd.call62 (Wk.impl_vset_list hW m  hy_553) (fun v_557 G_554 Ho_558 w hl_555 m hQ_556 a f => ?_)
   obtain ⟨v_559, it_560, rfl, rfl, o_561⟩ := hQ_556
   have o_372 := Ow.mono (RI.mono _) hl_555 o_372
   have o_376 := Ow.mono (RI.mono _) hl_555 o_376
   have m : Mem W G_554 w (it_560 :: it_371 :: it_375 :: H) := m
   refine l_own_len 0 m o_561 rfl Tryd.underlying63 f rfl rfl (fun a f => ?_)
   refine l_op f rfl rfl rfl (r_move (f.eval rfl)) (fun a f => ?_)
   refine l_nil ?_
   obtain ⟨q_621, hl_622, hs_365⟩ := bind_some hs_365
   refine k_cut (fun a w => ∃ x_660 : Int, x_660 = q_621 ∧ ∃ (G_659 : GH), GLe G_554 G_659 ∧ Fr a 59 [(0, v_8), (1, (.func (.func 88) #[] #[])), (5, v_374), (6, (.int .u32 x_378)), (7, (.int .i64 x_660))] ∧ Mem W G_659 w (it_371 :: it_375 :: H)) ?_ ?_
   ·refine k_block ?_
    have m : Mem W G_554 w (it_375 :: it_560 :: it_371 :: H) := m.front 2 rfl
    have m : Mem W G_554 w (it_371 :: it_375 :: it_560 :: H) := m.front 2 rfl
    refine k_loop (fun s_625 a w => ∃ x_628 : Int, ∃ x_629 : Int, ∃ x_630 : Int, (x_628, x_629, x_630) = s_625 ∧ ∃ (G_627 : GH), GLe G_554 G_627 ∧ Fr a 59 [(0, v_8), (1, (.func (.func 88) #[] #[])), (5, v_374), (6, (.int .u32 x_378)), (7, (.int .i64 x_628)), (8, (.int .i64 x_629)), (21, v_559), (22, (.int .i64 (y_552.length : Int))), (23, (.int .i64 x_630))] ∧ Mem W G_627 w (it_371 :: it_375 :: it_560 :: H)) hl_622 ⟨_, _, _, rfl, _, (GLe.refl _), f.weak ⟨rfl, rfl, rfl, rfl, rfl, rfl, rfl, rfl, rfl, trivial⟩, m⟩ ?_
    clear hl_622 f m
    rintro s_625 o_626 hs_623 hq_624 a w ⟨x_628, x_629, x_630, rfl, G_627, hl_631, f, m⟩
    have o_372 := Ow.mono (RI.mono _) hl_631 o_372
    have o_376 := Ow.mono (RI.mono _) hl_631 o_376
    have o_561 := Ow.mono (RI.mono _) hl_631 o_561
    refine k_seq ?_
    refine k_region ?_
    refine l_op f rfl rfl rfl (r_int (f.eval rfl) (f.eval rfl) b_lss) (fun a f => ?_)
    refine l_nil ?_
    refine k_seq ?_
    rcases cond_some hs_623 with ⟨hc_662, hs_623⟩ | ⟨hc_662, hs_623⟩
    ·refine k_true f rfl hc_662 ?_
     refine k_skip ?_
     refine k_seq ?_
     refine k_block ?_
     refine k_seq ?_
     refine k_region ?_
     obtain ⟨e_663, he_664, hs_623⟩ := bind_some hs_623
     refine l_own_at 2 m o_561 rfl T63 f rfl rfl rfl he_664 (fun p_665 a ha_666 f => ?_)
     refine l_own_load 2 m o_561 rfl Pl3 f rfl rfl ha_666 he_664 (fun c_667 a h_668 f => ?_)
     subst h_668
     refine l_op f rfl rfl rfl (r_assign (f.eval rfl)) (fun a f => ?_)
     refine l_nil ?_
     refine k_seq ?_
     refine k_region ?_
     refine l_op f rfl rfl rfl (r_move (f.eval rfl)) (fun a f => ?_)
     refine l_op f rfl rfl rfl (r_move (f.eval rfl)) (fun a f => ?_)
     refine l_op f rfl rfl rfl (r_move (f.eval rfl)) (fun a f => ?_)
     refine l_op f rfl rfl rfl (r_move (f.eval rfl)) (fun a f => ?_)
     obtain ⟨e_669, he_670, hs_623⟩ := bind_some hs_623
     refine l_own_at 0 m o_372 rfl T61 f rfl rfl rfl he_670 (fun p_671 a ha_672 f => ?_)
     refine l_own_load 0 m o_372 rfl Pl66 f rfl rfl ha_672 he_670 (fun c_673 a h_674 f => ?_)
     subst h_674
     refine l_op f rfl rfl rfl (r_move (f.eval rfl)) (fun a f => ?_)
     refine l_op f rfl rfl rfl (r_int (f.eval rfl) (f.eval rfl) b_and) (fun a f => ?_)
     obtain ⟨y_675, hy_676, hs_623⟩ := bind_some hs_623
     refine l_resv0 f rfl rfl rfl Tryd.call88 (Ow.lendCall (RI.mono _) 0 o_372 m rfl (fun G_677 hl_678 m h_679 => Wk.impl_missing hW m h_679 hy_676) (fun _ _ _ _ h => h)) (fun v_683 G_680 Ho_684 w hl_681 m hQ_682 a f => ?_)
     obtain ⟨rfl, rfl⟩ := hQ_682
     have o_372 := Ow.mono (RI.mono _) hl_681 o_372
     have o_376 := Ow.mono (RI.mono _) hl_681 o_376
     have o_561 := Ow.mono (RI.mono _) hl_681 o_561
     have m : Mem W G_680 w (it_371 :: it_375 :: it_560 :: H) := m
     refine l_op f rfl rfl rfl (r_assign (f.eval rfl)) (fun a f => ?_)
     refine l_nil ?_
     refine k_seq ?_
     refine k_region ?_
     refine l_op f rfl rfl rfl (r_move (f.eval rfl)) (fun a f => ?_)
     refine l_op f rfl rfl rfl (r_int (f.eval rfl) (f.eval rfl) b_lss) (fun a f => ?_)
     refine l_op f rfl rfl rfl (r_move (f.eval rfl)) (fun a f => ?_)
     refine l_cut 4 (fun a w => ∃ G_686, GLe G_680 G_686 ∧ Mem W G_686 w (it_371 :: it_375 :: it_560 :: H) ∧ Fr a 59 [(0, v_8), (1, (.func (.func 88) #[] #[])), (5, v_374), (6, (.int .u32 x_378)), (7, (.int .i64 x_628)), (8, (.int .i64 x_629)), (10, (.int .i64 e_663)), (11, (.int .i64 y_675)), (21, v_559), (22, (.int .i64 (y_552.length : Int))), (23, (.int .i64 x_630)), (36, (.int .i64 x_628)), (37, (.bool (decide (x_628 < 0)))), (38, (.bool (decide (x_628 < 0)))), (42, (.bool ((decide (x_628 < 0)) || (decide (y_675 < x_629)))))]) ?_ ?_
     ·rcases Bool.eq_false_or_eq_true (decide (x_628 < 0)) with hc_685 | hc_685
      ·refine l_not' f rfl rfl rfl hc_685 (fun a f => ?_)
       refine l_not' f rfl rfl rfl hc_685 (fun a f => ?_)
       refine l_not' f rfl rfl rfl hc_685 (fun a f => ?_)
       refine l_op f rfl rfl rfl (r_pickT (f.eval rfl) hc_685 (f.eval rfl)) (fun a f => ?_)
       have m : Mem W G_680 w (it_560 :: it_371 :: it_375 :: H) := m.front 2 rfl
       have m : Mem W G_680 w (it_375 :: it_560 :: it_371 :: H) := m.front 2 rfl
       have m : Mem W G_680 w (it_371 :: it_375 :: it_560 :: H) := m.front 2 rfl
       exact ⟨_, (GLe.refl _), m, f.weak ⟨rfl, rfl, rfl, rfl, rfl, rfl, rfl, rfl, rfl, rfl, rfl, rfl, rfl, rfl, by rw [hc_685]; rfl, trivial⟩⟩
      ·refine l_run f rfl rfl hc_685 ?_
       refine l_op f rfl rfl rfl (r_move (f.eval rfl)) (fun a f => ?_)
       refine l_run f rfl rfl hc_685 ?_
       refine l_op f rfl rfl rfl (r_move (f.eval rfl)) (fun a f => ?_)
       refine l_run f rfl rfl hc_685 ?_
       refine l_op f rfl rfl rfl (r_int (f.eval rfl) (f.eval rfl) b_lss) (fun a f => ?_)
       refine l_op f rfl rfl rfl (r_pickF (f.eval rfl) hc_685 (f.eval rfl)) (fun a f => ?_)
       have m : Mem W G_680 w (it_560 :: it_371 :: it_375 :: H) := m.front 2 rfl
       have m : Mem W G_680 w (it_375 :: it_560 :: it_371 :: H) := m.front 2 rfl
       have m : Mem W G_680 w (it_371 :: it_375 :: it_560 :: H) := m.front 2 rfl
       exact ⟨_, (GLe.refl _), m, f.weak ⟨rfl, rfl, rfl, rfl, rfl, rfl, rfl, rfl, rfl, rfl, rfl, rfl, rfl, rfl, by rw [hc_685]; rfl, trivial⟩⟩
     ·rintro a w ⟨G_686, hl_687, m, f⟩
      have o_372 := Ow.mono (RI.mono _) hl_687 o_372
      have o_376 := Ow.mono (RI.mono _) hl_687 o_376
      have o_561 := Ow.mono (RI.mono _) hl_687 o_561
      refine l_nil ?_
      rcases cond_some hs_623 with ⟨hc_688, hs_623⟩ | ⟨hc_688, hs_623⟩
      ·refine k_true f rfl hc_688 ?_
       refine k_region ?_
       refine l_op f rfl rfl rfl (r_move (f.eval rfl)) (fun a f => ?_)
       refine l_op f rfl rfl rfl (r_move (f.eval rfl)) (fun a f => ?_)
       refine l_op f rfl rfl rfl (r_assign (f.eval rfl)) (fun a f => ?_)
       refine l_op f rfl rfl rfl (r_assign (f.eval rfl)) (fun a f => ?_)
       refine l_nil ?_
       refine k_region ?_
       refine l_op f rfl rfl rfl (r_int (f.eval rfl) (f.eval rfl) b_add) (fun a f => ?_)
       refine l_op f rfl rfl rfl (r_move (f.eval rfl)) (fun a f => ?_)
       refine l_nil ?_
       have m : Mem W G_686 w (it_560 :: it_371 :: it_375 :: H) := m.front 2 rfl
       have m : Mem W G_686 w (it_375 :: it_560 :: it_371 :: H) := m.front 2 rfl
       have m : Mem W G_686 w (it_371 :: it_375 :: it_560 :: H) := m.front 2 rfl
       obtain rfl := Option.some.inj hs_623
       exact ⟨_, rfl, _, _, _, rfl, _, (GLe.trans hl_631 (GLe.trans hl_681 hl_687)), f.weak ⟨rfl, rfl, rfl, rfl, rfl, rfl, rfl, rfl, rfl, trivial⟩, m⟩
      ·refine k_false f rfl hc_688 ?_
       refine k_skip ?_
       refine k_region ?_
       refine l_op f rfl rfl rfl (r_int (f.eval rfl) (f.eval rfl) b_add) (fun a f => ?_)
       refine l_op f rfl rfl rfl (r_move (f.eval rfl)) (fun a f => ?_)
       refine l_nil ?_
       have m : Mem W G_686 w (it_560 :: it_371 :: it_375 :: H) := m.front 2 rfl
       have m : Mem W G_686 w (it_375 :: it_560 :: it_371 :: H) := m.front 2 rfl
       have m : Mem W G_686 w (it_371 :: it_375 :: it_560 :: H) := m.front 2 rfl
       obtain rfl := Option.some.inj hs_623
       exact ⟨_, rfl, _, _, _, rfl, _, (GLe.trans hl_631 (GLe.trans hl_681 hl_687)), f.weak ⟨rfl, rfl, rfl, rfl, rfl, rfl, rfl, rfl, rfl, trivial⟩, m⟩
    ·refine k_false f rfl hc_662 ?_
     refine k_exit rfl ?_
     have m : Mem W G_627 w (it_375 :: it_371 :: it_560 :: H) := m.front 1 rfl
     have m : Mem W G_627 w (it_371 :: it_375 :: it_560 :: H) := m.front 1 rfl
     have m : Mem W G_627 w (it_371 :: it_375 :: H) := m.eraseAt 2
     obtain rfl := Option.some.inj hs_623
     obtain rfl := hq_624 _ rfl
     exact ⟨_, rfl, _, hl_631, f.weak ⟨rfl, rfl, rfl, rfl, rfl, trivial⟩, m⟩
   ·rintro a w ⟨x_660, rfl, G_659, hl_661, f, m⟩
    have o_372 := Ow.mono (RI.mono _) hl_661 o_372
    have o_376 := Ow.mono (RI.mono _) hl_661 o_376
    refine k_seq ?_
    refine k_region ?_
    refine l_op f rfl rfl rfl (r_move (f.eval rfl)) (fun a f => ?_)
    refine l_op f rfl rfl rfl (r_move (f.eval rfl)) (fun a f => ?_)
    refine l_op f rfl rfl rfl (r_move (f.eval rfl)) (fun a f => ?_)
    obtain ⟨y_689, hy_690, hs_365⟩ := bind_some hs_365
    refine l_res f rfl rfl Tryd.call119 (Wk.impl_eliminate hW m o_372 hy_690) (fun v_694 G_691 Ho_695 w hl_692 m hQ_693 a f => ?_)
    obtain ⟨it_696, rfl, o_697⟩ := hQ_693
    have o_376 := Ow.mono (RI.mono _) hl_692 o_376
    have m : Mem W G_691 w (it_696 :: it_375 :: H) := m
    refine l_nil ?_
    refine k_seq ?_
    refine k_region ?_
    refine l_op f rfl rfl rfl (r_move (f.eval rfl)) (fun a f => ?_)
    refine l_op f rfl rfl rfl (r_move (f.eval rfl)) (fun a f => ?_)
    obtain ⟨y_698, hy_699, hs_365⟩ := bind_some hs_365
    refine l_res f rfl rfl Tryd.call48 (Wk.impl_one m  hy_699) (fun v_703 G_700 Ho_704 w hl_701 m hQ_702 a f => ?_)
    obtain ⟨rfl, rfl⟩ := hQ_702
    have o_697 := Ow.mono (RI.mono _) hl_701 o_697
    have o_376 := Ow.mono (RI.mono _) hl_701 o_376
    have m : Mem W G_700 w (it_696 :: it_375 :: H) := m
    refine l_op f rfl rfl rfl (r_int (f.eval rfl) (f.eval rfl) b_andNot) (fun a f => ?_)
    refine l_op f rfl rfl rfl (r_assign (f.eval rfl)) (fun a f => ?_)
    refine l_nil ?_
    refine k_region ?_
    refine l_op f rfl rfl rfl (r_move (f.eval rfl)) (fun a f => ?_)
    refine l_op f rfl rfl rfl (r_move (f.eval rfl)) (fun a f => ?_)
    refine l_slit (R := (RI .i64)) (xs := ([x_660] : List Int)) (RI.one _) m T63 f rfl rfl rfl (by decide) (All2.cons rfl (All2.nil _)) (fun it_705 v_706 w a m o_707 f => ?_)
    obtain ⟨l_709, hx_710, hs_365⟩ := bind_some hs_365
    refine l_append (RI.one _) 2 m o_376 rfl T63 rfl (by decide) f rfl rfl rfl (Ow.src (j := 0) o_707 m rfl) hx_710 (fun it_711 v_712 w a m o_713 f => ?_)
    have m : Mem W G_700 w (it_705 :: it_696 :: it_711 :: H) := m
    refine l_op f rfl rfl rfl (r_assign (f.eval rfl)) (fun a f => ?_)
    refine l_nil ?_
    have m : Mem W G_700 w (it_711 :: it_705 :: it_696 :: H) := m.front 2 rfl
    have m : Mem W G_700 w (it_696 :: it_711 :: it_705 :: H) := m.front 2 rfl
    have m : Mem W G_700 w (it_696 :: it_711 :: H) := m.eraseAt 2
    obtain rfl := Option.some.inj hs_365
    exact ⟨_, rfl, _, _, _, rfl, _, it_696, v_712, it_711, (GLe.trans hl_379 (GLe.trans hl_555 (GLe.trans hl_661 (GLe.trans hl_692 hl_701)))), f.weak ⟨rfl, rfl, rfl, rfl, trivial⟩, m, o_697, o_713⟩
  ·refine k_false f rfl hc_551 ?_
   refine k_exit rfl ?_
   have m : Mem W G_369 w (it_375 :: it_371 :: H) := m.front 1 rfl
   have m : Mem W G_369 w (it_375 :: H) := m.eraseAt 1
   obtain rfl := Option.some.inj hs_365
   obtain rfl := hq_366 _ rfl
   exact ⟨_, rfl, _, v_374, it_375, hl_379, f.weak ⟨rfl, trivial⟩, m, o_376⟩
 ·rintro a w ⟨l_545, rfl, G_544, v_546, it_547, hl_550, f, m, o_548⟩
  refine k_seq ?_
  refine k_region ?_
  refine l_op f rfl rfl rfl (r_move (f.eval rfl)) (fun a f => ?_)
  refine l_op f rfl rfl rfl (r_assign (f.eval rfl)) (fun a f => ?_)
  refine l_nil ?_
  refine k_ret ?_
  obtain rfl := Option.some.inj hd
  exact ⟨[v_546], ⟨f.get _ _ rfl, trivial⟩, f.defers, _, [it_547], (GLe.trans hl_21 hl_550), m, _, _, rfl, rfl, o_548⟩

theorem Wk.impl_ByFill {W w : World} {G : GH} {H : List Itm} {v0_0 : Value} {x0_0 : (List (List Int))} (hW : TabW W) (m : Mem W G w (H)) (h0_0 : RSl (RSl (RI .i64)) G v0_0 x0_0) {y : ((List Int))} (hd : D.impl_ByFill x0_0 = some y) :
  Calls Tryd.prog 32 #[(.agg #[v0_0])] w (Res W G H (fun G' Ho v => ∃ r0 : Value, ∃ i0 : Itm, Ho = [i0] ∧ r0 = v ∧ Ow (RI .i64) 2 G' i0 r0 y)) := by
 refine calls_b (args := [(.agg #[v0_0])]) (N := 10) [.tmp 2] Tryd.func32 rfl rfl (Nat.le_of_ble_eq_true rfl) rfl (fun a f => ?_)
 unfold D.impl_ByFill at hd
 refine k_seq ?_
 refine k_region ?_
 refine l_box (cs := [v0_0]) m f rfl rfl rfl (fun b_2 w a m f => ?_)
 refine l_op f rfl rfl rfl (r_assign (f.eval rfl)) (fun a f => ?_)
 refine l_nil ?_
 refine k_seq ?_
 refine k_seq ?_
 refine k_region ?_
 refine l_boxAgg 0 0 (ds := [v0_0]) m Ag29 f rfl rfl rfl rfl rfl (fun a f => ?_)
 obtain ⟨y_3, hy_4, hd⟩ := bind_some hd
 refine l_res f rfl rfl Tryd.call55 (Wk.impl_GraphOk m h0_0 hy_4) (fun v_8 G_5 Ho_9 w hl_6 m hQ_7 a f => ?_)
 obtain ⟨rfl, rfl⟩ := hQ_7
 have h0_0 := RSl.mono (RSl.mono (RI.mono _)) _ _ _ _ hl_6 h0_0
 have m : Mem W G_5 w (Itm.box b_2 29 [v0_0] :: H) := m
 refine l_op f rfl rfl rfl (r_not (f.eval rfl)) (fun a f => ?_)
 refine l_nil ?_
 rcases cond_some hd with ⟨hc_10, hd⟩ | ⟨hc_10, hd⟩
 ·refine k_true f rfl hc_10 ?_
  refine k_seq ?_
  refine k_region ?_
  refine l_op f rfl rfl rfl (r_assign (f.eval rfl)) (fun a f => ?_)
  refine l_nil ?_
  refine k_ret ?_
  obtain ⟨it_11, m, o_12⟩ := Ow.nil (RI .i64) 2 m
  have m : Mem W G_5 w (it_11 :: Itm.box b_2 29 [v0_0] :: H) := m
  have m : Mem W G_5 w (it_11 :: H) := m.eraseAt 1
  obtain rfl := Option.some.inj hd
  exact ⟨[(.slice none 0 0)], ⟨f.get _ _ rfl, trivial⟩, f.defers, _, [it_11], hl_6, m, _, _, rfl, rfl, o_12⟩
 ·refine k_false f rfl hc_10 ?_
  refine k_skip ?_
  refine k_seq ?_
  refine k_region ?_
  refine l_boxAgg 0 0 (ds := [v0_0]) m Ag29 f rfl rfl rfl rfl rfl (fun a f => ?_)
  obtain ⟨y_14, hy_15, hd⟩ := bind_some hd
  refine l_res f rfl rfl Tryd.call46 (Wk.impl_netsOf m h0_0 hy_15) (fun v_19 G_16 Ho_20 w hl_17 m hQ_18 a f => ?_)
  obtain ⟨v_21, it_22, rfl, rfl, o_23⟩ := hQ_18
  have h0_0 := RSl.mono (RSl.mono (RI.mono _)) _ _ _ _ hl_17 h0_0
  have m : Mem W G_16 w (it_22 :: Itm.box b_2 29 [v0_0] :: H) := m
  obtain ⟨y_25, hy_26, hd⟩ := bind_some hd
  refine l_res f rfl rfl Tryd.call86 (Ow.lendCall (RI.mono _) 0 o_23 m rfl (fun G_27 hl_28 m h_29 => Wk.impl_orderBy__impl_missing hW m h_29 hy_26) (fun _ G' _ _ ⟨a0, a1, e1, e2, o0⟩ => ⟨a0, a1, e1, e2, Ow.free (RI.free _) G' o0⟩)) (fun v_33 G_30 Ho_34 w hl_31 m hQ_32 a f => ?_)
  obtain ⟨v_35, it_36, rfl, rfl, o_37⟩ := hQ_32
  have h0_0 := RSl.mono (RSl.mono (RI.mono _)) _ _ _ _ hl_31 h0_0
  have o_23 := Ow.mono (RI.mono _) hl_31 o_23
  have m : Mem W G_30 w (it_36 :: it_22 :: Itm.box b_2 29 [v0_0] :: H) := m
  obtain ⟨y_39, hy_40, hd⟩ := bind_some hd
  refine l_res f rfl rfl Tryd.call63 (Ow.lendCall (RI.mono _) 0 o_37 m rfl (fun G_41 hl_42 m h_43 => Wk.impl_wide m h_43 hy_40) (fun _ G' _ _ ⟨a0, a1, e1, e2, o0⟩ => ⟨a0, a1, e1, e2, Ow.free (RI.free _) G' o0⟩)) (fun v_47 G_44 Ho_48 w hl_45 m hQ_46 a f => ?_)
  obtain ⟨v_49, it_50, rfl, rfl, o_51⟩ := hQ_46
  have h0_0 := RSl.mono (RSl.mono (RI.mono _)) _ _ _ _ hl_45 h0_0
  have o_37 := Ow.mono (RI.mono _) hl_45 o_37
  have o_23 := Ow.mono (RI.mono _) hl_45 o_23
  have m : Mem W G_44 w (it_50 :: it_36 :: it_22 :: Itm.box b_2 29 [v0_0] :: H) := m
  refine l_op f rfl rfl rfl (r_assign (f.eval rfl)) (fun a f => ?_)
  refine l_nil ?_
  refine k_ret ?_
  have m : Mem W G_44 w (it_50 :: it_36 :: it_22 :: H) := m.eraseAt 3
  have m : Mem W G_44 w (it_50 :: it_36 :: H) := m.eraseAt 2
  have m : Mem W G_44 w (it_50 :: H) := m.eraseAt 1
  obtain rfl := Option.some.inj hd
  exact ⟨[v_49], ⟨f.get _ _ rfl, trivial⟩, f.defers, _, [it_50], (GLe.trans hl_6 (GLe.trans hl_17 (GLe.trans hl_31 hl_45))), m, _, _, rfl, rfl, o_51⟩

theorem Wk.spec_DegeneracyOf {W w : World} {G : GH} {H : List Itm} {v0_0 : Value} {x0_0 : (List (List Int))} (m : Mem W G w (H)) (h0_0 : RSl (RSl (RI .i64)) G v0_0 x0_0) {y : Int} (hd : D.spec_DegeneracyOf x0_0 = some y) :
  Calls Tryd.prog 33 #[(.agg #[v0_0])] w (Res W G H (fun _ Ho v => Ho = [] ∧ v = (.int .i64 y))) := by
 refine calls_b (args := [(.agg #[v0_0])]) (N := 60) [.tmp 2] Tryd.func33 rfl rfl (Nat.le_of_ble_eq_true rfl) rfl (fun a f => ?_)
 unfold D.spec_DegeneracyOf at hd
 refine k_seq ?_
 refine k_region ?_
 refine l_box (cs := [v0_0]) m f rfl rfl rfl (fun b_2 w a m f => ?_)
 refine l_op f rfl rfl rfl (r_assign (f.eval rfl)) (fun a f => ?_)
 refine l_nil ?_
 refine k_seq ?_
 refine k_seq ?_
 refine k_region ?_
 refine l_boxAgg 0 0 (ds := [v0_0]) m Ag29 f rfl rfl rfl rfl rfl (fun a f => ?_)
 obtain ⟨y_3, hy_4, hd⟩ := bind_some hd
 refine l_res f rfl rfl Tryd.call51 (Wk.spec_GraphOk m h0_0 hy_4) (fun v_8 G_5 Ho_9 w hl_6 m hQ_7 a f => ?_)
 obtain ⟨rfl, rfl⟩ := hQ_7
 have h0_0 := RSl.mono (RSl.mono (RI.mono _)) _ _ _ _ hl_6 h0_0
 have m : Mem W G_5 w (Itm.box b_2 29 [v0_0] :: H) := m
 refine l_op f rfl rfl rfl (r_not (f.eval rfl)) (fun a f => ?_)
 refine l_nil ?_
 rcases cond_some hd with ⟨hc_10, hd⟩ | ⟨hc_10, hd⟩
 ·refine k_true f rfl hc_10 ?_
  refine k_seq ?_
  refine k_region ?_
  refine l_op f rfl rfl rfl (r_assign (f.eval rfl)) (fun a f => ?_)
  refine l_nil ?_
  refine k_ret ?_
  have m : Mem W G_5 w H := Mem.drop (H' := [Itm.box b_2 29 [v0_0]]) m
  obtain rfl := Option.some.inj hd
  exact ⟨[(.int .i64 (-1))], ⟨f.get _ _ rfl, trivial⟩, f.defers, _, [], hl_6, m, rfl, rfl⟩
 ·refine k_false f rfl hc_10 ?_
  refine k_skip ?_
  refine k_seq ?_
  refine k_region ?_
  refine l_boxAgg 0 0 (ds := [v0_0]) m Ag29 f rfl rfl rfl rfl rfl (fun a f => ?_)
  obtain ⟨y_11, hy_12, hd⟩ := bind_some hd
  refine l_res f rfl rfl Tryd.call89 (Wk.spec_l1Size m h0_0 hy_12) (fun v_16 G_13 Ho_17 w hl_14 m hQ_15 a f => ?_)
  obtain ⟨rfl, rfl⟩ := hQ_15
  have h0_0 := RSl.mono (RSl.mono (RI.mono _)) _ _ _ _ hl_14 h0_0
  have m : Mem W G_13 w (Itm.box b_2 29 [v0_0] :: H) := m
  obtain ⟨l_18, hx_19, hd⟩ := bind_some hd
  refine l_make (R := RB) m T103 rfl (by decide) rfl f rfl rfl rfl hx_19 (fun it_20 v_21 w a m o_22 f => ?_)
  refine l_op f rfl rfl rfl (r_assign (f.eval rfl)) (fun a f => ?_)
  refine l_nil ?_
  refine k_seq ?_
  refine k_region ?_
  refine l_op f rfl rfl rfl (r_assign (f.eval rfl)) (fun a f => ?_)
  refine l_nil ?_
  refine k_seq ?_
  refine k_seq ?_
  refine k_region ?_
  refine l_op f rfl rfl rfl (r_assign (f.eval rfl)) (fun a f => ?_)
  refine l_nil ?_
  obtain ⟨q_588, hl_589, hd⟩ := bind_some hd
  refine k_cut (fun a w => ∃ x_881 : Int, x_881 = q_588 ∧ ∃ (G_880 : GH), GLe G_13 G_880 ∧ Fr a 60 [(4, (.int .i64 x_881))] ∧ Mem W G_880 w (H)) ?_ ?_
  ·refine k_block ?_
   have m : Mem W G_13 w (Itm.box b_2 29 [v0_0] :: it_20 :: H) := m.front 1 rfl
   refine k_loop (fun s_592 a w => ∃ l_595 : List Bool, ∃ x_598 : Int, ∃ x_599 : Int, (l_595, x_598, x_599) = s_592 ∧ ∃ (G_594 : GH) (it_596 : Itm), GLe G_13 G_594 ∧ Fr a 60 [(1, (.pointer (some ⟨b_2, 0, none⟩))), (3, v_21), (4, (.int .i64 x_598)), (5, (.int .i64 x_599))] ∧ Mem W G_594 w (Itm.box b_2 29 [v0_0] :: it_596 :: H) ∧ Ow RB 4 G_594 it_596 v_21 l_595) hl_589 ⟨_, _, _, rfl, _, it_20, (GLe.refl _), f.weak ⟨rfl, rfl, rfl, rfl, trivial⟩, m, o_22⟩ ?_
   clear hl_589 f m
   rintro s_592 o_593 hs_590 hq_591 a w ⟨l_595, x_598, x_599, rfl, G_594, it_596, hl_600, f, m, o_597⟩
   have h0_0 := RSl.mono (RSl.mono (RI.mono _)) _ _ _ _ hl_600 h0_0
   refine k_seq ?_
   refine k_seq ?_
   refine k_region ?_
   refine l_op f rfl rfl rfl (r_move (f.eval rfl)) (fun a f => ?_)
   refine l_boxAgg 0 0 (ds := [v0_0]) m Ag29 f rfl rfl rfl rfl rfl (fun a f => ?_)
   obtain ⟨y_883, hy_884, hs_590⟩ := bind_some hs_590
   refine l_res f rfl rfl Tryd.call89 (Wk.spec_l1Size m h0_0 hy_884) (fun v_888 G_885 Ho_889 w hl_886 m hQ_887 a f => ?_)
   obtain ⟨rfl, rfl⟩ := hQ_887
   have h0_0 := RSl.mono (RSl.mono (RI.mono _)) _ _ _ _ hl_886 h0_0
   have o_597 := Ow.mono RB.mono hl_886 o_597
   have m : Mem W G_885 w (Itm.box b_2 29 [v0_0] :: it_596 :: H) := m
   refine l_op f rfl rfl rfl (r_int (f.eval rfl) (f.eval rfl) b_lss) (fun a f => ?_)
   refine l_nil ?_
   rcases cond_some hs_590 with ⟨hc_890, hs_590⟩ | ⟨hc_890, hs_590⟩
   ·refine k_true f rfl hc_890 ?_
    refine k_skip ?_
    refine k_seq ?_
    refine k_block ?_
    refine k_seq ?_
    refine k_region ?_
    refine l_op f rfl rfl rfl (r_assign (f.eval rfl)) (fun a f => ?_)
    refine l_nil ?_
    refine k_seq ?_
    refine k_seq ?_
    refine k_region ?_
    refine l_op f rfl rfl rfl (r_assign (f.eval rfl)) (fun a f => ?_)
    refine l_nil ?_
    obtain ⟨q_1008, hl_1009, hs_590⟩ := bind_some hs_590
    refine k_cut (fun a w => ∃ x_1076 : Int, x_1076 = q_1008 ∧ ∃ (G_1075 : GH), GLe G_885 G_1075 ∧ Fr a 60 [(1, (.pointer (some ⟨b_2, 0, none⟩))), (3, v_21), (4, (.int .i64 x_598)), (5, (.int .i64 x_599)), (6, (.int .i64 x_1076))] ∧ Mem W G_1075 w (Itm.box b_2 29 [v0_0] :: it_596 :: H)) ?_ ?_
    ·refine k_block ?_
     have m : Mem W G_885 w (it_596 :: Itm.box b_2 29 [v0_0] :: H) := m.front 1 rfl
     have m : Mem W G_885 w (Itm.box b_2 29 [v0_0] :: it_596 :: H) := m.front 1 rfl
     refine k_loop (fun s_1012 a w => ∃ x_1015 : Int, ∃ x_1016 : Int, (x_1015, x_1016) = s_1012 ∧ ∃ (G_1014 : GH), GLe G_885 G_1014 ∧ Fr a 60 [(1, (.pointer (some ⟨b_2, 0, none⟩))), (3, v_21), (4, (.int .i64 x_598)), (5, (.int .i64 x_599)), (6, (.int .i64 x_1015)), (7, (.int .i64 x_1016))] ∧ Mem W G_1014 w (Itm.box b_2 29 [v0_0] :: it_596 :: H)) hl_1009 ⟨_, _, rfl, _, (GLe.refl _), f.weak ⟨rfl, rfl, rfl, rfl, rfl, rfl, trivial⟩, m⟩ ?_
     clear hl_1009 f m
     rintro s_1012 o_1013 hs_1010 hq_1011 a w ⟨x_1015, x_1016, rfl, G_1014, hl_1017, f, m⟩
     have h0_0 := RSl.mono (RSl.mono (RI.mono _)) _ _ _ _ hl_1017 h0_0
     have o_597 := Ow.mono RB.mono hl_1017 o_597
     refine k_seq ?_
     refine k_seq ?_
     refine k_region ?_
     refine l_op f rfl rfl rfl (r_move (f.eval rfl)) (fun a f => ?_)
     refine l_boxAgg 0 0 (ds := [v0_0]) m Ag29 f rfl rfl rfl rfl rfl (fun a f => ?_)
     obtain ⟨y_1078, hy_1079, hs_1010⟩ := bind_some hs_1010
     refine l_res f rfl rfl Tryd.call89 (Wk.spec_l1Size m h0_0 hy_1079) (fun v_1083 G_1080 Ho_1084 w hl_1081 m hQ_1082 a f => ?_)
     obtain ⟨rfl, rfl⟩ := hQ_1082
     have h0_0 := RSl.mono (RSl.mono (RI.mono _)) _ _ _ _ hl_1081 h0_0
     have o_597 := Ow.mono RB.mono hl_1081 o_597
     have m : Mem W G_1080 w (Itm.box b_2 29 [v0_0] :: it_596 :: H) := m
     refine l_op f rfl rfl rfl (r_int (f.eval rfl) (f.eval rfl) b_lss) (fun a f => ?_)
     refine l_nil ?_
     rcases cond_some hs_1010 with ⟨hc_1085, hs_1010⟩ | ⟨hc_1085, hs_1010⟩
     ·refine k_true f rfl hc_1085 ?_
      refine k_skip ?_
      refine k_seq ?_
      refine k_block ?_
      refine k_seq ?_
      refine k_draw 22 Follows (by kernel_rfl) m ?_
      refine q_op (i := 0) (listed' := #[true, false, false, false, false, false, false, false, false, false, false, false, false, false, false, false, false, false, false, false, false, false]) 22 rfl (by kernel_rfl) rfl f rfl rfl rfl (fun _ _ _ _ _ => r_move (f.eval rfl)) (fun a f => ?_)
      refine q_op (i := 1) (listed' := #[true, true, false, false, false, false, false, false, false, false, false, false, false, false, false, false, false, false, false, false, false, false]) 22 rfl (by kernel_rfl) rfl f rfl rfl rfl (fun _ _ _ _ _ => r_move (f.eval rfl)) (fun a f => ?_)
      obtain ⟨e_1086, he_1087, hs_1010⟩ := bind_some hs_1010
      refine q_own_at (i := 2) (listed' := #[true, true, true, false, false, false, false, false, false, false, false, false, false, false, false, false, false, false, false, false, false, false]) 22 1 m o_597 rfl T103 he_1087 rfl (by kernel_rfl) rfl f rfl rfl rfl rfl (fun p_1088 a ha_1089 f => ?_)
      refine q_own_load (i := 3) (listed' := #[true, true, true, true, false, false, false, false, false, false, false, false, false, false, false, false, false, false, false, false, false, false]) 22 1 o_597 rfl Pl4 ha_1089 he_1087 rfl (by kernel_rfl) rfl f rfl rfl rfl (fun c_1090 a h_1091 f => ?_)
      subst h_1091
      refine q_op (i := 4) (listed' := #[true, true, true, true, true, false, false, false, false, false, false, false, false, false, false, false, false, false, false, false, false, false]) 22 rfl (by kernel_rfl) rfl f rfl rfl rfl (fun _ _ _ _ _ => r_not (f.eval rfl)) (fun a f => ?_)
      refine q_op (i := 5) (listed' := #[true, true, true, true, true, true, false, false, false, false, false, false, false, false, false, false, false, false, false, false, false, false]) 22 rfl (by kernel_rfl) rfl f rfl rfl rfl (fun _ _ _ _ _ => r_move (f.eval rfl)) (fun a f => ?_)
      rcases cond_some hs_1010 with ⟨hc_1092, hs_1010⟩ | ⟨hc_1092, hs_1010⟩
      ·refine q_op (i := 6) (listed' := #[true, true, true, true, true, true, true, false, false, false, false, false, false, false, false, false, false, false, false, false, false, false]) 22 rfl (by kernel_rfl) rfl f (wanted_of f rfl rfl rfl hc_1092) rfl rfl (fun _ _ _ _ _ => r_move (f.eval rfl)) (fun a f => ?_)
       refine q_op (i := 7) (listed' := #[true, true, true, true, true, true, true, true, false, false, false, false, false, false, false, false, false, false, false, false, false, false]) 22 rfl (by kernel_rfl) rfl f (wanted_of f rfl rfl rfl hc_1092) rfl rfl (fun _ _ _ _ _ => r_int (f.eval rfl) (f.eval rfl) b_lss) (fun a f => ?_)
       refine q_op (i := 8) (listed' := #[true, true, true, true, true, true, true, true, true, false, false, false, false, false, false, false, false, false, false, false, false, false]) 22 rfl (by kernel_rfl) rfl f (wanted_of f rfl rfl rfl hc_1092) rfl rfl (fun _ _ _ _ _ => r_move (f.eval rfl)) (fun a f => ?_)
       rcases cond_some hs_1010 with ⟨hc_1093, hs_1010⟩ | ⟨hc_1093, hs_1010⟩
       ·refine q_not (i := 9) (listed' := #[true, true, true, true, true, true, true, true, true, true, false, false, false, false, false, false, false, false, false, false, false, false]) 22 rfl (by kernel_rfl) rfl f rfl rfl rfl hc_1093 rfl rfl (fun a f => ?_)
        refine q_not (i := 10) (listed' := #[true, true, true, true, true, true, true, true, true, true, true, false, false, false, false, false, false, false, false, false, false, false]) 22 rfl (by kernel_rfl) rfl f rfl rfl rfl hc_1093 rfl rfl (fun a f => ?_)
        refine q_not (i := 11) (listed' := #[true, true, true, true, true, true, true, true, true, true, true, true, false, false, false, false, false, false, false, false, false, false]) 22 rfl (by kernel_rfl) rfl f rfl rfl rfl hc_1093 rfl rfl (fun a f => ?_)
        refine q_not (i := 12) (listed' := #[true, true, true, true, true, true, true, true, true, true, true, true, true, false, false, false, false, false, false, false, false, false]) 22 rfl (by kernel_rfl) rfl f rfl rfl rfl hc_1093 rfl rfl (fun a f => ?_)
        refine q_not (i := 13) (listed' := #[true, true, true, true, true, true, true, true, true, true, true, true, true, true, false, false, false, false, false, false, false, false]) 22 rfl (by kernel_rfl) rfl f rfl rfl rfl hc_1093 rfl rfl (fun a f => ?_)
        refine q_not (i := 14) (listed' := #[true, true, true, true, true, true, true, true, true, true, true, true, true, true, true, false, false, false, false, false, false, false]) 22 rfl (by kernel_rfl) rfl f rfl rfl rfl hc_1093 rfl rfl (fun a f => ?_)
        refine q_not (i := 15) (listed' := #[true, true, true, true, true, true, true, true, true, true, true, true, true, true, true, true, false, false, false, false, false, false]) 22 rfl (by kernel_rfl) rfl f rfl rfl rfl hc_1093 rfl rfl (fun a f => ?_)
        refine q_not (i := 16) (listed' := #[true, true, true, true, true, true, true, true, true, true, true, true, true, true, true, true, true, false, false, false, false, false]) 22 rfl (by kernel_rfl) rfl f rfl rfl rfl hc_1093 rfl rfl (fun a f => ?_)
        refine q_not (i := 17) (listed' := #[true, true, true, true, true, true, true, true, true, true, true, true, true, true, true, true, true, true, false, false, false, false]) 22 rfl (by kernel_rfl) rfl f rfl rfl rfl hc_1093 rfl rfl (fun a f => ?_)
        refine q_not (i := 18) (listed' := #[true, true, true, true, true, true, true, true, true, true, true, true, true, true, true, true, true, true, true, false, false, false]) 22 rfl (by kernel_rfl) rfl f rfl rfl rfl hc_1093 rfl rfl (fun a f => ?_)
        refine q_not (i := 19) (listed' := #[true, true, true, true, true, true, true, true, true, true, true, true, true, true, true, true, true, true, true, true, false, false]) 22 rfl (by kernel_rfl) rfl f rfl rfl rfl hc_1093 rfl rfl (fun a f => ?_)
        refine q_op (i := 20) (listed' := #[true, true, true, true, true, true, true, true, true, true, true, true, true, true, true, true, true, true, true, true, true, false]) 22 rfl (by kernel_rfl) rfl f (wanted_of f rfl rfl rfl hc_1092) rfl rfl (fun _ _ _ _ _ => r_pickT (f.eval rfl) hc_1093 (f.eval rfl)) (fun a f => ?_)
        refine q_op (i := 21) (listed' := #[true, true, true, true, true, true, true, true, true, true, true, true, true, true, true, true, true, true, true, true, true, true]) 22 rfl (by kernel_rfl) rfl f rfl rfl rfl (fun _ _ _ _ _ => r_pickT (f.eval rfl) hc_1092 (f.eval rfl)) (fun a f => ?_)
        refine q_end (fun G_1131 w hl_1132 m => ?_)
        have h0_0 := RSl.mono (RSl.mono (RI.mono _)) _ _ _ _ hl_1132 h0_0
        have o_597 := Ow.mono RB.mono hl_1132 o_597
        have m : Mem W G_1131 w (Itm.box b_2 29 [v0_0] :: it_596 :: H) := m
        refine l_nil ?_
        refine k_true f rfl rfl ?_
        refine k_region ?_
        refine l_op f rfl rfl rfl (r_move (f.eval rfl)) (fun a f => ?_)
        refine l_op f rfl rfl rfl (r_assign (f.eval rfl)) (fun a f => ?_)
        refine l_nil ?_
        refine k_region ?_
        refine l_op f rfl rfl rfl (r_move (f.eval rfl)) (fun a f => ?_)
        refine l_op f rfl rfl rfl (r_int (f.eval rfl) (f.eval rfl) b_add) (fun a f => ?_)
        refine l_op f rfl rfl rfl (r_assign (f.eval rfl)) (fun a f => ?_)
        refine l_nil ?_
        have m : Mem W G_1131 w (it_596 :: Itm.box b_2 29 [v0_0] :: H) := m.front 1 rfl
        have m : Mem W G_1131 w (Itm.box b_2 29 [v0_0] :: it_596 :: H) := m.front 1 rfl
        obtain rfl := Option.some.inj hs_1010
        exact ⟨_, rfl, _, _, rfl, _, (GLe.trans hl_1017 (GLe.trans hl_1081 hl_1132)), f.weak ⟨rfl, rfl, rfl, rfl, rfl, rfl, trivial⟩, m⟩
       ·refine q_boxAgg (i := 9) (listed' := #[true, true, true, true, true, true, true, true, true, true, false, false, false, false, false, false, false, false, false, false, false, false]) (ds := [v0_0]) 22 0 Ag29 rfl rfl rfl rfl (by kernel_rfl) rfl f (wanted_of f rfl rfl rfl hc_1093) rfl rfl (fun a f => ?_)
        refine q_op (i := 10) (listed' := #[true, true, true, true, true, true, true, true, true, true, true, false, false, false, false, false, false, false, false, false, false, false]) 22 rfl (by kernel_rfl) rfl f (wanted_of f rfl rfl rfl hc_1093) rfl rfl (fun _ _ _ _ _ => r_move (f.eval rfl)) (fun a f => ?_)
        refine q_op (i := 11) (listed' := #[true, true, true, true, true, true, true, true, true, true, true, true, false, false, false, false, false, false, false, false, false, false]) 22 rfl (by kernel_rfl) rfl f (wanted_of f rfl rfl rfl hc_1093) rfl rfl (fun _ _ _ _ _ => r_move (f.eval rfl)) (fun a f => ?_)
        refine q_boxAgg (i := 14) (listed' := #[true, true, true, true, true, true, true, true, true, true, true, true, false, false, true, false, false, false, false, false, false, false]) (ds := [v0_0]) 22 0 Ag29 rfl rfl rfl rfl (by kernel_rfl) rfl f (wanted_of f rfl rfl rfl hc_1093) rfl rfl (fun a f => ?_)
        refine q_op (i := 15) (listed' := #[true, true, true, true, true, true, true, true, true, true, true, true, false, false, true, true, false, false, false, false, false, false]) 22 rfl (by kernel_rfl) rfl f (wanted_of f rfl rfl rfl hc_1093) rfl rfl (fun _ _ _ _ _ => r_move (f.eval rfl)) (fun a f => ?_)
        refine q_op (i := 16) (listed' := #[true, true, true, true, true, true, true, true, true, true, true, true, false, false, true, true, true, false, false, false, false, false]) 22 rfl (by kernel_rfl) rfl f (wanted_of f rfl rfl rfl hc_1093) rfl rfl (fun _ _ _ _ _ => r_move (f.eval rfl)) (fun a f => ?_)
        refine q_one (i := 12) (listed' := #[true, true, true, true, true, true, true, true, true, true, true, true, true, false, true, true, true, false, false, false, false, false]) rfl (by kernel_rfl) rfl (fun G_1094 w hl_1095 m K_1096 K_1096 => ?_)
        have h0_0 := RSl.mono (RSl.mono (RI.mono _)) _ _ _ _ hl_1095 h0_0
        have o_597 := Ow.mono RB.mono hl_1095 o_597
        have m : Mem W G_1094 w (Itm.box b_2 29 [v0_0] :: it_596 :: H) := m
        refine l_run f rfl rfl hc_1093 ?_
        obtain ⟨y_1097, hy_1098, hs_1010⟩ := bind_some hs_1010
        refine l_res f rfl rfl Tryd.call90 (Ow.lendCall RB.mono 1 o_597 m rfl (fun G_1099 hl_1100 m h_1101 => Wk.spec_l7Left m (RSl.mono (RSl.mono (RI.mono _)) _ _ _ _ hl_1100 h0_0) h_1101 hy_1098) (fun _ G' _ _ ⟨a0, a1, e1, e2, o0⟩ => ⟨a0, a1, e1, e2, Ow.free (RI.free _) G' o0⟩)) (fun v_1105 G_1102 Ho_1106 w hl_1103 m hQ_1104 a f => ?_)
        obtain ⟨v_1107, it_1108, rfl, rfl, o_1109⟩ := hQ_1104
        have h0_0 := RSl.mono (RSl.mono (RI.mono _)) _ _ _ _ hl_1103 h0_0
        have o_597 := Ow.mono RB.mono hl_1103 o_597
        have m : Mem W G_1102 w (it_1108 :: Itm.box b_2 29 [v0_0] :: it_596 :: H) := m
        refine l_nil ?_
        refine K_1096 G_1102 [it_1108] _ _ hl_1103 m ?_
        refine q_own_len (i := 13) (listed' := #[true, true, true, true, true, true, true, true, true, true, true, true, true, true, true, true, true, false, false, false, false, false]) 22 0 m o_1109 rfl Tryd.underlying31 rfl (by kernel_rfl) rfl f (wanted_of f rfl rfl rfl hc_1093) rfl rfl (fun a f => ?_)
        refine q_one (i := 17) (listed' := #[true, true, true, true, true, true, true, true, true, true, true, true, true, true, true, true, true, true, false, false, false, false]) rfl (by kernel_rfl) rfl (fun G_1111 w hl_1112 m K_1113 K_1113 => ?_)
        have h0_0 := RSl.mono (RSl.mono (RI.mono _)) _ _ _ _ hl_1112 h0_0
        have o_1109 := Ow.mono (RI.mono _) hl_1112 o_1109
        have o_597 := Ow.mono RB.mono hl_1112 o_597
        have m : Mem W G_1111 w (it_1108 :: Itm.box b_2 29 [v0_0] :: it_596 :: H) := m
        refine l_run f rfl rfl hc_1093 ?_
        obtain ⟨y_1114, hy_1115, hs_1010⟩ := bind_some hs_1010
        refine l_res f rfl rfl Tryd.call90 (Ow.lendCall RB.mono 2 o_597 m rfl (fun G_1116 hl_1117 m h_1118 => Wk.spec_l7Left m (RSl.mono (RSl.mono (RI.mono _)) _ _ _ _ hl_1117 h0_0) h_1118 hy_1115) (fun _ G' _ _ ⟨a0, a1, e1, e2, o0⟩ => ⟨a0, a1, e1, e2, Ow.free (RI.free _) G' o0⟩)) (fun v_1122 G_1119 Ho_1123 w hl_1120 m hQ_1121 a f => ?_)
        obtain ⟨v_1124, it_1125, rfl, rfl, o_1126⟩ := hQ_1121
        have h0_0 := RSl.mono (RSl.mono (RI.mono _)) _ _ _ _ hl_1120 h0_0
        have o_1109 := Ow.mono (RI.mono _) hl_1120 o_1109
        have o_597 := Ow.mono RB.mono hl_1120 o_597
        have m : Mem W G_1119 w (it_1125 :: it_1108 :: Itm.box b_2 29 [v0_0] :: it_596 :: H) := m
        refine l_nil ?_
        refine K_1113 G_1119 [it_1125, it_1108] _ _ hl_1120 m ?_
        refine q_own_len (i := 18) (listed' := #[true, true, true, true, true, true, true, true, true, true, true, true, true, true, true, true, true, true, true, false, false, false]) 22 0 m o_1126 rfl Tryd.underlying31 rfl (by kernel_rfl) rfl f (wanted_of f rfl rfl rfl hc_1093) rfl rfl (fun a f => ?_)
        refine q_op (i := 19) (listed' := #[true, true, true, true, true, true, true, true, true, true, true, true, true, true, true, true, true, true, true, true, false, false]) 22 rfl (by kernel_rfl) rfl f (wanted_of f rfl rfl rfl hc_1093) rfl rfl (fun _ _ _ _ _ => r_int (f.eval rfl) (f.eval rfl) b_lss) (fun a f => ?_)
        refine q_op (i := 20) (listed' := #[true, true, true, true, true, true, true, true, true, true, true, true, true, true, true, true, true, true, true, true, true, false]) 22 rfl (by kernel_rfl) rfl f (wanted_of f rfl rfl rfl hc_1092) rfl rfl (fun _ _ _ _ _ => r_pickF (f.eval rfl) hc_1093 (f.eval rfl)) (fun a f => ?_)
        refine q_op (i := 21) (listed' := #[true, true, true, true, true, true, true, true, true, true, true, true, true, true, true, true, true, true, true, true, true, true]) 22 rfl (by kernel_rfl) rfl f rfl rfl rfl (fun _ _ _ _ _ => r_pickT (f.eval rfl) hc_1092 (f.eval rfl)) (fun a f => ?_)
        refine q_end (fun G_1128 w hl_1129 m => ?_)
        have h0_0 := RSl.mono (RSl.mono (RI.mono _)) _ _ _ _ hl_1129 h0_0
        have o_1126 := Ow.mono (RI.mono _) hl_1129 o_1126
        have o_1109 := Ow.mono (RI.mono _) hl_1129 o_1109
        have o_597 := Ow.mono RB.mono hl_1129 o_597
        have m : Mem W G_1128 w (it_1125 :: it_1108 :: Itm.box b_2 29 [v0_0] :: it_596 :: H) := m
        refine l_nil ?_
        rcases cond_some hs_1010 with ⟨hc_1130, hs_1010⟩ | ⟨hc_1130, hs_1010⟩
        ·refine k_true f rfl hc_1130 ?_
         refine k_region ?_
         refine l_op f rfl rfl rfl (r_move (f.eval rfl)) (fun a f => ?_)
         refine l_op f rfl rfl rfl (r_assign (f.eval rfl)) (fun a f => ?_)
         refine l_nil ?_
         refine k_region ?_
         refine l_op f rfl rfl rfl (r_move (f.eval rfl)) (fun a f => ?_)
         refine l_op f rfl rfl rfl (r_int (f.eval rfl) (f.eval rfl) b_add) (fun a f => ?_)
         refine l_op f rfl rfl rfl (r_assign (f.eval rfl)) (fun a f => ?_)
         refine l_nil ?_
         have m : Mem W G_1128 w (it_596 :: it_1125 :: it_1108 :: Itm.box b_2 29 [v0_0] :: H) := m.front 3 rfl
         have m : Mem W G_1128 w (Itm.box b_2 29 [v0_0] :: it_596 :: it_1125 :: it_1108 :: H) := m.front 3 rfl
         have m : Mem W G_1128 w (Itm.box b_2 29 [v0_0] :: it_596 :: it_1125 :: H) := m.eraseAt 3
         have m : Mem W G_1128 w (Itm.box b_2 29 [v0_0] :: it_596 :: H) := m.eraseAt 2
         obtain rfl := Option.some.inj hs_1010
         exact ⟨_, rfl, _, _, rfl, _, (GLe.trans hl_1017 (GLe.trans hl_1081 (GLe.trans hl_1095 (GLe.trans hl_1103 (GLe.trans hl_1112 (GLe.trans hl_1120 hl_1129)))))), f.weak ⟨rfl, rfl, rfl, rfl, rfl, rfl, trivial⟩, m⟩
        ·refine k_false f rfl hc_1130 ?_
         refine k_skip ?_
         refine k_region ?_
         refine l_op f rfl rfl rfl (r_move (f.eval rfl)) (fun a f => ?_)
         refine l_op f rfl rfl rfl (r_int (f.eval rfl) (f.eval rfl) b_add) (fun a f => ?_)
         refine l_op f rfl rfl rfl (r_assign (f.eval rfl)) (fun a f => ?_)
         refine l_nil ?_
         have m : Mem W G_1128 w (it_596 :: it_1125 :: it_1108 :: Itm.box b_2 29 [v0_0] :: H) := m.front 3 rfl
         have m : Mem W G_1128 w (Itm.box b_2 29 [v0_0] :: it_596 :: it_1125 :: it_1108 :: H) := m.front 3 rfl
         have m : Mem W G_1128 w (Itm.box b_2 29 [v0_0] :: it_596 :: it_1125 :: H) := m.eraseAt 3
         have m : Mem W G_1128 w (Itm.box b_2 29 [v0_0] :: it_596 :: H) := m.eraseAt 2
         obtain rfl := Option.some.inj hs_1010
         exact ⟨_, rfl, _, _, rfl, _, (GLe.trans hl_1017 (GLe.trans hl_1081 (GLe.trans hl_1095 (GLe.trans hl_1103 (GLe.trans hl_1112 (GLe.trans hl_1120 hl_1129)))))), f.weak ⟨rfl, rfl, rfl, rfl, rfl, rfl, trivial⟩, m⟩
      ·refine q_not (i := 6) (listed' := #[true, true, true, true, true, true, true, false, false, false, false, false, false, false, false, false, false, false, false, false, false, false]) 22 rfl (by kernel_rfl) rfl f rfl rfl rfl hc_1092 rfl rfl (fun a f => ?_)
       refine q_not (i := 7) (listed' := #[true, true, true, true, true, true, true, true, false, false, false, false, false, false, false, false, false, false, false, false, false, false]) 22 rfl (by kernel_rfl) rfl f rfl rfl rfl hc_1092 rfl rfl (fun a f => ?_)
       refine q_not (i := 8) (listed' := #[true, true, true, true, true, true, true, true, true, false, false, false, false, false, false, false, false, false, false, false, false, false]) 22 rfl (by kernel_rfl) rfl f rfl rfl rfl hc_1092 rfl rfl (fun a f => ?_)
       refine q_notU (i := 9) (listed' := #[true, true, true, true, true, true, true, true, true, true, false, false, false, false, false, false, false, false, false, false, false, false]) 22 rfl (by kernel_rfl) rfl f rfl rfl rfl rfl rfl (fun a f => ?_)
       refine q_notU (i := 10) (listed' := #[true, true, true, true, true, true, true, true, true, true, true, false, false, false, false, false, false, false, false, false, false, false]) 22 rfl (by kernel_rfl) rfl f rfl rfl rfl rfl rfl (fun a f => ?_)
       refine q_notU (i := 11) (listed' := #[true, true, true, true, true, true, true, true, true, true, true, true, false, false, false, false, false, false, false, false, false, false]) 22 rfl (by kernel_rfl) rfl f rfl rfl rfl rfl rfl (fun a f => ?_)
       refine q_notU (i := 12) (listed' := #[true, true, true, true, true, true, true, true, true, true, true, true, true, false, false, false, false, false, false, false, false, false]) 22 rfl (by kernel_rfl) rfl f rfl rfl rfl rfl rfl (fun a f => ?_)
       refine q_notU (i := 13) (listed' := #[true, true, true, true, true, true, true, true, true, true, true, true, true, true, false, false, false, false, false, false, false, false]) 22 rfl (by kernel_rfl) rfl f rfl rfl rfl rfl rfl (fun a f => ?_)
       refine q_notU (i := 14) (listed' := #[true, true, true, true, true, true, true, true, true, true, true, true, true, true, true, false, false, false, false, false, false, false]) 22 rfl (by kernel_rfl) rfl f rfl rfl rfl rfl rfl (fun a f => ?_)
       refine q_notU (i := 15) (listed' := #[true, true, true, true, true, true, true, true, true, true, true, true, true, true, true, true, false, false, false, false, false, false]) 22 rfl (by kernel_rfl) rfl f rfl rfl rfl rfl rfl (fun a f => ?_)
       refine q_notU (i := 16) (listed' := #[true, true, true, true, true, true, true, true, true, true, true, true, true, true, true, true, true, false, false, false, false, false]) 22 rfl (by kernel_rfl) rfl f rfl rfl rfl rfl rfl (fun a f => ?_)
       refine q_notU (i := 17) (listed' := #[true, true, true, true, true, true, true, true, true, true, true, true, true, true, true, true, true, true, false, false, false, false]) 22 rfl (by kernel_rfl) rfl f rfl rfl rfl rfl rfl (fun a f => ?_)
       refine q_notU (i := 18) (listed' := #[true, true, true, true, true, true, true, true, true, true, true, true, true, true, true, true, true, true, true, false, false, false]) 22 rfl (by kernel_rfl) rfl f rfl rfl rfl rfl rfl (fun a f => ?_)
       refine q_notU (i := 19) (listed' := #[true, true, true, true, true, true, true, true, true, true, true, true, true, true, true, true, true, true, true, true, false, false]) 22 rfl (by kernel_rfl) rfl f rfl rfl rfl rfl rfl (fun a f => ?_)
       refine q_not (i := 20) (listed' := #[true, true, true, true, true, true, true, true, true, true, true, true, true, true, true, true, true, true, true, true, true, false]) 22 rfl (by kernel_rfl) rfl f rfl rfl rfl hc_1092 rfl rfl (fun a f => ?_)
       refine q_op (i := 21) (listed' := #[true, true, true, true, true, true, true, true, true, true, true, true, true, true, true, true, true, true, true, true, true, true]) 22 rfl (by kernel_rfl) rfl f rfl rfl rfl (fun _ _ _ _ _ => r_pickF (f.eval rfl) hc_1092 (f.eval rfl)) (fun a f => ?_)
       refine q_end (fun G_1133 w hl_1134 m => ?_)
       have h0_0 := RSl.mono (RSl.mono (RI.mono _)) _ _ _ _ hl_1134 h0_0
       have o_597 := Ow.mono RB.mono hl_1134 o_597
       have m : Mem W G_1133 w (Itm.box b_2 29 [v0_0] :: it_596 :: H) := m
       refine l_nil ?_
       refine k_false f rfl rfl ?_
       refine k_skip ?_
       refine k_region ?_
       refine l_op f rfl rfl rfl (r_move (f.eval rfl)) (fun a f => ?_)
       refine l_op f rfl rfl rfl (r_int (f.eval rfl) (f.eval rfl) b_add) (fun a f => ?_)
       refine l_op f rfl rfl rfl (r_assign (f.eval rfl)) (fun a f => ?_)
       refine l_nil ?_
       have m : Mem W G_1133 w (it_596 :: Itm.box b_2 29 [v0_0] :: H) := m.front 1 rfl
       have m : Mem W G_1133 w (Itm.box b_2 29 [v0_0] :: it_596 :: H) := m.front 1 rfl
       obtain rfl := Option.some.inj hs_1010
       exact ⟨_, rfl, _, _, rfl, _, (GLe.trans hl_1017 (GLe.trans hl_1081 hl_1134)), f.weak ⟨rfl, rfl, rfl, rfl, rfl, rfl, trivial⟩, m⟩
     ·refine k_false f rfl hc_1085 ?_
      refine k_exit rfl ?_
      have m : Mem W G_1080 w (it_596 :: Itm.box b_2 29 [v0_0] :: H) := m.front 1 rfl
      have m : Mem W G_1080 w (Itm.box b_2 29 [v0_0] :: it_596 :: H) := m.front 1 rfl
      obtain rfl := Option.some.inj hs_1010
      obtain rfl := hq_1011 _ rfl
      exact ⟨_, rfl, _, (GLe.trans hl_1017 hl_1081), f.weak ⟨rfl, rfl, rfl, rfl, rfl, trivial⟩, m⟩
    ·rintro a w ⟨x_1076, rfl, G_1075, hl_1077, f, m⟩
     have h0_0 := RSl.mono (RSl.mono (RI.mono _)) _ _ _ _ hl_1077 h0_0
     have o_597 := Ow.mono RB.mono hl_1077 o_597
     refine k_seq ?_
     refine k_region ?_
     refine l_op f rfl rfl rfl (r_move (f.eval rfl)) (fun a f => ?_)
     refine l_boxAgg 0 0 (ds := [v0_0]) m Ag29 f rfl rfl rfl rfl rfl (fun a f => ?_)
     refine l_op f rfl rfl rfl (r_move (f.eval rfl)) (fun a f => ?_)
     refine l_op f rfl rfl rfl (r_move (f.eval rfl)) (fun a f => ?_)
     obtain ⟨y_1135, hy_1136, hs_590⟩ := bind_some hs_590
     refine l_res f rfl rfl Tryd.call90 (Ow.lendCall RB.mono 1 o_597 m rfl (fun G_1137 hl_1138 m h_1139 => Wk.spec_l7Left m (RSl.mono (RSl.mono (RI.mono _)) _ _ _ _ hl_1138 h0_0) h_1139 hy_1136) (fun _ G' _ _ ⟨a0, a1, e1, e2, o0⟩ => ⟨a0, a1, e1, e2, Ow.free (RI.free _) G' o0⟩)) (fun v_1143 G_1140 Ho_1144 w hl_1141 m hQ_1142 a f => ?_)
     obtain ⟨v_1145, it_1146, rfl, rfl, o_1147⟩ := hQ_1142
     have h0_0 := RSl.mono (RSl.mono (RI.mono _)) _ _ _ _ hl_1141 h0_0
     have o_597 := Ow.mono RB.mono hl_1141 o_597
     have m : Mem W G_1140 w (it_1146 :: Itm.box b_2 29 [v0_0] :: it_596 :: H) := m
     refine l_own_len 0 m o_1147 rfl Tryd.underlying31 f rfl rfl (fun a f => ?_)
     obtain ⟨y_1149, hy_1150, hs_590⟩ := bind_some hs_590
     refine l_res f rfl rfl Tryd.call65 (Wk.spec_l1Max m  hy_1150) (fun v_1154 G_1151 Ho_1155 w hl_1152 m hQ_1153 a f => ?_)
     obtain ⟨rfl, rfl⟩ := hQ_1153
     have h0_0 := RSl.mono (RSl.mono (RI.mono _)) _ _ _ _ hl_1152 h0_0
     have o_1147 := Ow.mono (RI.mono _) hl_1152 o_1147
     have o_597 := Ow.mono RB.mono hl_1152 o_597
     have m : Mem W G_1151 w (it_1146 :: Itm.box b_2 29 [v0_0] :: it_596 :: H) := m
     refine l_op f rfl rfl rfl (r_assign (f.eval rfl)) (fun a f => ?_)
     refine l_nil ?_
     refine k_region ?_
     refine l_op f rfl rfl rfl (r_move (f.eval rfl)) (fun a f => ?_)
     refine l_op f rfl rfl rfl (r_move (f.eval rfl)) (fun a f => ?_)
     obtain ⟨e_1156, he_1157, hs_590⟩ := bind_some hs_590
     refine l_own_at 2 m o_597 rfl T103 f rfl rfl rfl he_1157 (fun p_1158 a ha_1159 f => ?_)
     refine l_own_store 2 m o_597 rfl Tryd.sizeOf4 f rfl rfl ha_1159 he_1157 rfl rfl rfl (fun it_1160 w m o_1161 => ?_)
     have m : Mem W G_1151 w (it_1146 :: Itm.box b_2 29 [v0_0] :: it_1160 :: H) := m
     refine l_nil ?_
     refine k_region ?_
     refine l_op f rfl rfl rfl (r_move (f.eval rfl)) (fun a f => ?_)
     refine l_op f rfl rfl rfl (r_int (f.eval rfl) (f.eval rfl) b_add) (fun a f => ?_)
     refine l_op f rfl rfl rfl (r_assign (f.eval rfl)) (fun a f => ?_)
     refine l_nil ?_
     have m : Mem W G_1151 w (it_1160 :: it_1146 :: Itm.box b_2 29 [v0_0] :: H) := m.front 2 rfl
     have m : Mem W G_1151 w (Itm.box b_2 29 [v0_0] :: it_1160 :: it_1146 :: H) := m.front 2 rfl
     have m : Mem W G_1151 w (Itm.box b_2 29 [v0_0] :: it_1160 :: H) := m.eraseAt 2
     obtain rfl := Option.some.inj hs_590
     exact ⟨_, rfl, _, _, _, rfl, _, it_1160, (GLe.trans hl_600 (GLe.trans hl_886 (GLe.trans hl_1077 (GLe.trans hl_1141 hl_1152)))), f.weak ⟨rfl, rfl, rfl, rfl, trivial⟩, m, o_1161⟩
   ·refine k_false f rfl hc_890 ?_
    refine k_exit rfl ?_
    have m : Mem W G_885 w H := Mem.drop (H' := [Itm.box b_2 29 [v0_0], it_596]) m
    obtain rfl := Option.some.inj hs_590
    obtain rfl := hq_591 _ rfl
    exact ⟨_, rfl, _, (GLe.trans hl_600 hl_886), f.weak ⟨rfl, trivial⟩, m⟩
  ·rintro a w ⟨x_881, rfl, G_880, hl_882, f, m⟩
   refine k_seq ?_
   refine k_region ?_
   refine l_op f rfl rfl rfl (r_move (f.eval rfl)) (fun a f => ?_)
   refine l_op f rfl rfl rfl (r_assign (f.eval rfl)) (fun a f => ?_)
   refine l_nil ?_
   refine k_ret ?_
   obtain rfl := Option.some.inj hd
   exact ⟨[(.int .i64 x_881)], ⟨f.get _ _ rfl, trivial⟩, f.defers, _, [], (GLe.trans hl_6 (GLe.trans hl_14 hl_882)), m, rfl, rfl⟩

theorem Wk.spec_l1CopyGraph {W w : World} {G : GH} {H : List Itm} {v0_0 : Value} {x0_0 : (List (List Int))} (m : Mem W G w (H)) (h0_0 : RSl (RSl (RI .i64)) G v0_0 x0_0) {y : ((List (List Int)))} (hd : D.spec_l1CopyGraph x0_0 = some y) :
  Calls Tryd.prog 120 #[(.agg #[v0_0])] w (Res W G H (fun G' Ho v => ∃ r0 : Value, ∃ i0 : Itm, Ho = [i0] ∧ v = (.agg #[r0]) ∧ Ow (RSl (RI .i64)) 31 G' i0 r0 y)) := by
 refine calls_b (args := [(.agg #[v0_0])]) (N := 25) [.cell 2 29] Tryd.func120 rfl rfl (Nat.le_of_ble_eq_true rfl) rfl (fun a f => ?_)
 unfold D.spec_l1CopyGraph at hd
 refine k_seq ?_
 refine k_region ?_
 refine l_box (cs := [v0_0]) m f rfl rfl rfl (fun b_2 w a m f => ?_)
 refine l_alloc (cs := [(.slice none 0 0)]) Tryd.zeroValue29 m f rfl rfl (fun b_4 w a m f => ?_)
 refine l_nil ?_
 refine k_seq ?_
 refine k_region ?_
 have hb_5 : ∀ w, (Instr.build 29 #[]).run Tryd.prog w = .ok (.agg #[(.slice none 0 0)]) w := by intro w; simp [Instr.build, Instr.fill, cells_int, cells_bool, cells_string, cells_slice, cells_pointer, cells_agg]
 refine l_build f rfl rfl hb_5 (fun a f => ?_)
 refine l_alloc (cs := [(.slice none 0 0)]) Tryd.zeroValue29 m f rfl rfl (fun b_7 w a m f => ?_)
 refine l_boxStore 0 0 (ds := [(.slice none 0 0)]) m Tryd.sizeOf29 f rfl rfl rfl (ones_cons rfl ones_nil) rfl (Nat.le_of_ble_eq_true rfl) rfl (fun w m => ?_)
 have m : Mem W G w (Itm.box b_7 29 [(.slice none 0 0)] :: Itm.box b_4 29 [(.slice none 0 0)] :: Itm.box b_2 29 [v0_0] :: H) := m
 refine l_nil ?_
 refine k_seq ?_
 refine k_seq ?_
 refine k_region ?_
 refine l_op f rfl rfl rfl (r_assign (f.eval rfl)) (fun a f => ?_)
 refine l_nil ?_
 obtain ⟨it_102, m, o_103⟩ := Ow.nil (RSl (RI .i64)) 31 m
 obtain ⟨q_96, hl_97, hd⟩ := bind_some hd
 refine k_cut (fun a w => ∃ l_153 : List (List Int), l_153 = q_96 ∧ ∃ (G_152 : GH) (v_154 : Value) (it_155 : Itm), GLe G G_152 ∧ Fr a 25 [(2, (.pointer (some ⟨b_4, 0, none⟩))), (3, (.pointer (some ⟨b_7, 0, none⟩)))] ∧ Mem W G_152 w (Itm.box b_4 29 [(.slice none 0 0)] :: Itm.box b_7 29 [v_154] :: it_155 :: H) ∧ Ow (RSl (RI .i64)) 31 G_152 it_155 v_154 l_153) ?_ ?_
 ·refine k_block ?_
  have m : Mem W G w (Itm.box b_7 29 [(.slice none 0 0)] :: it_102 :: Itm.box b_4 29 [(.slice none 0 0)] :: Itm.box b_2 29 [v0_0] :: H) := m.front 1 rfl
  have m : Mem W G w (Itm.box b_4 29 [(.slice none 0 0)] :: Itm.box b_7 29 [(.slice none 0 0)] :: it_102 :: Itm.box b_2 29 [v0_0] :: H) := m.front 2 rfl
  have m : Mem W G w (Itm.box b_2 29 [v0_0] :: Itm.box b_4 29 [(.slice none 0 0)] :: Itm.box b_7 29 [(.slice none 0 0)] :: it_102 :: H) := m.front 3 rfl
  refine k_loop (fun s_100 a w => ∃ x_106 : Int, ∃ l_107 : List (List Int), (x_106, l_107) = s_100 ∧ ∃ (G_105 : GH) (v_108 : Value) (it_109 : Itm), GLe G G_105 ∧ Fr a 25 [(1, (.pointer (some ⟨b_2, 0, none⟩))), (2, (.pointer (some ⟨b_4, 0, none⟩))), (3, (.pointer (some ⟨b_7, 0, none⟩))), (4, (.int .i64 x_106))] ∧ Mem W G_105 w (Itm.box b_2 29 [v0_0] :: Itm.box b_4 29 [(.slice none 0 0)] :: Itm.box b_7 29 [v_108] :: it_109 :: H) ∧ Ow (RSl (RI .i64)) 31 G_105 it_109 v_108 l_107) hl_97 ⟨_, _, rfl, _, (.slice none 0 0), it_102, (GLe.refl _), f.weak ⟨rfl, rfl, rfl, rfl, trivial⟩, m, o_103⟩ ?_
  clear hl_97 f m
  rintro s_100 o_101 hs_98 hq_99 a w ⟨x_106, l_107, rfl, G_105, v_108, it_109, hl_112, f, m, o_110⟩
  have h0_0 := RSl.mono (RSl.mono (RI.mono _)) _ _ _ _ hl_112 h0_0
  refine k_seq ?_
  refine k_seq ?_
  refine k_region ?_
  refine l_op f rfl rfl rfl (r_move (f.eval rfl)) (fun a f => ?_)
  refine l_fieldAddr Tryd.underlying29 rfl Tryd.sizeOf27 (by decide) f rfl rfl (fun a f => ?_)
  refine l_boxCell 0 0 m Pl27 f rfl rfl rfl rfl (fun a f => ?_)
  refine l_len Tryd.underlying27 f rfl rfl h0_0 (fun a f => ?_)
  refine l_op f rfl rfl rfl (r_int (f.eval rfl) (f.eval rfl) b_lss) (fun a f => ?_)
  refine l_nil ?_
  rcases cond_some hs_98 with ⟨hc_159, hs_98⟩ | ⟨hc_159, hs_98⟩
  ·refine k_true f rfl hc_159 ?_
   refine k_skip ?_
   refine k_seq ?_
   refine k_block ?_
   refine k_draw 9 Follows (by kernel_rfl) m ?_
   refine q_fieldAddr (i := 0) (listed' := #[true, false, false, false, false, false, false, false, false, false, false, false]) 9 Tryd.underlying29 rfl Tryd.sizeOf27 (by decide) rfl (by kernel_rfl) rfl f rfl rfl rfl (fun a f => ?_)
   refine q_boxCell (i := 1) (listed' := #[true, true, false, false, false, false, false, false, false, false, false, false]) 9 2 Pl27 rfl rfl rfl (by kernel_rfl) rfl f rfl rfl rfl (fun a f => ?_)
   refine q_fieldAddr (i := 2) (listed' := #[true, true, true, false, false, false, false, false, false, false, false, false]) 9 Tryd.underlying29 rfl Tryd.sizeOf27 (by decide) rfl (by kernel_rfl) rfl f rfl rfl rfl (fun a f => ?_)
   refine q_boxCell (i := 3) (listed' := #[true, true, true, true, false, false, false, false, false, false, false, false]) 9 0 Pl27 rfl rfl rfl (by kernel_rfl) rfl f rfl rfl rfl (fun a f => ?_)
   refine q_op (i := 4) (listed' := #[true, true, true, true, true, false, false, false, false, false, false, false]) 9 rfl (by kernel_rfl) rfl f rfl rfl rfl (fun _ _ _ _ _ => r_move (f.eval rfl)) (fun a f => ?_)
   obtain ⟨e_160, he_161, hs_98⟩ := bind_some hs_98
   refine q_at (i := 5) (listed' := #[true, true, true, true, true, true, false, false, false, false, false, false]) 9 T27 h0_0 he_161 rfl (by kernel_rfl) rfl f rfl rfl rfl rfl (fun p_162 c_163 a g_164 h_165 f => ?_)
   refine q_loadAt (i := 6) (listed' := #[true, true, true, true, true, true, true, false, false, false, false, false]) 9 Pl31 g_164 rfl (by kernel_rfl) rfl f rfl rfl rfl (fun a f => ?_)
   refine q_one (i := 7) (listed' := #[true, true, true, true, true, true, true, true, false, false, false, false]) rfl (by kernel_rfl) rfl (fun G_166 w hl_167 m K_168 K_168 => ?_)
   have h0_0 := RSl.mono (RSl.mono (RI.mono _)) _ _ _ _ hl_167 h0_0
   have g_164 := At.mono hl_167 g_164
   have h_165 := RSl.mono (RI.mono _) _ _ _ _ hl_167 h_165
   have o_110 := Ow.mono (RSl.mono (RI.mono _)) hl_167 o_110
   have m : Mem W G_166 w (Itm.box b_2 29 [v0_0] :: Itm.box b_4 29 [(.slice none 0 0)] :: Itm.box b_7 29 [v_108] :: it_109 :: H) := m
   obtain ⟨y_169, hy_170, hs_98⟩ := bind_some hs_98
   refine l_res f rfl rfl Tryd.call106 (Wk.spec_l1Copy m h_165 hy_170) (fun v_174 G_171 Ho_175 w hl_172 m hQ_173 a f => ?_)
   obtain ⟨v_176, it_177, rfl, rfl, o_178⟩ := hQ_173
   have h0_0 := RSl.mono (RSl.mono (RI.mono _)) _ _ _ _ hl_172 h0_0
   have g_164 := At.mono hl_172 g_164
   have h_165 := RSl.mono (RI.mono _) _ _ _ _ hl_172 h_165
   have o_110 := Ow.mono (RSl.mono (RI.mono _)) hl_172 o_110
   have m : Mem W G_171 w (it_177 :: Itm.box b_2 29 [v0_0] :: Itm.box b_4 29 [(.slice none 0 0)] :: Itm.box b_7 29 [v_108] :: it_109 :: H) := m
   refine l_nil ?_
   refine K_168 G_171 [it_177] _ _ hl_172 m ?_
   refine q_one (i := 8) (listed' := #[true, true, true, true, true, true, true, true, true, false, false, false]) rfl (by kernel_rfl) rfl (fun G_180 w hl_181 m K_182 K_182 => ?_)
   have h0_0 := RSl.mono (RSl.mono (RI.mono _)) _ _ _ _ hl_181 h0_0
   have g_164 := At.mono hl_181 g_164
   have h_165 := RSl.mono (RI.mono _) _ _ _ _ hl_181 h_165
   have o_178 := Ow.mono (RI.mono _) hl_181 o_178
   have o_110 := Ow.mono (RSl.mono (RI.mono _)) hl_181 o_110
   have m : Mem W G_180 w (it_177 :: Itm.box b_2 29 [v0_0] :: Itm.box b_4 29 [(.slice none 0 0)] :: Itm.box b_7 29 [v_108] :: it_109 :: H) := m
   obtain ⟨G_183, hl_184, m, h_185⟩ := Ow.stamp (RI.mono _) o_178 m
   have h0_0 := RSl.mono (RSl.mono (RI.mono _)) _ _ _ _ hl_184 h0_0
   have g_164 := At.mono hl_184 g_164
   have h_165 := RSl.mono (RI.mono _) _ _ _ _ hl_184 h_165
   have o_110 := Ow.mono (RSl.mono (RI.mono _)) hl_184 o_110
   have m : Mem W G_183 w (Itm.box b_2 29 [v0_0] :: Itm.box b_4 29 [(.slice none 0 0)] :: Itm.box b_7 29 [v_108] :: it_109 :: H) := m
   refine l_slit (R := (RSl (RI .i64))) (xs := ([y_169] : List (List Int))) (RSl.one _) m T27 f rfl rfl rfl (by decide) (All2.cons h_185 (All2.nil _)) (fun it_186 v_187 w a m o_188 f => ?_)
   refine l_nil ?_
   refine K_182 G_183 [it_186] _ _ hl_184 m ?_
   refine q_end (fun G_190 w hl_191 m => ?_)
   have h0_0 := RSl.mono (RSl.mono (RI.mono _)) _ _ _ _ hl_191 h0_0
   have g_164 := At.mono hl_191 g_164
   have h_165 := RSl.mono (RI.mono _) _ _ _ _ hl_191 h_165
   have h_185 := RSl.mono (RI.mono _) _ _ _ _ hl_191 h_185
   have o_188 := Ow.mono (RSl.mono (RI.mono _)) hl_191 o_188
   have o_110 := Ow.mono (RSl.mono (RI.mono _)) hl_191 o_110
   have m : Mem W G_190 w (it_186 :: Itm.box b_2 29 [v0_0] :: Itm.box b_4 29 [(.slice none 0 0)] :: Itm.box b_7 29 [v_108] :: it_109 :: H) := m
   obtain ⟨l_192, hx_193, hs_98⟩ := bind_some hs_98
   refine l_append (RSl.one _) 4 m o_110 rfl T27 rfl (by decide) f rfl rfl rfl (Ow.src (j := 0) o_188 m rfl) hx_193 (fun it_194 v_195 w a m o_196 f => ?_)
   have m : Mem W G_190 w (it_186 :: Itm.box b_2 29 [v0_0] :: Itm.box b_4 29 [(.slice none 0 0)] :: Itm.box b_7 29 [v_108] :: it_194 :: H) := m
   refine l_fieldAddr Tryd.underlying29 rfl Tryd.sizeOf27 (by decide) f rfl rfl (fun a f => ?_)
   refine l_boxStore 3 0 (ds := [v_195]) m Tryd.sizeOf27 f rfl rfl (Ow.cells 4 m o_196 rfl) (ones_cons (Ow.one1 4 m o_196 rfl) ones_nil) rfl (Nat.le_of_ble_eq_true rfl) rfl (fun w m => ?_)
   have m : Mem W G_190 w (it_186 :: Itm.box b_2 29 [v0_0] :: Itm.box b_4 29 [(.slice none 0 0)] :: Itm.box b_7 29 [v_195] :: it_194 :: H) := m
   refine l_nil ?_
   refine k_region ?_
   refine l_op f rfl rfl rfl (r_move (f.eval rfl)) (fun a f => ?_)
   refine l_op f rfl rfl rfl (r_int (f.eval rfl) (f.eval rfl) b_add) (fun a f => ?_)
   refine l_op f rfl rfl rfl (r_assign (f.eval rfl)) (fun a f => ?_)
   refine l_nil ?_
   have m : Mem W G_190 w (it_194 :: it_186 :: Itm.box b_2 29 [v0_0] :: Itm.box b_4 29 [(.slice none 0 0)] :: Itm.box b_7 29 [v_195] :: H) := m.front 4 rfl
   have m : Mem W G_190 w (Itm.box b_7 29 [v_195] :: it_194 :: it_186 :: Itm.box b_2 29 [v0_0] :: Itm.box b_4 29 [(.slice none 0 0)] :: H) := m.front 4 rfl
   have m : Mem W G_190 w (Itm.box b_4 29 [(.slice none 0 0)] :: Itm.box b_7 29 [v_195] :: it_194 :: it_186 :: Itm.box b_2 29 [v0_0] :: H) := m.front 4 rfl
   have m : Mem W G_190 w (Itm.box b_2 29 [v0_0] :: Itm.box b_4 29 [(.slice none 0 0)] :: Itm.box b_7 29 [v_195] :: it_194 :: it_186 :: H) := m.front 4 rfl
   have m : Mem W G_190 w (Itm.box b_2 29 [v0_0] :: Itm.box b_4 29 [(.slice none 0 0)] :: Itm.box b_7 29 [v_195] :: it_194 :: H) := m.eraseAt 4
   obtain rfl := Option.some.inj hs_98
   exact ⟨_, rfl, _, _, rfl, _, v_195, it_194, (GLe.trans hl_112 (GLe.trans hl_167 (GLe.trans hl_172 (GLe.trans hl_181 (GLe.trans hl_184 hl_191))))), f.weak ⟨rfl, rfl, rfl, rfl, trivial⟩, m, o_196⟩
  ·refine k_false f rfl hc_159 ?_
   refine k_exit rfl ?_
   have m : Mem W G_105 w (it_109 :: Itm.box b_2 29 [v0_0] :: Itm.box b_4 29 [(.slice none 0 0)] :: Itm.box b_7 29 [v_108] :: H) := m.front 3 rfl
   have m : Mem W G_105 w (Itm.box b_7 29 [v_108] :: it_109 :: Itm.box b_2 29 [v0_0] :: Itm.box b_4 29 [(.slice none 0 0)] :: H) := m.front 3 rfl
   have m : Mem W G_105 w (Itm.box b_4 29 [(.slice none 0 0)] :: Itm.box b_7 29 [v_108] :: it_109 :: Itm.box b_2 29 [v0_0] :: H) := m.front 3 rfl
   have m : Mem W G_105 w (Itm.box b_4 29 [(.slice none 0 0)] :: Itm.box b_7 29 [v_108] :: it_109 :: H) := m.eraseAt 3
   obtain rfl := Option.some.inj hs_98
   obtain rfl := hq_99 _ rfl
   exact ⟨_, rfl, _, v_108, it_109, hl_112, f.weak ⟨rfl, rfl, trivial⟩, m, o_110⟩
 ·rintro a w ⟨l_153, rfl, G_152, v_154, it_155, hl_158, f, m, o_156⟩
  refine k_seq ?_
  refine k_region ?_
  refine l_boxAgg 1 0 (ds := [v_154]) m Ag29 f rfl rfl rfl rfl rfl (fun a f => ?_)
  refine l_boxStore 0 0 (ds := [v_154]) m Tryd.sizeOf29 f rfl rfl rfl (ones_cons (Ow.one1 2 m o_156 rfl) ones_nil) rfl (Nat.le_of_ble_eq_true rfl) rfl (fun w m => ?_)
  have m : Mem W G_152 w (Itm.box b_4 29 [v_154] :: Itm.box b_7 29 [v_154] :: it_155 :: H) := m
  refine l_nil ?_
  refine k_ret ?_
  have rc_198 := rr_agg (P := Tryd.prog) 0 m Ag29 f (s := 2) rfl rfl rfl
  have m : Mem W G_152 w (it_155 :: Itm.box b_4 29 [v_154] :: Itm.box b_7 29 [v_154] :: H) := m.front 2 rfl
  have m : Mem W G_152 w (it_155 :: Itm.box b_4 29 [v_154] :: H) := m.eraseAt 2
  have m : Mem W G_152 w (it_155 :: H) := m.eraseAt 1
  obtain rfl := Option.some.inj hd
  exact ⟨[(.agg #[v_154])], ⟨rc_198, trivial⟩, f.defers, _, [it_155], hl_158, m, _, _, rfl, rfl, o_156⟩

theorem Wk.spec_l7Clique {W w : World} {G : GH} {H : List Itm} {v0_0 : Value} {it0_0 : Itm} {v1 : Value} {x0_0 : (List (List Int))} {x1 : (List Int)} (m : Mem W G w (it0_0 :: H)) (o0_0 : Ow (RSl (RI .i64)) 31 G it0_0 v0_0 x0_0) (h1 : RSl (RI .i64) G v1 x1) {y : ((List (List Int)))} (hd : D.spec_l7Clique x0_0 x1 = some y) :
  Calls Tryd.prog 122 #[(.agg #[v0_0]), v1] w (Res W G H (fun G' Ho v => ∃ i0 : Itm, Ho = [i0] ∧ v = (.agg #[v0_0]) ∧ Ow (RSl (RI .i64)) 31 G' i0 v0_0 y)) := by
 refine calls_b (args := [(.agg #[v0_0]), v1]) (N := 29) [.cell 4 29] Tryd.func122 rfl rfl (Nat.le_of_ble_eq_true rfl) rfl (fun a f => ?_)
 unfold D.spec_l7Clique at hd
 refine k_seq ?_
 refine k_region ?_
 refine l_box (cs := [v0_0]) m f rfl rfl rfl (fun b_2 w a m f => ?_)
 refine l_alloc (cs := [(.slice none 0 0)]) Tryd.zeroValue29 m f rfl rfl (fun b_4 w a m f => ?_)
 refine l_nil ?_
 refine k_seq ?_
 refine k_seq ?_
 refine k_region ?_
 refine l_op f rfl rfl rfl (r_assign (f.eval rfl)) (fun a f => ?_)
 refine l_nil ?_
 obtain ⟨q_248, hl_249, hd⟩ := bind_some hd
 refine k_cut (fun a w => ∃ l_380 : List (List Int), l_380 = q_248 ∧ ∃ (G_379 : GH) (it_381 : Itm), GLe G G_379 ∧ Fr a 29 [(2, (.pointer (some ⟨b_2, 0, none⟩))), (4, (.pointer (some ⟨b_4, 0, none⟩)))] ∧ Mem W G_379 w (Itm.box b_2 29 [v0_0] :: Itm.box b_4 29 [(.slice none 0 0)] :: it_381 :: H) ∧ Ow (RSl (RI .i64)) 31 G_379 it_381 v0_0 l_380) ?_ ?_
 ·refine k_block ?_
  have m : Mem W G w (it0_0 :: Itm.box b_4 29 [(.slice none 0 0)] :: Itm.box b_2 29 [v0_0] :: H) := m.front 2 rfl
  have m : Mem W G w (Itm.box b_4 29 [(.slice none 0 0)] :: it0_0 :: Itm.box b_2 29 [v0_0] :: H) := m.front 1 rfl
  have m : Mem W G w (Itm.box b_2 29 [v0_0] :: Itm.box b_4 29 [(.slice none 0 0)] :: it0_0 :: H) := m.front 2 rfl
  refine k_loop (fun s_252 a w => ∃ l_255 : List (List Int), ∃ x_258 : Int, (l_255, x_258) = s_252 ∧ ∃ (G_254 : GH) (it_256 : Itm), GLe G G_254 ∧ Fr a 29 [(1, v1), (2, (.pointer (some ⟨b_2, 0, none⟩))), (4, (.pointer (some ⟨b_4, 0, none⟩))), (5, (.int .i64 x_258))] ∧ Mem W G_254 w (Itm.box b_2 29 [v0_0] :: Itm.box b_4 29 [(.slice none 0 0)] :: it_256 :: H) ∧ Ow (RSl (RI .i64)) 31 G_254 it_256 v0_0 l_255) hl_249 ⟨_, _, rfl, _, it0_0, (GLe.refl _), f.weak ⟨rfl, rfl, rfl, rfl, trivial⟩, m, o0_0⟩ ?_
  clear hl_249 f m
  rintro s_252 o_253 hs_250 hq_251 a w ⟨l_255, x_258, rfl, G_254, it_256, hl_259, f, m, o_257⟩
  have h1 := RSl.mono (RI.mono _) _ _ _ _ hl_259 h1
  refine k_seq ?_
  refine k_seq ?_
  refine k_region ?_
  refine l_op f rfl rfl rfl (r_move (f.eval rfl)) (fun a f => ?_)
  refine l_op f rfl rfl rfl (r_move (f.eval rfl)) (fun a f => ?_)
  refine l_len Tryd.underlying31 f rfl rfl h1 (fun a f => ?_)
  refine l_op f rfl rfl rfl (r_int (f.eval rfl) (f.eval rfl) b_lss) (fun a f => ?_)
  refine l_nil ?_
  rcases cond_some hs_250 with ⟨hc_384, hs_250⟩ | ⟨hc_384, hs_250⟩
  ·refine k_true f rfl hc_384 ?_
   refine k_skip ?_
   refine k_seq ?_
   refine k_block ?_
   refine k_seq ?_
   refine k_region ?_
   refine l_op f rfl rfl rfl (r_assign (f.eval rfl)) (fun a f => ?_)
   refine l_nil ?_
   obtain ⟨q_438, hl_439, hs_250⟩ := bind_some hs_250
   refine k_cut (fun a w => ∃ l_475 : List (List Int), l_475 = q_438 ∧ ∃ (G_474 : GH) (it_476 : Itm), GLe G_254 G_474 ∧ Fr a 29 [(1, v1), (2, (.pointer (some ⟨b_2, 0, none⟩))), (4, (.pointer (some ⟨b_4, 0, none⟩))), (5, (.int .i64 x_258))] ∧ Mem W G_474 w (Itm.box b_2 29 [v0_0] :: Itm.box b_4 29 [(.slice none 0 0)] :: it_476 :: H) ∧ Ow (RSl (RI .i64)) 31 G_474 it_476 v0_0 l_475) ?_ ?_
   ·refine k_block ?_
    have m : Mem W G_254 w (it_256 :: Itm.box b_2 29 [v0_0] :: Itm.box b_4 29 [(.slice none 0 0)] :: H) := m.front 2 rfl
    have m : Mem W G_254 w (Itm.box b_4 29 [(.slice none 0 0)] :: it_256 :: Itm.box b_2 29 [v0_0] :: H) := m.front 2 rfl
    have m : Mem W G_254 w (Itm.box b_2 29 [v0_0] :: Itm.box b_4 29 [(.slice none 0 0)] :: it_256 :: H) := m.front 2 rfl
    refine k_loop (fun s_442 a w => ∃ l_445 : List (List Int), ∃ x_448 : Int, (l_445, x_448) = s_442 ∧ ∃ (G_444 : GH) (it_446 : Itm), GLe G_254 G_444 ∧ Fr a 29 [(1, v1), (2, (.pointer (some ⟨b_2, 0, none⟩))), (4, (.pointer (some ⟨b_4, 0, none⟩))), (5, (.int .i64 x_258)), (6, (.int .i64 x_448))] ∧ Mem W G_444 w (Itm.box b_2 29 [v0_0] :: Itm.box b_4 29 [(.slice none 0 0)] :: it_446 :: H) ∧ Ow (RSl (RI .i64)) 31 G_444 it_446 v0_0 l_445) hl_439 ⟨_, _, rfl, _, it_256, (GLe.refl _), f.weak ⟨rfl, rfl, rfl, rfl, rfl, trivial⟩, m, o_257⟩ ?_
    clear hl_439 f m
    rintro s_442 o_443 hs_440 hq_441 a w ⟨l_445, x_448, rfl, G_444, it_446, hl_449, f, m, o_447⟩
    have h1 := RSl.mono (RI.mono _) _ _ _ _ hl_449 h1
    refine k_seq ?_
    refine k_seq ?_
    refine k_region ?_
    refine l_op f rfl rfl rfl (r_move (f.eval rfl)) (fun a f => ?_)
    refine l_op f rfl rfl rfl (r_move (f.eval rfl)) (fun a f => ?_)
    refine l_op f rfl rfl rfl (r_int (f.eval rfl) (f.eval rfl) b_lss) (fun a f => ?_)
    refine l_nil ?_
    rcases cond_some hs_440 with ⟨hc_479, hs_440⟩ | ⟨hc_479, hs_440⟩
    ·refine k_true f rfl hc_479 ?_
     refine k_skip ?_
     refine k_seq ?_
     refine k_block ?_
     refine k_draw 9 Follows (by kernel_rfl) m ?_
     refine q_boxAgg (i := 0) (listed' := #[true, false, false, false, false, false, false, false, false, false, false]) (ds := [v0_0]) 9 0 Ag29 rfl rfl rfl rfl (by kernel_rfl) rfl f rfl rfl rfl (fun a f => ?_)
     refine q_op (i := 1) (listed' := #[true, true, false, false, false, false, false, false, false, false, false]) 9 rfl (by kernel_rfl) rfl f rfl rfl rfl (fun _ _ _ _ _ => r_move (f.eval rfl)) (fun a f => ?_)
     refine q_op (i := 2) (listed' := #[true, true, true, false, false, false, false, false, false, false, false]) 9 rfl (by kernel_rfl) rfl f rfl rfl rfl (fun _ _ _ _ _ => r_move (f.eval rfl)) (fun a f => ?_)
     obtain ⟨e_480, he_481, hs_440⟩ := bind_some hs_440
     refine q_at (i := 3) (listed' := #[true, true, true, true, false, false, false, false, false, false, false]) 9 T31 h1 he_481 rfl (by kernel_rfl) rfl f rfl rfl rfl rfl (fun p_482 c_483 a g_484 h_485 f => ?_)
     subst h_485
     refine q_loadAt (i := 4) (listed' := #[true, true, true, true, true, false, false, false, false, false, false]) 9 Pl2 g_484 rfl (by kernel_rfl) rfl f rfl rfl rfl (fun a f => ?_)
     refine q_op (i := 5) (listed' := #[true, true, true, true, true, true, false, false, false, false, false]) 9 rfl (by kernel_rfl) rfl f rfl rfl rfl (fun _ _ _ _ _ => r_move (f.eval rfl)) (fun a f => ?_)
     refine q_op (i := 6) (listed' := #[true, true, true, true, true, true, true, false, false, false, false]) 9 rfl (by kernel_rfl) rfl f rfl rfl rfl (fun _ _ _ _ _ => r_move (f.eval rfl)) (fun a f => ?_)
     obtain ⟨e_486, he_487, hs_440⟩ := bind_some hs_440
     refine q_at (i := 7) (listed' := #[true, true, true, true, true, true, true, true, false, false, false]) 9 T31 h1 he_487 rfl (by kernel_rfl) rfl f rfl rfl rfl rfl (fun p_488 c_489 a g_490 h_491 f => ?_)
     subst h_491
     refine q_loadAt (i := 8) (listed' := #[true, true, true, true, true, true, true, true, true, false, false]) 9 Pl2 g_490 rfl (by kernel_rfl) rfl f rfl rfl rfl (fun a f => ?_)
     refine q_end (fun G_492 w hl_493 m => ?_)
     have h1 := RSl.mono (RI.mono _) _ _ _ _ hl_493 h1
     have g_484 := At.mono hl_493 g_484
     have g_490 := At.mono hl_493 g_490
     have o_447 := Ow.mono (RSl.mono (RI.mono _)) hl_493 o_447
     have m : Mem W G_492 w (Itm.box b_2 29 [v0_0] :: Itm.box b_4 29 [(.slice none 0 0)] :: it_446 :: H) := m
     have m : Mem W G_492 w (it_446 :: Itm.box b_2 29 [v0_0] :: Itm.box b_4 29 [(.slice none 0 0)] :: H) := m.front 2 rfl
     obtain ⟨y_494, hy_495, hs_440⟩ := bind_some hs_440
     refine l_res f rfl rfl Tryd.call99 (Wk.spec_l1Link m o_447 hy_495) (fun v_499 G_496 Ho_500 w hl_497 m hQ_498 a f => ?_)
     obtain ⟨it_501, rfl, rfl, o_502⟩ := hQ_498
     have h1 := RSl.mono (RI.mono _) _ _ _ _ hl_497 h1
     have g_484 := At.mono hl_497 g_484
     have g_490 := At.mono hl_497 g_490
     have m : Mem W G_496 w (it_501 :: Itm.box b_2 29 [v0_0] :: Itm.box b_4 29 [(.slice none 0 0)] :: H) := m
     refine l_boxStore 1 0 (ds := [v0_0]) m Tryd.sizeOf29 f rfl rfl rfl (ones_cons (Ow.one1 0 m o_502 rfl) ones_nil) rfl (Nat.le_of_ble_eq_true rfl) rfl (fun w m => ?_)
     have m : Mem W G_496 w (it_501 :: Itm.box b_2 29 [v0_0] :: Itm.box b_4 29 [(.slice none 0 0)] :: H) := m
     refine l_nil ?_
     refine k_region ?_
     refine l_op f rfl rfl rfl (r_move (f.eval rfl)) (fun a f => ?_)
     refine l_op f rfl rfl rfl (r_int (f.eval rfl) (f.eval rfl) b_add) (fun a f => ?_)
     refine l_op f rfl rfl rfl (r_assign (f.eval rfl)) (fun a f => ?_)
     refine l_nil ?_
     have m : Mem W G_496 w (Itm.box b_4 29 [(.slice none 0 0)] :: it_501 :: Itm.box b_2 29 [v0_0] :: H) := m.front 2 rfl
     have m : Mem W G_496 w (Itm.box b_2 29 [v0_0] :: Itm.box b_4 29 [(.slice none 0 0)] :: it_501 :: H) := m.front 2 rfl
     obtain rfl := Option.some.inj hs_440
     exact ⟨_, rfl, _, _, rfl, _, it_501, (GLe.trans hl_449 (GLe.trans hl_493 hl_497)), f.weak ⟨rfl, rfl, rfl, rfl, rfl, trivial⟩, m, o_502⟩
    ·refine k_false f rfl hc_479 ?_
     refine k_exit rfl ?_
     have m : Mem W G_444 w (it_446 :: Itm.box b_2 29 [v0_0] :: Itm.box b_4 29 [(.slice none 0 0)] :: H) := m.front 2 rfl
     have m : Mem W G_444 w (Itm.box b_4 29 [(.slice none 0 0)] :: it_446 :: Itm.box b_2 29 [v0_0] :: H) := m.front 2 rfl
     have m : Mem W G_444 w (Itm.box b_2 29 [v0_0] :: Itm.box b_4 29 [(.slice none 0 0)] :: it_446 :: H) := m.front 2 rfl
     obtain rfl := Option.some.inj hs_440
     obtain rfl := hq_441 _ rfl
     exact ⟨_, rfl, _, it_446, hl_449, f.weak ⟨rfl, rfl, rfl, rfl, trivial⟩, m, o_447⟩
   ·rintro a w ⟨l_475, rfl, G_474, it_476, hl_478, f, m, o_477⟩
    have h1 := RSl.mono (RI.mono _) _ _ _ _ hl_478 h1
    refine k_region ?_
    refine l_op f rfl rfl rfl (r_move (f.eval rfl)) (fun a f => ?_)
    refine l_op f rfl rfl rfl (r_int (f.eval rfl) (f.eval rfl) b_add) (fun a f => ?_)
    refine l_op f rfl rfl rfl (r_assign (f.eval rfl)) (fun a f => ?_)
    refine l_nil ?_
    have m : Mem W G_474 w (it_476 :: Itm.box b_2 29 [v0_0] :: Itm.box b_4 29 [(.slice none 0 0)] :: H) := m.front 2 rfl
    have m : Mem W G_474 w (Itm.box b_4 29 [(.slice none 0 0)] :: it_476 :: Itm.box b_2 29 [v0_0] :: H) := m.front 2 rfl
    have m : Mem W G_474 w (Itm.box b_2 29 [v0_0] :: Itm.box b_4 29 [(.slice none 0 0)] :: it_476 :: H) := m.front 2 rfl
    obtain rfl := Option.some.inj hs_250
    exact ⟨_, rfl, _, _, rfl, _, it_476, (GLe.trans hl_259 hl_478), f.weak ⟨rfl, rfl, rfl, rfl, trivial⟩, m, o_477⟩
  ·refine k_false f rfl hc_384 ?_
   refine k_exit rfl ?_
   have m : Mem W G_254 w (it_256 :: Itm.box b_2 29 [v0_0] :: Itm.box b_4 29 [(.slice none 0 0)] :: H) := m.front 2 rfl
   have m : Mem W G_254 w (Itm.box b_4 29 [(.slice none 0 0)] :: it_256 :: Itm.box b_2 29 [v0_0] :: H) := m.front 2 rfl
   have m : Mem W G_254 w (Itm.box b_2 29 [v0_0] :: Itm.box b_4 29 [(.slice none 0 0)] :: it_256 :: H) := m.front 2 rfl
   obtain rfl := Option.some.inj hs_250
   obtain rfl := hq_251 _ rfl
   exact ⟨_, rfl, _, it_256, hl_259, f.weak ⟨rfl, rfl, trivial⟩, m, o_257⟩
 ·rintro a w ⟨l_380, rfl, G_379, it_381, hl_383, f, m, o_382⟩
  refine k_seq ?_
  refine k_region ?_
  refine l_boxAgg 0 0 (ds := [v0_0]) m Ag29 f rfl rfl rfl rfl rfl (fun a f => ?_)
  refine l_boxStore 1 0 (ds := [v0_0]) m Tryd.sizeOf29 f rfl rfl rfl (ones_cons (Ow.one1 2 m o_382 rfl) ones_nil) rfl (Nat.le_of_ble_eq_true rfl) rfl (fun w m => ?_)
  have m : Mem W G_379 w (Itm.box b_2 29 [v0_0] :: Itm.box b_4 29 [v0_0] :: it_381 :: H) := m
  refine l_nil ?_
  refine k_ret ?_
  have rc_503 := rr_agg (P := Tryd.prog) 1 m Ag29 f (s := 4) rfl rfl rfl
  have m : Mem W G_379 w (it_381 :: Itm.box b_2 29 [v0_0] :: Itm.box b_4 29 [v0_0] :: H) := m.front 2 rfl
  have m : Mem W G_379 w (it_381 :: Itm.box b_2 29 [v0_0] :: H) := m.eraseAt 2
  have m : Mem W G_379 w (it_381 :: H) := m.eraseAt 1
  obtain rfl := Option.some.inj hd
  exact ⟨[(.agg #[v0_0])], ⟨rc_503, trivial⟩, f.defers, _, [it_381], hl_383, m, _, rfl, rfl, o_382⟩

theorem Wk.spec_l7Greedy {W w : World} {G : GH} {H : List Itm} {v0_0 : Value} {x0_0 : (List (List Int))} {x1 : Bool} (m : Mem W G w (H)) (h0_0 : RSl (RSl (RI .i64)) G v0_0 x0_0) {y : ((List Int))} (hd : D.spec_l7Greedy x0_0 x1 = some y) :
  Calls Tryd.prog 91 #[(.agg #[v0_0]), (.bool x1)] w (Res W G H (fun G' Ho v => ∃ r0 : Value, ∃ i0 : Itm, Ho = [i0] ∧ r0 = v ∧ Ow (RI .i64) 2 G' i0 r0 y)) := by
 refine calls_b (args := [(.agg #[v0_0]), (.bool x1)]) (N := 67) [.tmp 4] Tryd.func91 rfl rfl (Nat.le_of_ble_eq_true rfl) rfl (fun a f => ?_)
 unfold D.spec_l7Greedy at hd
 refine k_seq ?_
 refine k_region ?_
 refine l_box (cs := [v0_0]) m f rfl rfl rfl (fun b_2 w a m f => ?_)
 refine l_op f rfl rfl rfl (r_assign (f.eval rfl)) (fun a f => ?_)
 refine l_nil ?_
 refine k_seq ?_
 refine k_region ?_
 refine l_boxAgg 0 0 (ds := [v0_0]) m Ag29 f rfl rfl rfl rfl rfl (fun a f => ?_)
 obtain ⟨y_3, hy_4, hd⟩ := bind_some hd
 refine l_res f rfl rfl Tryd.call120 (Wk.spec_l1CopyGraph m h0_0 hy_4) (fun v_8 G_5 Ho_9 w hl_6 m hQ_7 a f => ?_)
 obtain ⟨v_10, it_11, rfl, rfl, o_12⟩ := hQ_7
 have h0_0 := RSl.mono (RSl.mono (RI.mono _)) _ _ _ _ hl_6 h0_0
 have m : Mem W G_5 w (it_11 :: Itm.box b_2 29 [v0_0] :: H) := m
 refine l_alloc (cs := [(.slice none 0 0)]) Tryd.zeroValue29 m f rfl rfl (fun b_15 w a m f => ?_)
 refine l_boxStore 0 0 (ds := [v_10]) m Tryd.sizeOf29 f rfl rfl rfl (ones_cons (Ow.one1 1 m o_12 rfl) ones_nil) rfl (Nat.le_of_ble_eq_true rfl) rfl (fun w m => ?_)
 have m : Mem W G_5 w (Itm.box b_15 29 [v_10] :: it_11 :: Itm.box b_2 29 [v0_0] :: H) := m
 refine l_nil ?_
 refine k_seq ?_
 refine k_region ?_
 refine l_boxAgg 2 0 (ds := [v0_0]) m Ag29 f rfl rfl rfl rfl rfl (fun a f => ?_)
 obtain ⟨y_16, hy_17, hd⟩ := bind_some hd
 refine l_res f rfl rfl Tryd.call89 (Wk.spec_l1Size m h0_0 hy_17) (fun v_21 G_18 Ho_22 w hl_19 m hQ_20 a f => ?_)
 obtain ⟨rfl, rfl⟩ := hQ_20
 have h0_0 := RSl.mono (RSl.mono (RI.mono _)) _ _ _ _ hl_19 h0_0
 have o_12 := Ow.mono (RSl.mono (RI.mono _)) hl_19 o_12
 have m : Mem W G_18 w (Itm.box b_15 29 [v_10] :: it_11 :: Itm.box b_2 29 [v0_0] :: H) := m
 obtain ⟨l_23, hx_24, hd⟩ := bind_some hd
 refine l_make (R := RB) m T103 rfl (by decide) rfl f rfl rfl rfl hx_24 (fun it_25 v_26 w a m o_27 f => ?_)
 refine l_op f rfl rfl rfl (r_assign (f.eval rfl)) (fun a f => ?_)
 refine l_nil ?_
 refine k_seq ?_
 refine k_region ?_
 refine l_slit (R := (RI .i64)) (xs := ([] : List Int)) (RI.one _) m T31 f rfl rfl rfl (by decide) (All2.nil _) (fun it_29 v_30 w a m o_31 f => ?_)
 refine l_op f rfl rfl rfl (r_assign (f.eval rfl)) (fun a f => ?_)
 refine l_nil ?_
 refine k_seq ?_
 obtain ⟨q_629, hl_630, hd⟩ := bind_some hd
 refine k_cut (fun a w => ∃ l_941 : List Int, l_941 = q_629 ∧ ∃ (G_940 : GH) (v_942 : Value) (it_943 : Itm), GLe G_18 G_940 ∧ Fr a 67 [(7, v_942)] ∧ Mem W G_940 w (it_943 :: H) ∧ Ow (RI .i64) 2 G_940 it_943 v_942 l_941) ?_ ?_
 ·refine k_block ?_
  have m : Mem W G_18 w (it_11 :: it_29 :: it_25 :: Itm.box b_15 29 [v_10] :: Itm.box b_2 29 [v0_0] :: H) := m.front 3 rfl
  have m : Mem W G_18 w (it_29 :: it_11 :: it_25 :: Itm.box b_15 29 [v_10] :: Itm.box b_2 29 [v0_0] :: H) := m.front 1 rfl
  have m : Mem W G_18 w (it_25 :: it_29 :: it_11 :: Itm.box b_15 29 [v_10] :: Itm.box b_2 29 [v0_0] :: H) := m.front 2 rfl
  have m : Mem W G_18 w (Itm.box b_15 29 [v_10] :: it_25 :: it_29 :: it_11 :: Itm.box b_2 29 [v0_0] :: H) := m.front 3 rfl
  have m : Mem W G_18 w (Itm.box b_2 29 [v0_0] :: Itm.box b_15 29 [v_10] :: it_25 :: it_29 :: it_11 :: H) := m.front 4 rfl
  refine k_loop (fun s_633 a w => ∃ l_636 : List Bool, ∃ l_639 : List Int, ∃ l_644 : List (List Int), (l_636, l_639, l_644) = s_633 ∧ ∃ (G_635 : GH) (it_637 : Itm) (v_640 : Value) (it_641 : Itm) (it_645 : Itm), GLe G_18 G_635 ∧ Fr a 67 [(1, (.bool x1)), (2, (.pointer (some ⟨b_2, 0, none⟩))), (5, (.pointer (some ⟨b_15, 0, none⟩))), (6, v_26), (7, v_640)] ∧ Mem W G_635 w (Itm.box b_2 29 [v0_0] :: Itm.box b_15 29 [v_10] :: it_637 :: it_641 :: it_645 :: H) ∧ Ow RB 4 G_635 it_637 v_26 l_636 ∧ Ow (RI .i64) 2 G_635 it_641 v_640 l_639 ∧ Ow (RSl (RI .i64)) 31 G_635 it_645 v_10 l_644) hl_630 ⟨_, _, _, rfl, _, it_25, v_30, it_29, it_11, (GLe.refl _), f.weak ⟨rfl, rfl, rfl, rfl, rfl, trivial⟩, m, o_27, o_31, o_12⟩ ?_
  clear hl_630 f m
  rintro s_633 o_634 hs_631 hq_632 a w ⟨l_636, l_639, l_644, rfl, G_635, it_637, v_640, it_641, it_645, hl_647, f, m, o_638, o_642, o_646⟩
  have h0_0 := RSl.mono (RSl.mono (RI.mono _)) _ _ _ _ hl_647 h0_0
  refine k_seq ?_
  refine k_seq ?_
  refine k_region ?_
  refine l_op f rfl rfl rfl (r_move (f.eval rfl)) (fun a f => ?_)
  refine l_own_len 3 m o_642 rfl Tryd.underlying31 f rfl rfl (fun a f => ?_)
  refine l_boxAgg 0 0 (ds := [v0_0]) m Ag29 f rfl rfl rfl rfl rfl (fun a f => ?_)
  obtain ⟨y_947, hy_948, hs_631⟩ := bind_some hs_631
  refine l_res f rfl rfl Tryd.call89 (Wk.spec_l1Size m h0_0 hy_948) (fun v_952 G_949 Ho_953 w hl_950 m hQ_951 a f => ?_)
  obtain ⟨rfl, rfl⟩ := hQ_951
  have h0_0 := RSl.mono (RSl.mono (RI.mono _)) _ _ _ _ hl_950 h0_0
  have o_638 := Ow.mono RB.mono hl_950 o_638
  have o_642 := Ow.mono (RI.mono _) hl_950 o_642
  have o_646 := Ow.mono (RSl.mono (RI.mono _)) hl_950 o_646
  have m : Mem W G_949 w (Itm.box b_2 29 [v0_0] :: Itm.box b_15 29 [v_10] :: it_637 :: it_641 :: it_645 :: H) := m
  refine l_op f rfl rfl rfl (r_int (f.eval rfl) (f.eval rfl) b_lss) (fun a f => ?_)
  refine l_nil ?_
  rcases cond_some hs_631 with ⟨hc_954, hs_631⟩ | ⟨hc_954, hs_631⟩
  ·refine k_true f rfl hc_954 ?_
   refine k_skip ?_
   refine k_block ?_
   refine k_seq ?_
   refine k_region ?_
   refine l_op f rfl rfl rfl (r_assign (f.eval rfl)) (fun a f => ?_)
   refine l_nil ?_
   refine k_seq ?_
   refine k_region ?_
   refine l_op f rfl rfl rfl (r_assign (f.eval rfl)) (fun a f => ?_)
   refine l_nil ?_
   refine k_seq ?_
   refine k_seq ?_
   refine k_region ?_
   refine l_op f rfl rfl rfl (r_assign (f.eval rfl)) (fun a f => ?_)
   refine l_nil ?_
   obtain ⟨q_1067, hl_1068, hs_631⟩ := bind_some hs_631
   refine k_cut (fun a w => ∃ x_1133 : Int, x_1133 = q_1067 ∧ ∃ (G_1132 : GH), GLe G_949 G_1132 ∧ Fr a 67 [(1, (.bool x1)), (2, (.pointer (some ⟨b_2, 0, none⟩))), (5, (.pointer (some ⟨b_15, 0, none⟩))), (6, v_26), (7, v_640), (8, (.int .i64 x_1133))] ∧ Mem W G_1132 w (Itm.box b_2 29 [v0_0] :: Itm.box b_15 29 [v_10] :: it_637 :: it_641 :: it_645 :: H)) ?_ ?_
   ·refine k_block ?_
    have m : Mem W G_949 w (it_645 :: Itm.box b_2 29 [v0_0] :: Itm.box b_15 29 [v_10] :: it_637 :: it_641 :: H) := m.front 4 rfl
    have m : Mem W G_949 w (it_641 :: it_645 :: Itm.box b_2 29 [v0_0] :: Itm.box b_15 29 [v_10] :: it_637 :: H) := m.front 4 rfl
    have m : Mem W G_949 w (it_637 :: it_641 :: it_645 :: Itm.box b_2 29 [v0_0] :: Itm.box b_15 29 [v_10] :: H) := m.front 4 rfl
    have m : Mem W G_949 w (Itm.box b_15 29 [v_10] :: it_637 :: it_641 :: it_645 :: Itm.box b_2 29 [v0_0] :: H) := m.front 4 rfl
    have m : Mem W G_949 w (Itm.box b_2 29 [v0_0] :: Itm.box b_15 29 [v_10] :: it_637 :: it_641 :: it_645 :: H) := m.front 4 rfl
    refine k_loop (fun s_1071 a w => ∃ x_1074 : Int, ∃ x_1075 : Int, ∃ x_1076 : Int, (x_1074, x_1075, x_1076) = s_1071 ∧ ∃ (G_1073 : GH), GLe G_949 G_1073 ∧ Fr a 67 [(1, (.bool x1)), (2, (.pointer (some ⟨b_2, 0, none⟩))), (5, (.pointer (some ⟨b_15, 0, none⟩))), (6, v_26), (7, v_640), (8, (.int .i64 x_1074)), (9, (.int .i64 x_1075)), (10, (.int .i64 x_1076))] ∧ Mem W G_1073 w (Itm.box b_2 29 [v0_0] :: Itm.box b_15 29 [v_10] :: it_637 :: it_641 :: it_645 :: H)) hl_1068 ⟨_, _, _, rfl, _, (GLe.refl _), f.weak ⟨rfl, rfl, rfl, rfl, rfl, rfl, rfl, rfl, trivial⟩, m⟩ ?_
    clear hl_1068 f m
    rintro s_1071 o_1072 hs_1069 hq_1070 a w ⟨x_1074, x_1075, x_1076, rfl, G_1073, hl_1077, f, m⟩
    have h0_0 := RSl.mono (RSl.mono (RI.mono _)) _ _ _ _ hl_1077 h0_0
    have o_638 := Ow.mono RB.mono hl_1077 o_638
    have o_642 := Ow.mono (RI.mono _) hl_1077 o_642
    have o_646 := Ow.mono (RSl.mono (RI.mono _)) hl_1077 o_646
    refine k_seq ?_
    refine k_seq ?_
    refine k_region ?_
    refine l_op f rfl rfl rfl (r_move (f.eval rfl)) (fun a f => ?_)
    refine l_boxAgg 0 0 (ds := [v0_0]) m Ag29 f rfl rfl rfl rfl rfl (fun a f => ?_)
    obtain ⟨y_1135, hy_1136, hs_1069⟩ := bind_some hs_1069
    refine l_res f rfl rfl Tryd.call89 (Wk.spec_l1Size m h0_0 hy_1136) (fun v_1140 G_1137 Ho_1141 w hl_1138 m hQ_1139 a f => ?_)
    obtain ⟨rfl, rfl⟩ := hQ_1139
    have h0_0 := RSl.mono (RSl.mono (RI.mono _)) _ _ _ _ hl_1138 h0_0
    have o_638 := Ow.mono RB.mono hl_1138 o_638
    have o_642 := Ow.mono (RI.mono _) hl_1138 o_642
    have o_646 := Ow.mono (RSl.mono (RI.mono _)) hl_1138 o_646
    have m : Mem W G_1137 w (Itm.box b_2 29 [v0_0] :: Itm.box b_15 29 [v_10] :: it_637 :: it_641 :: it_645 :: H) := m
    refine l_op f rfl rfl rfl (r_int (f.eval rfl) (f.eval rfl) b_lss) (fun a f => ?_)
    refine l_nil ?_
    rcases cond_some hs_1069 with ⟨hc_1142, hs_1069⟩ | ⟨hc_1142, hs_1069⟩
    ·refine k_true f rfl hc_1142 ?_
     refine k_skip ?_
     refine k_seq ?_
     refine k_block ?_
     refine k_seq ?_
     refine k_seq ?_
     refine k_region ?_
     refine l_op f rfl rfl rfl (r_move (f.eval rfl)) (fun a f => ?_)
     refine l_op f rfl rfl rfl (r_move (f.eval rfl)) (fun a f => ?_)
     obtain ⟨e_1143, he_1144, hs_1069⟩ := bind_some hs_1069
     refine l_own_at 2 m o_638 rfl T103 f rfl rfl rfl he_1144 (fun p_1145 a ha_1146 f => ?_)
     refine l_own_load 2 m o_638 rfl Pl4 f rfl rfl ha_1146 he_1144 (fun c_1147 a h_1148 f => ?_)
     subst h_1148
     refine l_nil ?_
     rcases cond_some hs_1069 with ⟨hc_1149, hs_1069⟩ | ⟨hc_1149, hs_1069⟩
     ·refine k_true f rfl hc_1149 ?_
      refine k_exit rfl ?_
      refine k_region ?_
      refine l_op f rfl rfl rfl (r_move (f.eval rfl)) (fun a f => ?_)
      refine l_op f rfl rfl rfl (r_int (f.eval rfl) (f.eval rfl) b_add) (fun a f => ?_)
      refine l_op f rfl rfl rfl (r_assign (f.eval rfl)) (fun a f => ?_)
      refine l_nil ?_
      have m : Mem W G_1137 w (it_645 :: Itm.box b_2 29 [v0_0] :: Itm.box b_15 29 [v_10] :: it_637 :: it_641 :: H) := m.front 4 rfl
      have m : Mem W G_1137 w (it_641 :: it_645 :: Itm.box b_2 29 [v0_0] :: Itm.box b_15 29 [v_10] :: it_637 :: H) := m.front 4 rfl
      have m : Mem W G_1137 w (it_637 :: it_641 :: it_645 :: Itm.box b_2 29 [v0_0] :: Itm.box b_15 29 [v_10] :: H) := m.front 4 rfl
      have m : Mem W G_1137 w (Itm.box b_15 29 [v_10] :: it_637 :: it_641 :: it_645 :: Itm.box b_2 29 [v0_0] :: H) := m.front 4 rfl
      have m : Mem W G_1137 w (Itm.box b_2 29 [v0_0] :: Itm.box b_15 29 [v_10] :: it_637 :: it_641 :: it_645 :: H) := m.front 4 rfl
      obtain rfl := Option.some.inj hs_1069
      exact ⟨_, rfl, _, _, _, rfl, _, (GLe.trans hl_1077 hl_1138), f.weak ⟨rfl, rfl, rfl, rfl, rfl, rfl, rfl, rfl, trivial⟩, m⟩
     ·refine k_false f rfl hc_1149 ?_
      refine k_skip ?_
      refine k_seq ?_
      refine k_region ?_
      refine l_boxAgg 1 0 (ds := [v_10]) m Ag29 f rfl rfl rfl rfl rfl (fun a f => ?_)
      refine l_op f rfl rfl rfl (r_move (f.eval rfl)) (fun a f => ?_)
      refine l_op f rfl rfl rfl (r_move (f.eval rfl)) (fun a f => ?_)
      obtain ⟨y_1150, hy_1151, hs_1069⟩ := bind_some hs_1069
      refine l_res f rfl rfl Tryd.call90 (Ow.lendCall (RSl.mono (RI.mono _)) 4 o_646 m rfl (fun G_1152 hl_1153 m h_1154 => (Ow.lendCall RB.mono 2 (Ow.mono RB.mono hl_1153 o_638) m rfl (fun G_1155 hl_1156 m h_1157 => Wk.spec_l7Left m (RSl.mono (RSl.mono (RI.mono _)) _ _ _ _ hl_1156 h_1154) h_1157 hy_1151) (fun _ G' _ _ ⟨a0, a1, e1, e2, o0⟩ => ⟨a0, a1, e1, e2, Ow.free (RI.free _) G' o0⟩))) (fun _ G' _ _ ⟨a0, a1, e1, e2, o0⟩ => ⟨a0, a1, e1, e2, Ow.free (RI.free _) G' o0⟩)) (fun v_1161 G_1158 Ho_1162 w hl_1159 m hQ_1160 a f => ?_)
      obtain ⟨v_1163, it_1164, rfl, rfl, o_1165⟩ := hQ_1160
      have h0_0 := RSl.mono (RSl.mono (RI.mono _)) _ _ _ _ hl_1159 h0_0
      have o_638 := Ow.mono RB.mono hl_1159 o_638
      have o_642 := Ow.mono (RI.mono _) hl_1159 o_642
      have o_646 := Ow.mono (RSl.mono (RI.mono _)) hl_1159 o_646
      have m : Mem W G_1158 w (it_1164 :: Itm.box b_2 29 [v0_0] :: Itm.box b_15 29 [v_10] :: it_637 :: it_641 :: it_645 :: H) := m
      refine l_op f rfl rfl rfl (r_assign (f.eval rfl)) (fun a f => ?_)
      refine l_nil ?_
      refine k_seq ?_
      refine k_region ?_
      refine l_op f rfl rfl rfl (r_move (f.eval rfl)) (fun a f => ?_)
      refine l_own_len 0 m o_1165 rfl Tryd.underlying31 f rfl rfl (fun a f => ?_)
      refine l_op f rfl rfl rfl (r_assign (f.eval rfl)) (fun a f => ?_)
      refine l_nil ?_
      refine k_seq ?_
      refine k_seq ?_
      refine k_region ?_
      refine l_op f rfl rfl rfl (r_move (f.eval rfl)) (fun a f => ?_)
      refine l_nil ?_
      rcases cond_some hs_1069 with ⟨hc_1167, hs_1069⟩ | ⟨hc_1167, hs_1069⟩
      ·refine k_true f rfl hc_1167 ?_
       refine k_region ?_
       refine l_boxAgg 2 0 (ds := [v_10]) m Ag29 f rfl rfl rfl rfl rfl (fun a f => ?_)
       refine l_op f rfl rfl rfl (r_move (f.eval rfl)) (fun a f => ?_)
       obtain ⟨y_1168, hy_1169, hs_1069⟩ := bind_some hs_1069
       refine l_res f rfl rfl Tryd.call121 (Ow.lendCall (RSl.mono (RI.mono _)) 5 o_646 m rfl (fun G_1170 hl_1171 m h_1172 => (Ow.lendCall (RI.mono _) 0 (Ow.mono (RI.mono _) hl_1171 o_1165) m rfl (fun G_1173 hl_1174 m h_1175 => Wk.spec_l7Missing m (RSl.mono (RSl.mono (RI.mono _)) _ _ _ _ hl_1174 h_1172) h_1175 hy_1169) (fun _ _ _ _ h => h))) (fun _ _ _ _ h => h)) (fun v_1179 G_1176 Ho_1180 w hl_1177 m hQ_1178 a f => ?_)
       obtain ⟨rfl, rfl⟩ := hQ_1178
       have o_1165 := Ow.mono (RI.mono _) hl_1177 o_1165
       have h0_0 := RSl.mono (RSl.mono (RI.mono _)) _ _ _ _ hl_1177 h0_0
       have o_638 := Ow.mono RB.mono hl_1177 o_638
       have o_642 := Ow.mono (RI.mono _) hl_1177 o_642
       have o_646 := Ow.mono (RSl.mono (RI.mono _)) hl_1177 o_646
       have m : Mem W G_1176 w (it_1164 :: Itm.box b_2 29 [v0_0] :: Itm.box b_15 29 [v_10] :: it_637 :: it_641 :: it_645 :: H) := m
       refine l_op f rfl rfl rfl (r_assign (f.eval rfl)) (fun a f => ?_)
       refine l_nil ?_
       refine k_seq ?_
       refine k_region ?_
       refine l_op f rfl rfl rfl (r_move (f.eval rfl)) (fun a f => ?_)
       refine l_op f rfl rfl rfl (r_int (f.eval rfl) (f.eval rfl) b_lss) (fun a f => ?_)
       refine l_op f rfl rfl rfl (r_move (f.eval rfl)) (fun a f => ?_)
       refine l_cut 4 (fun a w => ∃ G_1182, GLe G_1176 G_1182 ∧ Mem W G_1182 w (it_1164 :: Itm.box b_2 29 [v0_0] :: Itm.box b_15 29 [v_10] :: it_637 :: it_641 :: it_645 :: H) ∧ Fr a 67 [(1, (.bool x1)), (2, (.pointer (some ⟨b_2, 0, none⟩))), (5, (.pointer (some ⟨b_15, 0, none⟩))), (6, v_26), (7, v_640), (8, (.int .i64 x_1074)), (9, (.int .i64 x_1075)), (10, (.int .i64 x_1076)), (11, v_1163), (12, (.int .i64 y_1168)), (44, (.int .i64 x_1074)), (45, (.bool (decide (x_1074 < 0)))), (46, (.bool (decide (x_1074 < 0)))), (50, (.bool ((decide (x_1074 < 0)) || (decide (y_1168 < x_1075)))))]) ?_ ?_
       ·rcases Bool.eq_false_or_eq_true (decide (x_1074 < 0)) with hc_1181 | hc_1181
        ·refine l_not' f rfl rfl rfl hc_1181 (fun a f => ?_)
         refine l_not' f rfl rfl rfl hc_1181 (fun a f => ?_)
         refine l_not' f rfl rfl rfl hc_1181 (fun a f => ?_)
         refine l_op f rfl rfl rfl (r_pickT (f.eval rfl) hc_1181 (f.eval rfl)) (fun a f => ?_)
         have m : Mem W G_1176 w (it_645 :: it_1164 :: Itm.box b_2 29 [v0_0] :: Itm.box b_15 29 [v_10] :: it_637 :: it_641 :: H) := m.front 5 rfl
         have m : Mem W G_1176 w (it_641 :: it_645 :: it_1164 :: Itm.box b_2 29 [v0_0] :: Itm.box b_15 29 [v_10] :: it_637 :: H) := m.front 5 rfl
         have m : Mem W G_1176 w (it_637 :: it_641 :: it_645 :: it_1164 :: Itm.box b_2 29 [v0_0] :: Itm.box b_15 29 [v_10] :: H) := m.front 5 rfl
         have m : Mem W G_1176 w (Itm.box b_15 29 [v_10] :: it_637 :: it_641 :: it_645 :: it_1164 :: Itm.box b_2 29 [v0_0] :: H) := m.front 5 rfl
         have m : Mem W G_1176 w (Itm.box b_2 29 [v0_0] :: Itm.box b_15 29 [v_10] :: it_637 :: it_641 :: it_645 :: it_1164 :: H) := m.front 5 rfl
         have m : Mem W G_1176 w (it_1164 :: Itm.box b_2 29 [v0_0] :: Itm.box b_15 29 [v_10] :: it_637 :: it_641 :: it_645 :: H) := m.front 5 rfl
         exact ⟨_, (GLe.refl _), m, f.weak ⟨rfl, rfl, rfl, rfl, rfl, rfl, rfl, rfl, rfl, rfl, rfl, rfl, rfl, by rw [hc_1181]; rfl, trivial⟩⟩
        ·refine l_run f rfl rfl hc_1181 ?_
         refine l_op f rfl rfl rfl (r_move (f.eval rfl)) (fun a f => ?_)
         refine l_run f rfl rfl hc_1181 ?_
         refine l_op f rfl rfl rfl (r_move (f.eval rfl)) (fun a f => ?_)
         refine l_run f rfl rfl hc_1181 ?_
         refine l_op f rfl rfl rfl (r_int (f.eval rfl) (f.eval rfl) b_lss) (fun a f => ?_)
         refine l_op f rfl rfl rfl (r_pickF (f.eval rfl) hc_1181 (f.eval rfl)) (fun a f => ?_)
         have m : Mem W G_1176 w (it_645 :: it_1164 :: Itm.box b_2 29 [v0_0] :: Itm.box b_15 29 [v_10] :: it_637 :: it_641 :: H) := m.front 5 rfl
         have m : Mem W G_1176 w (it_641 :: it_645 :: it_1164 :: Itm.box b_2 29 [v0_0] :: Itm.box b_15 29 [v_10] :: it_637 :: H) := m.front 5 rfl
         have m : Mem W G_1176 w (it_637 :: it_641 :: it_645 :: it_1164 :: Itm.box b_2 29 [v0_0] :: Itm.box b_15 29 [v_10] :: H) := m.front 5 rfl
         have m : Mem W G_1176 w (Itm.box b_15 29 [v_10] :: it_637 :: it_641 :: it_645 :: it_1164 :: Itm.box b_2 29 [v0_0] :: H) := m.front 5 rfl
         have m : Mem W G_1176 w (Itm.box b_2 29 [v0_0] :: Itm.box b_15 29 [v_10] :: it_637 :: it_641 :: it_645 :: it_1164 :: H) := m.front 5 rfl
         have m : Mem W G_1176 w (it_1164 :: Itm.box b_2 29 [v0_0] :: Itm.box b_15 29 [v_10] :: it_637 :: it_641 :: it_645 :: H) := m.front 5 rfl
         exact ⟨_, (GLe.refl _), m, f.weak ⟨rfl, rfl, rfl, rfl, rfl, rfl, rfl, rfl, rfl, rfl, rfl, rfl, rfl, by rw [hc_1181]; rfl, trivial⟩⟩
       ·rintro a w ⟨G_1182, hl_1183, m, f⟩
        have o_1165 := Ow.mono (RI.mono _) hl_1183 o_1165
        have h0_0 := RSl.mono (RSl.mono (RI.mono _)) _ _ _ _ hl_1183 h0_0
        have o_638 := Ow.mono RB.mono hl_1183 o_638
        have o_642 := Ow.mono (RI.mono _) hl_1183 o_642
        have o_646 := Ow.mono (RSl.mono (RI.mono _)) hl_1183 o_646
        refine l_nil ?_
        rcases cond_some hs_1069 with ⟨hc_1184, hs_1069⟩ | ⟨hc_1184, hs_1069⟩
        ·refine k_true f rfl hc_1184 ?_
         refine k_seq ?_
         refine k_region ?_
         refine l_op f rfl rfl rfl (r_move (f.eval rfl)) (fun a f => ?_)
         refine l_op f rfl rfl rfl (r_assign (f.eval rfl)) (fun a f => ?_)
         refine l_nil ?_
         refine k_region ?_
         refine l_op f rfl rfl rfl (r_move (f.eval rfl)) (fun a f => ?_)
         refine l_op f rfl rfl rfl (r_assign (f.eval rfl)) (fun a f => ?_)
         refine l_nil ?_
         refine k_region ?_
         refine l_op f rfl rfl rfl (r_move (f.eval rfl)) (fun a f => ?_)
         refine l_op f rfl rfl rfl (r_int (f.eval rfl) (f.eval rfl) b_add) (fun a f => ?_)
         refine l_op f rfl rfl rfl (r_assign (f.eval rfl)) (fun a f => ?_)
         refine l_nil ?_
         have m : Mem W G_1182 w (it_645 :: it_1164 :: Itm.box b_2 29 [v0_0] :: Itm.box b_15 29 [v_10] :: it_637 :: it_641 :: H) := m.front 5 rfl
         have m : Mem W G_1182 w (it_641 :: it_645 :: it_1164 :: Itm.box b_2 29 [v0_0] :: Itm.box b_15 29 [v_10] :: it_637 :: H) := m.front 5 rfl
         have m : Mem W G_1182 w (it_637 :: it_641 :: it_645 :: it_1164 :: Itm.box b_2 29 [v0_0] :: Itm.box b_15 29 [v_10] :: H) := m.front 5 rfl
         have m : Mem W G_1182 w (Itm.box b_15 29 [v_10] :: it_637 :: it_641 :: it_645 :: it_1164 :: Itm.box b_2 29 [v0_0] :: H) := m.front 5 rfl
         have m : Mem W G_1182 w (Itm.box b_2 29 [v0_0] :: Itm.box b_15 29 [v_10] :: it_637 :: it_641 :: it_645 :: it_1164 :: H) := m.front 5 rfl
         have m : Mem W G_1182 w (Itm.box b_2 29 [v0_0] :: Itm.box b_15 29 [v_10] :: it_637 :: it_641 :: it_645 :: H) := m.eraseAt 5
         obtain rfl := Option.some.inj hs_1069
         exact ⟨_, rfl, _, _, _, rfl, _, (GLe.trans hl_1077 (GLe.trans hl_1138 (GLe.trans hl_1159 (GLe.trans hl_1177 hl_1183)))), f.weak ⟨rfl, rfl, rfl, rfl, rfl, rfl, rfl, rfl, trivial⟩, m⟩
        ·refine k_false f rfl hc_1184 ?_
         refine k_skip ?_
         refine k_region ?_
         refine l_op f rfl rfl rfl (r_move (f.eval rfl)) (fun a f => ?_)
         refine l_op f rfl rfl rfl (r_int (f.eval rfl) (f.eval rfl) b_add) (fun a f => ?_)
         refine l_op f rfl rfl rfl (r_assign (f.eval rfl)) (fun a f => ?_)
         refine l_nil ?_
         have m : Mem W G_1182 w (it_645 :: it_1164 :: Itm.box b_2 29 [v0_0] :: Itm.box b_15 29 [v_10] :: it_637 :: it_641 :: H) := m.front 5 rfl
         have m : Mem W G_1182 w (it_641 :: it_645 :: it_1164 :: Itm.box b_2 29 [v0_0] :: Itm.box b_15 29 [v_10] :: it_637 :: H) := m.front 5 rfl
         have m : Mem W G_1182 w (it_637 :: it_641 :: it_645 :: it_1164 :: Itm.box b_2 29 [v0_0] :: Itm.box b_15 29 [v_10] :: H) := m.front 5 rfl
         have m : Mem W G_1182 w (Itm.box b_15 29 [v_10] :: it_637 :: it_641 :: it_645 :: it_1164 :: Itm.box b_2 29 [v0_0] :: H) := m.front 5 rfl
         have m : Mem W G_1182 w (Itm.box b_2 29 [v0_0] :: Itm.box b_15 29 [v_10] :: it_637 :: it_641 :: it_645 :: it_1164 :: H) := m.front 5 rfl
         have m : Mem W G_1182 w (Itm.box b_2 29 [v0_0] :: Itm.box b_15 29 [v_10] :: it_637 :: it_641 :: it_645 :: H) := m.eraseAt 5
         obtain rfl := Option.some.inj hs_1069
         exact ⟨_, rfl, _, _, _, rfl, _, (GLe.trans hl_1077 (GLe.trans hl_1138 (GLe.trans hl_1159 (GLe.trans hl_1177 hl_1183)))), f.weak ⟨rfl, rfl, rfl, rfl, rfl, rfl, rfl, rfl, trivial⟩, m⟩
      ·refine k_false f rfl hc_1167 ?_
       refine k_skip ?_
       refine k_seq ?_
       refine k_region ?_
       refine l_op f rfl rfl rfl (r_move (f.eval rfl)) (fun a f => ?_)
       refine l_op f rfl rfl rfl (r_int (f.eval rfl) (f.eval rfl) b_lss) (fun a f => ?_)
       refine l_op f rfl rfl rfl (r_move (f.eval rfl)) (fun a f => ?_)
       refine l_cut 4 (fun a w => ∃ G_1186, GLe G_1158 G_1186 ∧ Mem W G_1186 w (it_1164 :: Itm.box b_2 29 [v0_0] :: Itm.box b_15 29 [v_10] :: it_637 :: it_641 :: it_645 :: H) ∧ Fr a 67 [(1, (.bool x1)), (2, (.pointer (some ⟨b_2, 0, none⟩))), (5, (.pointer (some ⟨b_15, 0, none⟩))), (6, v_26), (7, v_640), (8, (.int .i64 x_1074)), (9, (.int .i64 x_1075)), (10, (.int .i64 x_1076)), (11, v_1163), (12, (.int .i64 (y_1150.length : Int))), (40, (.bool x1)), (44, (.int .i64 x_1074)), (45, (.bool (decide (x_1074 < 0)))), (46, (.bool (decide (x_1074 < 0)))), (50, (.bool ((decide (x_1074 < 0)) || (decide ((y_1150.length : Int) < x_1075)))))]) ?_ ?_
       ·rcases Bool.eq_false_or_eq_true (decide (x_1074 < 0)) with hc_1185 | hc_1185
        ·refine l_not' f rfl rfl rfl hc_1185 (fun a f => ?_)
         refine l_not' f rfl rfl rfl hc_1185 (fun a f => ?_)
         refine l_not' f rfl rfl rfl hc_1185 (fun a f => ?_)
         refine l_op f rfl rfl rfl (r_pickT (f.eval rfl) hc_1185 (f.eval rfl)) (fun a f => ?_)
         have m : Mem W G_1158 w (it_645 :: it_1164 :: Itm.box b_2 29 [v0_0] :: Itm.box b_15 29 [v_10] :: it_637 :: it_641 :: H) := m.front 5 rfl
         have m : Mem W G_1158 w (it_641 :: it_645 :: it_1164 :: Itm.box b_2 29 [v0_0] :: Itm.box b_15 29 [v_10] :: it_637 :: H) := m.front 5 rfl
         have m : Mem W G_1158 w (it_637 :: it_641 :: it_645 :: it_1164 :: Itm.box b_2 29 [v0_0] :: Itm.box b_15 29 [v_10] :: H) := m.front 5 rfl
         have m : Mem W G_1158 w (Itm.box b_15 29 [v_10] :: it_637 :: it_641 :: it_645 :: it_1164 :: Itm.box b_2 29 [v0_0] :: H) := m.front 5 rfl
         have m : Mem W G_1158 w (Itm.box b_2 29 [v0_0] :: Itm.box b_15 29 [v_10] :: it_637 :: it_641 :: it_645 :: it_1164 :: H) := m.front 5 rfl
         have m : Mem W G_1158 w (it_1164 :: Itm.box b_2 29 [v0_0] :: Itm.box b_15 29 [v_10] :: it_637 :: it_641 :: it_645 :: H) := m.front 5 rfl
         exact ⟨_, (GLe.refl _), m, f.weak ⟨rfl, rfl, rfl, rfl, rfl, rfl, rfl, rfl, rfl, rfl, rfl, rfl, rfl, rfl, by rw [hc_1185]; rfl, trivial⟩⟩
        ·refine l_run f rfl rfl hc_1185 ?_
         refine l_op f rfl rfl rfl (r_move (f.eval rfl)) (fun a f => ?_)
         refine l_run f rfl rfl hc_1185 ?_
         refine l_op f rfl rfl rfl (r_move (f.eval rfl)) (fun a f => ?_)
         refine l_run f rfl rfl hc_1185 ?_
         refine l_op f rfl rfl rfl (r_int (f.eval rfl) (f.eval rfl) b_lss) (fun a f => ?_)
         refine l_op f rfl rfl rfl (r_pickF (f.eval rfl) hc_1185 (f.eval rfl)) (fun a f => ?_)
         have m : Mem W G_1158 w (it_645 :: it_1164 :: Itm.box b_2 29 [v0_0] :: Itm.box b_15 29 [v_10] :: it_637 :: it_641 :: H) := m.front 5 rfl
         have m : Mem W G_1158 w (it_641 :: it_645 :: it_1164 :: Itm.box b_2 29 [v0_0] :: Itm.box b_15 29 [v_10] :: it_637 :: H) := m.front 5 rfl
         have m : Mem W G_1158 w (it_637 :: it_641 :: it_645 :: it_1164 :: Itm.box b_2 29 [v0_0] :: Itm.box b_15 29 [v_10] :: H) := m.front 5 rfl
         have m : Mem W G_1158 w (Itm.box b_15 29 [v_10] :: it_637 :: it_641 :: it_645 :: it_1164 :: Itm.box b_2 29 [v0_0] :: H) := m.front 5 rfl
         have m : Mem W G_1158 w (Itm.box b_2 29 [v0_0] :: Itm.box b_15 29 [v_10] :: it_637 :: it_641 :: it_645 :: it_1164 :: H) := m.front 5 rfl
         have m : Mem W G_1158 w (it_1164 :: Itm.box b_2 29 [v0_0] :: Itm.box b_15 29 [v_10] :: it_637 :: it_641 :: it_645 :: H) := m.front 5 rfl
         exact ⟨_, (GLe.refl _), m, f.weak ⟨rfl, rfl, rfl, rfl, rfl, rfl, rfl, rfl, rfl, rfl, rfl, rfl, rfl, rfl, by rw [hc_1185]; rfl, trivial⟩⟩
       ·rintro a w ⟨G_1186, hl_1187, m, f⟩
        have o_1165 := Ow.mono (RI.mono _) hl_1187 o_1165
        have h0_0 := RSl.mono (RSl.mono (RI.mono _)) _ _ _ _ hl_1187 h0_0
        have o_638 := Ow.mono RB.mono hl_1187 o_638
        have o_642 := Ow.mono (RI.mono _) hl_1187 o_642
        have o_646 := Ow.mono (RSl.mono (RI.mono _)) hl_1187 o_646
        refine l_nil ?_
        rcases cond_some hs_1069 with ⟨hc_1188, hs_1069⟩ | ⟨hc_1188, hs_1069⟩
        ·refine k_true f rfl hc_1188 ?_
         refine k_seq ?_
         refine k_region ?_
         refine l_op f rfl rfl rfl (r_move (f.eval rfl)) (fun a f => ?_)
         refine l_op f rfl rfl rfl (r_assign (f.eval rfl)) (fun a f => ?_)
         refine l_nil ?_
         refine k_region ?_
         refine l_op f rfl rfl rfl (r_move (f.eval rfl)) (fun a f => ?_)
         refine l_op f rfl rfl rfl (r_assign (f.eval rfl)) (fun a f => ?_)
         refine l_nil ?_
         refine k_region ?_
         refine l_op f rfl rfl rfl (r_move (f.eval rfl)) (fun a f => ?_)
         refine l_op f rfl rfl rfl (r_int (f.eval rfl) (f.eval rfl) b_add) (fun a f => ?_)
         refine l_op f rfl rfl rfl (r_assign (f.eval rfl)) (fun a f => ?_)
         refine l_nil ?_
         have m : Mem W G_1186 w (it_645 :: it_1164 :: Itm.box b_2 29 [v0_0] :: Itm.box b_15 29 [v_10] :: it_637 :: it_641 :: H) := m.front 5 rfl
         have m : Mem W G_1186 w (it_641 :: it_645 :: it_1164 :: Itm.box b_2 29 [v0_0] :: Itm.box b_15 29 [v_10] :: it_637 :: H) := m.front 5 rfl
         have m : Mem W G_1186 w (it_637 :: it_641 :: it_645 :: it_1164 :: Itm.box b_2 29 [v0_0] :: Itm.box b_15 29 [v_10] :: H) := m.front 5 rfl
         have m : Mem W G_1186 w (Itm.box b_15 29 [v_10] :: it_637 :: it_641 :: it_645 :: it_1164 :: Itm.box b_2 29 [v0_0] :: H) := m.front 5 rfl
         have m : Mem W G_1186 w (Itm.box b_2 29 [v0_0] :: Itm.box b_15 29 [v_10] :: it_637 :: it_641 :: it_645 :: it_1164 :: H) := m.front 5 rfl
         have m : Mem W G_1186 w (Itm.box b_2 29 [v0_0] :: Itm.box b_15 29 [v_10] :: it_637 :: it_641 :: it_645 :: H) := m.eraseAt 5
         obtain rfl := Option.some.inj hs_1069
         exact ⟨_, rfl, _, _, _, rfl, _, (GLe.trans hl_1077 (GLe.trans hl_1138 (GLe.trans hl_1159 hl_1187))), f.weak ⟨rfl, rfl, rfl, rfl, rfl, rfl, rfl, rfl, trivial⟩, m⟩
        ·refine k_false f rfl hc_1188 ?_
         refine k_skip ?_
         refine k_region ?_
         refine l_op f rfl rfl rfl (r_move (f.eval rfl)) (fun a f => ?_)
         refine l_op f rfl rfl rfl (r_int (f.eval rfl) (f.eval rfl) b_add) (fun a f => ?_)
         refine l_op f rfl rfl rfl (r_assign (f.eval rfl)) (fun a f => ?_)
         refine l_nil ?_
         have m : Mem W G_1186 w (it_645 :: it_1164 :: Itm.box b_2 29 [v0_0] :: Itm.box b_15 29 [v_10] :: it_637 :: it_641 :: H) := m.front 5 rfl
         have m : Mem W G_1186 w (it_641 :: it_645 :: it_1164 :: Itm.box b_2 29 [v0_0] :: Itm.box b_15 29 [v_10] :: it_637 :: H) := m.front 5 rfl
         have m : Mem W G_1186 w (it_637 :: it_641 :: it_645 :: it_1164 :: Itm.box b_2 29 [v0_0] :: Itm.box b_15 29 [v_10] :: H) := m.front 5 rfl
         have m : Mem W G_1186 w (Itm.box b_15 29 [v_10] :: it_637 :: it_641 :: it_645 :: it_1164 :: Itm.box b_2 29 [v0_0] :: H) := m.front 5 rfl
         have m : Mem W G_1186 w (Itm.box b_2 29 [v0_0] :: Itm.box b_15 29 [v_10] :: it_637 :: it_641 :: it_645 :: it_1164 :: H) := m.front 5 rfl
         have m : Mem W G_1186 w (Itm.box b_2 29 [v0_0] :: Itm.box b_15 29 [v_10] :: it_637 :: it_641 :: it_645 :: H) := m.eraseAt 5
         obtain rfl := Option.some.inj hs_1069
         exact ⟨_, rfl, _, _, _, rfl, _, (GLe.trans hl_1077 (GLe.trans hl_1138 (GLe.trans hl_1159 hl_1187))), f.weak ⟨rfl, rfl, rfl, rfl, rfl, rfl, rfl, rfl, trivial⟩, m⟩
    ·refine k_false f rfl hc_1142 ?_
     refine k_exit rfl ?_
     have m : Mem W G_1137 w (it_645 :: Itm.box b_2 29 [v0_0] :: Itm.box b_15 29 [v_10] :: it_637 :: it_641 :: H) := m.front 4 rfl
     have m : Mem W G_1137 w (it_641 :: it_645 :: Itm.box b_2 29 [v0_0] :: Itm.box b_15 29 [v_10] :: it_637 :: H) := m.front 4 rfl
     have m : Mem W G_1137 w (it_637 :: it_641 :: it_645 :: Itm.box b_2 29 [v0_0] :: Itm.box b_15 29 [v_10] :: H) := m.front 4 rfl
     have m : Mem W G_1137 w (Itm.box b_15 29 [v_10] :: it_637 :: it_641 :: it_645 :: Itm.box b_2 29 [v0_0] :: H) := m.front 4 rfl
     have m : Mem W G_1137 w (Itm.box b_2 29 [v0_0] :: Itm.box b_15 29 [v_10] :: it_637 :: it_641 :: it_645 :: H) := m.front 4 rfl
     obtain rfl := Option.some.inj hs_1069
     obtain rfl := hq_1070 _ rfl
     exact ⟨_, rfl, _, (GLe.trans hl_1077 hl_1138), f.weak ⟨rfl, rfl, rfl, rfl, rfl, rfl, trivial⟩, m⟩
   ·rintro a w ⟨x_1133, rfl, G_1132, hl_1134, f, m⟩
    have h0_0 := RSl.mono (RSl.mono (RI.mono _)) _ _ _ _ hl_1134 h0_0
    have o_638 := Ow.mono RB.mono hl_1134 o_638
    have o_642 := Ow.mono (RI.mono _) hl_1134 o_642
    have o_646 := Ow.mono (RSl.mono (RI.mono _)) hl_1134 o_646
    refine k_seq ?_
    refine k_region ?_
    refine l_op f rfl rfl rfl (r_move (f.eval rfl)) (fun a f => ?_)
    refine l_op f rfl rfl rfl (r_move (f.eval rfl)) (fun a f => ?_)
    obtain ⟨e_1189, he_1190, hs_631⟩ := bind_some hs_631
    refine l_own_at 2 m o_638 rfl T103 f rfl rfl rfl he_1190 (fun p_1191 a ha_1192 f => ?_)
    refine l_own_store 2 m o_638 rfl Tryd.sizeOf4 f rfl rfl ha_1192 he_1190 rfl rfl rfl (fun it_1193 w m o_1194 => ?_)
    have m : Mem W G_1132 w (Itm.box b_2 29 [v0_0] :: Itm.box b_15 29 [v_10] :: it_1193 :: it_641 :: it_645 :: H) := m
    refine l_nil ?_
    refine k_seq ?_
    refine k_draw 5 Follows (by kernel_rfl) m ?_
    refine q_boxAgg (i := 0) (listed' := #[true, false, false, false, false, false, false]) (ds := [v_10]) 5 1 Ag29 rfl rfl rfl rfl (by kernel_rfl) rfl f rfl rfl rfl (fun a f => ?_)
    refine q_boxAgg (i := 1) (listed' := #[true, true, false, false, false, false, false]) (ds := [v_10]) 5 1 Ag29 rfl rfl rfl rfl (by kernel_rfl) rfl f rfl rfl rfl (fun a f => ?_)
    refine q_op (i := 2) (listed' := #[true, true, true, false, false, false, false]) 5 rfl (by kernel_rfl) rfl f rfl rfl rfl (fun _ _ _ _ _ => r_move (f.eval rfl)) (fun a f => ?_)
    refine q_op (i := 3) (listed' := #[true, true, true, true, false, false, false]) 5 rfl (by kernel_rfl) rfl f rfl rfl rfl (fun _ _ _ _ _ => r_move (f.eval rfl)) (fun a f => ?_)
    refine q_one (i := 4) (listed' := #[true, true, true, true, true, false, false]) rfl (by kernel_rfl) rfl (fun G_1195 w hl_1196 m K_1197 K_1197 => ?_)
    have h0_0 := RSl.mono (RSl.mono (RI.mono _)) _ _ _ _ hl_1196 h0_0
    have o_1194 := Ow.mono RB.mono hl_1196 o_1194
    have o_642 := Ow.mono (RI.mono _) hl_1196 o_642
    have o_646 := Ow.mono (RSl.mono (RI.mono _)) hl_1196 o_646
    have m : Mem W G_1195 w (Itm.box b_2 29 [v0_0] :: Itm.box b_15 29 [v_10] :: it_1193 :: it_641 :: it_645 :: H) := m
    obtain ⟨y_1198, hy_1199, hs_631⟩ := bind_some hs_631
    refine l_res f rfl rfl Tryd.call90 (Ow.lendCall (RSl.mono (RI.mono _)) 4 o_646 m rfl (fun G_1200 hl_1201 m h_1202 => (Ow.lendCall RB.mono 2 (Ow.mono RB.mono hl_1201 o_1194) m rfl (fun G_1203 hl_1204 m h_1205 => Wk.spec_l7Left m (RSl.mono (RSl.mono (RI.mono _)) _ _ _ _ hl_1204 h_1202) h_1205 hy_1199) (fun _ G' _ _ ⟨a0, a1, e1, e2, o0⟩ => ⟨a0, a1, e1, e2, Ow.free (RI.free _) G' o0⟩))) (fun _ G' _ _ ⟨a0, a1, e1, e2, o0⟩ => ⟨a0, a1, e1, e2, Ow.free (RI.free _) G' o0⟩)) (fun v_1209 G_1206 Ho_1210 w hl_1207 m hQ_1208 a f => ?_)
    obtain ⟨v_1211, it_1212, rfl, rfl, o_1213⟩ := hQ_1208
    have h0_0 := RSl.mono (RSl.mono (RI.mono _)) _ _ _ _ hl_1207 h0_0
    have o_1194 := Ow.mono RB.mono hl_1207 o_1194
    have o_642 := Ow.mono (RI.mono _) hl_1207 o_642
    have o_646 := Ow.mono (RSl.mono (RI.mono _)) hl_1207 o_646
    have m : Mem W G_1206 w (it_1212 :: Itm.box b_2 29 [v0_0] :: Itm.box b_15 29 [v_10] :: it_1193 :: it_641 :: it_645 :: H) := m
    refine l_nil ?_
    refine K_1197 G_1206 [it_1212] _ _ hl_1207 m ?_
    refine q_end (fun G_1215 w hl_1216 m => ?_)
    have o_1213 := Ow.mono (RI.mono _) hl_1216 o_1213
    have h0_0 := RSl.mono (RSl.mono (RI.mono _)) _ _ _ _ hl_1216 h0_0
    have o_1194 := Ow.mono RB.mono hl_1216 o_1194
    have o_642 := Ow.mono (RI.mono _) hl_1216 o_642
    have o_646 := Ow.mono (RSl.mono (RI.mono _)) hl_1216 o_646
    have m : Mem W G_1215 w (it_1212 :: Itm.box b_2 29 [v0_0] :: Itm.box b_15 29 [v_10] :: it_1193 :: it_641 :: it_645 :: H) := m
    obtain ⟨G_1217, hl_1218, m, h_1219⟩ := Ow.stamp (RI.mono _) o_1213 m
    have h0_0 := RSl.mono (RSl.mono (RI.mono _)) _ _ _ _ hl_1218 h0_0
    have o_1194 := Ow.mono RB.mono hl_1218 o_1194
    have o_642 := Ow.mono (RI.mono _) hl_1218 o_642
    have o_646 := Ow.mono (RSl.mono (RI.mono _)) hl_1218 o_646
    have m : Mem W G_1217 w (Itm.box b_2 29 [v0_0] :: Itm.box b_15 29 [v_10] :: it_1193 :: it_641 :: it_645 :: H) := m
    have m : Mem W G_1217 w (it_645 :: Itm.box b_2 29 [v0_0] :: Itm.box b_15 29 [v_10] :: it_1193 :: it_641 :: H) := m.front 4 rfl
    obtain ⟨y_1220, hy_1221, hs_631⟩ := bind_some hs_631
    refine l_res f rfl rfl Tryd.call122 (Wk.spec_l7Clique m o_646 h_1219 hy_1221) (fun v_1225 G_1222 Ho_1226 w hl_1223 m hQ_1224 a f => ?_)
    obtain ⟨it_1227, rfl, rfl, o_1228⟩ := hQ_1224
    have h_1219 := RSl.mono (RI.mono _) _ _ _ _ hl_1223 h_1219
    have h0_0 := RSl.mono (RSl.mono (RI.mono _)) _ _ _ _ hl_1223 h0_0
    have o_1194 := Ow.mono RB.mono hl_1223 o_1194
    have o_642 := Ow.mono (RI.mono _) hl_1223 o_642
    have m : Mem W G_1222 w (it_1227 :: Itm.box b_2 29 [v0_0] :: Itm.box b_15 29 [v_10] :: it_1193 :: it_641 :: H) := m
    refine l_boxStore 2 0 (ds := [v_10]) m Tryd.sizeOf29 f rfl rfl rfl (ones_cons (Ow.one1 0 m o_1228 rfl) ones_nil) rfl (Nat.le_of_ble_eq_true rfl) rfl (fun w m => ?_)
    have m : Mem W G_1222 w (it_1227 :: Itm.box b_2 29 [v0_0] :: Itm.box b_15 29 [v_10] :: it_1193 :: it_641 :: H) := m
    refine l_nil ?_
    refine k_region ?_
    refine l_op f rfl rfl rfl (r_move (f.eval rfl)) (fun a f => ?_)
    refine l_op f rfl rfl rfl (r_move (f.eval rfl)) (fun a f => ?_)
    refine l_slit (R := (RI .i64)) (xs := ([x_1133] : List Int)) (RI.one _) m T31 f rfl rfl rfl (by decide) (All2.cons rfl (All2.nil _)) (fun it_1229 v_1230 w a m o_1231 f => ?_)
    obtain ⟨l_1233, hx_1234, hs_631⟩ := bind_some hs_631
    refine l_append (RI.one _) 5 m o_642 rfl T31 rfl (by decide) f rfl rfl rfl (Ow.src (j := 0) o_1231 m rfl) hx_1234 (fun it_1235 v_1236 w a m o_1237 f => ?_)
    have m : Mem W G_1222 w (it_1229 :: it_1227 :: Itm.box b_2 29 [v0_0] :: Itm.box b_15 29 [v_10] :: it_1193 :: it_1235 :: H) := m
    refine l_op f rfl rfl rfl (r_assign (f.eval rfl)) (fun a f => ?_)
    refine l_nil ?_
    have m : Mem W G_1222 w (it_1227 :: it_1229 :: Itm.box b_2 29 [v0_0] :: Itm.box b_15 29 [v_10] :: it_1193 :: it_1235 :: H) := m.front 1 rfl
    have m : Mem W G_1222 w (it_1235 :: it_1227 :: it_1229 :: Itm.box b_2 29 [v0_0] :: Itm.box b_15 29 [v_10] :: it_1193 :: H) := m.front 5 rfl
    have m : Mem W G_1222 w (it_1193 :: it_1235 :: it_1227 :: it_1229 :: Itm.box b_2 29 [v0_0] :: Itm.box b_15 29 [v_10] :: H) := m.front 5 rfl
    have m : Mem W G_1222 w (Itm.box b_15 29 [v_10] :: it_1193 :: it_1235 :: it_1227 :: it_1229 :: Itm.box b_2 29 [v0_0] :: H) := m.front 5 rfl
    have m : Mem W G_1222 w (Itm.box b_2 29 [v0_0] :: Itm.box b_15 29 [v_10] :: it_1193 :: it_1235 :: it_1227 :: it_1229 :: H) := m.front 5 rfl
    have m : Mem W G_1222 w (Itm.box b_2 29 [v0_0] :: Itm.box b_15 29 [v_10] :: it_1193 :: it_1235 :: it_1227 :: H) := m.eraseAt 5
    obtain rfl := Option.some.inj hs_631
    exact ⟨_, rfl, _, _, _, rfl, _, it_1193, v_1236, it_1235, it_1227, (GLe.trans hl_647 (GLe.trans hl_950 (GLe.trans hl_1134 (GLe.trans hl_1196 (GLe.trans hl_1207 (GLe.trans hl_1216 (GLe.trans hl_1218 hl_1223))))))), f.weak ⟨rfl, rfl, rfl, rfl, rfl, trivial⟩, m, o_1194, o_1237, o_1228⟩
  ·refine k_false f rfl hc_954 ?_
   refine k_exit rfl ?_
   have m : Mem W G_949 w (it_641 :: Itm.box b_2 29 [v0_0] :: Itm.box b_15 29 [v_10] :: it_637 :: it_645 :: H) := m.front 3 rfl
   have m : Mem W G_949 w (it_645 :: it_641 :: Itm.box b_2 29 [v0_0] :: Itm.box b_15 29 [v_10] :: it_637 :: H) := m.front 4 rfl
   have m : Mem W G_949 w (it_637 :: it_645 :: it_641 :: Itm.box b_2 29 [v0_0] :: Itm.box b_15 29 [v_10] :: H) := m.front 4 rfl
   have m : Mem W G_949 w (it_641 :: it_637 :: it_645 :: Itm.box b_2 29 [v0_0] :: Itm.box b_15 29 [v_10] :: H) := m.front 2 rfl
   have m : Mem W G_949 w (it_641 :: it_637 :: it_645 :: Itm.box b_2 29 [v0_0] :: H) := m.eraseAt 4
   have m : Mem W G_949 w (it_641 :: it_637 :: it_645 :: H) := m.eraseAt 3
   have m : Mem W G_949 w (it_641 :: it_637 :: H) := m.eraseAt 2
   have m : Mem W G_949 w (it_641 :: H) := m.eraseAt 1
   obtain rfl := Option.some.inj hs_631
   obtain rfl := hq_632 _ rfl
   exact ⟨_, rfl, _, v_640, it_641, (GLe.trans hl_647 hl_950), f.weak ⟨rfl, trivial⟩, m, o_642⟩
 ·rintro a w ⟨l_941, rfl, G_940, v_942, it_943, hl_946, f, m, o_944⟩
  refine k_seq ?_
  refine k_region ?_
  refine l_op f rfl rfl rfl (r_move (f.eval rfl)) (fun a f => ?_)
  refine l_op f rfl rfl rfl (r_assign (f.eval rfl)) (fun a f => ?_)
  refine l_nil ?_
  refine k_ret ?_
  obtain rfl := Option.some.inj hd
  exact ⟨[v_942], ⟨f.get _ _ rfl, trivial⟩, f.defers, _, [it_943], (GLe.trans hl_6 (GLe.trans hl_19 hl_946)), m, _, _, rfl, rfl, o_944⟩

theorem Wk.spec_ByDegree {W w : World} {G : GH} {H : List Itm} {v0_0 : Value} {x0_0 : (List (List Int))} (m : Mem W G w (H)) (h0_0 : RSl (RSl (RI .i64)) G v0_0 x0_0) {y : ((List Int))} (hd : D.spec_ByDegree x0_0 = some y) :
  Calls Tryd.prog 35 #[(.agg #[v0_0])] w (Res W G H (fun G' Ho v => ∃ r0 : Value, ∃ i0 : Itm, Ho = [i0] ∧ r0 = v ∧ Ow (RI .i64) 2 G' i0 r0 y)) := by
 refine calls_b (args := [(.agg #[v0_0])]) (N := 9) [.tmp 2] Tryd.func35 rfl rfl (Nat.le_of_ble_eq_true rfl) rfl (fun a f => ?_)
 unfold D.spec_ByDegree at hd
 refine k_seq ?_
 refine k_region ?_
 refine l_box (cs := [v0_0]) m f rfl rfl rfl (fun b_2 w a m f => ?_)
 refine l_op f rfl rfl rfl (r_assign (f.eval rfl)) (fun a f => ?_)
 refine l_nil ?_
 refine k_seq ?_
 refine k_seq ?_
 refine k_region ?_
 refine l_boxAgg 0 0 (ds := [v0_0]) m Ag29 f rfl rfl rfl rfl rfl (fun a f => ?_)
 obtain ⟨y_3, hy_4, hd⟩ := bind_some hd
 refine l_res f rfl rfl Tryd.call51 (Wk.spec_GraphOk m h0_0 hy_4) (fun v_8 G_5 Ho_9 w hl_6 m hQ_7 a f => ?_)
 obtain ⟨rfl, rfl⟩ := hQ_7
 have h0_0 := RSl.mono (RSl.mono (RI.mono _)) _ _ _ _ hl_6 h0_0
 have m : Mem W G_5 w (Itm.box b_2 29 [v0_0] :: H) := m
 refine l_op f rfl rfl rfl (r_not (f.eval rfl)) (fun a f => ?_)
 refine l_nil ?_
 rcases cond_some hd with ⟨hc_10, hd⟩ | ⟨hc_10, hd⟩
 ·refine k_true f rfl hc_10 ?_
  refine k_seq ?_
  refine k_region ?_
  refine l_slit (R := (RI .i64)) (xs := ([] : List Int)) (RI.one _) m T31 f rfl rfl rfl (by decide) (All2.nil _) (fun it_11 v_12 w a m o_13 f => ?_)
  refine l_op f rfl rfl rfl (r_assign (f.eval rfl)) (fun a f => ?_)
  refine l_nil ?_
  refine k_ret ?_
  have m : Mem W G_5 w (it_11 :: H) := m.eraseAt 1
  obtain rfl := Option.some.inj hd
  exact ⟨[v_12], ⟨f.get _ _ rfl, trivial⟩, f.defers, _, [it_11], hl_6, m, _, _, rfl, rfl, o_13⟩
 ·refine k_false f rfl hc_10 ?_
  refine k_skip ?_
  refine k_seq ?_
  refine k_region ?_
  refine l_boxAgg 0 0 (ds := [v0_0]) m Ag29 f rfl rfl rfl rfl rfl (fun a f => ?_)
  obtain ⟨y_15, hy_16, hd⟩ := bind_some hd
  refine l_res f rfl rfl Tryd.call91 (Wk.spec_l7Greedy m h0_0 hy_16) (fun v_20 G_17 Ho_21 w hl_18 m hQ_19 a f => ?_)
  obtain ⟨v_22, it_23, rfl, rfl, o_24⟩ := hQ_19
  have h0_0 := RSl.mono (RSl.mono (RI.mono _)) _ _ _ _ hl_18 h0_0
  have m : Mem W G_17 w (it_23 :: Itm.box b_2 29 [v0_0] :: H) := m
  refine l_op f rfl rfl rfl (r_assign (f.eval rfl)) (fun a f => ?_)
  refine l_nil ?_
  refine k_ret ?_
  have m : Mem W G_17 w (it_23 :: H) := m.eraseAt 1
  obtain rfl := Option.some.inj hd
  exact ⟨[v_22], ⟨f.get _ _ rfl, trivial⟩, f.defers, _, [it_23], (GLe.trans hl_6 hl_18), m, _, _, rfl, rfl, o_24⟩

theorem Wk.laws_likeInts {W w : World} {G : GH} {H : List Itm} {v0 : Value} {v1 : Value} {x0 : (List Int)} {x1 : (List Int)} (m : Mem W G w (H)) (h0 : RSl (RI .i64) G v0 x0) (h1 : RSl (RI .i64) G v1 x1) {y : Bool} (hd : D.laws_likeInts x0 x1 = some y) :
  Calls Tryd.prog 34 #[v0, v1] w (Res W G H (fun _ Ho v => Ho = [] ∧ v = (.bool y))) := by
 refine calls_b (args := [v0, v1]) (N := 26) [.tmp 4] Tryd.func34 rfl rfl (Nat.le_of_ble_eq_true rfl) rfl (fun a f => ?_)
 unfold D.laws_likeInts at hd
 refine k_seq ?_
 refine k_region ?_
 refine l_op f rfl rfl rfl (r_assign (f.eval rfl)) (fun a f => ?_)
 refine l_nil ?_
 refine k_seq ?_
 refine k_seq ?_
 refine k_region ?_
 refine l_op f rfl rfl rfl (r_move (f.eval rfl)) (fun a f => ?_)
 refine l_len Tryd.underlying31 f rfl rfl h0 (fun a f => ?_)
 refine l_op f rfl rfl rfl (r_move (f.eval rfl)) (fun a f => ?_)
 refine l_len Tryd.underlying31 f rfl rfl h1 (fun a f => ?_)
 refine l_op f rfl rfl rfl (r_int (f.eval rfl) (f.eval rfl) b_neq) (fun a f => ?_)
 refine l_nil ?_
 rcases cond_some hd with ⟨hc_1, hd⟩ | ⟨hc_1, hd⟩
 ·refine k_true f rfl hc_1 ?_
  refine k_seq ?_
  refine k_region ?_
  refine l_op f rfl rfl rfl (r_assign (f.eval rfl)) (fun a f => ?_)
  refine l_nil ?_
  refine k_ret ?_
  obtain rfl := Option.some.inj hd
  exact ⟨[(.bool false)], ⟨f.get _ _ rfl, trivial⟩, f.defers, _, [], (GLe.refl _), m, rfl, rfl⟩
 ·refine k_false f rfl hc_1 ?_
  refine k_skip ?_
  refine k_seq ?_
  refine k_seq ?_
  refine k_region ?_
  refine l_op f rfl rfl rfl (r_assign (f.eval rfl)) (fun a f => ?_)
  refine l_nil ?_
  obtain ⟨q_36, hl_37, hd⟩ := bind_some hd
  refine k_cut (fun a w => ∃ q_36' : Unit, q_36 = .inl q_36' ∧ ∃ (G_61 : GH), GLe G G_61 ∧ Fr a 26 [] ∧ Mem W G_61 w (H)) ?_ ?_
  ·refine k_block ?_
   refine k_loop (fun s_40 a w => ∃ x_43 : Int, x_43 = s_40 ∧ ∃ (G_42 : GH), GLe G G_42 ∧ Fr a 26 [(0, v0), (1, v1), (5, (.int .i64 x_43))] ∧ Mem W G_42 w (H)) hl_37 ⟨_, rfl, _, (GLe.refl _), f.weak ⟨rfl, rfl, rfl, trivial⟩, m⟩ ?_
   clear hl_37 f m
   rintro s_40 o_41 hs_38 hq_39 a w ⟨x_43, rfl, G_42, hl_44, f, m⟩
   have h0 := RSl.mono (RI.mono _) _ _ _ _ hl_44 h0
   have h1 := RSl.mono (RI.mono _) _ _ _ _ hl_44 h1
   refine k_seq ?_
   refine k_seq ?_
   refine k_region ?_
   refine l_op f rfl rfl rfl (r_move (f.eval rfl)) (fun a f => ?_)
   refine l_op f rfl rfl rfl (r_move (f.eval rfl)) (fun a f => ?_)
   refine l_len Tryd.underlying31 f rfl rfl h0 (fun a f => ?_)
   refine l_op f rfl rfl rfl (r_int (f.eval rfl) (f.eval rfl) b_lss) (fun a f => ?_)
   refine l_nil ?_
   rcases cond_some hs_38 with ⟨hc_63, hs_38⟩ | ⟨hc_63, hs_38⟩
   ·refine k_true f rfl hc_63 ?_
    refine k_skip ?_
    refine k_seq ?_
    refine k_block ?_
    refine k_seq ?_
    refine k_draw 9 Follows (by kernel_rfl) m ?_
    refine q_op (i := 0) (listed' := #[true, false, false, false, false, false, false, false, false]) 9 rfl (by kernel_rfl) rfl f rfl rfl rfl (fun _ _ _ _ _ => r_move (f.eval rfl)) (fun a f => ?_)
    refine q_op (i := 1) (listed' := #[true, true, false, false, false, false, false, false, false]) 9 rfl (by kernel_rfl) rfl f rfl rfl rfl (fun _ _ _ _ _ => r_move (f.eval rfl)) (fun a f => ?_)
    obtain ⟨e_64, he_65, hs_38⟩ := bind_some hs_38
    refine q_at (i := 2) (listed' := #[true, true, true, false, false, false, false, false, false]) 9 T31 h0 he_65 rfl (by kernel_rfl) rfl f rfl rfl rfl rfl (fun p_66 c_67 a g_68 h_69 f => ?_)
    subst h_69
    refine q_loadAt (i := 3) (listed' := #[true, true, true, true, false, false, false, false, false]) 9 Pl2 g_68 rfl (by kernel_rfl) rfl f rfl rfl rfl (fun a f => ?_)
    refine q_op (i := 4) (listed' := #[true, true, true, true, true, false, false, false, false]) 9 rfl (by kernel_rfl) rfl f rfl rfl rfl (fun _ _ _ _ _ => r_move (f.eval rfl)) (fun a f => ?_)
    refine q_op (i := 5) (listed' := #[true, true, true, true, true, true, false, false, false]) 9 rfl (by kernel_rfl) rfl f rfl rfl rfl (fun _ _ _ _ _ => r_move (f.eval rfl)) (fun a f => ?_)
    obtain ⟨e_70, he_71, hs_38⟩ := bind_some hs_38
    refine q_at (i := 6) (listed' := #[true, true, true, true, true, true, true, false, false]) 9 T31 h1 he_71 rfl (by kernel_rfl) rfl f rfl rfl rfl rfl (fun p_72 c_73 a g_74 h_75 f => ?_)
    subst h_75
    refine q_loadAt (i := 7) (listed' := #[true, true, true, true, true, true, true, true, false]) 9 Pl2 g_74 rfl (by kernel_rfl) rfl f rfl rfl rfl (fun a f => ?_)
    refine q_op (i := 8) (listed' := #[true, true, true, true, true, true, true, true, true]) 9 rfl (by kernel_rfl) rfl f rfl rfl rfl (fun _ _ _ _ _ => r_int (f.eval rfl) (f.eval rfl) b_neq) (fun a f => ?_)
    refine q_end (fun G_76 w hl_77 m => ?_)
    have h0 := RSl.mono (RI.mono _) _ _ _ _ hl_77 h0
    have h1 := RSl.mono (RI.mono _) _ _ _ _ hl_77 h1
    have g_68 := At.mono hl_77 g_68
    have g_74 := At.mono hl_77 g_74
    have m : Mem W G_76 w (H) := m
    refine l_nil ?_
    rcases cond_some hs_38 with ⟨hc_78, hs_38⟩ | ⟨hc_78, hs_38⟩
    ·refine k_true f rfl hc_78 ?_
     refine k_seq ?_
     refine k_region ?_
     refine l_op f rfl rfl rfl (r_assign (f.eval rfl)) (fun a f => ?_)
     refine l_nil ?_
     refine k_ret ?_
     obtain rfl := Option.some.inj hs_38
     obtain rfl := hq_39 _ rfl
     obtain rfl := Option.some.inj hd
     exact ⟨[(.bool false)], ⟨f.get _ _ rfl, trivial⟩, f.defers, _, [], (GLe.trans hl_44 hl_77), m, rfl, rfl⟩
    ·refine k_false f rfl hc_78 ?_
     refine k_skip ?_
     refine k_region ?_
     refine l_op f rfl rfl rfl (r_move (f.eval rfl)) (fun a f => ?_)
     refine l_op f rfl rfl rfl (r_int (f.eval rfl) (f.eval rfl) b_add) (fun a f => ?_)
     refine l_op f rfl rfl rfl (r_assign (f.eval rfl)) (fun a f => ?_)
     refine l_nil ?_
     obtain rfl := Option.some.inj hs_38
     exact ⟨_, rfl, _, rfl, _, (GLe.trans hl_44 hl_77), f.weak ⟨rfl, rfl, rfl, trivial⟩, m⟩
   ·refine k_false f rfl hc_63 ?_
    refine k_exit rfl ?_
    obtain rfl := Option.some.inj hs_38
    obtain rfl := hq_39 _ rfl
    exact ⟨_, rfl, _, hl_44, f.weak trivial, m⟩
  ·rintro a w ⟨_, rfl, G_61, hl_62, f, m⟩
   refine k_seq ?_
   refine k_region ?_
   refine l_op f rfl rfl rfl (r_assign (f.eval rfl)) (fun a f => ?_)
   refine l_nil ?_
   refine k_ret ?_
   obtain rfl := Option.some.inj hd
   exact ⟨[(.bool true)], ⟨f.get _ _ rfl, trivial⟩, f.defers, _, [], hl_62, m, rfl, rfl⟩

theorem Wk.spec_ByFill {W w : World} {G : GH} {H : List Itm} {v0_0 : Value} {x0_0 : (List (List Int))} (m : Mem W G w (H)) (h0_0 : RSl (RSl (RI .i64)) G v0_0 x0_0) {y : ((List Int))} (hd : D.spec_ByFill x0_0 = some y) :
  Calls Tryd.prog 36 #[(.agg #[v0_0])] w (Res W G H (fun G' Ho v => ∃ r0 : Value, ∃ i0 : Itm, Ho = [i0] ∧ r0 = v ∧ Ow (RI .i64) 2 G' i0 r0 y)) := by
 refine calls_b (args := [(.agg #[v0_0])]) (N := 9) [.tmp 2] Tryd.func36 rfl rfl (Nat.le_of_ble_eq_true rfl) rfl (fun a f => ?_)
 unfold D.spec_ByFill at hd
 refine k_seq ?_
 refine k_region ?_
 refine l_box (cs := [v0_0]) m f rfl rfl rfl (fun b_2 w a m f => ?_)
 refine l_op f rfl rfl rfl (r_assign (f.eval rfl)) (fun a f => ?_)
 refine l_nil ?_
 refine k_seq ?_
 refine k_seq ?_
 refine k_region ?_
 refine l_boxAgg 0 0 (ds := [v0_0]) m Ag29 f rfl rfl rfl rfl rfl (fun a f => ?_)
 obtain ⟨y_3, hy_4, hd⟩ := bind_some hd
 refine l_res f rfl rfl Tryd.call51 (Wk.spec_GraphOk m h0_0 hy_4) (fun v_8 G_5 Ho_9 w hl_6 m hQ_7 a f => ?_)
 obtain ⟨rfl, rfl⟩ := hQ_7
 have h0_0 := RSl.mono (RSl.mono (RI.mono _)) _ _ _ _ hl_6 h0_0
 have m : Mem W G_5 w (Itm.box b_2 29 [v0_0] :: H) := m
 refine l_op f rfl rfl rfl (r_not (f.eval rfl)) (fun a f => ?_)
 refine l_nil ?_
 rcases cond_some hd with ⟨hc_10, hd⟩ | ⟨hc_10, hd⟩
 ·refine k_true f rfl hc_10 ?_
  refine k_seq ?_
  refine k_region ?_
  refine l_slit (R := (RI .i64)) (xs := ([] : List Int)) (RI.one _) m T31 f rfl rfl rfl (by decide) (All2.nil _) (fun it_11 v_12 w a m o_13 f => ?_)
  refine l_op f rfl rfl rfl (r_assign (f.eval rfl)) (fun a f => ?_)
  refine l_nil ?_
  refine k_ret ?_
  have m : Mem W G_5 w (it_11 :: H) := m.eraseAt 1
  obtain rfl := Option.some.inj hd
  exact ⟨[v_12], ⟨f.get _ _ rfl, trivial⟩, f.defers, _, [it_11], hl_6, m, _, _, rfl, rfl, o_13⟩
 ·refine k_false f rfl hc_10 ?_
  refine k_skip ?_
  refine k_seq ?_
  refine k_region ?_
  refine l_boxAgg 0 0 (ds := [v0_0]) m Ag29 f rfl rfl rfl rfl rfl (fun a f => ?_)
  obtain ⟨y_15, hy_16, hd⟩ := bind_some hd
  refine l_res f rfl rfl Tryd.call91 (Wk.spec_l7Greedy m h0_0 hy_16) (fun v_20 G_17 Ho_21 w hl_18 m hQ_19 a f => ?_)
  obtain ⟨v_22, it_23, rfl, rfl, o_24⟩ := hQ_19
  have h0_0 := RSl.mono (RSl.mono (RI.mono _)) _ _ _ _ hl_18 h0_0
  have m : Mem W G_17 w (it_23 :: Itm.box b_2 29 [v0_0] :: H) := m
  refine l_op f rfl rfl rfl (r_assign (f.eval rfl)) (fun a f => ?_)
  refine l_nil ?_
  refine k_ret ?_
  have m : Mem W G_17 w (it_23 :: H) := m.eraseAt 1
  obtain rfl := Option.some.inj hd
  exact ⟨[v_22], ⟨f.get _ _ rfl, trivial⟩, f.defers, _, [it_23], (GLe.trans hl_6 hl_18), m, _, _, rfl, rfl, o_24⟩

theorem Wk.impl_LaterOf {W w : World} {G : GH} {H : List Itm} {v0_0 : Value} {v1 : Value} {x0_0 : (List (List Int))} {x1 : (List Int)} (hW : TabW W) (m : Mem W G w (H)) (h0_0 : RSl (RSl (RI .i64)) G v0_0 x0_0) (h1 : RSl (RI .i64) G v1 x1) {y : ((List (List Int)))} (hd : D.impl_LaterOf x0_0 x1 = some y) :
  Calls Tryd.prog 37 #[(.agg #[v0_0]), v1] w (Res W G H (fun G' Ho v => ∃ r0 : Value, ∃ i0 : Itm, Ho = [i0] ∧ r0 = v ∧ Ow2 (RI .i64) 31 2 G' i0 r0 y)) := by
 refine calls_b (args := [(.agg #[v0_0]), v1]) (N := 21) [.tmp 4] Tryd.func37 rfl rfl (Nat.le_of_ble_eq_true rfl) rfl (fun a f => ?_)
 unfold D.impl_LaterOf at hd
 refine k_seq ?_
 refine k_region ?_
 refine l_box (cs := [v0_0]) m f rfl rfl rfl (fun b_2 w a m f => ?_)
 refine l_op f rfl rfl rfl (r_assign (f.eval rfl)) (fun a f => ?_)
 refine l_nil ?_
 refine k_seq ?_
 refine k_seq ?_
 refine k_region ?_
 refine l_boxAgg 0 0 (ds := [v0_0]) m Ag29 f rfl rfl rfl rfl rfl (fun a f => ?_)
 refine l_op f rfl rfl rfl (r_move (f.eval rfl)) (fun a f => ?_)
 obtain ⟨y_3, hy_4, hd⟩ := bind_some hd
 refine l_res f rfl rfl Tryd.call43 (Wk.impl_OrderOk m h0_0 h1 hy_4) (fun v_8 G_5 Ho_9 w hl_6 m hQ_7 a f => ?_)
 obtain ⟨rfl, rfl⟩ := hQ_7
 have h0_0 := RSl.mono (RSl.mono (RI.mono _)) _ _ _ _ hl_6 h0_0
 have h1 := RSl.mono (RI.mono _) _ _ _ _ hl_6 h1
 have m : Mem W G_5 w (Itm.box b_2 29 [v0_0] :: H) := m
 refine l_op f rfl rfl rfl (r_not (f.eval rfl)) (fun a f => ?_)
 refine l_nil ?_
 rcases cond_some hd with ⟨hc_10, hd⟩ | ⟨hc_10, hd⟩
 ·refine k_true f rfl hc_10 ?_
  refine k_seq ?_
  refine k_region ?_
  refine l_op f rfl rfl rfl (r_assign (f.eval rfl)) (fun a f => ?_)
  refine l_nil ?_
  refine k_ret ?_
  obtain ⟨it_11, m, o_12⟩ := Ow2.nil (RI .i64) 31 2 m
  have m : Mem W G_5 w (it_11 :: Itm.box b_2 29 [v0_0] :: H) := m
  have m : Mem W G_5 w (it_11 :: H) := m.eraseAt 1
  obtain rfl := Option.some.inj hd
  exact ⟨[(.slice none 0 0)], ⟨f.get _ _ rfl, trivial⟩, f.defers, _, [it_11], hl_6, m, _, _, rfl, rfl, o_12⟩
 ·refine k_false f rfl hc_10 ?_
  refine k_skip ?_
  refine k_seq ?_
  refine k_region ?_
  refine l_boxAgg 0 0 (ds := [v0_0]) m Ag29 f rfl rfl rfl rfl rfl (fun a f => ?_)
  obtain ⟨y_14, hy_15, hd⟩ := bind_some hd
  refine l_res f rfl rfl Tryd.call46 (Wk.impl_netsOf m h0_0 hy_15) (fun v_19 G_16 Ho_20 w hl_17 m hQ_18 a f => ?_)
  obtain ⟨v_21, it_22, rfl, rfl, o_23⟩ := hQ_18
  have h0_0 := RSl.mono (RSl.mono (RI.mono _)) _ _ _ _ hl_17 h0_0
  have h1 := RSl.mono (RI.mono _) _ _ _ _ hl_17 h1
  have m : Mem W G_16 w (it_22 :: Itm.box b_2 29 [v0_0] :: H) := m
  refine l_op f rfl rfl rfl (r_move (f.eval rfl)) (fun a f => ?_)
  obtain ⟨y_25, hy_26, hd⟩ := bind_some hd
  refine l_res f rfl rfl Tryd.call47 (Wk.impl_narrow m h1 hy_26) (fun v_30 G_27 Ho_31 w hl_28 m hQ_29 a f => ?_)
  obtain ⟨v_32, it_33, rfl, rfl, o_34⟩ := hQ_29
  have h0_0 := RSl.mono (RSl.mono (RI.mono _)) _ _ _ _ hl_28 h0_0
  have h1 := RSl.mono (RI.mono _) _ _ _ _ hl_28 h1
  have o_23 := Ow.mono (RI.mono _) hl_28 o_23
  have m : Mem W G_27 w (it_33 :: it_22 :: Itm.box b_2 29 [v0_0] :: H) := m
  obtain ⟨y_36, hy_37, hd⟩ := bind_some hd
  refine l_res f rfl rfl Tryd.call92 (Ow.lendCall (RI.mono _) 1 o_23 m rfl (fun G_38 hl_39 m h_40 => (Ow.lendCall (RI.mono _) 0 (Ow.mono (RI.mono _) hl_39 o_34) m rfl (fun G_41 hl_42 m h_43 => Wk.impl_elimination hW m (RSl.mono (RI.mono _) _ _ _ _ hl_42 h_40) h_43 hy_37) (fun _ G' _ _ ⟨a0, a1, a2, a3, e1, e2, o0, o1⟩ => ⟨a0, a1, a2, a3, e1, e2, Ow.free (RI.free _) G' o0, Ow.free (RI.free _) G' o1⟩))) (fun _ G' _ _ ⟨a0, a1, a2, a3, e1, e2, o0, o1⟩ => ⟨a0, a1, a2, a3, e1, e2, Ow.free (RI.free _) G' o0, Ow.free (RI.free _) G' o1⟩)) (fun v_47 G_44 Ho_48 w hl_45 m hQ_46 a f => ?_)
  obtain ⟨v_49, it_50, v_53, it_54, rfl, rfl, o_51, o_55⟩ := hQ_46
  have h0_0 := RSl.mono (RSl.mono (RI.mono _)) _ _ _ _ hl_45 h0_0
  have h1 := RSl.mono (RI.mono _) _ _ _ _ hl_45 h1
  have o_34 := Ow.mono (RI.mono _) hl_45 o_34
  have o_23 := Ow.mono (RI.mono _) hl_45 o_23
  have m : Mem W G_44 w (it_50 :: it_54 :: it_33 :: it_22 :: Itm.box b_2 29 [v0_0] :: H) := m
  refine l_op f rfl rfl rfl (r_move (f.eval rfl)) (fun a f => ?_)
  refine l_op f rfl rfl rfl (r_extract (f.eval rfl) rfl) (fun a f => ?_)
  refine l_op f rfl rfl rfl (r_extract (f.eval rfl) rfl) (fun a f => ?_)
  refine l_op f rfl rfl rfl (r_assign (f.eval rfl)) (fun a f => ?_)
  refine l_op f rfl rfl rfl (r_assign (f.eval rfl)) (fun a f => ?_)
  refine l_nil ?_
  refine k_seq ?_
  refine k_region ?_
  refine l_op f rfl rfl rfl (r_move (f.eval rfl)) (fun a f => ?_)
  obtain ⟨y_57, hy_58, hd⟩ := bind_some hd
  refine l_res f rfl rfl Tryd.call44 (Ow.lendCall (RI.mono _) 1 o_55 m rfl (fun G_59 hl_60 m h_61 => Wk.impl_results hW m h_61 hy_58) (fun _ G' _ _ ⟨a0, a1, e1, e2, o0⟩ => ⟨a0, a1, e1, e2, Ow2.free (RI.free _) G' o0⟩)) (fun v_65 G_62 Ho_66 w hl_63 m hQ_64 a f => ?_)
  obtain ⟨v_67, it_68, rfl, rfl, o_69⟩ := hQ_64
  have h0_0 := RSl.mono (RSl.mono (RI.mono _)) _ _ _ _ hl_63 h0_0
  have h1 := RSl.mono (RI.mono _) _ _ _ _ hl_63 h1
  have o_51 := Ow.mono (RI.mono _) hl_63 o_51
  have o_55 := Ow.mono (RI.mono _) hl_63 o_55
  have o_34 := Ow.mono (RI.mono _) hl_63 o_34
  have o_23 := Ow.mono (RI.mono _) hl_63 o_23
  have m : Mem W G_62 w (it_68 :: it_50 :: it_54 :: it_33 :: it_22 :: Itm.box b_2 29 [v0_0] :: H) := m
  refine l_op f rfl rfl rfl (r_assign (f.eval rfl)) (fun a f => ?_)
  refine l_nil ?_
  refine k_ret ?_
  have m : Mem W G_62 w (it_68 :: it_50 :: it_54 :: it_33 :: it_22 :: H) := m.eraseAt 5
  have m : Mem W G_62 w (it_68 :: it_50 :: it_54 :: it_33 :: H) := m.eraseAt 4
  have m : Mem W G_62 w (it_68 :: it_50 :: it_54 :: H) := m.eraseAt 3
  have m : Mem W G_62 w (it_68 :: it_50 :: H) := m.eraseAt 2
  have m : Mem W G_62 w (it_68 :: H) := m.eraseAt 1
  obtain rfl := Option.some.inj hd
  exact ⟨[v_67], ⟨f.get _ _ rfl, trivial⟩, f.defers, _, [it_68], (GLe.trans hl_6 (GLe.trans hl_17 (GLe.trans hl_28 (GLe.trans hl_45 hl_63)))), m, _, _, rfl, rfl, o_69⟩


end Go.Proofs.YtehnblgkgaakeaaDoor
