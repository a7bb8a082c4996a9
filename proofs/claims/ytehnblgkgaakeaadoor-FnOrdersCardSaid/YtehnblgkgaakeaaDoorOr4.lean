/- Parts of the proof: EAW, EBW. -/
import Derived.Test.YtehnblgkgaakeaaDoorOr3
import Derived.Test.YtehnblgkgaakeaaDoorProg
import Derived.KernelRfl
set_option linter.unusedVariables false
set_option linter.unusedSimpArgs false
set_option linter.unusedSectionVars false
set_option maxRecDepth 100000
namespace Go.Proofs.YtehnblgkgaakeaaDoor
open Go Go.Sx
theorem Wk.slices_breakPatternsOrdered_int64 {W w : World} {G : GH} {H : List Itm} {v0 : Value} {it0 : Itm} {x0 : (List Int)} {x1 : Int} {x2 : Int} (m : Mem W G w (it0 :: H)) (o0 : Ow (RI .i64) 2 G it0 v0 x0) {y : ((List Int))} (hd : D.slices_breakPatternsOrdered_int64 x0 x1 x2 = some y) :
  Calls Tryd.prog 134 #[v0, (.int .i64 x1), (.int .i64 x2)] w (Res W G H (fun G' Ho _ => ∃ i0 : Itm, Ho = [i0] ∧ Ow (RI .i64) 2 G' i0 v0 y)) := by
 refine calls_b (args := [v0, (.int .i64 x1), (.int .i64 x2)]) (N := 65) [] Tryd.func134 rfl rfl (Nat.le_of_ble_eq_true rfl) rfl (fun a f => ?_)
 unfold D.slices_breakPatternsOrdered_int64 at hd
 refine k_seq ?_
 refine k_region ?_
 refine l_op f rfl rfl rfl (r_move (f.eval rfl)) (fun a f => ?_)
 refine l_op f rfl rfl rfl (r_move (f.eval rfl)) (fun a f => ?_)
 refine l_op f rfl rfl rfl (r_int (f.eval rfl) (f.eval rfl) b_sub) (fun a f => ?_)
 refine l_op f rfl rfl rfl (r_assign (f.eval rfl)) (fun a f => ?_)
 refine l_nil ?_
 refine k_seq ?_
 refine k_region ?_
 refine l_op f rfl rfl rfl (r_move (f.eval rfl)) (fun a f => ?_)
 refine l_op f rfl rfl rfl (r_int (f.eval rfl) (f.eval rfl) b_geq) (fun a f => ?_)
 refine l_nil ?_
 rcases cond_some hd with ⟨hc_1, hd⟩ | ⟨hc_1, hd⟩
 ·refine k_true f rfl hc_1 ?_
  refine k_seq ?_
  refine k_region ?_
  refine l_op f rfl rfl rfl (r_move (f.eval rfl)) (fun a f => ?_)
  refine l_op f rfl rfl rfl (r_conv (f.eval rfl) ⟨_, Tryd.underlying3⟩ Tryd.underlying145) (fun a f => ?_)
  refine l_alloc (cs := [(.int .u64 0)]) Tryd.zeroValue145 m f rfl rfl (fun b_3 w a m f => ?_)
  refine l_boxStore 0 0 (ds := [(.int .u64 (IntKind.u64.wrap (IntKind.i64.wrap (x2 - x1))))]) m Tryd.sizeOf145 f rfl rfl rfl (ones_cons rfl ones_nil) rfl (Nat.le_of_ble_eq_true rfl) rfl (fun w m => ?_)
  have m : Mem W G w (Itm.box b_3 145 [(.int .u64 (IntKind.u64.wrap (IntKind.i64.wrap (x2 - x1))))] :: it0 :: H) := m
  refine l_nil ?_
  refine k_seq ?_
  refine k_region ?_
  refine l_op f rfl rfl rfl (r_move (f.eval rfl)) (fun a f => ?_)
  obtain ⟨y_4, hy_5, hd⟩ := bind_some hd
  refine l_res f rfl rfl Tryd.call144 (Wk.slices_nextPowerOfTwo m  hy_5) (fun v_9 G_6 Ho_10 w hl_7 m hQ_8 a f => ?_)
  obtain ⟨rfl, rfl⟩ := hQ_8
  have o0 := Ow.mono (RI.mono _) hl_7 o0
  have m : Mem W G_6 w (Itm.box b_3 145 [(.int .u64 (IntKind.u64.wrap (IntKind.i64.wrap (x2 - x1))))] :: it0 :: H) := m
  refine l_op f rfl rfl rfl (r_assign (f.eval rfl)) (fun a f => ?_)
  refine l_nil ?_
  refine k_seq ?_
  refine k_region ?_
  refine l_op f rfl rfl rfl (r_move (f.eval rfl)) (fun a f => ?_)
  refine l_op f rfl rfl rfl (r_move (f.eval rfl)) (fun a f => ?_)
  refine l_op f rfl rfl rfl (r_int (f.eval rfl) (f.eval rfl) (b_quo rfl)) (fun a f => ?_)
  refine l_op f rfl rfl rfl (r_int (f.eval rfl) (f.eval rfl) b_mul) (fun a f => ?_)
  refine l_op f rfl rfl rfl (r_int (f.eval rfl) (f.eval rfl) b_add) (fun a f => ?_)
  refine l_op f rfl rfl rfl (r_int (f.eval rfl) (f.eval rfl) b_sub) (fun a f => ?_)
  refine l_op f rfl rfl rfl (r_assign (f.eval rfl)) (fun a f => ?_)
  refine l_nil ?_
  obtain ⟨q_99, hl_100, hd⟩ := bind_some hd
  refine k_cut (fun a w => ∃ l_154 : List Int, l_154 = q_99 ∧ ∃ (G_153 : GH) (it_155 : Itm), GLe G_6 G_153 ∧ Fr a 65 [] ∧ Mem W G_153 w (it_155 :: H) ∧ Ow (RI .i64) 2 G_153 it_155 v0 l_154) ?_ ?_
  ·refine k_block ?_
   have m : Mem W G_6 w (it0 :: Itm.box b_3 145 [(.int .u64 (IntKind.u64.wrap (IntKind.i64.wrap (x2 - x1))))] :: H) := m.front 1 rfl
   have m : Mem W G_6 w (Itm.box b_3 145 [(.int .u64 (IntKind.u64.wrap (IntKind.i64.wrap (x2 - x1))))] :: it0 :: H) := m.front 1 rfl
   refine k_loop (fun s_103 a w => ∃ l_106 : List Int, ∃ x_109 : Int, ∃ x_110 : Int, (l_106, x_109, x_110) = s_103 ∧ ∃ (G_105 : GH) (it_107 : Itm), GLe G_6 G_105 ∧ Fr a 65 [(0, v0), (1, (.int .i64 x1)), (6, (.int .i64 (IntKind.i64.wrap (x2 - x1)))), (7, (.pointer (some ⟨b_3, 0, none⟩))), (8, (.int .u64 y_4)), (9, (.int .i64 x_109))] ∧ Mem W G_105 w (Itm.box b_3 145 [(.int .u64 x_110)] :: it_107 :: H) ∧ Ow (RI .i64) 2 G_105 it_107 v0 l_106) hl_100 ⟨_, _, _, rfl, _, it0, (GLe.refl _), f.weak ⟨rfl, rfl, rfl, rfl, rfl, rfl, trivial⟩, m, o0⟩ ?_
   clear hl_100 f m
   rintro s_103 o_104 hs_101 hq_102 a w ⟨l_106, x_109, x_110, rfl, G_105, it_107, hl_111, f, m, o_108⟩
   refine k_seq ?_
   refine k_seq ?_
   refine k_region ?_
   refine l_op f rfl rfl rfl (r_move (f.eval rfl)) (fun a f => ?_)
   refine l_op f rfl rfl rfl (r_move (f.eval rfl)) (fun a f => ?_)
   refine l_op f rfl rfl rfl (r_move (f.eval rfl)) (fun a f => ?_)
   refine l_op f rfl rfl rfl (r_int (f.eval rfl) (f.eval rfl) (b_quo rfl)) (fun a f => ?_)
   refine l_op f rfl rfl rfl (r_int (f.eval rfl) (f.eval rfl) b_mul) (fun a f => ?_)
   refine l_op f rfl rfl rfl (r_int (f.eval rfl) (f.eval rfl) b_add) (fun a f => ?_)
   refine l_op f rfl rfl rfl (r_int (f.eval rfl) (f.eval rfl) b_add) (fun a f => ?_)
   refine l_op f rfl rfl rfl (r_int (f.eval rfl) (f.eval rfl) b_leq) (fun a f => ?_)
   refine l_nil ?_
   rcases cond_some hs_101 with ⟨hc_158, hs_101⟩ | ⟨hc_158, hs_101⟩
   ·refine k_true f rfl hc_158 ?_
    refine k_skip ?_
    refine k_seq ?_
    refine k_block ?_
    refine k_seq ?_
    refine k_region ?_
    obtain ⟨y_159, hy_160, hs_101⟩ := bind_some hs_101
    refine l_res f rfl rfl Tryd.call145 (Wk.slices_xorshift_Next m  hy_160) (fun v_164 G_161 Ho_165 w hl_162 m hQ_163 a f => ?_)
    obtain ⟨rfl, rfl⟩ := hQ_163
    have o_108 := Ow.mono (RI.mono _) hl_162 o_108
    have m : Mem W G_161 w (Itm.box b_3 145 [(.int .u64 y_159.2)] :: it_107 :: H) := m
    refine l_op f rfl rfl rfl (r_move (f.eval rfl)) (fun a f => ?_)
    refine l_op f rfl rfl rfl (r_int (f.eval rfl) (f.eval rfl) b_sub) (fun a f => ?_)
    refine l_op f rfl rfl rfl (r_int (f.eval rfl) (f.eval rfl) b_and) (fun a f => ?_)
    refine l_op f rfl rfl rfl (r_conv (f.eval rfl) ⟨_, Tryd.underlying111⟩ Tryd.underlying3) (fun a f => ?_)
    refine l_op f rfl rfl rfl (r_assign (f.eval rfl)) (fun a f => ?_)
    refine l_nil ?_
    refine k_seq ?_
    refine k_seq ?_
    refine k_region ?_
    refine l_op f rfl rfl rfl (r_move (f.eval rfl)) (fun a f => ?_)
    refine l_op f rfl rfl rfl (r_move (f.eval rfl)) (fun a f => ?_)
    refine l_op f rfl rfl rfl (r_int (f.eval rfl) (f.eval rfl) b_geq) (fun a f => ?_)
    refine l_nil ?_
    obtain ⟨j_167, hj_168, hs_101⟩ := bind_some hs_101
    refine k_cut (fun a w => ∃ x_170 : Int, x_170 = j_167 ∧ ∃ (G_169 : GH), GLe G_161 G_169 ∧ Fr a 65 [(0, v0), (1, (.int .i64 x1)), (6, (.int .i64 (IntKind.i64.wrap (x2 - x1)))), (7, (.pointer (some ⟨b_3, 0, none⟩))), (8, (.int .u64 y_4)), (9, (.int .i64 x_109)), (10, (.int .i64 x_170))] ∧ Mem W G_169 w (Itm.box b_3 145 [(.int .u64 y_159.2)] :: it_107 :: H)) ?_ ?_
    ·rcases cond_some hj_168 with ⟨hc_172, hj_168⟩ | ⟨hc_172, hj_168⟩
     ·refine k_true f rfl hc_172 ?_
      refine k_region ?_
      refine l_op f rfl rfl rfl (r_move (f.eval rfl)) (fun a f => ?_)
      refine l_op f rfl rfl rfl (r_move (f.eval rfl)) (fun a f => ?_)
      refine l_op f rfl rfl rfl (r_int (f.eval rfl) (f.eval rfl) b_sub) (fun a f => ?_)
      refine l_op f rfl rfl rfl (r_assign (f.eval rfl)) (fun a f => ?_)
      refine l_nil ?_
      have m : Mem W G_161 w (it_107 :: Itm.box b_3 145 [(.int .u64 y_159.2)] :: H) := m.front 1 rfl
      have m : Mem W G_161 w (Itm.box b_3 145 [(.int .u64 y_159.2)] :: it_107 :: H) := m.front 1 rfl
      obtain rfl := Option.some.inj hj_168
      exact ⟨_, rfl, _, (GLe.refl _), f.weak ⟨rfl, rfl, rfl, rfl, rfl, rfl, rfl, trivial⟩, m⟩
     ·refine k_false f rfl hc_172 ?_
      refine k_skip ?_
      have m : Mem W G_161 w (it_107 :: Itm.box b_3 145 [(.int .u64 y_159.2)] :: H) := m.front 1 rfl
      have m : Mem W G_161 w (Itm.box b_3 145 [(.int .u64 y_159.2)] :: it_107 :: H) := m.front 1 rfl
      obtain rfl := Option.some.inj hj_168
      exact ⟨_, rfl, _, (GLe.refl _), f.weak ⟨rfl, rfl, rfl, rfl, rfl, rfl, rfl, trivial⟩, m⟩
    ·rintro a w ⟨x_170, rfl, G_169, hl_171, f, m⟩
     have o_108 := Ow.mono (RI.mono _) hl_171 o_108
     refine k_draw0 Follows m ?_
     refine p_op (i := 2) (listed' := #[false, false, true, false, false, false, false, false, false, false, false, false, false, false, false, false, false, false, false, false]) rfl (by kernel_rfl) rfl f rfl rfl rfl (fun _ => r_move (f.eval rfl)) (fun a f => ?_)
     refine p_op (i := 3) (listed' := #[false, false, true, true, false, false, false, false, false, false, false, false, false, false, false, false, false, false, false, false]) rfl (by kernel_rfl) rfl f rfl rfl rfl (fun _ => r_move (f.eval rfl)) (fun a f => ?_)
     refine p_op (i := 4) (listed' := #[false, false, true, true, true, false, false, false, false, false, false, false, false, false, false, false, false, false, false, false]) rfl (by kernel_rfl) rfl f rfl rfl rfl (fun _ => r_move (f.eval rfl)) (fun a f => ?_)
     refine p_op (i := 5) (listed' := #[false, false, true, true, true, true, false, false, false, false, false, false, false, false, false, false, false, false, false, false]) rfl (by kernel_rfl) rfl f rfl rfl rfl (fun _ => r_int (f.eval rfl) (f.eval rfl) b_add) (fun a f => ?_)
     refine k_draw1 60017 13 (by kernel_rfl) rfl ?_
     refine q_op (i := 0) (listed' := #[true, false, true, true, true, true, false, false, false, false, false, false, false, false, false, false, false, false, false, false]) 60017 rfl (by kernel_rfl) rfl f rfl rfl rfl (fun _ _ _ _ _ => r_move (f.eval rfl)) (fun a f => ?_)
     refine q_op (i := 1) (listed' := #[true, true, true, true, true, true, false, false, false, false, false, false, false, false, false, false, false, false, false, false]) 60017 rfl (by kernel_rfl) rfl f rfl rfl rfl (fun _ _ _ _ _ => r_move (f.eval rfl)) (fun a f => ?_)
     refine q_op (i := 6) (listed' := #[true, true, true, true, true, true, true, false, false, false, false, false, false, false, false, false, false, false, false, false]) 60017 rfl (by kernel_rfl) rfl f rfl rfl rfl (fun _ _ _ _ _ => r_move (f.eval rfl)) (fun a f => ?_)
     refine q_op (i := 7) (listed' := #[true, true, true, true, true, true, true, true, false, false, false, false, false, false, false, false, false, false, false, false]) 60017 rfl (by kernel_rfl) rfl f rfl rfl rfl (fun _ _ _ _ _ => r_move (f.eval rfl)) (fun a f => ?_)
     refine q_op (i := 8) (listed' := #[true, true, true, true, true, true, true, true, true, false, false, false, false, false, false, false, false, false, false, false]) 60017 rfl (by kernel_rfl) rfl f rfl rfl rfl (fun _ _ _ _ _ => r_move (f.eval rfl)) (fun a f => ?_)
     refine q_op (i := 9) (listed' := #[true, true, true, true, true, true, true, true, true, true, false, false, false, false, false, false, false, false, false, false]) 60017 rfl (by kernel_rfl) rfl f rfl rfl rfl (fun _ _ _ _ _ => r_int (f.eval rfl) (f.eval rfl) b_add) (fun a f => ?_)
     obtain ⟨e_173, he_174, hs_101⟩ := bind_some hs_101
     refine q_own_at (i := 10) (listed' := #[true, true, true, true, true, true, true, true, true, true, true, false, false, false, false, false, false, false, false, false]) 60017 1 m o_108 rfl T31 he_174 rfl (by kernel_rfl) rfl f rfl rfl rfl rfl (fun p_175 a ha_176 f => ?_)
     refine q_own_load (i := 11) (listed' := #[true, true, true, true, true, true, true, true, true, true, true, true, false, false, false, false, false, false, false, false]) 60017 1 o_108 rfl Pl2 ha_176 he_174 rfl (by kernel_rfl) rfl f rfl rfl rfl (fun c_177 a h_178 f => ?_)
     subst h_178
     refine q_op (i := 12) (listed' := #[true, true, true, true, true, true, true, true, true, true, true, true, true, false, false, false, false, false, false, false]) 60017 rfl (by kernel_rfl) rfl f rfl rfl rfl (fun _ _ _ _ _ => r_move (f.eval rfl)) (fun a f => ?_)
     refine q_op (i := 13) (listed' := #[true, true, true, true, true, true, true, true, true, true, true, true, true, true, false, false, false, false, false, false]) 60017 rfl (by kernel_rfl) rfl f rfl rfl rfl (fun _ _ _ _ _ => r_move (f.eval rfl)) (fun a f => ?_)
     obtain ⟨e_179, he_180, hs_101⟩ := bind_some hs_101
     refine q_own_at (i := 14) (listed' := #[true, true, true, true, true, true, true, true, true, true, true, true, true, true, true, false, false, false, false, false]) 60017 1 m o_108 rfl T31 he_180 rfl (by kernel_rfl) rfl f rfl rfl rfl rfl (fun p_181 a ha_182 f => ?_)
     refine q_own_load (i := 15) (listed' := #[true, true, true, true, true, true, true, true, true, true, true, true, true, true, true, true, false, false, false, false]) 60017 1 o_108 rfl Pl2 ha_182 he_180 rfl (by kernel_rfl) rfl f rfl rfl rfl (fun c_183 a h_184 f => ?_)
     subst h_184
     obtain ⟨e_185, he_186, hs_101⟩ := bind_some hs_101
     refine q_own_at (i := 16) (listed' := #[true, true, true, true, true, true, true, true, true, true, true, true, true, true, true, true, true, false, false, false]) 60017 1 m o_108 rfl T31 he_186 rfl (by kernel_rfl) rfl f rfl rfl rfl rfl (fun p_187 a ha_188 f => ?_)
     refine q_end (fun G_189 w hl_190 m => ?_)
     have o_108 := Ow.mono (RI.mono _) hl_190 o_108
     have m : Mem W G_189 w (Itm.box b_3 145 [(.int .u64 y_159.2)] :: it_107 :: H) := m
     refine l_own_store 1 m o_108 rfl Tryd.sizeOf2 f rfl rfl ha_188 he_186 rfl rfl rfl (fun it_191 w m o_192 => ?_)
     have m : Mem W G_189 w (Itm.box b_3 145 [(.int .u64 y_159.2)] :: it_191 :: H) := m
     obtain ⟨e_193, he_194, hs_101⟩ := bind_some hs_101
     refine l_own_at 1 m o_192 rfl T31 f rfl rfl rfl he_194 (fun p_195 a ha_196 f => ?_)
     refine l_own_store 1 m o_192 rfl Tryd.sizeOf2 f rfl rfl ha_196 he_194 rfl rfl rfl (fun it_197 w m o_198 => ?_)
     have m : Mem W G_189 w (Itm.box b_3 145 [(.int .u64 y_159.2)] :: it_197 :: H) := m
     refine l_nil ?_
     refine k_region ?_
     refine l_op f rfl rfl rfl (r_move (f.eval rfl)) (fun a f => ?_)
     refine l_op f rfl rfl rfl (r_int (f.eval rfl) (f.eval rfl) b_add) (fun a f => ?_)
     refine l_op f rfl rfl rfl (r_assign (f.eval rfl)) (fun a f => ?_)
     refine l_nil ?_
     have m : Mem W G_189 w (it_197 :: Itm.box b_3 145 [(.int .u64 y_159.2)] :: H) := m.front 1 rfl
     have m : Mem W G_189 w (Itm.box b_3 145 [(.int .u64 y_159.2)] :: it_197 :: H) := m.front 1 rfl
     obtain rfl := Option.some.inj hs_101
     exact ⟨_, rfl, _, _, _, rfl, _, it_197, (GLe.trans hl_111 (GLe.trans hl_162 (GLe.trans hl_171 hl_190))), f.weak ⟨rfl, rfl, rfl, rfl, rfl, rfl, trivial⟩, m, o_198⟩
   ·refine k_false f rfl hc_158 ?_
    refine k_exit rfl ?_
    have m : Mem W G_105 w (it_107 :: Itm.box b_3 145 [(.int .u64 x_110)] :: H) := m.front 1 rfl
    have m : Mem W G_105 w (it_107 :: H) := m.eraseAt 1
    obtain rfl := Option.some.inj hs_101
    obtain rfl := hq_102 _ rfl
    exact ⟨_, rfl, _, it_107, hl_111, f.weak trivial, m, o_108⟩
  ·rintro a w ⟨l_154, rfl, G_153, it_155, hl_157, f, m, o_156⟩
   obtain rfl := Option.some.inj hd
   exact ⟨[], trivial, f.defers, _, [it_155], (GLe.trans hl_7 hl_157), m, _, rfl, o_156⟩
 ·refine k_false f rfl hc_1 ?_
  refine k_skip ?_
  obtain rfl := Option.some.inj hd
  exact ⟨[], trivial, f.defers, _, [it0], (GLe.refl _), m, _, rfl, o0⟩

theorem Wk.slices_choosePivotOrdered_int64 {W w : World} {G : GH} {H : List Itm} {v0 : Value} {it0 : Itm} {x0 : (List Int)} {x1 : Int} {x2 : Int} (m : Mem W G w (it0 :: H)) (o0 : Ow (RI .i64) 2 G it0 v0 x0) {y : Int × Int × ((List Int))} (hd : D.slices_choosePivotOrdered_int64 x0 x1 x2 = some y) :
  Calls Tryd.prog 135 #[v0, (.int .i64 x1), (.int .i64 x2)] w (Res W G H (fun G' Ho v => ∃ i0 : Itm, Ho = [i0] ∧ v = .tuple #[(.int .i64 y.1), (.int .i64 y.2.1)] ∧ Ow (RI .i64) 2 G' i0 v0 y.2.2)) := by
 refine calls_b (args := [v0, (.int .i64 x1), (.int .i64 x2)]) (N := 57) [.tmp 6, .tmp 7] Tryd.func135 rfl rfl (Nat.le_of_ble_eq_true rfl) rfl (fun a f => ?_)
 unfold D.slices_choosePivotOrdered_int64 at hd
 refine k_seq ?_
 refine k_region ?_
 refine l_op f rfl rfl rfl (r_assign (f.eval rfl)) (fun a f => ?_)
 refine l_op f rfl rfl rfl (r_assign (f.eval rfl)) (fun a f => ?_)
 refine l_nil ?_
 refine k_seq ?_
 refine k_region ?_
 refine l_op f rfl rfl rfl (r_move (f.eval rfl)) (fun a f => ?_)
 refine l_op f rfl rfl rfl (r_move (f.eval rfl)) (fun a f => ?_)
 refine l_op f rfl rfl rfl (r_int (f.eval rfl) (f.eval rfl) b_sub) (fun a f => ?_)
 refine l_op f rfl rfl rfl (r_assign (f.eval rfl)) (fun a f => ?_)
 refine l_nil ?_
 refine k_seq ?_
 refine k_region ?_
 refine l_alloc (cs := [(.int .i64 0)]) Tryd.zeroValue3 m f rfl rfl (fun b_2 w a m f => ?_)
 refine l_nil ?_
 refine k_seq ?_
 refine k_region ?_
 refine l_op f rfl rfl rfl (r_move (f.eval rfl)) (fun a f => ?_)
 refine l_op f rfl rfl rfl (r_move (f.eval rfl)) (fun a f => ?_)
 refine l_op f rfl rfl rfl (r_int (f.eval rfl) (f.eval rfl) (b_quo rfl)) (fun a f => ?_)
 refine l_op f rfl rfl rfl (r_int (f.eval rfl) (f.eval rfl) b_mul) (fun a f => ?_)
 refine l_op f rfl rfl rfl (r_int (f.eval rfl) (f.eval rfl) b_add) (fun a f => ?_)
 refine l_op f rfl rfl rfl (r_assign (f.eval rfl)) (fun a f => ?_)
 refine l_nil ?_
 refine k_seq ?_
 refine k_region ?_
 refine l_op f rfl rfl rfl (r_move (f.eval rfl)) (fun a f => ?_)
 refine l_op f rfl rfl rfl (r_move (f.eval rfl)) (fun a f => ?_)
 refine l_op f rfl rfl rfl (r_int (f.eval rfl) (f.eval rfl) (b_quo rfl)) (fun a f => ?_)
 refine l_op f rfl rfl rfl (r_int (f.eval rfl) (f.eval rfl) b_mul) (fun a f => ?_)
 refine l_op f rfl rfl rfl (r_int (f.eval rfl) (f.eval rfl) b_add) (fun a f => ?_)
 refine l_op f rfl rfl rfl (r_assign (f.eval rfl)) (fun a f => ?_)
 refine l_nil ?_
 refine k_seq ?_
 refine k_region ?_
 refine l_op f rfl rfl rfl (r_move (f.eval rfl)) (fun a f => ?_)
 refine l_op f rfl rfl rfl (r_move (f.eval rfl)) (fun a f => ?_)
 refine l_op f rfl rfl rfl (r_int (f.eval rfl) (f.eval rfl) (b_quo rfl)) (fun a f => ?_)
 refine l_op f rfl rfl rfl (r_int (f.eval rfl) (f.eval rfl) b_mul) (fun a f => ?_)
 refine l_op f rfl rfl rfl (r_int (f.eval rfl) (f.eval rfl) b_add) (fun a f => ?_)
 refine l_op f rfl rfl rfl (r_assign (f.eval rfl)) (fun a f => ?_)
 refine l_nil ?_
 refine k_seq ?_
 refine k_seq ?_
 refine k_region ?_
 refine l_op f rfl rfl rfl (r_move (f.eval rfl)) (fun a f => ?_)
 refine l_op f rfl rfl rfl (r_int (f.eval rfl) (f.eval rfl) b_geq) (fun a f => ?_)
 refine l_nil ?_
 rcases cond_some hd with ⟨hc_3, hd⟩ | ⟨hc_3, hd⟩
 ·refine k_true f rfl hc_3 ?_
  refine k_seq ?_
  refine k_seq ?_
  refine k_region ?_
  refine l_op f rfl rfl rfl (r_move (f.eval rfl)) (fun a f => ?_)
  refine l_op f rfl rfl rfl (r_int (f.eval rfl) (f.eval rfl) b_geq) (fun a f => ?_)
  refine l_nil ?_
  obtain ⟨j_32, hj_33, hd⟩ := bind_some hd
  refine k_cut (fun a w => ∃ l_35 : List Int, ∃ x_38 : Int, ∃ x_39 : Int, ∃ x_40 : Int, ∃ x_41 : Int, (l_35, x_38, x_39, x_40, x_41) = j_32 ∧ ∃ (G_34 : GH) (it_36 : Itm), GLe G G_34 ∧ Fr a 57 [(0, v0), (9, (.pointer (some ⟨b_2, 0, none⟩))), (10, (.int .i64 x_38)), (11, (.int .i64 x_39)), (12, (.int .i64 x_40))] ∧ Mem W G_34 w (Itm.box b_2 3 [(.int .i64 x_41)] :: it_36 :: H) ∧ Ow (RI .i64) 2 G_34 it_36 v0 l_35) ?_ ?_
  ·rcases cond_some hj_33 with ⟨hc_43, hj_33⟩ | ⟨hc_43, hj_33⟩
   ·refine k_true f rfl hc_43 ?_
    refine k_seq ?_
    refine k_region ?_
    refine l_op f rfl rfl rfl (r_move (f.eval rfl)) (fun a f => ?_)
    refine l_op f rfl rfl rfl (r_move (f.eval rfl)) (fun a f => ?_)
    have m : Mem W G w (it0 :: Itm.box b_2 3 [(.int .i64 0)] :: H) := m.front 1 rfl
    obtain ⟨y_44, hy_45, hj_33⟩ := bind_some hj_33
    refine l_res f rfl rfl Tryd.call146 (Wk.slices_medianAdjacentOrdered_int64 m o0 hy_45) (fun v_49 G_46 Ho_50 w hl_47 m hQ_48 a f => ?_)
    obtain ⟨it_51, rfl, rfl, o_52⟩ := hQ_48
    have m : Mem W G_46 w (it_51 :: Itm.box b_2 3 [(.int .i64 y_44.2.2)] :: H) := m
    refine l_op f rfl rfl rfl (r_assign (f.eval rfl)) (fun a f => ?_)
    refine l_nil ?_
    refine k_seq ?_
    refine k_region ?_
    refine l_op f rfl rfl rfl (r_move (f.eval rfl)) (fun a f => ?_)
    refine l_op f rfl rfl rfl (r_move (f.eval rfl)) (fun a f => ?_)
    have m : Mem W G_46 w (Itm.box b_2 3 [(.int .i64 y_44.2.2)] :: it_51 :: H) := m.front 1 rfl
    have m : Mem W G_46 w (it_51 :: Itm.box b_2 3 [(.int .i64 y_44.2.2)] :: H) := m.front 1 rfl
    obtain ⟨y_53, hy_54, hj_33⟩ := bind_some hj_33
    refine l_res f rfl rfl Tryd.call146 (Wk.slices_medianAdjacentOrdered_int64 m o_52 hy_54) (fun v_58 G_55 Ho_59 w hl_56 m hQ_57 a f => ?_)
    obtain ⟨it_60, rfl, rfl, o_61⟩ := hQ_57
    have m : Mem W G_55 w (it_60 :: Itm.box b_2 3 [(.int .i64 y_53.2.2)] :: H) := m
    refine l_op f rfl rfl rfl (r_assign (f.eval rfl)) (fun a f => ?_)
    refine l_nil ?_
    refine k_region ?_
    refine l_op f rfl rfl rfl (r_move (f.eval rfl)) (fun a f => ?_)
    refine l_op f rfl rfl rfl (r_move (f.eval rfl)) (fun a f => ?_)
    have m : Mem W G_55 w (Itm.box b_2 3 [(.int .i64 y_53.2.2)] :: it_60 :: H) := m.front 1 rfl
    have m : Mem W G_55 w (it_60 :: Itm.box b_2 3 [(.int .i64 y_53.2.2)] :: H) := m.front 1 rfl
    obtain ⟨y_62, hy_63, hj_33⟩ := bind_some hj_33
    refine l_res f rfl rfl Tryd.call146 (Wk.slices_medianAdjacentOrdered_int64 m o_61 hy_63) (fun v_67 G_64 Ho_68 w hl_65 m hQ_66 a f => ?_)
    obtain ⟨it_69, rfl, rfl, o_70⟩ := hQ_66
    have m : Mem W G_64 w (it_69 :: Itm.box b_2 3 [(.int .i64 y_62.2.2)] :: H) := m
    refine l_op f rfl rfl rfl (r_assign (f.eval rfl)) (fun a f => ?_)
    refine l_nil ?_
    have m : Mem W G_64 w (Itm.box b_2 3 [(.int .i64 y_62.2.2)] :: it_69 :: H) := m.front 1 rfl
    obtain rfl := Option.some.inj hj_33
    exact ⟨_, _, _, _, _, rfl, _, it_69, (GLe.trans hl_47 (GLe.trans hl_56 hl_65)), f.weak ⟨rfl, rfl, rfl, rfl, rfl, trivial⟩, m, o_70⟩
   ·refine k_false f rfl hc_43 ?_
    refine k_skip ?_
    have m : Mem W G w (it0 :: Itm.box b_2 3 [(.int .i64 0)] :: H) := m.front 1 rfl
    have m : Mem W G w (Itm.box b_2 3 [(.int .i64 0)] :: it0 :: H) := m.front 1 rfl
    obtain rfl := Option.some.inj hj_33
    exact ⟨_, _, _, _, _, rfl, _, it0, (GLe.refl _), f.weak ⟨rfl, rfl, rfl, rfl, rfl, trivial⟩, m, o0⟩
  ·rintro a w ⟨l_35, x_38, x_39, x_40, x_41, rfl, G_34, it_36, hl_42, f, m, o_37⟩
   refine k_region ?_
   refine l_op f rfl rfl rfl (r_move (f.eval rfl)) (fun a f => ?_)
   refine l_op f rfl rfl rfl (r_move (f.eval rfl)) (fun a f => ?_)
   refine l_op f rfl rfl rfl (r_move (f.eval rfl)) (fun a f => ?_)
   refine l_op f rfl rfl rfl (r_move (f.eval rfl)) (fun a f => ?_)
   have m : Mem W G_34 w (it_36 :: Itm.box b_2 3 [(.int .i64 x_41)] :: H) := m.front 1 rfl
   obtain ⟨y_71, hy_72, hd⟩ := bind_some hd
   refine l_res f rfl rfl Tryd.call147 (Wk.slices_medianOrdered_int64 m o_37 hy_72) (fun v_76 G_73 Ho_77 w hl_74 m hQ_75 a f => ?_)
   obtain ⟨it_78, rfl, rfl, o_79⟩ := hQ_75
   have m : Mem W G_73 w (it_78 :: Itm.box b_2 3 [(.int .i64 y_71.2.2)] :: H) := m
   refine l_op f rfl rfl rfl (r_assign (f.eval rfl)) (fun a f => ?_)
   refine l_nil ?_
   refine k_seq ?_
   refine k_region ?_
   refine l_boxCell 1 0 m Pl3 f rfl rfl rfl rfl (fun a f => ?_)
   refine l_nil ?_
   refine k_block ?_
   refine k_seq ?_
   refine k_region ?_
   refine l_op f rfl rfl rfl (r_int (f.eval rfl) (f.eval rfl) b_eql) (fun a f => ?_)
   refine l_op f rfl rfl rfl (r_assign (f.eval rfl)) (fun a f => ?_)
   refine l_nil ?_
   rcases cond_some hd with ⟨hc_80, hd⟩ | ⟨hc_80, hd⟩
   ·refine k_true f rfl hc_80 ?_
    refine k_seq ?_
    refine k_region ?_
    refine l_op f rfl rfl rfl (r_move (f.eval rfl)) (fun a f => ?_)
    refine l_op f rfl rfl rfl (r_assign (f.eval rfl)) (fun a f => ?_)
    refine l_op f rfl rfl rfl (r_assign (f.eval rfl)) (fun a f => ?_)
    refine l_nil ?_
    refine k_ret ?_
    have m : Mem W G_73 w (it_78 :: H) := m.eraseAt 1
    obtain rfl := Option.some.inj hd
    exact ⟨[(.int .i64 y_71.1), (.int .i64 1)], ⟨f.get _ _ rfl, f.get _ _ rfl, trivial⟩, f.defers, _, [it_78], (GLe.trans hl_42 hl_74), m, _, rfl, rfl, o_79⟩
   ·refine k_false f rfl hc_80 ?_
    refine k_seq ?_
    refine k_region ?_
    refine l_op f rfl rfl rfl (r_int (f.eval rfl) (f.eval rfl) b_eql) (fun a f => ?_)
    refine l_op f rfl rfl rfl (r_assign (f.eval rfl)) (fun a f => ?_)
    refine l_nil ?_
    rcases cond_some hd with ⟨hc_81, hd⟩ | ⟨hc_81, hd⟩
    ·refine k_true f rfl hc_81 ?_
     refine k_seq ?_
     refine k_region ?_
     refine l_op f rfl rfl rfl (r_move (f.eval rfl)) (fun a f => ?_)
     refine l_op f rfl rfl rfl (r_assign (f.eval rfl)) (fun a f => ?_)
     refine l_op f rfl rfl rfl (r_assign (f.eval rfl)) (fun a f => ?_)
     refine l_nil ?_
     refine k_ret ?_
     have m : Mem W G_73 w (it_78 :: H) := m.eraseAt 1
     obtain rfl := Option.some.inj hd
     exact ⟨[(.int .i64 y_71.1), (.int .i64 2)], ⟨f.get _ _ rfl, f.get _ _ rfl, trivial⟩, f.defers, _, [it_78], (GLe.trans hl_42 hl_74), m, _, rfl, rfl, o_79⟩
    ·refine k_false f rfl hc_81 ?_
     refine k_seq ?_
     refine k_region ?_
     refine l_op f rfl rfl rfl (r_move (f.eval rfl)) (fun a f => ?_)
     refine l_op f rfl rfl rfl (r_assign (f.eval rfl)) (fun a f => ?_)
     refine l_op f rfl rfl rfl (r_assign (f.eval rfl)) (fun a f => ?_)
     refine l_nil ?_
     refine k_ret ?_
     have m : Mem W G_73 w (it_78 :: H) := m.eraseAt 1
     obtain rfl := Option.some.inj hd
     exact ⟨[(.int .i64 y_71.1), (.int .i64 0)], ⟨f.get _ _ rfl, f.get _ _ rfl, trivial⟩, f.defers, _, [it_78], (GLe.trans hl_42 hl_74), m, _, rfl, rfl, o_79⟩
 ·refine k_false f rfl hc_3 ?_
  refine k_skip ?_
  refine k_seq ?_
  refine k_region ?_
  refine l_boxCell 0 0 m Pl3 f rfl rfl rfl rfl (fun a f => ?_)
  refine l_nil ?_
  refine k_block ?_
  refine k_seq ?_
  refine k_region ?_
  refine l_op f rfl rfl rfl (r_int (f.eval rfl) (f.eval rfl) b_eql) (fun a f => ?_)
  refine l_op f rfl rfl rfl (r_assign (f.eval rfl)) (fun a f => ?_)
  refine l_nil ?_
  rcases cond_some hd with ⟨hc_82, hd⟩ | ⟨hc_82, hd⟩
  ·refine k_true f rfl hc_82 ?_
   refine k_seq ?_
   refine k_region ?_
   refine l_op f rfl rfl rfl (r_move (f.eval rfl)) (fun a f => ?_)
   refine l_op f rfl rfl rfl (r_assign (f.eval rfl)) (fun a f => ?_)
   refine l_op f rfl rfl rfl (r_assign (f.eval rfl)) (fun a f => ?_)
   refine l_nil ?_
   refine k_ret ?_
   have m : Mem W G w (it0 :: Itm.box b_2 3 [(.int .i64 0)] :: H) := m.front 1 rfl
   have m : Mem W G w (it0 :: H) := m.eraseAt 1
   obtain rfl := Option.some.inj hd
   exact ⟨[(.int .i64 (IntKind.i64.wrap (x1 + (IntKind.i64.wrap ((IntKind.i64.wrap (Int.tdiv (IntKind.i64.wrap (x2 - x1)) 4)) * 2))))), (.int .i64 1)], ⟨f.get _ _ rfl, f.get _ _ rfl, trivial⟩, f.defers, _, [it0], (GLe.refl _), m, _, rfl, rfl, o0⟩
  ·refine k_false f rfl hc_82 ?_
   refine k_seq ?_
   refine k_region ?_
   refine l_op f rfl rfl rfl (r_int (f.eval rfl) (f.eval rfl) b_eql) (fun a f => ?_)
   refine l_op f rfl rfl rfl (r_assign (f.eval rfl)) (fun a f => ?_)
   refine l_nil ?_
   rcases cond_some hd with ⟨hc_83, hd⟩ | ⟨hc_83, hd⟩
   ·refine k_true f rfl hc_83 ?_
    refine k_seq ?_
    refine k_region ?_
    refine l_op f rfl rfl rfl (r_move (f.eval rfl)) (fun a f => ?_)
    refine l_op f rfl rfl rfl (r_assign (f.eval rfl)) (fun a f => ?_)
    refine l_op f rfl rfl rfl (r_assign (f.eval rfl)) (fun a f => ?_)
    refine l_nil ?_
    refine k_ret ?_
    have m : Mem W G w (it0 :: Itm.box b_2 3 [(.int .i64 0)] :: H) := m.front 1 rfl
    have m : Mem W G w (it0 :: H) := m.eraseAt 1
    obtain rfl := Option.some.inj hd
    exact ⟨[(.int .i64 (IntKind.i64.wrap (x1 + (IntKind.i64.wrap ((IntKind.i64.wrap (Int.tdiv (IntKind.i64.wrap (x2 - x1)) 4)) * 2))))), (.int .i64 2)], ⟨f.get _ _ rfl, f.get _ _ rfl, trivial⟩, f.defers, _, [it0], (GLe.refl _), m, _, rfl, rfl, o0⟩
   ·refine k_false f rfl hc_83 ?_
    refine k_seq ?_
    refine k_region ?_
    refine l_op f rfl rfl rfl (r_move (f.eval rfl)) (fun a f => ?_)
    refine l_op f rfl rfl rfl (r_assign (f.eval rfl)) (fun a f => ?_)
    refine l_op f rfl rfl rfl (r_assign (f.eval rfl)) (fun a f => ?_)
    refine l_nil ?_
    refine k_ret ?_
    have m : Mem W G w (it0 :: Itm.box b_2 3 [(.int .i64 0)] :: H) := m.front 1 rfl
    have m : Mem W G w (it0 :: H) := m.eraseAt 1
    obtain rfl := Option.some.inj hd
    exact ⟨[(.int .i64 (IntKind.i64.wrap (x1 + (IntKind.i64.wrap ((IntKind.i64.wrap (Int.tdiv (IntKind.i64.wrap (x2 - x1)) 4)) * 2))))), (.int .i64 0)], ⟨f.get _ _ rfl, f.get _ _ rfl, trivial⟩, f.defers, _, [it0], (GLe.refl _), m, _, rfl, rfl, o0⟩

theorem Wk.slices_pdqsortOrdered_int64R {W : World} (n : Nat) : ∀ {w : World} {G : GH} {H : List Itm} {v0 : Value} {it0 : Itm} {x0 : (List Int)} {x1 : Int} {x2 : Int} {x3 : Int} (m : Mem W G w (it0 :: H)) (o0 : Ow (RI .i64) 2 G it0 v0 x0) {y : ((List Int))} (hd : D.slices_pdqsortOrdered_int64R n x0 x1 x2 x3 = some y),
  Calls Tryd.prog 128 #[v0, (.int .i64 x1), (.int .i64 x2), (.int .i64 x3)] w (Res W G H (fun G' Ho _ => ∃ i0 : Itm, Ho = [i0] ∧ Ow (RI .i64) 2 G' i0 v0 y)) := by
 induction n with
 | zero => intros; rename_i hd; simp [D.slices_pdqsortOrdered_int64R] at hd
 | succ fuel ih =>
  intro w G H v0 it0 x0 x1 x2 x3 m o0 y hd
  refine calls_b (args := [v0, (.int .i64 x1), (.int .i64 x2), (.int .i64 x3)]) (N := 134) [] Tryd.func128 rfl rfl (Nat.le_of_ble_eq_true rfl) rfl (fun a f => ?_)
  unfold D.slices_pdqsortOrdered_int64R at hd
  refine k_seq ?_
  refine k_region ?_
  refine l_op f rfl rfl rfl (r_assign (f.eval rfl)) (fun a f => ?_)
  refine l_nil ?_
  refine k_seq ?_
  refine k_region ?_
  refine l_op f rfl rfl rfl (r_assign (f.eval rfl)) (fun a f => ?_)
  refine l_nil ?_
  obtain ⟨q_394, hl_395, hd⟩ := bind_some hd
  refine k_block ?_
  refine k_loop (fun s_398 a w => ∃ l_401 : List Int, ∃ x_404 : Int, ∃ x_405 : Int, ∃ x_406 : Int, ∃ b_407 : Bool, ∃ b_408 : Bool, (l_401, x_404, x_405, x_406, b_407, b_408) = s_398 ∧ ∃ (G_400 : GH) (it_402 : Itm), GLe G G_400 ∧ Fr a 134 [(0, v0), (1, (.int .i64 x_404)), (2, (.int .i64 x_405)), (3, (.int .i64 x_406)), (8, (.bool b_407)), (9, (.bool b_408))] ∧ Mem W G_400 w (it_402 :: H) ∧ Ow (RI .i64) 2 G_400 it_402 v0 l_401) hl_395 ⟨_, _, _, _, _, _, rfl, _, it0, (GLe.refl _), f.weak ⟨rfl, rfl, rfl, rfl, rfl, rfl, trivial⟩, m, o0⟩ ?_
  clear hl_395 f m
  rintro s_398 o_399 hs_396 hq_397 a w ⟨l_401, x_404, x_405, x_406, b_407, b_408, rfl, G_400, it_402, hl_409, f, m, o_403⟩
  refine k_block ?_
  refine k_seq ?_
  refine k_region ?_
  refine l_op f rfl rfl rfl (r_move (f.eval rfl)) (fun a f => ?_)
  refine l_op f rfl rfl rfl (r_move (f.eval rfl)) (fun a f => ?_)
  refine l_op f rfl rfl rfl (r_int (f.eval rfl) (f.eval rfl) b_sub) (fun a f => ?_)
  refine l_op f rfl rfl rfl (r_assign (f.eval rfl)) (fun a f => ?_)
  refine l_nil ?_
  refine k_seq ?_
  refine k_seq ?_
  refine k_region ?_
  refine l_op f rfl rfl rfl (r_move (f.eval rfl)) (fun a f => ?_)
  refine l_op f rfl rfl rfl (r_int (f.eval rfl) (f.eval rfl) b_leq) (fun a f => ?_)
  refine l_nil ?_
  rcases cond_some hs_396 with ⟨hc_410, hs_396⟩ | ⟨hc_410, hs_396⟩
  ·refine k_true f rfl hc_410 ?_
   refine k_seq ?_
   refine k_region ?_
   refine l_op f rfl rfl rfl (r_move (f.eval rfl)) (fun a f => ?_)
   refine l_op f rfl rfl rfl (r_move (f.eval rfl)) (fun a f => ?_)
   refine l_op f rfl rfl rfl (r_move (f.eval rfl)) (fun a f => ?_)
   obtain ⟨y_411, hy_412, hs_396⟩ := bind_some hs_396
   refine l_res f rfl rfl Tryd.call132 (Wk.slices_insertionSortOrdered_int64 m o_403 hy_412) (fun v_416 G_413 Ho_417 w hl_414 m hQ_415 a f => ?_)
   obtain ⟨it_418, rfl, o_419⟩ := hQ_415
   have m : Mem W G_413 w (it_418 :: H) := m
   refine l_nil ?_
   refine k_ret ?_
   obtain rfl := Option.some.inj hs_396
   obtain rfl := hq_397 _ rfl
   obtain rfl := Option.some.inj hd
   exact ⟨[], trivial, f.defers, _, [it_418], (GLe.trans hl_409 hl_414), m, _, rfl, o_419⟩
  ·refine k_false f rfl hc_410 ?_
   refine k_skip ?_
   refine k_seq ?_
   refine k_seq ?_
   refine k_region ?_
   refine l_op f rfl rfl rfl (r_move (f.eval rfl)) (fun a f => ?_)
   refine l_op f rfl rfl rfl (r_int (f.eval rfl) (f.eval rfl) b_eql) (fun a f => ?_)
   refine l_nil ?_
   rcases cond_some hs_396 with ⟨hc_420, hs_396⟩ | ⟨hc_420, hs_396⟩
   ·refine k_true f rfl hc_420 ?_
    refine k_seq ?_
    refine k_region ?_
    refine l_op f rfl rfl rfl (r_move (f.eval rfl)) (fun a f => ?_)
    refine l_op f rfl rfl rfl (r_move (f.eval rfl)) (fun a f => ?_)
    refine l_op f rfl rfl rfl (r_move (f.eval rfl)) (fun a f => ?_)
    obtain ⟨y_421, hy_422, hs_396⟩ := bind_some hs_396
    refine l_res f rfl rfl Tryd.call133 (Wk.slices_heapSortOrdered_int64 m o_403 hy_422) (fun v_426 G_423 Ho_427 w hl_424 m hQ_425 a f => ?_)
    obtain ⟨it_428, rfl, o_429⟩ := hQ_425
    have m : Mem W G_423 w (it_428 :: H) := m
    refine l_nil ?_
    refine k_ret ?_
    obtain rfl := Option.some.inj hs_396
    obtain rfl := hq_397 _ rfl
    obtain rfl := Option.some.inj hd
    exact ⟨[], trivial, f.defers, _, [it_428], (GLe.trans hl_409 hl_424), m, _, rfl, o_429⟩
   ·refine k_false f rfl hc_420 ?_
    refine k_skip ?_
    refine k_seq ?_
    refine k_seq ?_
    refine k_region ?_
    refine l_op f rfl rfl rfl (r_move (f.eval rfl)) (fun a f => ?_)
    refine l_op f rfl rfl rfl (r_not (f.eval rfl)) (fun a f => ?_)
    refine l_nil ?_
    obtain ⟨j_440, hj_441, hs_396⟩ := bind_some hs_396
    refine k_cut (fun a w => ∃ l_443 : List Int, ∃ x_446 : Int, (l_443, x_446) = j_440 ∧ ∃ (G_442 : GH) (it_444 : Itm), GLe G_400 G_442 ∧ Fr a 134 [(0, v0), (1, (.int .i64 x_404)), (2, (.int .i64 x_405)), (3, (.int .i64 x_446)), (8, (.bool b_407)), (9, (.bool b_408)), (10, (.int .i64 (IntKind.i64.wrap (x_405 - x_404))))] ∧ Mem W G_442 w (it_444 :: H) ∧ Ow (RI .i64) 2 G_442 it_444 v0 l_443) ?_ ?_
    ·rcases cond_some hj_441 with ⟨hc_448, hj_441⟩ | ⟨hc_448, hj_441⟩
     ·refine k_true f rfl hc_448 ?_
      refine k_seq ?_
      refine k_region ?_
      refine l_op f rfl rfl rfl (r_move (f.eval rfl)) (fun a f => ?_)
      refine l_op f rfl rfl rfl (r_move (f.eval rfl)) (fun a f => ?_)
      refine l_op f rfl rfl rfl (r_move (f.eval rfl)) (fun a f => ?_)
      obtain ⟨y_449, hy_450, hj_441⟩ := bind_some hj_441
      refine l_res f rfl rfl Tryd.call134 (Wk.slices_breakPatternsOrdered_int64 m o_403 hy_450) (fun v_454 G_451 Ho_455 w hl_452 m hQ_453 a f => ?_)
      obtain ⟨it_456, rfl, o_457⟩ := hQ_453
      have m : Mem W G_451 w (it_456 :: H) := m
      refine l_nil ?_
      refine k_region ?_
      refine l_op f rfl rfl rfl (r_move (f.eval rfl)) (fun a f => ?_)
      refine l_op f rfl rfl rfl (r_int (f.eval rfl) (f.eval rfl) b_sub) (fun a f => ?_)
      refine l_op f rfl rfl rfl (r_assign (f.eval rfl)) (fun a f => ?_)
      refine l_nil ?_
      obtain rfl := Option.some.inj hj_441
      exact ⟨_, _, rfl, _, it_456, hl_452, f.weak ⟨rfl, rfl, rfl, rfl, rfl, rfl, rfl, trivial⟩, m, o_457⟩
     ·refine k_false f rfl hc_448 ?_
      refine k_skip ?_
      obtain rfl := Option.some.inj hj_441
      exact ⟨_, _, rfl, _, it_402, (GLe.refl _), f.weak ⟨rfl, rfl, rfl, rfl, rfl, rfl, rfl, trivial⟩, m, o_403⟩
    ·rintro a w ⟨l_443, x_446, rfl, G_442, it_444, hl_447, f, m, o_445⟩
     refine k_seq ?_
     refine k_region ?_
     refine l_op f rfl rfl rfl (r_move (f.eval rfl)) (fun a f => ?_)
     refine l_op f rfl rfl rfl (r_move (f.eval rfl)) (fun a f => ?_)
     refine l_op f rfl rfl rfl (r_move (f.eval rfl)) (fun a f => ?_)
     obtain ⟨y_458, hy_459, hs_396⟩ := bind_some hs_396
     refine l_res f rfl rfl Tryd.call135 (Wk.slices_choosePivotOrdered_int64 m o_445 hy_459) (fun v_463 G_460 Ho_464 w hl_461 m hQ_462 a f => ?_)
     obtain ⟨it_465, rfl, rfl, o_466⟩ := hQ_462
     have m : Mem W G_460 w (it_465 :: H) := m
     refine l_op f rfl rfl rfl (r_move (f.eval rfl)) (fun a f => ?_)
     refine l_op f rfl rfl rfl (r_extract (f.eval rfl) rfl) (fun a f => ?_)
     refine l_op f rfl rfl rfl (r_extract (f.eval rfl) rfl) (fun a f => ?_)
     refine l_op f rfl rfl rfl (r_assign (f.eval rfl)) (fun a f => ?_)
     refine l_op f rfl rfl rfl (r_assign (f.eval rfl)) (fun a f => ?_)
     refine l_nil ?_
     refine k_seq ?_
     refine k_seq ?_
     refine k_region ?_
     refine l_op f rfl rfl rfl (r_move (f.eval rfl)) (fun a f => ?_)
     refine l_op f rfl rfl rfl (r_int (f.eval rfl) (f.eval rfl) b_eql) (fun a f => ?_)
     refine l_nil ?_
     obtain ⟨j_477, hj_478, hs_396⟩ := bind_some hs_396
     refine k_cut (fun a w => ∃ l_480 : List Int, ∃ x_483 : Int, ∃ x_484 : Int, (l_480, x_483, x_484) = j_477 ∧ ∃ (G_479 : GH) (it_481 : Itm), GLe G_460 G_479 ∧ Fr a 134 [(0, v0), (1, (.int .i64 x_404)), (2, (.int .i64 x_405)), (3, (.int .i64 x_446)), (8, (.bool b_407)), (9, (.bool b_408)), (10, (.int .i64 (IntKind.i64.wrap (x_405 - x_404)))), (11, (.int .i64 x_483)), (12, (.int .i64 x_484))] ∧ Mem W G_479 w (it_481 :: H) ∧ Ow (RI .i64) 2 G_479 it_481 v0 l_480) ?_ ?_
     ·rcases cond_some hj_478 with ⟨hc_486, hj_478⟩ | ⟨hc_486, hj_478⟩
      ·refine k_true f rfl hc_486 ?_
       refine k_seq ?_
       refine k_region ?_
       refine l_op f rfl rfl rfl (r_move (f.eval rfl)) (fun a f => ?_)
       refine l_op f rfl rfl rfl (r_move (f.eval rfl)) (fun a f => ?_)
       refine l_op f rfl rfl rfl (r_move (f.eval rfl)) (fun a f => ?_)
       obtain ⟨y_487, hy_488, hj_478⟩ := bind_some hj_478
       refine l_res f rfl rfl Tryd.call136 (Wk.slices_reverseRangeOrdered_int64 m o_466 hy_488) (fun v_492 G_489 Ho_493 w hl_490 m hQ_491 a f => ?_)
       obtain ⟨it_494, rfl, o_495⟩ := hQ_491
       have m : Mem W G_489 w (it_494 :: H) := m
       refine l_nil ?_
       refine k_seq ?_
       refine k_region ?_
       refine l_op f rfl rfl rfl (r_move (f.eval rfl)) (fun a f => ?_)
       refine l_op f rfl rfl rfl (r_int (f.eval rfl) (f.eval rfl) b_sub) (fun a f => ?_)
       refine l_op f rfl rfl rfl (r_move (f.eval rfl)) (fun a f => ?_)
       refine l_op f rfl rfl rfl (r_move (f.eval rfl)) (fun a f => ?_)
       refine l_op f rfl rfl rfl (r_int (f.eval rfl) (f.eval rfl) b_sub) (fun a f => ?_)
       refine l_op f rfl rfl rfl (r_int (f.eval rfl) (f.eval rfl) b_sub) (fun a f => ?_)
       refine l_op f rfl rfl rfl (r_assign (f.eval rfl)) (fun a f => ?_)
       refine l_nil ?_
       refine k_region ?_
       refine l_op f rfl rfl rfl (r_assign (f.eval rfl)) (fun a f => ?_)
       refine l_nil ?_
       obtain rfl := Option.some.inj hj_478
       exact ⟨_, _, _, rfl, _, it_494, hl_490, f.weak ⟨rfl, rfl, rfl, rfl, rfl, rfl, rfl, rfl, rfl, trivial⟩, m, o_495⟩
      ·refine k_false f rfl hc_486 ?_
       refine k_skip ?_
       obtain rfl := Option.some.inj hj_478
       exact ⟨_, _, _, rfl, _, it_465, (GLe.refl _), f.weak ⟨rfl, rfl, rfl, rfl, rfl, rfl, rfl, rfl, rfl, trivial⟩, m, o_466⟩
     ·rintro a w ⟨l_480, x_483, x_484, rfl, G_479, it_481, hl_485, f, m, o_482⟩
      refine k_seq ?_
      refine k_seq ?_
      refine k_region ?_
      refine l_op f rfl rfl rfl (r_move (f.eval rfl)) (fun a f => ?_)
      refine l_op f rfl rfl rfl (r_move (f.eval rfl)) (fun a f => ?_)
      refine l_cut 2 (fun a w => ∃ G_497, GLe G_479 G_497 ∧ Mem W G_497 w (it_481 :: H) ∧ Fr a 134 [(0, v0), (1, (.int .i64 x_404)), (2, (.int .i64 x_405)), (3, (.int .i64 x_446)), (8, (.bool b_407)), (9, (.bool b_408)), (10, (.int .i64 (IntKind.i64.wrap (x_405 - x_404)))), (11, (.int .i64 x_483)), (12, (.int .i64 x_484)), (61, (.bool b_407)), (62, (.bool b_407)), (64, (.bool (b_407 && b_408)))]) ?_ ?_
      ·rcases Bool.eq_false_or_eq_true b_407 with hc_496 | hc_496
       ·refine l_run f rfl rfl hc_496 ?_
        refine l_op f rfl rfl rfl (r_move (f.eval rfl)) (fun a f => ?_)
        refine l_op f rfl rfl rfl (r_pickT (f.eval rfl) hc_496 (f.eval rfl)) (fun a f => ?_)
        exact ⟨_, (GLe.refl _), m, f.weak ⟨rfl, rfl, rfl, rfl, rfl, rfl, rfl, rfl, rfl, rfl, rfl, by rw [hc_496]; rfl, trivial⟩⟩
       ·refine l_not' f rfl rfl rfl hc_496 (fun a f => ?_)
        refine l_op f rfl rfl rfl (r_pickF (f.eval rfl) hc_496 (f.eval rfl)) (fun a f => ?_)
        exact ⟨_, (GLe.refl _), m, f.weak ⟨rfl, rfl, rfl, rfl, rfl, rfl, rfl, rfl, rfl, rfl, rfl, by rw [hc_496]; rfl, trivial⟩⟩
      ·rintro a w ⟨G_497, hl_498, m, f⟩
       have o_482 := Ow.mono (RI.mono _) hl_498 o_482
       refine l_op f rfl rfl rfl (r_move (f.eval rfl)) (fun a f => ?_)
       refine l_cut 3 (fun a w => ∃ G_500, GLe G_497 G_500 ∧ Mem W G_500 w (it_481 :: H) ∧ Fr a 134 [(0, v0), (1, (.int .i64 x_404)), (2, (.int .i64 x_405)), (3, (.int .i64 x_446)), (8, (.bool b_407)), (9, (.bool b_408)), (10, (.int .i64 (IntKind.i64.wrap (x_405 - x_404)))), (11, (.int .i64 x_483)), (12, (.int .i64 x_484)), (61, (.bool b_407)), (62, (.bool b_407)), (64, (.bool (b_407 && b_408))), (65, (.bool (b_407 && b_408))), (68, (.bool ((b_407 && b_408) && (x_484 == 1))))]) ?_ ?_
       ·rcases Bool.eq_false_or_eq_true (b_407 && b_408) with hc_499 | hc_499
        ·refine l_run f rfl rfl hc_499 ?_
         refine l_op f rfl rfl rfl (r_move (f.eval rfl)) (fun a f => ?_)
         refine l_run f rfl rfl hc_499 ?_
         refine l_op f rfl rfl rfl (r_int (f.eval rfl) (f.eval rfl) b_eql) (fun a f => ?_)
         refine l_op f rfl rfl rfl (r_pickT (f.eval rfl) hc_499 (f.eval rfl)) (fun a f => ?_)
         exact ⟨_, (GLe.refl _), m, f.weak ⟨rfl, rfl, rfl, rfl, rfl, rfl, rfl, rfl, rfl, rfl, rfl, rfl, rfl, by rw [hc_499]; rfl, trivial⟩⟩
        ·refine l_not' f rfl rfl rfl hc_499 (fun a f => ?_)
         refine l_not' f rfl rfl rfl hc_499 (fun a f => ?_)
         refine l_op f rfl rfl rfl (r_pickF (f.eval rfl) hc_499 (f.eval rfl)) (fun a f => ?_)
         exact ⟨_, (GLe.refl _), m, f.weak ⟨rfl, rfl, rfl, rfl, rfl, rfl, rfl, rfl, rfl, rfl, rfl, rfl, rfl, by rw [hc_499]; rfl, trivial⟩⟩
       ·rintro a w ⟨G_500, hl_501, m, f⟩
        have o_482 := Ow.mono (RI.mono _) hl_501 o_482
        refine l_nil ?_
        obtain ⟨j_513, hj_514, hs_396⟩ := bind_some hs_396
        refine k_cut (fun a w => ∃ j_513' : (List Int), j_513 = .inl j_513' ∧ ∃ l_516 : List Int, l_516 = j_513' ∧ ∃ (G_515 : GH) (it_517 : Itm), GLe G_500 G_515 ∧ Fr a 134 [(0, v0), (1, (.int .i64 x_404)), (2, (.int .i64 x_405)), (3, (.int .i64 x_446)), (8, (.bool b_407)), (9, (.bool b_408)), (10, (.int .i64 (IntKind.i64.wrap (x_405 - x_404)))), (11, (.int .i64 x_483))] ∧ Mem W G_515 w (it_517 :: H) ∧ Ow (RI .i64) 2 G_515 it_517 v0 l_516) ?_ ?_
        ·rcases cond_some hj_514 with ⟨hc_520, hj_514⟩ | ⟨hc_520, hj_514⟩
         ·refine k_true f rfl hc_520 ?_
          refine k_seq ?_
          refine k_region ?_
          refine l_op f rfl rfl rfl (r_move (f.eval rfl)) (fun a f => ?_)
          refine l_op f rfl rfl rfl (r_move (f.eval rfl)) (fun a f => ?_)
          refine l_op f rfl rfl rfl (r_move (f.eval rfl)) (fun a f => ?_)
          obtain ⟨y_521, hy_522, hj_514⟩ := bind_some hj_514
          refine l_res f rfl rfl Tryd.call137 (Wk.slices_partialInsertionSortOrdered_int64 m o_482 hy_522) (fun v_526 G_523 Ho_527 w hl_524 m hQ_525 a f => ?_)
          obtain ⟨it_528, rfl, rfl, o_529⟩ := hQ_525
          have m : Mem W G_523 w (it_528 :: H) := m
          refine l_nil ?_
          rcases cond_some hj_514 with ⟨hc_530, hj_514⟩ | ⟨hc_530, hj_514⟩
          ·refine k_true f rfl hc_530 ?_
           refine k_ret ?_
           obtain rfl := Option.some.inj hj_514
           obtain rfl := Option.some.inj hs_396
           obtain rfl := hq_397 _ rfl
           obtain rfl := Option.some.inj hd
           exact ⟨[], trivial, f.defers, _, [it_528], (GLe.trans hl_409 (GLe.trans hl_447 (GLe.trans hl_461 (GLe.trans hl_485 (GLe.trans hl_498 (GLe.trans hl_501 hl_524)))))), m, _, rfl, o_529⟩
          ·refine k_false f rfl hc_530 ?_
           refine k_skip ?_
           obtain rfl := Option.some.inj hj_514
           exact ⟨_, rfl, _, rfl, _, it_528, hl_524, f.weak ⟨rfl, rfl, rfl, rfl, rfl, rfl, rfl, rfl, trivial⟩, m, o_529⟩
         ·refine k_false f rfl hc_520 ?_
          refine k_skip ?_
          obtain rfl := Option.some.inj hj_514
          exact ⟨_, rfl, _, rfl, _, it_481, (GLe.refl _), f.weak ⟨rfl, rfl, rfl, rfl, rfl, rfl, rfl, rfl, trivial⟩, m, o_482⟩
        ·rintro a w ⟨_, rfl, l_516, rfl, G_515, it_517, hl_519, f, m, o_518⟩
         refine k_seq ?_
         refine k_seq ?_
         refine k_draw 15 Follows (by kernel_rfl) m ?_
         refine q_op (i := 0) (listed' := #[true, false, false, false, false, false, false, false, false, false, false, false, false, false, false]) 15 rfl (by kernel_rfl) rfl f rfl rfl rfl (fun _ _ _ _ _ => r_move (f.eval rfl)) (fun a f => ?_)
         refine q_op (i := 1) (listed' := #[true, true, false, false, false, false, false, false, false, false, false, false, false, false, false]) 15 rfl (by kernel_rfl) rfl f rfl rfl rfl (fun _ _ _ _ _ => r_int (f.eval rfl) (f.eval rfl) b_gtr) (fun a f => ?_)
         refine q_op (i := 2) (listed' := #[true, true, true, false, false, false, false, false, false, false, false, false, false, false, false]) 15 rfl (by kernel_rfl) rfl f rfl rfl rfl (fun _ _ _ _ _ => r_move (f.eval rfl)) (fun a f => ?_)
         obtain ⟨b_548, hj_549, hs_396⟩ := bind_some hs_396
         refine q_cut (fuel' := 0) (listed' := #[true, true, true, true, true, true, true, true, true, true, true, true, true, true, true]) (fun a => Fr a 134 [(0, v0), (1, (.int .i64 x_404)), (2, (.int .i64 x_405)), (3, (.int .i64 x_446)), (8, (.bool b_407)), (9, (.bool b_408)), (10, (.int .i64 (IntKind.i64.wrap (x_405 - x_404)))), (11, (.int .i64 x_483)), (73, (.int .i64 x_404)), (74, (.bool (decide ((0 : Int) < x_404)))), (75, (.bool (decide ((0 : Int) < x_404)))), (87, (.bool b_548))]) ?_ ?_
         ·intro a f
          refine q_end (fun G_565 w hl_566 m => ?_)
          have o_518 := Ow.mono (RI.mono _) hl_566 o_518
          have m : Mem W G_565 w (it_517 :: H) := m
          refine l_nil ?_
          rcases cond_some hs_396 with ⟨hc_567, hs_396⟩ | ⟨hc_567, hs_396⟩
          ·refine k_true f rfl hc_567 ?_
           refine k_seq ?_
           refine k_region ?_
           refine l_op f rfl rfl rfl (r_move (f.eval rfl)) (fun a f => ?_)
           refine l_op f rfl rfl rfl (r_move (f.eval rfl)) (fun a f => ?_)
           refine l_op f rfl rfl rfl (r_move (f.eval rfl)) (fun a f => ?_)
           refine l_op f rfl rfl rfl (r_move (f.eval rfl)) (fun a f => ?_)
           obtain ⟨y_568, hy_569, hs_396⟩ := bind_some hs_396
           refine l_res f rfl rfl Tryd.call139 (Wk.slices_partitionEqualOrdered_int64 m o_518 hy_569) (fun v_573 G_570 Ho_574 w hl_571 m hQ_572 a f => ?_)
           obtain ⟨it_575, rfl, rfl, o_576⟩ := hQ_572
           have m : Mem W G_570 w (it_575 :: H) := m
           refine l_op f rfl rfl rfl (r_assign (f.eval rfl)) (fun a f => ?_)
           refine l_nil ?_
           refine k_seq ?_
           refine k_region ?_
           refine l_op f rfl rfl rfl (r_move (f.eval rfl)) (fun a f => ?_)
           refine l_op f rfl rfl rfl (r_assign (f.eval rfl)) (fun a f => ?_)
           refine l_nil ?_
           refine k_exit rfl ?_
           obtain rfl := Option.some.inj hs_396
           exact ⟨_, rfl, _, _, _, _, _, _, rfl, _, it_575, (GLe.trans hl_409 (GLe.trans hl_447 (GLe.trans hl_461 (GLe.trans hl_485 (GLe.trans hl_498 (GLe.trans hl_501 (GLe.trans hl_519 (GLe.trans hl_566 hl_571)))))))), f.weak ⟨rfl, rfl, rfl, rfl, rfl, rfl, trivial⟩, m, o_576⟩
          ·refine k_false f rfl hc_567 ?_
           refine k_skip ?_
           refine k_seq ?_
           refine k_region ?_
           refine l_op f rfl rfl rfl (r_move (f.eval rfl)) (fun a f => ?_)
           refine l_op f rfl rfl rfl (r_move (f.eval rfl)) (fun a f => ?_)
           refine l_op f rfl rfl rfl (r_move (f.eval rfl)) (fun a f => ?_)
           refine l_op f rfl rfl rfl (r_move (f.eval rfl)) (fun a f => ?_)
           obtain ⟨y_577, hy_578, hs_396⟩ := bind_some hs_396
           refine l_res f rfl rfl Tryd.call140 (Wk.slices_partitionOrdered_int64 m o_518 hy_578) (fun v_582 G_579 Ho_583 w hl_580 m hQ_581 a f => ?_)
           obtain ⟨it_584, rfl, rfl, o_585⟩ := hQ_581
           have m : Mem W G_579 w (it_584 :: H) := m
           refine l_op f rfl rfl rfl (r_move (f.eval rfl)) (fun a f => ?_)
           refine l_op f rfl rfl rfl (r_extract (f.eval rfl) rfl) (fun a f => ?_)
           refine l_op f rfl rfl rfl (r_extract (f.eval rfl) rfl) (fun a f => ?_)
           refine l_op f rfl rfl rfl (r_assign (f.eval rfl)) (fun a f => ?_)
           refine l_op f rfl rfl rfl (r_assign (f.eval rfl)) (fun a f => ?_)
           refine l_nil ?_
           refine k_seq ?_
           refine k_region ?_
           refine l_op f rfl rfl rfl (r_move (f.eval rfl)) (fun a f => ?_)
           refine l_op f rfl rfl rfl (r_assign (f.eval rfl)) (fun a f => ?_)
           refine l_nil ?_
           refine k_seq ?_
           refine k_region ?_
           refine l_op f rfl rfl rfl (r_move (f.eval rfl)) (fun a f => ?_)
           refine l_op f rfl rfl rfl (r_move (f.eval rfl)) (fun a f => ?_)
           refine l_op f rfl rfl rfl (r_int (f.eval rfl) (f.eval rfl) b_sub) (fun a f => ?_)
           refine l_op f rfl rfl rfl (r_move (f.eval rfl)) (fun a f => ?_)
           refine l_op f rfl rfl rfl (r_move (f.eval rfl)) (fun a f => ?_)
           refine l_op f rfl rfl rfl (r_int (f.eval rfl) (f.eval rfl) b_sub) (fun a f => ?_)
           refine l_op f rfl rfl rfl (r_assign (f.eval rfl)) (fun a f => ?_)
           refine l_op f rfl rfl rfl (r_assign (f.eval rfl)) (fun a f => ?_)
           refine l_nil ?_
           refine k_seq ?_
           refine k_region ?_
           refine l_op f rfl rfl rfl (r_move (f.eval rfl)) (fun a f => ?_)
           refine l_op f rfl rfl rfl (r_int (f.eval rfl) (f.eval rfl) (b_quo rfl)) (fun a f => ?_)
           refine l_op f rfl rfl rfl (r_assign (f.eval rfl)) (fun a f => ?_)
           refine l_nil ?_
           refine k_seq ?_
           refine k_region ?_
           refine l_op f rfl rfl rfl (r_move (f.eval rfl)) (fun a f => ?_)
           refine l_op f rfl rfl rfl (r_move (f.eval rfl)) (fun a f => ?_)
           refine l_op f rfl rfl rfl (r_int (f.eval rfl) (f.eval rfl) b_lss) (fun a f => ?_)
           refine l_nil ?_
           rcases cond_some hs_396 with ⟨hc_586, hs_396⟩ | ⟨hc_586, hs_396⟩
           ·refine k_true f rfl hc_586 ?_
            refine k_seq ?_
            refine k_region ?_
            refine l_op f rfl rfl rfl (r_move (f.eval rfl)) (fun a f => ?_)
            refine l_op f rfl rfl rfl (r_move (f.eval rfl)) (fun a f => ?_)
            refine l_op f rfl rfl rfl (r_int (f.eval rfl) (f.eval rfl) b_geq) (fun a f => ?_)
            refine l_op f rfl rfl rfl (r_assign (f.eval rfl)) (fun a f => ?_)
            refine l_nil ?_
            refine k_seq ?_
            refine k_region ?_
            refine l_op f rfl rfl rfl (r_move (f.eval rfl)) (fun a f => ?_)
            refine l_op f rfl rfl rfl (r_move (f.eval rfl)) (fun a f => ?_)
            refine l_op f rfl rfl rfl (r_move (f.eval rfl)) (fun a f => ?_)
            refine l_op f rfl rfl rfl (r_move (f.eval rfl)) (fun a f => ?_)
            obtain ⟨y_587, hy_588, hs_396⟩ := bind_some hs_396
            refine l_res f rfl rfl Tryd.call128 (ih m o_585 hy_588) (fun v_592 G_589 Ho_593 w hl_590 m hQ_591 a f => ?_)
            obtain ⟨it_594, rfl, o_595⟩ := hQ_591
            have m : Mem W G_589 w (it_594 :: H) := m
            refine l_nil ?_
            refine k_region ?_
            refine l_op f rfl rfl rfl (r_move (f.eval rfl)) (fun a f => ?_)
            refine l_op f rfl rfl rfl (r_int (f.eval rfl) (f.eval rfl) b_add) (fun a f => ?_)
            refine l_op f rfl rfl rfl (r_assign (f.eval rfl)) (fun a f => ?_)
            refine l_nil ?_
            obtain rfl := Option.some.inj hs_396
            exact ⟨_, rfl, _, _, _, _, _, _, rfl, _, it_594, (GLe.trans hl_409 (GLe.trans hl_447 (GLe.trans hl_461 (GLe.trans hl_485 (GLe.trans hl_498 (GLe.trans hl_501 (GLe.trans hl_519 (GLe.trans hl_566 (GLe.trans hl_580 hl_590))))))))), f.weak ⟨rfl, rfl, rfl, rfl, rfl, rfl, trivial⟩, m, o_595⟩
           ·refine k_false f rfl hc_586 ?_
            refine k_seq ?_
            refine k_region ?_
            refine l_op f rfl rfl rfl (r_move (f.eval rfl)) (fun a f => ?_)
            refine l_op f rfl rfl rfl (r_move (f.eval rfl)) (fun a f => ?_)
            refine l_op f rfl rfl rfl (r_int (f.eval rfl) (f.eval rfl) b_geq) (fun a f => ?_)
            refine l_op f rfl rfl rfl (r_assign (f.eval rfl)) (fun a f => ?_)
            refine l_nil ?_
            refine k_seq ?_
            refine k_region ?_
            refine l_op f rfl rfl rfl (r_move (f.eval rfl)) (fun a f => ?_)
            refine l_op f rfl rfl rfl (r_move (f.eval rfl)) (fun a f => ?_)
            refine l_op f rfl rfl rfl (r_int (f.eval rfl) (f.eval rfl) b_add) (fun a f => ?_)
            refine l_op f rfl rfl rfl (r_move (f.eval rfl)) (fun a f => ?_)
            refine l_op f rfl rfl rfl (r_move (f.eval rfl)) (fun a f => ?_)
            obtain ⟨y_596, hy_597, hs_396⟩ := bind_some hs_396
            refine l_res f rfl rfl Tryd.call128 (ih m o_585 hy_597) (fun v_601 G_598 Ho_602 w hl_599 m hQ_600 a f => ?_)
            obtain ⟨it_603, rfl, o_604⟩ := hQ_600
            have m : Mem W G_598 w (it_603 :: H) := m
            refine l_nil ?_
            refine k_region ?_
            refine l_op f rfl rfl rfl (r_move (f.eval rfl)) (fun a f => ?_)
            refine l_op f rfl rfl rfl (r_assign (f.eval rfl)) (fun a f => ?_)
            refine l_nil ?_
            obtain rfl := Option.some.inj hs_396
            exact ⟨_, rfl, _, _, _, _, _, _, rfl, _, it_603, (GLe.trans hl_409 (GLe.trans hl_447 (GLe.trans hl_461 (GLe.trans hl_485 (GLe.trans hl_498 (GLe.trans hl_501 (GLe.trans hl_519 (GLe.trans hl_566 (GLe.trans hl_580 hl_599))))))))), f.weak ⟨rfl, rfl, rfl, rfl, rfl, rfl, trivial⟩, m, o_604⟩
         ·intro K_547
          rcases cond_some hj_549 with ⟨hc_531, hj_549⟩ | ⟨hc_531, hj_549⟩
          ·refine q_op (i := 3) (listed' := #[true, true, true, true, false, false, false, false, false, false, false, false, false, false, false]) 15 rfl (by kernel_rfl) rfl f (wanted_of f rfl rfl rfl hc_531) rfl rfl (fun _ _ _ _ _ => r_move (f.eval rfl)) (fun a f => ?_)
           refine q_op (i := 4) (listed' := #[true, true, true, true, true, false, false, false, false, false, false, false, false, false, false]) 15 rfl (by kernel_rfl) rfl f (wanted_of f rfl rfl rfl hc_531) rfl rfl (fun _ _ _ _ _ => r_move (f.eval rfl)) (fun a f => ?_)
           refine q_op (i := 5) (listed' := #[true, true, true, true, true, true, false, false, false, false, false, false, false, false, false]) 15 rfl (by kernel_rfl) rfl f (wanted_of f rfl rfl rfl hc_531) rfl rfl (fun _ _ _ _ _ => r_int (f.eval rfl) (f.eval rfl) b_sub) (fun a f => ?_)
           obtain ⟨e_550, he_551, hj_549⟩ := bind_some hj_549
           refine q_own_at (i := 6) (listed' := #[true, true, true, true, true, true, true, false, false, false, false, false, false, false, false]) 15 0 m o_518 rfl T31 he_551 rfl (by kernel_rfl) rfl f (wanted_of f rfl rfl rfl hc_531) rfl rfl rfl (fun p_552 a ha_553 f => ?_)
           refine q_own_load (i := 7) (listed' := #[true, true, true, true, true, true, true, true, false, false, false, false, false, false, false]) 15 0 o_518 rfl Pl2 ha_553 he_551 rfl (by kernel_rfl) rfl f (wanted_of f rfl rfl rfl hc_531) rfl rfl (fun c_554 a h_555 f => ?_)
           subst h_555
           refine q_op (i := 8) (listed' := #[true, true, true, true, true, true, true, true, true, false, false, false, false, false, false]) 15 rfl (by kernel_rfl) rfl f (wanted_of f rfl rfl rfl hc_531) rfl rfl (fun _ _ _ _ _ => r_move (f.eval rfl)) (fun a f => ?_)
           refine q_op (i := 9) (listed' := #[true, true, true, true, true, true, true, true, true, true, false, false, false, false, false]) 15 rfl (by kernel_rfl) rfl f (wanted_of f rfl rfl rfl hc_531) rfl rfl (fun _ _ _ _ _ => r_move (f.eval rfl)) (fun a f => ?_)
           obtain ⟨e_556, he_557, hj_549⟩ := bind_some hj_549
           refine q_own_at (i := 10) (listed' := #[true, true, true, true, true, true, true, true, true, true, true, false, false, false, false]) 15 0 m o_518 rfl T31 he_557 rfl (by kernel_rfl) rfl f (wanted_of f rfl rfl rfl hc_531) rfl rfl rfl (fun p_558 a ha_559 f => ?_)
           refine q_own_load (i := 11) (listed' := #[true, true, true, true, true, true, true, true, true, true, true, true, false, false, false]) 15 0 o_518 rfl Pl2 ha_559 he_557 rfl (by kernel_rfl) rfl f (wanted_of f rfl rfl rfl hc_531) rfl rfl (fun c_560 a h_561 f => ?_)
           subst h_561
           obtain ⟨y_562, hy_563, hj_549⟩ := bind_some hj_549
           refine q_call (i := 12) (listed' := #[true, true, true, true, true, true, true, true, true, true, true, true, true, false, false]) 15 rfl (by kernel_rfl) rfl f (wanted_of f rfl rfl rfl hc_531) rfl rfl Tryd.call138 (fun _ _ w hG_564 m => Wk.cmp_Less_int64 m  hy_563) (fun a f => ?_)
           refine q_op (i := 13) (listed' := #[true, true, true, true, true, true, true, true, true, true, true, true, true, true, false]) 15 rfl (by kernel_rfl) rfl f (wanted_of f rfl rfl rfl hc_531) rfl rfl (fun _ _ _ _ _ => r_not (f.eval rfl)) (fun a f => ?_)
           refine q_op (i := 14) (listed' := #[true, true, true, true, true, true, true, true, true, true, true, true, true, true, true]) 15 rfl (by kernel_rfl) rfl f rfl rfl rfl (fun _ _ _ _ _ => r_pickT (f.eval rfl) hc_531 (f.eval rfl)) (fun a f => ?_)
           obtain rfl := Option.some.inj hj_549
           exact K_547 _ (f.weak ⟨rfl, rfl, rfl, rfl, rfl, rfl, rfl, rfl, rfl, rfl, rfl, rfl, trivial⟩)
          ·refine q_not (i := 3) (listed' := #[true, true, true, true, false, false, false, false, false, false, false, false, false, false, false]) 15 rfl (by kernel_rfl) rfl f rfl rfl rfl hc_531 rfl rfl (fun a f => ?_)
           refine q_not (i := 4) (listed' := #[true, true, true, true, true, false, false, false, false, false, false, false, false, false, false]) 15 rfl (by kernel_rfl) rfl f rfl rfl rfl hc_531 rfl rfl (fun a f => ?_)
           refine q_not (i := 5) (listed' := #[true, true, true, true, true, true, false, false, false, false, false, false, false, false, false]) 15 rfl (by kernel_rfl) rfl f rfl rfl rfl hc_531 rfl rfl (fun a f => ?_)
           refine q_not (i := 6) (listed' := #[true, true, true, true, true, true, true, false, false, false, false, false, false, false, false]) 15 rfl (by kernel_rfl) rfl f rfl rfl rfl hc_531 rfl rfl (fun a f => ?_)
           refine q_not (i := 7) (listed' := #[true, true, true, true, true, true, true, true, false, false, false, false, false, false, false]) 15 rfl (by kernel_rfl) rfl f rfl rfl rfl hc_531 rfl rfl (fun a f => ?_)
           refine q_not (i := 8) (listed' := #[true, true, true, true, true, true, true, true, true, false, false, false, false, false, false]) 15 rfl (by kernel_rfl) rfl f rfl rfl rfl hc_531 rfl rfl (fun a f => ?_)
           refine q_not (i := 9) (listed' := #[true, true, true, true, true, true, true, true, true, true, false, false, false, false, false]) 15 rfl (by kernel_rfl) rfl f rfl rfl rfl hc_531 rfl rfl (fun a f => ?_)
           refine q_not (i := 10) (listed' := #[true, true, true, true, true, true, true, true, true, true, true, false, false, false, false]) 15 rfl (by kernel_rfl) rfl f rfl rfl rfl hc_531 rfl rfl (fun a f => ?_)
           refine q_not (i := 11) (listed' := #[true, true, true, true, true, true, true, true, true, true, true, true, false, false, false]) 15 rfl (by kernel_rfl) rfl f rfl rfl rfl hc_531 rfl rfl (fun a f => ?_)
           refine q_not (i := 12) (listed' := #[true, true, true, true, true, true, true, true, true, true, true, true, true, false, false]) 15 rfl (by kernel_rfl) rfl f rfl rfl rfl hc_531 rfl rfl (fun a f => ?_)
           refine q_not (i := 13) (listed' := #[true, true, true, true, true, true, true, true, true, true, true, true, true, true, false]) 15 rfl (by kernel_rfl) rfl f rfl rfl rfl hc_531 rfl rfl (fun a f => ?_)
           refine q_op (i := 14) (listed' := #[true, true, true, true, true, true, true, true, true, true, true, true, true, true, true]) 15 rfl (by kernel_rfl) rfl f rfl rfl rfl (fun _ _ _ _ _ => r_pickF (f.eval rfl) hc_531 (f.eval rfl)) (fun a f => ?_)
           obtain rfl := Option.some.inj hj_549
           exact K_547 _ (f.weak ⟨rfl, rfl, rfl, rfl, rfl, rfl, rfl, rfl, rfl, rfl, rfl, rfl, trivial⟩)

theorem Wk.slices_pdqsortOrdered_int64 {W w : World} {G : GH} {H : List Itm} {v0 : Value} {it0 : Itm} {x0 : (List Int)} {x1 : Int} {x2 : Int} {x3 : Int} (m : Mem W G w (it0 :: H)) (o0 : Ow (RI .i64) 2 G it0 v0 x0) {y : ((List Int))} (hd : D.slices_pdqsortOrdered_int64 x0 x1 x2 x3 = some y) :
  Calls Tryd.prog 128 #[v0, (.int .i64 x1), (.int .i64 x2), (.int .i64 x3)] w (Res W G H (fun G' Ho _ => ∃ i0 : Itm, Ho = [i0] ∧ Ow (RI .i64) 2 G' i0 v0 y)) := by
 exact Wk.slices_pdqsortOrdered_int64R recFuel m o0 hd

theorem Wk.slices_Sort_int64_int64 {W w : World} {G : GH} {H : List Itm} {v0 : Value} {it0 : Itm} {x0 : (List Int)} (m : Mem W G w (it0 :: H)) (o0 : Ow (RI .i64) 2 G it0 v0 x0) {y : ((List Int))} (hd : D.slices_Sort_int64_int64 x0 = some y) :
  Calls Tryd.prog 111 #[v0] w (Res W G H (fun G' Ho _ => ∃ i0 : Itm, Ho = [i0] ∧ Ow (RI .i64) 2 G' i0 v0 y)) := by
 refine calls_b (args := [v0]) (N := 11) [] Tryd.func111 rfl rfl (Nat.le_of_ble_eq_true rfl) rfl (fun a f => ?_)
 unfold D.slices_Sort_int64_int64 at hd
 refine k_seq ?_
 refine k_region ?_
 refine l_op f rfl rfl rfl (r_move (f.eval rfl)) (fun a f => ?_)
 refine l_own_len 0 m o0 rfl Tryd.underlying31 f rfl rfl (fun a f => ?_)
 refine l_op f rfl rfl rfl (r_assign (f.eval rfl)) (fun a f => ?_)
 refine l_nil ?_
 refine k_region ?_
 refine l_op f rfl rfl rfl (r_move (f.eval rfl)) (fun a f => ?_)
 refine l_op f rfl rfl rfl (r_move (f.eval rfl)) (fun a f => ?_)
 refine l_op f rfl rfl rfl (r_move (f.eval rfl)) (fun a f => ?_)
 refine l_op f rfl rfl rfl (r_conv (f.eval rfl) ⟨_, Tryd.underlying3⟩ Tryd.underlying111) (fun a f => ?_)
 obtain ⟨y_1, hy_2, hd⟩ := bind_some hd
 refine l_res f rfl rfl Tryd.call129 (Wk.math_bits_Len m  hy_2) (fun v_6 G_3 Ho_7 w hl_4 m hQ_5 a f => ?_)
 obtain ⟨rfl, rfl⟩ := hQ_5
 have o0 := Ow.mono (RI.mono _) hl_4 o0
 have m : Mem W G_3 w (it0 :: H) := m
 obtain ⟨y_8, hy_9, hd⟩ := bind_some hd
 refine l_res f rfl rfl Tryd.call128 (Wk.slices_pdqsortOrdered_int64 m o0 hy_9) (fun v_13 G_10 Ho_14 w hl_11 m hQ_12 a f => ?_)
 obtain ⟨it_15, rfl, o_16⟩ := hQ_12
 have m : Mem W G_10 w (it_15 :: H) := m
 refine l_nil ?_
 obtain rfl := Option.some.inj hd
 exact ⟨[], trivial, f.defers, _, [it_15], (GLe.trans hl_4 hl_11), m, _, rfl, o_16⟩

theorem Wk.slices_Collect_int64 {W w : World} {G : GH} {H : List Itm} {v0 : Value} {b0 : Nat} {x0 : (List Int)} (m : Mem W G w (Itm.box b0 31 [v0] :: H)) (h0 : RSl (RI .i64) G v0 x0) {y : ((List Int))} (hd : D.slices_Collect_int64 x0 = some y) :
  Calls Tryd.prog 110 #[(.func (.func 112) #[] #[(.pointer (some ⟨b0, 0, none⟩))])] w (Res W G H (fun G' Ho v => ∃ r0 : Value, ∃ i0 : Itm, Ho = [i0] ∧ r0 = v ∧ Ow (RI .i64) 2 G' i0 r0 y)) := by
 refine calls_b (args := [(.func (.func 112) #[] #[(.pointer (some ⟨b0, 0, none⟩))])]) (N := 5) [.tmp 2] Tryd.func110 rfl rfl (Nat.le_of_ble_eq_true rfl) rfl (fun a f => ?_)
 unfold D.slices_Collect_int64 at hd
 refine k_seq ?_
 refine k_region ?_
 refine l_op f rfl rfl rfl (r_assign (f.eval rfl)) (fun a f => ?_)
 refine l_nil ?_
 refine k_seq ?_
 refine k_region ?_
 refine l_op f rfl rfl rfl (r_move (f.eval rfl)) (fun a f => ?_)
 obtain ⟨y_1, hy_2, hd⟩ := bind_some hd
 refine l_res f rfl rfl Tryd.call127 (Wk.slices_AppendSeq_int64_int64 m h0 hy_2) (fun v_6 G_3 Ho_7 w hl_4 m hQ_5 a f => ?_)
 obtain ⟨v_11, it_8, rfl, rfl, o_9⟩ := hQ_5
 have m : Mem W G_3 w (it_8 :: H) := m
 refine l_op f rfl rfl rfl (r_assign (f.eval rfl)) (fun a f => ?_)
 refine l_nil ?_
 refine k_ret ?_
 obtain rfl := Option.some.inj hd
 exact ⟨[v_11], ⟨f.get _ _ rfl, trivial⟩, f.defers, _, [it_8], hl_4, m, _, _, rfl, rfl, o_9⟩

theorem Wk.slices_Sorted_int64 {W w : World} {G : GH} {H : List Itm} {v0 : Value} {b0 : Nat} {x0 : (List Int)} (m : Mem W G w (Itm.box b0 31 [v0] :: H)) (h0 : RSl (RI .i64) G v0 x0) {y : ((List Int))} (hd : D.slices_Sorted_int64 x0 = some y) :
  Calls Tryd.prog 73 #[(.func (.func 112) #[] #[(.pointer (some ⟨b0, 0, none⟩))])] w (Res W G H (fun G' Ho v => ∃ r0 : Value, ∃ i0 : Itm, Ho = [i0] ∧ r0 = v ∧ Ow (RI .i64) 2 G' i0 r0 y)) := by
 refine calls_b (args := [(.func (.func 112) #[] #[(.pointer (some ⟨b0, 0, none⟩))])]) (N := 9) [.tmp 2] Tryd.func73 rfl rfl (Nat.le_of_ble_eq_true rfl) rfl (fun a f => ?_)
 unfold D.slices_Sorted_int64 at hd
 refine k_seq ?_
 refine k_region ?_
 refine l_op f rfl rfl rfl (r_assign (f.eval rfl)) (fun a f => ?_)
 refine l_nil ?_
 refine k_seq ?_
 refine k_region ?_
 refine l_op f rfl rfl rfl (r_move (f.eval rfl)) (fun a f => ?_)
 obtain ⟨y_1, hy_2, hd⟩ := bind_some hd
 refine l_res f rfl rfl Tryd.call110 (Wk.slices_Collect_int64 m h0 hy_2) (fun v_6 G_3 Ho_7 w hl_4 m hQ_5 a f => ?_)
 obtain ⟨v_11, it_8, rfl, rfl, o_9⟩ := hQ_5
 have m : Mem W G_3 w (it_8 :: H) := m
 refine l_op f rfl rfl rfl (r_assign (f.eval rfl)) (fun a f => ?_)
 refine l_nil ?_
 refine k_seq ?_
 refine k_region ?_
 refine l_op f rfl rfl rfl (r_move (f.eval rfl)) (fun a f => ?_)
 obtain ⟨y_12, hy_13, hd⟩ := bind_some hd
 refine l_res f rfl rfl Tryd.call111 (Wk.slices_Sort_int64_int64 m o_9 hy_13) (fun v_17 G_14 Ho_18 w hl_15 m hQ_16 a f => ?_)
 obtain ⟨it_19, rfl, o_20⟩ := hQ_16
 have m : Mem W G_14 w (it_19 :: H) := m
 refine l_nil ?_
 refine k_seq ?_
 refine k_region ?_
 refine l_op f rfl rfl rfl (r_move (f.eval rfl)) (fun a f => ?_)
 refine l_op f rfl rfl rfl (r_assign (f.eval rfl)) (fun a f => ?_)
 refine l_nil ?_
 refine k_ret ?_
 obtain rfl := Option.some.inj hd
 exact ⟨[v_11], ⟨f.get _ _ rfl, trivial⟩, f.defers, _, [it_19], (GLe.trans hl_4 hl_15), m, _, _, rfl, rfl, o_20⟩


end Go.Proofs.YtehnblgkgaakeaaDoor

set_option maxRecDepth 100000
namespace Go.Proofs.YtehnblgkgaakeaaDoor
open Go Go.Sx
theorem Pl27 : Plain Tryd.prog 27 := Tryd.isAgg27
theorem Pl31 : Plain Tryd.prog 31 := Tryd.isAgg31
theorem T27 : SlT Tryd.prog 27 31 1 24 (.slice none 0 0) := ⟨Tryd.underlying27, Tryd.t31, by kernel_rfl, by kernel_rfl, by kernel_rfl, by kernel_rfl⟩
theorem Ag29 : Agg Tryd.prog 29 1 := ⟨Tryd.isAgg29, Tryd.sizeOf29⟩
theorem T61 : SlT Tryd.prog 61 66 1 4 (.int .u32 0) := ⟨Tryd.underlying61, Tryd.t66, by kernel_rfl, by kernel_rfl, by kernel_rfl, by kernel_rfl⟩
theorem T63 : SlT Tryd.prog 63 3 1 8 (.int .i64 0) := ⟨Tryd.underlying63, Tryd.t3, by kernel_rfl, by kernel_rfl, by kernel_rfl, by kernel_rfl⟩
theorem Pl5 : Plain Tryd.prog 5 := Tryd.isAgg5
theorem Pl66 : Plain Tryd.prog 66 := Tryd.isAgg66
theorem T59 : SlT Tryd.prog 59 66 1 4 (.int .u32 0) := ⟨Tryd.underlying59, Tryd.t66, by kernel_rfl, by kernel_rfl, by kernel_rfl, by kernel_rfl⟩

theorem Wk.spec_l1In {W w : World} {G : GH} {H : List Itm} {x0 : Int} {x1 : Int} {x2 : Int} (m : Mem W G w (H))  {y : Bool} (hd : D.spec_l1In x0 x1 x2 = some y) :
  Calls Tryd.prog 67 #[(.int .i64 x0), (.int .i64 x1), (.int .i64 x2)] w (Res W G H (fun _ Ho v => Ho = [] ∧ v = (.bool y))) := by
 refine calls_b (args := [(.int .i64 x0), (.int .i64 x1), (.int .i64 x2)]) (N := 15) [.tmp 6] Tryd.func67 rfl rfl (Nat.le_of_ble_eq_true rfl) rfl (fun a f => ?_)
 unfold D.spec_l1In at hd
 refine k_seq ?_
 refine k_region ?_
 refine l_op f rfl rfl rfl (r_assign (f.eval rfl)) (fun a f => ?_)
 refine l_nil ?_
 refine k_seq ?_
 refine k_region ?_
 refine l_op f rfl rfl rfl (r_move (f.eval rfl)) (fun a f => ?_)
 refine l_op f rfl rfl rfl (r_move (f.eval rfl)) (fun a f => ?_)
 refine l_op f rfl rfl rfl (r_int (f.eval rfl) (f.eval rfl) b_geq) (fun a f => ?_)
 refine l_op f rfl rfl rfl (r_move (f.eval rfl)) (fun a f => ?_)
 refine l_cut 4 (fun a w => ∃ G_2, GLe G G_2 ∧ Mem W G_2 w (H) ∧ Fr a 15 [(0, (.int .i64 x0)), (1, (.int .i64 x1)), (2, (.int .i64 x2)), (7, (.int .i64 x0)), (8, (.int .i64 x1)), (9, (.bool (decide (x1 ≤ x0)))), (10, (.bool (decide (x1 ≤ x0)))), (14, (.bool ((decide (x1 ≤ x0)) && (decide (x0 ≤ x2)))))]) ?_ ?_
 ·rcases Bool.eq_false_or_eq_true (decide (x1 ≤ x0)) with hc_1 | hc_1
  ·refine l_run f rfl rfl hc_1 ?_
   refine l_op f rfl rfl rfl (r_move (f.eval rfl)) (fun a f => ?_)
   refine l_run f rfl rfl hc_1 ?_
   refine l_op f rfl rfl rfl (r_move (f.eval rfl)) (fun a f => ?_)
   refine l_run f rfl rfl hc_1 ?_
   refine l_op f rfl rfl rfl (r_int (f.eval rfl) (f.eval rfl) b_leq) (fun a f => ?_)
   refine l_op f rfl rfl rfl (r_pickT (f.eval rfl) hc_1 (f.eval rfl)) (fun a f => ?_)
   exact ⟨_, (GLe.refl _), m, f.weak ⟨rfl, rfl, rfl, rfl, rfl, rfl, rfl, by rw [hc_1]; rfl, trivial⟩⟩
  ·refine l_not' f rfl rfl rfl hc_1 (fun a f => ?_)
   refine l_not' f rfl rfl rfl hc_1 (fun a f => ?_)
   refine l_not' f rfl rfl rfl hc_1 (fun a f => ?_)
   refine l_op f rfl rfl rfl (r_pickF (f.eval rfl) hc_1 (f.eval rfl)) (fun a f => ?_)
   exact ⟨_, (GLe.refl _), m, f.weak ⟨rfl, rfl, rfl, rfl, rfl, rfl, rfl, by rw [hc_1]; rfl, trivial⟩⟩
 ·rintro a w ⟨G_2, hl_3, m, f⟩
  refine l_op f rfl rfl rfl (r_assign (f.eval rfl)) (fun a f => ?_)
  refine l_nil ?_
  refine k_ret ?_
  obtain rfl := Option.some.inj hd
  exact ⟨[(.bool ((decide (x1 ≤ x0)) && (decide (x0 ≤ x2))))], ⟨f.get _ _ rfl, trivial⟩, f.defers, _, [], hl_3, m, rfl, rfl⟩

theorem Wk.spec_l1Has {W w : World} {G : GH} {H : List Itm} {v0 : Value} {x0 : (List Int)} {x1 : Int} (m : Mem W G w (H)) (h0 : RSl (RI .i64) G v0 x0) {y : Bool} (hd : D.spec_l1Has x0 x1 = some y) :
  Calls Tryd.prog 68 #[v0, (.int .i64 x1)] w (Res W G H (fun _ Ho v => Ho = [] ∧ v = (.bool y))) := by
 refine calls_b (args := [v0, (.int .i64 x1)]) (N := 18) [.tmp 4] Tryd.func68 rfl rfl (Nat.le_of_ble_eq_true rfl) rfl (fun a f => ?_)
 unfold D.spec_l1Has at hd
 refine k_seq ?_
 refine k_region ?_
 refine l_op f rfl rfl rfl (r_assign (f.eval rfl)) (fun a f => ?_)
 refine l_nil ?_
 refine k_seq ?_
 refine k_seq ?_
 refine k_region ?_
 refine l_op f rfl rfl rfl (r_assign (f.eval rfl)) (fun a f => ?_)
 refine l_nil ?_
 obtain ⟨q_19, hl_20, hd⟩ := bind_some hd
 refine k_cut (fun a w => ∃ q_19' : Unit, q_19 = .inl q_19' ∧ ∃ (G_36 : GH), GLe G G_36 ∧ Fr a 18 [] ∧ Mem W G_36 w (H)) ?_ ?_
 ·refine k_block ?_
  refine k_loop (fun s_23 a w => ∃ x_26 : Int, x_26 = s_23 ∧ ∃ (G_25 : GH), GLe G G_25 ∧ Fr a 18 [(0, v0), (1, (.int .i64 x1)), (5, (.int .i64 x_26))] ∧ Mem W G_25 w (H)) hl_20 ⟨_, rfl, _, (GLe.refl _), f.weak ⟨rfl, rfl, rfl, trivial⟩, m⟩ ?_
  clear hl_20 f m
  rintro s_23 o_24 hs_21 hq_22 a w ⟨x_26, rfl, G_25, hl_27, f, m⟩
  have h0 := RSl.mono (RI.mono _) _ _ _ _ hl_27 h0
  refine k_seq ?_
  refine k_seq ?_
  refine k_region ?_
  refine l_op f rfl rfl rfl (r_move (f.eval rfl)) (fun a f => ?_)
  refine l_op f rfl rfl rfl (r_move (f.eval rfl)) (fun a f => ?_)
  refine l_len Tryd.underlying31 f rfl rfl h0 (fun a f => ?_)
  refine l_op f rfl rfl rfl (r_int (f.eval rfl) (f.eval rfl) b_lss) (fun a f => ?_)
  refine l_nil ?_
  rcases cond_some hs_21 with ⟨hc_38, hs_21⟩ | ⟨hc_38, hs_21⟩
  ·refine k_true f rfl hc_38 ?_
   refine k_skip ?_
   refine k_seq ?_
   refine k_block ?_
   refine k_seq ?_
   refine k_region ?_
   refine l_op f rfl rfl rfl (r_move (f.eval rfl)) (fun a f => ?_)
   refine l_op f rfl rfl rfl (r_move (f.eval rfl)) (fun a f => ?_)
   obtain ⟨e_39, he_40, hs_21⟩ := bind_some hs_21
   refine l_at T31 f rfl rfl rfl h0 he_40 (fun p_41 c_42 a g_43 h_44 f => ?_)
   subst h_44
   refine l_loadAt m Pl2 f rfl rfl g_43 (fun a f => ?_)
   refine l_op f rfl rfl rfl (r_move (f.eval rfl)) (fun a f => ?_)
   refine l_op f rfl rfl rfl (r_int (f.eval rfl) (f.eval rfl) b_eql) (fun a f => ?_)
   refine l_nil ?_
   rcases cond_some hs_21 with ⟨hc_45, hs_21⟩ | ⟨hc_45, hs_21⟩
   ·refine k_true f rfl hc_45 ?_
    refine k_seq ?_
    refine k_region ?_
    refine l_op f rfl rfl rfl (r_assign (f.eval rfl)) (fun a f => ?_)
    refine l_nil ?_
    refine k_ret ?_
    obtain rfl := Option.some.inj hs_21
    obtain rfl := hq_22 _ rfl
    obtain rfl := Option.some.inj hd
    exact ⟨[(.bool true)], ⟨f.get _ _ rfl, trivial⟩, f.defers, _, [], hl_27, m, rfl, rfl⟩
   ·refine k_false f rfl hc_45 ?_
    refine k_skip ?_
    refine k_region ?_
    refine l_op f rfl rfl rfl (r_move (f.eval rfl)) (fun a f => ?_)
    refine l_op f rfl rfl rfl (r_int (f.eval rfl) (f.eval rfl) b_add) (fun a f => ?_)
    refine l_op f rfl rfl rfl (r_assign (f.eval rfl)) (fun a f => ?_)
    refine l_nil ?_
    obtain rfl := Option.some.inj hs_21
    exact ⟨_, rfl, _, rfl, _, hl_27, f.weak ⟨rfl, rfl, rfl, trivial⟩, m⟩
  ·refine k_false f rfl hc_38 ?_
   refine k_exit rfl ?_
   obtain rfl := Option.some.inj hs_21
   obtain rfl := hq_22 _ rfl
   exact ⟨_, rfl, _, hl_27, f.weak trivial, m⟩
 ·rintro a w ⟨_, rfl, G_36, hl_37, f, m⟩
  refine k_seq ?_
  refine k_region ?_
  refine l_op f rfl rfl rfl (r_assign (f.eval rfl)) (fun a f => ?_)
  refine l_nil ?_
  refine k_ret ?_
  obtain rfl := Option.some.inj hd
  exact ⟨[(.bool false)], ⟨f.get _ _ rfl, trivial⟩, f.defers, _, [], hl_37, m, rfl, rfl⟩

theorem Wk.spec_l1Size {W w : World} {G : GH} {H : List Itm} {v0_0 : Value} {x0_0 : (List (List Int))} (m : Mem W G w (H)) (h0_0 : RSl (RSl (RI .i64)) G v0_0 x0_0) {y : Int} (hd : D.spec_l1Size x0_0 = some y) :
  Calls Tryd.prog 89 #[(.agg #[v0_0])] w (Res W G H (fun _ Ho v => Ho = [] ∧ v = (.int .i64 y))) := by
 refine calls_b (args := [(.agg #[v0_0])]) (N := 6) [.tmp 2] Tryd.func89 rfl rfl (Nat.le_of_ble_eq_true rfl) rfl (fun a f => ?_)
 unfold D.spec_l1Size at hd
 refine k_seq ?_
 refine k_region ?_
 refine l_box (cs := [v0_0]) m f rfl rfl rfl (fun b_2 w a m f => ?_)
 refine l_op f rfl rfl rfl (r_assign (f.eval rfl)) (fun a f => ?_)
 refine l_nil ?_
 refine k_seq ?_
 refine k_region ?_
 refine l_fieldAddr Tryd.underlying29 rfl Tryd.sizeOf27 (by decide) f rfl rfl (fun a f => ?_)
 refine l_boxCell 0 0 m Pl27 f rfl rfl rfl rfl (fun a f => ?_)
 refine l_len Tryd.underlying27 f rfl rfl h0_0 (fun a f => ?_)
 refine l_op f rfl rfl rfl (r_assign (f.eval rfl)) (fun a f => ?_)
 refine l_nil ?_
 refine k_ret ?_
 have m : Mem W G w H := Mem.drop (H' := [Itm.box b_2 29 [v0_0]]) m
 obtain rfl := Option.some.inj hd
 exact ⟨[(.int .i64 (x0_0.length : Int))], ⟨f.get _ _ rfl, trivial⟩, f.defers, _, [], (GLe.refl _), m, rfl, rfl⟩

theorem Wk.spec_l1Copy {W w : World} {G : GH} {H : List Itm} {v0 : Value} {x0 : (List Int)} (m : Mem W G w (H)) (h0 : RSl (RI .i64) G v0 x0) {y : ((List Int))} (hd : D.spec_l1Copy x0 = some y) :
  Calls Tryd.prog 106 #[v0] w (Res W G H (fun G' Ho v => ∃ r0 : Value, ∃ i0 : Itm, Ho = [i0] ∧ r0 = v ∧ Ow (RI .i64) 2 G' i0 r0 y)) := by
 refine calls_b (args := [v0]) (N := 6) [.tmp 2] Tryd.func106 rfl rfl (Nat.le_of_ble_eq_true rfl) rfl (fun a f => ?_)
 unfold D.spec_l1Copy at hd
 refine k_seq ?_
 refine k_region ?_
 refine l_op f rfl rfl rfl (r_assign (f.eval rfl)) (fun a f => ?_)
 refine l_nil ?_
 refine k_seq ?_
 refine k_region ?_
 refine l_slit (R := (RI .i64)) (xs := ([] : List Int)) (RI.one _) m T31 f rfl rfl rfl (by decide) (All2.nil _) (fun it_1 v_2 w a m o_3 f => ?_)
 refine l_op f rfl rfl rfl (r_move (f.eval rfl)) (fun a f => ?_)
 obtain ⟨l_5, hx_6, hd⟩ := bind_some hd
 refine l_append (RI.one _) 0 m o_3 rfl T31 rfl (by decide) f rfl rfl rfl (h0.src m) hx_6 (fun it_7 v_8 w a m o_9 f => ?_)
 have m : Mem W G w (it_7 :: H) := m
 refine l_op f rfl rfl rfl (r_assign (f.eval rfl)) (fun a f => ?_)
 refine l_nil ?_
 refine k_ret ?_
 obtain rfl := Option.some.inj hd
 exact ⟨[v_8], ⟨f.get _ _ rfl, trivial⟩, f.defers, _, [it_7], (GLe.refl _), m, _, _, rfl, rfl, o_9⟩

theorem Wk.spec_l1Set {W w : World} {G : GH} {H : List Itm} {v0 : Value} {x0 : (List Int)} {x1 : Int} (m : Mem W G w (H)) (h0 : RSl (RI .i64) G v0 x0) {y : Bool} (hd : D.spec_l1Set x0 x1 = some y) :
  Calls Tryd.prog 98 #[v0, (.int .i64 x1)] w (Res W G H (fun _ Ho v => Ho = [] ∧ v = (.bool y))) := by
 refine calls_b (args := [v0, (.int .i64 x1)]) (N := 40) [.tmp 4] Tryd.func98 rfl rfl (Nat.le_of_ble_eq_true rfl) rfl (fun a f => ?_)
 unfold D.spec_l1Set at hd
 refine k_seq ?_
 refine k_region ?_
 refine l_op f rfl rfl rfl (r_assign (f.eval rfl)) (fun a f => ?_)
 refine l_nil ?_
 refine k_seq ?_
 refine k_seq ?_
 refine k_region ?_
 refine l_op f rfl rfl rfl (r_move (f.eval rfl)) (fun a f => ?_)
 refine l_len Tryd.underlying31 f rfl rfl h0 (fun a f => ?_)
 refine l_op f rfl rfl rfl (r_move (f.eval rfl)) (fun a f => ?_)
 refine l_op f rfl rfl rfl (r_int (f.eval rfl) (f.eval rfl) b_gtr) (fun a f => ?_)
 refine l_nil ?_
 rcases cond_some hd with ⟨hc_1, hd⟩ | ⟨hc_1, hd⟩
 ·refine k_true f rfl hc_1 ?_
  refine k_seq ?_
  refine k_region ?_
  refine l_op f rfl rfl rfl (r_assign (f.eval rfl)) (fun a f => ?_)
  refine l_nil ?_
  refine k_ret ?_
  obtain rfl := Option.some.inj hd
  exact ⟨[(.bool false)], ⟨f.get _ _ rfl, trivial⟩, f.defers, _, [], (GLe.refl _), m, rfl, rfl⟩
 ·refine k_false f rfl hc_1 ?_
  refine k_skip ?_
  refine k_seq ?_
  refine k_seq ?_
  refine k_region ?_
  refine l_op f rfl rfl rfl (r_assign (f.eval rfl)) (fun a f => ?_)
  refine l_nil ?_
  obtain ⟨q_150, hl_151, hd⟩ := bind_some hd
  refine k_cut (fun a w => ∃ q_150' : Unit, q_150 = .inl q_150' ∧ ∃ (G_232 : GH), GLe G G_232 ∧ Fr a 40 [] ∧ Mem W G_232 w (H)) ?_ ?_
  ·refine k_block ?_
   refine k_loop (fun s_154 a w => ∃ x_157 : Int, x_157 = s_154 ∧ ∃ (G_156 : GH), GLe G G_156 ∧ Fr a 40 [(0, v0), (1, (.int .i64 x1)), (5, (.int .i64 x_157))] ∧ Mem W G_156 w (H)) hl_151 ⟨_, rfl, _, (GLe.refl _), f.weak ⟨rfl, rfl, rfl, trivial⟩, m⟩ ?_
   clear hl_151 f m
   rintro s_154 o_155 hs_152 hq_153 a w ⟨x_157, rfl, G_156, hl_158, f, m⟩
   have h0 := RSl.mono (RI.mono _) _ _ _ _ hl_158 h0
   refine k_seq ?_
   refine k_seq ?_
   refine k_region ?_
   refine l_op f rfl rfl rfl (r_move (f.eval rfl)) (fun a f => ?_)
   refine l_op f rfl rfl rfl (r_move (f.eval rfl)) (fun a f => ?_)
   refine l_len Tryd.underlying31 f rfl rfl h0 (fun a f => ?_)
   refine l_op f rfl rfl rfl (r_int (f.eval rfl) (f.eval rfl) b_lss) (fun a f => ?_)
   refine l_nil ?_
   rcases cond_some hs_152 with ⟨hc_234, hs_152⟩ | ⟨hc_234, hs_152⟩
   ·refine k_true f rfl hc_234 ?_
    refine k_skip ?_
    refine k_seq ?_
    refine k_block ?_
    refine k_seq ?_
    refine k_draw 24 Follows (by kernel_rfl) m ?_
    refine q_op (i := 0) (listed' := #[true, false, false, false, false, false, false, false, false, false, false, false, false, false, false, false, false, false, false, false, false, false, false, false]) 24 rfl (by kernel_rfl) rfl f rfl rfl rfl (fun _ _ _ _ _ => r_move (f.eval rfl)) (fun a f => ?_)
    refine q_op (i := 1) (listed' := #[true, true, false, false, false, false, false, false, false, false, false, false, false, false, false, false, false, false, false, false, false, false, false, false]) 24 rfl (by kernel_rfl) rfl f rfl rfl rfl (fun _ _ _ _ _ => r_move (f.eval rfl)) (fun a f => ?_)
    obtain ⟨e_235, he_236, hs_152⟩ := bind_some hs_152
    refine q_at (i := 2) (listed' := #[true, true, true, false, false, false, false, false, false, false, false, false, false, false, false, false, false, false, false, false, false, false, false, false]) 24 T31 h0 he_236 rfl (by kernel_rfl) rfl f rfl rfl rfl rfl (fun p_237 c_238 a g_239 h_240 f => ?_)
    subst h_240
    refine q_loadAt (i := 3) (listed' := #[true, true, true, true, false, false, false, false, false, false, false, false, false, false, false, false, false, false, false, false, false, false, false, false]) 24 Pl2 g_239 rfl (by kernel_rfl) rfl f rfl rfl rfl (fun a f => ?_)
    refine q_op (i := 4) (listed' := #[true, true, true, true, true, false, false, false, false, false, false, false, false, false, false, false, false, false, false, false, false, false, false, false]) 24 rfl (by kernel_rfl) rfl f rfl rfl rfl (fun _ _ _ _ _ => r_move (f.eval rfl)) (fun a f => ?_)
    refine q_op (i := 5) (listed' := #[true, true, true, true, true, true, false, false, false, false, false, false, false, false, false, false, false, false, false, false, false, false, false, false]) 24 rfl (by kernel_rfl) rfl f rfl rfl rfl (fun _ _ _ _ _ => r_int (f.eval rfl) (f.eval rfl) b_sub) (fun a f => ?_)
    obtain ⟨y_241, hy_242, hs_152⟩ := bind_some hs_152
    refine q_call (i := 6) (listed' := #[true, true, true, true, true, true, true, false, false, false, false, false, false, false, false, false, false, false, false, false, false, false, false, false]) 24 rfl (by kernel_rfl) rfl f rfl rfl rfl Tryd.call67 (fun _ _ w hG_243 m => Wk.spec_l1In m  hy_242) (fun a f => ?_)
    refine q_op (i := 7) (listed' := #[true, true, true, true, true, true, true, true, false, false, false, false, false, false, false, false, false, false, false, false, false, false, false, false]) 24 rfl (by kernel_rfl) rfl f rfl rfl rfl (fun _ _ _ _ _ => r_not (f.eval rfl)) (fun a f => ?_)
    refine q_op (i := 8) (listed' := #[true, true, true, true, true, true, true, true, true, false, false, false, false, false, false, false, false, false, false, false, false, false, false, false]) 24 rfl (by kernel_rfl) rfl f rfl rfl rfl (fun _ _ _ _ _ => r_move (f.eval rfl)) (fun a f => ?_)
    obtain ⟨b_274, hj_275, hs_152⟩ := bind_some hs_152
    refine q_cut (fuel' := 0) (listed' := #[true, true, true, true, true, true, true, true, true, true, true, true, true, true, true, true, true, true, true, true, true, true, true, true]) (fun a => Fr a 40 [(0, v0), (1, (.int .i64 x1)), (5, (.int .i64 x_157)), (13, (.bool (decide (x_157 < (x0.length : Int))))), (16, v0), (17, (.int .i64 x_157)), (18, p_237), (19, (.int .i64 e_235)), (20, (.int .i64 x1)), (21, (.int .i64 (IntKind.i64.wrap (x1 - 1)))), (22, (.bool y_241)), (23, (.bool (!y_241))), (24, (.bool (!y_241))), (39, (.bool b_274))]) ?_ ?_
    ·intro a f
     refine q_end (fun G_304 w hl_305 m => ?_)
     have h0 := RSl.mono (RI.mono _) _ _ _ _ hl_305 h0
     have g_239 := At.mono hl_305 g_239
     have m : Mem W G_304 w (H) := m
     refine l_nil ?_
     rcases cond_some hs_152 with ⟨hc_306, hs_152⟩ | ⟨hc_306, hs_152⟩
     ·refine k_true f rfl hc_306 ?_
      refine k_seq ?_
      refine k_region ?_
      refine l_op f rfl rfl rfl (r_assign (f.eval rfl)) (fun a f => ?_)
      refine l_nil ?_
      refine k_ret ?_
      obtain rfl := Option.some.inj hs_152
      obtain rfl := hq_153 _ rfl
      obtain rfl := Option.some.inj hd
      exact ⟨[(.bool false)], ⟨f.get _ _ rfl, trivial⟩, f.defers, _, [], (GLe.trans hl_158 hl_305), m, rfl, rfl⟩
     ·refine k_false f rfl hc_306 ?_
      refine k_skip ?_
      refine k_region ?_
      refine l_op f rfl rfl rfl (r_move (f.eval rfl)) (fun a f => ?_)
      refine l_op f rfl rfl rfl (r_int (f.eval rfl) (f.eval rfl) b_add) (fun a f => ?_)
      refine l_op f rfl rfl rfl (r_assign (f.eval rfl)) (fun a f => ?_)
      refine l_nil ?_
      obtain rfl := Option.some.inj hs_152
      exact ⟨_, rfl, _, rfl, _, (GLe.trans hl_158 hl_305), f.weak ⟨rfl, rfl, rfl, trivial⟩, m⟩
    ·intro K_273
     rcases cond_some hj_275 with ⟨hc_244, hj_275⟩ | ⟨hc_244, hj_275⟩
     ·refine q_not (i := 9) (listed' := #[true, true, true, true, true, true, true, true, true, true, false, false, false, false, false, false, false, false, false, false, false, false, false, false]) 24 rfl (by kernel_rfl) rfl f rfl rfl rfl hc_244 rfl rfl (fun a f => ?_)
      refine q_not (i := 10) (listed' := #[true, true, true, true, true, true, true, true, true, true, true, false, false, false, false, false, false, false, false, false, false, false, false, false]) 24 rfl (by kernel_rfl) rfl f rfl rfl rfl hc_244 rfl rfl (fun a f => ?_)
      refine q_not (i := 11) (listed' := #[true, true, true, true, true, true, true, true, true, true, true, true, false, false, false, false, false, false, false, false, false, false, false, false]) 24 rfl (by kernel_rfl) rfl f rfl rfl rfl hc_244 rfl rfl (fun a f => ?_)
      refine q_notU (i := 12) (listed' := #[true, true, true, true, true, true, true, true, true, true, true, true, true, false, false, false, false, false, false, false, false, false, false, false]) 24 rfl (by kernel_rfl) rfl f rfl rfl rfl rfl rfl (fun a f => ?_)
      refine q_notU (i := 13) (listed' := #[true, true, true, true, true, true, true, true, true, true, true, true, true, true, false, false, false, false, false, false, false, false, false, false]) 24 rfl (by kernel_rfl) rfl f rfl rfl rfl rfl rfl (fun a f => ?_)
      refine q_notU (i := 14) (listed' := #[true, true, true, true, true, true, true, true, true, true, true, true, true, true, true, false, false, false, false, false, false, false, false, false]) 24 rfl (by kernel_rfl) rfl f rfl rfl rfl rfl rfl (fun a f => ?_)
      refine q_notU (i := 15) (listed' := #[true, true, true, true, true, true, true, true, true, true, true, true, true, true, true, true, false, false, false, false, false, false, false, false]) 24 rfl (by kernel_rfl) rfl f rfl rfl rfl rfl rfl (fun a f => ?_)
      refine q_notU (i := 16) (listed' := #[true, true, true, true, true, true, true, true, true, true, true, true, true, true, true, true, true, false, false, false, false, false, false, false]) 24 rfl (by kernel_rfl) rfl f rfl rfl rfl rfl rfl (fun a f => ?_)
      refine q_notU (i := 17) (listed' := #[true, true, true, true, true, true, true, true, true, true, true, true, true, true, true, true, true, true, false, false, false, false, false, false]) 24 rfl (by kernel_rfl) rfl f rfl rfl rfl rfl rfl (fun a f => ?_)
      refine q_notU (i := 18) (listed' := #[true, true, true, true, true, true, true, true, true, true, true, true, true, true, true, true, true, true, true, false, false, false, false, false]) 24 rfl (by kernel_rfl) rfl f rfl rfl rfl rfl rfl (fun a f => ?_)
      refine q_notU (i := 19) (listed' := #[true, true, true, true, true, true, true, true, true, true, true, true, true, true, true, true, true, true, true, true, false, false, false, false]) 24 rfl (by kernel_rfl) rfl f rfl rfl rfl rfl rfl (fun a f => ?_)
      refine q_notU (i := 20) (listed' := #[true, true, true, true, true, true, true, true, true, true, true, true, true, true, true, true, true, true, true, true, true, false, false, false]) 24 rfl (by kernel_rfl) rfl f rfl rfl rfl rfl rfl (fun a f => ?_)
      refine q_notU (i := 21) (listed' := #[true, true, true, true, true, true, true, true, true, true, true, true, true, true, true, true, true, true, true, true, true, true, false, false]) 24 rfl (by kernel_rfl) rfl f rfl rfl rfl rfl rfl (fun a f => ?_)
      refine q_not (i := 22) (listed' := #[true, true, true, true, true, true, true, true, true, true, true, true, true, true, true, true, true, true, true, true, true, true, true, false]) 24 rfl (by kernel_rfl) rfl f rfl rfl rfl hc_244 rfl rfl (fun a f => ?_)
      refine q_op (i := 23) (listed' := #[true, true, true, true, true, true, true, true, true, true, true, true, true, true, true, true, true, true, true, true, true, true, true, true]) 24 rfl (by kernel_rfl) rfl f rfl rfl rfl (fun _ _ _ _ _ => r_pickT (f.eval rfl) hc_244 (f.eval rfl)) (fun a f => ?_)
      obtain rfl := Option.some.inj hj_275
      exact K_273 _ (f.weak ⟨rfl, rfl, rfl, rfl, rfl, rfl, rfl, rfl, rfl, rfl, rfl, rfl, rfl, rfl, trivial⟩)
     ·refine q_op (i := 9) (listed' := #[true, true, true, true, true, true, true, true, true, true, false, false, false, false, false, false, false, false, false, false, false, false, false, false]) 24 rfl (by kernel_rfl) rfl f (wanted_of f rfl rfl rfl hc_244) rfl rfl (fun _ _ _ _ _ => r_move (f.eval rfl)) (fun a f => ?_)
      refine q_op (i := 10) (listed' := #[true, true, true, true, true, true, true, true, true, true, true, false, false, false, false, false, false, false, false, false, false, false, false, false]) 24 rfl (by kernel_rfl) rfl f (wanted_of f rfl rfl rfl hc_244) rfl rfl (fun _ _ _ _ _ => r_int (f.eval rfl) (f.eval rfl) b_gtr) (fun a f => ?_)
      refine q_op (i := 11) (listed' := #[true, true, true, true, true, true, true, true, true, true, true, true, false, false, false, false, false, false, false, false, false, false, false, false]) 24 rfl (by kernel_rfl) rfl f (wanted_of f rfl rfl rfl hc_244) rfl rfl (fun _ _ _ _ _ => r_move (f.eval rfl)) (fun a f => ?_)
      obtain ⟨b_290, hj_291, hj_275⟩ := bind_some hj_275
      refine q_cut (fuel' := 1) (listed' := #[true, true, true, true, true, true, true, true, true, true, true, true, true, true, true, true, true, true, true, true, true, true, true, false]) (fun a => Fr a 40 [(0, v0), (1, (.int .i64 x1)), (5, (.int .i64 x_157)), (13, (.bool (decide (x_157 < (x0.length : Int))))), (16, v0), (17, (.int .i64 x_157)), (18, p_237), (19, (.int .i64 e_235)), (20, (.int .i64 x1)), (21, (.int .i64 (IntKind.i64.wrap (x1 - 1)))), (22, (.bool y_241)), (23, (.bool (!y_241))), (24, (.bool (!y_241))), (25, (.int .i64 x_157)), (26, (.bool (decide ((0 : Int) < x_157)))), (27, (.bool (decide ((0 : Int) < x_157)))), (38, (.bool b_290))]) ?_ ?_
      ·intro a f
       refine q_op (i := 23) (listed' := #[true, true, true, true, true, true, true, true, true, true, true, true, true, true, true, true, true, true, true, true, true, true, true, true]) 24 rfl (by kernel_rfl) rfl f rfl rfl rfl (fun _ _ _ _ _ => r_pickF (f.eval rfl) hc_244 (f.eval rfl)) (fun a f => ?_)
       obtain rfl := Option.some.inj hj_275
       exact K_273 _ (f.weak ⟨rfl, rfl, rfl, rfl, rfl, rfl, rfl, rfl, rfl, rfl, rfl, rfl, rfl, rfl, trivial⟩)
      ·intro K_289
       rcases cond_some hj_291 with ⟨hc_276, hj_291⟩ | ⟨hc_276, hj_291⟩
       ·refine q_op (i := 12) (listed' := #[true, true, true, true, true, true, true, true, true, true, true, true, true, false, false, false, false, false, false, false, false, false, false, false]) 24 rfl (by kernel_rfl) rfl f (wanted_of f rfl rfl rfl hc_276) rfl rfl (fun _ _ _ _ _ => r_move (f.eval rfl)) (fun a f => ?_)
        refine q_op (i := 13) (listed' := #[true, true, true, true, true, true, true, true, true, true, true, true, true, true, false, false, false, false, false, false, false, false, false, false]) 24 rfl (by kernel_rfl) rfl f (wanted_of f rfl rfl rfl hc_276) rfl rfl (fun _ _ _ _ _ => r_move (f.eval rfl)) (fun a f => ?_)
        obtain ⟨e_292, he_293, hj_291⟩ := bind_some hj_291
        refine q_at (i := 14) (listed' := #[true, true, true, true, true, true, true, true, true, true, true, true, true, true, true, false, false, false, false, false, false, false, false, false]) 24 T31 h0 he_293 rfl (by kernel_rfl) rfl f (wanted_of f rfl rfl rfl hc_276) rfl rfl rfl (fun p_294 c_295 a g_296 h_297 f => ?_)
        subst h_297
        refine q_loadAt (i := 15) (listed' := #[true, true, true, true, true, true, true, true, true, true, true, true, true, true, true, true, false, false, false, false, false, false, false, false]) 24 Pl2 g_296 rfl (by kernel_rfl) rfl f (wanted_of f rfl rfl rfl hc_276) rfl rfl (fun a f => ?_)
        refine q_op (i := 16) (listed' := #[true, true, true, true, true, true, true, true, true, true, true, true, true, true, true, true, true, false, false, false, false, false, false, false]) 24 rfl (by kernel_rfl) rfl f (wanted_of f rfl rfl rfl hc_276) rfl rfl (fun _ _ _ _ _ => r_move (f.eval rfl)) (fun a f => ?_)
        refine q_op (i := 17) (listed' := #[true, true, true, true, true, true, true, true, true, true, true, true, true, true, true, true, true, true, false, false, false, false, false, false]) 24 rfl (by kernel_rfl) rfl f (wanted_of f rfl rfl rfl hc_276) rfl rfl (fun _ _ _ _ _ => r_move (f.eval rfl)) (fun a f => ?_)
        refine q_op (i := 18) (listed' := #[true, true, true, true, true, true, true, true, true, true, true, true, true, true, true, true, true, true, true, false, false, false, false, false]) 24 rfl (by kernel_rfl) rfl f (wanted_of f rfl rfl rfl hc_276) rfl rfl (fun _ _ _ _ _ => r_int (f.eval rfl) (f.eval rfl) b_sub) (fun a f => ?_)
        obtain ⟨e_298, he_299, hj_291⟩ := bind_some hj_291
        refine q_at (i := 19) (listed' := #[true, true, true, true, true, true, true, true, true, true, true, true, true, true, true, true, true, true, true, true, false, false, false, false]) 24 T31 h0 he_299 rfl (by kernel_rfl) rfl f (wanted_of f rfl rfl rfl hc_276) rfl rfl rfl (fun p_300 c_301 a g_302 h_303 f => ?_)
        subst h_303
        refine q_loadAt (i := 20) (listed' := #[true, true, true, true, true, true, true, true, true, true, true, true, true, true, true, true, true, true, true, true, true, false, false, false]) 24 Pl2 g_302 rfl (by kernel_rfl) rfl f (wanted_of f rfl rfl rfl hc_276) rfl rfl (fun a f => ?_)
        refine q_op (i := 21) (listed' := #[true, true, true, true, true, true, true, true, true, true, true, true, true, true, true, true, true, true, true, true, true, true, false, false]) 24 rfl (by kernel_rfl) rfl f (wanted_of f rfl rfl rfl hc_276) rfl rfl (fun _ _ _ _ _ => r_int (f.eval rfl) (f.eval rfl) b_leq) (fun a f => ?_)
        refine q_op (i := 22) (listed' := #[true, true, true, true, true, true, true, true, true, true, true, true, true, true, true, true, true, true, true, true, true, true, true, false]) 24 rfl (by kernel_rfl) rfl f (wanted_of f rfl rfl rfl hc_244) rfl rfl (fun _ _ _ _ _ => r_pickT (f.eval rfl) hc_276 (f.eval rfl)) (fun a f => ?_)
        obtain rfl := Option.some.inj hj_291
        exact K_289 _ (f.weak ⟨rfl, rfl, rfl, rfl, rfl, rfl, rfl, rfl, rfl, rfl, rfl, rfl, rfl, rfl, rfl, rfl, rfl, trivial⟩)
       ·refine q_not (i := 12) (listed' := #[true, true, true, true, true, true, true, true, true, true, true, true, true, false, false, false, false, false, false, false, false, false, false, false]) 24 rfl (by kernel_rfl) rfl f rfl rfl rfl hc_276 rfl rfl (fun a f => ?_)
        refine q_not (i := 13) (listed' := #[true, true, true, true, true, true, true, true, true, true, true, true, true, true, false, false, false, false, false, false, false, false, false, false]) 24 rfl (by kernel_rfl) rfl f rfl rfl rfl hc_276 rfl rfl (fun a f => ?_)
        refine q_not (i := 14) (listed' := #[true, true, true, true, true, true, true, true, true, true, true, true, true, true, true, false, false, false, false, false, false, false, false, false]) 24 rfl (by kernel_rfl) rfl f rfl rfl rfl hc_276 rfl rfl (fun a f => ?_)
        refine q_not (i := 15) (listed' := #[true, true, true, true, true, true, true, true, true, true, true, true, true, true, true, true, false, false, false, false, false, false, false, false]) 24 rfl (by kernel_rfl) rfl f rfl rfl rfl hc_276 rfl rfl (fun a f => ?_)
        refine q_not (i := 16) (listed' := #[true, true, true, true, true, true, true, true, true, true, true, true, true, true, true, true, true, false, false, false, false, false, false, false]) 24 rfl (by kernel_rfl) rfl f rfl rfl rfl hc_276 rfl rfl (fun a f => ?_)
        refine q_not (i := 17) (listed' := #[true, true, true, true, true, true, true, true, true, true, true, true, true, true, true, true, true, true, false, false, false, false, false, false]) 24 rfl (by kernel_rfl) rfl f rfl rfl rfl hc_276 rfl rfl (fun a f => ?_)
        refine q_not (i := 18) (listed' := #[true, true, true, true, true, true, true, true, true, true, true, true, true, true, true, true, true, true, true, false, false, false, false, false]) 24 rfl (by kernel_rfl) rfl f rfl rfl rfl hc_276 rfl rfl (fun a f => ?_)
        refine q_not (i := 19) (listed' := #[true, true, true, true, true, true, true, true, true, true, true, true, true, true, true, true, true, true, true, true, false, false, false, false]) 24 rfl (by kernel_rfl) rfl f rfl rfl rfl hc_276 rfl rfl (fun a f => ?_)
        refine q_not (i := 20) (listed' := #[true, true, true, true, true, true, true, true, true, true, true, true, true, true, true, true, true, true, true, true, true, false, false, false]) 24 rfl (by kernel_rfl) rfl f rfl rfl rfl hc_276 rfl rfl (fun a f => ?_)
        refine q_not (i := 21) (listed' := #[true, true, true, true, true, true, true, true, true, true, true, true, true, true, true, true, true, true, true, true, true, true, false, false]) 24 rfl (by kernel_rfl) rfl f rfl rfl rfl hc_276 rfl rfl (fun a f => ?_)
        refine q_op (i := 22) (listed' := #[true, true, true, true, true, true, true, true, true, true, true, true, true, true, true, true, true, true, true, true, true, true, true, false]) 24 rfl (by kernel_rfl) rfl f (wanted_of f rfl rfl rfl hc_244) rfl rfl (fun _ _ _ _ _ => r_pickF (f.eval rfl) hc_276 (f.eval rfl)) (fun a f => ?_)
        obtain rfl := Option.some.inj hj_291
        exact K_289 _ (f.weak ⟨rfl, rfl, rfl, rfl, rfl, rfl, rfl, rfl, rfl, rfl, rfl, rfl, rfl, rfl, rfl, rfl, rfl, trivial⟩)
   ·refine k_false f rfl hc_234 ?_
    refine k_exit rfl ?_
    obtain rfl := Option.some.inj hs_152
    obtain rfl := hq_153 _ rfl
    exact ⟨_, rfl, _, hl_158, f.weak trivial, m⟩
  ·rintro a w ⟨_, rfl, G_232, hl_233, f, m⟩
   refine k_seq ?_
   refine k_region ?_
   refine l_op f rfl rfl rfl (r_assign (f.eval rfl)) (fun a f => ?_)
   refine l_nil ?_
   refine k_ret ?_
   obtain rfl := Option.some.inj hd
   exact ⟨[(.bool true)], ⟨f.get _ _ rfl, trivial⟩, f.defers, _, [], hl_233, m, rfl, rfl⟩

theorem Wk.spec_GraphOk {W w : World} {G : GH} {H : List Itm} {v0_0 : Value} {x0_0 : (List (List Int))} (m : Mem W G w (H)) (h0_0 : RSl (RSl (RI .i64)) G v0_0 x0_0) {y : Bool} (hd : D.spec_GraphOk x0_0 = some y) :
  Calls Tryd.prog 51 #[(.agg #[v0_0])] w (Res W G H (fun _ Ho v => Ho = [] ∧ v = (.bool y))) := by
 refine calls_b (args := [(.agg #[v0_0])]) (N := 64) [.tmp 2] Tryd.func51 rfl rfl (Nat.le_of_ble_eq_true rfl) rfl (fun a f => ?_)
 unfold D.spec_GraphOk at hd
 refine k_seq ?_
 refine k_region ?_
 refine l_box (cs := [v0_0]) m f rfl rfl rfl (fun b_2 w a m f => ?_)
 refine l_op f rfl rfl rfl (r_assign (f.eval rfl)) (fun a f => ?_)
 refine l_nil ?_
 refine k_seq ?_
 refine k_region ?_
 refine l_boxAgg 0 0 (ds := [v0_0]) m Ag29 f rfl rfl rfl rfl rfl (fun a f => ?_)
 obtain ⟨y_3, hy_4, hd⟩ := bind_some hd
 refine l_res f rfl rfl Tryd.call89 (Wk.spec_l1Size m h0_0 hy_4) (fun v_8 G_5 Ho_9 w hl_6 m hQ_7 a f => ?_)
 obtain ⟨rfl, rfl⟩ := hQ_7
 have h0_0 := RSl.mono (RSl.mono (RI.mono _)) _ _ _ _ hl_6 h0_0
 have m : Mem W G_5 w (Itm.box b_2 29 [v0_0] :: H) := m
 refine l_op f rfl rfl rfl (r_assign (f.eval rfl)) (fun a f => ?_)
 refine l_nil ?_
 refine k_seq ?_
 refine k_seq ?_
 refine k_region ?_
 refine l_op f rfl rfl rfl (r_move (f.eval rfl)) (fun a f => ?_)
 obtain ⟨y_10, hy_11, hd⟩ := bind_some hd
 refine l_res f rfl rfl Tryd.call67 (Wk.spec_l1In m  hy_11) (fun v_15 G_12 Ho_16 w hl_13 m hQ_14 a f => ?_)
 obtain ⟨rfl, rfl⟩ := hQ_14
 have h0_0 := RSl.mono (RSl.mono (RI.mono _)) _ _ _ _ hl_13 h0_0
 have m : Mem W G_12 w (Itm.box b_2 29 [v0_0] :: H) := m
 refine l_op f rfl rfl rfl (r_not (f.eval rfl)) (fun a f => ?_)
 refine l_nil ?_
 rcases cond_some hd with ⟨hc_17, hd⟩ | ⟨hc_17, hd⟩
 ·refine k_true f rfl hc_17 ?_
  refine k_seq ?_
  refine k_region ?_
  refine l_op f rfl rfl rfl (r_assign (f.eval rfl)) (fun a f => ?_)
  refine l_nil ?_
  refine k_ret ?_
  have m : Mem W G_12 w H := Mem.drop (H' := [Itm.box b_2 29 [v0_0]]) m
  obtain rfl := Option.some.inj hd
  exact ⟨[(.bool false)], ⟨f.get _ _ rfl, trivial⟩, f.defers, _, [], (GLe.trans hl_6 hl_13), m, rfl, rfl⟩
 ·refine k_false f rfl hc_17 ?_
  refine k_skip ?_
  refine k_seq ?_
  refine k_seq ?_
  refine k_region ?_
  refine l_op f rfl rfl rfl (r_assign (f.eval rfl)) (fun a f => ?_)
  refine l_nil ?_
  obtain ⟨q_138, hl_139, hd⟩ := bind_some hd
  refine k_cut (fun a w => ∃ q_138' : Unit, q_138 = .inl q_138' ∧ ∃ (G_206 : GH), GLe G_12 G_206 ∧ Fr a 64 [(1, (.pointer (some ⟨b_2, 0, none⟩))), (3, (.int .i64 y_3))] ∧ Mem W G_206 w (Itm.box b_2 29 [v0_0] :: H)) ?_ ?_
  ·refine k_block ?_
   refine k_loop (fun s_142 a w => ∃ x_145 : Int, x_145 = s_142 ∧ ∃ (G_144 : GH), GLe G_12 G_144 ∧ Fr a 64 [(1, (.pointer (some ⟨b_2, 0, none⟩))), (3, (.int .i64 y_3)), (4, (.int .i64 x_145))] ∧ Mem W G_144 w (Itm.box b_2 29 [v0_0] :: H)) hl_139 ⟨_, rfl, _, (GLe.refl _), f.weak ⟨rfl, rfl, rfl, trivial⟩, m⟩ ?_
   clear hl_139 f m
   rintro s_142 o_143 hs_140 hq_141 a w ⟨x_145, rfl, G_144, hl_146, f, m⟩
   have h0_0 := RSl.mono (RSl.mono (RI.mono _)) _ _ _ _ hl_146 h0_0
   refine k_seq ?_
   refine k_seq ?_
   refine k_region ?_
   refine l_op f rfl rfl rfl (r_move (f.eval rfl)) (fun a f => ?_)
   refine l_op f rfl rfl rfl (r_move (f.eval rfl)) (fun a f => ?_)
   refine l_op f rfl rfl rfl (r_int (f.eval rfl) (f.eval rfl) b_lss) (fun a f => ?_)
   refine l_nil ?_
   rcases cond_some hs_140 with ⟨hc_208, hs_140⟩ | ⟨hc_208, hs_140⟩
   ·refine k_true f rfl hc_208 ?_
    refine k_skip ?_
    refine k_seq ?_
    refine k_block ?_
    refine k_seq ?_
    refine k_region ?_
    refine l_fieldAddr Tryd.underlying29 rfl Tryd.sizeOf27 (by decide) f rfl rfl (fun a f => ?_)
    refine l_boxCell 0 0 m Pl27 f rfl rfl rfl rfl (fun a f => ?_)
    refine l_op f rfl rfl rfl (r_move (f.eval rfl)) (fun a f => ?_)
    obtain ⟨e_209, he_210, hs_140⟩ := bind_some hs_140
    refine l_at T27 f rfl rfl rfl h0_0 he_210 (fun p_211 c_212 a g_213 h_214 f => ?_)
    refine l_loadAt m Pl31 f rfl rfl g_213 (fun a f => ?_)
    refine l_op f rfl rfl rfl (r_move (f.eval rfl)) (fun a f => ?_)
    obtain ⟨y_215, hy_216, hs_140⟩ := bind_some hs_140
    refine l_res f rfl rfl Tryd.call98 (Wk.spec_l1Set m h_214 hy_216) (fun v_220 G_217 Ho_221 w hl_218 m hQ_219 a f => ?_)
    obtain ⟨rfl, rfl⟩ := hQ_219
    have h0_0 := RSl.mono (RSl.mono (RI.mono _)) _ _ _ _ hl_218 h0_0
    have g_213 := At.mono hl_218 g_213
    have h_214 := RSl.mono (RI.mono _) _ _ _ _ hl_218 h_214
    have m : Mem W G_217 w (Itm.box b_2 29 [v0_0] :: H) := m
    refine l_op f rfl rfl rfl (r_not (f.eval rfl)) (fun a f => ?_)
    refine l_op f rfl rfl rfl (r_move (f.eval rfl)) (fun a f => ?_)
    obtain ⟨b_251, hj_252, hs_140⟩ := bind_some hs_140
    refine l_cut 8 (fun a w => ∃ G_249, GLe G_217 G_249 ∧ Mem W G_249 w (Itm.box b_2 29 [v0_0] :: H) ∧ Fr a 64 [(1, (.pointer (some ⟨b_2, 0, none⟩))), (3, (.int .i64 y_3)), (4, (.int .i64 x_145)), (14, (.bool (decide (x_145 < y_3)))), (17, (.pointer (some ⟨b_2, 0, none⟩))), (18, v0_0), (19, (.int .i64 x_145)), (20, p_211), (21, c_212), (22, (.int .i64 y_3)), (23, (.bool y_215)), (24, (.bool (!y_215))), (25, (.bool (!y_215))), (33, (.bool b_251))]) ?_ ?_
    ·rcases cond_some hj_252 with ⟨hc_222, hj_252⟩ | ⟨hc_222, hj_252⟩
     ·refine l_not' f rfl rfl rfl hc_222 (fun a f => ?_)
      refine l_not' f rfl rfl rfl hc_222 (fun a f => ?_)
      refine l_not' f rfl rfl rfl hc_222 (fun a f => ?_)
      refine l_not' f rfl rfl rfl hc_222 (fun a f => ?_)
      refine l_not' f rfl rfl rfl hc_222 (fun a f => ?_)
      refine l_not' f rfl rfl rfl hc_222 (fun a f => ?_)
      refine l_not' f rfl rfl rfl hc_222 (fun a f => ?_)
      refine l_op f rfl rfl rfl (r_pickT (f.eval rfl) hc_222 (f.eval rfl)) (fun a f => ?_)
      obtain rfl := Option.some.inj hj_252
      exact ⟨_, (GLe.refl _), m, f.weak ⟨rfl, rfl, rfl, rfl, rfl, rfl, rfl, rfl, rfl, rfl, rfl, rfl, rfl, rfl, trivial⟩⟩
     ·refine l_run f rfl rfl hc_222 ?_
      refine l_fieldAddr Tryd.underlying29 rfl Tryd.sizeOf27 (by decide) f rfl rfl (fun a f => ?_)
      refine l_run f rfl rfl hc_222 ?_
      refine l_boxCell 0 0 m Pl27 f rfl rfl rfl rfl (fun a f => ?_)
      refine l_run f rfl rfl hc_222 ?_
      refine l_op f rfl rfl rfl (r_move (f.eval rfl)) (fun a f => ?_)
      refine l_run f rfl rfl hc_222 ?_
      obtain ⟨e_253, he_254, hj_252⟩ := bind_some hj_252
      refine l_at T27 f rfl rfl rfl h0_0 he_254 (fun p_255 c_256 a g_257 h_258 f => ?_)
      refine l_run f rfl rfl hc_222 ?_
      refine l_loadAt m Pl31 f rfl rfl g_257 (fun a f => ?_)
      refine l_run f rfl rfl hc_222 ?_
      refine l_op f rfl rfl rfl (r_move (f.eval rfl)) (fun a f => ?_)
      refine l_run f rfl rfl hc_222 ?_
      obtain ⟨y_259, hy_260, hj_252⟩ := bind_some hj_252
      refine l_res f rfl rfl Tryd.call68 (Wk.spec_l1Has m h_258 hy_260) (fun v_264 G_261 Ho_265 w hl_262 m hQ_263 a f => ?_)
      obtain ⟨rfl, rfl⟩ := hQ_263
      have h0_0 := RSl.mono (RSl.mono (RI.mono _)) _ _ _ _ hl_262 h0_0
      have g_213 := At.mono hl_262 g_213
      have h_214 := RSl.mono (RI.mono _) _ _ _ _ hl_262 h_214
      have g_257 := At.mono hl_262 g_257
      have h_258 := RSl.mono (RI.mono _) _ _ _ _ hl_262 h_258
      have m : Mem W G_261 w (Itm.box b_2 29 [v0_0] :: H) := m
      refine l_op f rfl rfl rfl (r_pickF (f.eval rfl) hc_222 (f.eval rfl)) (fun a f => ?_)
      obtain rfl := Option.some.inj hj_252
      exact ⟨_, hl_262, m, f.weak ⟨rfl, rfl, rfl, rfl, rfl, rfl, rfl, rfl, rfl, rfl, rfl, rfl, rfl, rfl, trivial⟩⟩
    ·rintro a w ⟨G_249, hl_250, m, f⟩
     have h0_0 := RSl.mono (RSl.mono (RI.mono _)) _ _ _ _ hl_250 h0_0
     have g_213 := At.mono hl_250 g_213
     have h_214 := RSl.mono (RI.mono _) _ _ _ _ hl_250 h_214
     refine l_nil ?_
     rcases cond_some hs_140 with ⟨hc_266, hs_140⟩ | ⟨hc_266, hs_140⟩
     ·refine k_true f rfl hc_266 ?_
      refine k_seq ?_
      refine k_region ?_
      refine l_op f rfl rfl rfl (r_assign (f.eval rfl)) (fun a f => ?_)
      refine l_nil ?_
      refine k_ret ?_
      have m : Mem W G_249 w H := Mem.drop (H' := [Itm.box b_2 29 [v0_0]]) m
      obtain rfl := Option.some.inj hs_140
      obtain rfl := hq_141 _ rfl
      obtain rfl := Option.some.inj hd
      exact ⟨[(.bool false)], ⟨f.get _ _ rfl, trivial⟩, f.defers, _, [], (GLe.trans hl_6 (GLe.trans hl_13 (GLe.trans hl_146 (GLe.trans hl_218 hl_250)))), m, rfl, rfl⟩
     ·refine k_false f rfl hc_266 ?_
      refine k_skip ?_
      refine k_region ?_
      refine l_op f rfl rfl rfl (r_move (f.eval rfl)) (fun a f => ?_)
      refine l_op f rfl rfl rfl (r_int (f.eval rfl) (f.eval rfl) b_add) (fun a f => ?_)
      refine l_op f rfl rfl rfl (r_assign (f.eval rfl)) (fun a f => ?_)
      refine l_nil ?_
      obtain rfl := Option.some.inj hs_140
      exact ⟨_, rfl, _, rfl, _, (GLe.trans hl_146 (GLe.trans hl_218 hl_250)), f.weak ⟨rfl, rfl, rfl, trivial⟩, m⟩
   ·refine k_false f rfl hc_208 ?_
    refine k_exit rfl ?_
    obtain rfl := Option.some.inj hs_140
    obtain rfl := hq_141 _ rfl
    exact ⟨_, rfl, _, hl_146, f.weak ⟨rfl, rfl, trivial⟩, m⟩
  ·rintro a w ⟨_, rfl, G_206, hl_207, f, m⟩
   have h0_0 := RSl.mono (RSl.mono (RI.mono _)) _ _ _ _ hl_207 h0_0
   refine k_seq ?_
   refine k_seq ?_
   refine k_region ?_
   refine l_op f rfl rfl rfl (r_assign (f.eval rfl)) (fun a f => ?_)
   refine l_nil ?_
   obtain ⟨q_545, hl_546, hd⟩ := bind_some hd
   refine k_cut (fun a w => ∃ q_545' : Unit, q_545 = .inl q_545' ∧ ∃ (G_692 : GH), GLe G_206 G_692 ∧ Fr a 64 [] ∧ Mem W G_692 w (H)) ?_ ?_
   ·refine k_block ?_
    refine k_loop (fun s_549 a w => ∃ x_552 : Int, x_552 = s_549 ∧ ∃ (G_551 : GH), GLe G_206 G_551 ∧ Fr a 64 [(1, (.pointer (some ⟨b_2, 0, none⟩))), (3, (.int .i64 y_3)), (5, (.int .i64 x_552))] ∧ Mem W G_551 w (Itm.box b_2 29 [v0_0] :: H)) hl_546 ⟨_, rfl, _, (GLe.refl _), f.weak ⟨rfl, rfl, rfl, trivial⟩, m⟩ ?_
    clear hl_546 f m
    rintro s_549 o_550 hs_547 hq_548 a w ⟨x_552, rfl, G_551, hl_553, f, m⟩
    have h0_0 := RSl.mono (RSl.mono (RI.mono _)) _ _ _ _ hl_553 h0_0
    refine k_seq ?_
    refine k_seq ?_
    refine k_region ?_
    refine l_op f rfl rfl rfl (r_move (f.eval rfl)) (fun a f => ?_)
    refine l_op f rfl rfl rfl (r_move (f.eval rfl)) (fun a f => ?_)
    refine l_op f rfl rfl rfl (r_int (f.eval rfl) (f.eval rfl) b_lss) (fun a f => ?_)
    refine l_nil ?_
    rcases cond_some hs_547 with ⟨hc_694, hs_547⟩ | ⟨hc_694, hs_547⟩
    ·refine k_true f rfl hc_694 ?_
     refine k_skip ?_
     refine k_seq ?_
     refine k_block ?_
     refine k_seq ?_
     refine k_region ?_
     refine l_op f rfl rfl rfl (r_assign (f.eval rfl)) (fun a f => ?_)
     refine l_nil ?_
     obtain ⟨q_759, hl_760, hs_547⟩ := bind_some hs_547
     refine k_cut (fun a w => ∃ q_759' : Unit, q_759 = .inl q_759' ∧ ∃ (G_799 : GH), GLe G_551 G_799 ∧ Fr a 64 [(1, (.pointer (some ⟨b_2, 0, none⟩))), (3, (.int .i64 y_3)), (5, (.int .i64 x_552))] ∧ Mem W G_799 w (Itm.box b_2 29 [v0_0] :: H)) ?_ ?_
     ·refine k_block ?_
      refine k_loop (fun s_763 a w => ∃ x_766 : Int, x_766 = s_763 ∧ ∃ (G_765 : GH), GLe G_551 G_765 ∧ Fr a 64 [(1, (.pointer (some ⟨b_2, 0, none⟩))), (3, (.int .i64 y_3)), (5, (.int .i64 x_552)), (6, (.int .i64 x_766))] ∧ Mem W G_765 w (Itm.box b_2 29 [v0_0] :: H)) hl_760 ⟨_, rfl, _, (GLe.refl _), f.weak ⟨rfl, rfl, rfl, rfl, trivial⟩, m⟩ ?_
      clear hl_760 f m
      rintro s_763 o_764 hs_761 hq_762 a w ⟨x_766, rfl, G_765, hl_767, f, m⟩
      have h0_0 := RSl.mono (RSl.mono (RI.mono _)) _ _ _ _ hl_767 h0_0
      refine k_seq ?_
      refine k_seq ?_
      refine k_region ?_
      refine l_op f rfl rfl rfl (r_move (f.eval rfl)) (fun a f => ?_)
      refine l_fieldAddr Tryd.underlying29 rfl Tryd.sizeOf27 (by decide) f rfl rfl (fun a f => ?_)
      refine l_boxCell 0 0 m Pl27 f rfl rfl rfl rfl (fun a f => ?_)
      refine l_op f rfl rfl rfl (r_move (f.eval rfl)) (fun a f => ?_)
      obtain ⟨e_801, he_802, hs_761⟩ := bind_some hs_761
      refine l_at T27 f rfl rfl rfl h0_0 he_802 (fun p_803 c_804 a g_805 h_806 f => ?_)
      refine l_loadAt m Pl31 f rfl rfl g_805 (fun a f => ?_)
      refine l_len Tryd.underlying31 f rfl rfl h_806 (fun a f => ?_)
      refine l_op f rfl rfl rfl (r_int (f.eval rfl) (f.eval rfl) b_lss) (fun a f => ?_)
      refine l_nil ?_
      rcases cond_some hs_761 with ⟨hc_807, hs_761⟩ | ⟨hc_807, hs_761⟩
      ·refine k_true f rfl hc_807 ?_
       refine k_skip ?_
       refine k_seq ?_
       refine k_block ?_
       refine k_seq ?_
       refine k_draw 15 Follows (by kernel_rfl) m ?_
       refine q_fieldAddr (i := 0) (listed' := #[true, false, false, false, false, false, false, false, false, false, false, false, false, false, false]) 15 Tryd.underlying29 rfl Tryd.sizeOf27 (by decide) rfl (by kernel_rfl) rfl f rfl rfl rfl (fun a f => ?_)
       refine q_boxCell (i := 1) (listed' := #[true, true, false, false, false, false, false, false, false, false, false, false, false, false, false]) 15 0 Pl27 rfl rfl rfl (by kernel_rfl) rfl f rfl rfl rfl (fun a f => ?_)
       refine q_fieldAddr (i := 2) (listed' := #[true, true, true, false, false, false, false, false, false, false, false, false, false, false, false]) 15 Tryd.underlying29 rfl Tryd.sizeOf27 (by decide) rfl (by kernel_rfl) rfl f rfl rfl rfl (fun a f => ?_)
       refine q_boxCell (i := 3) (listed' := #[true, true, true, true, false, false, false, false, false, false, false, false, false, false, false]) 15 0 Pl27 rfl rfl rfl (by kernel_rfl) rfl f rfl rfl rfl (fun a f => ?_)
       refine q_op (i := 4) (listed' := #[true, true, true, true, true, false, false, false, false, false, false, false, false, false, false]) 15 rfl (by kernel_rfl) rfl f rfl rfl rfl (fun _ _ _ _ _ => r_move (f.eval rfl)) (fun a f => ?_)
       obtain ⟨e_808, he_809, hs_761⟩ := bind_some hs_761
       refine q_at (i := 5) (listed' := #[true, true, true, true, true, true, false, false, false, false, false, false, false, false, false]) 15 T27 h0_0 he_809 rfl (by kernel_rfl) rfl f rfl rfl rfl rfl (fun p_810 c_811 a g_812 h_813 f => ?_)
       refine q_loadAt (i := 6) (listed' := #[true, true, true, true, true, true, true, false, false, false, false, false, false, false, false]) 15 Pl31 g_812 rfl (by kernel_rfl) rfl f rfl rfl rfl (fun a f => ?_)
       refine q_op (i := 7) (listed' := #[true, true, true, true, true, true, true, true, false, false, false, false, false, false, false]) 15 rfl (by kernel_rfl) rfl f rfl rfl rfl (fun _ _ _ _ _ => r_move (f.eval rfl)) (fun a f => ?_)
       obtain ⟨e_814, he_815, hs_761⟩ := bind_some hs_761
       refine q_at (i := 8) (listed' := #[true, true, true, true, true, true, true, true, true, false, false, false, false, false, false]) 15 T31 h_813 he_815 rfl (by kernel_rfl) rfl f rfl rfl rfl rfl (fun p_816 c_817 a g_818 h_819 f => ?_)
       subst h_819
       refine q_loadAt (i := 9) (listed' := #[true, true, true, true, true, true, true, true, true, true, false, false, false, false, false]) 15 Pl2 g_818 rfl (by kernel_rfl) rfl f rfl rfl rfl (fun a f => ?_)
       obtain ⟨e_820, he_821, hs_761⟩ := bind_some hs_761
       refine q_at (i := 10) (listed' := #[true, true, true, true, true, true, true, true, true, true, true, false, false, false, false]) 15 T27 h0_0 he_821 rfl (by kernel_rfl) rfl f rfl rfl rfl rfl (fun p_822 c_823 a g_824 h_825 f => ?_)
       refine q_loadAt (i := 11) (listed' := #[true, true, true, true, true, true, true, true, true, true, true, true, false, false, false]) 15 Pl31 g_824 rfl (by kernel_rfl) rfl f rfl rfl rfl (fun a f => ?_)
       refine q_op (i := 12) (listed' := #[true, true, true, true, true, true, true, true, true, true, true, true, true, false, false]) 15 rfl (by kernel_rfl) rfl f rfl rfl rfl (fun _ _ _ _ _ => r_move (f.eval rfl)) (fun a f => ?_)
       obtain ⟨y_826, hy_827, hs_761⟩ := bind_some hs_761
       refine q_call (i := 13) (listed' := #[true, true, true, true, true, true, true, true, true, true, true, true, true, true, false]) 15 rfl (by kernel_rfl) rfl f rfl rfl rfl Tryd.call68 (fun _ _ w hG_828 m => Wk.spec_l1Has m (RSl.mono (RI.mono _) _ _ _ _ hG_828 h_825) hy_827) (fun a f => ?_)
       refine q_op (i := 14) (listed' := #[true, true, true, true, true, true, true, true, true, true, true, true, true, true, true]) 15 rfl (by kernel_rfl) rfl f rfl rfl rfl (fun _ _ _ _ _ => r_not (f.eval rfl)) (fun a f => ?_)
       refine q_end (fun G_829 w hl_830 m => ?_)
       have h0_0 := RSl.mono (RSl.mono (RI.mono _)) _ _ _ _ hl_830 h0_0
       have g_812 := At.mono hl_830 g_812
       have h_813 := RSl.mono (RI.mono _) _ _ _ _ hl_830 h_813
       have g_818 := At.mono hl_830 g_818
       have g_824 := At.mono hl_830 g_824
       have h_825 := RSl.mono (RI.mono _) _ _ _ _ hl_830 h_825
       have m : Mem W G_829 w (Itm.box b_2 29 [v0_0] :: H) := m
       refine l_nil ?_
       rcases cond_some hs_761 with ⟨hc_831, hs_761⟩ | ⟨hc_831, hs_761⟩
       ·refine k_true f rfl hc_831 ?_
        refine k_seq ?_
        refine k_region ?_
        refine l_op f rfl rfl rfl (r_assign (f.eval rfl)) (fun a f => ?_)
        refine l_nil ?_
        refine k_ret ?_
        have m : Mem W G_829 w H := Mem.drop (H' := [Itm.box b_2 29 [v0_0]]) m
        obtain rfl := Option.some.inj hs_761
        obtain rfl := hq_762 _ rfl
        obtain rfl := Option.some.inj hs_547
        obtain rfl := hq_548 _ rfl
        obtain rfl := Option.some.inj hd
        exact ⟨[(.bool false)], ⟨f.get _ _ rfl, trivial⟩, f.defers, _, [], (GLe.trans hl_6 (GLe.trans hl_13 (GLe.trans hl_207 (GLe.trans hl_553 (GLe.trans hl_767 hl_830))))), m, rfl, rfl⟩
       ·refine k_false f rfl hc_831 ?_
        refine k_skip ?_
        refine k_region ?_
        refine l_op f rfl rfl rfl (r_move (f.eval rfl)) (fun a f => ?_)
        refine l_op f rfl rfl rfl (r_int (f.eval rfl) (f.eval rfl) b_add) (fun a f => ?_)
        refine l_op f rfl rfl rfl (r_assign (f.eval rfl)) (fun a f => ?_)
        refine l_nil ?_
        obtain rfl := Option.some.inj hs_761
        exact ⟨_, rfl, _, rfl, _, (GLe.trans hl_767 hl_830), f.weak ⟨rfl, rfl, rfl, rfl, trivial⟩, m⟩
      ·refine k_false f rfl hc_807 ?_
       refine k_exit rfl ?_
       obtain rfl := Option.some.inj hs_761
       obtain rfl := hq_762 _ rfl
       exact ⟨_, rfl, _, hl_767, f.weak ⟨rfl, rfl, rfl, trivial⟩, m⟩
     ·rintro a w ⟨_, rfl, G_799, hl_800, f, m⟩
      have h0_0 := RSl.mono (RSl.mono (RI.mono _)) _ _ _ _ hl_800 h0_0
      refine k_region ?_
      refine l_op f rfl rfl rfl (r_move (f.eval rfl)) (fun a f => ?_)
      refine l_op f rfl rfl rfl (r_int (f.eval rfl) (f.eval rfl) b_add) (fun a f => ?_)
      refine l_op f rfl rfl rfl (r_assign (f.eval rfl)) (fun a f => ?_)
      refine l_nil ?_
      obtain rfl := Option.some.inj hs_547
      exact ⟨_, rfl, _, rfl, _, (GLe.trans hl_553 hl_800), f.weak ⟨rfl, rfl, rfl, trivial⟩, m⟩
    ·refine k_false f rfl hc_694 ?_
     refine k_exit rfl ?_
     have m : Mem W G_551 w H := Mem.drop (H' := [Itm.box b_2 29 [v0_0]]) m
     obtain rfl := Option.some.inj hs_547
     obtain rfl := hq_548 _ rfl
     exact ⟨_, rfl, _, hl_553, f.weak trivial, m⟩
   ·rintro a w ⟨_, rfl, G_692, hl_693, f, m⟩
    refine k_seq ?_
    refine k_region ?_
    refine l_op f rfl rfl rfl (r_assign (f.eval rfl)) (fun a f => ?_)
    refine l_nil ?_
    refine k_ret ?_
    obtain rfl := Option.some.inj hd
    exact ⟨[(.bool true)], ⟨f.get _ _ rfl, trivial⟩, f.defers, _, [], (GLe.trans hl_6 (GLe.trans hl_13 (GLe.trans hl_207 hl_693))), m, rfl, rfl⟩

theorem Wk.spec_l1There {W w : World} {G : GH} {H : List Itm} {v0_0 : Value} {x0_0 : (List (List Int))} {x1 : Int} (m : Mem W G w (H)) (h0_0 : RSl (RSl (RI .i64)) G v0_0 x0_0) {y : Bool} (hd : D.spec_l1There x0_0 x1 = some y) :
  Calls Tryd.prog 105 #[(.agg #[v0_0]), (.int .i64 x1)] w (Res W G H (fun _ Ho v => Ho = [] ∧ v = (.bool y))) := by
 refine calls_b (args := [(.agg #[v0_0]), (.int .i64 x1)]) (N := 10) [.tmp 4] Tryd.func105 rfl rfl (Nat.le_of_ble_eq_true rfl) rfl (fun a f => ?_)
 unfold D.spec_l1There at hd
 refine k_seq ?_
 refine k_region ?_
 refine l_box (cs := [v0_0]) m f rfl rfl rfl (fun b_2 w a m f => ?_)
 refine l_op f rfl rfl rfl (r_assign (f.eval rfl)) (fun a f => ?_)
 refine l_nil ?_
 refine k_seq ?_
 refine k_region ?_
 refine l_op f rfl rfl rfl (r_move (f.eval rfl)) (fun a f => ?_)
 refine l_boxAgg 0 0 (ds := [v0_0]) m Ag29 f rfl rfl rfl rfl rfl (fun a f => ?_)
 obtain ⟨y_3, hy_4, hd⟩ := bind_some hd
 refine l_res f rfl rfl Tryd.call89 (Wk.spec_l1Size m h0_0 hy_4) (fun v_8 G_5 Ho_9 w hl_6 m hQ_7 a f => ?_)
 obtain ⟨rfl, rfl⟩ := hQ_7
 have h0_0 := RSl.mono (RSl.mono (RI.mono _)) _ _ _ _ hl_6 h0_0
 have m : Mem W G_5 w (Itm.box b_2 29 [v0_0] :: H) := m
 refine l_op f rfl rfl rfl (r_int (f.eval rfl) (f.eval rfl) b_sub) (fun a f => ?_)
 obtain ⟨y_10, hy_11, hd⟩ := bind_some hd
 refine l_res f rfl rfl Tryd.call67 (Wk.spec_l1In m  hy_11) (fun v_15 G_12 Ho_16 w hl_13 m hQ_14 a f => ?_)
 obtain ⟨rfl, rfl⟩ := hQ_14
 have h0_0 := RSl.mono (RSl.mono (RI.mono _)) _ _ _ _ hl_13 h0_0
 have m : Mem W G_12 w (Itm.box b_2 29 [v0_0] :: H) := m
 refine l_op f rfl rfl rfl (r_assign (f.eval rfl)) (fun a f => ?_)
 refine l_nil ?_
 refine k_ret ?_
 have m : Mem W G_12 w H := Mem.drop (H' := [Itm.box b_2 29 [v0_0]]) m
 obtain rfl := Option.some.inj hd
 exact ⟨[(.bool y_10)], ⟨f.get _ _ rfl, trivial⟩, f.defers, _, [], (GLe.trans hl_6 hl_13), m, rfl, rfl⟩

theorem Wk.spec_l1Order {W w : World} {G : GH} {H : List Itm} {v0_0 : Value} {v1 : Value} {x0_0 : (List (List Int))} {x1 : (List Int)} (m : Mem W G w (H)) (h0_0 : RSl (RSl (RI .i64)) G v0_0 x0_0) (h1 : RSl (RI .i64) G v1 x1) {y : Bool} (hd : D.spec_l1Order x0_0 x1 = some y) :
  Calls Tryd.prog 64 #[(.agg #[v0_0]), v1] w (Res W G H (fun _ Ho v => Ho = [] ∧ v = (.bool y))) := by
 refine calls_b (args := [(.agg #[v0_0]), v1]) (N := 34) [.tmp 4] Tryd.func64 rfl rfl (Nat.le_of_ble_eq_true rfl) rfl (fun a f => ?_)
 unfold D.spec_l1Order at hd
 refine k_seq ?_
 refine k_region ?_
 refine l_box (cs := [v0_0]) m f rfl rfl rfl (fun b_2 w a m f => ?_)
 refine l_op f rfl rfl rfl (r_assign (f.eval rfl)) (fun a f => ?_)
 refine l_nil ?_
 refine k_seq ?_
 refine k_seq ?_
 refine k_region ?_
 refine l_op f rfl rfl rfl (r_move (f.eval rfl)) (fun a f => ?_)
 refine l_len Tryd.underlying31 f rfl rfl h1 (fun a f => ?_)
 refine l_boxAgg 0 0 (ds := [v0_0]) m Ag29 f rfl rfl rfl rfl rfl (fun a f => ?_)
 obtain ⟨y_3, hy_4, hd⟩ := bind_some hd
 refine l_res f rfl rfl Tryd.call89 (Wk.spec_l1Size m h0_0 hy_4) (fun v_8 G_5 Ho_9 w hl_6 m hQ_7 a f => ?_)
 obtain ⟨rfl, rfl⟩ := hQ_7
 have h0_0 := RSl.mono (RSl.mono (RI.mono _)) _ _ _ _ hl_6 h0_0
 have h1 := RSl.mono (RI.mono _) _ _ _ _ hl_6 h1
 have m : Mem W G_5 w (Itm.box b_2 29 [v0_0] :: H) := m
 refine l_op f rfl rfl rfl (r_int (f.eval rfl) (f.eval rfl) b_neq) (fun a f => ?_)
 refine l_nil ?_
 rcases cond_some hd with ⟨hc_10, hd⟩ | ⟨hc_10, hd⟩
 ·refine k_true f rfl hc_10 ?_
  refine k_seq ?_
  refine k_region ?_
  refine l_op f rfl rfl rfl (r_assign (f.eval rfl)) (fun a f => ?_)
  refine l_nil ?_
  refine k_ret ?_
  have m : Mem W G_5 w H := Mem.drop (H' := [Itm.box b_2 29 [v0_0]]) m
  obtain rfl := Option.some.inj hd
  exact ⟨[(.bool false)], ⟨f.get _ _ rfl, trivial⟩, f.defers, _, [], hl_6, m, rfl, rfl⟩
 ·refine k_false f rfl hc_10 ?_
  refine k_skip ?_
  refine k_seq ?_
  refine k_seq ?_
  refine k_region ?_
  refine l_op f rfl rfl rfl (r_assign (f.eval rfl)) (fun a f => ?_)
  refine l_nil ?_
  obtain ⟨q_99, hl_100, hd⟩ := bind_some hd
  refine k_cut (fun a w => ∃ q_99' : Unit, q_99 = .inl q_99' ∧ ∃ (G_151 : GH), GLe G_5 G_151 ∧ Fr a 34 [] ∧ Mem W G_151 w (H)) ?_ ?_
  ·refine k_block ?_
   refine k_loop (fun s_103 a w => ∃ x_106 : Int, x_106 = s_103 ∧ ∃ (G_105 : GH), GLe G_5 G_105 ∧ Fr a 34 [(1, v1), (2, (.pointer (some ⟨b_2, 0, none⟩))), (5, (.int .i64 x_106))] ∧ Mem W G_105 w (Itm.box b_2 29 [v0_0] :: H)) hl_100 ⟨_, rfl, _, (GLe.refl _), f.weak ⟨rfl, rfl, rfl, trivial⟩, m⟩ ?_
   clear hl_100 f m
   rintro s_103 o_104 hs_101 hq_102 a w ⟨x_106, rfl, G_105, hl_107, f, m⟩
   have h1 := RSl.mono (RI.mono _) _ _ _ _ hl_107 h1
   have h0_0 := RSl.mono (RSl.mono (RI.mono _)) _ _ _ _ hl_107 h0_0
   refine k_seq ?_
   refine k_seq ?_
   refine k_region ?_
   refine l_op f rfl rfl rfl (r_move (f.eval rfl)) (fun a f => ?_)
   refine l_op f rfl rfl rfl (r_move (f.eval rfl)) (fun a f => ?_)
   refine l_len Tryd.underlying31 f rfl rfl h1 (fun a f => ?_)
   refine l_op f rfl rfl rfl (r_int (f.eval rfl) (f.eval rfl) b_lss) (fun a f => ?_)
   refine l_nil ?_
   rcases cond_some hs_101 with ⟨hc_153, hs_101⟩ | ⟨hc_153, hs_101⟩
   ·refine k_true f rfl hc_153 ?_
    refine k_skip ?_
    refine k_seq ?_
    refine k_block ?_
    refine k_seq ?_
    refine k_draw 17 Follows (by kernel_rfl) m ?_
    refine q_boxAgg (i := 0) (listed' := #[true, false, false, false, false, false, false, false, false, false, false, false, false, false, false, false, false]) (ds := [v0_0]) 17 0 Ag29 rfl rfl rfl rfl (by kernel_rfl) rfl f rfl rfl rfl (fun a f => ?_)
    refine q_op (i := 1) (listed' := #[true, true, false, false, false, false, false, false, false, false, false, false, false, false, false, false, false]) 17 rfl (by kernel_rfl) rfl f rfl rfl rfl (fun _ _ _ _ _ => r_move (f.eval rfl)) (fun a f => ?_)
    refine q_op (i := 2) (listed' := #[true, true, true, false, false, false, false, false, false, false, false, false, false, false, false, false, false]) 17 rfl (by kernel_rfl) rfl f rfl rfl rfl (fun _ _ _ _ _ => r_move (f.eval rfl)) (fun a f => ?_)
    obtain ⟨e_154, he_155, hs_101⟩ := bind_some hs_101
    refine q_at (i := 3) (listed' := #[true, true, true, true, false, false, false, false, false, false, false, false, false, false, false, false, false]) 17 T31 h1 he_155 rfl (by kernel_rfl) rfl f rfl rfl rfl rfl (fun p_156 c_157 a g_158 h_159 f => ?_)
    subst h_159
    refine q_loadAt (i := 4) (listed' := #[true, true, true, true, true, false, false, false, false, false, false, false, false, false, false, false, false]) 17 Pl2 g_158 rfl (by kernel_rfl) rfl f rfl rfl rfl (fun a f => ?_)
    obtain ⟨y_160, hy_161, hs_101⟩ := bind_some hs_101
    refine q_call (i := 5) (listed' := #[true, true, true, true, true, true, false, false, false, false, false, false, false, false, false, false, false]) 17 rfl (by kernel_rfl) rfl f rfl rfl rfl Tryd.call105 (fun _ _ w hG_162 m => Wk.spec_l1There m (RSl.mono (RSl.mono (RI.mono _)) _ _ _ _ hG_162 h0_0) hy_161) (fun a f => ?_)
    refine q_op (i := 6) (listed' := #[true, true, true, true, true, true, true, false, false, false, false, false, false, false, false, false, false]) 17 rfl (by kernel_rfl) rfl f rfl rfl rfl (fun _ _ _ _ _ => r_not (f.eval rfl)) (fun a f => ?_)
    refine q_op (i := 7) (listed' := #[true, true, true, true, true, true, true, true, false, false, false, false, false, false, false, false, false]) 17 rfl (by kernel_rfl) rfl f rfl rfl rfl (fun _ _ _ _ _ => r_move (f.eval rfl)) (fun a f => ?_)
    obtain ⟨b_178, hj_179, hs_101⟩ := bind_some hs_101
    refine q_cut (fuel' := 0) (listed' := #[true, true, true, true, true, true, true, true, true, true, true, true, true, true, true, true, true]) (fun a => Fr a 34 [(1, v1), (2, (.pointer (some ⟨b_2, 0, none⟩))), (5, (.int .i64 x_106)), (14, (.bool (decide (x_106 < (x1.length : Int))))), (17, (.agg #[v0_0])), (18, v1), (19, (.int .i64 x_106)), (20, p_156), (21, (.int .i64 e_154)), (22, (.bool y_160)), (23, (.bool (!y_160))), (24, (.bool (!y_160))), (33, (.bool b_178))]) ?_ ?_
    ·intro a f
     refine q_end (fun G_193 w hl_194 m => ?_)
     have h1 := RSl.mono (RI.mono _) _ _ _ _ hl_194 h1
     have h0_0 := RSl.mono (RSl.mono (RI.mono _)) _ _ _ _ hl_194 h0_0
     have g_158 := At.mono hl_194 g_158
     have m : Mem W G_193 w (Itm.box b_2 29 [v0_0] :: H) := m
     refine l_nil ?_
     rcases cond_some hs_101 with ⟨hc_195, hs_101⟩ | ⟨hc_195, hs_101⟩
     ·refine k_true f rfl hc_195 ?_
      refine k_seq ?_
      refine k_region ?_
      refine l_op f rfl rfl rfl (r_assign (f.eval rfl)) (fun a f => ?_)
      refine l_nil ?_
      refine k_ret ?_
      have m : Mem W G_193 w H := Mem.drop (H' := [Itm.box b_2 29 [v0_0]]) m
      obtain rfl := Option.some.inj hs_101
      obtain rfl := hq_102 _ rfl
      obtain rfl := Option.some.inj hd
      exact ⟨[(.bool false)], ⟨f.get _ _ rfl, trivial⟩, f.defers, _, [], (GLe.trans hl_6 (GLe.trans hl_107 hl_194)), m, rfl, rfl⟩
     ·refine k_false f rfl hc_195 ?_
      refine k_skip ?_
      refine k_region ?_
      refine l_op f rfl rfl rfl (r_move (f.eval rfl)) (fun a f => ?_)
      refine l_op f rfl rfl rfl (r_int (f.eval rfl) (f.eval rfl) b_add) (fun a f => ?_)
      refine l_op f rfl rfl rfl (r_assign (f.eval rfl)) (fun a f => ?_)
      refine l_nil ?_
      obtain rfl := Option.some.inj hs_101
      exact ⟨_, rfl, _, rfl, _, (GLe.trans hl_107 hl_194), f.weak ⟨rfl, rfl, rfl, trivial⟩, m⟩
    ·intro K_177
     rcases cond_some hj_179 with ⟨hc_163, hj_179⟩ | ⟨hc_163, hj_179⟩
     ·refine q_not (i := 8) (listed' := #[true, true, true, true, true, true, true, true, true, false, false, false, false, false, false, false, false]) 17 rfl (by kernel_rfl) rfl f rfl rfl rfl hc_163 rfl rfl (fun a f => ?_)
      refine q_not (i := 9) (listed' := #[true, true, true, true, true, true, true, true, true, true, false, false, false, false, false, false, false]) 17 rfl (by kernel_rfl) rfl f rfl rfl rfl hc_163 rfl rfl (fun a f => ?_)
      refine q_not (i := 10) (listed' := #[true, true, true, true, true, true, true, true, true, true, true, false, false, false, false, false, false]) 17 rfl (by kernel_rfl) rfl f rfl rfl rfl hc_163 rfl rfl (fun a f => ?_)
      refine q_not (i := 11) (listed' := #[true, true, true, true, true, true, true, true, true, true, true, true, false, false, false, false, false]) 17 rfl (by kernel_rfl) rfl f rfl rfl rfl hc_163 rfl rfl (fun a f => ?_)
      refine q_not (i := 12) (listed' := #[true, true, true, true, true, true, true, true, true, true, true, true, true, false, false, false, false]) 17 rfl (by kernel_rfl) rfl f rfl rfl rfl hc_163 rfl rfl (fun a f => ?_)
      refine q_not (i := 13) (listed' := #[true, true, true, true, true, true, true, true, true, true, true, true, true, true, false, false, false]) 17 rfl (by kernel_rfl) rfl f rfl rfl rfl hc_163 rfl rfl (fun a f => ?_)
      refine q_not (i := 14) (listed' := #[true, true, true, true, true, true, true, true, true, true, true, true, true, true, true, false, false]) 17 rfl (by kernel_rfl) rfl f rfl rfl rfl hc_163 rfl rfl (fun a f => ?_)
      refine q_not (i := 15) (listed' := #[true, true, true, true, true, true, true, true, true, true, true, true, true, true, true, true, false]) 17 rfl (by kernel_rfl) rfl f rfl rfl rfl hc_163 rfl rfl (fun a f => ?_)
      refine q_op (i := 16) (listed' := #[true, true, true, true, true, true, true, true, true, true, true, true, true, true, true, true, true]) 17 rfl (by kernel_rfl) rfl f rfl rfl rfl (fun _ _ _ _ _ => r_pickT (f.eval rfl) hc_163 (f.eval rfl)) (fun a f => ?_)
      obtain rfl := Option.some.inj hj_179
      exact K_177 _ (f.weak ⟨rfl, rfl, rfl, rfl, rfl, rfl, rfl, rfl, rfl, rfl, rfl, rfl, rfl, trivial⟩)
     ·refine q_op (i := 8) (listed' := #[true, true, true, true, true, true, true, true, true, false, false, false, false, false, false, false, false]) 17 rfl (by kernel_rfl) rfl f (wanted_of f rfl rfl rfl hc_163) rfl rfl (fun _ _ _ _ _ => r_move (f.eval rfl)) (fun a f => ?_)
      refine q_op (i := 9) (listed' := #[true, true, true, true, true, true, true, true, true, true, false, false, false, false, false, false, false]) 17 rfl (by kernel_rfl) rfl f (wanted_of f rfl rfl rfl hc_163) rfl rfl (fun _ _ _ _ _ => r_move (f.eval rfl)) (fun a f => ?_)
      obtain ⟨l_180, hx_181, hj_179⟩ := bind_some hj_179
      refine q_slice (i := 10) (listed' := #[true, true, true, true, true, true, true, true, true, true, true, false, false, false, false, false, false]) 17 T31 h1 hx_181 rfl (by kernel_rfl) rfl f (wanted_of f rfl rfl rfl hc_163) rfl rfl (.inl ⟨rfl, rfl⟩) (.inr ⟨_, _, rfl, rfl⟩) (fun v_182 a h_183 f => ?_)
      refine q_op (i := 11) (listed' := #[true, true, true, true, true, true, true, true, true, true, true, true, false, false, false, false, false]) 17 rfl (by kernel_rfl) rfl f (wanted_of f rfl rfl rfl hc_163) rfl rfl (fun _ _ _ _ _ => r_move (f.eval rfl)) (fun a f => ?_)
      refine q_op (i := 12) (listed' := #[true, true, true, true, true, true, true, true, true, true, true, true, true, false, false, false, false]) 17 rfl (by kernel_rfl) rfl f (wanted_of f rfl rfl rfl hc_163) rfl rfl (fun _ _ _ _ _ => r_move (f.eval rfl)) (fun a f => ?_)
      obtain ⟨e_184, he_185, hj_179⟩ := bind_some hj_179
      refine q_at (i := 13) (listed' := #[true, true, true, true, true, true, true, true, true, true, true, true, true, true, false, false, false]) 17 T31 h1 he_185 rfl (by kernel_rfl) rfl f (wanted_of f rfl rfl rfl hc_163) rfl rfl rfl (fun p_186 c_187 a g_188 h_189 f => ?_)
      subst h_189
      refine q_loadAt (i := 14) (listed' := #[true, true, true, true, true, true, true, true, true, true, true, true, true, true, true, false, false]) 17 Pl2 g_188 rfl (by kernel_rfl) rfl f (wanted_of f rfl rfl rfl hc_163) rfl rfl (fun a f => ?_)
      obtain ⟨y_190, hy_191, hj_179⟩ := bind_some hj_179
      refine q_call (i := 15) (listed' := #[true, true, true, true, true, true, true, true, true, true, true, true, true, true, true, true, false]) 17 rfl (by kernel_rfl) rfl f (wanted_of f rfl rfl rfl hc_163) rfl rfl Tryd.call68 (fun _ _ w hG_192 m => Wk.spec_l1Has m (RSl.mono (RI.mono _) _ _ _ _ hG_192 h_183) hy_191) (fun a f => ?_)
      refine q_op (i := 16) (listed' := #[true, true, true, true, true, true, true, true, true, true, true, true, true, true, true, true, true]) 17 rfl (by kernel_rfl) rfl f rfl rfl rfl (fun _ _ _ _ _ => r_pickF (f.eval rfl) hc_163 (f.eval rfl)) (fun a f => ?_)
      obtain rfl := Option.some.inj hj_179
      exact K_177 _ (f.weak ⟨rfl, rfl, rfl, rfl, rfl, rfl, rfl, rfl, rfl, rfl, rfl, rfl, rfl, trivial⟩)
   ·refine k_false f rfl hc_153 ?_
    refine k_exit rfl ?_
    have m : Mem W G_105 w H := Mem.drop (H' := [Itm.box b_2 29 [v0_0]]) m
    obtain rfl := Option.some.inj hs_101
    obtain rfl := hq_102 _ rfl
    exact ⟨_, rfl, _, hl_107, f.weak trivial, m⟩
  ·rintro a w ⟨_, rfl, G_151, hl_152, f, m⟩
   refine k_seq ?_
   refine k_region ?_
   refine l_op f rfl rfl rfl (r_assign (f.eval rfl)) (fun a f => ?_)
   refine l_nil ?_
   refine k_ret ?_
   obtain rfl := Option.some.inj hd
   exact ⟨[(.bool true)], ⟨f.get _ _ rfl, trivial⟩, f.defers, _, [], (GLe.trans hl_6 hl_152), m, rfl, rfl⟩

theorem Wk.spec_OrderOk {W w : World} {G : GH} {H : List Itm} {v0_0 : Value} {v1 : Value} {x0_0 : (List (List Int))} {x1 : (List Int)} (m : Mem W G w (H)) (h0_0 : RSl (RSl (RI .i64)) G v0_0 x0_0) (h1 : RSl (RI .i64) G v1 x1) {y : Bool} (hd : D.spec_OrderOk x0_0 x1 = some y) :
  Calls Tryd.prog 16 #[(.agg #[v0_0]), v1] w (Res W G H (fun _ Ho v => Ho = [] ∧ v = (.bool y))) := by
 refine calls_b (args := [(.agg #[v0_0]), v1]) (N := 12) [.tmp 4] Tryd.func16 rfl rfl (Nat.le_of_ble_eq_true rfl) rfl (fun a f => ?_)
 unfold D.spec_OrderOk at hd
 refine k_seq ?_
 refine k_region ?_
 refine l_box (cs := [v0_0]) m f rfl rfl rfl (fun b_2 w a m f => ?_)
 refine l_op f rfl rfl rfl (r_assign (f.eval rfl)) (fun a f => ?_)
 refine l_nil ?_
 refine k_seq ?_
 refine k_region ?_
 refine l_boxAgg 0 0 (ds := [v0_0]) m Ag29 f rfl rfl rfl rfl rfl (fun a f => ?_)
 obtain ⟨y_3, hy_4, hd⟩ := bind_some hd
 refine l_res f rfl rfl Tryd.call51 (Wk.spec_GraphOk m h0_0 hy_4) (fun v_8 G_5 Ho_9 w hl_6 m hQ_7 a f => ?_)
 obtain ⟨rfl, rfl⟩ := hQ_7
 have h0_0 := RSl.mono (RSl.mono (RI.mono _)) _ _ _ _ hl_6 h0_0
 have h1 := RSl.mono (RI.mono _) _ _ _ _ hl_6 h1
 have m : Mem W G_5 w (Itm.box b_2 29 [v0_0] :: H) := m
 refine l_op f rfl rfl rfl (r_move (f.eval rfl)) (fun a f => ?_)
 obtain ⟨b_27, hj_28, hd⟩ := bind_some hd
 refine l_cut 4 (fun a w => ∃ G_25, GLe G_5 G_25 ∧ Mem W G_25 w (Itm.box b_2 29 [v0_0] :: H) ∧ Fr a 12 [(0, (.agg #[v0_0])), (1, v1), (2, (.pointer (some ⟨b_2, 0, none⟩))), (5, (.agg #[v0_0])), (6, (.bool y_3)), (7, (.bool y_3)), (11, (.bool b_27))]) ?_ ?_
 ·rcases cond_some hj_28 with ⟨hc_10, hj_28⟩ | ⟨hc_10, hj_28⟩
  ·refine l_run f rfl rfl hc_10 ?_
   refine l_boxAgg 0 0 (ds := [v0_0]) m Ag29 f rfl rfl rfl rfl rfl (fun a f => ?_)
   refine l_run f rfl rfl hc_10 ?_
   refine l_op f rfl rfl rfl (r_move (f.eval rfl)) (fun a f => ?_)
   refine l_run f rfl rfl hc_10 ?_
   obtain ⟨y_29, hy_30, hj_28⟩ := bind_some hj_28
   refine l_res f rfl rfl Tryd.call64 (Wk.spec_l1Order m h0_0 h1 hy_30) (fun v_34 G_31 Ho_35 w hl_32 m hQ_33 a f => ?_)
   obtain ⟨rfl, rfl⟩ := hQ_33
   have h0_0 := RSl.mono (RSl.mono (RI.mono _)) _ _ _ _ hl_32 h0_0
   have h1 := RSl.mono (RI.mono _) _ _ _ _ hl_32 h1
   have m : Mem W G_31 w (Itm.box b_2 29 [v0_0] :: H) := m
   refine l_op f rfl rfl rfl (r_pickT (f.eval rfl) hc_10 (f.eval rfl)) (fun a f => ?_)
   obtain rfl := Option.some.inj hj_28
   exact ⟨_, hl_32, m, f.weak ⟨rfl, rfl, rfl, rfl, rfl, rfl, rfl, trivial⟩⟩
  ·refine l_not' f rfl rfl rfl hc_10 (fun a f => ?_)
   refine l_not' f rfl rfl rfl hc_10 (fun a f => ?_)
   refine l_not' f rfl rfl rfl hc_10 (fun a f => ?_)
   refine l_op f rfl rfl rfl (r_pickF (f.eval rfl) hc_10 (f.eval rfl)) (fun a f => ?_)
   obtain rfl := Option.some.inj hj_28
   exact ⟨_, (GLe.refl _), m, f.weak ⟨rfl, rfl, rfl, rfl, rfl, rfl, rfl, trivial⟩⟩
 ·rintro a w ⟨G_25, hl_26, m, f⟩
  have h0_0 := RSl.mono (RSl.mono (RI.mono _)) _ _ _ _ hl_26 h0_0
  have h1 := RSl.mono (RI.mono _) _ _ _ _ hl_26 h1
  refine l_op f rfl rfl rfl (r_assign (f.eval rfl)) (fun a f => ?_)
  refine l_nil ?_
  refine k_ret ?_
  have m : Mem W G_25 w H := Mem.drop (H' := [Itm.box b_2 29 [v0_0]]) m
  obtain rfl := Option.some.inj hd
  exact ⟨[(.bool b_27)], ⟨f.get _ _ rfl, trivial⟩, f.defers, _, [], (GLe.trans hl_6 hl_26), m, rfl, rfl⟩

theorem Wk.spec_l1Into {W w : World} {G : GH} {H : List Itm} {v0 : Value} {x0 : (List Int)} {x1 : Int} (m : Mem W G w (H)) (h0 : RSl (RI .i64) G v0 x0) {y : ((List Int))} (hd : D.spec_l1Into x0 x1 = some y) :
  Calls Tryd.prog 70 #[v0, (.int .i64 x1)] w (Res W G H (fun G' Ho v => ∃ r0 : Value, Ho = [] ∧ r0 = v ∧ RSl (RI .i64) G' r0 y)) := by
 refine calls_b (args := [v0, (.int .i64 x1)]) (N := 46) [.tmp 4] Tryd.func70 rfl rfl (Nat.le_of_ble_eq_true rfl) rfl (fun a f => ?_)
 unfold D.spec_l1Into at hd
 refine k_seq ?_
 refine k_region ?_
 refine l_op f rfl rfl rfl (r_assign (f.eval rfl)) (fun a f => ?_)
 refine l_nil ?_
 refine k_seq ?_
 refine k_region ?_
 refine l_op f rfl rfl rfl (r_assign (f.eval rfl)) (fun a f => ?_)
 refine l_nil ?_
 refine k_seq ?_
 obtain ⟨q_51, hl_52, hd⟩ := bind_some hd
 refine k_cut (fun a w => ∃ x_85 : Int, x_85 = q_51 ∧ ∃ (G_84 : GH), GLe G G_84 ∧ Fr a 46 [(0, v0), (1, (.int .i64 x1)), (5, (.int .i64 x_85))] ∧ Mem W G_84 w (H)) ?_ ?_
 ·refine k_block ?_
  refine k_loop (fun s_55 a w => ∃ x_58 : Int, x_58 = s_55 ∧ ∃ (G_57 : GH), GLe G G_57 ∧ Fr a 46 [(0, v0), (1, (.int .i64 x1)), (5, (.int .i64 x_58))] ∧ Mem W G_57 w (H)) hl_52 ⟨_, rfl, _, (GLe.refl _), f.weak ⟨rfl, rfl, rfl, trivial⟩, m⟩ ?_
  clear hl_52 f m
  rintro s_55 o_56 hs_53 hq_54 a w ⟨x_58, rfl, G_57, hl_59, f, m⟩
  have h0 := RSl.mono (RI.mono _) _ _ _ _ hl_59 h0
  refine k_seq ?_
  refine k_seq ?_
  refine k_region ?_
  refine l_op f rfl rfl rfl (r_move (f.eval rfl)) (fun a f => ?_)
  refine l_op f rfl rfl rfl (r_move (f.eval rfl)) (fun a f => ?_)
  refine l_len Tryd.underlying31 f rfl rfl h0 (fun a f => ?_)
  refine l_op f rfl rfl rfl (r_int (f.eval rfl) (f.eval rfl) b_lss) (fun a f => ?_)
  refine l_op f rfl rfl rfl (r_move (f.eval rfl)) (fun a f => ?_)
  obtain ⟨b_102, hj_103, hs_53⟩ := bind_some hs_53
  refine l_cut 7 (fun a w => ∃ G_100, GLe G_57 G_100 ∧ Mem W G_100 w (H) ∧ Fr a 46 [(0, v0), (1, (.int .i64 x1)), (5, (.int .i64 x_58)), (7, (.int .i64 x_58)), (8, v0), (9, (.int .i64 (x0.length : Int))), (10, (.bool (decide (x_58 < (x0.length : Int))))), (11, (.bool (decide (x_58 < (x0.length : Int))))), (18, (.bool b_102))]) ?_ ?_
  ·rcases cond_some hj_103 with ⟨hc_87, hj_103⟩ | ⟨hc_87, hj_103⟩
   ·refine l_run f rfl rfl hc_87 ?_
    refine l_op f rfl rfl rfl (r_move (f.eval rfl)) (fun a f => ?_)
    refine l_run f rfl rfl hc_87 ?_
    refine l_op f rfl rfl rfl (r_move (f.eval rfl)) (fun a f => ?_)
    refine l_run f rfl rfl hc_87 ?_
    obtain ⟨e_104, he_105, hj_103⟩ := bind_some hj_103
    refine l_at T31 f rfl rfl rfl h0 he_105 (fun p_106 c_107 a g_108 h_109 f => ?_)
    subst h_109
    refine l_run f rfl rfl hc_87 ?_
    refine l_loadAt m Pl2 f rfl rfl g_108 (fun a f => ?_)
    refine l_run f rfl rfl hc_87 ?_
    refine l_op f rfl rfl rfl (r_move (f.eval rfl)) (fun a f => ?_)
    refine l_run f rfl rfl hc_87 ?_
    refine l_op f rfl rfl rfl (r_int (f.eval rfl) (f.eval rfl) b_lss) (fun a f => ?_)
    refine l_op f rfl rfl rfl (r_pickT (f.eval rfl) hc_87 (f.eval rfl)) (fun a f => ?_)
    obtain rfl := Option.some.inj hj_103
    exact ⟨_, (GLe.refl _), m, f.weak ⟨rfl, rfl, rfl, rfl, rfl, rfl, rfl, rfl, rfl, trivial⟩⟩
   ·refine l_not' f rfl rfl rfl hc_87 (fun a f => ?_)
    refine l_not' f rfl rfl rfl hc_87 (fun a f => ?_)
    refine l_not' f rfl rfl rfl hc_87 (fun a f => ?_)
    refine l_not' f rfl rfl rfl hc_87 (fun a f => ?_)
    refine l_not' f rfl rfl rfl hc_87 (fun a f => ?_)
    refine l_not' f rfl rfl rfl hc_87 (fun a f => ?_)
    refine l_op f rfl rfl rfl (r_pickF (f.eval rfl) hc_87 (f.eval rfl)) (fun a f => ?_)
    obtain rfl := Option.some.inj hj_103
    exact ⟨_, (GLe.refl _), m, f.weak ⟨rfl, rfl, rfl, rfl, rfl, rfl, rfl, rfl, rfl, trivial⟩⟩
  ·rintro a w ⟨G_100, hl_101, m, f⟩
   have h0 := RSl.mono (RI.mono _) _ _ _ _ hl_101 h0
   refine l_nil ?_
   rcases cond_some hs_53 with ⟨hc_110, hs_53⟩ | ⟨hc_110, hs_53⟩
   ·refine k_true f rfl hc_110 ?_
    refine k_skip ?_
    refine k_block ?_
    refine k_region ?_
    refine l_op f rfl rfl rfl (r_move (f.eval rfl)) (fun a f => ?_)
    refine l_op f rfl rfl rfl (r_int (f.eval rfl) (f.eval rfl) b_add) (fun a f => ?_)
    refine l_op f rfl rfl rfl (r_assign (f.eval rfl)) (fun a f => ?_)
    refine l_nil ?_
    obtain rfl := Option.some.inj hs_53
    exact ⟨_, rfl, _, rfl, _, (GLe.trans hl_59 hl_101), f.weak ⟨rfl, rfl, rfl, trivial⟩, m⟩
   ·refine k_false f rfl hc_110 ?_
    refine k_exit rfl ?_
    obtain rfl := Option.some.inj hs_53
    obtain rfl := hq_54 _ rfl
    exact ⟨_, rfl, _, (GLe.trans hl_59 hl_101), f.weak ⟨rfl, rfl, rfl, trivial⟩, m⟩
 ·rintro a w ⟨x_85, rfl, G_84, hl_86, f, m⟩
  have h0 := RSl.mono (RI.mono _) _ _ _ _ hl_86 h0
  refine k_seq ?_
  refine k_seq ?_
  refine k_region ?_
  refine l_op f rfl rfl rfl (r_move (f.eval rfl)) (fun a f => ?_)
  refine l_op f rfl rfl rfl (r_move (f.eval rfl)) (fun a f => ?_)
  refine l_len Tryd.underlying31 f rfl rfl h0 (fun a f => ?_)
  refine l_op f rfl rfl rfl (r_int (f.eval rfl) (f.eval rfl) b_lss) (fun a f => ?_)
  refine l_op f rfl rfl rfl (r_move (f.eval rfl)) (fun a f => ?_)
  obtain ⟨b_126, hj_127, hd⟩ := bind_some hd
  refine l_cut 7 (fun a w => ∃ G_124, GLe G_84 G_124 ∧ Mem W G_124 w (H) ∧ Fr a 46 [(0, v0), (1, (.int .i64 x1)), (5, (.int .i64 x_85)), (21, (.int .i64 x_85)), (22, v0), (23, (.int .i64 (x0.length : Int))), (24, (.bool (decide (x_85 < (x0.length : Int))))), (25, (.bool (decide (x_85 < (x0.length : Int))))), (32, (.bool b_126))]) ?_ ?_
  ·rcases cond_some hj_127 with ⟨hc_111, hj_127⟩ | ⟨hc_111, hj_127⟩
   ·refine l_run f rfl rfl hc_111 ?_
    refine l_op f rfl rfl rfl (r_move (f.eval rfl)) (fun a f => ?_)
    refine l_run f rfl rfl hc_111 ?_
    refine l_op f rfl rfl rfl (r_move (f.eval rfl)) (fun a f => ?_)
    refine l_run f rfl rfl hc_111 ?_
    obtain ⟨e_128, he_129, hj_127⟩ := bind_some hj_127
    refine l_at T31 f rfl rfl rfl h0 he_129 (fun p_130 c_131 a g_132 h_133 f => ?_)
    subst h_133
    refine l_run f rfl rfl hc_111 ?_
    refine l_loadAt m Pl2 f rfl rfl g_132 (fun a f => ?_)
    refine l_run f rfl rfl hc_111 ?_
    refine l_op f rfl rfl rfl (r_move (f.eval rfl)) (fun a f => ?_)
    refine l_run f rfl rfl hc_111 ?_
    refine l_op f rfl rfl rfl (r_int (f.eval rfl) (f.eval rfl) b_eql) (fun a f => ?_)
    refine l_op f rfl rfl rfl (r_pickT (f.eval rfl) hc_111 (f.eval rfl)) (fun a f => ?_)
    obtain rfl := Option.some.inj hj_127
    exact ⟨_, (GLe.refl _), m, f.weak ⟨rfl, rfl, rfl, rfl, rfl, rfl, rfl, rfl, rfl, trivial⟩⟩
   ·refine l_not' f rfl rfl rfl hc_111 (fun a f => ?_)
    refine l_not' f rfl rfl rfl hc_111 (fun a f => ?_)
    refine l_not' f rfl rfl rfl hc_111 (fun a f => ?_)
    refine l_not' f rfl rfl rfl hc_111 (fun a f => ?_)
    refine l_not' f rfl rfl rfl hc_111 (fun a f => ?_)
    refine l_not' f rfl rfl rfl hc_111 (fun a f => ?_)
    refine l_op f rfl rfl rfl (r_pickF (f.eval rfl) hc_111 (f.eval rfl)) (fun a f => ?_)
    obtain rfl := Option.some.inj hj_127
    exact ⟨_, (GLe.refl _), m, f.weak ⟨rfl, rfl, rfl, rfl, rfl, rfl, rfl, rfl, rfl, trivial⟩⟩
  ·rintro a w ⟨G_124, hl_125, m, f⟩
   have h0 := RSl.mono (RI.mono _) _ _ _ _ hl_125 h0
   refine l_nil ?_
   rcases cond_some hd with ⟨hc_134, hd⟩ | ⟨hc_134, hd⟩
   ·refine k_true f rfl hc_134 ?_
    refine k_seq ?_
    refine k_region ?_
    refine l_op f rfl rfl rfl (r_move (f.eval rfl)) (fun a f => ?_)
    refine l_op f rfl rfl rfl (r_assign (f.eval rfl)) (fun a f => ?_)
    refine l_nil ?_
    refine k_ret ?_
    obtain rfl := Option.some.inj hd
    exact ⟨[v0], ⟨f.get _ _ rfl, trivial⟩, f.defers, _, [], (GLe.trans hl_86 hl_125), m, _, rfl, rfl, h0⟩
   ·refine k_false f rfl hc_134 ?_
    refine k_skip ?_
    refine k_seq ?_
    refine k_region ?_
    refine l_op f rfl rfl rfl (r_move (f.eval rfl)) (fun a f => ?_)
    refine l_op f rfl rfl rfl (r_move (f.eval rfl)) (fun a f => ?_)
    obtain ⟨l_135, hx_136, hd⟩ := bind_some hd
    refine l_slice T31 f rfl rfl h0 (.inl ⟨rfl, rfl⟩) (.inr ⟨_, _, rfl, rfl⟩) hx_136 (fun v_137 a h_138 f => ?_)
    obtain ⟨y_139, hy_140, hd⟩ := bind_some hd
    refine l_res f rfl rfl Tryd.call106 (Wk.spec_l1Copy m h_138 hy_140) (fun v_144 G_141 Ho_145 w hl_142 m hQ_143 a f => ?_)
    obtain ⟨v_146, it_147, rfl, rfl, o_148⟩ := hQ_143
    have h0 := RSl.mono (RI.mono _) _ _ _ _ hl_142 h0
    have h_138 := RSl.mono (RI.mono _) _ _ _ _ hl_142 h_138
    have m : Mem W G_141 w (it_147 :: H) := m
    refine l_op f rfl rfl rfl (r_move (f.eval rfl)) (fun a f => ?_)
    refine l_slit (R := (RI .i64)) (xs := ([x1] : List Int)) (RI.one _) m T31 f rfl rfl rfl (by decide) (All2.cons rfl (All2.nil _)) (fun it_150 v_151 w a m o_152 f => ?_)
    obtain ⟨l_154, hx_155, hd⟩ := bind_some hd
    refine l_append (RI.one _) 1 m o_148 rfl T31 rfl (by decide) f rfl rfl rfl (Ow.src (j := 0) o_152 m rfl) hx_155 (fun it_156 v_157 w a m o_158 f => ?_)
    have m : Mem W G_141 w (it_150 :: it_156 :: H) := m
    refine l_op f rfl rfl rfl (r_assign (f.eval rfl)) (fun a f => ?_)
    refine l_nil ?_
    refine k_seq ?_
    refine k_region ?_
    refine l_op f rfl rfl rfl (r_move (f.eval rfl)) (fun a f => ?_)
    refine l_op f rfl rfl rfl (r_move (f.eval rfl)) (fun a f => ?_)
    refine l_op f rfl rfl rfl (r_move (f.eval rfl)) (fun a f => ?_)
    obtain ⟨l_160, hx_161, hd⟩ := bind_some hd
    refine l_slice T31 f rfl rfl h0 (.inr ⟨_, _, rfl, rfl⟩) (.inl ⟨rfl, rfl⟩) hx_161 (fun v_162 a h_163 f => ?_)
    obtain ⟨l_164, hx_165, hd⟩ := bind_some hd
    refine l_append (RI.one _) 1 m o_158 rfl T31 rfl (by decide) f rfl rfl rfl (h_163.src m) hx_165 (fun it_166 v_167 w a m o_168 f => ?_)
    have m : Mem W G_141 w (it_150 :: it_166 :: H) := m
    refine l_op f rfl rfl rfl (r_assign (f.eval rfl)) (fun a f => ?_)
    refine l_nil ?_
    refine k_ret ?_
    have m : Mem W G_141 w (it_166 :: it_150 :: H) := m.front 1 rfl
    obtain ⟨G_170, hl_171, m, h_172⟩ := Ow.stamp (RI.mono _) o_168 m
    have h0 := RSl.mono (RI.mono _) _ _ _ _ hl_171 h0
    have o_152 := Ow.mono (RI.mono _) hl_171 o_152
    have m : Mem W G_170 w (it_150 :: H) := m
    have m : Mem W G_170 w H := Mem.drop (H' := [it_150]) m
    obtain rfl := Option.some.inj hd
    exact ⟨[v_167], ⟨f.get _ _ rfl, trivial⟩, f.defers, _, [], (GLe.trans hl_86 (GLe.trans hl_125 (GLe.trans hl_142 hl_171))), m, _, rfl, rfl, h_172⟩

theorem Wk.impl_inRange {W w : World} {G : GH} {H : List Itm} {x0 : Int} {x1 : Int} {x2 : Int} (m : Mem W G w (H))  {y : Bool} (hd : D.impl_inRange x0 x1 x2 = some y) :
  Calls Tryd.prog 75 #[(.int .i64 x0), (.int .i64 x1), (.int .i64 x2)] w (Res W G H (fun _ Ho v => Ho = [] ∧ v = (.bool y))) := by
 refine calls_b (args := [(.int .i64 x0), (.int .i64 x1), (.int .i64 x2)]) (N := 15) [.tmp 6] Tryd.func75 rfl rfl (Nat.le_of_ble_eq_true rfl) rfl (fun a f => ?_)
 unfold D.impl_inRange at hd
 refine k_seq ?_
 refine k_region ?_
 refine l_op f rfl rfl rfl (r_assign (f.eval rfl)) (fun a f => ?_)
 refine l_nil ?_
 refine k_seq ?_
 refine k_region ?_
 refine l_op f rfl rfl rfl (r_move (f.eval rfl)) (fun a f => ?_)
 refine l_op f rfl rfl rfl (r_move (f.eval rfl)) (fun a f => ?_)
 refine l_op f rfl rfl rfl (r_int (f.eval rfl) (f.eval rfl) b_leq) (fun a f => ?_)
 refine l_op f rfl rfl rfl (r_move (f.eval rfl)) (fun a f => ?_)
 refine l_cut 4 (fun a w => ∃ G_2, GLe G G_2 ∧ Mem W G_2 w (H) ∧ Fr a 15 [(0, (.int .i64 x0)), (1, (.int .i64 x1)), (2, (.int .i64 x2)), (7, (.int .i64 x1)), (8, (.int .i64 x0)), (9, (.bool (decide (x1 ≤ x0)))), (10, (.bool (decide (x1 ≤ x0)))), (14, (.bool ((decide (x1 ≤ x0)) && (decide (x0 ≤ x2)))))]) ?_ ?_
 ·rcases Bool.eq_false_or_eq_true (decide (x1 ≤ x0)) with hc_1 | hc_1
  ·refine l_run f rfl rfl hc_1 ?_
   refine l_op f rfl rfl rfl (r_move (f.eval rfl)) (fun a f => ?_)
   refine l_run f rfl rfl hc_1 ?_
   refine l_op f rfl rfl rfl (r_move (f.eval rfl)) (fun a f => ?_)
   refine l_run f rfl rfl hc_1 ?_
   refine l_op f rfl rfl rfl (r_int (f.eval rfl) (f.eval rfl) b_leq) (fun a f => ?_)
   refine l_op f rfl rfl rfl (r_pickT (f.eval rfl) hc_1 (f.eval rfl)) (fun a f => ?_)
   exact ⟨_, (GLe.refl _), m, f.weak ⟨rfl, rfl, rfl, rfl, rfl, rfl, rfl, by rw [hc_1]; rfl, trivial⟩⟩
  ·refine l_not' f rfl rfl rfl hc_1 (fun a f => ?_)
   refine l_not' f rfl rfl rfl hc_1 (fun a f => ?_)
   refine l_not' f rfl rfl rfl hc_1 (fun a f => ?_)
   refine l_op f rfl rfl rfl (r_pickF (f.eval rfl) hc_1 (f.eval rfl)) (fun a f => ?_)
   exact ⟨_, (GLe.refl _), m, f.weak ⟨rfl, rfl, rfl, rfl, rfl, rfl, rfl, by rw [hc_1]; rfl, trivial⟩⟩
 ·rintro a w ⟨G_2, hl_3, m, f⟩
  refine l_op f rfl rfl rfl (r_assign (f.eval rfl)) (fun a f => ?_)
  refine l_nil ?_
  refine k_ret ?_
  obtain rfl := Option.some.inj hd
  exact ⟨[(.bool ((decide (x1 ≤ x0)) && (decide (x0 ≤ x2))))], ⟨f.get _ _ rfl, trivial⟩, f.defers, _, [], hl_3, m, rfl, rfl⟩

theorem Wk.impl_increasing {W w : World} {G : GH} {H : List Itm} {v0 : Value} {x0 : (List Int)} {x1 : Int} (m : Mem W G w (H)) (h0 : RSl (RI .i64) G v0 x0) {y : Bool} (hd : D.impl_increasing x0 x1 = some y) :
  Calls Tryd.prog 56 #[v0, (.int .i64 x1)] w (Res W G H (fun _ Ho v => Ho = [] ∧ v = (.bool y))) := by
 refine calls_b (args := [v0, (.int .i64 x1)]) (N := 33) [.tmp 4] Tryd.func56 rfl rfl (Nat.le_of_ble_eq_true rfl) rfl (fun a f => ?_)
 unfold D.impl_increasing at hd
 refine k_seq ?_
 refine k_region ?_
 refine l_op f rfl rfl rfl (r_assign (f.eval rfl)) (fun a f => ?_)
 refine l_nil ?_
 refine k_seq ?_
 refine k_seq ?_
 refine k_region ?_
 refine l_op f rfl rfl rfl (r_move (f.eval rfl)) (fun a f => ?_)
 refine l_len Tryd.underlying31 f rfl rfl h0 (fun a f => ?_)
 refine l_op f rfl rfl rfl (r_move (f.eval rfl)) (fun a f => ?_)
 refine l_nil ?_
 obtain ⟨q_181, hl_182, hd⟩ := bind_some hd
 refine k_cut (fun a w => ∃ q_181' : Unit, q_181 = .inl q_181' ∧ ∃ (G_279 : GH), GLe G G_279 ∧ Fr a 33 [] ∧ Mem W G_279 w (H)) ?_ ?_
 ·refine k_block ?_
  refine k_loop (fun s_185 a w => ∃ x_188 : Int, x_188 = s_185 ∧ ∃ (G_187 : GH), GLe G G_187 ∧ Fr a 33 [(0, v0), (1, (.int .i64 x1)), (7, v0), (8, (.int .i64 (x0.length : Int))), (9, (.int .i64 x_188))] ∧ Mem W G_187 w (H)) hl_182 ⟨_, rfl, _, (GLe.refl _), f.weak ⟨rfl, rfl, rfl, rfl, rfl, trivial⟩, m⟩ ?_
  clear hl_182 f m
  rintro s_185 o_186 hs_183 hq_184 a w ⟨x_188, rfl, G_187, hl_189, f, m⟩
  have h0 := RSl.mono (RI.mono _) _ _ _ _ hl_189 h0
  refine k_seq ?_
  refine k_region ?_
  refine l_op f rfl rfl rfl (r_int (f.eval rfl) (f.eval rfl) b_lss) (fun a f => ?_)
  refine l_nil ?_
  refine k_seq ?_
  rcases cond_some hs_183 with ⟨hc_281, hs_183⟩ | ⟨hc_281, hs_183⟩
  ·refine k_true f rfl hc_281 ?_
   refine k_skip ?_
   refine k_seq ?_
   refine k_block ?_
   refine k_seq ?_
   refine k_region ?_
   refine l_op f rfl rfl rfl (r_move (f.eval rfl)) (fun a f => ?_)
   obtain ⟨e_282, he_283, hs_183⟩ := bind_some hs_183
   refine l_at T31 f rfl rfl rfl h0 he_283 (fun p_284 c_285 a g_286 h_287 f => ?_)
   subst h_287
   refine l_loadAt m Pl2 f rfl rfl g_286 (fun a f => ?_)
   refine l_op f rfl rfl rfl (r_assign (f.eval rfl)) (fun a f => ?_)
   refine l_op f rfl rfl rfl (r_assign (f.eval rfl)) (fun a f => ?_)
   refine l_nil ?_
   refine k_seq ?_
   refine k_region ?_
   refine l_op f rfl rfl rfl (r_move (f.eval rfl)) (fun a f => ?_)
   refine l_op f rfl rfl rfl (r_move (f.eval rfl)) (fun a f => ?_)
   refine l_op f rfl rfl rfl (r_int (f.eval rfl) (f.eval rfl) b_sub) (fun a f => ?_)
   obtain ⟨y_288, hy_289, hs_183⟩ := bind_some hs_183
   refine l_res f rfl rfl Tryd.call75 (Wk.impl_inRange m  hy_289) (fun v_293 G_290 Ho_294 w hl_291 m hQ_292 a f => ?_)
   obtain ⟨rfl, rfl⟩ := hQ_292
   have h0 := RSl.mono (RI.mono _) _ _ _ _ hl_291 h0
   have m : Mem W G_290 w (H) := m
   refine l_op f rfl rfl rfl (r_not (f.eval rfl)) (fun a f => ?_)
   refine l_op f rfl rfl rfl (r_move (f.eval rfl)) (fun a f => ?_)
   obtain ⟨b_344, hj_345, hs_183⟩ := bind_some hs_183
   refine l_cut 12 (fun a w => ∃ G_342, GLe G_290 G_342 ∧ Mem W G_342 w (H) ∧ Fr a 33 [(0, v0), (1, (.int .i64 x1)), (5, (.int .i64 x_188)), (6, (.int .i64 e_282)), (7, v0), (8, (.int .i64 (x0.length : Int))), (9, (.int .i64 x_188)), (14, (.int .i64 e_282)), (15, (.int .i64 x1)), (16, (.int .i64 (IntKind.i64.wrap (x1 - 1)))), (17, (.bool y_288)), (18, (.bool (!y_288))), (19, (.bool (!y_288))), (31, (.bool b_344))]) ?_ ?_
   ·rcases cond_some hj_345 with ⟨hc_295, hj_345⟩ | ⟨hc_295, hj_345⟩
    ·refine l_not' f rfl rfl rfl hc_295 (fun a f => ?_)
     refine l_not' f rfl rfl rfl hc_295 (fun a f => ?_)
     refine l_not' f rfl rfl rfl hc_295 (fun a f => ?_)
     refine l_notU f rfl rfl rfl (fun a f => ?_)
     refine l_notU f rfl rfl rfl (fun a f => ?_)
     refine l_notU f rfl rfl rfl (fun a f => ?_)
     refine l_notU f rfl rfl rfl (fun a f => ?_)
     refine l_notU f rfl rfl rfl (fun a f => ?_)
     refine l_notU f rfl rfl rfl (fun a f => ?_)
     refine l_notU f rfl rfl rfl (fun a f => ?_)
     refine l_not' f rfl rfl rfl hc_295 (fun a f => ?_)
     refine l_op f rfl rfl rfl (r_pickT (f.eval rfl) hc_295 (f.eval rfl)) (fun a f => ?_)
     obtain rfl := Option.some.inj hj_345
     exact ⟨_, (GLe.refl _), m, f.weak ⟨rfl, rfl, rfl, rfl, rfl, rfl, rfl, rfl, rfl, rfl, rfl, rfl, rfl, rfl, trivial⟩⟩
    ·refine l_run f rfl rfl hc_295 ?_
     refine l_op f rfl rfl rfl (r_move (f.eval rfl)) (fun a f => ?_)
     refine l_run f rfl rfl hc_295 ?_
     refine l_op f rfl rfl rfl (r_int (f.eval rfl) (f.eval rfl) b_gtr) (fun a f => ?_)
     refine l_run f rfl rfl hc_295 ?_
     refine l_op f rfl rfl rfl (r_move (f.eval rfl)) (fun a f => ?_)
     obtain ⟨b_361, hj_362, hj_345⟩ := bind_some hj_345
     refine l_cut 8 (fun a w => ∃ G_359, GLe G_290 G_359 ∧ Mem W G_359 w (H) ∧ Fr a 33 [(0, v0), (1, (.int .i64 x1)), (5, (.int .i64 x_188)), (6, (.int .i64 e_282)), (7, v0), (8, (.int .i64 (x0.length : Int))), (9, (.int .i64 x_188)), (14, (.int .i64 e_282)), (15, (.int .i64 x1)), (16, (.int .i64 (IntKind.i64.wrap (x1 - 1)))), (17, (.bool y_288)), (18, (.bool (!y_288))), (19, (.bool (!y_288))), (20, (.int .i64 x_188)), (21, (.bool (decide ((0 : Int) < x_188)))), (22, (.bool (decide ((0 : Int) < x_188)))), (30, (.bool b_361))]) ?_ ?_
     ·rcases cond_some hj_362 with ⟨hc_346, hj_362⟩ | ⟨hc_346, hj_362⟩
      ·refine l_run f rfl rfl hc_346 ?_
       refine l_op f rfl rfl rfl (r_move (f.eval rfl)) (fun a f => ?_)
       refine l_run f rfl rfl hc_346 ?_
       refine l_op f rfl rfl rfl (r_move (f.eval rfl)) (fun a f => ?_)
       refine l_run f rfl rfl hc_346 ?_
       refine l_op f rfl rfl rfl (r_int (f.eval rfl) (f.eval rfl) b_sub) (fun a f => ?_)
       refine l_run f rfl rfl hc_346 ?_
       obtain ⟨e_363, he_364, hj_362⟩ := bind_some hj_362
       refine l_at T31 f rfl rfl rfl h0 he_364 (fun p_365 c_366 a g_367 h_368 f => ?_)
       subst h_368
       refine l_run f rfl rfl hc_346 ?_
       refine l_loadAt m Pl2 f rfl rfl g_367 (fun a f => ?_)
       refine l_run f rfl rfl hc_346 ?_
       refine l_op f rfl rfl rfl (r_move (f.eval rfl)) (fun a f => ?_)
       refine l_run f rfl rfl hc_346 ?_
       refine l_op f rfl rfl rfl (r_int (f.eval rfl) (f.eval rfl) b_geq) (fun a f => ?_)
       refine l_run f rfl rfl hc_295 ?_
       refine l_op f rfl rfl rfl (r_pickT (f.eval rfl) hc_346 (f.eval rfl)) (fun a f => ?_)
       obtain rfl := Option.some.inj hj_362
       exact ⟨_, (GLe.refl _), m, f.weak ⟨rfl, rfl, rfl, rfl, rfl, rfl, rfl, rfl, rfl, rfl, rfl, rfl, rfl, rfl, rfl, rfl, rfl, trivial⟩⟩
      ·refine l_not' f rfl rfl rfl hc_346 (fun a f => ?_)
       refine l_not' f rfl rfl rfl hc_346 (fun a f => ?_)
       refine l_not' f rfl rfl rfl hc_346 (fun a f => ?_)
       refine l_not' f rfl rfl rfl hc_346 (fun a f => ?_)
       refine l_not' f rfl rfl rfl hc_346 (fun a f => ?_)
       refine l_not' f rfl rfl rfl hc_346 (fun a f => ?_)
       refine l_not' f rfl rfl rfl hc_346 (fun a f => ?_)
       refine l_run f rfl rfl hc_295 ?_
       refine l_op f rfl rfl rfl (r_pickF (f.eval rfl) hc_346 (f.eval rfl)) (fun a f => ?_)
       obtain rfl := Option.some.inj hj_362
       exact ⟨_, (GLe.refl _), m, f.weak ⟨rfl, rfl, rfl, rfl, rfl, rfl, rfl, rfl, rfl, rfl, rfl, rfl, rfl, rfl, rfl, rfl, rfl, trivial⟩⟩
     ·rintro a w ⟨G_359, hl_360, m, f⟩
      have h0 := RSl.mono (RI.mono _) _ _ _ _ hl_360 h0
      refine l_op f rfl rfl rfl (r_pickF (f.eval rfl) hc_295 (f.eval rfl)) (fun a f => ?_)
      obtain rfl := Option.some.inj hj_345
      exact ⟨_, hl_360, m, f.weak ⟨rfl, rfl, rfl, rfl, rfl, rfl, rfl, rfl, rfl, rfl, rfl, rfl, rfl, rfl, trivial⟩⟩
   ·rintro a w ⟨G_342, hl_343, m, f⟩
    have h0 := RSl.mono (RI.mono _) _ _ _ _ hl_343 h0
    refine l_nil ?_
    rcases cond_some hs_183 with ⟨hc_369, hs_183⟩ | ⟨hc_369, hs_183⟩
    ·refine k_true f rfl hc_369 ?_
     refine k_seq ?_
     refine k_region ?_
     refine l_op f rfl rfl rfl (r_assign (f.eval rfl)) (fun a f => ?_)
     refine l_nil ?_
     refine k_ret ?_
     obtain rfl := Option.some.inj hs_183
     obtain rfl := hq_184 _ rfl
     obtain rfl := Option.some.inj hd
     exact ⟨[(.bool false)], ⟨f.get _ _ rfl, trivial⟩, f.defers, _, [], (GLe.trans hl_189 (GLe.trans hl_291 hl_343)), m, rfl, rfl⟩
    ·refine k_false f rfl hc_369 ?_
     refine k_skip ?_
     refine k_region ?_
     refine l_op f rfl rfl rfl (r_int (f.eval rfl) (f.eval rfl) b_add) (fun a f => ?_)
     refine l_op f rfl rfl rfl (r_move (f.eval rfl)) (fun a f => ?_)
     refine l_nil ?_
     obtain rfl := Option.some.inj hs_183
     exact ⟨_, rfl, _, rfl, _, (GLe.trans hl_189 (GLe.trans hl_291 hl_343)), f.weak ⟨rfl, rfl, rfl, rfl, rfl, trivial⟩, m⟩
  ·refine k_false f rfl hc_281 ?_
   refine k_exit rfl ?_
   obtain rfl := Option.some.inj hs_183
   obtain rfl := hq_184 _ rfl
   exact ⟨_, rfl, _, hl_189, f.weak trivial, m⟩
 ·rintro a w ⟨_, rfl, G_279, hl_280, f, m⟩
  refine k_seq ?_
  refine k_region ?_
  refine l_op f rfl rfl rfl (r_assign (f.eval rfl)) (fun a f => ?_)
  refine l_nil ?_
  refine k_ret ?_
  obtain rfl := Option.some.inj hd
  exact ⟨[(.bool true)], ⟨f.get _ _ rfl, trivial⟩, f.defers, _, [], hl_280, m, rfl, rfl⟩

theorem Wk.slices_Index_int64_int64 {W w : World} {G : GH} {H : List Itm} {v0 : Value} {x0 : (List Int)} {x1 : Int} (m : Mem W G w (H)) (h0 : RSl (RI .i64) G v0 x0) {y : Int} (hd : D.slices_Index_int64_int64 x0 x1 = some y) :
  Calls Tryd.prog 124 #[v0, (.int .i64 x1)] w (Res W G H (fun _ Ho v => Ho = [] ∧ v = (.int .i64 y))) := by
 refine calls_b (args := [v0, (.int .i64 x1)]) (N := 19) [.tmp 4] Tryd.func124 rfl rfl (Nat.le_of_ble_eq_true rfl) rfl (fun a f => ?_)
 unfold D.slices_Index_int64_int64 at hd
 refine k_seq ?_
 refine k_region ?_
 refine l_op f rfl rfl rfl (r_assign (f.eval rfl)) (fun a f => ?_)
 refine l_nil ?_
 refine k_seq ?_
 refine k_seq ?_
 refine k_region ?_
 refine l_op f rfl rfl rfl (r_move (f.eval rfl)) (fun a f => ?_)
 refine l_len Tryd.underlying31 f rfl rfl h0 (fun a f => ?_)
 refine l_op f rfl rfl rfl (r_move (f.eval rfl)) (fun a f => ?_)
 refine l_nil ?_
 obtain ⟨q_19, hl_20, hd⟩ := bind_some hd
 refine k_cut (fun a w => ∃ q_19' : Unit, q_19 = .inl q_19' ∧ ∃ (G_36 : GH), GLe G G_36 ∧ Fr a 19 [] ∧ Mem W G_36 w (H)) ?_ ?_
 ·refine k_block ?_
  refine k_loop (fun s_23 a w => ∃ x_26 : Int, x_26 = s_23 ∧ ∃ (G_25 : GH), GLe G G_25 ∧ Fr a 19 [(0, v0), (1, (.int .i64 x1)), (7, (.int .i64 (x0.length : Int))), (8, (.int .i64 x_26))] ∧ Mem W G_25 w (H)) hl_20 ⟨_, rfl, _, (GLe.refl _), f.weak ⟨rfl, rfl, rfl, rfl, trivial⟩, m⟩ ?_
  clear hl_20 f m
  rintro s_23 o_24 hs_21 hq_22 a w ⟨x_26, rfl, G_25, hl_27, f, m⟩
  have h0 := RSl.mono (RI.mono _) _ _ _ _ hl_27 h0
  refine k_seq ?_
  refine k_region ?_
  refine l_op f rfl rfl rfl (r_int (f.eval rfl) (f.eval rfl) b_lss) (fun a f => ?_)
  refine l_nil ?_
  refine k_seq ?_
  rcases cond_some hs_21 with ⟨hc_38, hs_21⟩ | ⟨hc_38, hs_21⟩
  ·refine k_true f rfl hc_38 ?_
   refine k_skip ?_
   refine k_seq ?_
   refine k_block ?_
   refine k_seq ?_
   refine k_region ?_
   refine l_op f rfl rfl rfl (r_move (f.eval rfl)) (fun a f => ?_)
   refine l_op f rfl rfl rfl (r_assign (f.eval rfl)) (fun a f => ?_)
   refine l_nil ?_
   refine k_seq ?_
   refine k_region ?_
   refine l_op f rfl rfl rfl (r_move (f.eval rfl)) (fun a f => ?_)
   refine l_op f rfl rfl rfl (r_move (f.eval rfl)) (fun a f => ?_)
   refine l_op f rfl rfl rfl (r_move (f.eval rfl)) (fun a f => ?_)
   obtain ⟨e_39, he_40, hs_21⟩ := bind_some hs_21
   refine l_at T31 f rfl rfl rfl h0 he_40 (fun p_41 c_42 a g_43 h_44 f => ?_)
   subst h_44
   refine l_loadAt m Pl2 f rfl rfl g_43 (fun a f => ?_)
   refine l_op f rfl rfl rfl (r_int (f.eval rfl) (f.eval rfl) b_eql) (fun a f => ?_)
   refine l_nil ?_
   rcases cond_some hs_21 with ⟨hc_45, hs_21⟩ | ⟨hc_45, hs_21⟩
   ·refine k_true f rfl hc_45 ?_
    refine k_seq ?_
    refine k_region ?_
    refine l_op f rfl rfl rfl (r_move (f.eval rfl)) (fun a f => ?_)
    refine l_op f rfl rfl rfl (r_assign (f.eval rfl)) (fun a f => ?_)
    refine l_nil ?_
    refine k_ret ?_
    obtain rfl := Option.some.inj hs_21
    obtain rfl := hq_22 _ rfl
    obtain rfl := Option.some.inj hd
    exact ⟨[(.int .i64 x_26)], ⟨f.get _ _ rfl, trivial⟩, f.defers, _, [], hl_27, m, rfl, rfl⟩
   ·refine k_false f rfl hc_45 ?_
    refine k_skip ?_
    refine k_region ?_
    refine l_op f rfl rfl rfl (r_int (f.eval rfl) (f.eval rfl) b_add) (fun a f => ?_)
    refine l_op f rfl rfl rfl (r_move (f.eval rfl)) (fun a f => ?_)
    refine l_nil ?_
    obtain rfl := Option.some.inj hs_21
    exact ⟨_, rfl, _, rfl, _, hl_27, f.weak ⟨rfl, rfl, rfl, rfl, trivial⟩, m⟩
  ·refine k_false f rfl hc_38 ?_
   refine k_exit rfl ?_
   obtain rfl := Option.some.inj hs_21
   obtain rfl := hq_22 _ rfl
   exact ⟨_, rfl, _, hl_27, f.weak trivial, m⟩
 ·rintro a w ⟨_, rfl, G_36, hl_37, f, m⟩
  refine k_seq ?_
  refine k_region ?_
  refine l_op f rfl rfl rfl (r_assign (f.eval rfl)) (fun a f => ?_)
  refine l_nil ?_
  refine k_ret ?_
  obtain rfl := Option.some.inj hd
  exact ⟨[(.int .i64 (-1))], ⟨f.get _ _ rfl, trivial⟩, f.defers, _, [], hl_37, m, rfl, rfl⟩

theorem Wk.slices_Contains_int64_int64 {W w : World} {G : GH} {H : List Itm} {v0 : Value} {x0 : (List Int)} {x1 : Int} (m : Mem W G w (H)) (h0 : RSl (RI .i64) G v0 x0) {y : Bool} (hd : D.slices_Contains_int64_int64 x0 x1 = some y) :
  Calls Tryd.prog 103 #[v0, (.int .i64 x1)] w (Res W G H (fun _ Ho v => Ho = [] ∧ v = (.bool y))) := by
 refine calls_b (args := [v0, (.int .i64 x1)]) (N := 9) [.tmp 4] Tryd.func103 rfl rfl (Nat.le_of_ble_eq_true rfl) rfl (fun a f => ?_)
 unfold D.slices_Contains_int64_int64 at hd
 refine k_seq ?_
 refine k_region ?_
 refine l_op f rfl rfl rfl (r_assign (f.eval rfl)) (fun a f => ?_)
 refine l_nil ?_
 refine k_seq ?_
 refine k_region ?_
 refine l_op f rfl rfl rfl (r_move (f.eval rfl)) (fun a f => ?_)
 refine l_op f rfl rfl rfl (r_move (f.eval rfl)) (fun a f => ?_)
 obtain ⟨y_1, hy_2, hd⟩ := bind_some hd
 refine l_res f rfl rfl Tryd.call124 (Wk.slices_Index_int64_int64 m h0 hy_2) (fun v_6 G_3 Ho_7 w hl_4 m hQ_5 a f => ?_)
 obtain ⟨rfl, rfl⟩ := hQ_5
 have h0 := RSl.mono (RI.mono _) _ _ _ _ hl_4 h0
 have m : Mem W G_3 w (H) := m
 refine l_op f rfl rfl rfl (r_int (f.eval rfl) (f.eval rfl) b_geq) (fun a f => ?_)
 refine l_op f rfl rfl rfl (r_assign (f.eval rfl)) (fun a f => ?_)
 refine l_nil ?_
 refine k_ret ?_
 obtain rfl := Option.some.inj hd
 exact ⟨[(.bool (decide ((0 : Int) ≤ y_1)))], ⟨f.get _ _ rfl, trivial⟩, f.defers, _, [], hl_4, m, rfl, rfl⟩

theorem Wk.impl_GraphOk {W w : World} {G : GH} {H : List Itm} {v0_0 : Value} {x0_0 : (List (List Int))} (m : Mem W G w (H)) (h0_0 : RSl (RSl (RI .i64)) G v0_0 x0_0) {y : Bool} (hd : D.impl_GraphOk x0_0 = some y) :
  Calls Tryd.prog 55 #[(.agg #[v0_0])] w (Res W G H (fun _ Ho v => Ho = [] ∧ v = (.bool y))) := by
 refine calls_b (args := [(.agg #[v0_0])]) (N := 61) [.tmp 2] Tryd.func55 rfl rfl (Nat.le_of_ble_eq_true rfl) rfl (fun a f => ?_)
 unfold D.impl_GraphOk at hd
 refine k_seq ?_
 refine k_region ?_
 refine l_box (cs := [v0_0]) m f rfl rfl rfl (fun b_2 w a m f => ?_)
 refine l_op f rfl rfl rfl (r_assign (f.eval rfl)) (fun a f => ?_)
 refine l_nil ?_
 refine k_seq ?_
 refine k_region ?_
 refine l_fieldAddr Tryd.underlying29 rfl Tryd.sizeOf27 (by decide) f rfl rfl (fun a f => ?_)
 refine l_boxCell 0 0 m Pl27 f rfl rfl rfl rfl (fun a f => ?_)
 refine l_len Tryd.underlying27 f rfl rfl h0_0 (fun a f => ?_)
 refine l_op f rfl rfl rfl (r_assign (f.eval rfl)) (fun a f => ?_)
 refine l_nil ?_
 refine k_seq ?_
 refine k_seq ?_
 refine k_region ?_
 refine l_op f rfl rfl rfl (r_move (f.eval rfl)) (fun a f => ?_)
 refine l_op f rfl rfl rfl (r_int (f.eval rfl) (f.eval rfl) b_lss) (fun a f => ?_)
 refine l_op f rfl rfl rfl (r_move (f.eval rfl)) (fun a f => ?_)
 refine l_cut 3 (fun a w => ∃ G_4, GLe G G_4 ∧ Mem W G_4 w (Itm.box b_2 29 [v0_0] :: H) ∧ Fr a 61 [(0, (.agg #[v0_0])), (1, (.pointer (some ⟨b_2, 0, none⟩))), (3, (.int .i64 (x0_0.length : Int))), (13, (.int .i64 (x0_0.length : Int))), (14, (.bool (decide ((x0_0.length : Int) < 1)))), (15, (.bool (decide ((x0_0.length : Int) < 1)))), (18, (.bool ((decide ((x0_0.length : Int) < 1)) || (decide ((16 : Int) < (x0_0.length : Int))))))]) ?_ ?_
 ·rcases Bool.eq_false_or_eq_true (decide ((x0_0.length : Int) < 1)) with hc_3 | hc_3
  ·refine l_not' f rfl rfl rfl hc_3 (fun a f => ?_)
   refine l_not' f rfl rfl rfl hc_3 (fun a f => ?_)
   refine l_op f rfl rfl rfl (r_pickT (f.eval rfl) hc_3 (f.eval rfl)) (fun a f => ?_)
   exact ⟨_, (GLe.refl _), m, f.weak ⟨rfl, rfl, rfl, rfl, rfl, rfl, by rw [hc_3]; rfl, trivial⟩⟩
  ·refine l_run f rfl rfl hc_3 ?_
   refine l_op f rfl rfl rfl (r_move (f.eval rfl)) (fun a f => ?_)
   refine l_run f rfl rfl hc_3 ?_
   refine l_op f rfl rfl rfl (r_int (f.eval rfl) (f.eval rfl) b_gtr) (fun a f => ?_)
   refine l_op f rfl rfl rfl (r_pickF (f.eval rfl) hc_3 (f.eval rfl)) (fun a f => ?_)
   exact ⟨_, (GLe.refl _), m, f.weak ⟨rfl, rfl, rfl, rfl, rfl, rfl, by rw [hc_3]; rfl, trivial⟩⟩
 ·rintro a w ⟨G_4, hl_5, m, f⟩
  have h0_0 := RSl.mono (RSl.mono (RI.mono _)) _ _ _ _ hl_5 h0_0
  refine l_nil ?_
  rcases cond_some hd with ⟨hc_6, hd⟩ | ⟨hc_6, hd⟩
  ·refine k_true f rfl hc_6 ?_
   refine k_seq ?_
   refine k_region ?_
   refine l_op f rfl rfl rfl (r_assign (f.eval rfl)) (fun a f => ?_)
   refine l_nil ?_
   refine k_ret ?_
   have m : Mem W G_4 w H := Mem.drop (H' := [Itm.box b_2 29 [v0_0]]) m
   obtain rfl := Option.some.inj hd
   exact ⟨[(.bool false)], ⟨f.get _ _ rfl, trivial⟩, f.defers, _, [], hl_5, m, rfl, rfl⟩
  ·refine k_false f rfl hc_6 ?_
   refine k_skip ?_
   refine k_seq ?_
   refine k_seq ?_
   refine k_region ?_
   refine l_fieldAddr Tryd.underlying29 rfl Tryd.sizeOf27 (by decide) f rfl rfl (fun a f => ?_)
   refine l_boxCell 0 0 m Pl27 f rfl rfl rfl rfl (fun a f => ?_)
   refine l_len Tryd.underlying27 f rfl rfl h0_0 (fun a f => ?_)
   refine l_op f rfl rfl rfl (r_move (f.eval rfl)) (fun a f => ?_)
   refine l_nil ?_
   obtain ⟨q_91, hl_92, hd⟩ := bind_some hd
   refine k_cut (fun a w => ∃ q_91' : Unit, q_91 = .inl q_91' ∧ ∃ (G_141 : GH), GLe G_4 G_141 ∧ Fr a 61 [(1, (.pointer (some ⟨b_2, 0, none⟩)))] ∧ Mem W G_141 w (Itm.box b_2 29 [v0_0] :: H)) ?_ ?_
   ·refine k_block ?_
    refine k_loop (fun s_95 a w => ∃ x_98 : Int, x_98 = s_95 ∧ ∃ (G_97 : GH), GLe G_4 G_97 ∧ Fr a 61 [(1, (.pointer (some ⟨b_2, 0, none⟩))), (3, (.int .i64 (x0_0.length : Int))), (20, v0_0), (21, (.int .i64 (x0_0.length : Int))), (22, (.int .i64 x_98))] ∧ Mem W G_97 w (Itm.box b_2 29 [v0_0] :: H)) hl_92 ⟨_, rfl, _, (GLe.refl _), f.weak ⟨rfl, rfl, rfl, rfl, rfl, trivial⟩, m⟩ ?_
    clear hl_92 f m
    rintro s_95 o_96 hs_93 hq_94 a w ⟨x_98, rfl, G_97, hl_99, f, m⟩
    have h0_0 := RSl.mono (RSl.mono (RI.mono _)) _ _ _ _ hl_99 h0_0
    refine k_seq ?_
    refine k_region ?_
    refine l_op f rfl rfl rfl (r_int (f.eval rfl) (f.eval rfl) b_lss) (fun a f => ?_)
    refine l_nil ?_
    refine k_seq ?_
    rcases cond_some hs_93 with ⟨hc_143, hs_93⟩ | ⟨hc_143, hs_93⟩
    ·refine k_true f rfl hc_143 ?_
     refine k_skip ?_
     refine k_seq ?_
     refine k_block ?_
     refine k_seq ?_
     refine k_region ?_
     refine l_op f rfl rfl rfl (r_move (f.eval rfl)) (fun a f => ?_)
     obtain ⟨e_144, he_145, hs_93⟩ := bind_some hs_93
     refine l_at T27 f rfl rfl rfl h0_0 he_145 (fun p_146 c_147 a g_148 h_149 f => ?_)
     refine l_loadAt m Pl31 f rfl rfl g_148 (fun a f => ?_)
     refine l_op f rfl rfl rfl (r_assign (f.eval rfl)) (fun a f => ?_)
     refine l_op f rfl rfl rfl (r_assign (f.eval rfl)) (fun a f => ?_)
     refine l_nil ?_
     refine k_seq ?_
     refine k_region ?_
     refine l_op f rfl rfl rfl (r_move (f.eval rfl)) (fun a f => ?_)
     refine l_op f rfl rfl rfl (r_move (f.eval rfl)) (fun a f => ?_)
     obtain ⟨y_150, hy_151, hs_93⟩ := bind_some hs_93
     refine l_res f rfl rfl Tryd.call56 (Wk.impl_increasing m h_149 hy_151) (fun v_155 G_152 Ho_156 w hl_153 m hQ_154 a f => ?_)
     obtain ⟨rfl, rfl⟩ := hQ_154
     have h_149 := RSl.mono (RI.mono _) _ _ _ _ hl_153 h_149
     have h0_0 := RSl.mono (RSl.mono (RI.mono _)) _ _ _ _ hl_153 h0_0
     have m : Mem W G_152 w (Itm.box b_2 29 [v0_0] :: H) := m
     refine l_op f rfl rfl rfl (r_not (f.eval rfl)) (fun a f => ?_)
     refine l_op f rfl rfl rfl (r_move (f.eval rfl)) (fun a f => ?_)
     obtain ⟨b_174, hj_175, hs_93⟩ := bind_some hs_93
     refine l_cut 4 (fun a w => ∃ G_172, GLe G_152 G_172 ∧ Mem W G_172 w (Itm.box b_2 29 [v0_0] :: H) ∧ Fr a 61 [(1, (.pointer (some ⟨b_2, 0, none⟩))), (3, (.int .i64 (x0_0.length : Int))), (4, (.int .i64 x_98)), (5, c_147), (20, v0_0), (21, (.int .i64 (x0_0.length : Int))), (22, (.int .i64 x_98)), (27, c_147), (28, (.int .i64 (x0_0.length : Int))), (29, (.bool y_150)), (30, (.bool (!y_150))), (31, (.bool (!y_150))), (35, (.bool b_174))]) ?_ ?_
     ·rcases cond_some hj_175 with ⟨hc_157, hj_175⟩ | ⟨hc_157, hj_175⟩
      ·refine l_not' f rfl rfl rfl hc_157 (fun a f => ?_)
       refine l_not' f rfl rfl rfl hc_157 (fun a f => ?_)
       refine l_not' f rfl rfl rfl hc_157 (fun a f => ?_)
       refine l_op f rfl rfl rfl (r_pickT (f.eval rfl) hc_157 (f.eval rfl)) (fun a f => ?_)
       obtain rfl := Option.some.inj hj_175
       exact ⟨_, (GLe.refl _), m, f.weak ⟨rfl, rfl, rfl, rfl, rfl, rfl, rfl, rfl, rfl, rfl, rfl, rfl, rfl, trivial⟩⟩
      ·refine l_run f rfl rfl hc_157 ?_
       refine l_op f rfl rfl rfl (r_move (f.eval rfl)) (fun a f => ?_)
       refine l_run f rfl rfl hc_157 ?_
       refine l_op f rfl rfl rfl (r_move (f.eval rfl)) (fun a f => ?_)
       refine l_run f rfl rfl hc_157 ?_
       obtain ⟨y_176, hy_177, hj_175⟩ := bind_some hj_175
       refine l_res f rfl rfl Tryd.call103 (Wk.slices_Contains_int64_int64 m h_149 hy_177) (fun v_181 G_178 Ho_182 w hl_179 m hQ_180 a f => ?_)
       obtain ⟨rfl, rfl⟩ := hQ_180
       have h_149 := RSl.mono (RI.mono _) _ _ _ _ hl_179 h_149
       have h0_0 := RSl.mono (RSl.mono (RI.mono _)) _ _ _ _ hl_179 h0_0
       have m : Mem W G_178 w (Itm.box b_2 29 [v0_0] :: H) := m
       refine l_op f rfl rfl rfl (r_pickF (f.eval rfl) hc_157 (f.eval rfl)) (fun a f => ?_)
       obtain rfl := Option.some.inj hj_175
       exact ⟨_, hl_179, m, f.weak ⟨rfl, rfl, rfl, rfl, rfl, rfl, rfl, rfl, rfl, rfl, rfl, rfl, rfl, trivial⟩⟩
     ·rintro a w ⟨G_172, hl_173, m, f⟩
      have h_149 := RSl.mono (RI.mono _) _ _ _ _ hl_173 h_149
      have h0_0 := RSl.mono (RSl.mono (RI.mono _)) _ _ _ _ hl_173 h0_0
      refine l_nil ?_
      rcases cond_some hs_93 with ⟨hc_183, hs_93⟩ | ⟨hc_183, hs_93⟩
      ·refine k_true f rfl hc_183 ?_
       refine k_seq ?_
       refine k_region ?_
       refine l_op f rfl rfl rfl (r_assign (f.eval rfl)) (fun a f => ?_)
       refine l_nil ?_
       refine k_ret ?_
       have m : Mem W G_172 w H := Mem.drop (H' := [Itm.box b_2 29 [v0_0]]) m
       obtain rfl := Option.some.inj hs_93
       obtain rfl := hq_94 _ rfl
       obtain rfl := Option.some.inj hd
       exact ⟨[(.bool false)], ⟨f.get _ _ rfl, trivial⟩, f.defers, _, [], (GLe.trans hl_5 (GLe.trans hl_99 (GLe.trans hl_153 hl_173))), m, rfl, rfl⟩
      ·refine k_false f rfl hc_183 ?_
       refine k_skip ?_
       refine k_region ?_
       refine l_op f rfl rfl rfl (r_int (f.eval rfl) (f.eval rfl) b_add) (fun a f => ?_)
       refine l_op f rfl rfl rfl (r_move (f.eval rfl)) (fun a f => ?_)
       refine l_nil ?_
       obtain rfl := Option.some.inj hs_93
       exact ⟨_, rfl, _, rfl, _, (GLe.trans hl_99 (GLe.trans hl_153 hl_173)), f.weak ⟨rfl, rfl, rfl, rfl, rfl, trivial⟩, m⟩
    ·refine k_false f rfl hc_143 ?_
     refine k_exit rfl ?_
     obtain rfl := Option.some.inj hs_93
     obtain rfl := hq_94 _ rfl
     exact ⟨_, rfl, _, hl_99, f.weak ⟨rfl, trivial⟩, m⟩
   ·rintro a w ⟨_, rfl, G_141, hl_142, f, m⟩
    have h0_0 := RSl.mono (RSl.mono (RI.mono _)) _ _ _ _ hl_142 h0_0
    refine k_seq ?_
    refine k_seq ?_
    refine k_region ?_
    refine l_fieldAddr Tryd.underlying29 rfl Tryd.sizeOf27 (by decide) f rfl rfl (fun a f => ?_)
    refine l_boxCell 0 0 m Pl27 f rfl rfl rfl rfl (fun a f => ?_)
    refine l_len Tryd.underlying27 f rfl rfl h0_0 (fun a f => ?_)
    refine l_op f rfl rfl rfl (r_move (f.eval rfl)) (fun a f => ?_)
    refine l_nil ?_
    obtain ⟨q_394, hl_395, hd⟩ := bind_some hd
    refine k_cut (fun a w => ∃ q_394' : Unit, q_394 = .inl q_394' ∧ ∃ (G_507 : GH), GLe G_141 G_507 ∧ Fr a 61 [] ∧ Mem W G_507 w (H)) ?_ ?_
    ·refine k_block ?_
     refine k_loop (fun s_398 a w => ∃ x_401 : Int, x_401 = s_398 ∧ ∃ (G_400 : GH), GLe G_141 G_400 ∧ Fr a 61 [(1, (.pointer (some ⟨b_2, 0, none⟩))), (38, v0_0), (39, (.int .i64 (x0_0.length : Int))), (40, (.int .i64 x_401))] ∧ Mem W G_400 w (Itm.box b_2 29 [v0_0] :: H)) hl_395 ⟨_, rfl, _, (GLe.refl _), f.weak ⟨rfl, rfl, rfl, rfl, trivial⟩, m⟩ ?_
     clear hl_395 f m
     rintro s_398 o_399 hs_396 hq_397 a w ⟨x_401, rfl, G_400, hl_402, f, m⟩
     have h0_0 := RSl.mono (RSl.mono (RI.mono _)) _ _ _ _ hl_402 h0_0
     refine k_seq ?_
     refine k_region ?_
     refine l_op f rfl rfl rfl (r_int (f.eval rfl) (f.eval rfl) b_lss) (fun a f => ?_)
     refine l_nil ?_
     refine k_seq ?_
     rcases cond_some hs_396 with ⟨hc_509, hs_396⟩ | ⟨hc_509, hs_396⟩
     ·refine k_true f rfl hc_509 ?_
      refine k_skip ?_
      refine k_seq ?_
      refine k_block ?_
      refine k_seq ?_
      refine k_region ?_
      refine l_op f rfl rfl rfl (r_move (f.eval rfl)) (fun a f => ?_)
      obtain ⟨e_510, he_511, hs_396⟩ := bind_some hs_396
      refine l_at T27 f rfl rfl rfl h0_0 he_511 (fun p_512 c_513 a g_514 h_515 f => ?_)
      refine l_loadAt m Pl31 f rfl rfl g_514 (fun a f => ?_)
      refine l_op f rfl rfl rfl (r_assign (f.eval rfl)) (fun a f => ?_)
      refine l_op f rfl rfl rfl (r_assign (f.eval rfl)) (fun a f => ?_)
      refine l_nil ?_
      refine k_seq ?_
      refine k_region ?_
      refine l_op f rfl rfl rfl (r_move (f.eval rfl)) (fun a f => ?_)
      refine l_len Tryd.underlying31 f rfl rfl h_515 (fun a f => ?_)
      refine l_op f rfl rfl rfl (r_move (f.eval rfl)) (fun a f => ?_)
      refine l_nil ?_
      obtain ⟨q_560, hl_561, hs_396⟩ := bind_some hs_396
      refine k_cut (fun a w => ∃ q_560' : Unit, q_560 = .inl q_560' ∧ ∃ (G_590 : GH), GLe G_400 G_590 ∧ Fr a 61 [(1, (.pointer (some ⟨b_2, 0, none⟩))), (38, v0_0), (39, (.int .i64 (x0_0.length : Int))), (40, (.int .i64 x_401))] ∧ Mem W G_590 w (Itm.box b_2 29 [v0_0] :: H)) ?_ ?_
      ·refine k_block ?_
       refine k_loop (fun s_564 a w => ∃ x_567 : Int, x_567 = s_564 ∧ ∃ (G_566 : GH), GLe G_400 G_566 ∧ Fr a 61 [(1, (.pointer (some ⟨b_2, 0, none⟩))), (6, (.int .i64 x_401)), (38, v0_0), (39, (.int .i64 (x0_0.length : Int))), (40, (.int .i64 x_401)), (45, c_513), (46, (.int .i64 (e_510.length : Int))), (47, (.int .i64 x_567))] ∧ Mem W G_566 w (Itm.box b_2 29 [v0_0] :: H)) hl_561 ⟨_, rfl, _, (GLe.refl _), f.weak ⟨rfl, rfl, rfl, rfl, rfl, rfl, rfl, rfl, trivial⟩, m⟩ ?_
       clear hl_561 f m
       rintro s_564 o_565 hs_562 hq_563 a w ⟨x_567, rfl, G_566, hl_568, f, m⟩
       have h0_0 := RSl.mono (RSl.mono (RI.mono _)) _ _ _ _ hl_568 h0_0
       have h_515 := RSl.mono (RI.mono _) _ _ _ _ hl_568 h_515
       refine k_seq ?_
       refine k_region ?_
       refine l_op f rfl rfl rfl (r_int (f.eval rfl) (f.eval rfl) b_lss) (fun a f => ?_)
       refine l_nil ?_
       refine k_seq ?_
       rcases cond_some hs_562 with ⟨hc_592, hs_562⟩ | ⟨hc_592, hs_562⟩
       ·refine k_true f rfl hc_592 ?_
        refine k_skip ?_
        refine k_seq ?_
        refine k_block ?_
        refine k_seq ?_
        refine k_region ?_
        obtain ⟨e_593, he_594, hs_562⟩ := bind_some hs_562
        refine l_at T31 f rfl rfl rfl h_515 he_594 (fun p_595 c_596 a g_597 h_598 f => ?_)
        subst h_598
        refine l_loadAt m Pl2 f rfl rfl g_597 (fun a f => ?_)
        refine l_op f rfl rfl rfl (r_assign (f.eval rfl)) (fun a f => ?_)
        refine l_nil ?_
        refine k_seq ?_
        refine k_region ?_
        refine l_fieldAddr Tryd.underlying29 rfl Tryd.sizeOf27 (by decide) f rfl rfl (fun a f => ?_)
        refine l_boxCell 0 0 m Pl27 f rfl rfl rfl rfl (fun a f => ?_)
        refine l_op f rfl rfl rfl (r_move (f.eval rfl)) (fun a f => ?_)
        obtain ⟨e_599, he_600, hs_562⟩ := bind_some hs_562
        refine l_at T27 f rfl rfl rfl h0_0 he_600 (fun p_601 c_602 a g_603 h_604 f => ?_)
        refine l_loadAt m Pl31 f rfl rfl g_603 (fun a f => ?_)
        refine l_op f rfl rfl rfl (r_move (f.eval rfl)) (fun a f => ?_)
        obtain ⟨y_605, hy_606, hs_562⟩ := bind_some hs_562
        refine l_res f rfl rfl Tryd.call103 (Wk.slices_Contains_int64_int64 m h_604 hy_606) (fun v_610 G_607 Ho_611 w hl_608 m hQ_609 a f => ?_)
        obtain ⟨rfl, rfl⟩ := hQ_609
        have h0_0 := RSl.mono (RSl.mono (RI.mono _)) _ _ _ _ hl_608 h0_0
        have h_515 := RSl.mono (RI.mono _) _ _ _ _ hl_608 h_515
        have g_603 := At.mono hl_608 g_603
        have h_604 := RSl.mono (RI.mono _) _ _ _ _ hl_608 h_604
        have m : Mem W G_607 w (Itm.box b_2 29 [v0_0] :: H) := m
        refine l_op f rfl rfl rfl (r_not (f.eval rfl)) (fun a f => ?_)
        refine l_nil ?_
        rcases cond_some hs_562 with ⟨hc_612, hs_562⟩ | ⟨hc_612, hs_562⟩
        ·refine k_true f rfl hc_612 ?_
         refine k_seq ?_
         refine k_region ?_
         refine l_op f rfl rfl rfl (r_assign (f.eval rfl)) (fun a f => ?_)
         refine l_nil ?_
         refine k_ret ?_
         have m : Mem W G_607 w H := Mem.drop (H' := [Itm.box b_2 29 [v0_0]]) m
         obtain rfl := Option.some.inj hs_562
         obtain rfl := hq_563 _ rfl
         obtain rfl := Option.some.inj hs_396
         obtain rfl := hq_397 _ rfl
         obtain rfl := Option.some.inj hd
         exact ⟨[(.bool false)], ⟨f.get _ _ rfl, trivial⟩, f.defers, _, [], (GLe.trans hl_5 (GLe.trans hl_142 (GLe.trans hl_402 (GLe.trans hl_568 hl_608)))), m, rfl, rfl⟩
        ·refine k_false f rfl hc_612 ?_
         refine k_skip ?_
         refine k_region ?_
         refine l_op f rfl rfl rfl (r_int (f.eval rfl) (f.eval rfl) b_add) (fun a f => ?_)
         refine l_op f rfl rfl rfl (r_move (f.eval rfl)) (fun a f => ?_)
         refine l_nil ?_
         obtain rfl := Option.some.inj hs_562
         exact ⟨_, rfl, _, rfl, _, (GLe.trans hl_568 hl_608), f.weak ⟨rfl, rfl, rfl, rfl, rfl, rfl, rfl, rfl, trivial⟩, m⟩
       ·refine k_false f rfl hc_592 ?_
        refine k_exit rfl ?_
        obtain rfl := Option.some.inj hs_562
        obtain rfl := hq_563 _ rfl
        exact ⟨_, rfl, _, hl_568, f.weak ⟨rfl, rfl, rfl, rfl, trivial⟩, m⟩
      ·rintro a w ⟨_, rfl, G_590, hl_591, f, m⟩
       have h0_0 := RSl.mono (RSl.mono (RI.mono _)) _ _ _ _ hl_591 h0_0
       refine k_region ?_
       refine l_op f rfl rfl rfl (r_int (f.eval rfl) (f.eval rfl) b_add) (fun a f => ?_)
       refine l_op f rfl rfl rfl (r_move (f.eval rfl)) (fun a f => ?_)
       refine l_nil ?_
       obtain rfl := Option.some.inj hs_396
       exact ⟨_, rfl, _, rfl, _, (GLe.trans hl_402 hl_591), f.weak ⟨rfl, rfl, rfl, rfl, trivial⟩, m⟩
     ·refine k_false f rfl hc_509 ?_
      refine k_exit rfl ?_
      have m : Mem W G_400 w H := Mem.drop (H' := [Itm.box b_2 29 [v0_0]]) m
      obtain rfl := Option.some.inj hs_396
      obtain rfl := hq_397 _ rfl
      exact ⟨_, rfl, _, hl_402, f.weak trivial, m⟩
    ·rintro a w ⟨_, rfl, G_507, hl_508, f, m⟩
     refine k_seq ?_
     refine k_region ?_
     refine l_op f rfl rfl rfl (r_assign (f.eval rfl)) (fun a f => ?_)
     refine l_nil ?_
     refine k_ret ?_
     obtain rfl := Option.some.inj hd
     exact ⟨[(.bool true)], ⟨f.get _ _ rfl, trivial⟩, f.defers, _, [], (GLe.trans hl_5 (GLe.trans hl_142 hl_508)), m, rfl, rfl⟩

theorem Wk.impl_one {W w : World} {G : GH} {H : List Itm} {x0 : Int} (m : Mem W G w (H))  {y : Int} (hd : D.impl_one x0 = some y) :
  Calls Tryd.prog 48 #[(.int .i64 x0)] w (Res W G H (fun _ Ho v => Ho = [] ∧ v = (.int .u32 y))) := by
 refine calls_b (args := [(.int .i64 x0)]) (N := 5) [.tmp 2] Tryd.func48 rfl rfl (Nat.le_of_ble_eq_true rfl) rfl (fun a f => ?_)
 unfold D.impl_one at hd
 refine k_seq ?_
 refine k_region ?_
 refine l_op f rfl rfl rfl (r_assign (f.eval rfl)) (fun a f => ?_)
 refine l_nil ?_
 refine k_seq ?_
 refine k_region ?_
 refine l_op f rfl rfl rfl (r_move (f.eval rfl)) (fun a f => ?_)
 obtain ⟨hn_1, hd⟩ := cond_none hd
 refine l_op f rfl rfl rfl (r_shl (f.eval rfl) (f.eval rfl) hn_1) (fun a f => ?_)
 refine l_op f rfl rfl rfl (r_assign (f.eval rfl)) (fun a f => ?_)
 refine l_nil ?_
 refine k_ret ?_
 obtain rfl := Option.some.inj hd
 exact ⟨[(.int .u32 (ishl .u32 1 x0))], ⟨f.get _ _ rfl, trivial⟩, f.defers, _, [], (GLe.refl _), m, rfl, rfl⟩

theorem Wk.impl_maskOf {W w : World} {G : GH} {H : List Itm} {v0 : Value} {x0 : (List Int)} (m : Mem W G w (H)) (h0 : RSl (RI .i64) G v0 x0) {y : Int} (hd : D.impl_maskOf x0 = some y) :
  Calls Tryd.prog 101 #[v0] w (Res W G H (fun _ Ho v => Ho = [] ∧ v = (.int .u32 y))) := by
 refine calls_b (args := [v0]) (N := 18) [.tmp 2] Tryd.func101 rfl rfl (Nat.le_of_ble_eq_true rfl) rfl (fun a f => ?_)
 unfold D.impl_maskOf at hd
 refine k_seq ?_
 refine k_region ?_
 refine l_op f rfl rfl rfl (r_assign (f.eval rfl)) (fun a f => ?_)
 refine l_nil ?_
 refine k_seq ?_
 refine k_region ?_
 refine l_op f rfl rfl rfl (r_assign (f.eval rfl)) (fun a f => ?_)
 refine l_nil ?_
 refine k_seq ?_
 refine k_seq ?_
 refine k_region ?_
 refine l_op f rfl rfl rfl (r_move (f.eval rfl)) (fun a f => ?_)
 refine l_len Tryd.underlying31 f rfl rfl h0 (fun a f => ?_)
 refine l_op f rfl rfl rfl (r_move (f.eval rfl)) (fun a f => ?_)
 refine l_nil ?_
 obtain ⟨q_32, hl_33, hd⟩ := bind_some hd
 refine k_cut (fun a w => ∃ x_57 : Int, x_57 = q_32 ∧ ∃ (G_56 : GH), GLe G G_56 ∧ Fr a 18 [(3, (.int .u32 x_57))] ∧ Mem W G_56 w (H)) ?_ ?_
 ·refine k_block ?_
  refine k_loop (fun s_36 a w => ∃ x_39 : Int, ∃ x_40 : Int, (x_39, x_40) = s_36 ∧ ∃ (G_38 : GH), GLe G G_38 ∧ Fr a 18 [(3, (.int .u32 x_39)), (6, v0), (7, (.int .i64 (x0.length : Int))), (8, (.int .i64 x_40))] ∧ Mem W G_38 w (H)) hl_33 ⟨_, _, rfl, _, (GLe.refl _), f.weak ⟨rfl, rfl, rfl, rfl, trivial⟩, m⟩ ?_
  clear hl_33 f m
  rintro s_36 o_37 hs_34 hq_35 a w ⟨x_39, x_40, rfl, G_38, hl_41, f, m⟩
  have h0 := RSl.mono (RI.mono _) _ _ _ _ hl_41 h0
  refine k_seq ?_
  refine k_region ?_
  refine l_op f rfl rfl rfl (r_int (f.eval rfl) (f.eval rfl) b_lss) (fun a f => ?_)
  refine l_nil ?_
  refine k_seq ?_
  rcases cond_some hs_34 with ⟨hc_59, hs_34⟩ | ⟨hc_59, hs_34⟩
  ·refine k_true f rfl hc_59 ?_
   refine k_skip ?_
   refine k_seq ?_
   refine k_block ?_
   refine k_seq ?_
   refine k_region ?_
   obtain ⟨e_60, he_61, hs_34⟩ := bind_some hs_34
   refine l_at T31 f rfl rfl rfl h0 he_61 (fun p_62 c_63 a g_64 h_65 f => ?_)
   subst h_65
   refine l_loadAt m Pl2 f rfl rfl g_64 (fun a f => ?_)
   refine l_op f rfl rfl rfl (r_assign (f.eval rfl)) (fun a f => ?_)
   refine l_nil ?_
   refine k_region ?_
   refine l_op f rfl rfl rfl (r_move (f.eval rfl)) (fun a f => ?_)
   refine l_op f rfl rfl rfl (r_move (f.eval rfl)) (fun a f => ?_)
   obtain ⟨y_66, hy_67, hs_34⟩ := bind_some hs_34
   refine l_res f rfl rfl Tryd.call48 (Wk.impl_one m  hy_67) (fun v_71 G_68 Ho_72 w hl_69 m hQ_70 a f => ?_)
   obtain ⟨rfl, rfl⟩ := hQ_70
   have h0 := RSl.mono (RI.mono _) _ _ _ _ hl_69 h0
   have m : Mem W G_68 w (H) := m
   refine l_op f rfl rfl rfl (r_int (f.eval rfl) (f.eval rfl) b_or) (fun a f => ?_)
   refine l_op f rfl rfl rfl (r_assign (f.eval rfl)) (fun a f => ?_)
   refine l_nil ?_
   refine k_region ?_
   refine l_op f rfl rfl rfl (r_int (f.eval rfl) (f.eval rfl) b_add) (fun a f => ?_)
   refine l_op f rfl rfl rfl (r_move (f.eval rfl)) (fun a f => ?_)
   refine l_nil ?_
   obtain rfl := Option.some.inj hs_34
   exact ⟨_, rfl, _, _, rfl, _, (GLe.trans hl_41 hl_69), f.weak ⟨rfl, rfl, rfl, rfl, trivial⟩, m⟩
  ·refine k_false f rfl hc_59 ?_
   refine k_exit rfl ?_
   obtain rfl := Option.some.inj hs_34
   obtain rfl := hq_35 _ rfl
   exact ⟨_, rfl, _, hl_41, f.weak ⟨rfl, trivial⟩, m⟩
 ·rintro a w ⟨x_57, rfl, G_56, hl_58, f, m⟩
  refine k_seq ?_
  refine k_region ?_
  refine l_op f rfl rfl rfl (r_move (f.eval rfl)) (fun a f => ?_)
  refine l_op f rfl rfl rfl (r_assign (f.eval rfl)) (fun a f => ?_)
  refine l_nil ?_
  refine k_ret ?_
  obtain rfl := Option.some.inj hd
  exact ⟨[(.int .u32 x_57)], ⟨f.get _ _ rfl, trivial⟩, f.defers, _, [], hl_58, m, rfl, rfl⟩

theorem Wk.impl_netsOf {W w : World} {G : GH} {H : List Itm} {v0_0 : Value} {x0_0 : (List (List Int))} (m : Mem W G w (H)) (h0_0 : RSl (RSl (RI .i64)) G v0_0 x0_0) {y : ((List Int))} (hd : D.impl_netsOf x0_0 = some y) :
  Calls Tryd.prog 46 #[(.agg #[v0_0])] w (Res W G H (fun G' Ho v => ∃ r0 : Value, ∃ i0 : Itm, Ho = [i0] ∧ r0 = v ∧ Ow (RI .u32) 66 G' i0 r0 y)) := by
 refine calls_b (args := [(.agg #[v0_0])]) (N := 21) [.tmp 2] Tryd.func46 rfl rfl (Nat.le_of_ble_eq_true rfl) rfl (fun a f => ?_)
 unfold D.impl_netsOf at hd
 refine k_seq ?_
 refine k_region ?_
 refine l_box (cs := [v0_0]) m f rfl rfl rfl (fun b_2 w a m f => ?_)
 refine l_op f rfl rfl rfl (r_assign (f.eval rfl)) (fun a f => ?_)
 refine l_nil ?_
 refine k_seq ?_
 refine k_region ?_
 refine l_slit (R := (RI .u32)) (xs := ([] : List Int)) (RI.one _) m T61 f rfl rfl rfl (by decide) (All2.nil _) (fun it_3 v_4 w a m o_5 f => ?_)
 refine l_op f rfl rfl rfl (r_assign (f.eval rfl)) (fun a f => ?_)
 refine l_nil ?_
 refine k_seq ?_
 refine k_seq ?_
 refine k_region ?_
 refine l_fieldAddr Tryd.underlying29 rfl Tryd.sizeOf27 (by decide) f rfl rfl (fun a f => ?_)
 refine l_boxCell 1 0 m Pl27 f rfl rfl rfl rfl (fun a f => ?_)
 refine l_len Tryd.underlying27 f rfl rfl h0_0 (fun a f => ?_)
 refine l_op f rfl rfl rfl (r_move (f.eval rfl)) (fun a f => ?_)
 refine l_nil ?_
 obtain ⟨q_62, hl_63, hd⟩ := bind_some hd
 refine k_cut (fun a w => ∃ l_101 : List Int, l_101 = q_62 ∧ ∃ (G_100 : GH) (v_102 : Value) (it_103 : Itm), GLe G G_100 ∧ Fr a 21 [(3, v_102)] ∧ Mem W G_100 w (it_103 :: H) ∧ Ow (RI .u32) 66 G_100 it_103 v_102 l_101) ?_ ?_
 ·refine k_block ?_
  have m : Mem W G w (it_3 :: H) := m.eraseAt 1
  refine k_loop (fun s_66 a w => ∃ l_69 : List Int, ∃ x_74 : Int, (l_69, x_74) = s_66 ∧ ∃ (G_68 : GH) (v_70 : Value) (it_71 : Itm), GLe G G_68 ∧ Fr a 21 [(3, v_70), (8, v0_0), (9, (.int .i64 (x0_0.length : Int))), (10, (.int .i64 x_74))] ∧ Mem W G_68 w (it_71 :: H) ∧ Ow (RI .u32) 66 G_68 it_71 v_70 l_69) hl_63 ⟨_, _, rfl, _, v_4, it_3, (GLe.refl _), f.weak ⟨rfl, rfl, rfl, rfl, trivial⟩, m, o_5⟩ ?_
  clear hl_63 f m
  rintro s_66 o_67 hs_64 hq_65 a w ⟨l_69, x_74, rfl, G_68, v_70, it_71, hl_75, f, m, o_72⟩
  have h0_0 := RSl.mono (RSl.mono (RI.mono _)) _ _ _ _ hl_75 h0_0
  refine k_seq ?_
  refine k_region ?_
  refine l_op f rfl rfl rfl (r_int (f.eval rfl) (f.eval rfl) b_lss) (fun a f => ?_)
  refine l_nil ?_
  refine k_seq ?_
  rcases cond_some hs_64 with ⟨hc_107, hs_64⟩ | ⟨hc_107, hs_64⟩
  ·refine k_true f rfl hc_107 ?_
   refine k_skip ?_
   refine k_seq ?_
   refine k_block ?_
   refine k_seq ?_
   refine k_region ?_
   obtain ⟨e_108, he_109, hs_64⟩ := bind_some hs_64
   refine l_at T27 f rfl rfl rfl h0_0 he_109 (fun p_110 c_111 a g_112 h_113 f => ?_)
   refine l_loadAt m Pl31 f rfl rfl g_112 (fun a f => ?_)
   refine l_op f rfl rfl rfl (r_assign (f.eval rfl)) (fun a f => ?_)
   refine l_nil ?_
   refine k_region ?_
   refine l_op f rfl rfl rfl (r_move (f.eval rfl)) (fun a f => ?_)
   refine l_op f rfl rfl rfl (r_move (f.eval rfl)) (fun a f => ?_)
   obtain ⟨y_114, hy_115, hs_64⟩ := bind_some hs_64
   refine l_res f rfl rfl Tryd.call101 (Wk.impl_maskOf m h_113 hy_115) (fun v_119 G_116 Ho_120 w hl_117 m hQ_118 a f => ?_)
   obtain ⟨rfl, rfl⟩ := hQ_118
   have h_113 := RSl.mono (RI.mono _) _ _ _ _ hl_117 h_113
   have h0_0 := RSl.mono (RSl.mono (RI.mono _)) _ _ _ _ hl_117 h0_0
   have o_72 := Ow.mono (RI.mono _) hl_117 o_72
   have m : Mem W G_116 w (it_71 :: H) := m
   refine l_slit (R := (RI .u32)) (xs := ([y_114] : List Int)) (RI.one _) m T61 f rfl rfl rfl (by decide) (All2.cons rfl (All2.nil _)) (fun it_121 v_122 w a m o_123 f => ?_)
   obtain ⟨l_125, hx_126, hs_64⟩ := bind_some hs_64
   refine l_append (RI.one _) 1 m o_72 rfl T61 rfl (by decide) f rfl rfl rfl (Ow.src (j := 0) o_123 m rfl) hx_126 (fun it_127 v_128 w a m o_129 f => ?_)
   have m : Mem W G_116 w (it_121 :: it_127 :: H) := m
   refine l_op f rfl rfl rfl (r_assign (f.eval rfl)) (fun a f => ?_)
   refine l_nil ?_
   refine k_region ?_
   refine l_op f rfl rfl rfl (r_int (f.eval rfl) (f.eval rfl) b_add) (fun a f => ?_)
   refine l_op f rfl rfl rfl (r_move (f.eval rfl)) (fun a f => ?_)
   refine l_nil ?_
   have m : Mem W G_116 w (it_127 :: it_121 :: H) := m.front 1 rfl
   have m : Mem W G_116 w (it_127 :: H) := m.eraseAt 1
   obtain rfl := Option.some.inj hs_64
   exact ⟨_, rfl, _, _, rfl, _, v_128, it_127, (GLe.trans hl_75 hl_117), f.weak ⟨rfl, rfl, rfl, rfl, trivial⟩, m, o_129⟩
  ·refine k_false f rfl hc_107 ?_
   refine k_exit rfl ?_
   obtain rfl := Option.some.inj hs_64
   obtain rfl := hq_65 _ rfl
   exact ⟨_, rfl, _, v_70, it_71, hl_75, f.weak ⟨rfl, trivial⟩, m, o_72⟩
 ·rintro a w ⟨l_101, rfl, G_100, v_102, it_103, hl_106, f, m, o_104⟩
  refine k_seq ?_
  refine k_region ?_
  refine l_op f rfl rfl rfl (r_move (f.eval rfl)) (fun a f => ?_)
  refine l_op f rfl rfl rfl (r_assign (f.eval rfl)) (fun a f => ?_)
  refine l_nil ?_
  refine k_ret ?_
  obtain rfl := Option.some.inj hd
  exact ⟨[v_102], ⟨f.get _ _ rfl, trivial⟩, f.defers, _, [it_103], hl_106, m, _, _, rfl, rfl, o_104⟩

theorem Wk.impl_narrow {W w : World} {G : GH} {H : List Itm} {v0 : Value} {x0 : (List Int)} (m : Mem W G w (H)) (h0 : RSl (RI .i64) G v0 x0) {y : ((List Int))} (hd : D.impl_narrow x0 = some y) :
  Calls Tryd.prog 47 #[v0] w (Res W G H (fun G' Ho v => ∃ r0 : Value, ∃ i0 : Itm, Ho = [i0] ∧ r0 = v ∧ Ow (RI .i64) 3 G' i0 r0 y)) := by
 refine calls_b (args := [v0]) (N := 21) [.tmp 2] Tryd.func47 rfl rfl (Nat.le_of_ble_eq_true rfl) rfl (fun a f => ?_)
 unfold D.impl_narrow at hd
 refine k_seq ?_
 refine k_region ?_
 refine l_op f rfl rfl rfl (r_assign (f.eval rfl)) (fun a f => ?_)
 refine l_nil ?_
 refine k_seq ?_
 refine k_region ?_
 refine l_op f rfl rfl rfl (r_move (f.eval rfl)) (fun a f => ?_)
 refine l_len Tryd.underlying31 f rfl rfl h0 (fun a f => ?_)
 obtain ⟨l_1, hx_2, hd⟩ := bind_some hd
 refine l_make (R := (RI .i64)) m T63 rfl (by decide) rfl f rfl rfl rfl hx_2 (fun it_3 v_4 w a m o_5 f => ?_)
 refine l_op f rfl rfl rfl (r_assign (f.eval rfl)) (fun a f => ?_)
 refine l_nil ?_
 refine k_seq ?_
 refine k_seq ?_
 refine k_region ?_
 refine l_op f rfl rfl rfl (r_move (f.eval rfl)) (fun a f => ?_)
 refine l_len Tryd.underlying31 f rfl rfl h0 (fun a f => ?_)
 refine l_op f rfl rfl rfl (r_move (f.eval rfl)) (fun a f => ?_)
 refine l_nil ?_
 obtain ⟨q_48, hl_49, hd⟩ := bind_some hd
 refine k_cut (fun a w => ∃ l_80 : List Int, l_80 = q_48 ∧ ∃ (G_79 : GH) (v_81 : Value) (it_82 : Itm), GLe G G_79 ∧ Fr a 21 [(3, v_81)] ∧ Mem W G_79 w (it_82 :: H) ∧ Ow (RI .i64) 3 G_79 it_82 v_81 l_80) ?_ ?_
 ·refine k_block ?_
  refine k_loop (fun s_52 a w => ∃ l_55 : List Int, ∃ x_60 : Int, (l_55, x_60) = s_52 ∧ ∃ (G_54 : GH) (v_56 : Value) (it_57 : Itm), GLe G G_54 ∧ Fr a 21 [(3, v_56), (9, v0), (10, (.int .i64 (x0.length : Int))), (11, (.int .i64 x_60))] ∧ Mem W G_54 w (it_57 :: H) ∧ Ow (RI .i64) 3 G_54 it_57 v_56 l_55) hl_49 ⟨_, _, rfl, _, v_4, it_3, (GLe.refl _), f.weak ⟨rfl, rfl, rfl, rfl, trivial⟩, m, o_5⟩ ?_
  clear hl_49 f m
  rintro s_52 o_53 hs_50 hq_51 a w ⟨l_55, x_60, rfl, G_54, v_56, it_57, hl_61, f, m, o_58⟩
  have h0 := RSl.mono (RI.mono _) _ _ _ _ hl_61 h0
  refine k_seq ?_
  refine k_region ?_
  refine l_op f rfl rfl rfl (r_int (f.eval rfl) (f.eval rfl) b_lss) (fun a f => ?_)
  refine l_nil ?_
  refine k_seq ?_
  rcases cond_some hs_50 with ⟨hc_86, hs_50⟩ | ⟨hc_86, hs_50⟩
  ·refine k_true f rfl hc_86 ?_
   refine k_skip ?_
   refine k_seq ?_
   refine k_block ?_
   refine k_seq ?_
   refine k_region ?_
   obtain ⟨e_87, he_88, hs_50⟩ := bind_some hs_50
   refine l_at T31 f rfl rfl rfl h0 he_88 (fun p_89 c_90 a g_91 h_92 f => ?_)
   subst h_92
   refine l_loadAt m Pl2 f rfl rfl g_91 (fun a f => ?_)
   refine l_op f rfl rfl rfl (r_assign (f.eval rfl)) (fun a f => ?_)
   refine l_nil ?_
   refine k_region ?_
   refine l_op f rfl rfl rfl (r_move (f.eval rfl)) (fun a f => ?_)
   refine l_op f rfl rfl rfl (r_move (f.eval rfl)) (fun a f => ?_)
   refine l_slit (R := (RI .i64)) (xs := ([e_87] : List Int)) (RI.one _) m T63 f rfl rfl rfl (by decide) (All2.cons rfl (All2.nil _)) (fun it_93 v_94 w a m o_95 f => ?_)
   obtain ⟨l_97, hx_98, hs_50⟩ := bind_some hs_50
   refine l_append (RI.one _) 1 m o_58 rfl T63 rfl (by decide) f rfl rfl rfl (Ow.src (j := 0) o_95 m rfl) hx_98 (fun it_99 v_100 w a m o_101 f => ?_)
   have m : Mem W G_54 w (it_93 :: it_99 :: H) := m
   refine l_op f rfl rfl rfl (r_assign (f.eval rfl)) (fun a f => ?_)
   refine l_nil ?_
   refine k_region ?_
   refine l_op f rfl rfl rfl (r_int (f.eval rfl) (f.eval rfl) b_add) (fun a f => ?_)
   refine l_op f rfl rfl rfl (r_move (f.eval rfl)) (fun a f => ?_)
   refine l_nil ?_
   have m : Mem W G_54 w (it_99 :: it_93 :: H) := m.front 1 rfl
   have m : Mem W G_54 w (it_99 :: H) := m.eraseAt 1
   obtain rfl := Option.some.inj hs_50
   exact ⟨_, rfl, _, _, rfl, _, v_100, it_99, hl_61, f.weak ⟨rfl, rfl, rfl, rfl, trivial⟩, m, o_101⟩
  ·refine k_false f rfl hc_86 ?_
   refine k_exit rfl ?_
   obtain rfl := Option.some.inj hs_50
   obtain rfl := hq_51 _ rfl
   exact ⟨_, rfl, _, v_56, it_57, hl_61, f.weak ⟨rfl, trivial⟩, m, o_58⟩
 ·rintro a w ⟨l_80, rfl, G_79, v_81, it_82, hl_85, f, m, o_83⟩
  refine k_seq ?_
  refine k_region ?_
  refine l_op f rfl rfl rfl (r_move (f.eval rfl)) (fun a f => ?_)
  refine l_op f rfl rfl rfl (r_assign (f.eval rfl)) (fun a f => ?_)
  refine l_nil ?_
  refine k_ret ?_
  obtain rfl := Option.some.inj hd
  exact ⟨[v_81], ⟨f.get _ _ rfl, trivial⟩, f.defers, _, [it_82], hl_85, m, _, _, rfl, rfl, o_83⟩

theorem Wk.math_bits_TrailingZeros32 {W w : World} {G : GH} {H : List Itm} {x0 : Int} (hW : TabW W) (m : Mem W G w (H))  {y : Int} (hd : D.math_bits_TrailingZeros32 x0 = some y) :
  Calls Tryd.prog 118 #[(.int .u32 x0)] w (Res W G H (fun _ Ho v => Ho = [] ∧ v = (.int .i64 y))) := by
 refine calls_b (args := [(.int .u32 x0)]) (N := 14) [.tmp 2] Tryd.func118 rfl rfl (Nat.le_of_ble_eq_true rfl) rfl (fun a f => ?_)
 unfold D.math_bits_TrailingZeros32 at hd
 refine k_seq ?_
 refine k_region ?_
 refine l_op f rfl rfl rfl (r_assign (f.eval rfl)) (fun a f => ?_)
 refine l_nil ?_
 refine k_seq ?_
 refine k_seq ?_
 refine k_region ?_
 refine l_op f rfl rfl rfl (r_move (f.eval rfl)) (fun a f => ?_)
 refine l_op f rfl rfl rfl (r_int (f.eval rfl) (f.eval rfl) b_eql) (fun a f => ?_)
 refine l_nil ?_
 rcases cond_some hd with ⟨hc_1, hd⟩ | ⟨hc_1, hd⟩
 ·refine k_true f rfl hc_1 ?_
  refine k_seq ?_
  refine k_region ?_
  refine l_op f rfl rfl rfl (r_assign (f.eval rfl)) (fun a f => ?_)
  refine l_nil ?_
  refine k_ret ?_
  obtain rfl := Option.some.inj hd
  exact ⟨[(.int .i64 32)], ⟨f.get _ _ rfl, trivial⟩, f.defers, _, [], (GLe.refl _), m, rfl, rfl⟩
 ·refine k_false f rfl hc_1 ?_
  refine k_skip ?_
  refine k_seq ?_
  refine k_region ?_
  refine l_op f rfl rfl rfl (r_move (f.eval rfl)) (fun a f => ?_)
  refine l_op f rfl rfl rfl (r_move (f.eval rfl)) (fun a f => ?_)
  refine l_op f rfl rfl rfl (r_neg (f.eval rfl)) (fun a f => ?_)
  refine l_op f rfl rfl rfl (r_int (f.eval rfl) (f.eval rfl) b_and) (fun a f => ?_)
  refine l_op f rfl rfl rfl (r_int (f.eval rfl) (f.eval rfl) b_mul) (fun a f => ?_)
  refine l_op f rfl rfl rfl (r_shr (f.eval rfl) (f.eval rfl) (by decide)) (fun a f => ?_)
  obtain ⟨e_3, he_4, hd⟩ := bind_some hd
  refine l_tab hW m Tryd.underlying133 Tryd.sizeOf5 f rfl rfl he_4 (fun p_5 a g_6 f => ?_)
  refine l_loadAt m Pl5 f rfl rfl g_6 (fun a f => ?_)
  refine l_op f rfl rfl rfl (r_conv (f.eval rfl) ⟨_, Tryd.underlying5⟩ Tryd.underlying3) (fun a f => ?_)
  refine l_op f rfl rfl rfl (r_assign (f.eval rfl)) (fun a f => ?_)
  refine l_nil ?_
  refine k_ret ?_
  obtain rfl := Option.some.inj hd
  exact ⟨[(.int .i64 (IntKind.i64.wrap e_3))], ⟨f.get _ _ rfl, trivial⟩, f.defers, _, [], (GLe.refl _), m, rfl, rfl⟩

theorem Wk.impl_vset_least {W w : World} {G : GH} {H : List Itm} {x0 : Int} (hW : TabW W) (m : Mem W G w (H))  {y : Int} (hd : D.impl_vset_least x0 = some y) :
  Calls Tryd.prog 85 #[(.int .u32 x0)] w (Res W G H (fun _ Ho v => Ho = [] ∧ v = (.int .i64 y))) := by
 refine calls_b (args := [(.int .u32 x0)]) (N := 5) [.tmp 2] Tryd.func85 rfl rfl (Nat.le_of_ble_eq_true rfl) rfl (fun a f => ?_)
 unfold D.impl_vset_least at hd
 refine k_seq ?_
 refine k_region ?_
 refine l_op f rfl rfl rfl (r_assign (f.eval rfl)) (fun a f => ?_)
 refine l_nil ?_
 refine k_seq ?_
 refine k_region ?_
 refine l_op f rfl rfl rfl (r_move (f.eval rfl)) (fun a f => ?_)
 obtain ⟨y_1, hy_2, hd⟩ := bind_some hd
 refine l_res f rfl rfl Tryd.call118 (Wk.math_bits_TrailingZeros32 hW m  hy_2) (fun v_6 G_3 Ho_7 w hl_4 m hQ_5 a f => ?_)
 obtain ⟨rfl, rfl⟩ := hQ_5
 have m : Mem W G_3 w (H) := m
 refine l_op f rfl rfl rfl (r_assign (f.eval rfl)) (fun a f => ?_)
 refine l_nil ?_
 refine k_ret ?_
 obtain rfl := Option.some.inj hd
 exact ⟨[(.int .i64 y_1)], ⟨f.get _ _ rfl, trivial⟩, f.defers, _, [], hl_4, m, rfl, rfl⟩

theorem Wk.impl_vset_list {W w : World} {G : GH} {H : List Itm} {x0 : Int} (hW : TabW W) (m : Mem W G w (H))  {y : ((List Int))} (hd : D.impl_vset_list x0 = some y) :
  Calls Tryd.prog 62 #[(.int .u32 x0)] w (Res W G H (fun G' Ho v => ∃ r0 : Value, ∃ i0 : Itm, Ho = [i0] ∧ r0 = v ∧ Ow (RI .i64) 3 G' i0 r0 y)) := by
 refine calls_b (args := [(.int .u32 x0)]) (N := 17) [.tmp 2] Tryd.func62 rfl rfl (Nat.le_of_ble_eq_true rfl) rfl (fun a f => ?_)
 unfold D.impl_vset_list at hd
 refine k_seq ?_
 refine k_region ?_
 refine l_op f rfl rfl rfl (r_assign (f.eval rfl)) (fun a f => ?_)
 refine l_nil ?_
 refine k_seq ?_
 refine k_region ?_
 refine l_slit (R := (RI .i64)) (xs := ([] : List Int)) (RI.one _) m T63 f rfl rfl rfl (by decide) (All2.nil _) (fun it_1 v_2 w a m o_3 f => ?_)
 refine l_op f rfl rfl rfl (r_assign (f.eval rfl)) (fun a f => ?_)
 refine l_nil ?_
 refine k_seq ?_
 obtain ⟨q_48, hl_49, hd⟩ := bind_some hd
 refine k_cut (fun a w => ∃ l_81 : List Int, l_81 = q_48 ∧ ∃ (G_80 : GH) (v_82 : Value) (it_83 : Itm), GLe G G_80 ∧ Fr a 17 [(3, v_82)] ∧ Mem W G_80 w (it_83 :: H) ∧ Ow (RI .i64) 3 G_80 it_83 v_82 l_81) ?_ ?_
 ·refine k_block ?_
  refine k_loop (fun s_52 a w => ∃ x_55 : Int, ∃ l_56 : List Int, (x_55, l_56) = s_52 ∧ ∃ (G_54 : GH) (v_57 : Value) (it_58 : Itm), GLe G G_54 ∧ Fr a 17 [(0, (.int .u32 x_55)), (3, v_57)] ∧ Mem W G_54 w (it_58 :: H) ∧ Ow (RI .i64) 3 G_54 it_58 v_57 l_56) hl_49 ⟨_, _, rfl, _, v_2, it_1, (GLe.refl _), f.weak ⟨rfl, rfl, trivial⟩, m, o_3⟩ ?_
  clear hl_49 f m
  rintro s_52 o_53 hs_50 hq_51 a w ⟨x_55, l_56, rfl, G_54, v_57, it_58, hl_61, f, m, o_59⟩
  refine k_seq ?_
  refine k_seq ?_
  refine k_region ?_
  refine l_op f rfl rfl rfl (r_move (f.eval rfl)) (fun a f => ?_)
  refine l_op f rfl rfl rfl (r_int (f.eval rfl) (f.eval rfl) b_neq) (fun a f => ?_)
  refine l_nil ?_
  rcases cond_some hs_50 with ⟨hc_87, hs_50⟩ | ⟨hc_87, hs_50⟩
  ·refine k_true f rfl hc_87 ?_
   refine k_skip ?_
   refine k_seq ?_
   refine k_block ?_
   refine k_region ?_
   refine l_op f rfl rfl rfl (r_move (f.eval rfl)) (fun a f => ?_)
   refine l_op f rfl rfl rfl (r_move (f.eval rfl)) (fun a f => ?_)
   obtain ⟨y_88, hy_89, hs_50⟩ := bind_some hs_50
   refine l_res f rfl rfl Tryd.call85 (Wk.impl_vset_least hW m  hy_89) (fun v_93 G_90 Ho_94 w hl_91 m hQ_92 a f => ?_)
   obtain ⟨rfl, rfl⟩ := hQ_92
   have o_59 := Ow.mono (RI.mono _) hl_91 o_59
   have m : Mem W G_90 w (it_58 :: H) := m
   refine l_slit (R := (RI .i64)) (xs := ([y_88] : List Int)) (RI.one _) m T63 f rfl rfl rfl (by decide) (All2.cons rfl (All2.nil _)) (fun it_95 v_96 w a m o_97 f => ?_)
   obtain ⟨l_99, hx_100, hs_50⟩ := bind_some hs_50
   refine l_append (RI.one _) 1 m o_59 rfl T63 rfl (by decide) f rfl rfl rfl (Ow.src (j := 0) o_97 m rfl) hx_100 (fun it_101 v_102 w a m o_103 f => ?_)
   have m : Mem W G_90 w (it_95 :: it_101 :: H) := m
   refine l_op f rfl rfl rfl (r_assign (f.eval rfl)) (fun a f => ?_)
   refine l_nil ?_
   refine k_region ?_
   refine l_op f rfl rfl rfl (r_move (f.eval rfl)) (fun a f => ?_)
   refine l_op f rfl rfl rfl (r_move (f.eval rfl)) (fun a f => ?_)
   refine l_op f rfl rfl rfl (r_int (f.eval rfl) (f.eval rfl) b_sub) (fun a f => ?_)
   refine l_op f rfl rfl rfl (r_int (f.eval rfl) (f.eval rfl) b_and) (fun a f => ?_)
   refine l_op f rfl rfl rfl (r_assign (f.eval rfl)) (fun a f => ?_)
   refine l_nil ?_
   have m : Mem W G_90 w (it_101 :: it_95 :: H) := m.front 1 rfl
   have m : Mem W G_90 w (it_101 :: H) := m.eraseAt 1
   obtain rfl := Option.some.inj hs_50
   exact ⟨_, rfl, _, _, rfl, _, v_102, it_101, (GLe.trans hl_61 hl_91), f.weak ⟨rfl, rfl, trivial⟩, m, o_103⟩
  ·refine k_false f rfl hc_87 ?_
   refine k_exit rfl ?_
   obtain rfl := Option.some.inj hs_50
   obtain rfl := hq_51 _ rfl
   exact ⟨_, rfl, _, v_57, it_58, hl_61, f.weak ⟨rfl, trivial⟩, m, o_59⟩
 ·rintro a w ⟨l_81, rfl, G_80, v_82, it_83, hl_86, f, m, o_84⟩
  refine k_seq ?_
  refine k_region ?_
  refine l_op f rfl rfl rfl (r_move (f.eval rfl)) (fun a f => ?_)
  refine l_op f rfl rfl rfl (r_assign (f.eval rfl)) (fun a f => ?_)
  refine l_nil ?_
  refine k_ret ?_
  obtain rfl := Option.some.inj hd
  exact ⟨[v_82], ⟨f.get _ _ rfl, trivial⟩, f.defers, _, [it_83], hl_86, m, _, _, rfl, rfl, o_84⟩

theorem Wk.impl_wide {W w : World} {G : GH} {H : List Itm} {v0 : Value} {x0 : (List Int)} (m : Mem W G w (H)) (h0 : RSl (RI .i64) G v0 x0) {y : ((List Int))} (hd : D.impl_wide x0 = some y) :
  Calls Tryd.prog 63 #[v0] w (Res W G H (fun G' Ho v => ∃ r0 : Value, ∃ i0 : Itm, Ho = [i0] ∧ r0 = v ∧ Ow (RI .i64) 2 G' i0 r0 y)) := by
 refine calls_b (args := [v0]) (N := 21) [.tmp 2] Tryd.func63 rfl rfl (Nat.le_of_ble_eq_true rfl) rfl (fun a f => ?_)
 unfold D.impl_wide at hd
 refine k_seq ?_
 refine k_region ?_
 refine l_op f rfl rfl rfl (r_assign (f.eval rfl)) (fun a f => ?_)
 refine l_nil ?_
 refine k_seq ?_
 refine k_region ?_
 refine l_op f rfl rfl rfl (r_move (f.eval rfl)) (fun a f => ?_)
 refine l_len Tryd.underlying63 f rfl rfl h0 (fun a f => ?_)
 obtain ⟨l_1, hx_2, hd⟩ := bind_some hd
 refine l_make (R := (RI .i64)) m T31 rfl (by decide) rfl f rfl rfl rfl hx_2 (fun it_3 v_4 w a m o_5 f => ?_)
 refine l_op f rfl rfl rfl (r_assign (f.eval rfl)) (fun a f => ?_)
 refine l_nil ?_
 refine k_seq ?_
 refine k_seq ?_
 refine k_region ?_
 refine l_op f rfl rfl rfl (r_move (f.eval rfl)) (fun a f => ?_)
 refine l_len Tryd.underlying63 f rfl rfl h0 (fun a f => ?_)
 refine l_op f rfl rfl rfl (r_move (f.eval rfl)) (fun a f => ?_)
 refine l_nil ?_
 obtain ⟨q_48, hl_49, hd⟩ := bind_some hd
 refine k_cut (fun a w => ∃ l_80 : List Int, l_80 = q_48 ∧ ∃ (G_79 : GH) (v_81 : Value) (it_82 : Itm), GLe G G_79 ∧ Fr a 21 [(3, v_81)] ∧ Mem W G_79 w (it_82 :: H) ∧ Ow (RI .i64) 2 G_79 it_82 v_81 l_80) ?_ ?_
 ·refine k_block ?_
  refine k_loop (fun s_52 a w => ∃ l_55 : List Int, ∃ x_60 : Int, (l_55, x_60) = s_52 ∧ ∃ (G_54 : GH) (v_56 : Value) (it_57 : Itm), GLe G G_54 ∧ Fr a 21 [(3, v_56), (9, v0), (10, (.int .i64 (x0.length : Int))), (11, (.int .i64 x_60))] ∧ Mem W G_54 w (it_57 :: H) ∧ Ow (RI .i64) 2 G_54 it_57 v_56 l_55) hl_49 ⟨_, _, rfl, _, v_4, it_3, (GLe.refl _), f.weak ⟨rfl, rfl, rfl, rfl, trivial⟩, m, o_5⟩ ?_
  clear hl_49 f m
  rintro s_52 o_53 hs_50 hq_51 a w ⟨l_55, x_60, rfl, G_54, v_56, it_57, hl_61, f, m, o_58⟩
  have h0 := RSl.mono (RI.mono _) _ _ _ _ hl_61 h0
  refine k_seq ?_
  refine k_region ?_
  refine l_op f rfl rfl rfl (r_int (f.eval rfl) (f.eval rfl) b_lss) (fun a f => ?_)
  refine l_nil ?_
  refine k_seq ?_
  rcases cond_some hs_50 with ⟨hc_86, hs_50⟩ | ⟨hc_86, hs_50⟩
  ·refine k_true f rfl hc_86 ?_
   refine k_skip ?_
   refine k_seq ?_
   refine k_block ?_
   refine k_seq ?_
   refine k_region ?_
   obtain ⟨e_87, he_88, hs_50⟩ := bind_some hs_50
   refine l_at T63 f rfl rfl rfl h0 he_88 (fun p_89 c_90 a g_91 h_92 f => ?_)
   subst h_92
   refine l_loadAt m Pl3 f rfl rfl g_91 (fun a f => ?_)
   refine l_op f rfl rfl rfl (r_assign (f.eval rfl)) (fun a f => ?_)
   refine l_nil ?_
   refine k_region ?_
   refine l_op f rfl rfl rfl (r_move (f.eval rfl)) (fun a f => ?_)
   refine l_op f rfl rfl rfl (r_move (f.eval rfl)) (fun a f => ?_)
   refine l_slit (R := (RI .i64)) (xs := ([e_87] : List Int)) (RI.one _) m T31 f rfl rfl rfl (by decide) (All2.cons rfl (All2.nil _)) (fun it_93 v_94 w a m o_95 f => ?_)
   obtain ⟨l_97, hx_98, hs_50⟩ := bind_some hs_50
   refine l_append (RI.one _) 1 m o_58 rfl T31 rfl (by decide) f rfl rfl rfl (Ow.src (j := 0) o_95 m rfl) hx_98 (fun it_99 v_100 w a m o_101 f => ?_)
   have m : Mem W G_54 w (it_93 :: it_99 :: H) := m
   refine l_op f rfl rfl rfl (r_assign (f.eval rfl)) (fun a f => ?_)
   refine l_nil ?_
   refine k_region ?_
   refine l_op f rfl rfl rfl (r_int (f.eval rfl) (f.eval rfl) b_add) (fun a f => ?_)
   refine l_op f rfl rfl rfl (r_move (f.eval rfl)) (fun a f => ?_)
   refine l_nil ?_
   have m : Mem W G_54 w (it_99 :: it_93 :: H) := m.front 1 rfl
   have m : Mem W G_54 w (it_99 :: H) := m.eraseAt 1
   obtain rfl := Option.some.inj hs_50
   exact ⟨_, rfl, _, _, rfl, _, v_100, it_99, hl_61, f.weak ⟨rfl, rfl, rfl, rfl, trivial⟩, m, o_101⟩
  ·refine k_false f rfl hc_86 ?_
   refine k_exit rfl ?_
   obtain rfl := Option.some.inj hs_50
   obtain rfl := hq_51 _ rfl
   exact ⟨_, rfl, _, v_56, it_57, hl_61, f.weak ⟨rfl, trivial⟩, m, o_58⟩
 ·rintro a w ⟨l_80, rfl, G_79, v_81, it_82, hl_85, f, m, o_83⟩
  refine k_seq ?_
  refine k_region ?_
  refine l_op f rfl rfl rfl (r_move (f.eval rfl)) (fun a f => ?_)
  refine l_op f rfl rfl rfl (r_assign (f.eval rfl)) (fun a f => ?_)
  refine l_nil ?_
  refine k_ret ?_
  obtain rfl := Option.some.inj hd
  exact ⟨[v_81], ⟨f.get _ _ rfl, trivial⟩, f.defers, _, [it_82], hl_85, m, _, _, rfl, rfl, o_83⟩

theorem Wk.impl_vset_numbers {W w : World} {G : GH} {H : List Itm} {x0 : Int} (hW : TabW W) (m : Mem W G w (H))  {y : ((List Int))} (hd : D.impl_vset_numbers x0 = some y) :
  Calls Tryd.prog 100 #[(.int .u32 x0)] w (Res W G H (fun G' Ho v => ∃ r0 : Value, ∃ i0 : Itm, Ho = [i0] ∧ r0 = v ∧ Ow (RI .i64) 2 G' i0 r0 y)) := by
 refine calls_b (args := [(.int .u32 x0)]) (N := 6) [.tmp 2] Tryd.func100 rfl rfl (Nat.le_of_ble_eq_true rfl) rfl (fun a f => ?_)
 unfold D.impl_vset_numbers at hd
 refine k_seq ?_
 refine k_region ?_
 refine l_op f rfl rfl rfl (r_assign (f.eval rfl)) (fun a f => ?_)
 refine l_nil ?_
 refine k_seq ?_
 refine k_region ?_
 refine l_op f rfl rfl rfl (r_move (f.eval rfl)) (fun a f => ?_)
 obtain ⟨y_1, hy_2, hd⟩ := bind_some hd
 refine l_res f rfl rfl Tryd.call62 (Wk.impl_vset_list hW m  hy_2) (fun v_6 G_3 Ho_7 w hl_4 m hQ_5 a f => ?_)
 obtain ⟨v_8, it_9, rfl, rfl, o_10⟩ := hQ_5
 have m : Mem W G_3 w (it_9 :: H) := m
 obtain ⟨y_12, hy_13, hd⟩ := bind_some hd
 refine l_res f rfl rfl Tryd.call63 (Ow.lendCall (RI.mono _) 0 o_10 m rfl (fun G_14 hl_15 m h_16 => Wk.impl_wide m h_16 hy_13) (fun _ G' _ _ ⟨a0, a1, e1, e2, o0⟩ => ⟨a0, a1, e1, e2, Ow.free (RI.free _) G' o0⟩)) (fun v_20 G_17 Ho_21 w hl_18 m hQ_19 a f => ?_)
 obtain ⟨v_22, it_23, rfl, rfl, o_24⟩ := hQ_19
 have o_10 := Ow.mono (RI.mono _) hl_18 o_10
 have m : Mem W G_17 w (it_23 :: it_9 :: H) := m
 refine l_op f rfl rfl rfl (r_assign (f.eval rfl)) (fun a f => ?_)
 refine l_nil ?_
 refine k_ret ?_
 have m : Mem W G_17 w (it_23 :: H) := m.eraseAt 1
 obtain rfl := Option.some.inj hd
 exact ⟨[v_22], ⟨f.get _ _ rfl, trivial⟩, f.defers, _, [it_23], (GLe.trans hl_4 hl_18), m, _, _, rfl, rfl, o_24⟩

theorem Wk.impl_results {W w : World} {G : GH} {H : List Itm} {v0 : Value} {x0 : (List Int)} (hW : TabW W) (m : Mem W G w (H)) (h0 : RSl (RI .u32) G v0 x0) {y : ((List (List Int)))} (hd : D.impl_results x0 = some y) :
  Calls Tryd.prog 44 #[v0] w (Res W G H (fun G' Ho v => ∃ r0 : Value, ∃ i0 : Itm, Ho = [i0] ∧ r0 = v ∧ Ow2 (RI .i64) 31 2 G' i0 r0 y)) := by
 refine calls_b (args := [v0]) (N := 20) [.tmp 2] Tryd.func44 rfl rfl (Nat.le_of_ble_eq_true rfl) rfl (fun a f => ?_)
 unfold D.impl_results at hd
 refine k_seq ?_
 refine k_region ?_
 refine l_op f rfl rfl rfl (r_assign (f.eval rfl)) (fun a f => ?_)
 refine l_nil ?_
 refine k_seq ?_
 refine k_region ?_
 refine l_slit (R := RawS) (xs := []) RawS.one m T27 f rfl rfl rfl (by decide) (All2.nil _) (fun it_1 v_2 w a m o_3 f => ?_)
 obtain ⟨it_5, m, o_6⟩ := Ow2.of_empty (RI .i64) 2 m o_3
 refine l_op f rfl rfl rfl (r_assign (f.eval rfl)) (fun a f => ?_)
 refine l_nil ?_
 refine k_seq ?_
 refine k_seq ?_
 refine k_region ?_
 refine l_op f rfl rfl rfl (r_move (f.eval rfl)) (fun a f => ?_)
 refine l_len Tryd.underlying59 f rfl rfl h0 (fun a f => ?_)
 refine l_op f rfl rfl rfl (r_move (f.eval rfl)) (fun a f => ?_)
 refine l_nil ?_
 obtain ⟨q_70, hl_71, hd⟩ := bind_some hd
 refine k_cut (fun a w => ∃ l_113 : List (List Int), l_113 = q_70 ∧ ∃ (G_112 : GH) (v_114 : Value) (it_115 : Itm), GLe G G_112 ∧ Fr a 20 [(3, v_114)] ∧ Mem W G_112 w (it_115 :: H) ∧ Ow2 (RI .i64) 31 2 G_112 it_115 v_114 l_113) ?_ ?_
 ·refine k_block ?_
  refine k_loop (fun s_74 a w => ∃ l_77 : List (List Int), ∃ x_82 : Int, (l_77, x_82) = s_74 ∧ ∃ (G_76 : GH) (v_78 : Value) (it_79 : Itm), GLe G G_76 ∧ Fr a 20 [(3, v_78), (7, v0), (8, (.int .i64 (x0.length : Int))), (9, (.int .i64 x_82))] ∧ Mem W G_76 w (it_79 :: H) ∧ Ow2 (RI .i64) 31 2 G_76 it_79 v_78 l_77) hl_71 ⟨_, _, rfl, _, v_2, it_5, (GLe.refl _), f.weak ⟨rfl, rfl, rfl, rfl, trivial⟩, m, o_6⟩ ?_
  clear hl_71 f m
  rintro s_74 o_75 hs_72 hq_73 a w ⟨l_77, x_82, rfl, G_76, v_78, it_79, hl_83, f, m, o_80⟩
  have h0 := RSl.mono (RI.mono _) _ _ _ _ hl_83 h0
  refine k_seq ?_
  refine k_region ?_
  refine l_op f rfl rfl rfl (r_int (f.eval rfl) (f.eval rfl) b_lss) (fun a f => ?_)
  refine l_nil ?_
  refine k_seq ?_
  rcases cond_some hs_72 with ⟨hc_119, hs_72⟩ | ⟨hc_119, hs_72⟩
  ·refine k_true f rfl hc_119 ?_
   refine k_skip ?_
   refine k_seq ?_
   refine k_block ?_
   refine k_seq ?_
   refine k_region ?_
   obtain ⟨e_120, he_121, hs_72⟩ := bind_some hs_72
   refine l_at T59 f rfl rfl rfl h0 he_121 (fun p_122 c_123 a g_124 h_125 f => ?_)
   subst h_125
   refine l_loadAt m Pl66 f rfl rfl g_124 (fun a f => ?_)
   refine l_op f rfl rfl rfl (r_assign (f.eval rfl)) (fun a f => ?_)
   refine l_nil ?_
   refine k_region ?_
   refine l_op f rfl rfl rfl (r_move (f.eval rfl)) (fun a f => ?_)
   refine l_op f rfl rfl rfl (r_move (f.eval rfl)) (fun a f => ?_)
   obtain ⟨y_126, hy_127, hs_72⟩ := bind_some hs_72
   refine l_res f rfl rfl Tryd.call100 (Wk.impl_vset_numbers hW m  hy_127) (fun v_131 G_128 Ho_132 w hl_129 m hQ_130 a f => ?_)
   obtain ⟨v_133, it_134, rfl, rfl, o_135⟩ := hQ_130
   have h0 := RSl.mono (RI.mono _) _ _ _ _ hl_129 h0
   have o_80 := Ow2.mono (RI.mono _) hl_129 o_80
   have m : Mem W G_128 w (it_134 :: it_79 :: H) := m
   refine l_slit (R := RawS) (xs := [v_133]) RawS.one m T27 f rfl rfl rfl (by decide) (All2.cons ⟨rfl, Ow.one1 0 m o_135 rfl, Ow.cells 0 m o_135 rfl⟩ (All2.nil _)) (fun it_137 v_138 w a m o_139 f => ?_)
   have m : Mem W G_128 w (it_134 :: it_137 :: it_79 :: H) := m.front 1 rfl
   have m : Mem W G_128 w (it_79 :: it_134 :: it_137 :: H) := m.front 2 rfl
   obtain ⟨l_141, hx_142, hs_72⟩ := bind_some hs_72
   refine l_append2 m o_80 o_135 o_139 T27 rfl (by decide) f rfl rfl rfl hx_142 (fun it_143 v_144 w a m o_145 f => ?_)
   have m : Mem W G_128 w (it_143 :: H) := m
   refine l_op f rfl rfl rfl (r_assign (f.eval rfl)) (fun a f => ?_)
   refine l_nil ?_
   refine k_region ?_
   refine l_op f rfl rfl rfl (r_int (f.eval rfl) (f.eval rfl) b_add) (fun a f => ?_)
   refine l_op f rfl rfl rfl (r_move (f.eval rfl)) (fun a f => ?_)
   refine l_nil ?_
   obtain rfl := Option.some.inj hs_72
   exact ⟨_, rfl, _, _, rfl, _, v_144, it_143, (GLe.trans hl_83 hl_129), f.weak ⟨rfl, rfl, rfl, rfl, trivial⟩, m, o_145⟩
  ·refine k_false f rfl hc_119 ?_
   refine k_exit rfl ?_
   obtain rfl := Option.some.inj hs_72
   obtain rfl := hq_73 _ rfl
   exact ⟨_, rfl, _, v_78, it_79, hl_83, f.weak ⟨rfl, trivial⟩, m, o_80⟩
 ·rintro a w ⟨l_113, rfl, G_112, v_114, it_115, hl_118, f, m, o_116⟩
  refine k_seq ?_
  refine k_region ?_
  refine l_op f rfl rfl rfl (r_move (f.eval rfl)) (fun a f => ?_)
  refine l_op f rfl rfl rfl (r_assign (f.eval rfl)) (fun a f => ?_)
  refine l_nil ?_
  refine k_ret ?_
  obtain rfl := Option.some.inj hd
  exact ⟨[v_114], ⟨f.get _ _ rfl, trivial⟩, f.defers, _, [it_115], hl_118, m, _, _, rfl, rfl, o_116⟩

theorem Wk.impl_OrderOk {W w : World} {G : GH} {H : List Itm} {v0_0 : Value} {v1 : Value} {x0_0 : (List (List Int))} {x1 : (List Int)} (m : Mem W G w (H)) (h0_0 : RSl (RSl (RI .i64)) G v0_0 x0_0) (h1 : RSl (RI .i64) G v1 x1) {y : Bool} (hd : D.impl_OrderOk x0_0 x1 = some y) :
  Calls Tryd.prog 43 #[(.agg #[v0_0]), v1] w (Res W G H (fun _ Ho v => Ho = [] ∧ v = (.bool y))) := by
 refine calls_b (args := [(.agg #[v0_0]), v1]) (N := 25) [.tmp 4] Tryd.func43 rfl rfl (Nat.le_of_ble_eq_true rfl) rfl (fun a f => ?_)
 unfold D.impl_OrderOk at hd
 refine k_seq ?_
 refine k_region ?_
 refine l_box (cs := [v0_0]) m f rfl rfl rfl (fun b_2 w a m f => ?_)
 refine l_op f rfl rfl rfl (r_assign (f.eval rfl)) (fun a f => ?_)
 refine l_nil ?_
 refine k_seq ?_
 refine k_seq ?_
 refine k_region ?_
 refine l_boxAgg 0 0 (ds := [v0_0]) m Ag29 f rfl rfl rfl rfl rfl (fun a f => ?_)
 obtain ⟨y_3, hy_4, hd⟩ := bind_some hd
 refine l_res f rfl rfl Tryd.call55 (Wk.impl_GraphOk m h0_0 hy_4) (fun v_8 G_5 Ho_9 w hl_6 m hQ_7 a f => ?_)
 obtain ⟨rfl, rfl⟩ := hQ_7
 have h0_0 := RSl.mono (RSl.mono (RI.mono _)) _ _ _ _ hl_6 h0_0
 have h1 := RSl.mono (RI.mono _) _ _ _ _ hl_6 h1
 have m : Mem W G_5 w (Itm.box b_2 29 [v0_0] :: H) := m
 refine l_op f rfl rfl rfl (r_not (f.eval rfl)) (fun a f => ?_)
 refine l_op f rfl rfl rfl (r_move (f.eval rfl)) (fun a f => ?_)
 refine l_cut 7 (fun a w => ∃ G_11, GLe G_5 G_11 ∧ Mem W G_11 w (Itm.box b_2 29 [v0_0] :: H) ∧ Fr a 25 [(0, (.agg #[v0_0])), (1, v1), (2, (.pointer (some ⟨b_2, 0, none⟩))), (6, (.agg #[v0_0])), (7, (.bool y_3)), (8, (.bool (!y_3))), (9, (.bool (!y_3))), (16, (.bool ((!y_3) || ((x1.length : Int) != (x0_0.length : Int)))))]) ?_ ?_
 ·rcases Bool.eq_false_or_eq_true (!y_3) with hc_10 | hc_10
  ·refine l_not' f rfl rfl rfl hc_10 (fun a f => ?_)
   refine l_not' f rfl rfl rfl hc_10 (fun a f => ?_)
   refine l_not' f rfl rfl rfl hc_10 (fun a f => ?_)
   refine l_not' f rfl rfl rfl hc_10 (fun a f => ?_)
   refine l_not' f rfl rfl rfl hc_10 (fun a f => ?_)
   refine l_not' f rfl rfl rfl hc_10 (fun a f => ?_)
   refine l_op f rfl rfl rfl (r_pickT (f.eval rfl) hc_10 (f.eval rfl)) (fun a f => ?_)
   exact ⟨_, (GLe.refl _), m, f.weak ⟨rfl, rfl, rfl, rfl, rfl, rfl, rfl, by rw [hc_10]; rfl, trivial⟩⟩
  ·refine l_run f rfl rfl hc_10 ?_
   refine l_op f rfl rfl rfl (r_move (f.eval rfl)) (fun a f => ?_)
   refine l_run f rfl rfl hc_10 ?_
   refine l_len Tryd.underlying31 f rfl rfl h1 (fun a f => ?_)
   refine l_run f rfl rfl hc_10 ?_
   refine l_fieldAddr Tryd.underlying29 rfl Tryd.sizeOf27 (by decide) f rfl rfl (fun a f => ?_)
   refine l_run f rfl rfl hc_10 ?_
   refine l_boxCell 0 0 m Pl27 f rfl rfl rfl rfl (fun a f => ?_)
   refine l_run f rfl rfl hc_10 ?_
   refine l_len Tryd.underlying27 f rfl rfl h0_0 (fun a f => ?_)
   refine l_run f rfl rfl hc_10 ?_
   refine l_op f rfl rfl rfl (r_int (f.eval rfl) (f.eval rfl) b_neq) (fun a f => ?_)
   refine l_op f rfl rfl rfl (r_pickF (f.eval rfl) hc_10 (f.eval rfl)) (fun a f => ?_)
   exact ⟨_, (GLe.refl _), m, f.weak ⟨rfl, rfl, rfl, rfl, rfl, rfl, rfl, by rw [hc_10]; rfl, trivial⟩⟩
 ·rintro a w ⟨G_11, hl_12, m, f⟩
  have h0_0 := RSl.mono (RSl.mono (RI.mono _)) _ _ _ _ hl_12 h0_0
  have h1 := RSl.mono (RI.mono _) _ _ _ _ hl_12 h1
  refine l_nil ?_
  rcases cond_some hd with ⟨hc_13, hd⟩ | ⟨hc_13, hd⟩
  ·refine k_true f rfl hc_13 ?_
   refine k_seq ?_
   refine k_region ?_
   refine l_op f rfl rfl rfl (r_assign (f.eval rfl)) (fun a f => ?_)
   refine l_nil ?_
   refine k_ret ?_
   have m : Mem W G_11 w H := Mem.drop (H' := [Itm.box b_2 29 [v0_0]]) m
   obtain rfl := Option.some.inj hd
   exact ⟨[(.bool false)], ⟨f.get _ _ rfl, trivial⟩, f.defers, _, [], (GLe.trans hl_6 hl_12), m, rfl, rfl⟩
  ·refine k_false f rfl hc_13 ?_
   refine k_skip ?_
   refine k_seq ?_
   refine k_region ?_
   refine l_op f rfl rfl rfl (r_move (f.eval rfl)) (fun a f => ?_)
   refine l_res f rfl rfl Tryd.call74 (Wk.slices_Values_int64_int64 m h1) (fun v_16 G_17 Ho_20 w hl_18 m hQ_19 a f => ?_)
   obtain ⟨b_14, rfl, rfl⟩ := hQ_19
   have h0_0 := RSl.mono (RSl.mono (RI.mono _)) _ _ _ _ hl_18 h0_0
   have h1 := RSl.mono (RI.mono _) _ _ _ _ hl_18 h1
   have m : Mem W G_17 w (Itm.box b_14 31 [v1] :: Itm.box b_2 29 [v0_0] :: H) := m
   obtain ⟨y_21, hy_22, hd⟩ := bind_some hd
   refine l_res f rfl rfl Tryd.call73 (Wk.slices_Sorted_int64 m h1 hy_22) (fun v_26 G_23 Ho_27 w hl_24 m hQ_25 a f => ?_)
   obtain ⟨v_31, it_28, rfl, rfl, o_29⟩ := hQ_25
   have h0_0 := RSl.mono (RSl.mono (RI.mono _)) _ _ _ _ hl_24 h0_0
   have h1 := RSl.mono (RI.mono _) _ _ _ _ hl_24 h1
   have m : Mem W G_23 w (it_28 :: Itm.box b_2 29 [v0_0] :: H) := m
   refine l_op f rfl rfl rfl (r_assign (f.eval rfl)) (fun a f => ?_)
   refine l_nil ?_
   refine k_seq ?_
   refine k_region ?_
   refine l_op f rfl rfl rfl (r_move (f.eval rfl)) (fun a f => ?_)
   refine l_fieldAddr Tryd.underlying29 rfl Tryd.sizeOf27 (by decide) f rfl rfl (fun a f => ?_)
   refine l_boxCell 1 0 m Pl27 f rfl rfl rfl rfl (fun a f => ?_)
   refine l_len Tryd.underlying27 f rfl rfl h0_0 (fun a f => ?_)
   obtain ⟨y_32, hy_33, hd⟩ := bind_some hd
   refine l_res f rfl rfl Tryd.call56 (Ow.lendCall (RI.mono _) 0 o_29 m rfl (fun G_34 hl_35 m h_36 => Wk.impl_increasing m h_36 hy_33) (fun _ _ _ _ h => h)) (fun v_40 G_37 Ho_41 w hl_38 m hQ_39 a f => ?_)
   obtain ⟨rfl, rfl⟩ := hQ_39
   have h0_0 := RSl.mono (RSl.mono (RI.mono _)) _ _ _ _ hl_38 h0_0
   have h1 := RSl.mono (RI.mono _) _ _ _ _ hl_38 h1
   have o_29 := Ow.mono (RI.mono _) hl_38 o_29
   have m : Mem W G_37 w (it_28 :: Itm.box b_2 29 [v0_0] :: H) := m
   refine l_op f rfl rfl rfl (r_assign (f.eval rfl)) (fun a f => ?_)
   refine l_nil ?_
   refine k_ret ?_
   have m : Mem W G_37 w H := Mem.drop (H' := [it_28, Itm.box b_2 29 [v0_0]]) m
   obtain rfl := Option.some.inj hd
   exact ⟨[(.bool y_32)], ⟨f.get _ _ rfl, trivial⟩, f.defers, _, [], (GLe.trans hl_6 (GLe.trans hl_12 (GLe.trans hl_18 (GLe.trans hl_24 hl_38)))), m, rfl, rfl⟩

end Go.Proofs.YtehnblgkgaakeaaDoor
