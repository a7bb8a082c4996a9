/- Parts of the proof: EAW. -/
import Derived.Test.YtehnblgkgaakeaaDoorPb3
import Derived.Test.YtehnblgkgaakeaaDoorProg
import Derived.KernelRfl
set_option linter.unusedVariables false
set_option linter.unusedSimpArgs false
set_option linter.unusedSectionVars false
set_option maxRecDepth 100000
namespace Go.Proofs.YtehnblgkgaakeaaDoor
open Go Go.Sx
theorem Wk.slices_breakPatternsOrdered_int64 {W w : World} {G : GH} {H : List Itm} {v0 : Value} {it0 : Itm} {x0 : (List Int)} {x1 : Int} {x2 : Int} (m : Mem W G w (it0 :: H)) (o0 : Ow (RI .i64) 2 G it0 v0 x0) {y : ((List Int))} (hd : D.slices_breakPatternsOrdered_int64 x0 x1 x2 = some y) :
  Calls Tryd.prog 134 #[v0, (.int .i64 x1), (.int .i64 x2)] w (Res W G H (fun G' Ho _ => ∃ i0 : Itm, Ho = [i0] ∧ Ow (RI .i64) 2 G' i0 v0 y)) := by
 refine calls_b (args := [v0, (.int .i64 x1), (.int .i64 x2)]) (N := 65) [] Tryd.func134 rfl rfl (Nat.le_of_ble_eq_true rfl) rfl (fun a f => ?_)
 unfold D.slices_breakPatternsOrdered_int64 at hd
 refine k_seq ?_
 refine k_region ?_
 refine l_op f rfl rfl rfl (r_move (f.eval rfl)) (fun a f => ?_)
 refine l_op f rfl rfl rfl (r_move (f.eval rfl)) (fun a f => ?_)
 refine l_op f rfl rfl rfl (r_int (f.eval rfl) (f.eval rfl) b_sub) (fun a f => ?_)
 refine l_op f rfl rfl rfl (r_assign (f.eval rfl)) (fun a f => ?_)
 refine l_nil ?_
 refine k_seq ?_
 refine k_region ?_
 refine l_op f rfl rfl rfl (r_move (f.eval rfl)) (fun a f => ?_)
 refine l_op f rfl rfl rfl (r_int (f.eval rfl) (f.eval rfl) b_geq) (fun a f => ?_)
 refine l_nil ?_
 rcases cond_some hd with ⟨hc_1, hd⟩ | ⟨hc_1, hd⟩
 ·refine k_true f rfl hc_1 ?_
  refine k_seq ?_
  refine k_region ?_
  refine l_op f rfl rfl rfl (r_move (f.eval rfl)) (fun a f => ?_)
  refine l_op f rfl rfl rfl (r_conv (f.eval rfl) ⟨_, Tryd.underlying3⟩ Tryd.underlying145) (fun a f => ?_)
  refine l_alloc (cs := [(.int .u64 0)]) Tryd.zeroValue145 m f rfl rfl (fun b_3 w a m f => ?_)
  refine l_boxStore 0 0 (ds := [(.int .u64 (IntKind.u64.wrap (IntKind.i64.wrap (x2 - x1))))]) m Tryd.sizeOf145 f rfl rfl rfl (ones_cons rfl ones_nil) rfl (Nat.le_of_ble_eq_true rfl) rfl (fun w m => ?_)
  have m : Mem W G w (Itm.box b_3 145 [(.int .u64 (IntKind.u64.wrap (IntKind.i64.wrap (x2 - x1))))] :: it0 :: H) := m
  refine l_nil ?_
  refine k_seq ?_
  refine k_region ?_
  refine l_op f rfl rfl rfl (r_move (f.eval rfl)) (fun a f => ?_)
  obtain ⟨y_4, hy_5, hd⟩ := bind_some hd
  refine l_res f rfl rfl Tryd.call144 (Wk.slices_nextPowerOfTwo m  hy_5) (fun v_9 G_6 Ho_10 w hl_7 m hQ_8 a f => ?_)
  obtain ⟨rfl, rfl⟩ := hQ_8
  have o0 := Ow.mono (RI.mono _) hl_7 o0
  have m : Mem W G_6 w (Itm.box b_3 145 [(.int .u64 (IntKind.u64.wrap (IntKind.i64.wrap (x2 - x1))))] :: it0 :: H) := m
  refine l_op f rfl rfl rfl (r_assign (f.eval rfl)) (fun a f => ?_)
  refine l_nil ?_
  refine k_seq ?_
  refine k_region ?_
  refine l_op f rfl rfl rfl (r_move (f.eval rfl)) (fun a f => ?_)
  refine l_op f rfl rfl rfl (r_move (f.eval rfl)) (fun a f => ?_)
  refine l_op f rfl rfl rfl (r_int (f.eval rfl) (f.eval rfl) (b_quo rfl)) (fun a f => ?_)
  refine l_op f rfl rfl rfl (r_int (f.eval rfl) (f.eval rfl) b_mul) (fun a f => ?_)
  refine l_op f rfl rfl rfl (r_int (f.eval rfl) (f.eval rfl) b_add) (fun a f => ?_)
  refine l_op f rfl rfl rfl (r_int (f.eval rfl) (f.eval rfl) b_sub) (fun a f => ?_)
  refine l_op f rfl rfl rfl (r_assign (f.eval rfl)) (fun a f => ?_)
  refine l_nil ?_
  obtain ⟨q_99, hl_100, hd⟩ := bind_some hd
  refine k_cut (fun a w => ∃ l_154 : List Int, l_154 = q_99 ∧ ∃ (G_153 : GH) (it_155 : Itm), GLe G_6 G_153 ∧ Fr a 65 [] ∧ Mem W G_153 w (it_155 :: H) ∧ Ow (RI .i64) 2 G_153 it_155 v0 l_154) ?_ ?_
  ·refine k_block ?_
   have m : Mem W G_6 w (it0 :: Itm.box b_3 145 [(.int .u64 (IntKind.u64.wrap (IntKind.i64.wrap (x2 - x1))))] :: H) := m.front 1 rfl
   have m : Mem W G_6 w (Itm.box b_3 145 [(.int .u64 (IntKind.u64.wrap (IntKind.i64.wrap (x2 - x1))))] :: it0 :: H) := m.front 1 rfl
   refine k_loop (fun s_103 a w => ∃ l_106 : List Int, ∃ x_109 : Int, ∃ x_110 : Int, (l_106, x_109, x_110) = s_103 ∧ ∃ (G_105 : GH) (it_107 : Itm), GLe G_6 G_105 ∧ Fr a 65 [(0, v0), (1, (.int .i64 x1)), (6, (.int .i64 (IntKind.i64.wrap (x2 - x1)))), (7, (.pointer (some ⟨b_3, 0, none⟩))), (8, (.int .u64 y_4)), (9, (.int .i64 x_109))] ∧ Mem W G_105 w (Itm.box b_3 145 [(.int .u64 x_110)] :: it_107 :: H) ∧ Ow (RI .i64) 2 G_105 it_107 v0 l_106) hl_100 ⟨_, _, _, rfl, _, it0, (GLe.refl _), f.weak ⟨rfl, rfl, rfl, rfl, rfl, rfl, trivial⟩, m, o0⟩ ?_
   clear hl_100 f m
   rintro s_103 o_104 hs_101 hq_102 a w ⟨l_106, x_109, x_110, rfl, G_105, it_107, hl_111, f, m, o_108⟩
   refine k_seq ?_
   refine k_seq ?_
   refine k_region ?_
   refine l_op f rfl rfl rfl (r_move (f.eval rfl)) (fun a f => ?_)
   refine l_op f rfl rfl rfl (r_move (f.eval rfl)) (fun a f => ?_)
   refine l_op f rfl rfl rfl (r_move (f.eval rfl)) (fun a f => ?_)
   refine l_op f rfl rfl rfl (r_int (f.eval rfl) (f.eval rfl) (b_quo rfl)) (fun a f => ?_)
   refine l_op f rfl rfl rfl (r_int (f.eval rfl) (f.eval rfl) b_mul) (fun a f => ?_)
   refine l_op f rfl rfl rfl (r_int (f.eval rfl) (f.eval rfl) b_add) (fun a f => ?_)
   refine l_op f rfl rfl rfl (r_int (f.eval rfl) (f.eval rfl) b_add) (fun a f => ?_)
   refine l_op f rfl rfl rfl (r_int (f.eval rfl) (f.eval rfl) b_leq) (fun a f => ?_)
   refine l_nil ?_
   rcases cond_some hs_101 with ⟨hc_158, hs_101⟩ | ⟨hc_158, hs_101⟩
   ·refine k_true f rfl hc_158 ?_
    refine k_skip ?_
    refine k_seq ?_
    refine k_block ?_
    refine k_seq ?_
    refine k_region ?_
    obtain ⟨y_159, hy_160, hs_101⟩ := bind_some hs_101
    refine l_res f rfl rfl Tryd.call145 (Wk.slices_xorshift_Next m  hy_160) (fun v_164 G_161 Ho_165 w hl_162 m hQ_163 a f => ?_)
    obtain ⟨rfl, rfl⟩ := hQ_163
    have o_108 := Ow.mono (RI.mono _) hl_162 o_108
    have m : Mem W G_161 w (Itm.box b_3 145 [(.int .u64 y_159.2)] :: it_107 :: H) := m
    refine l_op f rfl rfl rfl (r_move (f.eval rfl)) (fun a f => ?_)
    refine l_op f rfl rfl rfl (r_int (f.eval rfl) (f.eval rfl) b_sub) (fun a f => ?_)
    refine l_op f rfl rfl rfl (r_int (f.eval rfl) (f.eval rfl) b_and) (fun a f => ?_)
    refine l_op f rfl rfl rfl (r_conv (f.eval rfl) ⟨_, Tryd.underlying111⟩ Tryd.underlying3) (fun a f => ?_)
    refine l_op f rfl rfl rfl (r_assign (f.eval rfl)) (fun a f => ?_)
    refine l_nil ?_
    refine k_seq ?_
    refine k_seq ?_
    refine k_region ?_
    refine l_op f rfl rfl rfl (r_move (f.eval rfl)) (fun a f => ?_)
    refine l_op f rfl rfl rfl (r_move (f.eval rfl)) (fun a f => ?_)
    refine l_op f rfl rfl rfl (r_int (f.eval rfl) (f.eval rfl) b_geq) (fun a f => ?_)
    refine l_nil ?_
    obtain ⟨j_167, hj_168, hs_101⟩ := bind_some hs_101
    refine k_cut (fun a w => ∃ x_170 : Int, x_170 = j_167 ∧ ∃ (G_169 : GH), GLe G_161 G_169 ∧ Fr a 65 [(0, v0), (1, (.int .i64 x1)), (6, (.int .i64 (IntKind.i64.wrap (x2 - x1)))), (7, (.pointer (some ⟨b_3, 0, none⟩))), (8, (.int .u64 y_4)), (9, (.int .i64 x_109)), (10, (.int .i64 x_170))] ∧ Mem W G_169 w (Itm.box b_3 145 [(.int .u64 y_159.2)] :: it_107 :: H)) ?_ ?_
    ·rcases cond_some hj_168 with ⟨hc_172, hj_168⟩ | ⟨hc_172, hj_168⟩
     ·refine k_true f rfl hc_172 ?_
      refine k_region ?_
      refine l_op f rfl rfl rfl (r_move (f.eval rfl)) (fun a f => ?_)
      refine l_op f rfl rfl rfl (r_move (f.eval rfl)) (fun a f => ?_)
      refine l_op f rfl rfl rfl (r_int (f.eval rfl) (f.eval rfl) b_sub) (fun a f => ?_)
      refine l_op f rfl rfl rfl (r_assign (f.eval rfl)) (fun a f => ?_)
      refine l_nil ?_
      have m : Mem W G_161 w (it_107 :: Itm.box b_3 145 [(.int .u64 y_159.2)] :: H) := m.front 1 rfl
      have m : Mem W G_161 w (Itm.box b_3 145 [(.int .u64 y_159.2)] :: it_107 :: H) := m.front 1 rfl
      obtain rfl := Option.some.inj hj_168
      exact ⟨_, rfl, _, (GLe.refl _), f.weak ⟨rfl, rfl, rfl, rfl, rfl, rfl, rfl, trivial⟩, m⟩
     ·refine k_false f rfl hc_172 ?_
      refine k_skip ?_
      have m : Mem W G_161 w (it_107 :: Itm.box b_3 145 [(.int .u64 y_159.2)] :: H) := m.front 1 rfl
      have m : Mem W G_161 w (Itm.box b_3 145 [(.int .u64 y_159.2)] :: it_107 :: H) := m.front 1 rfl
      obtain rfl := Option.some.inj hj_168
      exact ⟨_, rfl, _, (GLe.refl _), f.weak ⟨rfl, rfl, rfl, rfl, rfl, rfl, rfl, trivial⟩, m⟩
    ·rintro a w ⟨x_170, rfl, G_169, hl_171, f, m⟩
     have o_108 := Ow.mono (RI.mono _) hl_171 o_108
     refine k_draw0 Follows m ?_
     refine p_op (i := 2) (listed' := #[false, false, true, false, false, false, false, false, false, false, false, false, false, false, false, false, false, false, false, false]) rfl (by kernel_rfl) rfl f rfl rfl rfl (fun _ => r_move (f.eval rfl)) (fun a f => ?_)
     refine p_op (i := 3) (listed' := #[false, false, true, true, false, false, false, false, false, false, false, false, false, false, false, false, false, false, false, false]) rfl (by kernel_rfl) rfl f rfl rfl rfl (fun _ => r_move (f.eval rfl)) (fun a f => ?_)
     refine p_op (i := 4) (listed' := #[false, false, true, true, true, false, false, false, false, false, false, false, false, false, false, false, false, false, false, false]) rfl (by kernel_rfl) rfl f rfl rfl rfl (fun _ => r_move (f.eval rfl)) (fun a f => ?_)
     refine p_op (i := 5) (listed' := #[false, false, true, true, true, true, false, false, false, false, false, false, false, false, false, false, false, false, false, false]) rfl (by kernel_rfl) rfl f rfl rfl rfl (fun _ => r_int (f.eval rfl) (f.eval rfl) b_add) (fun a f => ?_)
     refine k_draw1 60017 13 (by kernel_rfl) rfl ?_
     refine q_op (i := 0) (listed' := #[true, false, true, true, true, true, false, false, false, false, false, false, false, false, false, false, false, false, false, false]) 60017 rfl (by kernel_rfl) rfl f rfl rfl rfl (fun _ _ _ _ _ => r_move (f.eval rfl)) (fun a f => ?_)
     refine q_op (i := 1) (listed' := #[true, true, true, true, true, true, false, false, false, false, false, false, false, false, false, false, false, false, false, false]) 60017 rfl (by kernel_rfl) rfl f rfl rfl rfl (fun _ _ _ _ _ => r_move (f.eval rfl)) (fun a f => ?_)
     refine q_op (i := 6) (listed' := #[true, true, true, true, true, true, true, false, false, false, false, false, false, false, false, false, false, false, false, false]) 60017 rfl (by kernel_rfl) rfl f rfl rfl rfl (fun _ _ _ _ _ => r_move (f.eval rfl)) (fun a f => ?_)
     refine q_op (i := 7) (listed' := #[true, true, true, true, true, true, true, true, false, false, false, false, false, false, false, false, false, false, false, false]) 60017 rfl (by kernel_rfl) rfl f rfl rfl rfl (fun _ _ _ _ _ => r_move (f.eval rfl)) (fun a f => ?_)
     refine q_op (i := 8) (listed' := #[true, true, true, true, true, true, true, true, true, false, false, false, false, false, false, false, false, false, false, false]) 60017 rfl (by kernel_rfl) rfl f rfl rfl rfl (fun _ _ _ _ _ => r_move (f.eval rfl)) (fun a f => ?_)
     refine q_op (i := 9) (listed' := #[true, true, true, true, true, true, true, true, true, true, false, false, false, false, false, false, false, false, false, false]) 60017 rfl (by kernel_rfl) rfl f rfl rfl rfl (fun _ _ _ _ _ => r_int (f.eval rfl) (f.eval rfl) b_add) (fun a f => ?_)
     obtain ⟨e_173, he_174, hs_101⟩ := bind_some hs_101
     refine q_own_at (i := 10) (listed' := #[true, true, true, true, true, true, true, true, true, true, true, false, false, false, false, false, false, false, false, false]) 60017 1 m o_108 rfl T31 he_174 rfl (by kernel_rfl) rfl f rfl rfl rfl rfl (fun p_175 a ha_176 f => ?_)
     refine q_own_load (i := 11) (listed' := #[true, true, true, true, true, true, true, true, true, true, true, true, false, false, false, false, false, false, false, false]) 60017 1 o_108 rfl Pl2 ha_176 he_174 rfl (by kernel_rfl) rfl f rfl rfl rfl (fun c_177 a h_178 f => ?_)
     subst h_178
     refine q_op (i := 12) (listed' := #[true, true, true, true, true, true, true, true, true, true, true, true, true, false, false, false, false, false, false, false]) 60017 rfl (by kernel_rfl) rfl f rfl rfl rfl (fun _ _ _ _ _ => r_move (f.eval rfl)) (fun a f => ?_)
     refine q_op (i := 13) (listed' := #[true, true, true, true, true, true, true, true, true, true, true, true, true, true, false, false, false, false, false, false]) 60017 rfl (by kernel_rfl) rfl f rfl rfl rfl (fun _ _ _ _ _ => r_move (f.eval rfl)) (fun a f => ?_)
     obtain ⟨e_179, he_180, hs_101⟩ := bind_some hs_101
     refine q_own_at (i := 14) (listed' := #[true, true, true, true, true, true, true, true, true, true, true, true, true, true, true, false, false, false, false, false]) 60017 1 m o_108 rfl T31 he_180 rfl (by kernel_rfl) rfl f rfl rfl rfl rfl (fun p_181 a ha_182 f => ?_)
     refine q_own_load (i := 15) (listed' := #[true, true, true, true, true, true, true, true, true, true, true, true, true, true, true, true, false, false, false, false]) 60017 1 o_108 rfl Pl2 ha_182 he_180 rfl (by kernel_rfl) rfl f rfl rfl rfl (fun c_183 a h_184 f => ?_)
     subst h_184
     obtain ⟨e_185, he_186, hs_101⟩ := bind_some hs_101
     refine q_own_at (i := 16) (listed' := #[true, true, true, true, true, true, true, true, true, true, true, true, true, true, true, true, true, false, false, false]) 60017 1 m o_108 rfl T31 he_186 rfl (by kernel_rfl) rfl f rfl rfl rfl rfl (fun p_187 a ha_188 f => ?_)
     refine q_end (fun G_189 w hl_190 m => ?_)
     have o_108 := Ow.mono (RI.mono _) hl_190 o_108
     have m : Mem W G_189 w (Itm.box b_3 145 [(.int .u64 y_159.2)] :: it_107 :: H) := m
     refine l_own_store 1 m o_108 rfl Tryd.sizeOf2 f rfl rfl ha_188 he_186 rfl rfl rfl (fun it_191 w m o_192 => ?_)
     have m : Mem W G_189 w (Itm.box b_3 145 [(.int .u64 y_159.2)] :: it_191 :: H) := m
     obtain ⟨e_193, he_194, hs_101⟩ := bind_some hs_101
     refine l_own_at 1 m o_192 rfl T31 f rfl rfl rfl he_194 (fun p_195 a ha_196 f => ?_)
     refine l_own_store 1 m o_192 rfl Tryd.sizeOf2 f rfl rfl ha_196 he_194 rfl rfl rfl (fun it_197 w m o_198 => ?_)
     have m : Mem W G_189 w (Itm.box b_3 145 [(.int .u64 y_159.2)] :: it_197 :: H) := m
     refine l_nil ?_
     refine k_region ?_
     refine l_op f rfl rfl rfl (r_move (f.eval rfl)) (fun a f => ?_)
     refine l_op f rfl rfl rfl (r_int (f.eval rfl) (f.eval rfl) b_add) (fun a f => ?_)
     refine l_op f rfl rfl rfl (r_assign (f.eval rfl)) (fun a f => ?_)
     refine l_nil ?_
     have m : Mem W G_189 w (it_197 :: Itm.box b_3 145 [(.int .u64 y_159.2)] :: H) := m.front 1 rfl
     have m : Mem W G_189 w (Itm.box b_3 145 [(.int .u64 y_159.2)] :: it_197 :: H) := m.front 1 rfl
     obtain rfl := Option.some.inj hs_101
     exact ⟨_, rfl, _, _, _, rfl, _, it_197, (GLe.trans hl_111 (GLe.trans hl_162 (GLe.trans hl_171 hl_190))), f.weak ⟨rfl, rfl, rfl, rfl, rfl, rfl, trivial⟩, m, o_198⟩
   ·refine k_false f rfl hc_158 ?_
    refine k_exit rfl ?_
    have m : Mem W G_105 w (it_107 :: Itm.box b_3 145 [(.int .u64 x_110)] :: H) := m.front 1 rfl
    have m : Mem W G_105 w (it_107 :: H) := m.eraseAt 1
    obtain rfl := Option.some.inj hs_101
    obtain rfl := hq_102 _ rfl
    exact ⟨_, rfl, _, it_107, hl_111, f.weak trivial, m, o_108⟩
  ·rintro a w ⟨l_154, rfl, G_153, it_155, hl_157, f, m, o_156⟩
   obtain rfl := Option.some.inj hd
   exact ⟨[], trivial, f.defers, _, [it_155], (GLe.trans hl_7 hl_157), m, _, rfl, o_156⟩
 ·refine k_false f rfl hc_1 ?_
  refine k_skip ?_
  obtain rfl := Option.some.inj hd
  exact ⟨[], trivial, f.defers, _, [it0], (GLe.refl _), m, _, rfl, o0⟩

theorem Wk.slices_choosePivotOrdered_int64 {W w : World} {G : GH} {H : List Itm} {v0 : Value} {it0 : Itm} {x0 : (List Int)} {x1 : Int} {x2 : Int} (m : Mem W G w (it0 :: H)) (o0 : Ow (RI .i64) 2 G it0 v0 x0) {y : Int × Int × ((List Int))} (hd : D.slices_choosePivotOrdered_int64 x0 x1 x2 = some y) :
  Calls Tryd.prog 135 #[v0, (.int .i64 x1), (.int .i64 x2)] w (Res W G H (fun G' Ho v => ∃ i0 : Itm, Ho = [i0] ∧ v = .tuple #[(.int .i64 y.1), (.int .i64 y.2.1)] ∧ Ow (RI .i64) 2 G' i0 v0 y.2.2)) := by
 refine calls_b (args := [v0, (.int .i64 x1), (.int .i64 x2)]) (N := 57) [.tmp 6, .tmp 7] Tryd.func135 rfl rfl (Nat.le_of_ble_eq_true rfl) rfl (fun a f => ?_)
 unfold D.slices_choosePivotOrdered_int64 at hd
 refine k_seq ?_
 refine k_region ?_
 refine l_op f rfl rfl rfl (r_assign (f.eval rfl)) (fun a f => ?_)
 refine l_op f rfl rfl rfl (r_assign (f.eval rfl)) (fun a f => ?_)
 refine l_nil ?_
 refine k_seq ?_
 refine k_region ?_
 refine l_op f rfl rfl rfl (r_move (f.eval rfl)) (fun a f => ?_)
 refine l_op f rfl rfl rfl (r_move (f.eval rfl)) (fun a f => ?_)
 refine l_op f rfl rfl rfl (r_int (f.eval rfl) (f.eval rfl) b_sub) (fun a f => ?_)
 refine l_op f rfl rfl rfl (r_assign (f.eval rfl)) (fun a f => ?_)
 refine l_nil ?_
 refine k_seq ?_
 refine k_region ?_
 refine l_alloc (cs := [(.int .i64 0)]) Tryd.zeroValue3 m f rfl rfl (fun b_2 w a m f => ?_)
 refine l_nil ?_
 refine k_seq ?_
 refine k_region ?_
 refine l_op f rfl rfl rfl (r_move (f.eval rfl)) (fun a f => ?_)
 refine l_op f rfl rfl rfl (r_move (f.eval rfl)) (fun a f => ?_)
 refine l_op f rfl rfl rfl (r_int (f.eval rfl) (f.eval rfl) (b_quo rfl)) (fun a f => ?_)
 refine l_op f rfl rfl rfl (r_int (f.eval rfl) (f.eval rfl) b_mul) (fun a f => ?_)
 refine l_op f rfl rfl rfl (r_int (f.eval rfl) (f.eval rfl) b_add) (fun a f => ?_)
 refine l_op f rfl rfl rfl (r_assign (f.eval rfl)) (fun a f => ?_)
 refine l_nil ?_
 refine k_seq ?_
 refine k_region ?_
 refine l_op f rfl rfl rfl (r_move (f.eval rfl)) (fun a f => ?_)
 refine l_op f rfl rfl rfl (r_move (f.eval rfl)) (fun a f => ?_)
 refine l_op f rfl rfl rfl (r_int (f.eval rfl) (f.eval rfl) (b_quo rfl)) (fun a f => ?_)
 refine l_op f rfl rfl rfl (r_int (f.eval rfl) (f.eval rfl) b_mul) (fun a f => ?_)
 refine l_op f rfl rfl rfl (r_int (f.eval rfl) (f.eval rfl) b_add) (fun a f => ?_)
 refine l_op f rfl rfl rfl (r_assign (f.eval rfl)) (fun a f => ?_)
 refine l_nil ?_
 refine k_seq ?_
 refine k_region ?_
 refine l_op f rfl rfl rfl (r_move (f.eval rfl)) (fun a f => ?_)
 refine l_op f rfl rfl rfl (r_move (f.eval rfl)) (fun a f => ?_)
 refine l_op f rfl rfl rfl (r_int (f.eval rfl) (f.eval rfl) (b_quo rfl)) (fun a f => ?_)
 refine l_op f rfl rfl rfl (r_int (f.eval rfl) (f.eval rfl) b_mul) (fun a f => ?_)
 refine l_op f rfl rfl rfl (r_int (f.eval rfl) (f.eval rfl) b_add) (fun a f => ?_)
 refine l_op f rfl rfl rfl (r_assign (f.eval rfl)) (fun a f => ?_)
 refine l_nil ?_
 refine k_seq ?_
 refine k_seq ?_
 refine k_region ?_
 refine l_op f rfl rfl rfl (r_move (f.eval rfl)) (fun a f => ?_)
 refine l_op f rfl rfl rfl (r_int (f.eval rfl) (f.eval rfl) b_geq) (fun a f => ?_)
 refine l_nil ?_
 rcases cond_some hd with ⟨hc_3, hd⟩ | ⟨hc_3, hd⟩
 ·refine k_true f rfl hc_3 ?_
  refine k_seq ?_
  refine k_seq ?_
  refine k_region ?_
  refine l_op f rfl rfl rfl (r_move (f.eval rfl)) (fun a f => ?_)
  refine l_op f rfl rfl rfl (r_int (f.eval rfl) (f.eval rfl) b_geq) (fun a f => ?_)
  refine l_nil ?_
  obtain ⟨j_32, hj_33, hd⟩ := bind_some hd
  refine k_cut (fun a w => ∃ l_35 : List Int, ∃ x_38 : Int, ∃ x_39 : Int, ∃ x_40 : Int, ∃ x_41 : Int, (l_35, x_38, x_39, x_40, x_41) = j_32 ∧ ∃ (G_34 : GH) (it_36 : Itm), GLe G G_34 ∧ Fr a 57 [(0, v0), (9, (.pointer (some ⟨b_2, 0, none⟩))), (10, (.int .i64 x_38)), (11, (.int .i64 x_39)), (12, (.int .i64 x_40))] ∧ Mem W G_34 w (Itm.box b_2 3 [(.int .i64 x_41)] :: it_36 :: H) ∧ Ow (RI .i64) 2 G_34 it_36 v0 l_35) ?_ ?_
  ·rcases cond_some hj_33 with ⟨hc_43, hj_33⟩ | ⟨hc_43, hj_33⟩
   ·refine k_true f rfl hc_43 ?_
    refine k_seq ?_
    refine k_region ?_
    refine l_op f rfl rfl rfl (r_move (f.eval rfl)) (fun a f => ?_)
    refine l_op f rfl rfl rfl (r_move (f.eval rfl)) (fun a f => ?_)
    have m : Mem W G w (it0 :: Itm.box b_2 3 [(.int .i64 0)] :: H) := m.front 1 rfl
    obtain ⟨y_44, hy_45, hj_33⟩ := bind_some hj_33
    refine l_res f rfl rfl Tryd.call146 (Wk.slices_medianAdjacentOrdered_int64 m o0 hy_45) (fun v_49 G_46 Ho_50 w hl_47 m hQ_48 a f => ?_)
    obtain ⟨it_51, rfl, rfl, o_52⟩ := hQ_48
    have m : Mem W G_46 w (it_51 :: Itm.box b_2 3 [(.int .i64 y_44.2.2)] :: H) := m
    refine l_op f rfl rfl rfl (r_assign (f.eval rfl)) (fun a f => ?_)
    refine l_nil ?_
    refine k_seq ?_
    refine k_region ?_
    refine l_op f rfl rfl rfl (r_move (f.eval rfl)) (fun a f => ?_)
    refine l_op f rfl rfl rfl (r_move (f.eval rfl)) (fun a f => ?_)
    have m : Mem W G_46 w (Itm.box b_2 3 [(.int .i64 y_44.2.2)] :: it_51 :: H) := m.front 1 rfl
    have m : Mem W G_46 w (it_51 :: Itm.box b_2 3 [(.int .i64 y_44.2.2)] :: H) := m.front 1 rfl
    obtain ⟨y_53, hy_54, hj_33⟩ := bind_some hj_33
    refine l_res f rfl rfl Tryd.call146 (Wk.slices_medianAdjacentOrdered_int64 m o_52 hy_54) (fun v_58 G_55 Ho_59 w hl_56 m hQ_57 a f => ?_)
    obtain ⟨it_60, rfl, rfl, o_61⟩ := hQ_57
    have m : Mem W G_55 w (it_60 :: Itm.box b_2 3 [(.int .i64 y_53.2.2)] :: H) := m
    refine l_op f rfl rfl rfl (r_assign (f.eval rfl)) (fun a f => ?_)
    refine l_nil ?_
    refine k_region ?_
    refine l_op f rfl rfl rfl (r_move (f.eval rfl)) (fun a f => ?_)
    refine l_op f rfl rfl rfl (r_move (f.eval rfl)) (fun a f => ?_)
    have m : Mem W G_55 w (Itm.box b_2 3 [(.int .i64 y_53.2.2)] :: it_60 :: H) := m.front 1 rfl
    have m : Mem W G_55 w (it_60 :: Itm.box b_2 3 [(.int .i64 y_53.2.2)] :: H) := m.front 1 rfl
    obtain ⟨y_62, hy_63, hj_33⟩ := bind_some hj_33
    refine l_res f rfl rfl Tryd.call146 (Wk.slices_medianAdjacentOrdered_int64 m o_61 hy_63) (fun v_67 G_64 Ho_68 w hl_65 m hQ_66 a f => ?_)
    obtain ⟨it_69, rfl, rfl, o_70⟩ := hQ_66
    have m : Mem W G_64 w (it_69 :: Itm.box b_2 3 [(.int .i64 y_62.2.2)] :: H) := m
    refine l_op f rfl rfl rfl (r_assign (f.eval rfl)) (fun a f => ?_)
    refine l_nil ?_
    have m : Mem W G_64 w (Itm.box b_2 3 [(.int .i64 y_62.2.2)] :: it_69 :: H) := m.front 1 rfl
    obtain rfl := Option.some.inj hj_33
    exact ⟨_, _, _, _, _, rfl, _, it_69, (GLe.trans hl_47 (GLe.trans hl_56 hl_65)), f.weak ⟨rfl, rfl, rfl, rfl, rfl, trivial⟩, m, o_70⟩
   ·refine k_false f rfl hc_43 ?_
    refine k_skip ?_
    have m : Mem W G w (it0 :: Itm.box b_2 3 [(.int .i64 0)] :: H) := m.front 1 rfl
    have m : Mem W G w (Itm.box b_2 3 [(.int .i64 0)] :: it0 :: H) := m.front 1 rfl
    obtain rfl := Option.some.inj hj_33
    exact ⟨_, _, _, _, _, rfl, _, it0, (GLe.refl _), f.weak ⟨rfl, rfl, rfl, rfl, rfl, trivial⟩, m, o0⟩
  ·rintro a w ⟨l_35, x_38, x_39, x_40, x_41, rfl, G_34, it_36, hl_42, f, m, o_37⟩
   refine k_region ?_
   refine l_op f rfl rfl rfl (r_move (f.eval rfl)) (fun a f => ?_)
   refine l_op f rfl rfl rfl (r_move (f.eval rfl)) (fun a f => ?_)
   refine l_op f rfl rfl rfl (r_move (f.eval rfl)) (fun a f => ?_)
   refine l_op f rfl rfl rfl (r_move (f.eval rfl)) (fun a f => ?_)
   have m : Mem W G_34 w (it_36 :: Itm.box b_2 3 [(.int .i64 x_41)] :: H) := m.front 1 rfl
   obtain ⟨y_71, hy_72, hd⟩ := bind_some hd
   refine l_res f rfl rfl Tryd.call147 (Wk.slices_medianOrdered_int64 m o_37 hy_72) (fun v_76 G_73 Ho_77 w hl_74 m hQ_75 a f => ?_)
   obtain ⟨it_78, rfl, rfl, o_79⟩ := hQ_75
   have m : Mem W G_73 w (it_78 :: Itm.box b_2 3 [(.int .i64 y_71.2.2)] :: H) := m
   refine l_op f rfl rfl rfl (r_assign (f.eval rfl)) (fun a f => ?_)
   refine l_nil ?_
   refine k_seq ?_
   refine k_region ?_
   refine l_boxCell 1 0 m Pl3 f rfl rfl rfl rfl (fun a f => ?_)
   refine l_nil ?_
   refine k_block ?_
   refine k_seq ?_
   refine k_region ?_
   refine l_op f rfl rfl rfl (r_int (f.eval rfl) (f.eval rfl) b_eql) (fun a f => ?_)
   refine l_op f rfl rfl rfl (r_assign (f.eval rfl)) (fun a f => ?_)
   refine l_nil ?_
   rcases cond_some hd with ⟨hc_80, hd⟩ | ⟨hc_80, hd⟩
   ·refine k_true f rfl hc_80 ?_
    refine k_seq ?_
    refine k_region ?_
    refine l_op f rfl rfl rfl (r_move (f.eval rfl)) (fun a f => ?_)
    refine l_op f rfl rfl rfl (r_assign (f.eval rfl)) (fun a f => ?_)
    refine l_op f rfl rfl rfl (r_assign (f.eval rfl)) (fun a f => ?_)
    refine l_nil ?_
    refine k_ret ?_
    have m : Mem W G_73 w (it_78 :: H) := m.eraseAt 1
    obtain rfl := Option.some.inj hd
    exact ⟨[(.int .i64 y_71.1), (.int .i64 1)], ⟨f.get _ _ rfl, f.get _ _ rfl, trivial⟩, f.defers, _, [it_78], (GLe.trans hl_42 hl_74), m, _, rfl, rfl, o_79⟩
   ·refine k_false f rfl hc_80 ?_
    refine k_seq ?_
    refine k_region ?_
    refine l_op f rfl rfl rfl (r_int (f.eval rfl) (f.eval rfl) b_eql) (fun a f => ?_)
    refine l_op f rfl rfl rfl (r_assign (f.eval rfl)) (fun a f => ?_)
    refine l_nil ?_
    rcases cond_some hd with ⟨hc_81, hd⟩ | ⟨hc_81, hd⟩
    ·refine k_true f rfl hc_81 ?_
     refine k_seq ?_
     refine k_region ?_
     refine l_op f rfl rfl rfl (r_move (f.eval rfl)) (fun a f => ?_)
     refine l_op f rfl rfl rfl (r_assign (f.eval rfl)) (fun a f => ?_)
     refine l_op f rfl rfl rfl (r_assign (f.eval rfl)) (fun a f => ?_)
     refine l_nil ?_
     refine k_ret ?_
     have m : Mem W G_73 w (it_78 :: H) := m.eraseAt 1
     obtain rfl := Option.some.inj hd
     exact ⟨[(.int .i64 y_71.1), (.int .i64 2)], ⟨f.get _ _ rfl, f.get _ _ rfl, trivial⟩, f.defers, _, [it_78], (GLe.trans hl_42 hl_74), m, _, rfl, rfl, o_79⟩
    ·refine k_false f rfl hc_81 ?_
     refine k_seq ?_
     refine k_region ?_
     refine l_op f rfl rfl rfl (r_move (f.eval rfl)) (fun a f => ?_)
     refine l_op f rfl rfl rfl (r_assign (f.eval rfl)) (fun a f => ?_)
     refine l_op f rfl rfl rfl (r_assign (f.eval rfl)) (fun a f => ?_)
     refine l_nil ?_
     refine k_ret ?_
     have m : Mem W G_73 w (it_78 :: H) := m.eraseAt 1
     obtain rfl := Option.some.inj hd
     exact ⟨[(.int .i64 y_71.1), (.int .i64 0)], ⟨f.get _ _ rfl, f.get _ _ rfl, trivial⟩, f.defers, _, [it_78], (GLe.trans hl_42 hl_74), m, _, rfl, rfl, o_79⟩
 ·refine k_false f rfl hc_3 ?_
  refine k_skip ?_
  refine k_seq ?_
  refine k_region ?_
  refine l_boxCell 0 0 m Pl3 f rfl rfl rfl rfl (fun a f => ?_)
  refine l_nil ?_
  refine k_block ?_
  refine k_seq ?_
  refine k_region ?_
  refine l_op f rfl rfl rfl (r_int (f.eval rfl) (f.eval rfl) b_eql) (fun a f => ?_)
  refine l_op f rfl rfl rfl (r_assign (f.eval rfl)) (fun a f => ?_)
  refine l_nil ?_
  rcases cond_some hd with ⟨hc_82, hd⟩ | ⟨hc_82, hd⟩
  ·refine k_true f rfl hc_82 ?_
   refine k_seq ?_
   refine k_region ?_
   refine l_op f rfl rfl rfl (r_move (f.eval rfl)) (fun a f => ?_)
   refine l_op f rfl rfl rfl (r_assign (f.eval rfl)) (fun a f => ?_)
   refine l_op f rfl rfl rfl (r_assign (f.eval rfl)) (fun a f => ?_)
   refine l_nil ?_
   refine k_ret ?_
   have m : Mem W G w (it0 :: Itm.box b_2 3 [(.int .i64 0)] :: H) := m.front 1 rfl
   have m : Mem W G w (it0 :: H) := m.eraseAt 1
   obtain rfl := Option.some.inj hd
   exact ⟨[(.int .i64 (IntKind.i64.wrap (x1 + (IntKind.i64.wrap ((IntKind.i64.wrap (Int.tdiv (IntKind.i64.wrap (x2 - x1)) 4)) * 2))))), (.int .i64 1)], ⟨f.get _ _ rfl, f.get _ _ rfl, trivial⟩, f.defers, _, [it0], (GLe.refl _), m, _, rfl, rfl, o0⟩
  ·refine k_false f rfl hc_82 ?_
   refine k_seq ?_
   refine k_region ?_
   refine l_op f rfl rfl rfl (r_int (f.eval rfl) (f.eval rfl) b_eql) (fun a f => ?_)
   refine l_op f rfl rfl rfl (r_assign (f.eval rfl)) (fun a f => ?_)
   refine l_nil ?_
   rcases cond_some hd with ⟨hc_83, hd⟩ | ⟨hc_83, hd⟩
   ·refine k_true f rfl hc_83 ?_
    refine k_seq ?_
    refine k_region ?_
    refine l_op f rfl rfl rfl (r_move (f.eval rfl)) (fun a f => ?_)
    refine l_op f rfl rfl rfl (r_assign (f.eval rfl)) (fun a f => ?_)
    refine l_op f rfl rfl rfl (r_assign (f.eval rfl)) (fun a f => ?_)
    refine l_nil ?_
    refine k_ret ?_
    have m : Mem W G w (it0 :: Itm.box b_2 3 [(.int .i64 0)] :: H) := m.front 1 rfl
    have m : Mem W G w (it0 :: H) := m.eraseAt 1
    obtain rfl := Option.some.inj hd
    exact ⟨[(.int .i64 (IntKind.i64.wrap (x1 + (IntKind.i64.wrap ((IntKind.i64.wrap (Int.tdiv (IntKind.i64.wrap (x2 - x1)) 4)) * 2))))), (.int .i64 2)], ⟨f.get _ _ rfl, f.get _ _ rfl, trivial⟩, f.defers, _, [it0], (GLe.refl _), m, _, rfl, rfl, o0⟩
   ·refine k_false f rfl hc_83 ?_
    refine k_seq ?_
    refine k_region ?_
    refine l_op f rfl rfl rfl (r_move (f.eval rfl)) (fun a f => ?_)
    refine l_op f rfl rfl rfl (r_assign (f.eval rfl)) (fun a f => ?_)
    refine l_op f rfl rfl rfl (r_assign (f.eval rfl)) (fun a f => ?_)
    refine l_nil ?_
    refine k_ret ?_
    have m : Mem W G w (it0 :: Itm.box b_2 3 [(.int .i64 0)] :: H) := m.front 1 rfl
    have m : Mem W G w (it0 :: H) := m.eraseAt 1
    obtain rfl := Option.some.inj hd
    exact ⟨[(.int .i64 (IntKind.i64.wrap (x1 + (IntKind.i64.wrap ((IntKind.i64.wrap (Int.tdiv (IntKind.i64.wrap (x2 - x1)) 4)) * 2))))), (.int .i64 0)], ⟨f.get _ _ rfl, f.get _ _ rfl, trivial⟩, f.defers, _, [it0], (GLe.refl _), m, _, rfl, rfl, o0⟩

theorem Wk.slices_pdqsortOrdered_int64R {W : World} (n : Nat) : ∀ {w : World} {G : GH} {H : List Itm} {v0 : Value} {it0 : Itm} {x0 : (List Int)} {x1 : Int} {x2 : Int} {x3 : Int} (m : Mem W G w (it0 :: H)) (o0 : Ow (RI .i64) 2 G it0 v0 x0) {y : ((List Int))} (hd : D.slices_pdqsortOrdered_int64R n x0 x1 x2 x3 = some y),
  Calls Tryd.prog 128 #[v0, (.int .i64 x1), (.int .i64 x2), (.int .i64 x3)] w (Res W G H (fun G' Ho _ => ∃ i0 : Itm, Ho = [i0] ∧ Ow (RI .i64) 2 G' i0 v0 y)) := by
 induction n with
 | zero => intros; rename_i hd; simp [D.slices_pdqsortOrdered_int64R] at hd
 | succ fuel ih =>
  intro w G H v0 it0 x0 x1 x2 x3 m o0 y hd
  refine calls_b (args := [v0, (.int .i64 x1), (.int .i64 x2), (.int .i64 x3)]) (N := 134) [] Tryd.func128 rfl rfl (Nat.le_of_ble_eq_true rfl) rfl (fun a f => ?_)
  unfold D.slices_pdqsortOrdered_int64R at hd
  refine k_seq ?_
  refine k_region ?_
  refine l_op f rfl rfl rfl (r_assign (f.eval rfl)) (fun a f => ?_)
  refine l_nil ?_
  refine k_seq ?_
  refine k_region ?_
  refine l_op f rfl rfl rfl (r_assign (f.eval rfl)) (fun a f => ?_)
  refine l_nil ?_
  obtain ⟨q_394, hl_395, hd⟩ := bind_some hd
  refine k_block ?_
  refine k_loop (fun s_398 a w => ∃ l_401 : List Int, ∃ x_404 : Int, ∃ x_405 : Int, ∃ x_406 : Int, ∃ b_407 : Bool, ∃ b_408 : Bool, (l_401, x_404, x_405, x_406, b_407, b_408) = s_398 ∧ ∃ (G_400 : GH) (it_402 : Itm), GLe G G_400 ∧ Fr a 134 [(0, v0), (1, (.int .i64 x_404)), (2, (.int .i64 x_405)), (3, (.int .i64 x_406)), (8, (.bool b_407)), (9, (.bool b_408))] ∧ Mem W G_400 w (it_402 :: H) ∧ Ow (RI .i64) 2 G_400 it_402 v0 l_401) hl_395 ⟨_, _, _, _, _, _, rfl, _, it0, (GLe.refl _), f.weak ⟨rfl, rfl, rfl, rfl, rfl, rfl, trivial⟩, m, o0⟩ ?_
  clear hl_395 f m
  rintro s_398 o_399 hs_396 hq_397 a w ⟨l_401, x_404, x_405, x_406, b_407, b_408, rfl, G_400, it_402, hl_409, f, m, o_403⟩
  refine k_block ?_
  refine k_seq ?_
  refine k_region ?_
  refine l_op f rfl rfl rfl (r_move (f.eval rfl)) (fun a f => ?_)
  refine l_op f rfl rfl rfl (r_move (f.eval rfl)) (fun a f => ?_)
  refine l_op f rfl rfl rfl (r_int (f.eval rfl) (f.eval rfl) b_sub) (fun a f => ?_)
  refine l_op f rfl rfl rfl (r_assign (f.eval rfl)) (fun a f => ?_)
  refine l_nil ?_
  refine k_seq ?_
  refine k_seq ?_
  refine k_region ?_
  refine l_op f rfl rfl rfl (r_move (f.eval rfl)) (fun a f => ?_)
  refine l_op f rfl rfl rfl (r_int (f.eval rfl) (f.eval rfl) b_leq) (fun a f => ?_)
  refine l_nil ?_
  rcases cond_some hs_396 with ⟨hc_410, hs_396⟩ | ⟨hc_410, hs_396⟩
  ·refine k_true f rfl hc_410 ?_
   refine k_seq ?_
   refine k_region ?_
   refine l_op f rfl rfl rfl (r_move (f.eval rfl)) (fun a f => ?_)
   refine l_op f rfl rfl rfl (r_move (f.eval rfl)) (fun a f => ?_)
   refine l_op f rfl rfl rfl (r_move (f.eval rfl)) (fun a f => ?_)
   obtain ⟨y_411, hy_412, hs_396⟩ := bind_some hs_396
   refine l_res f rfl rfl Tryd.call132 (Wk.slices_insertionSortOrdered_int64 m o_403 hy_412) (fun v_416 G_413 Ho_417 w hl_414 m hQ_415 a f => ?_)
   obtain ⟨it_418, rfl, o_419⟩ := hQ_415
   have m : Mem W G_413 w (it_418 :: H) := m
   refine l_nil ?_
   refine k_ret ?_
   obtain rfl := Option.some.inj hs_396
   obtain rfl := hq_397 _ rfl
   obtain rfl := Option.some.inj hd
   exact ⟨[], trivial, f.defers, _, [it_418], (GLe.trans hl_409 hl_414), m, _, rfl, o_419⟩
  ·refine k_false f rfl hc_410 ?_
   refine k_skip ?_
   refine k_seq ?_
   refine k_seq ?_
   refine k_region ?_
   refine l_op f rfl rfl rfl (r_move (f.eval rfl)) (fun a f => ?_)
   refine l_op f rfl rfl rfl (r_int (f.eval rfl) (f.eval rfl) b_eql) (fun a f => ?_)
   refine l_nil ?_
   rcases cond_some hs_396 with ⟨hc_420, hs_396⟩ | ⟨hc_420, hs_396⟩
   ·refine k_true f rfl hc_420 ?_
    refine k_seq ?_
    refine k_region ?_
    refine l_op f rfl rfl rfl (r_move (f.eval rfl)) (fun a f => ?_)
    refine l_op f rfl rfl rfl (r_move (f.eval rfl)) (fun a f => ?_)
    refine l_op f rfl rfl rfl (r_move (f.eval rfl)) (fun a f => ?_)
    obtain ⟨y_421, hy_422, hs_396⟩ := bind_some hs_396
    refine l_res f rfl rfl Tryd.call133 (Wk.slices_heapSortOrdered_int64 m o_403 hy_422) (fun v_426 G_423 Ho_427 w hl_424 m hQ_425 a f => ?_)
    obtain ⟨it_428, rfl, o_429⟩ := hQ_425
    have m : Mem W G_423 w (it_428 :: H) := m
    refine l_nil ?_
    refine k_ret ?_
    obtain rfl := Option.some.inj hs_396
    obtain rfl := hq_397 _ rfl
    obtain rfl := Option.some.inj hd
    exact ⟨[], trivial, f.defers, _, [it_428], (GLe.trans hl_409 hl_424), m, _, rfl, o_429⟩
   ·refine k_false f rfl hc_420 ?_
    refine k_skip ?_
    refine k_seq ?_
    refine k_seq ?_
    refine k_region ?_
    refine l_op f rfl rfl rfl (r_move (f.eval rfl)) (fun a f => ?_)
    refine l_op f rfl rfl rfl (r_not (f.eval rfl)) (fun a f => ?_)
    refine l_nil ?_
    obtain ⟨j_440, hj_441, hs_396⟩ := bind_some hs_396
    refine k_cut (fun a w => ∃ l_443 : List Int, ∃ x_446 : Int, (l_443, x_446) = j_440 ∧ ∃ (G_442 : GH) (it_444 : Itm), GLe G_400 G_442 ∧ Fr a 134 [(0, v0), (1, (.int .i64 x_404)), (2, (.int .i64 x_405)), (3, (.int .i64 x_446)), (8, (.bool b_407)), (9, (.bool b_408)), (10, (.int .i64 (IntKind.i64.wrap (x_405 - x_404))))] ∧ Mem W G_442 w (it_444 :: H) ∧ Ow (RI .i64) 2 G_442 it_444 v0 l_443) ?_ ?_
    ·rcases cond_some hj_441 with ⟨hc_448, hj_441⟩ | ⟨hc_448, hj_441⟩
     ·refine k_true f rfl hc_448 ?_
      refine k_seq ?_
      refine k_region ?_
      refine l_op f rfl rfl rfl (r_move (f.eval rfl)) (fun a f => ?_)
      refine l_op f rfl rfl rfl (r_move (f.eval rfl)) (fun a f => ?_)
      refine l_op f rfl rfl rfl (r_move (f.eval rfl)) (fun a f => ?_)
      obtain ⟨y_449, hy_450, hj_441⟩ := bind_some hj_441
      refine l_res f rfl rfl Tryd.call134 (Wk.slices_breakPatternsOrdered_int64 m o_403 hy_450) (fun v_454 G_451 Ho_455 w hl_452 m hQ_453 a f => ?_)
      obtain ⟨it_456, rfl, o_457⟩ := hQ_453
      have m : Mem W G_451 w (it_456 :: H) := m
      refine l_nil ?_
      refine k_region ?_
      refine l_op f rfl rfl rfl (r_move (f.eval rfl)) (fun a f => ?_)
      refine l_op f rfl rfl rfl (r_int (f.eval rfl) (f.eval rfl) b_sub) (fun a f => ?_)
      refine l_op f rfl rfl rfl (r_assign (f.eval rfl)) (fun a f => ?_)
      refine l_nil ?_
      obtain rfl := Option.some.inj hj_441
      exact ⟨_, _, rfl, _, it_456, hl_452, f.weak ⟨rfl, rfl, rfl, rfl, rfl, rfl, rfl, trivial⟩, m, o_457⟩
     ·refine k_false f rfl hc_448 ?_
      refine k_skip ?_
      obtain rfl := Option.some.inj hj_441
      exact ⟨_, _, rfl, _, it_402, (GLe.refl _), f.weak ⟨rfl, rfl, rfl, rfl, rfl, rfl, rfl, trivial⟩, m, o_403⟩
    ·rintro a w ⟨l_443, x_446, rfl, G_442, it_444, hl_447, f, m, o_445⟩
     refine k_seq ?_
     refine k_region ?_
     refine l_op f rfl rfl rfl (r_move (f.eval rfl)) (fun a f => ?_)
     refine l_op f rfl rfl rfl (r_move (f.eval rfl)) (fun a f => ?_)
     refine l_op f rfl rfl rfl (r_move (f.eval rfl)) (fun a f => ?_)
     obtain ⟨y_458, hy_459, hs_396⟩ := bind_some hs_396
     refine l_res f rfl rfl Tryd.call135 (Wk.slices_choosePivotOrdered_int64 m o_445 hy_459) (fun v_463 G_460 Ho_464 w hl_461 m hQ_462 a f => ?_)
     obtain ⟨it_465, rfl, rfl, o_466⟩ := hQ_462
     have m : Mem W G_460 w (it_465 :: H) := m
     refine l_op f rfl rfl rfl (r_move (f.eval rfl)) (fun a f => ?_)
     refine l_op f rfl rfl rfl (r_extract (f.eval rfl) rfl) (fun a f => ?_)
     refine l_op f rfl rfl rfl (r_extract (f.eval rfl) rfl) (fun a f => ?_)
     refine l_op f rfl rfl rfl (r_assign (f.eval rfl)) (fun a f => ?_)
     refine l_op f rfl rfl rfl (r_assign (f.eval rfl)) (fun a f => ?_)
     refine l_nil ?_
     refine k_seq ?_
     refine k_seq ?_
     refine k_region ?_
     refine l_op f rfl rfl rfl (r_move (f.eval rfl)) (fun a f => ?_)
     refine l_op f rfl rfl rfl (r_int (f.eval rfl) (f.eval rfl) b_eql) (fun a f => ?_)
     refine l_nil ?_
     obtain ⟨j_477, hj_478, hs_396⟩ := bind_some hs_396
     refine k_cut (fun a w => ∃ l_480 : List Int, ∃ x_483 : Int, ∃ x_484 : Int, (l_480, x_483, x_484) = j_477 ∧ ∃ (G_479 : GH) (it_481 : Itm), GLe G_460 G_479 ∧ Fr a 134 [(0, v0), (1, (.int .i64 x_404)), (2, (.int .i64 x_405)), (3, (.int .i64 x_446)), (8, (.bool b_407)), (9, (.bool b_408)), (10, (.int .i64 (IntKind.i64.wrap (x_405 - x_404)))), (11, (.int .i64 x_483)), (12, (.int .i64 x_484))] ∧ Mem W G_479 w (it_481 :: H) ∧ Ow (RI .i64) 2 G_479 it_481 v0 l_480) ?_ ?_
     ·rcases cond_some hj_478 with ⟨hc_486, hj_478⟩ | ⟨hc_486, hj_478⟩
      ·refine k_true f rfl hc_486 ?_
       refine k_seq ?_
       refine k_region ?_
       refine l_op f rfl rfl rfl (r_move (f.eval rfl)) (fun a f => ?_)
       refine l_op f rfl rfl rfl (r_move (f.eval rfl)) (fun a f => ?_)
       refine l_op f rfl rfl rfl (r_move (f.eval rfl)) (fun a f => ?_)
       obtain ⟨y_487, hy_488, hj_478⟩ := bind_some hj_478
       refine l_res f rfl rfl Tryd.call136 (Wk.slices_reverseRangeOrdered_int64 m o_466 hy_488) (fun v_492 G_489 Ho_493 w hl_490 m hQ_491 a f => ?_)
       obtain ⟨it_494, rfl, o_495⟩ := hQ_491
       have m : Mem W G_489 w (it_494 :: H) := m
       refine l_nil ?_
       refine k_seq ?_
       refine k_region ?_
       refine l_op f rfl rfl rfl (r_move (f.eval rfl)) (fun a f => ?_)
       refine l_op f rfl rfl rfl (r_int (f.eval rfl) (f.eval rfl) b_sub) (fun a f => ?_)
       refine l_op f rfl rfl rfl (r_move (f.eval rfl)) (fun a f => ?_)
       refine l_op f rfl rfl rfl (r_move (f.eval rfl)) (fun a f => ?_)
       refine l_op f rfl rfl rfl (r_int (f.eval rfl) (f.eval rfl) b_sub) (fun a f => ?_)
       refine l_op f rfl rfl rfl (r_int (f.eval rfl) (f.eval rfl) b_sub) (fun a f => ?_)
       refine l_op f rfl rfl rfl (r_assign (f.eval rfl)) (fun a f => ?_)
       refine l_nil ?_
       refine k_region ?_
       refine l_op f rfl rfl rfl (r_assign (f.eval rfl)) (fun a f => ?_)
       refine l_nil ?_
       obtain rfl := Option.some.inj hj_478
       exact ⟨_, _, _, rfl, _, it_494, hl_490, f.weak ⟨rfl, rfl, rfl, rfl, rfl, rfl, rfl, rfl, rfl, trivial⟩, m, o_495⟩
      ·refine k_false f rfl hc_486 ?_
       refine k_skip ?_
       obtain rfl := Option.some.inj hj_478
       exact ⟨_, _, _, rfl, _, it_465, (GLe.refl _), f.weak ⟨rfl, rfl, rfl, rfl, rfl, rfl, rfl, rfl, rfl, trivial⟩, m, o_466⟩
     ·rintro a w ⟨l_480, x_483, x_484, rfl, G_479, it_481, hl_485, f, m, o_482⟩
      refine k_seq ?_
      refine k_seq ?_
      refine k_region ?_
      refine l_op f rfl rfl rfl (r_move (f.eval rfl)) (fun a f => ?_)
      refine l_op f rfl rfl rfl (r_move (f.eval rfl)) (fun a f => ?_)
      refine l_cut 2 (fun a w => ∃ G_497, GLe G_479 G_497 ∧ Mem W G_497 w (it_481 :: H) ∧ Fr a 134 [(0, v0), (1, (.int .i64 x_404)), (2, (.int .i64 x_405)), (3, (.int .i64 x_446)), (8, (.bool b_407)), (9, (.bool b_408)), (10, (.int .i64 (IntKind.i64.wrap (x_405 - x_404)))), (11, (.int .i64 x_483)), (12, (.int .i64 x_484)), (61, (.bool b_407)), (62, (.bool b_407)), (64, (.bool (b_407 && b_408)))]) ?_ ?_
      ·rcases Bool.eq_false_or_eq_true b_407 with hc_496 | hc_496
       ·refine l_run f rfl rfl hc_496 ?_
        refine l_op f rfl rfl rfl (r_move (f.eval rfl)) (fun a f => ?_)
        refine l_op f rfl rfl rfl (r_pickT (f.eval rfl) hc_496 (f.eval rfl)) (fun a f => ?_)
        exact ⟨_, (GLe.refl _), m, f.weak ⟨rfl, rfl, rfl, rfl, rfl, rfl, rfl, rfl, rfl, rfl, rfl, by rw [hc_496]; rfl, trivial⟩⟩
       ·refine l_not' f rfl rfl rfl hc_496 (fun a f => ?_)
        refine l_op f rfl rfl rfl (r_pickF (f.eval rfl) hc_496 (f.eval rfl)) (fun a f => ?_)
        exact ⟨_, (GLe.refl _), m, f.weak ⟨rfl, rfl, rfl, rfl, rfl, rfl, rfl, rfl, rfl, rfl, rfl, by rw [hc_496]; rfl, trivial⟩⟩
      ·rintro a w ⟨G_497, hl_498, m, f⟩
       have o_482 := Ow.mono (RI.mono _) hl_498 o_482
       refine l_op f rfl rfl rfl (r_move (f.eval rfl)) (fun a f => ?_)
       refine l_cut 3 (fun a w => ∃ G_500, GLe G_497 G_500 ∧ Mem W G_500 w (it_481 :: H) ∧ Fr a 134 [(0, v0), (1, (.int .i64 x_404)), (2, (.int .i64 x_405)), (3, (.int .i64 x_446)), (8, (.bool b_407)), (9, (.bool b_408)), (10, (.int .i64 (IntKind.i64.wrap (x_405 - x_404)))), (11, (.int .i64 x_483)), (12, (.int .i64 x_484)), (61, (.bool b_407)), (62, (.bool b_407)), (64, (.bool (b_407 && b_408))), (65, (.bool (b_407 && b_408))), (68, (.bool ((b_407 && b_408) && (x_484 == 1))))]) ?_ ?_
       ·rcases Bool.eq_false_or_eq_true (b_407 && b_408) with hc_499 | hc_499
        ·refine l_run f rfl rfl hc_499 ?_
         refine l_op f rfl rfl rfl (r_move (f.eval rfl)) (fun a f => ?_)
         refine l_run f rfl rfl hc_499 ?_
         refine l_op f rfl rfl rfl (r_int (f.eval rfl) (f.eval rfl) b_eql) (fun a f => ?_)
         refine l_op f rfl rfl rfl (r_pickT (f.eval rfl) hc_499 (f.eval rfl)) (fun a f => ?_)
         exact ⟨_, (GLe.refl _), m, f.weak ⟨rfl, rfl, rfl, rfl, rfl, rfl, rfl, rfl, rfl, rfl, rfl, rfl, rfl, by rw [hc_499]; rfl, trivial⟩⟩
        ·refine l_not' f rfl rfl rfl hc_499 (fun a f => ?_)
         refine l_not' f rfl rfl rfl hc_499 (fun a f => ?_)
         refine l_op f rfl rfl rfl (r_pickF (f.eval rfl) hc_499 (f.eval rfl)) (fun a f => ?_)
         exact ⟨_, (GLe.refl _), m, f.weak ⟨rfl, rfl, rfl, rfl, rfl, rfl, rfl, rfl, rfl, rfl, rfl, rfl, rfl, by rw [hc_499]; rfl, trivial⟩⟩
       ·rintro a w ⟨G_500, hl_501, m, f⟩
        have o_482 := Ow.mono (RI.mono _) hl_501 o_482
        refine l_nil ?_
        obtain ⟨j_513, hj_514, hs_396⟩ := bind_some hs_396
        refine k_cut (fun a w => ∃ j_513' : (List Int), j_513 = .inl j_513' ∧ ∃ l_516 : List Int, l_516 = j_513' ∧ ∃ (G_515 : GH) (it_517 : Itm), GLe G_500 G_515 ∧ Fr a 134 [(0, v0), (1, (.int .i64 x_404)), (2, (.int .i64 x_405)), (3, (.int .i64 x_446)), (8, (.bool b_407)), (9, (.bool b_408)), (10, (.int .i64 (IntKind.i64.wrap (x_405 - x_404)))), (11, (.int .i64 x_483))] ∧ Mem W G_515 w (it_517 :: H) ∧ Ow (RI .i64) 2 G_515 it_517 v0 l_516) ?_ ?_
        ·rcases cond_some hj_514 with ⟨hc_520, hj_514⟩ | ⟨hc_520, hj_514⟩
         ·refine k_true f rfl hc_520 ?_
          refine k_seq ?_
          refine k_region ?_
          refine l_op f rfl rfl rfl (r_move (f.eval rfl)) (fun a f => ?_)
          refine l_op f rfl rfl rfl (r_move (f.eval rfl)) (fun a f => ?_)
          refine l_op f rfl rfl rfl (r_move (f.eval rfl)) (fun a f => ?_)
          obtain ⟨y_521, hy_522, hj_514⟩ := bind_some hj_514
          refine l_res f rfl rfl Tryd.call137 (Wk.slices_partialInsertionSortOrdered_int64 m o_482 hy_522) (fun v_526 G_523 Ho_527 w hl_524 m hQ_525 a f => ?_)
          obtain ⟨it_528, rfl, rfl, o_529⟩ := hQ_525
          have m : Mem W G_523 w (it_528 :: H) := m
          refine l_nil ?_
          rcases cond_some hj_514 with ⟨hc_530, hj_514⟩ | ⟨hc_530, hj_514⟩
          ·refine k_true f rfl hc_530 ?_
           refine k_ret ?_
           obtain rfl := Option.some.inj hj_514
           obtain rfl := Option.some.inj hs_396
           obtain rfl := hq_397 _ rfl
           obtain rfl := Option.some.inj hd
           exact ⟨[], trivial, f.defers, _, [it_528], (GLe.trans hl_409 (GLe.trans hl_447 (GLe.trans hl_461 (GLe.trans hl_485 (GLe.trans hl_498 (GLe.trans hl_501 hl_524)))))), m, _, rfl, o_529⟩
          ·refine k_false f rfl hc_530 ?_
           refine k_skip ?_
           obtain rfl := Option.some.inj hj_514
           exact ⟨_, rfl, _, rfl, _, it_528, hl_524, f.weak ⟨rfl, rfl, rfl, rfl, rfl, rfl, rfl, rfl, trivial⟩, m, o_529⟩
         ·refine k_false f rfl hc_520 ?_
          refine k_skip ?_
          obtain rfl := Option.some.inj hj_514
          exact ⟨_, rfl, _, rfl, _, it_481, (GLe.refl _), f.weak ⟨rfl, rfl, rfl, rfl, rfl, rfl, rfl, rfl, trivial⟩, m, o_482⟩
        ·rintro a w ⟨_, rfl, l_516, rfl, G_515, it_517, hl_519, f, m, o_518⟩
         refine k_seq ?_
         refine k_seq ?_
         refine k_draw 15 Follows (by kernel_rfl) m ?_
         refine q_op (i := 0) (listed' := #[true, false, false, false, false, false, false, false, false, false, false, false, false, false, false]) 15 rfl (by kernel_rfl) rfl f rfl rfl rfl (fun _ _ _ _ _ => r_move (f.eval rfl)) (fun a f => ?_)
         refine q_op (i := 1) (listed' := #[true, true, false, false, false, false, false, false, false, false, false, false, false, false, false]) 15 rfl (by kernel_rfl) rfl f rfl rfl rfl (fun _ _ _ _ _ => r_int (f.eval rfl) (f.eval rfl) b_gtr) (fun a f => ?_)
         refine q_op (i := 2) (listed' := #[true, true, true, false, false, false, false, false, false, false, false, false, false, false, false]) 15 rfl (by kernel_rfl) rfl f rfl rfl rfl (fun _ _ _ _ _ => r_move (f.eval rfl)) (fun a f => ?_)
         obtain ⟨b_548, hj_549, hs_396⟩ := bind_some hs_396
         refine q_cut (fuel' := 0) (listed' := #[true, true, true, true, true, true, true, true, true, true, true, true, true, true, true]) (fun a => Fr a 134 [(0, v0), (1, (.int .i64 x_404)), (2, (.int .i64 x_405)), (3, (.int .i64 x_446)), (8, (.bool b_407)), (9, (.bool b_408)), (10, (.int .i64 (IntKind.i64.wrap (x_405 - x_404)))), (11, (.int .i64 x_483)), (73, (.int .i64 x_404)), (74, (.bool (decide ((0 : Int) < x_404)))), (75, (.bool (decide ((0 : Int) < x_404)))), (87, (.bool b_548))]) ?_ ?_
         ·intro a f
          refine q_end (fun G_565 w hl_566 m => ?_)
          have o_518 := Ow.mono (RI.mono _) hl_566 o_518
          have m : Mem W G_565 w (it_517 :: H) := m
          refine l_nil ?_
          rcases cond_some hs_396 with ⟨hc_567, hs_396⟩ | ⟨hc_567, hs_396⟩
          ·refine k_true f rfl hc_567 ?_
           refine k_seq ?_
           refine k_region ?_
           refine l_op f rfl rfl rfl (r_move (f.eval rfl)) (fun a f => ?_)
           refine l_op f rfl rfl rfl (r_move (f.eval rfl)) (fun a f => ?_)
           refine l_op f rfl rfl rfl (r_move (f.eval rfl)) (fun a f => ?_)
           refine l_op f rfl rfl rfl (r_move (f.eval rfl)) (fun a f => ?_)
           obtain ⟨y_568, hy_569, hs_396⟩ := bind_some hs_396
           refine l_res f rfl rfl Tryd.call139 (Wk.slices_partitionEqualOrdered_int64 m o_518 hy_569) (fun v_573 G_570 Ho_574 w hl_571 m hQ_572 a f => ?_)
           obtain ⟨it_575, rfl, rfl, o_576⟩ := hQ_572
           have m : Mem W G_570 w (it_575 :: H) := m
           refine l_op f rfl rfl rfl (r_assign (f.eval rfl)) (fun a f => ?_)
           refine l_nil ?_
           refine k_seq ?_
           refine k_region ?_
           refine l_op f rfl rfl rfl (r_move (f.eval rfl)) (fun a f => ?_)
           refine l_op f rfl rfl rfl (r_assign (f.eval rfl)) (fun a f => ?_)
           refine l_nil ?_
           refine k_exit rfl ?_
           obtain rfl := Option.some.inj hs_396
           exact ⟨_, rfl, _, _, _, _, _, _, rfl, _, it_575, (GLe.trans hl_409 (GLe.trans hl_447 (GLe.trans hl_461 (GLe.trans hl_485 (GLe.trans hl_498 (GLe.trans hl_501 (GLe.trans hl_519 (GLe.trans hl_566 hl_571)))))))), f.weak ⟨rfl, rfl, rfl, rfl, rfl, rfl, trivial⟩, m, o_576⟩
          ·refine k_false f rfl hc_567 ?_
           refine k_skip ?_
           refine k_seq ?_
           refine k_region ?_
           refine l_op f rfl rfl rfl (r_move (f.eval rfl)) (fun a f => ?_)
           refine l_op f rfl rfl rfl (r_move (f.eval rfl)) (fun a f => ?_)
           refine l_op f rfl rfl rfl (r_move (f.eval rfl)) (fun a f => ?_)
           refine l_op f rfl rfl rfl (r_move (f.eval rfl)) (fun a f => ?_)
           obtain ⟨y_577, hy_578, hs_396⟩ := bind_some hs_396
           refine l_res f rfl rfl Tryd.call140 (Wk.slices_partitionOrdered_int64 m o_518 hy_578) (fun v_582 G_579 Ho_583 w hl_580 m hQ_581 a f => ?_)
           obtain ⟨it_584, rfl, rfl, o_585⟩ := hQ_581
           have m : Mem W G_579 w (it_584 :: H) := m
           refine l_op f rfl rfl rfl (r_move (f.eval rfl)) (fun a f => ?_)
           refine l_op f rfl rfl rfl (r_extract (f.eval rfl) rfl) (fun a f => ?_)
           refine l_op f rfl rfl rfl (r_extract (f.eval rfl) rfl) (fun a f => ?_)
           refine l_op f rfl rfl rfl (r_assign (f.eval rfl)) (fun a f => ?_)
           refine l_op f rfl rfl rfl (r_assign (f.eval rfl)) (fun a f => ?_)
           refine l_nil ?_
           refine k_seq ?_
           refine k_region ?_
           refine l_op f rfl rfl rfl (r_move (f.eval rfl)) (fun a f => ?_)
           refine l_op f rfl rfl rfl (r_assign (f.eval rfl)) (fun a f => ?_)
           refine l_nil ?_
           refine k_seq ?_
           refine k_region ?_
           refine l_op f rfl rfl rfl (r_move (f.eval rfl)) (fun a f => ?_)
           refine l_op f rfl rfl rfl (r_move (f.eval rfl)) (fun a f => ?_)
           refine l_op f rfl rfl rfl (r_int (f.eval rfl) (f.eval rfl) b_sub) (fun a f => ?_)
           refine l_op f rfl rfl rfl (r_move (f.eval rfl)) (fun a f => ?_)
           refine l_op f rfl rfl rfl (r_move (f.eval rfl)) (fun a f => ?_)
           refine l_op f rfl rfl rfl (r_int (f.eval rfl) (f.eval rfl) b_sub) (fun a f => ?_)
           refine l_op f rfl rfl rfl (r_assign (f.eval rfl)) (fun a f => ?_)
           refine l_op f rfl rfl rfl (r_assign (f.eval rfl)) (fun a f => ?_)
           refine l_nil ?_
           refine k_seq ?_
           refine k_region ?_
           refine l_op f rfl rfl rfl (r_move (f.eval rfl)) (fun a f => ?_)
           refine l_op f rfl rfl rfl (r_int (f.eval rfl) (f.eval rfl) (b_quo rfl)) (fun a f => ?_)
           refine l_op f rfl rfl rfl (r_assign (f.eval rfl)) (fun a f => ?_)
           refine l_nil ?_
           refine k_seq ?_
           refine k_region ?_
           refine l_op f rfl rfl rfl (r_move (f.eval rfl)) (fun a f => ?_)
           refine l_op f rfl rfl rfl (r_move (f.eval rfl)) (fun a f => ?_)
           refine l_op f rfl rfl rfl (r_int (f.eval rfl) (f.eval rfl) b_lss) (fun a f => ?_)
           refine l_nil ?_
           rcases cond_some hs_396 with ⟨hc_586, hs_396⟩ | ⟨hc_586, hs_396⟩
           ·refine k_true f rfl hc_586 ?_
            refine k_seq ?_
            refine k_region ?_
            refine l_op f rfl rfl rfl (r_move (f.eval rfl)) (fun a f => ?_)
            refine l_op f rfl rfl rfl (r_move (f.eval rfl)) (fun a f => ?_)
            refine l_op f rfl rfl rfl (r_int (f.eval rfl) (f.eval rfl) b_geq) (fun a f => ?_)
            refine l_op f rfl rfl rfl (r_assign (f.eval rfl)) (fun a f => ?_)
            refine l_nil ?_
            refine k_seq ?_
            refine k_region ?_
            refine l_op f rfl rfl rfl (r_move (f.eval rfl)) (fun a f => ?_)
            refine l_op f rfl rfl rfl (r_move (f.eval rfl)) (fun a f => ?_)
            refine l_op f rfl rfl rfl (r_move (f.eval rfl)) (fun a f => ?_)
            refine l_op f rfl rfl rfl (r_move (f.eval rfl)) (fun a f => ?_)
            obtain ⟨y_587, hy_588, hs_396⟩ := bind_some hs_396
            refine l_res f rfl rfl Tryd.call128 (ih m o_585 hy_588) (fun v_592 G_589 Ho_593 w hl_590 m hQ_591 a f => ?_)
            obtain ⟨it_594, rfl, o_595⟩ := hQ_591
            have m : Mem W G_589 w (it_594 :: H) := m
            refine l_nil ?_
            refine k_region ?_
            refine l_op f rfl rfl rfl (r_move (f.eval rfl)) (fun a f => ?_)
            refine l_op f rfl rfl rfl (r_int (f.eval rfl) (f.eval rfl) b_add) (fun a f => ?_)
            refine l_op f rfl rfl rfl (r_assign (f.eval rfl)) (fun a f => ?_)
            refine l_nil ?_
            obtain rfl := Option.some.inj hs_396
            exact ⟨_, rfl, _, _, _, _, _, _, rfl, _, it_594, (GLe.trans hl_409 (GLe.trans hl_447 (GLe.trans hl_461 (GLe.trans hl_485 (GLe.trans hl_498 (GLe.trans hl_501 (GLe.trans hl_519 (GLe.trans hl_566 (GLe.trans hl_580 hl_590))))))))), f.weak ⟨rfl, rfl, rfl, rfl, rfl, rfl, trivial⟩, m, o_595⟩
           ·refine k_false f rfl hc_586 ?_
            refine k_seq ?_
            refine k_region ?_
            refine l_op f rfl rfl rfl (r_move (f.eval rfl)) (fun a f => ?_)
            refine l_op f rfl rfl rfl (r_move (f.eval rfl)) (fun a f => ?_)
            refine l_op f rfl rfl rfl (r_int (f.eval rfl) (f.eval rfl) b_geq) (fun a f => ?_)
            refine l_op f rfl rfl rfl (r_assign (f.eval rfl)) (fun a f => ?_)
            refine l_nil ?_
            refine k_seq ?_
            refine k_region ?_
            refine l_op f rfl rfl rfl (r_move (f.eval rfl)) (fun a f => ?_)
            refine l_op f rfl rfl rfl (r_move (f.eval rfl)) (fun a f => ?_)
            refine l_op f rfl rfl rfl (r_int (f.eval rfl) (f.eval rfl) b_add) (fun a f => ?_)
            refine l_op f rfl rfl rfl (r_move (f.eval rfl)) (fun a f => ?_)
            refine l_op f rfl rfl rfl (r_move (f.eval rfl)) (fun a f => ?_)
            obtain ⟨y_596, hy_597, hs_396⟩ := bind_some hs_396
            refine l_res f rfl rfl Tryd.call128 (ih m o_585 hy_597) (fun v_601 G_598 Ho_602 w hl_599 m hQ_600 a f => ?_)
            obtain ⟨it_603, rfl, o_604⟩ := hQ_600
            have m : Mem W G_598 w (it_603 :: H) := m
            refine l_nil ?_
            refine k_region ?_
            refine l_op f rfl rfl rfl (r_move (f.eval rfl)) (fun a f => ?_)
            refine l_op f rfl rfl rfl (r_assign (f.eval rfl)) (fun a f => ?_)
            refine l_nil ?_
            obtain rfl := Option.some.inj hs_396
            exact ⟨_, rfl, _, _, _, _, _, _, rfl, _, it_603, (GLe.trans hl_409 (GLe.trans hl_447 (GLe.trans hl_461 (GLe.trans hl_485 (GLe.trans hl_498 (GLe.trans hl_501 (GLe.trans hl_519 (GLe.trans hl_566 (GLe.trans hl_580 hl_599))))))))), f.weak ⟨rfl, rfl, rfl, rfl, rfl, rfl, trivial⟩, m, o_604⟩
         ·intro K_547
          rcases cond_some hj_549 with ⟨hc_531, hj_549⟩ | ⟨hc_531, hj_549⟩
          ·refine q_op (i := 3) (listed' := #[true, true, true, true, false, false, false, false, false, false, false, false, false, false, false]) 15 rfl (by kernel_rfl) rfl f (wanted_of f rfl rfl rfl hc_531) rfl rfl (fun _ _ _ _ _ => r_move (f.eval rfl)) (fun a f => ?_)
           refine q_op (i := 4) (listed' := #[true, true, true, true, true, false, false, false, false, false, false, false, false, false, false]) 15 rfl (by kernel_rfl) rfl f (wanted_of f rfl rfl rfl hc_531) rfl rfl (fun _ _ _ _ _ => r_move (f.eval rfl)) (fun a f => ?_)
           refine q_op (i := 5) (listed' := #[true, true, true, true, true, true, false, false, false, false, false, false, false, false, false]) 15 rfl (by kernel_rfl) rfl f (wanted_of f rfl rfl rfl hc_531) rfl rfl (fun _ _ _ _ _ => r_int (f.eval rfl) (f.eval rfl) b_sub) (fun a f => ?_)
           obtain ⟨e_550, he_551, hj_549⟩ := bind_some hj_549
           refine q_own_at (i := 6) (listed' := #[true, true, true, true, true, true, true, false, false, false, false, false, false, false, false]) 15 0 m o_518 rfl T31 he_551 rfl (by kernel_rfl) rfl f (wanted_of f rfl rfl rfl hc_531) rfl rfl rfl (fun p_552 a ha_553 f => ?_)
           refine q_own_load (i := 7) (listed' := #[true, true, true, true, true, true, true, true, false, false, false, false, false, false, false]) 15 0 o_518 rfl Pl2 ha_553 he_551 rfl (by kernel_rfl) rfl f (wanted_of f rfl rfl rfl hc_531) rfl rfl (fun c_554 a h_555 f => ?_)
           subst h_555
           refine q_op (i := 8) (listed' := #[true, true, true, true, true, true, true, true, true, false, false, false, false, false, false]) 15 rfl (by kernel_rfl) rfl f (wanted_of f rfl rfl rfl hc_531) rfl rfl (fun _ _ _ _ _ => r_move (f.eval rfl)) (fun a f => ?_)
           refine q_op (i := 9) (listed' := #[true, true, true, true, true, true, true, true, true, true, false, false, false, false, false]) 15 rfl (by kernel_rfl) rfl f (wanted_of f rfl rfl rfl hc_531) rfl rfl (fun _ _ _ _ _ => r_move (f.eval rfl)) (fun a f => ?_)
           obtain ⟨e_556, he_557, hj_549⟩ := bind_some hj_549
           refine q_own_at (i := 10) (listed' := #[true, true, true, true, true, true, true, true, true, true, true, false, false, false, false]) 15 0 m o_518 rfl T31 he_557 rfl (by kernel_rfl) rfl f (wanted_of f rfl rfl rfl hc_531) rfl rfl rfl (fun p_558 a ha_559 f => ?_)
           refine q_own_load (i := 11) (listed' := #[true, true, true, true, true, true, true, true, true, true, true, true, false, false, false]) 15 0 o_518 rfl Pl2 ha_559 he_557 rfl (by kernel_rfl) rfl f (wanted_of f rfl rfl rfl hc_531) rfl rfl (fun c_560 a h_561 f => ?_)
           subst h_561
           obtain ⟨y_562, hy_563, hj_549⟩ := bind_some hj_549
           refine q_call (i := 12) (listed' := #[true, true, true, true, true, true, true, true, true, true, true, true, true, false, false]) 15 rfl (by kernel_rfl) rfl f (wanted_of f rfl rfl rfl hc_531) rfl rfl Tryd.call138 (fun _ _ w hG_564 m => Wk.cmp_Less_int64 m  hy_563) (fun a f => ?_)
           refine q_op (i := 13) (listed' := #[true, true, true, true, true, true, true, true, true, true, true, true, true, true, false]) 15 rfl (by kernel_rfl) rfl f (wanted_of f rfl rfl rfl hc_531) rfl rfl (fun _ _ _ _ _ => r_not (f.eval rfl)) (fun a f => ?_)
           refine q_op (i := 14) (listed' := #[true, true, true, true, true, true, true, true, true, true, true, true, true, true, true]) 15 rfl (by kernel_rfl) rfl f rfl rfl rfl (fun _ _ _ _ _ => r_pickT (f.eval rfl) hc_531 (f.eval rfl)) (fun a f => ?_)
           obtain rfl := Option.some.inj hj_549
           exact K_547 _ (f.weak ⟨rfl, rfl, rfl, rfl, rfl, rfl, rfl, rfl, rfl, rfl, rfl, rfl, trivial⟩)
          ·refine q_not (i := 3) (listed' := #[true, true, true, true, false, false, false, false, false, false, false, false, false, false, false]) 15 rfl (by kernel_rfl) rfl f rfl rfl rfl hc_531 rfl rfl (fun a f => ?_)
           refine q_not (i := 4) (listed' := #[true, true, true, true, true, false, false, false, false, false, false, false, false, false, false]) 15 rfl (by kernel_rfl) rfl f rfl rfl rfl hc_531 rfl rfl (fun a f => ?_)
           refine q_not (i := 5) (listed' := #[true, true, true, true, true, true, false, false, false, false, false, false, false, false, false]) 15 rfl (by kernel_rfl) rfl f rfl rfl rfl hc_531 rfl rfl (fun a f => ?_)
           refine q_not (i := 6) (listed' := #[true, true, true, true, true, true, true, false, false, false, false, false, false, false, false]) 15 rfl (by kernel_rfl) rfl f rfl rfl rfl hc_531 rfl rfl (fun a f => ?_)
           refine q_not (i := 7) (listed' := #[true, true, true, true, true, true, true, true, false, false, false, false, false, false, false]) 15 rfl (by kernel_rfl) rfl f rfl rfl rfl hc_531 rfl rfl (fun a f => ?_)
           refine q_not (i := 8) (listed' := #[true, true, true, true, true, true, true, true, true, false, false, false, false, false, false]) 15 rfl (by kernel_rfl) rfl f rfl rfl rfl hc_531 rfl rfl (fun a f => ?_)
           refine q_not (i := 9) (listed' := #[true, true, true, true, true, true, true, true, true, true, false, false, false, false, false]) 15 rfl (by kernel_rfl) rfl f rfl rfl rfl hc_531 rfl rfl (fun a f => ?_)
           refine q_not (i := 10) (listed' := #[true, true, true, true, true, true, true, true, true, true, true, false, false, false, false]) 15 rfl (by kernel_rfl) rfl f rfl rfl rfl hc_531 rfl rfl (fun a f => ?_)
           refine q_not (i := 11) (listed' := #[true, true, true, true, true, true, true, true, true, true, true, true, false, false, false]) 15 rfl (by kernel_rfl) rfl f rfl rfl rfl hc_531 rfl rfl (fun a f => ?_)
           refine q_not (i := 12) (listed' := #[true, true, true, true, true, true, true, true, true, true, true, true, true, false, false]) 15 rfl (by kernel_rfl) rfl f rfl rfl rfl hc_531 rfl rfl (fun a f => ?_)
           refine q_not (i := 13) (listed' := #[true, true, true, true, true, true, true, true, true, true, true, true, true, true, false]) 15 rfl (by kernel_rfl) rfl f rfl rfl rfl hc_531 rfl rfl (fun a f => ?_)
           refine q_op (i := 14) (listed' := #[true, true, true, true, true, true, true, true, true, true, true, true, true, true, true]) 15 rfl (by kernel_rfl) rfl f rfl rfl rfl (fun _ _ _ _ _ => r_pickF (f.eval rfl) hc_531 (f.eval rfl)) (fun a f => ?_)
           obtain rfl := Option.some.inj hj_549
           exact K_547 _ (f.weak ⟨rfl, rfl, rfl, rfl, rfl, rfl, rfl, rfl, rfl, rfl, rfl, rfl, trivial⟩)

theorem Wk.slices_pdqsortOrdered_int64 {W w : World} {G : GH} {H : List Itm} {v0 : Value} {it0 : Itm} {x0 : (List Int)} {x1 : Int} {x2 : Int} {x3 : Int} (m : Mem W G w (it0 :: H)) (o0 : Ow (RI .i64) 2 G it0 v0 x0) {y : ((List Int))} (hd : D.slices_pdqsortOrdered_int64 x0 x1 x2 x3 = some y) :
  Calls Tryd.prog 128 #[v0, (.int .i64 x1), (.int .i64 x2), (.int .i64 x3)] w (Res W G H (fun G' Ho _ => ∃ i0 : Itm, Ho = [i0] ∧ Ow (RI .i64) 2 G' i0 v0 y)) := by
 exact Wk.slices_pdqsortOrdered_int64R recFuel m o0 hd

theorem Wk.slices_Sort_int64_int64 {W w : World} {G : GH} {H : List Itm} {v0 : Value} {it0 : Itm} {x0 : (List Int)} (m : Mem W G w (it0 :: H)) (o0 : Ow (RI .i64) 2 G it0 v0 x0) {y : ((List Int))} (hd : D.slices_Sort_int64_int64 x0 = some y) :
  Calls Tryd.prog 111 #[v0] w (Res W G H (fun G' Ho _ => ∃ i0 : Itm, Ho = [i0] ∧ Ow (RI .i64) 2 G' i0 v0 y)) := by
 refine calls_b (args := [v0]) (N := 11) [] Tryd.func111 rfl rfl (Nat.le_of_ble_eq_true rfl) rfl (fun a f => ?_)
 unfold D.slices_Sort_int64_int64 at hd
 refine k_seq ?_
 refine k_region ?_
 refine l_op f rfl rfl rfl (r_move (f.eval rfl)) (fun a f => ?_)
 refine l_own_len 0 m o0 rfl Tryd.underlying31 f rfl rfl (fun a f => ?_)
 refine l_op f rfl rfl rfl (r_assign (f.eval rfl)) (fun a f => ?_)
 refine l_nil ?_
 refine k_region ?_
 refine l_op f rfl rfl rfl (r_move (f.eval rfl)) (fun a f => ?_)
 refine l_op f rfl rfl rfl (r_move (f.eval rfl)) (fun a f => ?_)
 refine l_op f rfl rfl rfl (r_move (f.eval rfl)) (fun a f => ?_)
 refine l_op f rfl rfl rfl (r_conv (f.eval rfl) ⟨_, Tryd.underlying3⟩ Tryd.underlying111) (fun a f => ?_)
 obtain ⟨y_1, hy_2, hd⟩ := bind_some hd
 refine l_res f rfl rfl Tryd.call129 (Wk.math_bits_Len m  hy_2) (fun v_6 G_3 Ho_7 w hl_4 m hQ_5 a f => ?_)
 obtain ⟨rfl, rfl⟩ := hQ_5
 have o0 := Ow.mono (RI.mono _) hl_4 o0
 have m : Mem W G_3 w (it0 :: H) := m
 obtain ⟨y_8, hy_9, hd⟩ := bind_some hd
 refine l_res f rfl rfl Tryd.call128 (Wk.slices_pdqsortOrdered_int64 m o0 hy_9) (fun v_13 G_10 Ho_14 w hl_11 m hQ_12 a f => ?_)
 obtain ⟨it_15, rfl, o_16⟩ := hQ_12
 have m : Mem W G_10 w (it_15 :: H) := m
 refine l_nil ?_
 obtain rfl := Option.some.inj hd
 exact ⟨[], trivial, f.defers, _, [it_15], (GLe.trans hl_4 hl_11), m, _, rfl, o_16⟩

theorem Wk.slices_Collect_int64 {W w : World} {G : GH} {H : List Itm} {v0 : Value} {b0 : Nat} {x0 : (List Int)} (m : Mem W G w (Itm.box b0 31 [v0] :: H)) (h0 : RSl (RI .i64) G v0 x0) {y : ((List Int))} (hd : D.slices_Collect_int64 x0 = some y) :
  Calls Tryd.prog 110 #[(.func (.func 112) #[] #[(.pointer (some ⟨b0, 0, none⟩))])] w (Res W G H (fun G' Ho v => ∃ r0 : Value, ∃ i0 : Itm, Ho = [i0] ∧ r0 = v ∧ Ow (RI .i64) 2 G' i0 r0 y)) := by
 refine calls_b (args := [(.func (.func 112) #[] #[(.pointer (some ⟨b0, 0, none⟩))])]) (N := 5) [.tmp 2] Tryd.func110 rfl rfl (Nat.le_of_ble_eq_true rfl) rfl (fun a f => ?_)
 unfold D.slices_Collect_int64 at hd
 refine k_seq ?_
 refine k_region ?_
 refine l_op f rfl rfl rfl (r_assign (f.eval rfl)) (fun a f => ?_)
 refine l_nil ?_
 refine k_seq ?_
 refine k_region ?_
 refine l_op f rfl rfl rfl (r_move (f.eval rfl)) (fun a f => ?_)
 obtain ⟨y_1, hy_2, hd⟩ := bind_some hd
 refine l_res f rfl rfl Tryd.call127 (Wk.slices_AppendSeq_int64_int64 m h0 hy_2) (fun v_6 G_3 Ho_7 w hl_4 m hQ_5 a f => ?_)
 obtain ⟨v_11, it_8, rfl, rfl, o_9⟩ := hQ_5
 have m : Mem W G_3 w (it_8 :: H) := m
 refine l_op f rfl rfl rfl (r_assign (f.eval rfl)) (fun a f => ?_)
 refine l_nil ?_
 refine k_ret ?_
 obtain rfl := Option.some.inj hd
 exact ⟨[v_11], ⟨f.get _ _ rfl, trivial⟩, f.defers, _, [it_8], hl_4, m, _, _, rfl, rfl, o_9⟩

theorem Wk.slices_Sorted_int64 {W w : World} {G : GH} {H : List Itm} {v0 : Value} {b0 : Nat} {x0 : (List Int)} (m : Mem W G w (Itm.box b0 31 [v0] :: H)) (h0 : RSl (RI .i64) G v0 x0) {y : ((List Int))} (hd : D.slices_Sorted_int64 x0 = some y) :
  Calls Tryd.prog 73 #[(.func (.func 112) #[] #[(.pointer (some ⟨b0, 0, none⟩))])] w (Res W G H (fun G' Ho v => ∃ r0 : Value, ∃ i0 : Itm, Ho = [i0] ∧ r0 = v ∧ Ow (RI .i64) 2 G' i0 r0 y)) := by
 refine calls_b (args := [(.func (.func 112) #[] #[(.pointer (some ⟨b0, 0, none⟩))])]) (N := 9) [.tmp 2] Tryd.func73 rfl rfl (Nat.le_of_ble_eq_true rfl) rfl (fun a f => ?_)
 unfold D.slices_Sorted_int64 at hd
 refine k_seq ?_
 refine k_region ?_
 refine l_op f rfl rfl rfl (r_assign (f.eval rfl)) (fun a f => ?_)
 refine l_nil ?_
 refine k_seq ?_
 refine k_region ?_
 refine l_op f rfl rfl rfl (r_move (f.eval rfl)) (fun a f => ?_)
 obtain ⟨y_1, hy_2, hd⟩ := bind_some hd
 refine l_res f rfl rfl Tryd.call110 (Wk.slices_Collect_int64 m h0 hy_2) (fun v_6 G_3 Ho_7 w hl_4 m hQ_5 a f => ?_)
 obtain ⟨v_11, it_8, rfl, rfl, o_9⟩ := hQ_5
 have m : Mem W G_3 w (it_8 :: H) := m
 refine l_op f rfl rfl rfl (r_assign (f.eval rfl)) (fun a f => ?_)
 refine l_nil ?_
 refine k_seq ?_
 refine k_region ?_
 refine l_op f rfl rfl rfl (r_move (f.eval rfl)) (fun a f => ?_)
 obtain ⟨y_12, hy_13, hd⟩ := bind_some hd
 refine l_res f rfl rfl Tryd.call111 (Wk.slices_Sort_int64_int64 m o_9 hy_13) (fun v_17 G_14 Ho_18 w hl_15 m hQ_16 a f => ?_)
 obtain ⟨it_19, rfl, o_20⟩ := hQ_16
 have m : Mem W G_14 w (it_19 :: H) := m
 refine l_nil ?_
 refine k_seq ?_
 refine k_region ?_
 refine l_op f rfl rfl rfl (r_move (f.eval rfl)) (fun a f => ?_)
 refine l_op f rfl rfl rfl (r_assign (f.eval rfl)) (fun a f => ?_)
 refine l_nil ?_
 refine k_ret ?_
 obtain rfl := Option.some.inj hd
 exact ⟨[v_11], ⟨f.get _ _ rfl, trivial⟩, f.defers, _, [it_19], (GLe.trans hl_4 hl_15), m, _, _, rfl, rfl, o_20⟩


end Go.Proofs.YtehnblgkgaakeaaDoor
