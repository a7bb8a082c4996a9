/- Parts of the proof: CGW. -/
import Derived.Test.YtocakchlhemmeaaDoorCl4
import Derived.Test.YtocakchlhemmeaaDoorProg
import Derived.KernelRfl
set_option linter.unusedVariables false
set_option linter.unusedSimpArgs false
set_option linter.unusedSectionVars false
set_option maxRecDepth 100000
namespace Go.Proofs.YtocakchlhemmeaaDoor
open Go Go.Sx
theorem Pl4 : Plain Tryd.prog 4 := Tryd.isAgg4
theorem T104 : SlT Tryd.prog 104 4 1 1 (.bool false) := ⟨Tryd.underlying104, Tryd.t4, by kernel_rfl, by kernel_rfl, by kernel_rfl, by kernel_rfl⟩

theorem Wk.spec_l1CopyGraph {W w : World} {G : GH} {H : List Itm} {v0_0 : Value} {x0_0 : (List (List Int))} (m : Mem W G w (H)) (h0_0 : RSl (RSl (RI .i64)) G v0_0 x0_0) {y : ((List (List Int)))} (hd : D.spec_l1CopyGraph x0_0 = some y) :
  Calls Tryd.prog 149 #[(.agg #[v0_0])] w (Res W G H (fun G' Ho v => ∃ r0 : Value, ∃ i0 : Itm, Ho = [i0] ∧ v = (.agg #[r0]) ∧ Ow (RSl (RI .i64)) 36 G' i0 r0 y)) := by
 refine calls_b (args := [(.agg #[v0_0])]) (N := 25) [.cell 2 27] Tryd.func149 rfl rfl (Nat.le_of_ble_eq_true rfl) rfl fun a f => ?_
 unfold D.spec_l1CopyGraph at hd
 refine k_seq (k_region ?_)
 refine l_box (cs := [v0_0]) m f rfl rfl rfl fun b_2 w a m f => ?_
 refine l_alloc (cs := [(.slice none 0 0)]) Tryd.zeroValue27 m f rfl rfl fun b_4 w a m f => ?_
 refine l_nil (k_seq (k_region ?_))
 have hb_5 : ∀ w, (Instr.build 27 #[]).run Tryd.prog w = .ok (.agg #[(.slice none 0 0)]) w := by intro w; simp [Instr.build, Instr.fill, cells_int, cells_bool, cells_string, cells_slice, cells_pointer, cells_agg]
 refine l_build f rfl rfl hb_5 fun a f => ?_
 refine l_alloc (cs := [(.slice none 0 0)]) Tryd.zeroValue27 m f rfl rfl fun b_7 w a m f => ?_
 refine l_boxStore 0 0 (ds := [(.slice none 0 0)]) m Tryd.sizeOf27 f rfl rfl rfl (ones_cons rfl ones_nil) rfl (Nat.le_of_ble_eq_true rfl) rfl fun w m => ?_
 refine l_nil (k_seq (k_seq (k_region ?_)))
 refine l_as f rfl rfl fun a f => ?_
 refine l_nil ?_
 obtain ⟨it_102, m, o_103⟩ := Ow.nil (RSl (RI .i64)) 36 m
 obtain ⟨q_96, hl_97, hd⟩ := bind_some hd
 refine k_cut (fun a w => ∃ l_153 : List (List Int), l_153 = q_96 ∧ ∃ (G_152 : GH) (v_154 : Value) (it_155 : Itm), GLe G G_152 ∧ Fr a 25 [(2, (.pointer (some ⟨b_4, 0, none⟩))), (3, (.pointer (some ⟨b_7, 0, none⟩)))] ∧ Mem W G_152 w (Itm.box b_4 27 [(.slice none 0 0)] :: Itm.box b_7 27 [v_154] :: it_155 :: H) ∧ Ow (RSl (RI .i64)) 36 G_152 it_155 v_154 l_153) ?_ ?_
 ·refine k_block ?_
  have m := m.front 1 rfl
  have m := m.front 2 rfl
  have m := m.front 3 rfl
  refine k_loop (fun s_100 a w => ∃ x_106 : Int, ∃ l_107 : List (List Int), (x_106, l_107) = s_100 ∧ ∃ (G_105 : GH) (v_108 : Value) (it_109 : Itm), GLe G G_105 ∧ Fr a 25 [(1, (.pointer (some ⟨b_2, 0, none⟩))), (2, (.pointer (some ⟨b_4, 0, none⟩))), (3, (.pointer (some ⟨b_7, 0, none⟩))), (4, (.int .i64 x_106))] ∧ Mem W G_105 w (Itm.box b_2 27 [v0_0] :: Itm.box b_4 27 [(.slice none 0 0)] :: Itm.box b_7 27 [v_108] :: it_109 :: H) ∧ Ow (RSl (RI .i64)) 36 G_105 it_109 v_108 l_107) hl_97 ⟨_, _, rfl, _, (.slice none 0 0), it_102, (GLe.refl _), f.weak ⟨rfl, rfl, rfl, rfl, trivial⟩, m, o_103⟩ ?_
  clear hl_97 f m
  rintro s_100 o_101 hs_98 hq_99 a w ⟨x_106, l_107, rfl, G_105, v_108, it_109, hl_112, f, m, o_110⟩
  have h0_0 := RSl.mono (RSl.mono (RI.mono _)) _ _ _ _ hl_112 h0_0
  refine k_seq (k_seq (k_region ?_))
  refine l_mv f rfl rfl fun a f => ?_
  refine l_fieldAddr Tryd.underlying27 rfl Tryd.sizeOf22 (by decide) f rfl rfl fun a f => ?_
  refine l_boxCell 0 0 m Pl22 f rfl rfl rfl rfl fun a f => ?_
  refine l_len Tryd.underlying22 f rfl rfl h0_0 fun a f => ?_
  refine l_in f rfl rfl rfl b_lss fun a f => ?_
  refine l_nil ?_
  rcases cond_some hs_98 with ⟨hc_159, hs_98⟩ | ⟨hc_159, hs_98⟩
  ·refine k_true f rfl hc_159 ?_
   refine k_skip ?_
   refine k_seq (k_block ?_)
   refine k_draw 9 Follows (by kernel_rfl) m ?_
   refine q_fieldAddr (i := 0) 9 Tryd.underlying27 rfl Tryd.sizeOf22 (by decide) rfl (by kernel_rfl) rfl f rfl rfl rfl fun a f => ?_
   refine q_boxCell (i := 1) 9 2 Pl22 rfl rfl rfl (by kernel_rfl) rfl f rfl rfl rfl fun a f => ?_
   refine q_fieldAddr (i := 2) 9 Tryd.underlying27 rfl Tryd.sizeOf22 (by decide) rfl (by kernel_rfl) rfl f rfl rfl rfl fun a f => ?_
   refine q_boxCell (i := 3) 9 0 Pl22 rfl rfl rfl (by kernel_rfl) rfl f rfl rfl rfl fun a f => ?_
   refine q_mv 4 9 rfl (by kernel_rfl) f rfl rfl rfl fun a f => ?_
   obtain ⟨e_160, he_161, hs_98⟩ := bind_some hs_98
   refine q_at (i := 5) 9 T22 h0_0 he_161 rfl (by kernel_rfl) rfl f rfl rfl rfl rfl fun p_162 c_163 a g_164 h_165 f => ?_
   refine q_loadAt (i := 6) 9 Pl36 g_164 rfl (by kernel_rfl) rfl f rfl rfl rfl fun a f => ?_
   refine q_one (i := 7) rfl (by kernel_rfl) rfl fun G_166 w hl_167 m K_168 K_168 => ?_
   have h0_0 := RSl.mono (RSl.mono (RI.mono _)) _ _ _ _ hl_167 h0_0
   have g_164 := At.mono hl_167 g_164
   have h_165 := RSl.mono (RI.mono _) _ _ _ _ hl_167 h_165
   have o_110 := Ow.mono (RSl.mono (RI.mono _)) hl_167 o_110
   obtain ⟨y_169, hy_170, hs_98⟩ := bind_some hs_98
   refine l_res f rfl rfl Tryd.call92 (Wk.spec_l1Copy m h_165 hy_170) fun v_174 G_171 Ho_175 w hl_172 m hQ_173 a f => ?_
   obtain ⟨v_176, it_177, rfl, rfl, o_178⟩ := hQ_173
   have h0_0 := RSl.mono (RSl.mono (RI.mono _)) _ _ _ _ hl_172 h0_0
   have g_164 := At.mono hl_172 g_164
   have h_165 := RSl.mono (RI.mono _) _ _ _ _ hl_172 h_165
   have o_110 := Ow.mono (RSl.mono (RI.mono _)) hl_172 o_110
   refine l_nil ?_
   refine K_168 G_171 [it_177] _ _ hl_172 m ?_
   refine q_one (i := 8) rfl (by kernel_rfl) rfl fun G_180 w hl_181 m K_182 K_182 => ?_
   have h0_0 := RSl.mono (RSl.mono (RI.mono _)) _ _ _ _ hl_181 h0_0
   have g_164 := At.mono hl_181 g_164
   have h_165 := RSl.mono (RI.mono _) _ _ _ _ hl_181 h_165
   have o_178 := Ow.mono (RI.mono _) hl_181 o_178
   have o_110 := Ow.mono (RSl.mono (RI.mono _)) hl_181 o_110
   obtain ⟨G_183, hl_184, m, h_185⟩ := Ow.stamp (RI.mono _) o_178 m
   have h0_0 := RSl.mono (RSl.mono (RI.mono _)) _ _ _ _ hl_184 h0_0
   have g_164 := At.mono hl_184 g_164
   have h_165 := RSl.mono (RI.mono _) _ _ _ _ hl_184 h_165
   have o_110 := Ow.mono (RSl.mono (RI.mono _)) hl_184 o_110
   refine l_slit (R := (RSl (RI .i64))) (xs := ([y_169] : List (List Int))) (RSl.one _) m T22 f rfl rfl rfl (by decide) (All2.cons h_185 (All2.nil _)) fun it_186 v_187 w a m o_188 f => ?_
   refine l_nil ?_
   refine K_182 G_183 [it_186] _ _ hl_184 m ?_
   refine q_end fun G_190 w hl_191 m => ?_
   have h0_0 := RSl.mono (RSl.mono (RI.mono _)) _ _ _ _ hl_191 h0_0
   have g_164 := At.mono hl_191 g_164
   have h_165 := RSl.mono (RI.mono _) _ _ _ _ hl_191 h_165
   have h_185 := RSl.mono (RI.mono _) _ _ _ _ hl_191 h_185
   have o_188 := Ow.mono (RSl.mono (RI.mono _)) hl_191 o_188
   have o_110 := Ow.mono (RSl.mono (RI.mono _)) hl_191 o_110
   obtain ⟨l_192, hx_193, hs_98⟩ := bind_some hs_98
   refine l_append (RSl.one _) 4 m o_110 rfl T22 rfl (by decide) f rfl rfl rfl (Ow.src (j := 0) o_188 m rfl) hx_193 fun it_194 v_195 w a m o_196 f => ?_
   refine l_fieldAddr Tryd.underlying27 rfl Tryd.sizeOf22 (by decide) f rfl rfl fun a f => ?_
   refine l_boxStore 3 0 (ds := [v_195]) m Tryd.sizeOf22 f rfl rfl (Ow.cells 4 m o_196 rfl) (ones_cons (Ow.one1 4 m o_196 rfl) ones_nil) rfl (Nat.le_of_ble_eq_true rfl) rfl fun w m => ?_
   refine l_nil (k_region ?_)
   refine l_mv f rfl rfl fun a f => ?_
   refine l_in f rfl rfl rfl b_add fun a f => ?_
   refine l_as f rfl rfl fun a f => ?_
   refine l_nil ?_
   have m := m.front 4 rfl
   have m := m.front 4 rfl
   have m := m.front 4 rfl
   have m := m.front 4 rfl
   have m := m.eraseAt 4
   obtain rfl := sj hs_98
   exact ⟨_, rfl, _, _, rfl, _, v_195, it_194, (GLe.trans hl_112 (GLe.trans hl_167 (GLe.trans hl_172 (GLe.trans hl_181 (GLe.trans hl_184 hl_191))))), f.weak ⟨rfl, rfl, rfl, rfl, trivial⟩, m, o_196⟩
  ·refine k_false f rfl hc_159 ?_
   refine k_exit rfl ?_
   have m := m.front 3 rfl
   have m := m.front 3 rfl
   have m := m.front 3 rfl
   have m := m.eraseAt 3
   obtain rfl := sj hs_98
   obtain rfl := hq_99 _ rfl
   exact ⟨_, rfl, _, v_108, it_109, hl_112, f.weak ⟨rfl, rfl, trivial⟩, m, o_110⟩
 ·rintro a w ⟨l_153, rfl, G_152, v_154, it_155, hl_158, f, m, o_156⟩
  refine k_seq (k_region ?_)
  refine l_boxAgg 1 0 (ds := [v_154]) m Ag27 f rfl rfl rfl rfl rfl fun a f => ?_
  refine l_boxStore 0 0 (ds := [v_154]) m Tryd.sizeOf27 f rfl rfl rfl (ones_cons (Ow.one1 2 m o_156 rfl) ones_nil) rfl (Nat.le_of_ble_eq_true rfl) rfl fun w m => ?_
  refine l_nil ?_
  refine k_ret ?_
  have rc_198 := rr_agg (P := Tryd.prog) 0 m Ag27 f (s := 2) rfl rfl rfl
  have m := m.front 2 rfl
  have m := m.eraseAt 2
  have m := m.eraseAt 1
  obtain rfl := sj hd
  exact ⟨[(.agg #[v_154])], ⟨rc_198, trivial⟩, f.defers, _, [it_155], hl_158, m, _, _, rfl, rfl, o_156⟩

theorem Wk.spec_l7Left {W w : World} {G : GH} {H : List Itm} {v0_0 : Value} {v2 : Value} {x0_0 : (List (List Int))} {x1 : Int} {x2 : (List Bool)} (m : Mem W G w (H)) (h0_0 : RSl (RSl (RI .i64)) G v0_0 x0_0) (h2 : RSl RB G v2 x2) {y : ((List Int))} (hd : D.spec_l7Left x0_0 x1 x2 = some y) :
  Calls Tryd.prog 105 #[(.agg #[v0_0]), (.int .i64 x1), v2] w (Res W G H (fun G' Ho v => ∃ r0 : Value, ∃ i0 : Itm, Ho = [i0] ∧ r0 = v ∧ Ow (RI .i64) 2 G' i0 r0 y)) := by
 refine calls_b (args := [(.agg #[v0_0]), (.int .i64 x1), v2]) (N := 44) [.tmp 6] Tryd.func105 rfl rfl (Nat.le_of_ble_eq_true rfl) rfl fun a f => ?_
 unfold D.spec_l7Left at hd
 refine k_seq (k_region ?_)
 refine l_box (cs := [v0_0]) m f rfl rfl rfl fun b_2 w a m f => ?_
 refine l_as f rfl rfl fun a f => ?_
 refine l_nil (k_seq (k_region ?_))
 refine l_slit (R := (RI .i64)) (xs := ([] : List Int)) (RI.one _) m T36 f rfl rfl rfl (by decide) (All2.nil _) fun it_3 v_4 w a m o_5 f => ?_
 refine l_as f rfl rfl fun a f => ?_
 refine l_nil (k_seq (k_seq (k_region ?_)))
 refine l_as f rfl rfl fun a f => ?_
 refine l_nil ?_
 obtain ⟨q_110, hl_111, hd⟩ := bind_some hd
 refine k_cut (fun a w => ∃ l_173 : List Int, l_173 = q_110 ∧ ∃ (G_172 : GH) (v_174 : Value) (it_175 : Itm), GLe G G_172 ∧ Fr a 44 [(7, v_174)] ∧ Mem W G_172 w (it_175 :: H) ∧ Ow (RI .i64) 2 G_172 it_175 v_174 l_173) ?_ ?_
 ·refine k_block ?_
  have m := m.front 1 rfl
  refine k_loop (fun s_114 a w => ∃ l_117 : List Int, ∃ x_122 : Int, (l_117, x_122) = s_114 ∧ ∃ (G_116 : GH) (v_118 : Value) (it_119 : Itm), GLe G G_116 ∧ Fr a 44 [(1, (.int .i64 x1)), (2, v2), (3, (.pointer (some ⟨b_2, 0, none⟩))), (7, v_118), (8, (.int .i64 x_122))] ∧ Mem W G_116 w (Itm.box b_2 27 [v0_0] :: it_119 :: H) ∧ Ow (RI .i64) 2 G_116 it_119 v_118 l_117) hl_111 ⟨_, _, rfl, _, v_4, it_3, (GLe.refl _), f.weak ⟨rfl, rfl, rfl, rfl, rfl, trivial⟩, m, o_5⟩ ?_
  clear hl_111 f m
  rintro s_114 o_115 hs_112 hq_113 a w ⟨l_117, x_122, rfl, G_116, v_118, it_119, hl_123, f, m, o_120⟩
  have h2 := RSl.mono RB.mono _ _ _ _ hl_123 h2
  have h0_0 := RSl.mono (RSl.mono (RI.mono _)) _ _ _ _ hl_123 h0_0
  refine k_seq (k_seq (k_region ?_))
  refine l_mv f rfl rfl fun a f => ?_
  refine l_fieldAddr Tryd.underlying27 rfl Tryd.sizeOf22 (by decide) f rfl rfl fun a f => ?_
  refine l_boxCell 0 0 m Pl22 f rfl rfl rfl rfl fun a f => ?_
  refine l_mv f rfl rfl fun a f => ?_
  obtain ⟨e_179, he_180, hs_112⟩ := bind_some hs_112
  refine l_at T22 f rfl rfl rfl h0_0 he_180 fun p_181 c_182 a g_183 h_184 f => ?_
  refine l_loadAt m Pl36 f rfl rfl g_183 fun a f => ?_
  refine l_len Tryd.underlying36 f rfl rfl h_184 fun a f => ?_
  refine l_in f rfl rfl rfl b_lss fun a f => ?_
  refine l_nil ?_
  rcases cond_some hs_112 with ⟨hc_185, hs_112⟩ | ⟨hc_185, hs_112⟩
  ·refine k_true f rfl hc_185 ?_
   refine k_skip ?_
   refine k_seq (k_block (k_seq (k_region ?_)))
   refine l_mv f rfl rfl fun a f => ?_
   refine l_fieldAddr Tryd.underlying27 rfl Tryd.sizeOf22 (by decide) f rfl rfl fun a f => ?_
   refine l_boxCell 0 0 m Pl22 f rfl rfl rfl rfl fun a f => ?_
   refine l_mv f rfl rfl fun a f => ?_
   obtain ⟨e_186, he_187, hs_112⟩ := bind_some hs_112
   refine l_at T22 f rfl rfl rfl h0_0 he_187 fun p_188 c_189 a g_190 h_191 f => ?_
   refine l_loadAt m Pl36 f rfl rfl g_190 fun a f => ?_
   refine l_mv f rfl rfl fun a f => ?_
   obtain ⟨e_192, he_193, hs_112⟩ := bind_some hs_112
   refine l_at T36 f rfl rfl rfl h_191 he_193 fun p_194 c_195 a g_196 h_197 f => ?_
   subst h_197
   refine l_loadAt m Pl2 f rfl rfl g_196 fun a f => ?_
   obtain ⟨e_198, he_199, hs_112⟩ := bind_some hs_112
   refine l_at T104 f rfl rfl rfl h2 he_199 fun p_200 c_201 a g_202 h_203 f => ?_
   subst h_203
   refine l_loadAt m Pl4 f rfl rfl g_202 fun a f => ?_
   refine l_op f rfl rfl rfl (r_not (f.eval rfl)) fun a f => ?_
   refine l_nil ?_
   rcases cond_some hs_112 with ⟨hc_204, hs_112⟩ | ⟨hc_204, hs_112⟩
   ·refine k_true f rfl hc_204 ?_
    refine k_region ?_
    refine l_mv f rfl rfl fun a f => ?_
    refine l_fieldAddr Tryd.underlying27 rfl Tryd.sizeOf22 (by decide) f rfl rfl fun a f => ?_
    refine l_boxCell 0 0 m Pl22 f rfl rfl rfl rfl fun a f => ?_
    refine l_mv f rfl rfl fun a f => ?_
    obtain ⟨e_205, he_206, hs_112⟩ := bind_some hs_112
    refine l_at T22 f rfl rfl rfl h0_0 he_206 fun p_207 c_208 a g_209 h_210 f => ?_
    refine l_loadAt m Pl36 f rfl rfl g_209 fun a f => ?_
    refine l_mv f rfl rfl fun a f => ?_
    obtain ⟨e_211, he_212, hs_112⟩ := bind_some hs_112
    refine l_at T36 f rfl rfl rfl h_210 he_212 fun p_213 c_214 a g_215 h_216 f => ?_
    subst h_216
    refine l_loadAt m Pl2 f rfl rfl g_215 fun a f => ?_
    refine l_slit (R := (RI .i64)) (xs := ([e_211] : List Int)) (RI.one _) m T36 f rfl rfl rfl (by decide) (All2.cons rfl (All2.nil _)) fun it_217 v_218 w a m o_219 f => ?_
    obtain ⟨l_221, hx_222, hs_112⟩ := bind_some hs_112
    refine l_append (RI.one _) 2 m o_120 rfl T36 rfl (by decide) f rfl rfl rfl (Ow.src (j := 0) o_219 m rfl) hx_222 fun it_223 v_224 w a m o_225 f => ?_
    refine l_as f rfl rfl fun a f => ?_
    refine l_nil (k_region ?_)
    refine l_mv f rfl rfl fun a f => ?_
    refine l_in f rfl rfl rfl b_add fun a f => ?_
    refine l_as f rfl rfl fun a f => ?_
    refine l_nil ?_
    have m := m.front 2 rfl
    have m := m.front 2 rfl
    have m := m.eraseAt 2
    obtain rfl := sj hs_112
    exact ⟨_, rfl, _, _, rfl, _, v_224, it_223, hl_123, f.weak ⟨rfl, rfl, rfl, rfl, rfl, trivial⟩, m, o_225⟩
   ·refine k_false f rfl hc_204 ?_
    refine k_skip ?_
    refine k_region ?_
    refine l_mv f rfl rfl fun a f => ?_
    refine l_in f rfl rfl rfl b_add fun a f => ?_
    refine l_as f rfl rfl fun a f => ?_
    refine l_nil ?_
    have m := m.front 1 rfl
    have m := m.front 1 rfl
    obtain rfl := sj hs_112
    exact ⟨_, rfl, _, _, rfl, _, v_118, it_119, hl_123, f.weak ⟨rfl, rfl, rfl, rfl, rfl, trivial⟩, m, o_120⟩
  ·refine k_false f rfl hc_185 ?_
   refine k_exit rfl ?_
   have m := m.front 1 rfl
   have m := m.eraseAt 1
   obtain rfl := sj hs_112
   obtain rfl := hq_113 _ rfl
   exact ⟨_, rfl, _, v_118, it_119, hl_123, f.weak ⟨rfl, trivial⟩, m, o_120⟩
 ·rintro a w ⟨l_173, rfl, G_172, v_174, it_175, hl_178, f, m, o_176⟩
  refine k_seq (k_region ?_)
  refine l_mv f rfl rfl fun a f => ?_
  refine l_as f rfl rfl fun a f => ?_
  refine l_nil ?_
  refine k_ret ?_
  obtain rfl := sj hd
  exact ⟨[v_174], ⟨f.get _ _ rfl, trivial⟩, f.defers, _, [it_175], hl_178, m, _, _, rfl, rfl, o_176⟩

theorem Wk.spec_l7Clique {W w : World} {G : GH} {H : List Itm} {v0_0 : Value} {it0_0 : Itm} {v1 : Value} {x0_0 : (List (List Int))} {x1 : (List Int)} (m : Mem W G w (it0_0 :: H)) (o0_0 : Ow (RSl (RI .i64)) 36 G it0_0 v0_0 x0_0) (h1 : RSl (RI .i64) G v1 x1) {y : ((List (List Int)))} (hd : D.spec_l7Clique x0_0 x1 = some y) :
  Calls Tryd.prog 150 #[(.agg #[v0_0]), v1] w (Res W G H (fun G' Ho v => ∃ i0 : Itm, Ho = [i0] ∧ v = (.agg #[v0_0]) ∧ Ow (RSl (RI .i64)) 36 G' i0 v0_0 y)) := by
 refine calls_b (args := [(.agg #[v0_0]), v1]) (N := 29) [.cell 4 27] Tryd.func150 rfl rfl (Nat.le_of_ble_eq_true rfl) rfl fun a f => ?_
 unfold D.spec_l7Clique at hd
 refine k_seq (k_region ?_)
 refine l_box (cs := [v0_0]) m f rfl rfl rfl fun b_2 w a m f => ?_
 refine l_alloc (cs := [(.slice none 0 0)]) Tryd.zeroValue27 m f rfl rfl fun b_4 w a m f => ?_
 refine l_nil (k_seq (k_seq (k_region ?_)))
 refine l_as f rfl rfl fun a f => ?_
 refine l_nil ?_
 obtain ⟨q_248, hl_249, hd⟩ := bind_some hd
 refine k_cut (fun a w => ∃ l_380 : List (List Int), l_380 = q_248 ∧ ∃ (G_379 : GH) (it_381 : Itm), GLe G G_379 ∧ Fr a 29 [(2, (.pointer (some ⟨b_2, 0, none⟩))), (4, (.pointer (some ⟨b_4, 0, none⟩)))] ∧ Mem W G_379 w (Itm.box b_2 27 [v0_0] :: Itm.box b_4 27 [(.slice none 0 0)] :: it_381 :: H) ∧ Ow (RSl (RI .i64)) 36 G_379 it_381 v0_0 l_380) ?_ ?_
 ·refine k_block ?_
  have m := m.front 2 rfl
  have m := m.front 1 rfl
  have m := m.front 2 rfl
  refine k_loop (fun s_252 a w => ∃ l_255 : List (List Int), ∃ x_258 : Int, (l_255, x_258) = s_252 ∧ ∃ (G_254 : GH) (it_256 : Itm), GLe G G_254 ∧ Fr a 29 [(1, v1), (2, (.pointer (some ⟨b_2, 0, none⟩))), (4, (.pointer (some ⟨b_4, 0, none⟩))), (5, (.int .i64 x_258))] ∧ Mem W G_254 w (Itm.box b_2 27 [v0_0] :: Itm.box b_4 27 [(.slice none 0 0)] :: it_256 :: H) ∧ Ow (RSl (RI .i64)) 36 G_254 it_256 v0_0 l_255) hl_249 ⟨_, _, rfl, _, it0_0, (GLe.refl _), f.weak ⟨rfl, rfl, rfl, rfl, trivial⟩, m, o0_0⟩ ?_
  clear hl_249 f m
  rintro s_252 o_253 hs_250 hq_251 a w ⟨l_255, x_258, rfl, G_254, it_256, hl_259, f, m, o_257⟩
  have h1 := RSl.mono (RI.mono _) _ _ _ _ hl_259 h1
  refine k_seq (k_seq (k_region ?_))
  refine l_mv f rfl rfl fun a f => ?_
  refine l_mv f rfl rfl fun a f => ?_
  refine l_len Tryd.underlying36 f rfl rfl h1 fun a f => ?_
  refine l_in f rfl rfl rfl b_lss fun a f => ?_
  refine l_nil ?_
  rcases cond_some hs_250 with ⟨hc_384, hs_250⟩ | ⟨hc_384, hs_250⟩
  ·refine k_true f rfl hc_384 ?_
   refine k_skip ?_
   refine k_seq (k_block (k_seq (k_region ?_)))
   refine l_as f rfl rfl fun a f => ?_
   refine l_nil ?_
   obtain ⟨q_438, hl_439, hs_250⟩ := bind_some hs_250
   refine k_cut (fun a w => ∃ l_475 : List (List Int), l_475 = q_438 ∧ ∃ (G_474 : GH) (it_476 : Itm), GLe G_254 G_474 ∧ Fr a 29 [(1, v1), (2, (.pointer (some ⟨b_2, 0, none⟩))), (4, (.pointer (some ⟨b_4, 0, none⟩))), (5, (.int .i64 x_258))] ∧ Mem W G_474 w (Itm.box b_2 27 [v0_0] :: Itm.box b_4 27 [(.slice none 0 0)] :: it_476 :: H) ∧ Ow (RSl (RI .i64)) 36 G_474 it_476 v0_0 l_475) ?_ ?_
   ·refine k_block ?_
    have m := m.front 2 rfl
    have m := m.front 2 rfl
    have m := m.front 2 rfl
    refine k_loop (fun s_442 a w => ∃ l_445 : List (List Int), ∃ x_448 : Int, (l_445, x_448) = s_442 ∧ ∃ (G_444 : GH) (it_446 : Itm), GLe G_254 G_444 ∧ Fr a 29 [(1, v1), (2, (.pointer (some ⟨b_2, 0, none⟩))), (4, (.pointer (some ⟨b_4, 0, none⟩))), (5, (.int .i64 x_258)), (6, (.int .i64 x_448))] ∧ Mem W G_444 w (Itm.box b_2 27 [v0_0] :: Itm.box b_4 27 [(.slice none 0 0)] :: it_446 :: H) ∧ Ow (RSl (RI .i64)) 36 G_444 it_446 v0_0 l_445) hl_439 ⟨_, _, rfl, _, it_256, (GLe.refl _), f.weak ⟨rfl, rfl, rfl, rfl, rfl, trivial⟩, m, o_257⟩ ?_
    clear hl_439 f m
    rintro s_442 o_443 hs_440 hq_441 a w ⟨l_445, x_448, rfl, G_444, it_446, hl_449, f, m, o_447⟩
    have h1 := RSl.mono (RI.mono _) _ _ _ _ hl_449 h1
    refine k_seq (k_seq (k_region ?_))
    refine l_mv f rfl rfl fun a f => ?_
    refine l_mv f rfl rfl fun a f => ?_
    refine l_in f rfl rfl rfl b_lss fun a f => ?_
    refine l_nil ?_
    rcases cond_some hs_440 with ⟨hc_479, hs_440⟩ | ⟨hc_479, hs_440⟩
    ·refine k_true f rfl hc_479 ?_
     refine k_skip ?_
     refine k_seq (k_block ?_)
     refine k_draw 9 Follows (by kernel_rfl) m ?_
     refine q_boxAgg (i := 0) (ds := [v0_0]) 9 0 Ag27 rfl rfl rfl rfl (by kernel_rfl) rfl f rfl rfl rfl fun a f => ?_
     refine q_mv 1 9 rfl (by kernel_rfl) f rfl rfl rfl fun a f => ?_
     refine q_mv 2 9 rfl (by kernel_rfl) f rfl rfl rfl fun a f => ?_
     obtain ⟨e_480, he_481, hs_440⟩ := bind_some hs_440
     refine q_at (i := 3) 9 T36 h1 he_481 rfl (by kernel_rfl) rfl f rfl rfl rfl rfl fun p_482 c_483 a g_484 h_485 f => ?_
     subst h_485
     refine q_loadAt (i := 4) 9 Pl2 g_484 rfl (by kernel_rfl) rfl f rfl rfl rfl fun a f => ?_
     refine q_mv 5 9 rfl (by kernel_rfl) f rfl rfl rfl fun a f => ?_
     refine q_mv 6 9 rfl (by kernel_rfl) f rfl rfl rfl fun a f => ?_
     obtain ⟨e_486, he_487, hs_440⟩ := bind_some hs_440
     refine q_at (i := 7) 9 T36 h1 he_487 rfl (by kernel_rfl) rfl f rfl rfl rfl rfl fun p_488 c_489 a g_490 h_491 f => ?_
     subst h_491
     refine q_loadAt (i := 8) 9 Pl2 g_490 rfl (by kernel_rfl) rfl f rfl rfl rfl fun a f => ?_
     refine q_end fun G_492 w hl_493 m => ?_
     have h1 := RSl.mono (RI.mono _) _ _ _ _ hl_493 h1
     have g_484 := At.mono hl_493 g_484
     have g_490 := At.mono hl_493 g_490
     have o_447 := Ow.mono (RSl.mono (RI.mono _)) hl_493 o_447
     have m := m.front 2 rfl
     obtain ⟨y_494, hy_495, hs_440⟩ := bind_some hs_440
     refine l_res f rfl rfl Tryd.call138 (Wk.spec_l1Link m o_447 hy_495) fun v_499 G_496 Ho_500 w hl_497 m hQ_498 a f => ?_
     obtain ⟨it_501, rfl, rfl, o_502⟩ := hQ_498
     have h1 := RSl.mono (RI.mono _) _ _ _ _ hl_497 h1
     have g_484 := At.mono hl_497 g_484
     have g_490 := At.mono hl_497 g_490
     refine l_boxStore 1 0 (ds := [v0_0]) m Tryd.sizeOf27 f rfl rfl rfl (ones_cons (Ow.one1 0 m o_502 rfl) ones_nil) rfl (Nat.le_of_ble_eq_true rfl) rfl fun w m => ?_
     refine l_nil (k_region ?_)
     refine l_mv f rfl rfl fun a f => ?_
     refine l_in f rfl rfl rfl b_add fun a f => ?_
     refine l_as f rfl rfl fun a f => ?_
     refine l_nil ?_
     have m := m.front 2 rfl
     have m := m.front 2 rfl
     obtain rfl := sj hs_440
     exact ⟨_, rfl, _, _, rfl, _, it_501, (GLe.trans hl_449 (GLe.trans hl_493 hl_497)), f.weak ⟨rfl, rfl, rfl, rfl, rfl, trivial⟩, m, o_502⟩
    ·refine k_false f rfl hc_479 ?_
     refine k_exit rfl ?_
     have m := m.front 2 rfl
     have m := m.front 2 rfl
     have m := m.front 2 rfl
     obtain rfl := sj hs_440
     obtain rfl := hq_441 _ rfl
     exact ⟨_, rfl, _, it_446, hl_449, f.weak ⟨rfl, rfl, rfl, rfl, trivial⟩, m, o_447⟩
   ·rintro a w ⟨l_475, rfl, G_474, it_476, hl_478, f, m, o_477⟩
    have h1 := RSl.mono (RI.mono _) _ _ _ _ hl_478 h1
    refine k_region ?_
    refine l_mv f rfl rfl fun a f => ?_
    refine l_in f rfl rfl rfl b_add fun a f => ?_
    refine l_as f rfl rfl fun a f => ?_
    refine l_nil ?_
    have m := m.front 2 rfl
    have m := m.front 2 rfl
    have m := m.front 2 rfl
    obtain rfl := sj hs_250
    exact ⟨_, rfl, _, _, rfl, _, it_476, (GLe.trans hl_259 hl_478), f.weak ⟨rfl, rfl, rfl, rfl, trivial⟩, m, o_477⟩
  ·refine k_false f rfl hc_384 ?_
   refine k_exit rfl ?_
   have m := m.front 2 rfl
   have m := m.front 2 rfl
   have m := m.front 2 rfl
   obtain rfl := sj hs_250
   obtain rfl := hq_251 _ rfl
   exact ⟨_, rfl, _, it_256, hl_259, f.weak ⟨rfl, rfl, trivial⟩, m, o_257⟩
 ·rintro a w ⟨l_380, rfl, G_379, it_381, hl_383, f, m, o_382⟩
  refine k_seq (k_region ?_)
  refine l_boxAgg 0 0 (ds := [v0_0]) m Ag27 f rfl rfl rfl rfl rfl fun a f => ?_
  refine l_boxStore 1 0 (ds := [v0_0]) m Tryd.sizeOf27 f rfl rfl rfl (ones_cons (Ow.one1 2 m o_382 rfl) ones_nil) rfl (Nat.le_of_ble_eq_true rfl) rfl fun w m => ?_
  refine l_nil ?_
  refine k_ret ?_
  have rc_503 := rr_agg (P := Tryd.prog) 1 m Ag27 f (s := 4) rfl rfl rfl
  have m := m.front 2 rfl
  have m := m.eraseAt 2
  have m := m.eraseAt 1
  obtain rfl := sj hd
  exact ⟨[(.agg #[v0_0])], ⟨rc_503, trivial⟩, f.defers, _, [it_381], hl_383, m, _, rfl, rfl, o_382⟩

theorem Wk.spec_l7Fill {W w : World} {G : GH} {H : List Itm} {v0_0 : Value} {v1 : Value} {x0_0 : (List (List Int))} {x1 : (List Int)} (m : Mem W G w (H)) (h0_0 : RSl (RSl (RI .i64)) G v0_0 x0_0) (h1 : RSl (RI .i64) G v1 x1) {y : ((List (List Int)))} (hd : D.spec_l7Fill x0_0 x1 = some y) :
  Calls Tryd.prog 129 #[(.agg #[v0_0]), v1] w (Res W G H (fun G' Ho v => ∃ r0 : Value, ∃ i0 : Itm, Ho = [i0] ∧ v = (.agg #[r0]) ∧ Ow (RSl (RI .i64)) 36 G' i0 r0 y)) := by
 refine calls_b (args := [(.agg #[v0_0]), v1]) (N := 35) [.cell 4 27] Tryd.func129 rfl rfl (Nat.le_of_ble_eq_true rfl) rfl fun a f => ?_
 unfold D.spec_l7Fill at hd
 refine k_seq (k_region ?_)
 refine l_box (cs := [v0_0]) m f rfl rfl rfl fun b_2 w a m f => ?_
 refine l_alloc (cs := [(.slice none 0 0)]) Tryd.zeroValue27 m f rfl rfl fun b_4 w a m f => ?_
 refine l_nil (k_seq (k_region ?_))
 refine l_boxAgg 1 0 (ds := [v0_0]) m Ag27 f rfl rfl rfl rfl rfl fun a f => ?_
 obtain ⟨y_5, hy_6, hd⟩ := bind_some hd
 refine l_res f rfl rfl Tryd.call149 (Wk.spec_l1CopyGraph m h0_0 hy_6) fun v_10 G_7 Ho_11 w hl_8 m hQ_9 a f => ?_
 obtain ⟨v_12, it_13, rfl, rfl, o_14⟩ := hQ_9
 have h0_0 := RSl.mono (RSl.mono (RI.mono _)) _ _ _ _ hl_8 h0_0
 have h1 := RSl.mono (RI.mono _) _ _ _ _ hl_8 h1
 refine l_alloc (cs := [(.slice none 0 0)]) Tryd.zeroValue27 m f rfl rfl fun b_17 w a m f => ?_
 refine l_boxStore 0 0 (ds := [v_12]) m Tryd.sizeOf27 f rfl rfl rfl (ones_cons (Ow.one1 1 m o_14 rfl) ones_nil) rfl (Nat.le_of_ble_eq_true rfl) rfl fun w m => ?_
 refine l_nil (k_seq (k_region ?_))
 refine l_boxAgg 3 0 (ds := [v0_0]) m Ag27 f rfl rfl rfl rfl rfl fun a f => ?_
 obtain ⟨y_18, hy_19, hd⟩ := bind_some hd
 refine l_res f rfl rfl Tryd.call62 (Wk.spec_l1Size m h0_0 hy_19) fun v_23 G_20 Ho_24 w hl_21 m hQ_22 a f => ?_
 obtain ⟨rfl, rfl⟩ := hQ_22
 have h0_0 := RSl.mono (RSl.mono (RI.mono _)) _ _ _ _ hl_21 h0_0
 have h1 := RSl.mono (RI.mono _) _ _ _ _ hl_21 h1
 have o_14 := Ow.mono (RSl.mono (RI.mono _)) hl_21 o_14
 obtain ⟨l_25, hx_26, hd⟩ := bind_some hd
 refine l_make (R := RB) m T104 rfl (by decide) rfl f rfl rfl rfl hx_26 fun it_27 v_28 w a m o_29 f => ?_
 refine l_as f rfl rfl fun a f => ?_
 refine l_nil (k_seq (k_seq (k_region ?_)))
 refine l_as f rfl rfl fun a f => ?_
 refine l_nil ?_
 obtain ⟨q_145, hl_146, hd⟩ := bind_some hd
 refine k_cut (fun a w => ∃ l_214 : List (List Int), l_214 = q_145 ∧ ∃ (G_213 : GH) (it_215 : Itm), GLe G_20 G_213 ∧ Fr a 35 [(4, (.pointer (some ⟨b_4, 0, none⟩))), (5, (.pointer (some ⟨b_17, 0, none⟩)))] ∧ Mem W G_213 w (Itm.box b_4 27 [(.slice none 0 0)] :: Itm.box b_17 27 [v_12] :: it_215 :: H) ∧ Ow (RSl (RI .i64)) 36 G_213 it_215 v_12 l_214) ?_ ?_
 ·refine k_block ?_
  have m := m.front 2 rfl
  have m := m.front 1 rfl
  have m := m.front 2 rfl
  have m := m.front 3 rfl
  have m := m.eraseAt 4
  refine k_loop (fun s_149 a w => ∃ l_152 : List Bool, ∃ x_155 : Int, ∃ l_156 : List (List Int), (l_152, x_155, l_156) = s_149 ∧ ∃ (G_151 : GH) (it_153 : Itm) (it_157 : Itm), GLe G_20 G_151 ∧ Fr a 35 [(1, v1), (4, (.pointer (some ⟨b_4, 0, none⟩))), (5, (.pointer (some ⟨b_17, 0, none⟩))), (6, v_28), (7, (.int .i64 x_155))] ∧ Mem W G_151 w (Itm.box b_4 27 [(.slice none 0 0)] :: Itm.box b_17 27 [v_12] :: it_153 :: it_157 :: H) ∧ Ow RB 4 G_151 it_153 v_28 l_152 ∧ Ow (RSl (RI .i64)) 36 G_151 it_157 v_12 l_156) hl_146 ⟨_, _, _, rfl, _, it_27, it_13, (GLe.refl _), f.weak ⟨rfl, rfl, rfl, rfl, rfl, trivial⟩, m, o_29, o_14⟩ ?_
  clear hl_146 f m
  rintro s_149 o_150 hs_147 hq_148 a w ⟨l_152, x_155, l_156, rfl, G_151, it_153, it_157, hl_159, f, m, o_154, o_158⟩
  have h1 := RSl.mono (RI.mono _) _ _ _ _ hl_159 h1
  refine k_seq (k_seq (k_region ?_))
  refine l_mv f rfl rfl fun a f => ?_
  refine l_mv f rfl rfl fun a f => ?_
  refine l_len Tryd.underlying36 f rfl rfl h1 fun a f => ?_
  refine l_in f rfl rfl rfl b_lss fun a f => ?_
  refine l_nil ?_
  rcases cond_some hs_147 with ⟨hc_218, hs_147⟩ | ⟨hc_218, hs_147⟩
  ·refine k_true f rfl hc_218 ?_
   refine k_skip ?_
   refine k_seq (k_block (k_seq (k_region ?_)))
   refine l_mv f rfl rfl fun a f => ?_
   refine l_mv f rfl rfl fun a f => ?_
   refine l_mv f rfl rfl fun a f => ?_
   obtain ⟨e_219, he_220, hs_147⟩ := bind_some hs_147
   refine l_at T36 f rfl rfl rfl h1 he_220 fun p_221 c_222 a g_223 h_224 f => ?_
   subst h_224
   refine l_loadAt m Pl2 f rfl rfl g_223 fun a f => ?_
   obtain ⟨e_225, he_226, hs_147⟩ := bind_some hs_147
   refine l_own_at 2 m o_154 rfl T104 f rfl rfl rfl he_226 fun p_227 a ha_228 f => ?_
   refine l_own_store 2 m o_154 rfl Tryd.sizeOf4 f rfl rfl ha_228 he_226 rfl rfl rfl fun it_229 w m o_230 => ?_
   refine l_nil ?_
   refine k_draw 8 Follows (by kernel_rfl) m ?_
   refine q_boxAgg (i := 0) (ds := [v_12]) 8 1 Ag27 rfl rfl rfl rfl (by kernel_rfl) rfl f rfl rfl rfl fun a f => ?_
   refine q_boxAgg (i := 1) (ds := [v_12]) 8 1 Ag27 rfl rfl rfl rfl (by kernel_rfl) rfl f rfl rfl rfl fun a f => ?_
   refine q_mv 2 8 rfl (by kernel_rfl) f rfl rfl rfl fun a f => ?_
   refine q_mv 3 8 rfl (by kernel_rfl) f rfl rfl rfl fun a f => ?_
   obtain ⟨e_231, he_232, hs_147⟩ := bind_some hs_147
   refine q_at (i := 4) 8 T36 h1 he_232 rfl (by kernel_rfl) rfl f rfl rfl rfl rfl fun p_233 c_234 a g_235 h_236 f => ?_
   subst h_236
   refine q_loadAt (i := 5) 8 Pl2 g_235 rfl (by kernel_rfl) rfl f rfl rfl rfl fun a f => ?_
   refine q_mv 6 8 rfl (by kernel_rfl) f rfl rfl rfl fun a f => ?_
   refine q_one (i := 7) rfl (by kernel_rfl) rfl fun G_237 w hl_238 m K_239 K_239 => ?_
   have h1 := RSl.mono (RI.mono _) _ _ _ _ hl_238 h1
   have g_235 := At.mono hl_238 g_235
   have o_230 := Ow.mono RB.mono hl_238 o_230
   have o_158 := Ow.mono (RSl.mono (RI.mono _)) hl_238 o_158
   obtain ⟨y_240, hy_241, hs_147⟩ := bind_some hs_147
   refine l_res f rfl rfl Tryd.call105 (Ow.lendCall (RSl.mono (RI.mono _)) 3 o_158 m rfl (fun G_242 hl_243 m h_244 => (Ow.lendCall RB.mono 2 (Ow.mono RB.mono hl_243 o_230) m rfl (fun G_245 hl_246 m h_247 => Wk.spec_l7Left m (RSl.mono (RSl.mono (RI.mono _)) _ _ _ _ hl_246 h_244) h_247 hy_241) (fun _ G' _ _ ⟨a0, a1, e1, e2, o0⟩ => ⟨a0, a1, e1, e2, Ow.free (RI.free _) G' o0⟩))) (fun _ G' _ _ ⟨a0, a1, e1, e2, o0⟩ => ⟨a0, a1, e1, e2, Ow.free (RI.free _) G' o0⟩)) fun v_251 G_248 Ho_252 w hl_249 m hQ_250 a f => ?_
   obtain ⟨v_253, it_254, rfl, rfl, o_255⟩ := hQ_250
   have h1 := RSl.mono (RI.mono _) _ _ _ _ hl_249 h1
   have g_235 := At.mono hl_249 g_235
   have o_230 := Ow.mono RB.mono hl_249 o_230
   have o_158 := Ow.mono (RSl.mono (RI.mono _)) hl_249 o_158
   refine l_nil ?_
   refine K_239 G_248 [it_254] _ _ hl_249 m ?_
   refine q_end fun G_257 w hl_258 m => ?_
   have h1 := RSl.mono (RI.mono _) _ _ _ _ hl_258 h1
   have g_235 := At.mono hl_258 g_235
   have o_255 := Ow.mono (RI.mono _) hl_258 o_255
   have o_230 := Ow.mono RB.mono hl_258 o_230
   have o_158 := Ow.mono (RSl.mono (RI.mono _)) hl_258 o_158
   obtain ⟨G_259, hl_260, m, h_261⟩ := Ow.stamp (RI.mono _) o_255 m
   have h1 := RSl.mono (RI.mono _) _ _ _ _ hl_260 h1
   have g_235 := At.mono hl_260 g_235
   have o_230 := Ow.mono RB.mono hl_260 o_230
   have o_158 := Ow.mono (RSl.mono (RI.mono _)) hl_260 o_158
   have m := m.front 3 rfl
   obtain ⟨y_262, hy_263, hs_147⟩ := bind_some hs_147
   refine l_res f rfl rfl Tryd.call150 (Wk.spec_l7Clique m o_158 h_261 hy_263) fun v_267 G_264 Ho_268 w hl_265 m hQ_266 a f => ?_
   obtain ⟨it_269, rfl, rfl, o_270⟩ := hQ_266
   have h1 := RSl.mono (RI.mono _) _ _ _ _ hl_265 h1
   have g_235 := At.mono hl_265 g_235
   have h_261 := RSl.mono (RI.mono _) _ _ _ _ hl_265 h_261
   have o_230 := Ow.mono RB.mono hl_265 o_230
   refine l_boxStore 2 0 (ds := [v_12]) m Tryd.sizeOf27 f rfl rfl rfl (ones_cons (Ow.one1 0 m o_270 rfl) ones_nil) rfl (Nat.le_of_ble_eq_true rfl) rfl fun w m => ?_
   refine l_nil (k_region ?_)
   refine l_mv f rfl rfl fun a f => ?_
   refine l_in f rfl rfl rfl b_add fun a f => ?_
   refine l_as f rfl rfl fun a f => ?_
   refine l_nil ?_
   have m := m.front 3 rfl
   have m := m.front 3 rfl
   have m := m.front 3 rfl
   obtain rfl := sj hs_147
   exact ⟨_, rfl, _, _, _, rfl, _, it_229, it_269, (GLe.trans hl_159 (GLe.trans hl_238 (GLe.trans hl_249 (GLe.trans hl_258 (GLe.trans hl_260 hl_265))))), f.weak ⟨rfl, rfl, rfl, rfl, rfl, trivial⟩, m, o_230, o_270⟩
  ·refine k_false f rfl hc_218 ?_
   refine k_exit rfl ?_
   have m := m.front 3 rfl
   have m := m.front 2 rfl
   have m := m.front 2 rfl
   have m := m.eraseAt 3
   obtain rfl := sj hs_147
   obtain rfl := hq_148 _ rfl
   exact ⟨_, rfl, _, it_157, hl_159, f.weak ⟨rfl, rfl, trivial⟩, m, o_158⟩
 ·rintro a w ⟨l_214, rfl, G_213, it_215, hl_217, f, m, o_216⟩
  refine k_seq (k_region ?_)
  refine l_boxAgg 1 0 (ds := [v_12]) m Ag27 f rfl rfl rfl rfl rfl fun a f => ?_
  refine l_boxStore 0 0 (ds := [v_12]) m Tryd.sizeOf27 f rfl rfl rfl (ones_cons (Ow.one1 2 m o_216 rfl) ones_nil) rfl (Nat.le_of_ble_eq_true rfl) rfl fun w m => ?_
  refine l_nil ?_
  refine k_ret ?_
  have rc_271 := rr_agg (P := Tryd.prog) 0 m Ag27 f (s := 4) rfl rfl rfl
  have m := m.front 2 rfl
  have m := m.eraseAt 2
  have m := m.eraseAt 1
  obtain rfl := sj hd
  exact ⟨[(.agg #[v_12])], ⟨rc_271, trivial⟩, f.defers, _, [it_215], (GLe.trans hl_8 (GLe.trans hl_21 hl_217)), m, _, _, rfl, rfl, o_216⟩

theorem Wk.spec_FillOf {W w : World} {G : GH} {H : List Itm} {v0_0 : Value} {v1 : Value} {x0_0 : (List (List Int))} {x1 : (List Int)} (m : Mem W G w (H)) (h0_0 : RSl (RSl (RI .i64)) G v0_0 x0_0) (h1 : RSl (RI .i64) G v1 x1) {y : ((List (List Int))) × Bool} (hd : D.spec_FillOf x0_0 x1 = some y) :
  Calls Tryd.prog 101 #[(.agg #[v0_0]), v1] w (Res W G H (fun G' Ho v => ∃ r0 : Value, ∃ i0 : Itm, Ho = [i0] ∧ v = .tuple #[(.agg #[r0]), (.bool y.2)] ∧ Ow (RSl (RI .i64)) 36 G' i0 r0 y.1)) := by
 refine calls_b (args := [(.agg #[v0_0]), v1]) (N := 14) [.cell 4 27, .tmp 5] Tryd.func101 rfl rfl (Nat.le_of_ble_eq_true rfl) rfl fun a f => ?_
 unfold D.spec_FillOf at hd
 refine k_seq (k_region ?_)
 refine l_box (cs := [v0_0]) m f rfl rfl rfl fun b_2 w a m f => ?_
 refine l_alloc (cs := [(.slice none 0 0)]) Tryd.zeroValue27 m f rfl rfl fun b_4 w a m f => ?_
 refine l_as f rfl rfl fun a f => ?_
 refine l_nil (k_seq (k_seq (k_region ?_)))
 refine l_boxAgg 1 0 (ds := [v0_0]) m Ag27 f rfl rfl rfl rfl rfl fun a f => ?_
 refine l_mv f rfl rfl fun a f => ?_
 obtain ⟨y_5, hy_6, hd⟩ := bind_some hd
 refine l_res f rfl rfl Tryd.call18 (Wk.spec_OrderOk m h0_0 h1 hy_6) fun v_10 G_7 Ho_11 w hl_8 m hQ_9 a f => ?_
 obtain ⟨rfl, rfl⟩ := hQ_9
 have h0_0 := RSl.mono (RSl.mono (RI.mono _)) _ _ _ _ hl_8 h0_0
 have h1 := RSl.mono (RI.mono _) _ _ _ _ hl_8 h1
 refine l_op f rfl rfl rfl (r_not (f.eval rfl)) fun a f => ?_
 refine l_nil ?_
 rcases cond_some hd with ⟨hc_12, hd⟩ | ⟨hc_12, hd⟩
 ·refine k_true f rfl hc_12 ?_
  refine k_seq (k_region ?_)
  have hb_13 : ∀ w, (Instr.build 27 #[]).run Tryd.prog w = .ok (.agg #[(.slice none 0 0)]) w := by intro w; simp [Instr.build, Instr.fill, cells_int, cells_bool, cells_string, cells_slice, cells_pointer, cells_agg]
  refine l_build f rfl rfl hb_13 fun a f => ?_
  refine l_boxStore 0 0 (ds := [(.slice none 0 0)]) m Tryd.sizeOf27 f rfl rfl rfl (ones_cons rfl ones_nil) rfl (Nat.le_of_ble_eq_true rfl) rfl fun w m => ?_
  refine l_as f rfl rfl fun a f => ?_
  refine l_nil ?_
  refine k_ret ?_
  obtain ⟨it_14, m, o_15⟩ := Ow.nil (RSl (RI .i64)) 36 m
  have rc_17 := rr_agg (P := Tryd.prog) 1 m Ag27 f (s := 4) rfl rfl rfl
  have m := m.eraseAt 2
  have m := m.eraseAt 1
  obtain rfl := sj hd
  exact ⟨[(.agg #[(.slice none 0 0)]), (.bool false)], ⟨rc_17, f.get _ _ rfl, trivial⟩, f.defers, _, [it_14], hl_8, m, _, _, rfl, rfl, o_15⟩
 ·refine k_false f rfl hc_12 ?_
  refine k_skip ?_
  refine k_seq (k_region ?_)
  refine l_boxAgg 1 0 (ds := [v0_0]) m Ag27 f rfl rfl rfl rfl rfl fun a f => ?_
  refine l_mv f rfl rfl fun a f => ?_
  obtain ⟨y_18, hy_19, hd⟩ := bind_some hd
  refine l_res f rfl rfl Tryd.call129 (Wk.spec_l7Fill m h0_0 h1 hy_19) fun v_23 G_20 Ho_24 w hl_21 m hQ_22 a f => ?_
  obtain ⟨v_25, it_26, rfl, rfl, o_27⟩ := hQ_22
  have h0_0 := RSl.mono (RSl.mono (RI.mono _)) _ _ _ _ hl_21 h0_0
  have h1 := RSl.mono (RI.mono _) _ _ _ _ hl_21 h1
  refine l_boxStore 1 0 (ds := [v_25]) m Tryd.sizeOf27 f rfl rfl rfl (ones_cons (Ow.one1 0 m o_27 rfl) ones_nil) rfl (Nat.le_of_ble_eq_true rfl) rfl fun w m => ?_
  refine l_as f rfl rfl fun a f => ?_
  refine l_nil ?_
  refine k_ret ?_
  have rc_29 := rr_agg (P := Tryd.prog) 1 m Ag27 f (s := 4) rfl rfl rfl
  have m := m.eraseAt 2
  have m := m.eraseAt 1
  obtain rfl := sj hd
  exact ⟨[(.agg #[v_25]), (.bool true)], ⟨rc_29, f.get _ _ rfl, trivial⟩, f.defers, _, [it_26], (GLe.trans hl_8 hl_21), m, _, _, rfl, rfl, o_27⟩

theorem Wk.spec_l8Draw {W w : World} {G : GH} {H : List Itm} {v0_0 : Value} {b0 : Nat} {x0_0 : (List Int)} {x0_1 : Int} {x0_2 : Int} (m : Mem W G w (Itm.box b0 94 [v0_0, (.int .i64 x0_1), (.int .i64 x0_2)] :: H)) (h0_0 : RSl (RI .u8) G v0_0 x0_0) {y : ((List (List Int))) × ((List Int)) × Int × Int} (hd : D.spec_l8Draw x0_0 x0_1 x0_2 = some y) :
  Calls Tryd.prog 67 #[(.pointer (some ⟨b0, 0, none⟩))] w (Res W G H (fun G' Ho v => ∃ r0 : Value, ∃ r1 : Value, Ho = [Itm.box b0 94 [r1, (.int .i64 y.2.2.1), (.int .i64 y.2.2.2)]] ∧ v = (.agg #[r0]) ∧ RSl (RSl (RI .i64)) G' r0 y.1 ∧ RSl (RI .u8) G' r1 y.2.1)) := by
 refine calls_b (args := [(.pointer (some ⟨b0, 0, none⟩))]) (N := 21) [.cell 2 27] Tryd.func67 rfl rfl (Nat.le_of_ble_eq_true rfl) rfl fun a f => ?_
 unfold D.spec_l8Draw at hd
 refine k_seq (k_region ?_)
 refine l_alloc (cs := [(.slice none 0 0)]) Tryd.zeroValue27 m f rfl rfl fun b_2 w a m f => ?_
 refine l_nil (k_seq (k_region ?_))
 refine l_mv f rfl rfl fun a f => ?_
 have m := m.front 1 rfl
 obtain ⟨y_3, hy_4, hd⟩ := bind_some hd
 refine l_res f rfl rfl Tryd.call51 (Wk.spec_l1DrawAny m h0_0 hy_4) fun v_8 G_5 Ho_9 w hl_6 m hQ_7 a f => ?_
 obtain ⟨v_10, it_11, v_14, rfl, rfl, o_12, h_15⟩ := hQ_7
 refine l_alloc (cs := [(.slice none 0 0)]) Tryd.zeroValue27 m f rfl rfl fun b_17 w a m f => ?_
 refine l_boxStore 0 0 (ds := [v_10]) m Tryd.sizeOf27 f rfl rfl rfl (ones_cons (Ow2.one1 1 m o_12 rfl) ones_nil) rfl (Nat.le_of_ble_eq_true rfl) rfl fun w m => ?_
 refine l_nil (k_seq (k_seq (k_region ?_)))
 refine l_mv f rfl rfl fun a f => ?_
 have m := m.front 2 rfl
 obtain ⟨y_18, hy_19, hd⟩ := bind_some hd
 refine l_res f rfl rfl Tryd.call88 (Wk.spec_l1Once m h_15 hy_19) fun v_23 G_20 Ho_24 w hl_21 m hQ_22 a f => ?_
 obtain ⟨v_25, rfl, rfl, h_26⟩ := hQ_22
 have o_12 := Ow2.mono (RI.mono _) hl_21 o_12
 refine l_nil ?_
 rcases cond_some hd with ⟨hc_27, hd⟩ | ⟨hc_27, hd⟩
 ·refine k_true f rfl hc_27 ?_
  refine k_seq ?_
  have m := m.front 2 rfl
  obtain ⟨G_128, hl_129, m, h_130⟩ := Ow2.stamp (RI.mono _) o_12 m
  have h_26 := RSl.mono (RI.mono _) _ _ _ _ hl_129 h_26
  refine k_drawE [Itm.box b0 94 [v_25, (.int .i64 y_18.2.2.1), (.int .i64 y_18.2.2.2)]] (Itm.box b_17 27 [v_10] :: Itm.box b_2 27 [(.slice none 0 0)] :: H) 10 Follows (by kernel_rfl) m ?_
  refine q_boxAgg (i := 0) (ds := [v_10]) 10 0 Ag27 rfl rfl rfl rfl (by kernel_rfl) rfl f rfl rfl rfl fun a f => ?_
  refine q_mv 1 10 rfl (by kernel_rfl) f rfl rfl rfl fun a f => ?_
  refine q_boxAgg (i := 2) (ds := [v_10]) 10 0 Ag27 rfl rfl rfl rfl (by kernel_rfl) rfl f rfl rfl rfl fun a f => ?_
  refine q_two (i := 3) (j := 8) (l1 := #[true, true, true, true, false, false, false, false, false, false, false]) (l2 := #[true, true, true, false, false, false, false, false, true, false, false]) rfl rfl (by kernel_rfl) rfl rfl ?_ ?_
  ·intro G_147 w hl_148 m K_149 K_149
   have h_130 := RSl.mono (RSl.mono (RI.mono _)) _ _ _ _ hl_148 h_130
   have h_26 := RSl.mono (RI.mono _) _ _ _ _ hl_148 h_26
   obtain ⟨y_150, hy_151, hd⟩ := bind_some hd
   refine l_res f rfl rfl Tryd.call52 (Wk.spec_l1DrawOrder m h_26 h_130 hy_151) fun v_155 G_152 Ho_156 w hl_153 m hQ_154 a f => ?_
   obtain ⟨v_157, it_158, v_161, rfl, rfl, o_159, h_162⟩ := hQ_154
   have h_130 := RSl.mono (RSl.mono (RI.mono _)) _ _ _ _ hl_153 h_130
   refine l_nil ?_
   refine K_149 G_152 [it_158, Itm.box b0 94 [v_161, (.int .i64 y_150.2.2.1), (.int .i64 y_150.2.2.2)]] _ _ hl_153 m ?_
   refine q_two (i := 4) (j := 8) (l1 := #[true, true, true, true, true, false, false, false, false, false, false]) (l2 := #[true, true, true, true, false, false, false, false, true, false, false]) rfl rfl (by kernel_rfl) rfl rfl ?_ ?_
   ·intro G_163 w hl_164 m K_165 K_165
    have h_130 := RSl.mono (RSl.mono (RI.mono _)) _ _ _ _ hl_164 h_130
    have o_159 := Ow.mono (RI.mono _) hl_164 o_159
    have h_162 := RSl.mono (RI.mono _) _ _ _ _ hl_164 h_162
    obtain ⟨G_166, hl_167, m, h_168⟩ := Ow.stamp (RI.mono _) o_159 m
    have h_130 := RSl.mono (RSl.mono (RI.mono _)) _ _ _ _ hl_167 h_130
    have h_162 := RSl.mono (RI.mono _) _ _ _ _ hl_167 h_162
    obtain ⟨y_169, hy_170, hd⟩ := bind_some hd
    refine l_res f rfl rfl Tryd.call101 (Wk.spec_FillOf m h_130 h_168 hy_170) fun v_174 G_171 Ho_175 w hl_172 m hQ_173 a f => ?_
    obtain ⟨v_176, it_177, rfl, rfl, o_178⟩ := hQ_173
    have h_130 := RSl.mono (RSl.mono (RI.mono _)) _ _ _ _ hl_172 h_130
    have h_168 := RSl.mono (RI.mono _) _ _ _ _ hl_172 h_168
    have h_162 := RSl.mono (RI.mono _) _ _ _ _ hl_172 h_162
    refine l_nil ?_
    refine K_165 G_171 [it_177, Itm.box b0 94 [v_161, (.int .i64 y_150.2.2.1), (.int .i64 y_150.2.2.2)]] _ _ (GLe.trans hl_167 hl_172) m ?_
    refine q_mv 5 10 rfl (by kernel_rfl) f rfl rfl rfl fun a f => ?_
    refine q_p 6 10 rfl (by kernel_rfl) f rfl rfl rfl (fun _ => r_extract (f.eval rfl) rfl) fun a f => ?_
    refine q_p 7 10 rfl (by kernel_rfl) f rfl rfl rfl (fun _ => r_extract (f.eval rfl) rfl) fun a f => ?_
    refine q_one (i := 8) rfl (by kernel_rfl) rfl fun G_180 w hl_181 m K_182 K_182 => ?_
    have h_130 := RSl.mono (RSl.mono (RI.mono _)) _ _ _ _ hl_181 h_130
    have h_168 := RSl.mono (RI.mono _) _ _ _ _ hl_181 h_168
    have o_178 := Ow.mono (RSl.mono (RI.mono _)) hl_181 o_178
    have h_162 := RSl.mono (RI.mono _) _ _ _ _ hl_181 h_162
    refine l_alloc (cs := [(.slice none 0 0)]) Tryd.zeroValue27 m f rfl rfl fun b_184 w a m f => ?_
    refine l_nil ?_
    refine K_182 G_180 [Itm.box b_184 27 [(.slice none 0 0)], it_177, Itm.box b0 94 [v_161, (.int .i64 y_150.2.2.1), (.int .i64 y_150.2.2.2)]] _ _ (GLe.refl _) m ?_
    refine q_one (i := 9) rfl (by kernel_rfl) rfl fun G_185 w hl_186 m K_187 K_187 => ?_
    have h_130 := RSl.mono (RSl.mono (RI.mono _)) _ _ _ _ hl_186 h_130
    have h_168 := RSl.mono (RI.mono _) _ _ _ _ hl_186 h_168
    have o_178 := Ow.mono (RSl.mono (RI.mono _)) hl_186 o_178
    have h_162 := RSl.mono (RI.mono _) _ _ _ _ hl_186 h_162
    refine l_boxStore 0 0 (ds := [v_176]) m Tryd.sizeOf27 f rfl rfl rfl (ones_cons (Ow.one1 1 m o_178 rfl) ones_nil) rfl (Nat.le_of_ble_eq_true rfl) rfl fun w m => ?_
    refine l_nil ?_
    refine K_187 G_185 [Itm.box b_184 27 [v_176], it_177, Itm.box b0 94 [v_161, (.int .i64 y_150.2.2.1), (.int .i64 y_150.2.2.2)]] _ _ (GLe.refl _) m ?_
    refine q_end fun G_188 w hl_189 m => ?_
    have h_130 := RSl.mono (RSl.mono (RI.mono _)) _ _ _ _ hl_189 h_130
    have h_168 := RSl.mono (RI.mono _) _ _ _ _ hl_189 h_168
    have o_178 := Ow.mono (RSl.mono (RI.mono _)) hl_189 o_178
    have h_162 := RSl.mono (RI.mono _) _ _ _ _ hl_189 h_162
    refine l_as f rfl rfl fun a f => ?_
    refine l_nil (k_seq (k_region ?_))
    refine l_mv f rfl rfl fun a f => ?_
    refine l_nil ?_
    rcases cond_some hd with ⟨hc_190, hd⟩ | ⟨hc_190, hd⟩
    ·refine k_true f rfl hc_190 ?_
     refine k_seq (k_region ?_)
     refine l_boxAgg 0 0 (ds := [v_176]) m Ag27 f rfl rfl rfl rfl rfl fun a f => ?_
     refine l_boxStore 4 0 (ds := [v_176]) m Tryd.sizeOf27 f rfl rfl rfl (ones_cons (Ow.one1 1 m o_178 rfl) ones_nil) rfl (Nat.le_of_ble_eq_true rfl) rfl fun w m => ?_
     refine l_nil ?_
     refine k_ret ?_
     have m := m.front 1 rfl
     obtain ⟨G_191, hl_192, m, h_193⟩ := Ow.stamp (RSl.mono (RI.mono _)) o_178 m
     have h_162 := RSl.mono (RI.mono _) _ _ _ _ hl_192 h_162
     have h_130 := RSl.mono (RSl.mono (RI.mono _)) _ _ _ _ hl_192 h_130
     have rc_194 := rr_agg (P := Tryd.prog) 3 m Ag27 f (s := 2) rfl rfl rfl
     have m := m.front 1 rfl
     have m := m.eraseAt 3
     have m := m.eraseAt 2
     have m := m.eraseAt 1
     obtain rfl := sj hd
     exact ⟨[(.agg #[v_176])], ⟨rc_194, trivial⟩, f.defers, _, [Itm.box b0 94 [v_161, (.int .i64 y_150.2.2.1), (.int .i64 y_150.2.2.2)]], (GLe.trans hl_6 (GLe.trans hl_21 (GLe.trans hl_129 (GLe.trans hl_148 (GLe.trans hl_153 (GLe.trans hl_164 (GLe.trans hl_167 (GLe.trans hl_172 (GLe.trans hl_181 (GLe.trans hl_186 (GLe.trans hl_189 hl_192))))))))))), m, _, _, rfl, rfl, h_193, h_162⟩
    ·refine k_false f rfl hc_190 ?_
     refine k_skip ?_
     refine k_seq (k_region ?_)
     refine l_boxAgg 3 0 (ds := [v_10]) m Ag27 f rfl rfl rfl rfl rfl fun a f => ?_
     refine l_boxStore 4 0 (ds := [v_10]) m Tryd.sizeOf27 f rfl rfl rfl (ones_cons h_130.one1 ones_nil) rfl (Nat.le_of_ble_eq_true rfl) rfl fun w m => ?_
     refine l_nil ?_
     refine k_ret ?_
     have rc_195 := rr_agg (P := Tryd.prog) 4 m Ag27 f (s := 2) rfl rfl rfl
     have m := m.front 2 rfl
     have m := m.front 2 rfl
     have m := m.front 1 rfl
     have m := m.eraseAt 4
     have m := m.eraseAt 3
     have m := m.eraseAt 2
     have m := m.eraseAt 1
     obtain rfl := sj hd
     exact ⟨[(.agg #[v_10])], ⟨rc_195, trivial⟩, f.defers, _, [Itm.box b0 94 [v_161, (.int .i64 y_150.2.2.1), (.int .i64 y_150.2.2.2)]], (GLe.trans hl_6 (GLe.trans hl_21 (GLe.trans hl_129 (GLe.trans hl_148 (GLe.trans hl_153 (GLe.trans hl_164 (GLe.trans hl_167 (GLe.trans hl_172 (GLe.trans hl_181 (GLe.trans hl_186 hl_189)))))))))), m, _, _, rfl, rfl, h_130, h_162⟩
   ·intro G_180 w hl_181 m K_182 K_182
    obtain ⟨y_169, hy_170, hd⟩ := bind_some hd
    have h_130 := RSl.mono (RSl.mono (RI.mono _)) _ _ _ _ hl_181 h_130
    have o_159 := Ow.mono (RI.mono _) hl_181 o_159
    have h_162 := RSl.mono (RI.mono _) _ _ _ _ hl_181 h_162
    refine l_alloc (cs := [(.slice none 0 0)]) Tryd.zeroValue27 m f rfl rfl fun b_184 w a m f => ?_
    refine l_nil ?_
    refine K_182 G_180 [Itm.box b_184 27 [(.slice none 0 0)], it_158, Itm.box b0 94 [v_161, (.int .i64 y_150.2.2.1), (.int .i64 y_150.2.2.2)]] _ _ (GLe.refl _) m ?_
    refine q_one (i := 4) rfl (by kernel_rfl) rfl fun G_163 w hl_164 m K_165 K_165 => ?_
    have h_130 := RSl.mono (RSl.mono (RI.mono _)) _ _ _ _ hl_164 h_130
    have o_159 := Ow.mono (RI.mono _) hl_164 o_159
    have h_162 := RSl.mono (RI.mono _) _ _ _ _ hl_164 h_162
    have m := m.front 1 rfl
    obtain ⟨G_166, hl_167, m, h_168⟩ := Ow.stamp (RI.mono _) o_159 m
    have h_130 := RSl.mono (RSl.mono (RI.mono _)) _ _ _ _ hl_167 h_130
    have h_162 := RSl.mono (RI.mono _) _ _ _ _ hl_167 h_162
    refine l_res f rfl rfl Tryd.call101 (Wk.spec_FillOf m h_130 h_168 hy_170) fun v_174 G_171 Ho_175 w hl_172 m hQ_173 a f => ?_
    obtain ⟨v_176, it_177, rfl, rfl, o_178⟩ := hQ_173
    have h_130 := RSl.mono (RSl.mono (RI.mono _)) _ _ _ _ hl_172 h_130
    have h_168 := RSl.mono (RI.mono _) _ _ _ _ hl_172 h_168
    have h_162 := RSl.mono (RI.mono _) _ _ _ _ hl_172 h_162
    refine l_nil ?_
    refine K_165 G_171 [it_177, Itm.box b_184 27 [(.slice none 0 0)], Itm.box b0 94 [v_161, (.int .i64 y_150.2.2.1), (.int .i64 y_150.2.2.2)]] _ _ (GLe.trans hl_167 hl_172) m ?_
    refine q_mv 5 10 rfl (by kernel_rfl) f rfl rfl rfl fun a f => ?_
    refine q_p 6 10 rfl (by kernel_rfl) f rfl rfl rfl (fun _ => r_extract (f.eval rfl) rfl) fun a f => ?_
    refine q_p 7 10 rfl (by kernel_rfl) f rfl rfl rfl (fun _ => r_extract (f.eval rfl) rfl) fun a f => ?_
    refine q_one (i := 9) rfl (by kernel_rfl) rfl fun G_185 w hl_186 m K_187 K_187 => ?_
    have h_130 := RSl.mono (RSl.mono (RI.mono _)) _ _ _ _ hl_186 h_130
    have h_168 := RSl.mono (RI.mono _) _ _ _ _ hl_186 h_168
    have o_178 := Ow.mono (RSl.mono (RI.mono _)) hl_186 o_178
    have h_162 := RSl.mono (RI.mono _) _ _ _ _ hl_186 h_162
    refine l_boxStore 1 0 (ds := [v_176]) m Tryd.sizeOf27 f rfl rfl rfl (ones_cons (Ow.one1 0 m o_178 rfl) ones_nil) rfl (Nat.le_of_ble_eq_true rfl) rfl fun w m => ?_
    refine l_nil ?_
    refine K_187 G_185 [it_177, Itm.box b_184 27 [v_176], Itm.box b0 94 [v_161, (.int .i64 y_150.2.2.1), (.int .i64 y_150.2.2.2)]] _ _ (GLe.refl _) m ?_
    refine q_end fun G_188 w hl_189 m => ?_
    have h_130 := RSl.mono (RSl.mono (RI.mono _)) _ _ _ _ hl_189 h_130
    have h_168 := RSl.mono (RI.mono _) _ _ _ _ hl_189 h_168
    have o_178 := Ow.mono (RSl.mono (RI.mono _)) hl_189 o_178
    have h_162 := RSl.mono (RI.mono _) _ _ _ _ hl_189 h_162
    refine l_as f rfl rfl fun a f => ?_
    refine l_nil (k_seq (k_region ?_))
    refine l_mv f rfl rfl fun a f => ?_
    refine l_nil ?_
    rcases cond_some hd with ⟨hc_196, hd⟩ | ⟨hc_196, hd⟩
    ·refine k_true f rfl hc_196 ?_
     refine k_seq (k_region ?_)
     refine l_boxAgg 1 0 (ds := [v_176]) m Ag27 f rfl rfl rfl rfl rfl fun a f => ?_
     refine l_boxStore 4 0 (ds := [v_176]) m Tryd.sizeOf27 f rfl rfl rfl (ones_cons (Ow.one1 0 m o_178 rfl) ones_nil) rfl (Nat.le_of_ble_eq_true rfl) rfl fun w m => ?_
     refine l_nil ?_
     refine k_ret ?_
     obtain ⟨G_197, hl_198, m, h_199⟩ := Ow.stamp (RSl.mono (RI.mono _)) o_178 m
     have h_162 := RSl.mono (RI.mono _) _ _ _ _ hl_198 h_162
     have h_130 := RSl.mono (RSl.mono (RI.mono _)) _ _ _ _ hl_198 h_130
     have rc_200 := rr_agg (P := Tryd.prog) 3 m Ag27 f (s := 2) rfl rfl rfl
     have m := m.front 1 rfl
     have m := m.eraseAt 3
     have m := m.eraseAt 2
     have m := m.eraseAt 1
     obtain rfl := sj hd
     exact ⟨[(.agg #[v_176])], ⟨rc_200, trivial⟩, f.defers, _, [Itm.box b0 94 [v_161, (.int .i64 y_150.2.2.1), (.int .i64 y_150.2.2.2)]], (GLe.trans hl_6 (GLe.trans hl_21 (GLe.trans hl_129 (GLe.trans hl_148 (GLe.trans hl_153 (GLe.trans hl_181 (GLe.trans hl_164 (GLe.trans hl_167 (GLe.trans hl_172 (GLe.trans hl_186 (GLe.trans hl_189 hl_198))))))))))), m, _, _, rfl, rfl, h_199, h_162⟩
    ·refine k_false f rfl hc_196 ?_
     refine k_skip ?_
     refine k_seq (k_region ?_)
     refine l_boxAgg 3 0 (ds := [v_10]) m Ag27 f rfl rfl rfl rfl rfl fun a f => ?_
     refine l_boxStore 4 0 (ds := [v_10]) m Tryd.sizeOf27 f rfl rfl rfl (ones_cons h_130.one1 ones_nil) rfl (Nat.le_of_ble_eq_true rfl) rfl fun w m => ?_
     refine l_nil ?_
     refine k_ret ?_
     have rc_201 := rr_agg (P := Tryd.prog) 4 m Ag27 f (s := 2) rfl rfl rfl
     have m := m.front 2 rfl
     have m := m.eraseAt 4
     have m := m.eraseAt 3
     have m := m.eraseAt 2
     have m := m.eraseAt 1
     obtain rfl := sj hd
     exact ⟨[(.agg #[v_10])], ⟨rc_201, trivial⟩, f.defers, _, [Itm.box b0 94 [v_161, (.int .i64 y_150.2.2.1), (.int .i64 y_150.2.2.2)]], (GLe.trans hl_6 (GLe.trans hl_21 (GLe.trans hl_129 (GLe.trans hl_148 (GLe.trans hl_153 (GLe.trans hl_181 (GLe.trans hl_164 (GLe.trans hl_167 (GLe.trans hl_172 (GLe.trans hl_186 hl_189)))))))))), m, _, _, rfl, rfl, h_130, h_162⟩
  ·intro G_180 w hl_181 m K_182 K_182
   obtain ⟨y_150, hy_151, hd⟩ := bind_some hd
   obtain ⟨y_169, hy_170, hd⟩ := bind_some hd
   have h_130 := RSl.mono (RSl.mono (RI.mono _)) _ _ _ _ hl_181 h_130
   have h_26 := RSl.mono (RI.mono _) _ _ _ _ hl_181 h_26
   refine l_alloc (cs := [(.slice none 0 0)]) Tryd.zeroValue27 m f rfl rfl fun b_184 w a m f => ?_
   refine l_nil ?_
   refine K_182 G_180 [Itm.box b_184 27 [(.slice none 0 0)], Itm.box b0 94 [v_25, (.int .i64 y_18.2.2.1), (.int .i64 y_18.2.2.2)]] _ _ (GLe.refl _) m ?_
   refine q_one (i := 3) rfl (by kernel_rfl) rfl fun G_147 w hl_148 m K_149 K_149 => ?_
   have h_130 := RSl.mono (RSl.mono (RI.mono _)) _ _ _ _ hl_148 h_130
   have h_26 := RSl.mono (RI.mono _) _ _ _ _ hl_148 h_26
   have m := m.front 1 rfl
   refine l_res f rfl rfl Tryd.call52 (Wk.spec_l1DrawOrder m h_26 h_130 hy_151) fun v_155 G_152 Ho_156 w hl_153 m hQ_154 a f => ?_
   obtain ⟨v_157, it_158, v_161, rfl, rfl, o_159, h_162⟩ := hQ_154
   have h_130 := RSl.mono (RSl.mono (RI.mono _)) _ _ _ _ hl_153 h_130
   refine l_nil ?_
   refine K_149 G_152 [it_158, Itm.box b0 94 [v_161, (.int .i64 y_150.2.2.1), (.int .i64 y_150.2.2.2)], Itm.box b_184 27 [(.slice none 0 0)]] _ _ hl_153 m ?_
   refine q_one (i := 4) rfl (by kernel_rfl) rfl fun G_163 w hl_164 m K_165 K_165 => ?_
   have h_130 := RSl.mono (RSl.mono (RI.mono _)) _ _ _ _ hl_164 h_130
   have o_159 := Ow.mono (RI.mono _) hl_164 o_159
   have h_162 := RSl.mono (RI.mono _) _ _ _ _ hl_164 h_162
   obtain ⟨G_166, hl_167, m, h_168⟩ := Ow.stamp (RI.mono _) o_159 m
   have h_130 := RSl.mono (RSl.mono (RI.mono _)) _ _ _ _ hl_167 h_130
   have h_162 := RSl.mono (RI.mono _) _ _ _ _ hl_167 h_162
   refine l_res f rfl rfl Tryd.call101 (Wk.spec_FillOf m h_130 h_168 hy_170) fun v_174 G_171 Ho_175 w hl_172 m hQ_173 a f => ?_
   obtain ⟨v_176, it_177, rfl, rfl, o_178⟩ := hQ_173
   have h_130 := RSl.mono (RSl.mono (RI.mono _)) _ _ _ _ hl_172 h_130
   have h_168 := RSl.mono (RI.mono _) _ _ _ _ hl_172 h_168
   have h_162 := RSl.mono (RI.mono _) _ _ _ _ hl_172 h_162
   refine l_nil ?_
   refine K_165 G_171 [it_177, Itm.box b0 94 [v_161, (.int .i64 y_150.2.2.1), (.int .i64 y_150.2.2.2)], Itm.box b_184 27 [(.slice none 0 0)]] _ _ (GLe.trans hl_167 hl_172) m ?_
   refine q_mv 5 10 rfl (by kernel_rfl) f rfl rfl rfl fun a f => ?_
   refine q_p 6 10 rfl (by kernel_rfl) f rfl rfl rfl (fun _ => r_extract (f.eval rfl) rfl) fun a f => ?_
   refine q_p 7 10 rfl (by kernel_rfl) f rfl rfl rfl (fun _ => r_extract (f.eval rfl) rfl) fun a f => ?_
   refine q_one (i := 9) rfl (by kernel_rfl) rfl fun G_185 w hl_186 m K_187 K_187 => ?_
   have h_130 := RSl.mono (RSl.mono (RI.mono _)) _ _ _ _ hl_186 h_130
   have h_168 := RSl.mono (RI.mono _) _ _ _ _ hl_186 h_168
   have o_178 := Ow.mono (RSl.mono (RI.mono _)) hl_186 o_178
   have h_162 := RSl.mono (RI.mono _) _ _ _ _ hl_186 h_162
   refine l_boxStore 2 0 (ds := [v_176]) m Tryd.sizeOf27 f rfl rfl rfl (ones_cons (Ow.one1 0 m o_178 rfl) ones_nil) rfl (Nat.le_of_ble_eq_true rfl) rfl fun w m => ?_
   refine l_nil ?_
   refine K_187 G_185 [it_177, Itm.box b0 94 [v_161, (.int .i64 y_150.2.2.1), (.int .i64 y_150.2.2.2)], Itm.box b_184 27 [v_176]] _ _ (GLe.refl _) m ?_
   refine q_end fun G_188 w hl_189 m => ?_
   have h_130 := RSl.mono (RSl.mono (RI.mono _)) _ _ _ _ hl_189 h_130
   have h_168 := RSl.mono (RI.mono _) _ _ _ _ hl_189 h_168
   have o_178 := Ow.mono (RSl.mono (RI.mono _)) hl_189 o_178
   have h_162 := RSl.mono (RI.mono _) _ _ _ _ hl_189 h_162
   refine l_as f rfl rfl fun a f => ?_
   refine l_nil (k_seq (k_region ?_))
   refine l_mv f rfl rfl fun a f => ?_
   refine l_nil ?_
   rcases cond_some hd with ⟨hc_202, hd⟩ | ⟨hc_202, hd⟩
   ·refine k_true f rfl hc_202 ?_
    refine k_seq (k_region ?_)
    refine l_boxAgg 2 0 (ds := [v_176]) m Ag27 f rfl rfl rfl rfl rfl fun a f => ?_
    refine l_boxStore 4 0 (ds := [v_176]) m Tryd.sizeOf27 f rfl rfl rfl (ones_cons (Ow.one1 0 m o_178 rfl) ones_nil) rfl (Nat.le_of_ble_eq_true rfl) rfl fun w m => ?_
    refine l_nil ?_
    refine k_ret ?_
    obtain ⟨G_203, hl_204, m, h_205⟩ := Ow.stamp (RSl.mono (RI.mono _)) o_178 m
    have h_162 := RSl.mono (RI.mono _) _ _ _ _ hl_204 h_162
    have h_130 := RSl.mono (RSl.mono (RI.mono _)) _ _ _ _ hl_204 h_130
    have rc_206 := rr_agg (P := Tryd.prog) 3 m Ag27 f (s := 2) rfl rfl rfl
    have m := m.eraseAt 3
    have m := m.eraseAt 2
    have m := m.eraseAt 1
    obtain rfl := sj hd
    exact ⟨[(.agg #[v_176])], ⟨rc_206, trivial⟩, f.defers, _, [Itm.box b0 94 [v_161, (.int .i64 y_150.2.2.1), (.int .i64 y_150.2.2.2)]], (GLe.trans hl_6 (GLe.trans hl_21 (GLe.trans hl_129 (GLe.trans hl_181 (GLe.trans hl_148 (GLe.trans hl_153 (GLe.trans hl_164 (GLe.trans hl_167 (GLe.trans hl_172 (GLe.trans hl_186 (GLe.trans hl_189 hl_204))))))))))), m, _, _, rfl, rfl, h_205, h_162⟩
   ·refine k_false f rfl hc_202 ?_
    refine k_skip ?_
    refine k_seq (k_region ?_)
    refine l_boxAgg 3 0 (ds := [v_10]) m Ag27 f rfl rfl rfl rfl rfl fun a f => ?_
    refine l_boxStore 4 0 (ds := [v_10]) m Tryd.sizeOf27 f rfl rfl rfl (ones_cons h_130.one1 ones_nil) rfl (Nat.le_of_ble_eq_true rfl) rfl fun w m => ?_
    refine l_nil ?_
    refine k_ret ?_
    have rc_207 := rr_agg (P := Tryd.prog) 4 m Ag27 f (s := 2) rfl rfl rfl
    have m := m.front 1 rfl
    have m := m.eraseAt 4
    have m := m.eraseAt 3
    have m := m.eraseAt 2
    have m := m.eraseAt 1
    obtain rfl := sj hd
    exact ⟨[(.agg #[v_10])], ⟨rc_207, trivial⟩, f.defers, _, [Itm.box b0 94 [v_161, (.int .i64 y_150.2.2.1), (.int .i64 y_150.2.2.2)]], (GLe.trans hl_6 (GLe.trans hl_21 (GLe.trans hl_129 (GLe.trans hl_181 (GLe.trans hl_148 (GLe.trans hl_153 (GLe.trans hl_164 (GLe.trans hl_167 (GLe.trans hl_172 (GLe.trans hl_186 hl_189)))))))))), m, _, _, rfl, rfl, h_130, h_162⟩
 ·refine k_false f rfl hc_27 ?_
  refine k_skip ?_
  refine k_seq (k_region ?_)
  refine l_boxAgg 1 0 (ds := [v_10]) m Ag27 f rfl rfl rfl rfl rfl fun a f => ?_
  refine l_boxStore 3 0 (ds := [v_10]) m Tryd.sizeOf27 f rfl rfl rfl (ones_cons (Ow2.one1 2 m o_12 rfl) ones_nil) rfl (Nat.le_of_ble_eq_true rfl) rfl fun w m => ?_
  refine l_nil ?_
  refine k_ret ?_
  have m := m.front 2 rfl
  obtain ⟨G_208, hl_209, m, h_210⟩ := Ow2.stamp (RI.mono _) o_12 m
  have h_26 := RSl.mono (RI.mono _) _ _ _ _ hl_209 h_26
  have rc_211 := rr_agg (P := Tryd.prog) 2 m Ag27 f (s := 2) rfl rfl rfl
  have m := m.eraseAt 2
  have m := m.eraseAt 1
  obtain rfl := sj hd
  exact ⟨[(.agg #[v_10])], ⟨rc_211, trivial⟩, f.defers, _, [Itm.box b0 94 [v_25, (.int .i64 y_18.2.2.1), (.int .i64 y_18.2.2.2)]], (GLe.trans hl_6 (GLe.trans hl_21 hl_209)), m, _, _, rfl, rfl, h_210, h_26⟩

theorem Wk.spec_DrawCliquesOf {W w : World} {G : GH} {H : List Itm} {v0 : Value} {x0 : (List Int)} (m : Mem W G w (H)) (h0 : RSl (RI .u8) G v0 x0) {y : ((List (List Int)))} (hd : D.spec_DrawCliquesOf x0 = some y) :
  Calls Tryd.prog 26 #[v0] w (Res W G H (fun G' Ho v => ∃ r0 : Value, Ho = [] ∧ v = (.agg #[r0]) ∧ RSl (RSl (RI .i64)) G' r0 y)) := by
 refine calls_b (args := [v0]) (N := 8) [.cell 2 27] Tryd.func26 rfl rfl (Nat.le_of_ble_eq_true rfl) rfl fun a f => ?_
 unfold D.spec_DrawCliquesOf at hd
 refine k_seq (k_region ?_)
 refine l_alloc (cs := [(.slice none 0 0)]) Tryd.zeroValue27 m f rfl rfl fun b_2 w a m f => ?_
 refine l_nil (k_seq (k_region ?_))
 refine l_mv f rfl rfl fun a f => ?_
 obtain ⟨y_3, hy_4, hd⟩ := bind_some hd
 refine l_res f rfl rfl Tryd.call50 (Wk.spec_l1New m h0 hy_4) fun v_8 G_5 Ho_9 w hl_6 m hQ_7 a f => ?_
 obtain ⟨v_10, b_12, rfl, rfl, h_11⟩ := hQ_7
 have h0 := RSl.mono (RI.mono _) _ _ _ _ hl_6 h0
 refine l_as f rfl rfl fun a f => ?_
 refine l_nil (k_seq (k_region ?_))
 refine l_mv f rfl rfl fun a f => ?_
 obtain ⟨y_14, hy_15, hd⟩ := bind_some hd
 refine l_res f rfl rfl Tryd.call67 (Wk.spec_l8Draw m h_11 hy_15) fun v_19 G_16 Ho_20 w hl_17 m hQ_18 a f => ?_
 obtain ⟨v_21, v_23, rfl, rfl, h_22, h_24⟩ := hQ_18
 have h0 := RSl.mono (RI.mono _) _ _ _ _ hl_17 h0
 refine l_boxStore 1 0 (ds := [v_21]) m Tryd.sizeOf27 f rfl rfl rfl (ones_cons h_22.one1 ones_nil) rfl (Nat.le_of_ble_eq_true rfl) rfl fun w m => ?_
 refine l_nil ?_
 refine k_ret ?_
 have rc_25 := rr_agg (P := Tryd.prog) 1 m Ag27 f (s := 2) rfl rfl rfl
 have m : Mem W G_16 w H := Mem.drop (H' := [Itm.box b_12 94 [v_23, (.int .i64 y_14.2.2.1), (.int .i64 y_14.2.2.2)], Itm.box b_2 27 [v_21]]) m
 obtain rfl := sj hd
 exact ⟨[(.agg #[v_21])], ⟨rc_25, trivial⟩, f.defers, _, [], (GLe.trans hl_6 hl_17), m, _, rfl, rfl, h_22⟩

theorem Wk.impl_CliquesOf {W w : World} {G : GH} {H : List Itm} {v0_0 : Value} {x0_0 : (List (List Int))} (hW : TabW W) (m : Mem W G w (H)) (h0_0 : RSl (RSl (RI .i64)) G v0_0 x0_0) {y : ((List (List Int)))} (hd : D.impl_CliquesOf x0_0 = some y) :
  Calls Tryd.prog 27 #[(.agg #[v0_0])] w (Res W G H (fun G' Ho v => ∃ r0 : Value, ∃ i0 : Itm, Ho = [i0] ∧ r0 = v ∧ Ow2 (RI .i64) 36 2 G' i0 r0 y)) := by
 refine calls_b (args := [(.agg #[v0_0])]) (N := 10) [.tmp 2] Tryd.func27 rfl rfl (Nat.le_of_ble_eq_true rfl) rfl fun a f => ?_
 unfold D.impl_CliquesOf at hd
 refine k_seq (k_region ?_)
 refine l_box (cs := [v0_0]) m f rfl rfl rfl fun b_2 w a m f => ?_
 refine l_as f rfl rfl fun a f => ?_
 refine l_nil (k_seq (k_seq (k_region ?_)))
 refine l_boxAgg 0 0 (ds := [v0_0]) m Ag27 f rfl rfl rfl rfl rfl fun a f => ?_
 obtain ⟨y_3, hy_4, hd⟩ := bind_some hd
 refine l_res f rfl rfl Tryd.call40 (Wk.impl_GraphOk m h0_0 hy_4) fun v_8 G_5 Ho_9 w hl_6 m hQ_7 a f => ?_
 obtain ⟨rfl, rfl⟩ := hQ_7
 have h0_0 := RSl.mono (RSl.mono (RI.mono _)) _ _ _ _ hl_6 h0_0
 refine l_op f rfl rfl rfl (r_not (f.eval rfl)) fun a f => ?_
 refine l_nil ?_
 rcases cond_some hd with ⟨hc_10, hd⟩ | ⟨hc_10, hd⟩
 ·refine k_true f rfl hc_10 ?_
  refine k_seq (k_region ?_)
  refine l_as f rfl rfl fun a f => ?_
  refine l_nil ?_
  refine k_ret ?_
  obtain ⟨it_11, m, o_12⟩ := Ow2.nil (RI .i64) 36 2 m
  have m := m.eraseAt 1
  obtain rfl := sj hd
  exact ⟨[(.slice none 0 0)], ⟨f.get _ _ rfl, trivial⟩, f.defers, _, [it_11], hl_6, m, _, _, rfl, rfl, o_12⟩
 ·refine k_false f rfl hc_10 ?_
  refine k_skip ?_
  refine k_seq (k_region ?_)
  refine l_boxAgg 0 0 (ds := [v0_0]) m Ag27 f rfl rfl rfl rfl rfl fun a f => ?_
  obtain ⟨y_14, hy_15, hd⟩ := bind_some hd
  refine l_res f rfl rfl Tryd.call43 (Wk.impl_netsOf m h0_0 hy_15) fun v_19 G_16 Ho_20 w hl_17 m hQ_18 a f => ?_
  obtain ⟨v_21, it_22, rfl, rfl, o_23⟩ := hQ_18
  have h0_0 := RSl.mono (RSl.mono (RI.mono _)) _ _ _ _ hl_17 h0_0
  obtain ⟨y_25, hy_26, hd⟩ := bind_some hd
  refine l_res f rfl rfl Tryd.call41 (Ow.lendCall (RI.mono _) 0 o_23 m rfl (fun G_27 hl_28 m h_29 => Wk.impl_cliquesOf hW m h_29 hy_26) (fun _ G' _ _ ⟨a0, a1, e1, e2, o0⟩ => ⟨a0, a1, e1, e2, Ow.free (RI.free _) G' o0⟩)) fun v_33 G_30 Ho_34 w hl_31 m hQ_32 a f => ?_
  obtain ⟨v_35, it_36, rfl, rfl, o_37⟩ := hQ_32
  have h0_0 := RSl.mono (RSl.mono (RI.mono _)) _ _ _ _ hl_31 h0_0
  have o_23 := Ow.mono (RI.mono _) hl_31 o_23
  obtain ⟨y_39, hy_40, hd⟩ := bind_some hd
  refine l_res f rfl rfl Tryd.call46 (Ow.lendCall (RI.mono _) 0 o_37 m rfl (fun G_41 hl_42 m h_43 => Wk.impl_results hW m h_43 hy_40) (fun _ G' _ _ ⟨a0, a1, e1, e2, o0⟩ => ⟨a0, a1, e1, e2, Ow2.free (RI.free _) G' o0⟩)) fun v_47 G_44 Ho_48 w hl_45 m hQ_46 a f => ?_
  obtain ⟨v_49, it_50, rfl, rfl, o_51⟩ := hQ_46
  have h0_0 := RSl.mono (RSl.mono (RI.mono _)) _ _ _ _ hl_45 h0_0
  have o_37 := Ow.mono (RI.mono _) hl_45 o_37
  have o_23 := Ow.mono (RI.mono _) hl_45 o_23
  refine l_as f rfl rfl fun a f => ?_
  refine l_nil ?_
  refine k_ret ?_
  have m := m.eraseAt 3
  have m := m.eraseAt 2
  have m := m.eraseAt 1
  obtain rfl := sj hd
  exact ⟨[v_49], ⟨f.get _ _ rfl, trivial⟩, f.defers, _, [it_50], (GLe.trans hl_6 (GLe.trans hl_17 (GLe.trans hl_31 hl_45))), m, _, _, rfl, rfl, o_51⟩

theorem Wk.spec_l8Meet {W w : World} {G : GH} {H : List Itm} {v0 : Value} {v1 : Value} {x0 : (List Int)} {x1 : (List Int)} (m : Mem W G w (H)) (h0 : RSl (RI .i64) G v0 x0) (h1 : RSl (RI .i64) G v1 x1) {y : ((List Int))} (hd : D.spec_l8Meet x0 x1 = some y) :
  Calls Tryd.prog 102 #[v0, v1] w (Res W G H (fun G' Ho v => ∃ r0 : Value, ∃ i0 : Itm, Ho = [i0] ∧ r0 = v ∧ Ow (RI .i64) 2 G' i0 r0 y)) := by
 refine calls_b (args := [v0, v1]) (N := 28) [.tmp 4] Tryd.func102 rfl rfl (Nat.le_of_ble_eq_true rfl) rfl fun a f => ?_
 unfold D.spec_l8Meet at hd
 refine k_seq (k_region ?_)
 refine l_as f rfl rfl fun a f => ?_
 refine l_nil (k_seq (k_region ?_))
 refine l_slit (R := (RI .i64)) (xs := ([] : List Int)) (RI.one _) m T36 f rfl rfl rfl (by decide) (All2.nil _) fun it_1 v_2 w a m o_3 f => ?_
 refine l_as f rfl rfl fun a f => ?_
 refine l_nil (k_seq (k_seq (k_region ?_)))
 refine l_as f rfl rfl fun a f => ?_
 refine l_nil ?_
 obtain ⟨q_74, hl_75, hd⟩ := bind_some hd
 refine k_cut (fun a w => ∃ l_120 : List Int, l_120 = q_74 ∧ ∃ (G_119 : GH) (v_121 : Value) (it_122 : Itm), GLe G G_119 ∧ Fr a 28 [(5, v_121)] ∧ Mem W G_119 w (it_122 :: H) ∧ Ow (RI .i64) 2 G_119 it_122 v_121 l_120) ?_ ?_
 ·refine k_block ?_
  refine k_loop (fun s_78 a w => ∃ l_81 : List Int, ∃ x_86 : Int, (l_81, x_86) = s_78 ∧ ∃ (G_80 : GH) (v_82 : Value) (it_83 : Itm), GLe G G_80 ∧ Fr a 28 [(0, v0), (1, v1), (5, v_82), (6, (.int .i64 x_86))] ∧ Mem W G_80 w (it_83 :: H) ∧ Ow (RI .i64) 2 G_80 it_83 v_82 l_81) hl_75 ⟨_, _, rfl, _, v_2, it_1, (GLe.refl _), f.weak ⟨rfl, rfl, rfl, rfl, trivial⟩, m, o_3⟩ ?_
  clear hl_75 f m
  rintro s_78 o_79 hs_76 hq_77 a w ⟨l_81, x_86, rfl, G_80, v_82, it_83, hl_87, f, m, o_84⟩
  have h0 := RSl.mono (RI.mono _) _ _ _ _ hl_87 h0
  have h1 := RSl.mono (RI.mono _) _ _ _ _ hl_87 h1
  refine k_seq (k_seq (k_region ?_))
  refine l_mv f rfl rfl fun a f => ?_
  refine l_mv f rfl rfl fun a f => ?_
  refine l_len Tryd.underlying36 f rfl rfl h0 fun a f => ?_
  refine l_in f rfl rfl rfl b_lss fun a f => ?_
  refine l_nil ?_
  rcases cond_some hs_76 with ⟨hc_126, hs_76⟩ | ⟨hc_126, hs_76⟩
  ·refine k_true f rfl hc_126 ?_
   refine k_skip ?_
   refine k_seq (k_block (k_seq (k_region ?_)))
   refine l_mv f rfl rfl fun a f => ?_
   refine l_mv f rfl rfl fun a f => ?_
   refine l_mv f rfl rfl fun a f => ?_
   obtain ⟨e_127, he_128, hs_76⟩ := bind_some hs_76
   refine l_at T36 f rfl rfl rfl h0 he_128 fun p_129 c_130 a g_131 h_132 f => ?_
   subst h_132
   refine l_loadAt m Pl2 f rfl rfl g_131 fun a f => ?_
   obtain ⟨y_133, hy_134, hs_76⟩ := bind_some hs_76
   refine l_res f rfl rfl Tryd.call64 (Wk.spec_l1Has m h1 hy_134) fun v_138 G_135 Ho_139 w hl_136 m hQ_137 a f => ?_
   obtain ⟨rfl, rfl⟩ := hQ_137
   have h0 := RSl.mono (RI.mono _) _ _ _ _ hl_136 h0
   have h1 := RSl.mono (RI.mono _) _ _ _ _ hl_136 h1
   have g_131 := At.mono hl_136 g_131
   have o_84 := Ow.mono (RI.mono _) hl_136 o_84
   refine l_nil ?_
   rcases cond_some hs_76 with ⟨hc_140, hs_76⟩ | ⟨hc_140, hs_76⟩
   ·refine k_true f rfl hc_140 ?_
    refine k_region ?_
    refine l_mv f rfl rfl fun a f => ?_
    refine l_mv f rfl rfl fun a f => ?_
    refine l_mv f rfl rfl fun a f => ?_
    obtain ⟨e_141, he_142, hs_76⟩ := bind_some hs_76
    refine l_at T36 f rfl rfl rfl h0 he_142 fun p_143 c_144 a g_145 h_146 f => ?_
    subst h_146
    refine l_loadAt m Pl2 f rfl rfl g_145 fun a f => ?_
    refine l_slit (R := (RI .i64)) (xs := ([e_141] : List Int)) (RI.one _) m T36 f rfl rfl rfl (by decide) (All2.cons rfl (All2.nil _)) fun it_147 v_148 w a m o_149 f => ?_
    obtain ⟨l_151, hx_152, hs_76⟩ := bind_some hs_76
    refine l_append (RI.one _) 1 m o_84 rfl T36 rfl (by decide) f rfl rfl rfl (Ow.src (j := 0) o_149 m rfl) hx_152 fun it_153 v_154 w a m o_155 f => ?_
    refine l_as f rfl rfl fun a f => ?_
    refine l_nil (k_region ?_)
    refine l_mv f rfl rfl fun a f => ?_
    refine l_in f rfl rfl rfl b_add fun a f => ?_
    refine l_as f rfl rfl fun a f => ?_
    refine l_nil ?_
    have m := m.front 1 rfl
    have m := m.eraseAt 1
    obtain rfl := sj hs_76
    exact ⟨_, rfl, _, _, rfl, _, v_154, it_153, (GLe.trans hl_87 hl_136), f.weak ⟨rfl, rfl, rfl, rfl, trivial⟩, m, o_155⟩
   ·refine k_false f rfl hc_140 ?_
    refine k_skip ?_
    refine k_region ?_
    refine l_mv f rfl rfl fun a f => ?_
    refine l_in f rfl rfl rfl b_add fun a f => ?_
    refine l_as f rfl rfl fun a f => ?_
    refine l_nil ?_
    obtain rfl := sj hs_76
    exact ⟨_, rfl, _, _, rfl, _, v_82, it_83, (GLe.trans hl_87 hl_136), f.weak ⟨rfl, rfl, rfl, rfl, trivial⟩, m, o_84⟩
  ·refine k_false f rfl hc_126 ?_
   refine k_exit rfl ?_
   obtain rfl := sj hs_76
   obtain rfl := hq_77 _ rfl
   exact ⟨_, rfl, _, v_82, it_83, hl_87, f.weak ⟨rfl, trivial⟩, m, o_84⟩
 ·rintro a w ⟨l_120, rfl, G_119, v_121, it_122, hl_125, f, m, o_123⟩
  refine k_seq (k_region ?_)
  refine l_mv f rfl rfl fun a f => ?_
  refine l_as f rfl rfl fun a f => ?_
  refine l_nil ?_
  refine k_ret ?_
  obtain rfl := sj hd
  exact ⟨[v_121], ⟨f.get _ _ rfl, trivial⟩, f.defers, _, [it_122], hl_125, m, _, _, rfl, rfl, o_123⟩

theorem Wk.spec_l8CliquesR {W : World} (n : Nat) : ∀ {w : World} {G : GH} {H : List Itm} {v0_0 : Value} {v1 : Value} {v2 : Value} {v3 : Value} {x0_0 : (List (List Int))} {x1 : (List Int)} {x2 : (List Int)} {x3 : (List Int)} (m : Mem W G w (H)) (h0_0 : RSl (RSl (RI .i64)) G v0_0 x0_0) (h1 : RSl (RI .i64) G v1 x1) (h2 : RSl (RI .i64) G v2 x2) (h3 : RSl (RI .i64) G v3 x3) {y : ((List (List Int)))} (hd : D.spec_l8CliquesR n x0_0 x1 x2 x3 = some y),
  Calls Tryd.prog 69 #[(.agg #[v0_0]), v1, v2, v3] w (Res W G H (fun G' Ho v => ∃ r0 : Value, ∃ i0 : Itm, Ho = [i0] ∧ r0 = v ∧ Ow (RSl (RI .i64)) 36 G' i0 r0 y)) := by
 induction n with
 | zero => intros; rename_i hd; simp [D.spec_l8CliquesR] at hd
 | succ fuel ih =>
  intro w G H v0_0 v1 v2 v3 x0_0 x1 x2 x3 m h0_0 h1 h2 h3 y hd
  refine calls_b (args := [(.agg #[v0_0]), v1, v2, v3]) (N := 67) [.tmp 8] Tryd.func69 rfl rfl (Nat.le_of_ble_eq_true rfl) rfl fun a f => ?_
  unfold D.spec_l8CliquesR at hd
  refine k_seq (k_region ?_)
  refine l_box (cs := [v0_0]) m f rfl rfl rfl fun b_2 w a m f => ?_
  refine l_as f rfl rfl fun a f => ?_
  refine l_nil (k_seq (k_seq (k_region ?_)))
  refine l_mv f rfl rfl fun a f => ?_
  refine l_len Tryd.underlying36 f rfl rfl h2 fun a f => ?_
  refine l_in f rfl rfl rfl b_eql fun a f => ?_
  refine l_mv f rfl rfl fun a f => ?_
  refine l_cut 4 (fun a w => ∃ G_4, GLe G G_4 ∧ Mem W G_4 w (Itm.box b_2 27 [v0_0] :: H) ∧ Fr a 67 [(0, (.agg #[v0_0])), (1, v1), (2, v2), (3, v3), (4, (.pointer (some ⟨b_2, 0, none⟩))), (13, v2), (14, (.int .i64 (x2.length : Int))), (15, (.bool ((x2.length : Int) == 0))), (16, (.bool ((x2.length : Int) == 0))), (20, (.bool (((x2.length : Int) == 0) && ((x3.length : Int) == 0))))]) ?_ ?_
  ·rcases Bool.eq_false_or_eq_true ((x2.length : Int) == 0) with hc_3 | hc_3
   ·refine l_run f rfl rfl hc_3 ?_
    refine l_mv f rfl rfl fun a f => ?_
    refine l_run f rfl rfl hc_3 ?_
    refine l_len Tryd.underlying36 f rfl rfl h3 fun a f => ?_
    refine l_run f rfl rfl hc_3 ?_
    refine l_in f rfl rfl rfl b_eql fun a f => ?_
    refine l_op f rfl rfl rfl (r_pickT (f.eval rfl) hc_3 (f.eval rfl)) fun a f => ?_
    exact ⟨_, (GLe.refl _), m, f.weak ⟨rfl, rfl, rfl, rfl, rfl, rfl, rfl, rfl, rfl, by rw [hc_3]; rfl, trivial⟩⟩
   ·refine l_not' f rfl rfl rfl hc_3 fun a f => ?_
    refine l_not' f rfl rfl rfl hc_3 fun a f => ?_
    refine l_not' f rfl rfl rfl hc_3 fun a f => ?_
    refine l_op f rfl rfl rfl (r_pickF (f.eval rfl) hc_3 (f.eval rfl)) fun a f => ?_
    exact ⟨_, (GLe.refl _), m, f.weak ⟨rfl, rfl, rfl, rfl, rfl, rfl, rfl, rfl, rfl, by rw [hc_3]; rfl, trivial⟩⟩
  ·rintro a w ⟨G_4, hl_5, m, f⟩
   have h0_0 := RSl.mono (RSl.mono (RI.mono _)) _ _ _ _ hl_5 h0_0
   have h1 := RSl.mono (RI.mono _) _ _ _ _ hl_5 h1
   have h2 := RSl.mono (RI.mono _) _ _ _ _ hl_5 h2
   have h3 := RSl.mono (RI.mono _) _ _ _ _ hl_5 h3
   refine l_nil ?_
   rcases cond_some hd with ⟨hc_6, hd⟩ | ⟨hc_6, hd⟩
   ·refine k_true f rfl hc_6 ?_
    refine k_seq (k_region ?_)
    refine l_mv f rfl rfl fun a f => ?_
    refine l_slit (R := (RSl (RI .i64))) (xs := ([x1] : List (List Int))) (RSl.one _) m T22 f rfl rfl rfl (by decide) (All2.cons h1 (All2.nil _)) fun it_7 v_8 w a m o_9 f => ?_
    refine l_as f rfl rfl fun a f => ?_
    refine l_nil ?_
    refine k_ret ?_
    have m := m.eraseAt 1
    obtain rfl := sj hd
    exact ⟨[v_8], ⟨f.get _ _ rfl, trivial⟩, f.defers, _, [it_7], hl_5, m, _, _, rfl, rfl, o_9⟩
   ·refine k_false f rfl hc_6 ?_
    refine k_skip ?_
    refine k_seq (k_region ?_)
    refine l_slit (R := (RSl (RI .i64))) (xs := ([] : List (List Int))) (RSl.one _) m T22 f rfl rfl rfl (by decide) (All2.nil _) fun it_11 v_12 w a m o_13 f => ?_
    refine l_as f rfl rfl fun a f => ?_
    refine l_nil (k_seq (k_seq (k_region ?_)))
    refine l_as f rfl rfl fun a f => ?_
    refine l_nil ?_
    obtain ⟨q_610, hl_611, hd⟩ := bind_some hd
    refine k_cut (fun a w => ∃ l_919 : List (List Int), l_919 = q_610 ∧ ∃ (G_918 : GH) (v_920 : Value) (it_921 : Itm), GLe G_4 G_918 ∧ Fr a 67 [(9, v_920)] ∧ Mem W G_918 w (it_921 :: H) ∧ Ow (RSl (RI .i64)) 36 G_918 it_921 v_920 l_919) ?_ ?_
    ·refine k_block ?_
     have m := m.front 1 rfl
     refine k_loop (fun s_614 a w => ∃ l_617 : List (List Int), ∃ x_622 : Int, (l_617, x_622) = s_614 ∧ ∃ (G_616 : GH) (v_618 : Value) (it_619 : Itm), GLe G_4 G_616 ∧ Fr a 67 [(1, v1), (2, v2), (3, v3), (4, (.pointer (some ⟨b_2, 0, none⟩))), (9, v_618), (10, (.int .i64 x_622))] ∧ Mem W G_616 w (Itm.box b_2 27 [v0_0] :: it_619 :: H) ∧ Ow (RSl (RI .i64)) 36 G_616 it_619 v_618 l_617) hl_611 ⟨_, _, rfl, _, v_12, it_11, (GLe.refl _), f.weak ⟨rfl, rfl, rfl, rfl, rfl, rfl, trivial⟩, m, o_13⟩ ?_
     clear hl_611 f m
     rintro s_614 o_615 hs_612 hq_613 a w ⟨l_617, x_622, rfl, G_616, v_618, it_619, hl_623, f, m, o_620⟩
     have h1 := RSl.mono (RI.mono _) _ _ _ _ hl_623 h1
     have h2 := RSl.mono (RI.mono _) _ _ _ _ hl_623 h2
     have h3 := RSl.mono (RI.mono _) _ _ _ _ hl_623 h3
     have h0_0 := RSl.mono (RSl.mono (RI.mono _)) _ _ _ _ hl_623 h0_0
     refine k_seq (k_seq (k_region ?_))
     refine l_mv f rfl rfl fun a f => ?_
     refine l_mv f rfl rfl fun a f => ?_
     refine l_len Tryd.underlying36 f rfl rfl h2 fun a f => ?_
     refine l_in f rfl rfl rfl b_lss fun a f => ?_
     refine l_nil ?_
     rcases cond_some hs_612 with ⟨hc_925, hs_612⟩ | ⟨hc_925, hs_612⟩
     ·refine k_true f rfl hc_925 ?_
      refine k_skip ?_
      refine k_seq (k_block (k_seq (k_region ?_)))
      refine l_mv f rfl rfl fun a f => ?_
      refine l_mv f rfl rfl fun a f => ?_
      obtain ⟨e_926, he_927, hs_612⟩ := bind_some hs_612
      refine l_at T36 f rfl rfl rfl h2 he_927 fun p_928 c_929 a g_930 h_931 f => ?_
      subst h_931
      refine l_loadAt m Pl2 f rfl rfl g_930 fun a f => ?_
      refine l_as f rfl rfl fun a f => ?_
      refine l_nil (k_seq ?_)
      obtain ⟨j_1078, hj_1079, hs_612⟩ := bind_some hs_612
      refine k_cut (fun a w => ∃ l_1081 : List (List Int), l_1081 = j_1078 ∧ ∃ (G_1080 : GH) (v_1082 : Value) (it_1083 : Itm), GLe G_616 G_1080 ∧ Fr a 67 [(1, v1), (2, v2), (3, v3), (4, (.pointer (some ⟨b_2, 0, none⟩))), (9, v_618), (10, (.int .i64 x_622)), (12, v_1082)] ∧ Mem W G_1080 w (Itm.box b_2 27 [v0_0] :: it_619 :: it_1083 :: H) ∧ Ow (RSl (RI .i64)) 36 G_1080 it_1083 v_1082 l_1081) ?_ ?_
      ·refine k_draw 28 Follows (by kernel_rfl) m ?_
       refine q_boxAgg (i := 0) (ds := [v0_0]) 28 0 Ag27 rfl rfl rfl rfl (by kernel_rfl) rfl f rfl rfl rfl fun a f => ?_
       refine q_mv 1 28 rfl (by kernel_rfl) f rfl rfl rfl fun a f => ?_
       refine q_mv 3 28 rfl (by kernel_rfl) f rfl rfl rfl fun a f => ?_
       refine q_mv 6 28 rfl (by kernel_rfl) f rfl rfl rfl fun a f => ?_
       refine q_mv 7 28 rfl (by kernel_rfl) f rfl rfl rfl fun a f => ?_
       refine q_p 8 28 rfl (by kernel_rfl) f rfl rfl rfl (fun _ => r_int (f.eval rfl) (f.eval rfl) b_add) fun a f => ?_
       obtain ⟨l_1087, hx_1088, hj_1079⟩ := bind_some hj_1079
       refine q_slice (i := 9) 28 T36 h2 hx_1088 rfl (by kernel_rfl) rfl f rfl rfl rfl (.inr ⟨_, _, rfl, rfl⟩) (.inl ⟨rfl, rfl⟩) fun v_1089 a h_1090 f => ?_
       refine q_fieldAddr (i := 10) 28 Tryd.underlying27 rfl Tryd.sizeOf22 (by decide) rfl (by kernel_rfl) rfl f rfl rfl rfl fun a f => ?_
       refine q_boxCell (i := 11) 28 0 Pl22 rfl rfl rfl (by kernel_rfl) rfl f rfl rfl rfl fun a f => ?_
       refine q_mv 12 28 rfl (by kernel_rfl) f rfl rfl rfl fun a f => ?_
       obtain ⟨e_1091, he_1092, hj_1079⟩ := bind_some hj_1079
       refine q_at (i := 13) 28 T22 h0_0 he_1092 rfl (by kernel_rfl) rfl f rfl rfl rfl rfl fun p_1093 c_1094 a g_1095 h_1096 f => ?_
       refine q_loadAt (i := 14) 28 Pl36 g_1095 rfl (by kernel_rfl) rfl f rfl rfl rfl fun a f => ?_
       refine q_mv 16 28 rfl (by kernel_rfl) f rfl rfl rfl fun a f => ?_
       refine q_mv 18 28 rfl (by kernel_rfl) f rfl rfl rfl fun a f => ?_
       refine q_mv 19 28 rfl (by kernel_rfl) f rfl rfl rfl fun a f => ?_
       obtain ⟨l_1097, hx_1098, hj_1079⟩ := bind_some hj_1079
       refine q_slice (i := 20) 28 T36 h2 hx_1098 rfl (by kernel_rfl) rfl f rfl rfl rfl (.inl ⟨rfl, rfl⟩) (.inr ⟨_, _, rfl, rfl⟩) fun v_1099 a h_1100 f => ?_
       refine q_fieldAddr (i := 22) 28 Tryd.underlying27 rfl Tryd.sizeOf22 (by decide) rfl (by kernel_rfl) rfl f rfl rfl rfl fun a f => ?_
       refine q_boxCell (i := 23) 28 0 Pl22 rfl rfl rfl (by kernel_rfl) rfl f rfl rfl rfl fun a f => ?_
       refine q_mv 24 28 rfl (by kernel_rfl) f rfl rfl rfl fun a f => ?_
       obtain ⟨e_1101, he_1102, hj_1079⟩ := bind_some hj_1079
       refine q_at (i := 25) 28 T22 h0_0 he_1102 rfl (by kernel_rfl) rfl f rfl rfl rfl rfl fun p_1103 c_1104 a g_1105 h_1106 f => ?_
       refine q_loadAt (i := 26) 28 Pl36 g_1105 rfl (by kernel_rfl) rfl f rfl rfl rfl fun a f => ?_
       refine q_two (i := 2) (j := 4) (l1 := #[true, true, true, true, false, false, true, true, true, true, true, true, true, true, true, false, true, false, true, true, true, false, true, true, true, true, true, false, false, false]) (l2 := #[true, true, false, true, true, false, true, true, true, true, true, true, true, true, true, false, true, false, true, true, true, false, true, true, true, true, true, false, false, false]) rfl rfl (by kernel_rfl) rfl rfl ?_ ?_
       ·intro G_1107 w hl_1108 m K_1109 K_1109
        have h1 := RSl.mono (RI.mono _) _ _ _ _ hl_1108 h1
        have h2 := RSl.mono (RI.mono _) _ _ _ _ hl_1108 h2
        have h3 := RSl.mono (RI.mono _) _ _ _ _ hl_1108 h3
        have h0_0 := RSl.mono (RSl.mono (RI.mono _)) _ _ _ _ hl_1108 h0_0
        have h_1090 := RSl.mono (RI.mono _) _ _ _ _ hl_1108 h_1090
        have g_1095 := At.mono hl_1108 g_1095
        have h_1096 := RSl.mono (RI.mono _) _ _ _ _ hl_1108 h_1096
        have h_1100 := RSl.mono (RI.mono _) _ _ _ _ hl_1108 h_1100
        have g_1105 := At.mono hl_1108 g_1105
        have h_1106 := RSl.mono (RI.mono _) _ _ _ _ hl_1108 h_1106
        have o_620 := Ow.mono (RSl.mono (RI.mono _)) hl_1108 o_620
        obtain ⟨y_1110, hy_1111, hj_1079⟩ := bind_some hj_1079
        refine l_res f rfl rfl Tryd.call92 (Wk.spec_l1Copy m h1 hy_1111) fun v_1115 G_1112 Ho_1116 w hl_1113 m hQ_1114 a f => ?_
        obtain ⟨v_1117, it_1118, rfl, rfl, o_1119⟩ := hQ_1114
        have h1 := RSl.mono (RI.mono _) _ _ _ _ hl_1113 h1
        have h2 := RSl.mono (RI.mono _) _ _ _ _ hl_1113 h2
        have h3 := RSl.mono (RI.mono _) _ _ _ _ hl_1113 h3
        have h0_0 := RSl.mono (RSl.mono (RI.mono _)) _ _ _ _ hl_1113 h0_0
        have h_1090 := RSl.mono (RI.mono _) _ _ _ _ hl_1113 h_1090
        have g_1095 := At.mono hl_1113 g_1095
        have h_1096 := RSl.mono (RI.mono _) _ _ _ _ hl_1113 h_1096
        have h_1100 := RSl.mono (RI.mono _) _ _ _ _ hl_1113 h_1100
        have g_1105 := At.mono hl_1113 g_1105
        have h_1106 := RSl.mono (RI.mono _) _ _ _ _ hl_1113 h_1106
        have o_620 := Ow.mono (RSl.mono (RI.mono _)) hl_1113 o_620
        refine l_nil ?_
        refine K_1109 G_1112 [it_1118] _ _ hl_1113 m ?_
        refine q_one (i := 4) rfl (by kernel_rfl) rfl fun G_1121 w hl_1122 m K_1123 K_1123 => ?_
        have h1 := RSl.mono (RI.mono _) _ _ _ _ hl_1122 h1
        have h2 := RSl.mono (RI.mono _) _ _ _ _ hl_1122 h2
        have h3 := RSl.mono (RI.mono _) _ _ _ _ hl_1122 h3
        have h0_0 := RSl.mono (RSl.mono (RI.mono _)) _ _ _ _ hl_1122 h0_0
        have h_1090 := RSl.mono (RI.mono _) _ _ _ _ hl_1122 h_1090
        have g_1095 := At.mono hl_1122 g_1095
        have h_1096 := RSl.mono (RI.mono _) _ _ _ _ hl_1122 h_1096
        have h_1100 := RSl.mono (RI.mono _) _ _ _ _ hl_1122 h_1100
        have g_1105 := At.mono hl_1122 g_1105
        have h_1106 := RSl.mono (RI.mono _) _ _ _ _ hl_1122 h_1106
        have o_1119 := Ow.mono (RI.mono _) hl_1122 o_1119
        have o_620 := Ow.mono (RSl.mono (RI.mono _)) hl_1122 o_620
        refine l_slit (R := (RI .i64)) (xs := ([e_926] : List Int)) (RI.one _) m T36 f rfl rfl rfl (by decide) (All2.cons rfl (All2.nil _)) fun it_1124 v_1125 w a m o_1126 f => ?_
        refine l_nil ?_
        refine K_1123 G_1121 [it_1124, it_1118] _ _ (GLe.refl _) m ?_
        refine q_one (i := 5) rfl (by kernel_rfl) rfl fun G_1128 w hl_1129 m K_1130 K_1130 => ?_
        have h1 := RSl.mono (RI.mono _) _ _ _ _ hl_1129 h1
        have h2 := RSl.mono (RI.mono _) _ _ _ _ hl_1129 h2
        have h3 := RSl.mono (RI.mono _) _ _ _ _ hl_1129 h3
        have h0_0 := RSl.mono (RSl.mono (RI.mono _)) _ _ _ _ hl_1129 h0_0
        have h_1090 := RSl.mono (RI.mono _) _ _ _ _ hl_1129 h_1090
        have g_1095 := At.mono hl_1129 g_1095
        have h_1096 := RSl.mono (RI.mono _) _ _ _ _ hl_1129 h_1096
        have h_1100 := RSl.mono (RI.mono _) _ _ _ _ hl_1129 h_1100
        have g_1105 := At.mono hl_1129 g_1105
        have h_1106 := RSl.mono (RI.mono _) _ _ _ _ hl_1129 h_1106
        have o_1126 := Ow.mono (RI.mono _) hl_1129 o_1126
        have o_1119 := Ow.mono (RI.mono _) hl_1129 o_1119
        have o_620 := Ow.mono (RSl.mono (RI.mono _)) hl_1129 o_620
        obtain ⟨l_1131, hx_1132, hj_1079⟩ := bind_some hj_1079
        refine l_append (RI.one _) 1 m o_1119 rfl T36 rfl (by decide) f rfl rfl rfl (Ow.src (j := 0) o_1126 m rfl) hx_1132 fun it_1133 v_1134 w a m o_1135 f => ?_
        refine l_nil ?_
        refine K_1130 G_1128 [it_1124, it_1133] _ _ (GLe.refl _) m ?_
        refine q_one (i := 15) rfl (by kernel_rfl) rfl fun G_1137 w hl_1138 m K_1139 K_1139 => ?_
        have h1 := RSl.mono (RI.mono _) _ _ _ _ hl_1138 h1
        have h2 := RSl.mono (RI.mono _) _ _ _ _ hl_1138 h2
        have h3 := RSl.mono (RI.mono _) _ _ _ _ hl_1138 h3
        have h0_0 := RSl.mono (RSl.mono (RI.mono _)) _ _ _ _ hl_1138 h0_0
        have h_1090 := RSl.mono (RI.mono _) _ _ _ _ hl_1138 h_1090
        have g_1095 := At.mono hl_1138 g_1095
        have h_1096 := RSl.mono (RI.mono _) _ _ _ _ hl_1138 h_1096
        have h_1100 := RSl.mono (RI.mono _) _ _ _ _ hl_1138 h_1100
        have g_1105 := At.mono hl_1138 g_1105
        have h_1106 := RSl.mono (RI.mono _) _ _ _ _ hl_1138 h_1106
        have o_1126 := Ow.mono (RI.mono _) hl_1138 o_1126
        have o_1135 := Ow.mono (RI.mono _) hl_1138 o_1135
        have o_620 := Ow.mono (RSl.mono (RI.mono _)) hl_1138 o_620
        obtain ⟨y_1140, hy_1141, hj_1079⟩ := bind_some hj_1079
        refine l_res f rfl rfl Tryd.call102 (Wk.spec_l8Meet m h_1090 h_1096 hy_1141) fun v_1145 G_1142 Ho_1146 w hl_1143 m hQ_1144 a f => ?_
        obtain ⟨v_1147, it_1148, rfl, rfl, o_1149⟩ := hQ_1144
        have h1 := RSl.mono (RI.mono _) _ _ _ _ hl_1143 h1
        have h2 := RSl.mono (RI.mono _) _ _ _ _ hl_1143 h2
        have h3 := RSl.mono (RI.mono _) _ _ _ _ hl_1143 h3
        have h0_0 := RSl.mono (RSl.mono (RI.mono _)) _ _ _ _ hl_1143 h0_0
        have h_1090 := RSl.mono (RI.mono _) _ _ _ _ hl_1143 h_1090
        have g_1095 := At.mono hl_1143 g_1095
        have h_1096 := RSl.mono (RI.mono _) _ _ _ _ hl_1143 h_1096
        have h_1100 := RSl.mono (RI.mono _) _ _ _ _ hl_1143 h_1100
        have g_1105 := At.mono hl_1143 g_1105
        have h_1106 := RSl.mono (RI.mono _) _ _ _ _ hl_1143 h_1106
        have o_1126 := Ow.mono (RI.mono _) hl_1143 o_1126
        have o_1135 := Ow.mono (RI.mono _) hl_1143 o_1135
        have o_620 := Ow.mono (RSl.mono (RI.mono _)) hl_1143 o_620
        refine l_nil ?_
        refine K_1139 G_1142 [it_1148, it_1124, it_1133] _ _ hl_1143 m ?_
        refine q_one (i := 17) rfl (by kernel_rfl) rfl fun G_1151 w hl_1152 m K_1153 K_1153 => ?_
        have h1 := RSl.mono (RI.mono _) _ _ _ _ hl_1152 h1
        have h2 := RSl.mono (RI.mono _) _ _ _ _ hl_1152 h2
        have h3 := RSl.mono (RI.mono _) _ _ _ _ hl_1152 h3
        have h0_0 := RSl.mono (RSl.mono (RI.mono _)) _ _ _ _ hl_1152 h0_0
        have h_1090 := RSl.mono (RI.mono _) _ _ _ _ hl_1152 h_1090
        have g_1095 := At.mono hl_1152 g_1095
        have h_1096 := RSl.mono (RI.mono _) _ _ _ _ hl_1152 h_1096
        have h_1100 := RSl.mono (RI.mono _) _ _ _ _ hl_1152 h_1100
        have g_1105 := At.mono hl_1152 g_1105
        have h_1106 := RSl.mono (RI.mono _) _ _ _ _ hl_1152 h_1106
        have o_1149 := Ow.mono (RI.mono _) hl_1152 o_1149
        have o_1126 := Ow.mono (RI.mono _) hl_1152 o_1126
        have o_1135 := Ow.mono (RI.mono _) hl_1152 o_1135
        have o_620 := Ow.mono (RSl.mono (RI.mono _)) hl_1152 o_620
        obtain ⟨y_1154, hy_1155, hj_1079⟩ := bind_some hj_1079
        refine l_res f rfl rfl Tryd.call92 (Wk.spec_l1Copy m h3 hy_1155) fun v_1159 G_1156 Ho_1160 w hl_1157 m hQ_1158 a f => ?_
        obtain ⟨v_1161, it_1162, rfl, rfl, o_1163⟩ := hQ_1158
        have h1 := RSl.mono (RI.mono _) _ _ _ _ hl_1157 h1
        have h2 := RSl.mono (RI.mono _) _ _ _ _ hl_1157 h2
        have h3 := RSl.mono (RI.mono _) _ _ _ _ hl_1157 h3
        have h0_0 := RSl.mono (RSl.mono (RI.mono _)) _ _ _ _ hl_1157 h0_0
        have h_1090 := RSl.mono (RI.mono _) _ _ _ _ hl_1157 h_1090
        have g_1095 := At.mono hl_1157 g_1095
        have h_1096 := RSl.mono (RI.mono _) _ _ _ _ hl_1157 h_1096
        have h_1100 := RSl.mono (RI.mono _) _ _ _ _ hl_1157 h_1100
        have g_1105 := At.mono hl_1157 g_1105
        have h_1106 := RSl.mono (RI.mono _) _ _ _ _ hl_1157 h_1106
        have o_1149 := Ow.mono (RI.mono _) hl_1157 o_1149
        have o_1126 := Ow.mono (RI.mono _) hl_1157 o_1126
        have o_1135 := Ow.mono (RI.mono _) hl_1157 o_1135
        have o_620 := Ow.mono (RSl.mono (RI.mono _)) hl_1157 o_620
        refine l_nil ?_
        refine K_1153 G_1156 [it_1162, it_1148, it_1124, it_1133] _ _ hl_1157 m ?_
        refine q_one (i := 21) rfl (by kernel_rfl) rfl fun G_1165 w hl_1166 m K_1167 K_1167 => ?_
        have h1 := RSl.mono (RI.mono _) _ _ _ _ hl_1166 h1
        have h2 := RSl.mono (RI.mono _) _ _ _ _ hl_1166 h2
        have h3 := RSl.mono (RI.mono _) _ _ _ _ hl_1166 h3
        have h0_0 := RSl.mono (RSl.mono (RI.mono _)) _ _ _ _ hl_1166 h0_0
        have h_1090 := RSl.mono (RI.mono _) _ _ _ _ hl_1166 h_1090
        have g_1095 := At.mono hl_1166 g_1095
        have h_1096 := RSl.mono (RI.mono _) _ _ _ _ hl_1166 h_1096
        have h_1100 := RSl.mono (RI.mono _) _ _ _ _ hl_1166 h_1100
        have g_1105 := At.mono hl_1166 g_1105
        have h_1106 := RSl.mono (RI.mono _) _ _ _ _ hl_1166 h_1106
        have o_1163 := Ow.mono (RI.mono _) hl_1166 o_1163
        have o_1149 := Ow.mono (RI.mono _) hl_1166 o_1149
        have o_1126 := Ow.mono (RI.mono _) hl_1166 o_1126
        have o_1135 := Ow.mono (RI.mono _) hl_1166 o_1135
        have o_620 := Ow.mono (RSl.mono (RI.mono _)) hl_1166 o_620
        obtain ⟨l_1168, hx_1169, hj_1079⟩ := bind_some hj_1079
        refine l_append (RI.one _) 0 m o_1163 rfl T36 rfl (by decide) f rfl rfl rfl (h_1100.src m) hx_1169 fun it_1170 v_1171 w a m o_1172 f => ?_
        refine l_nil ?_
        refine K_1167 G_1165 [it_1170, it_1148, it_1124, it_1133] _ _ (GLe.refl _) m ?_
        refine q_one (i := 27) rfl (by kernel_rfl) rfl fun G_1174 w hl_1175 m K_1176 K_1176 => ?_
        have h1 := RSl.mono (RI.mono _) _ _ _ _ hl_1175 h1
        have h2 := RSl.mono (RI.mono _) _ _ _ _ hl_1175 h2
        have h3 := RSl.mono (RI.mono _) _ _ _ _ hl_1175 h3
        have h0_0 := RSl.mono (RSl.mono (RI.mono _)) _ _ _ _ hl_1175 h0_0
        have h_1090 := RSl.mono (RI.mono _) _ _ _ _ hl_1175 h_1090
        have g_1095 := At.mono hl_1175 g_1095
        have h_1096 := RSl.mono (RI.mono _) _ _ _ _ hl_1175 h_1096
        have h_1100 := RSl.mono (RI.mono _) _ _ _ _ hl_1175 h_1100
        have g_1105 := At.mono hl_1175 g_1105
        have h_1106 := RSl.mono (RI.mono _) _ _ _ _ hl_1175 h_1106
        have o_1172 := Ow.mono (RI.mono _) hl_1175 o_1172
        have o_1149 := Ow.mono (RI.mono _) hl_1175 o_1149
        have o_1126 := Ow.mono (RI.mono _) hl_1175 o_1126
        have o_1135 := Ow.mono (RI.mono _) hl_1175 o_1135
        have o_620 := Ow.mono (RSl.mono (RI.mono _)) hl_1175 o_620
        obtain ⟨y_1177, hy_1178, hj_1079⟩ := bind_some hj_1079
        refine l_res f rfl rfl Tryd.call102 (Ow.lendCall (RI.mono _) 0 o_1172 m rfl (fun G_1179 hl_1180 m h_1181 => Wk.spec_l8Meet m h_1181 (RSl.mono (RI.mono _) _ _ _ _ hl_1180 h_1106) hy_1178) (fun _ G' _ _ ⟨a0, a1, e1, e2, o0⟩ => ⟨a0, a1, e1, e2, Ow.free (RI.free _) G' o0⟩)) fun v_1185 G_1182 Ho_1186 w hl_1183 m hQ_1184 a f => ?_
        obtain ⟨v_1187, it_1188, rfl, rfl, o_1189⟩ := hQ_1184
        have h1 := RSl.mono (RI.mono _) _ _ _ _ hl_1183 h1
        have h2 := RSl.mono (RI.mono _) _ _ _ _ hl_1183 h2
        have h3 := RSl.mono (RI.mono _) _ _ _ _ hl_1183 h3
        have h0_0 := RSl.mono (RSl.mono (RI.mono _)) _ _ _ _ hl_1183 h0_0
        have h_1090 := RSl.mono (RI.mono _) _ _ _ _ hl_1183 h_1090
        have g_1095 := At.mono hl_1183 g_1095
        have h_1096 := RSl.mono (RI.mono _) _ _ _ _ hl_1183 h_1096
        have h_1100 := RSl.mono (RI.mono _) _ _ _ _ hl_1183 h_1100
        have g_1105 := At.mono hl_1183 g_1105
        have h_1106 := RSl.mono (RI.mono _) _ _ _ _ hl_1183 h_1106
        have o_1172 := Ow.mono (RI.mono _) hl_1183 o_1172
        have o_1149 := Ow.mono (RI.mono _) hl_1183 o_1149
        have o_1126 := Ow.mono (RI.mono _) hl_1183 o_1126
        have o_1135 := Ow.mono (RI.mono _) hl_1183 o_1135
        have o_620 := Ow.mono (RSl.mono (RI.mono _)) hl_1183 o_620
        refine l_nil ?_
        refine K_1176 G_1182 [it_1188, it_1170, it_1148, it_1124, it_1133] _ _ hl_1183 m ?_
        refine q_end fun G_1191 w hl_1192 m => ?_
        have h1 := RSl.mono (RI.mono _) _ _ _ _ hl_1192 h1
        have h2 := RSl.mono (RI.mono _) _ _ _ _ hl_1192 h2
        have h3 := RSl.mono (RI.mono _) _ _ _ _ hl_1192 h3
        have h0_0 := RSl.mono (RSl.mono (RI.mono _)) _ _ _ _ hl_1192 h0_0
        have h_1090 := RSl.mono (RI.mono _) _ _ _ _ hl_1192 h_1090
        have g_1095 := At.mono hl_1192 g_1095
        have h_1096 := RSl.mono (RI.mono _) _ _ _ _ hl_1192 h_1096
        have h_1100 := RSl.mono (RI.mono _) _ _ _ _ hl_1192 h_1100
        have g_1105 := At.mono hl_1192 g_1105
        have h_1106 := RSl.mono (RI.mono _) _ _ _ _ hl_1192 h_1106
        have o_1189 := Ow.mono (RI.mono _) hl_1192 o_1189
        have o_1172 := Ow.mono (RI.mono _) hl_1192 o_1172
        have o_1149 := Ow.mono (RI.mono _) hl_1192 o_1149
        have o_1126 := Ow.mono (RI.mono _) hl_1192 o_1126
        have o_1135 := Ow.mono (RI.mono _) hl_1192 o_1135
        have o_620 := Ow.mono (RSl.mono (RI.mono _)) hl_1192 o_620
        have m := m.front 4 rfl
        obtain ⟨G_1193, hl_1194, m, h_1195⟩ := Ow.stamp (RI.mono _) o_1135 m
        have h1 := RSl.mono (RI.mono _) _ _ _ _ hl_1194 h1
        have h2 := RSl.mono (RI.mono _) _ _ _ _ hl_1194 h2
        have h3 := RSl.mono (RI.mono _) _ _ _ _ hl_1194 h3
        have h0_0 := RSl.mono (RSl.mono (RI.mono _)) _ _ _ _ hl_1194 h0_0
        have h_1090 := RSl.mono (RI.mono _) _ _ _ _ hl_1194 h_1090
        have g_1095 := At.mono hl_1194 g_1095
        have h_1096 := RSl.mono (RI.mono _) _ _ _ _ hl_1194 h_1096
        have h_1100 := RSl.mono (RI.mono _) _ _ _ _ hl_1194 h_1100
        have g_1105 := At.mono hl_1194 g_1105
        have h_1106 := RSl.mono (RI.mono _) _ _ _ _ hl_1194 h_1106
        have o_1189 := Ow.mono (RI.mono _) hl_1194 o_1189
        have o_1172 := Ow.mono (RI.mono _) hl_1194 o_1172
        have o_1149 := Ow.mono (RI.mono _) hl_1194 o_1149
        have o_1126 := Ow.mono (RI.mono _) hl_1194 o_1126
        have o_620 := Ow.mono (RSl.mono (RI.mono _)) hl_1194 o_620
        have m := m.front 2 rfl
        obtain ⟨G_1196, hl_1197, m, h_1198⟩ := Ow.stamp (RI.mono _) o_1149 m
        have h1 := RSl.mono (RI.mono _) _ _ _ _ hl_1197 h1
        have h2 := RSl.mono (RI.mono _) _ _ _ _ hl_1197 h2
        have h3 := RSl.mono (RI.mono _) _ _ _ _ hl_1197 h3
        have h0_0 := RSl.mono (RSl.mono (RI.mono _)) _ _ _ _ hl_1197 h0_0
        have h_1195 := RSl.mono (RI.mono _) _ _ _ _ hl_1197 h_1195
        have h_1090 := RSl.mono (RI.mono _) _ _ _ _ hl_1197 h_1090
        have g_1095 := At.mono hl_1197 g_1095
        have h_1096 := RSl.mono (RI.mono _) _ _ _ _ hl_1197 h_1096
        have h_1100 := RSl.mono (RI.mono _) _ _ _ _ hl_1197 h_1100
        have g_1105 := At.mono hl_1197 g_1105
        have h_1106 := RSl.mono (RI.mono _) _ _ _ _ hl_1197 h_1106
        have o_1189 := Ow.mono (RI.mono _) hl_1197 o_1189
        have o_1172 := Ow.mono (RI.mono _) hl_1197 o_1172
        have o_1126 := Ow.mono (RI.mono _) hl_1197 o_1126
        have o_620 := Ow.mono (RSl.mono (RI.mono _)) hl_1197 o_620
        obtain ⟨G_1199, hl_1200, m, h_1201⟩ := Ow.stamp (RI.mono _) o_1189 m
        have h1 := RSl.mono (RI.mono _) _ _ _ _ hl_1200 h1
        have h2 := RSl.mono (RI.mono _) _ _ _ _ hl_1200 h2
        have h3 := RSl.mono (RI.mono _) _ _ _ _ hl_1200 h3
        have h0_0 := RSl.mono (RSl.mono (RI.mono _)) _ _ _ _ hl_1200 h0_0
        have h_1195 := RSl.mono (RI.mono _) _ _ _ _ hl_1200 h_1195
        have h_1090 := RSl.mono (RI.mono _) _ _ _ _ hl_1200 h_1090
        have g_1095 := At.mono hl_1200 g_1095
        have h_1096 := RSl.mono (RI.mono _) _ _ _ _ hl_1200 h_1096
        have h_1198 := RSl.mono (RI.mono _) _ _ _ _ hl_1200 h_1198
        have h_1100 := RSl.mono (RI.mono _) _ _ _ _ hl_1200 h_1100
        have g_1105 := At.mono hl_1200 g_1105
        have h_1106 := RSl.mono (RI.mono _) _ _ _ _ hl_1200 h_1106
        have o_1172 := Ow.mono (RI.mono _) hl_1200 o_1172
        have o_1126 := Ow.mono (RI.mono _) hl_1200 o_1126
        have o_620 := Ow.mono (RSl.mono (RI.mono _)) hl_1200 o_620
        obtain ⟨y_1202, hy_1203, hj_1079⟩ := bind_some hj_1079
        refine l_res f rfl rfl Tryd.call69 (ih m h0_0 h_1195 h_1198 h_1201 hy_1203) fun v_1207 G_1204 Ho_1208 w hl_1205 m hQ_1206 a f => ?_
        obtain ⟨v_1209, it_1210, rfl, rfl, o_1211⟩ := hQ_1206
        have h1 := RSl.mono (RI.mono _) _ _ _ _ hl_1205 h1
        have h2 := RSl.mono (RI.mono _) _ _ _ _ hl_1205 h2
        have h3 := RSl.mono (RI.mono _) _ _ _ _ hl_1205 h3
        have h0_0 := RSl.mono (RSl.mono (RI.mono _)) _ _ _ _ hl_1205 h0_0
        have h_1195 := RSl.mono (RI.mono _) _ _ _ _ hl_1205 h_1195
        have h_1090 := RSl.mono (RI.mono _) _ _ _ _ hl_1205 h_1090
        have g_1095 := At.mono hl_1205 g_1095
        have h_1096 := RSl.mono (RI.mono _) _ _ _ _ hl_1205 h_1096
        have h_1198 := RSl.mono (RI.mono _) _ _ _ _ hl_1205 h_1198
        have h_1100 := RSl.mono (RI.mono _) _ _ _ _ hl_1205 h_1100
        have g_1105 := At.mono hl_1205 g_1105
        have h_1106 := RSl.mono (RI.mono _) _ _ _ _ hl_1205 h_1106
        have h_1201 := RSl.mono (RI.mono _) _ _ _ _ hl_1205 h_1201
        have o_1172 := Ow.mono (RI.mono _) hl_1205 o_1172
        have o_1126 := Ow.mono (RI.mono _) hl_1205 o_1126
        have o_620 := Ow.mono (RSl.mono (RI.mono _)) hl_1205 o_620
        refine l_as f rfl rfl fun a f => ?_
        refine l_nil ?_
        have m := m.front 4 rfl
        have m := m.front 4 rfl
        have m := m.eraseAt 4
        have m := m.eraseAt 3
        obtain rfl := sj hj_1079
        exact ⟨_, rfl, _, v_1209, it_1210, (GLe.trans hl_1108 (GLe.trans hl_1113 (GLe.trans hl_1122 (GLe.trans hl_1129 (GLe.trans hl_1138 (GLe.trans hl_1143 (GLe.trans hl_1152 (GLe.trans hl_1157 (GLe.trans hl_1166 (GLe.trans hl_1175 (GLe.trans hl_1183 (GLe.trans hl_1192 (GLe.trans hl_1194 (GLe.trans hl_1197 (GLe.trans hl_1200 hl_1205))))))))))))))), f.weak ⟨rfl, rfl, rfl, rfl, rfl, rfl, rfl, trivial⟩, m, o_1211⟩
       ·intro G_1121 w hl_1122 m K_1123 K_1123
        obtain ⟨y_1110, hy_1111, hj_1079⟩ := bind_some hj_1079
        obtain ⟨l_1131, hx_1132, hj_1079⟩ := bind_some hj_1079
        obtain ⟨y_1140, hy_1141, hj_1079⟩ := bind_some hj_1079
        obtain ⟨y_1154, hy_1155, hj_1079⟩ := bind_some hj_1079
        obtain ⟨l_1168, hx_1169, hj_1079⟩ := bind_some hj_1079
        obtain ⟨y_1177, hy_1178, hj_1079⟩ := bind_some hj_1079
        obtain ⟨y_1202, hy_1203, hj_1079⟩ := bind_some hj_1079
        have h1 := RSl.mono (RI.mono _) _ _ _ _ hl_1122 h1
        have h2 := RSl.mono (RI.mono _) _ _ _ _ hl_1122 h2
        have h3 := RSl.mono (RI.mono _) _ _ _ _ hl_1122 h3
        have h0_0 := RSl.mono (RSl.mono (RI.mono _)) _ _ _ _ hl_1122 h0_0
        have h_1090 := RSl.mono (RI.mono _) _ _ _ _ hl_1122 h_1090
        have g_1095 := At.mono hl_1122 g_1095
        have h_1096 := RSl.mono (RI.mono _) _ _ _ _ hl_1122 h_1096
        have h_1100 := RSl.mono (RI.mono _) _ _ _ _ hl_1122 h_1100
        have g_1105 := At.mono hl_1122 g_1105
        have h_1106 := RSl.mono (RI.mono _) _ _ _ _ hl_1122 h_1106
        have o_620 := Ow.mono (RSl.mono (RI.mono _)) hl_1122 o_620
        refine l_slit (R := (RI .i64)) (xs := ([e_926] : List Int)) (RI.one _) m T36 f rfl rfl rfl (by decide) (All2.cons rfl (All2.nil _)) fun it_1124 v_1125 w a m o_1126 f => ?_
        refine l_nil ?_
        refine K_1123 G_1121 [it_1124] _ _ (GLe.refl _) m ?_
        refine q_one (i := 2) rfl (by kernel_rfl) rfl fun G_1107 w hl_1108 m K_1109 K_1109 => ?_
        have h1 := RSl.mono (RI.mono _) _ _ _ _ hl_1108 h1
        have h2 := RSl.mono (RI.mono _) _ _ _ _ hl_1108 h2
        have h3 := RSl.mono (RI.mono _) _ _ _ _ hl_1108 h3
        have h0_0 := RSl.mono (RSl.mono (RI.mono _)) _ _ _ _ hl_1108 h0_0
        have h_1090 := RSl.mono (RI.mono _) _ _ _ _ hl_1108 h_1090
        have g_1095 := At.mono hl_1108 g_1095
        have h_1096 := RSl.mono (RI.mono _) _ _ _ _ hl_1108 h_1096
        have h_1100 := RSl.mono (RI.mono _) _ _ _ _ hl_1108 h_1100
        have g_1105 := At.mono hl_1108 g_1105
        have h_1106 := RSl.mono (RI.mono _) _ _ _ _ hl_1108 h_1106
        have o_1126 := Ow.mono (RI.mono _) hl_1108 o_1126
        have o_620 := Ow.mono (RSl.mono (RI.mono _)) hl_1108 o_620
        refine l_res f rfl rfl Tryd.call92 (Wk.spec_l1Copy m h1 hy_1111) fun v_1115 G_1112 Ho_1116 w hl_1113 m hQ_1114 a f => ?_
        obtain ⟨v_1117, it_1118, rfl, rfl, o_1119⟩ := hQ_1114
        have h1 := RSl.mono (RI.mono _) _ _ _ _ hl_1113 h1
        have h2 := RSl.mono (RI.mono _) _ _ _ _ hl_1113 h2
        have h3 := RSl.mono (RI.mono _) _ _ _ _ hl_1113 h3
        have h0_0 := RSl.mono (RSl.mono (RI.mono _)) _ _ _ _ hl_1113 h0_0
        have h_1090 := RSl.mono (RI.mono _) _ _ _ _ hl_1113 h_1090
        have g_1095 := At.mono hl_1113 g_1095
        have h_1096 := RSl.mono (RI.mono _) _ _ _ _ hl_1113 h_1096
        have h_1100 := RSl.mono (RI.mono _) _ _ _ _ hl_1113 h_1100
        have g_1105 := At.mono hl_1113 g_1105
        have h_1106 := RSl.mono (RI.mono _) _ _ _ _ hl_1113 h_1106
        have o_1126 := Ow.mono (RI.mono _) hl_1113 o_1126
        have o_620 := Ow.mono (RSl.mono (RI.mono _)) hl_1113 o_620
        refine l_nil ?_
        refine K_1109 G_1112 [it_1118, it_1124] _ _ hl_1113 m ?_
        refine q_one (i := 5) rfl (by kernel_rfl) rfl fun G_1128 w hl_1129 m K_1130 K_1130 => ?_
        have h1 := RSl.mono (RI.mono _) _ _ _ _ hl_1129 h1
        have h2 := RSl.mono (RI.mono _) _ _ _ _ hl_1129 h2
        have h3 := RSl.mono (RI.mono _) _ _ _ _ hl_1129 h3
        have h0_0 := RSl.mono (RSl.mono (RI.mono _)) _ _ _ _ hl_1129 h0_0
        have h_1090 := RSl.mono (RI.mono _) _ _ _ _ hl_1129 h_1090
        have g_1095 := At.mono hl_1129 g_1095
        have h_1096 := RSl.mono (RI.mono _) _ _ _ _ hl_1129 h_1096
        have h_1100 := RSl.mono (RI.mono _) _ _ _ _ hl_1129 h_1100
        have g_1105 := At.mono hl_1129 g_1105
        have h_1106 := RSl.mono (RI.mono _) _ _ _ _ hl_1129 h_1106
        have o_1119 := Ow.mono (RI.mono _) hl_1129 o_1119
        have o_1126 := Ow.mono (RI.mono _) hl_1129 o_1126
        have o_620 := Ow.mono (RSl.mono (RI.mono _)) hl_1129 o_620
        refine l_append (RI.one _) 0 m o_1119 rfl T36 rfl (by decide) f rfl rfl rfl (Ow.src (j := 1) o_1126 m rfl) hx_1132 fun it_1133 v_1134 w a m o_1135 f => ?_
        refine l_nil ?_
        refine K_1130 G_1128 [it_1133, it_1124] _ _ (GLe.refl _) m ?_
        refine q_one (i := 15) rfl (by kernel_rfl) rfl fun G_1137 w hl_1138 m K_1139 K_1139 => ?_
        have h1 := RSl.mono (RI.mono _) _ _ _ _ hl_1138 h1
        have h2 := RSl.mono (RI.mono _) _ _ _ _ hl_1138 h2
        have h3 := RSl.mono (RI.mono _) _ _ _ _ hl_1138 h3
        have h0_0 := RSl.mono (RSl.mono (RI.mono _)) _ _ _ _ hl_1138 h0_0
        have h_1090 := RSl.mono (RI.mono _) _ _ _ _ hl_1138 h_1090
        have g_1095 := At.mono hl_1138 g_1095
        have h_1096 := RSl.mono (RI.mono _) _ _ _ _ hl_1138 h_1096
        have h_1100 := RSl.mono (RI.mono _) _ _ _ _ hl_1138 h_1100
        have g_1105 := At.mono hl_1138 g_1105
        have h_1106 := RSl.mono (RI.mono _) _ _ _ _ hl_1138 h_1106
        have o_1135 := Ow.mono (RI.mono _) hl_1138 o_1135
        have o_1126 := Ow.mono (RI.mono _) hl_1138 o_1126
        have o_620 := Ow.mono (RSl.mono (RI.mono _)) hl_1138 o_620
        refine l_res f rfl rfl Tryd.call102 (Wk.spec_l8Meet m h_1090 h_1096 hy_1141) fun v_1145 G_1142 Ho_1146 w hl_1143 m hQ_1144 a f => ?_
        obtain ⟨v_1147, it_1148, rfl, rfl, o_1149⟩ := hQ_1144
        have h1 := RSl.mono (RI.mono _) _ _ _ _ hl_1143 h1
        have h2 := RSl.mono (RI.mono _) _ _ _ _ hl_1143 h2
        have h3 := RSl.mono (RI.mono _) _ _ _ _ hl_1143 h3
        have h0_0 := RSl.mono (RSl.mono (RI.mono _)) _ _ _ _ hl_1143 h0_0
        have h_1090 := RSl.mono (RI.mono _) _ _ _ _ hl_1143 h_1090
        have g_1095 := At.mono hl_1143 g_1095
        have h_1096 := RSl.mono (RI.mono _) _ _ _ _ hl_1143 h_1096
        have h_1100 := RSl.mono (RI.mono _) _ _ _ _ hl_1143 h_1100
        have g_1105 := At.mono hl_1143 g_1105
        have h_1106 := RSl.mono (RI.mono _) _ _ _ _ hl_1143 h_1106
        have o_1135 := Ow.mono (RI.mono _) hl_1143 o_1135
        have o_1126 := Ow.mono (RI.mono _) hl_1143 o_1126
        have o_620 := Ow.mono (RSl.mono (RI.mono _)) hl_1143 o_620
        refine l_nil ?_
        refine K_1139 G_1142 [it_1148, it_1133, it_1124] _ _ hl_1143 m ?_
        refine q_one (i := 17) rfl (by kernel_rfl) rfl fun G_1151 w hl_1152 m K_1153 K_1153 => ?_
        have h1 := RSl.mono (RI.mono _) _ _ _ _ hl_1152 h1
        have h2 := RSl.mono (RI.mono _) _ _ _ _ hl_1152 h2
        have h3 := RSl.mono (RI.mono _) _ _ _ _ hl_1152 h3
        have h0_0 := RSl.mono (RSl.mono (RI.mono _)) _ _ _ _ hl_1152 h0_0
        have h_1090 := RSl.mono (RI.mono _) _ _ _ _ hl_1152 h_1090
        have g_1095 := At.mono hl_1152 g_1095
        have h_1096 := RSl.mono (RI.mono _) _ _ _ _ hl_1152 h_1096
        have h_1100 := RSl.mono (RI.mono _) _ _ _ _ hl_1152 h_1100
        have g_1105 := At.mono hl_1152 g_1105
        have h_1106 := RSl.mono (RI.mono _) _ _ _ _ hl_1152 h_1106
        have o_1149 := Ow.mono (RI.mono _) hl_1152 o_1149
        have o_1135 := Ow.mono (RI.mono _) hl_1152 o_1135
        have o_1126 := Ow.mono (RI.mono _) hl_1152 o_1126
        have o_620 := Ow.mono (RSl.mono (RI.mono _)) hl_1152 o_620
        refine l_res f rfl rfl Tryd.call92 (Wk.spec_l1Copy m h3 hy_1155) fun v_1159 G_1156 Ho_1160 w hl_1157 m hQ_1158 a f => ?_
        obtain ⟨v_1161, it_1162, rfl, rfl, o_1163⟩ := hQ_1158
        have h1 := RSl.mono (RI.mono _) _ _ _ _ hl_1157 h1
        have h2 := RSl.mono (RI.mono _) _ _ _ _ hl_1157 h2
        have h3 := RSl.mono (RI.mono _) _ _ _ _ hl_1157 h3
        have h0_0 := RSl.mono (RSl.mono (RI.mono _)) _ _ _ _ hl_1157 h0_0
        have h_1090 := RSl.mono (RI.mono _) _ _ _ _ hl_1157 h_1090
        have g_1095 := At.mono hl_1157 g_1095
        have h_1096 := RSl.mono (RI.mono _) _ _ _ _ hl_1157 h_1096
        have h_1100 := RSl.mono (RI.mono _) _ _ _ _ hl_1157 h_1100
        have g_1105 := At.mono hl_1157 g_1105
        have h_1106 := RSl.mono (RI.mono _) _ _ _ _ hl_1157 h_1106
        have o_1149 := Ow.mono (RI.mono _) hl_1157 o_1149
        have o_1135 := Ow.mono (RI.mono _) hl_1157 o_1135
        have o_1126 := Ow.mono (RI.mono _) hl_1157 o_1126
        have o_620 := Ow.mono (RSl.mono (RI.mono _)) hl_1157 o_620
        refine l_nil ?_
        refine K_1153 G_1156 [it_1162, it_1148, it_1133, it_1124] _ _ hl_1157 m ?_
        refine q_one (i := 21) rfl (by kernel_rfl) rfl fun G_1165 w hl_1166 m K_1167 K_1167 => ?_
        have h1 := RSl.mono (RI.mono _) _ _ _ _ hl_1166 h1
        have h2 := RSl.mono (RI.mono _) _ _ _ _ hl_1166 h2
        have h3 := RSl.mono (RI.mono _) _ _ _ _ hl_1166 h3
        have h0_0 := RSl.mono (RSl.mono (RI.mono _)) _ _ _ _ hl_1166 h0_0
        have h_1090 := RSl.mono (RI.mono _) _ _ _ _ hl_1166 h_1090
        have g_1095 := At.mono hl_1166 g_1095
        have h_1096 := RSl.mono (RI.mono _) _ _ _ _ hl_1166 h_1096
        have h_1100 := RSl.mono (RI.mono _) _ _ _ _ hl_1166 h_1100
        have g_1105 := At.mono hl_1166 g_1105
        have h_1106 := RSl.mono (RI.mono _) _ _ _ _ hl_1166 h_1106
        have o_1163 := Ow.mono (RI.mono _) hl_1166 o_1163
        have o_1149 := Ow.mono (RI.mono _) hl_1166 o_1149
        have o_1135 := Ow.mono (RI.mono _) hl_1166 o_1135
        have o_1126 := Ow.mono (RI.mono _) hl_1166 o_1126
        have o_620 := Ow.mono (RSl.mono (RI.mono _)) hl_1166 o_620
        refine l_append (RI.one _) 0 m o_1163 rfl T36 rfl (by decide) f rfl rfl rfl (h_1100.src m) hx_1169 fun it_1170 v_1171 w a m o_1172 f => ?_
        refine l_nil ?_
        refine K_1167 G_1165 [it_1170, it_1148, it_1133, it_1124] _ _ (GLe.refl _) m ?_
        refine q_one (i := 27) rfl (by kernel_rfl) rfl fun G_1174 w hl_1175 m K_1176 K_1176 => ?_
        have h1 := RSl.mono (RI.mono _) _ _ _ _ hl_1175 h1
        have h2 := RSl.mono (RI.mono _) _ _ _ _ hl_1175 h2
        have h3 := RSl.mono (RI.mono _) _ _ _ _ hl_1175 h3
        have h0_0 := RSl.mono (RSl.mono (RI.mono _)) _ _ _ _ hl_1175 h0_0
        have h_1090 := RSl.mono (RI.mono _) _ _ _ _ hl_1175 h_1090
        have g_1095 := At.mono hl_1175 g_1095
        have h_1096 := RSl.mono (RI.mono _) _ _ _ _ hl_1175 h_1096
        have h_1100 := RSl.mono (RI.mono _) _ _ _ _ hl_1175 h_1100
        have g_1105 := At.mono hl_1175 g_1105
        have h_1106 := RSl.mono (RI.mono _) _ _ _ _ hl_1175 h_1106
        have o_1172 := Ow.mono (RI.mono _) hl_1175 o_1172
        have o_1149 := Ow.mono (RI.mono _) hl_1175 o_1149
        have o_1135 := Ow.mono (RI.mono _) hl_1175 o_1135
        have o_1126 := Ow.mono (RI.mono _) hl_1175 o_1126
        have o_620 := Ow.mono (RSl.mono (RI.mono _)) hl_1175 o_620
        refine l_res f rfl rfl Tryd.call102 (Ow.lendCall (RI.mono _) 0 o_1172 m rfl (fun G_1179 hl_1180 m h_1181 => Wk.spec_l8Meet m h_1181 (RSl.mono (RI.mono _) _ _ _ _ hl_1180 h_1106) hy_1178) (fun _ G' _ _ ⟨a0, a1, e1, e2, o0⟩ => ⟨a0, a1, e1, e2, Ow.free (RI.free _) G' o0⟩)) fun v_1185 G_1182 Ho_1186 w hl_1183 m hQ_1184 a f => ?_
        obtain ⟨v_1187, it_1188, rfl, rfl, o_1189⟩ := hQ_1184
        have h1 := RSl.mono (RI.mono _) _ _ _ _ hl_1183 h1
        have h2 := RSl.mono (RI.mono _) _ _ _ _ hl_1183 h2
        have h3 := RSl.mono (RI.mono _) _ _ _ _ hl_1183 h3
        have h0_0 := RSl.mono (RSl.mono (RI.mono _)) _ _ _ _ hl_1183 h0_0
        have h_1090 := RSl.mono (RI.mono _) _ _ _ _ hl_1183 h_1090
        have g_1095 := At.mono hl_1183 g_1095
        have h_1096 := RSl.mono (RI.mono _) _ _ _ _ hl_1183 h_1096
        have h_1100 := RSl.mono (RI.mono _) _ _ _ _ hl_1183 h_1100
        have g_1105 := At.mono hl_1183 g_1105
        have h_1106 := RSl.mono (RI.mono _) _ _ _ _ hl_1183 h_1106
        have o_1172 := Ow.mono (RI.mono _) hl_1183 o_1172
        have o_1149 := Ow.mono (RI.mono _) hl_1183 o_1149
        have o_1135 := Ow.mono (RI.mono _) hl_1183 o_1135
        have o_1126 := Ow.mono (RI.mono _) hl_1183 o_1126
        have o_620 := Ow.mono (RSl.mono (RI.mono _)) hl_1183 o_620
        refine l_nil ?_
        refine K_1176 G_1182 [it_1188, it_1170, it_1148, it_1133, it_1124] _ _ hl_1183 m ?_
        refine q_end fun G_1191 w hl_1192 m => ?_
        have h1 := RSl.mono (RI.mono _) _ _ _ _ hl_1192 h1
        have h2 := RSl.mono (RI.mono _) _ _ _ _ hl_1192 h2
        have h3 := RSl.mono (RI.mono _) _ _ _ _ hl_1192 h3
        have h0_0 := RSl.mono (RSl.mono (RI.mono _)) _ _ _ _ hl_1192 h0_0
        have h_1090 := RSl.mono (RI.mono _) _ _ _ _ hl_1192 h_1090
        have g_1095 := At.mono hl_1192 g_1095
        have h_1096 := RSl.mono (RI.mono _) _ _ _ _ hl_1192 h_1096
        have h_1100 := RSl.mono (RI.mono _) _ _ _ _ hl_1192 h_1100
        have g_1105 := At.mono hl_1192 g_1105
        have h_1106 := RSl.mono (RI.mono _) _ _ _ _ hl_1192 h_1106
        have o_1189 := Ow.mono (RI.mono _) hl_1192 o_1189
        have o_1172 := Ow.mono (RI.mono _) hl_1192 o_1172
        have o_1149 := Ow.mono (RI.mono _) hl_1192 o_1149
        have o_1135 := Ow.mono (RI.mono _) hl_1192 o_1135
        have o_1126 := Ow.mono (RI.mono _) hl_1192 o_1126
        have o_620 := Ow.mono (RSl.mono (RI.mono _)) hl_1192 o_620
        have m := m.front 3 rfl
        obtain ⟨G_1193, hl_1194, m, h_1195⟩ := Ow.stamp (RI.mono _) o_1135 m
        have h1 := RSl.mono (RI.mono _) _ _ _ _ hl_1194 h1
        have h2 := RSl.mono (RI.mono _) _ _ _ _ hl_1194 h2
        have h3 := RSl.mono (RI.mono _) _ _ _ _ hl_1194 h3
        have h0_0 := RSl.mono (RSl.mono (RI.mono _)) _ _ _ _ hl_1194 h0_0
        have h_1090 := RSl.mono (RI.mono _) _ _ _ _ hl_1194 h_1090
        have g_1095 := At.mono hl_1194 g_1095
        have h_1096 := RSl.mono (RI.mono _) _ _ _ _ hl_1194 h_1096
        have h_1100 := RSl.mono (RI.mono _) _ _ _ _ hl_1194 h_1100
        have g_1105 := At.mono hl_1194 g_1105
        have h_1106 := RSl.mono (RI.mono _) _ _ _ _ hl_1194 h_1106
        have o_1189 := Ow.mono (RI.mono _) hl_1194 o_1189
        have o_1172 := Ow.mono (RI.mono _) hl_1194 o_1172
        have o_1149 := Ow.mono (RI.mono _) hl_1194 o_1149
        have o_1126 := Ow.mono (RI.mono _) hl_1194 o_1126
        have o_620 := Ow.mono (RSl.mono (RI.mono _)) hl_1194 o_620
        have m := m.front 2 rfl
        obtain ⟨G_1196, hl_1197, m, h_1198⟩ := Ow.stamp (RI.mono _) o_1149 m
        have h1 := RSl.mono (RI.mono _) _ _ _ _ hl_1197 h1
        have h2 := RSl.mono (RI.mono _) _ _ _ _ hl_1197 h2
        have h3 := RSl.mono (RI.mono _) _ _ _ _ hl_1197 h3
        have h0_0 := RSl.mono (RSl.mono (RI.mono _)) _ _ _ _ hl_1197 h0_0
        have h_1195 := RSl.mono (RI.mono _) _ _ _ _ hl_1197 h_1195
        have h_1090 := RSl.mono (RI.mono _) _ _ _ _ hl_1197 h_1090
        have g_1095 := At.mono hl_1197 g_1095
        have h_1096 := RSl.mono (RI.mono _) _ _ _ _ hl_1197 h_1096
        have h_1100 := RSl.mono (RI.mono _) _ _ _ _ hl_1197 h_1100
        have g_1105 := At.mono hl_1197 g_1105
        have h_1106 := RSl.mono (RI.mono _) _ _ _ _ hl_1197 h_1106
        have o_1189 := Ow.mono (RI.mono _) hl_1197 o_1189
        have o_1172 := Ow.mono (RI.mono _) hl_1197 o_1172
        have o_1126 := Ow.mono (RI.mono _) hl_1197 o_1126
        have o_620 := Ow.mono (RSl.mono (RI.mono _)) hl_1197 o_620
        obtain ⟨G_1199, hl_1200, m, h_1201⟩ := Ow.stamp (RI.mono _) o_1189 m
        have h1 := RSl.mono (RI.mono _) _ _ _ _ hl_1200 h1
        have h2 := RSl.mono (RI.mono _) _ _ _ _ hl_1200 h2
        have h3 := RSl.mono (RI.mono _) _ _ _ _ hl_1200 h3
        have h0_0 := RSl.mono (RSl.mono (RI.mono _)) _ _ _ _ hl_1200 h0_0
        have h_1195 := RSl.mono (RI.mono _) _ _ _ _ hl_1200 h_1195
        have h_1090 := RSl.mono (RI.mono _) _ _ _ _ hl_1200 h_1090
        have g_1095 := At.mono hl_1200 g_1095
        have h_1096 := RSl.mono (RI.mono _) _ _ _ _ hl_1200 h_1096
        have h_1198 := RSl.mono (RI.mono _) _ _ _ _ hl_1200 h_1198
        have h_1100 := RSl.mono (RI.mono _) _ _ _ _ hl_1200 h_1100
        have g_1105 := At.mono hl_1200 g_1105
        have h_1106 := RSl.mono (RI.mono _) _ _ _ _ hl_1200 h_1106
        have o_1172 := Ow.mono (RI.mono _) hl_1200 o_1172
        have o_1126 := Ow.mono (RI.mono _) hl_1200 o_1126
        have o_620 := Ow.mono (RSl.mono (RI.mono _)) hl_1200 o_620
        refine l_res f rfl rfl Tryd.call69 (ih m h0_0 h_1195 h_1198 h_1201 hy_1203) fun v_1207 G_1204 Ho_1208 w hl_1205 m hQ_1206 a f => ?_
        obtain ⟨v_1209, it_1210, rfl, rfl, o_1211⟩ := hQ_1206
        have h1 := RSl.mono (RI.mono _) _ _ _ _ hl_1205 h1
        have h2 := RSl.mono (RI.mono _) _ _ _ _ hl_1205 h2
        have h3 := RSl.mono (RI.mono _) _ _ _ _ hl_1205 h3
        have h0_0 := RSl.mono (RSl.mono (RI.mono _)) _ _ _ _ hl_1205 h0_0
        have h_1195 := RSl.mono (RI.mono _) _ _ _ _ hl_1205 h_1195
        have h_1090 := RSl.mono (RI.mono _) _ _ _ _ hl_1205 h_1090
        have g_1095 := At.mono hl_1205 g_1095
        have h_1096 := RSl.mono (RI.mono _) _ _ _ _ hl_1205 h_1096
        have h_1198 := RSl.mono (RI.mono _) _ _ _ _ hl_1205 h_1198
        have h_1100 := RSl.mono (RI.mono _) _ _ _ _ hl_1205 h_1100
        have g_1105 := At.mono hl_1205 g_1105
        have h_1106 := RSl.mono (RI.mono _) _ _ _ _ hl_1205 h_1106
        have h_1201 := RSl.mono (RI.mono _) _ _ _ _ hl_1205 h_1201
        have o_1172 := Ow.mono (RI.mono _) hl_1205 o_1172
        have o_1126 := Ow.mono (RI.mono _) hl_1205 o_1126
        have o_620 := Ow.mono (RSl.mono (RI.mono _)) hl_1205 o_620
        refine l_as f rfl rfl fun a f => ?_
        refine l_nil ?_
        have m := m.front 4 rfl
        have m := m.front 4 rfl
        have m := m.eraseAt 4
        have m := m.eraseAt 3
        obtain rfl := sj hj_1079
        exact ⟨_, rfl, _, v_1209, it_1210, (GLe.trans hl_1122 (GLe.trans hl_1108 (GLe.trans hl_1113 (GLe.trans hl_1129 (GLe.trans hl_1138 (GLe.trans hl_1143 (GLe.trans hl_1152 (GLe.trans hl_1157 (GLe.trans hl_1166 (GLe.trans hl_1175 (GLe.trans hl_1183 (GLe.trans hl_1192 (GLe.trans hl_1194 (GLe.trans hl_1197 (GLe.trans hl_1200 hl_1205))))))))))))))), f.weak ⟨rfl, rfl, rfl, rfl, rfl, rfl, rfl, trivial⟩, m, o_1211⟩
      ·rintro a w ⟨l_1081, rfl, G_1080, v_1082, it_1083, hl_1086, f, m, o_1084⟩
       have h1 := RSl.mono (RI.mono _) _ _ _ _ hl_1086 h1
       have h2 := RSl.mono (RI.mono _) _ _ _ _ hl_1086 h2
       have h3 := RSl.mono (RI.mono _) _ _ _ _ hl_1086 h3
       have h0_0 := RSl.mono (RSl.mono (RI.mono _)) _ _ _ _ hl_1086 h0_0
       have o_620 := Ow.mono (RSl.mono (RI.mono _)) hl_1086 o_620
       refine k_region ?_
       refine l_mv f rfl rfl fun a f => ?_
       refine l_mv f rfl rfl fun a f => ?_
       obtain ⟨l_1213, hx_1214, hs_612⟩ := bind_some hs_612
       refine l_append (RSl.one _) 1 m o_620 rfl T22 rfl (by decide) f rfl rfl rfl (Ow.src (j := 2) o_1084 m rfl) hx_1214 fun it_1215 v_1216 w a m o_1217 f => ?_
       refine l_as f rfl rfl fun a f => ?_
       refine l_nil (k_region ?_)
       refine l_mv f rfl rfl fun a f => ?_
       refine l_in f rfl rfl rfl b_add fun a f => ?_
       refine l_as f rfl rfl fun a f => ?_
       refine l_nil ?_
       have m := m.front 1 rfl
       have m := m.front 1 rfl
       have m := m.eraseAt 2
       obtain rfl := sj hs_612
       exact ⟨_, rfl, _, _, rfl, _, v_1216, it_1215, (GLe.trans hl_623 hl_1086), f.weak ⟨rfl, rfl, rfl, rfl, rfl, rfl, trivial⟩, m, o_1217⟩
     ·refine k_false f rfl hc_925 ?_
      refine k_exit rfl ?_
      have m := m.front 1 rfl
      have m := m.eraseAt 1
      obtain rfl := sj hs_612
      obtain rfl := hq_613 _ rfl
      exact ⟨_, rfl, _, v_618, it_619, hl_623, f.weak ⟨rfl, trivial⟩, m, o_620⟩
    ·rintro a w ⟨l_919, rfl, G_918, v_920, it_921, hl_924, f, m, o_922⟩
     refine k_seq (k_region ?_)
     refine l_mv f rfl rfl fun a f => ?_
     refine l_as f rfl rfl fun a f => ?_
     refine l_nil ?_
     refine k_ret ?_
     obtain rfl := sj hd
     exact ⟨[v_920], ⟨f.get _ _ rfl, trivial⟩, f.defers, _, [it_921], (GLe.trans hl_5 hl_924), m, _, _, rfl, rfl, o_922⟩

theorem Wk.spec_l8Cliques {W w : World} {G : GH} {H : List Itm} {v0_0 : Value} {v1 : Value} {v2 : Value} {v3 : Value} {x0_0 : (List (List Int))} {x1 : (List Int)} {x2 : (List Int)} {x3 : (List Int)} (m : Mem W G w (H)) (h0_0 : RSl (RSl (RI .i64)) G v0_0 x0_0) (h1 : RSl (RI .i64) G v1 x1) (h2 : RSl (RI .i64) G v2 x2) (h3 : RSl (RI .i64) G v3 x3) {y : ((List (List Int)))} (hd : D.spec_l8Cliques x0_0 x1 x2 x3 = some y) :
  Calls Tryd.prog 69 #[(.agg #[v0_0]), v1, v2, v3] w (Res W G H (fun G' Ho v => ∃ r0 : Value, ∃ i0 : Itm, Ho = [i0] ∧ r0 = v ∧ Ow (RSl (RI .i64)) 36 G' i0 r0 y)) := by
 exact Wk.spec_l8CliquesR recFuel m h0_0 h1 h2 h3 hd

theorem Wk.spec_CliquesOf {W w : World} {G : GH} {H : List Itm} {v0_0 : Value} {x0_0 : (List (List Int))} (m : Mem W G w (H)) (h0_0 : RSl (RSl (RI .i64)) G v0_0 x0_0) {y : ((List (List Int)))} (hd : D.spec_CliquesOf x0_0 = some y) :
  Calls Tryd.prog 29 #[(.agg #[v0_0])] w (Res W G H (fun G' Ho v => ∃ r0 : Value, ∃ i0 : Itm, Ho = [i0] ∧ r0 = v ∧ Ow (RSl (RI .i64)) 36 G' i0 r0 y)) := by
 refine calls_b (args := [(.agg #[v0_0])]) (N := 14) [.tmp 2] Tryd.func29 rfl rfl (Nat.le_of_ble_eq_true rfl) rfl fun a f => ?_
 unfold D.spec_CliquesOf at hd
 refine k_seq (k_region ?_)
 refine l_box (cs := [v0_0]) m f rfl rfl rfl fun b_2 w a m f => ?_
 refine l_as f rfl rfl fun a f => ?_
 refine l_nil (k_seq (k_seq (k_region ?_)))
 refine l_boxAgg 0 0 (ds := [v0_0]) m Ag27 f rfl rfl rfl rfl rfl fun a f => ?_
 obtain ⟨y_3, hy_4, hd⟩ := bind_some hd
 refine l_res f rfl rfl Tryd.call23 (Wk.spec_GraphOk m h0_0 hy_4) fun v_8 G_5 Ho_9 w hl_6 m hQ_7 a f => ?_
 obtain ⟨rfl, rfl⟩ := hQ_7
 have h0_0 := RSl.mono (RSl.mono (RI.mono _)) _ _ _ _ hl_6 h0_0
 refine l_op f rfl rfl rfl (r_not (f.eval rfl)) fun a f => ?_
 refine l_nil ?_
 rcases cond_some hd with ⟨hc_10, hd⟩ | ⟨hc_10, hd⟩
 ·refine k_true f rfl hc_10 ?_
  refine k_seq (k_region ?_)
  refine l_slit (R := (RSl (RI .i64))) (xs := ([] : List (List Int))) (RSl.one _) m T22 f rfl rfl rfl (by decide) (All2.nil _) fun it_11 v_12 w a m o_13 f => ?_
  refine l_as f rfl rfl fun a f => ?_
  refine l_nil ?_
  refine k_ret ?_
  have m := m.eraseAt 1
  obtain rfl := sj hd
  exact ⟨[v_12], ⟨f.get _ _ rfl, trivial⟩, f.defers, _, [it_11], hl_6, m, _, _, rfl, rfl, o_13⟩
 ·refine k_false f rfl hc_10 ?_
  refine k_skip ?_
  refine k_seq ?_
  obtain ⟨j_74, hj_75, hd⟩ := bind_some hd
  refine k_cut (fun a w => ∃ l_77 : List (List Int), l_77 = j_74 ∧ ∃ (G_76 : GH) (v_78 : Value) (it_79 : Itm), GLe G_5 G_76 ∧ Fr a 14 [(2, v_78)] ∧ Mem W G_76 w (it_79 :: H) ∧ Ow (RSl (RI .i64)) 36 G_76 it_79 v_78 l_77) ?_ ?_
  ·refine k_draw 8 Follows (by kernel_rfl) m ?_
   refine q_boxAgg (i := 0) (ds := [v0_0]) 8 0 Ag27 rfl rfl rfl rfl (by kernel_rfl) rfl f rfl rfl rfl fun a f => ?_
   refine q_boxAgg (i := 2) (ds := [v0_0]) 8 0 Ag27 rfl rfl rfl rfl (by kernel_rfl) rfl f rfl rfl rfl fun a f => ?_
   obtain ⟨y_83, hy_84, hj_75⟩ := bind_some hj_75
   refine q_call (i := 3) 8 rfl (by kernel_rfl) rfl f rfl rfl rfl Tryd.call62 (fun _ _ w hG_85 m => Wk.spec_l1Size m (RSl.mono (RSl.mono (RI.mono _)) _ _ _ _ hG_85 h0_0) hy_84) fun a f => ?_
   refine q_three (i := 1) (j := 4) (k := 5) (l1 := #[true, true, true, true, false, false, false, false]) (l2 := #[true, false, true, true, true, false, false, false]) (l3 := #[true, false, true, true, false, true, false, false]) rfl rfl rfl (by kernel_rfl) rfl rfl rfl ?_ ?_ ?_
   ·intro G_86 w hl_87 m K_88 K_88
    have h0_0 := RSl.mono (RSl.mono (RI.mono _)) _ _ _ _ hl_87 h0_0
    refine l_slit (R := (RI .i64)) (xs := ([] : List Int)) (RI.one _) m T36 f rfl rfl rfl (by decide) (All2.nil _) fun it_89 v_90 w a m o_91 f => ?_
    refine l_nil ?_
    refine K_88 G_86 [it_89] _ _ (GLe.refl _) m ?_
    refine q_two (i := 4) (j := 5) (l1 := #[true, true, true, true, true, false, false, false]) (l2 := #[true, true, true, true, false, true, false, false]) rfl rfl (by kernel_rfl) rfl rfl ?_ ?_
    ·intro G_93 w hl_94 m K_95 K_95
     have h0_0 := RSl.mono (RSl.mono (RI.mono _)) _ _ _ _ hl_94 h0_0
     have o_91 := Ow.mono (RI.mono _) hl_94 o_91
     obtain ⟨y_96, hy_97, hj_75⟩ := bind_some hj_75
     refine l_res f rfl rfl Tryd.call70 (Wk.spec_l1All m  hy_97) fun v_101 G_98 Ho_102 w hl_99 m hQ_100 a f => ?_
     obtain ⟨v_103, it_104, rfl, rfl, o_105⟩ := hQ_100
     have h0_0 := RSl.mono (RSl.mono (RI.mono _)) _ _ _ _ hl_99 h0_0
     have o_91 := Ow.mono (RI.mono _) hl_99 o_91
     refine l_nil ?_
     refine K_95 G_98 [it_104, it_89] _ _ hl_99 m ?_
     refine q_one (i := 5) rfl (by kernel_rfl) rfl fun G_107 w hl_108 m K_109 K_109 => ?_
     have h0_0 := RSl.mono (RSl.mono (RI.mono _)) _ _ _ _ hl_108 h0_0
     have o_105 := Ow.mono (RI.mono _) hl_108 o_105
     have o_91 := Ow.mono (RI.mono _) hl_108 o_91
     refine l_slit (R := (RI .i64)) (xs := ([] : List Int)) (RI.one _) m T36 f rfl rfl rfl (by decide) (All2.nil _) fun it_110 v_111 w a m o_112 f => ?_
     refine l_nil ?_
     refine K_109 G_107 [it_110, it_104, it_89] _ _ (GLe.refl _) m ?_
     refine q_one (i := 6) rfl (by kernel_rfl) rfl fun G_114 w hl_115 m K_116 K_116 => ?_
     have h0_0 := RSl.mono (RSl.mono (RI.mono _)) _ _ _ _ hl_115 h0_0
     have o_112 := Ow.mono (RI.mono _) hl_115 o_112
     have o_105 := Ow.mono (RI.mono _) hl_115 o_105
     have o_91 := Ow.mono (RI.mono _) hl_115 o_91
     have m := m.front 2 rfl
     obtain ⟨G_117, hl_118, m, h_119⟩ := Ow.stamp (RI.mono _) o_91 m
     have h0_0 := RSl.mono (RSl.mono (RI.mono _)) _ _ _ _ hl_118 h0_0
     have o_112 := Ow.mono (RI.mono _) hl_118 o_112
     have o_105 := Ow.mono (RI.mono _) hl_118 o_105
     have m := m.front 1 rfl
     obtain ⟨G_120, hl_121, m, h_122⟩ := Ow.stamp (RI.mono _) o_105 m
     have h0_0 := RSl.mono (RSl.mono (RI.mono _)) _ _ _ _ hl_121 h0_0
     have h_119 := RSl.mono (RI.mono _) _ _ _ _ hl_121 h_119
     have o_112 := Ow.mono (RI.mono _) hl_121 o_112
     obtain ⟨G_123, hl_124, m, h_125⟩ := Ow.stamp (RI.mono _) o_112 m
     have h0_0 := RSl.mono (RSl.mono (RI.mono _)) _ _ _ _ hl_124 h0_0
     have h_119 := RSl.mono (RI.mono _) _ _ _ _ hl_124 h_119
     have h_122 := RSl.mono (RI.mono _) _ _ _ _ hl_124 h_122
     obtain ⟨y_126, hy_127, hj_75⟩ := bind_some hj_75
     refine l_res f rfl rfl Tryd.call69 (Wk.spec_l8Cliques m h0_0 h_119 h_122 h_125 hy_127) fun v_131 G_128 Ho_132 w hl_129 m hQ_130 a f => ?_
     obtain ⟨v_133, it_134, rfl, rfl, o_135⟩ := hQ_130
     have h0_0 := RSl.mono (RSl.mono (RI.mono _)) _ _ _ _ hl_129 h0_0
     have h_119 := RSl.mono (RI.mono _) _ _ _ _ hl_129 h_119
     have h_122 := RSl.mono (RI.mono _) _ _ _ _ hl_129 h_122
     have h_125 := RSl.mono (RI.mono _) _ _ _ _ hl_129 h_125
     refine l_nil ?_
     refine K_116 G_128 [it_134] _ _ (GLe.trans hl_118 (GLe.trans hl_121 (GLe.trans hl_124 hl_129))) m ?_
     refine q_p 7 8 rfl (by kernel_rfl) f rfl rfl rfl (fun _ => r_assign (f.eval rfl)) fun a f => ?_
     refine q_end fun G_137 w hl_138 m => ?_
     have h0_0 := RSl.mono (RSl.mono (RI.mono _)) _ _ _ _ hl_138 h0_0
     have h_119 := RSl.mono (RI.mono _) _ _ _ _ hl_138 h_119
     have h_122 := RSl.mono (RI.mono _) _ _ _ _ hl_138 h_122
     have h_125 := RSl.mono (RI.mono _) _ _ _ _ hl_138 h_125
     have o_135 := Ow.mono (RSl.mono (RI.mono _)) hl_138 o_135
     refine l_nil ?_
     have m := m.eraseAt 1
     obtain rfl := sj hj_75
     exact ⟨_, rfl, _, v_133, it_134, (GLe.trans hl_87 (GLe.trans hl_94 (GLe.trans hl_99 (GLe.trans hl_108 (GLe.trans hl_115 (GLe.trans hl_118 (GLe.trans hl_121 (GLe.trans hl_124 (GLe.trans hl_129 hl_138))))))))), f.weak ⟨rfl, trivial⟩, m, o_135⟩
    ·intro G_107 w hl_108 m K_109 K_109
     obtain ⟨y_96, hy_97, hj_75⟩ := bind_some hj_75
     obtain ⟨y_126, hy_127, hj_75⟩ := bind_some hj_75
     have h0_0 := RSl.mono (RSl.mono (RI.mono _)) _ _ _ _ hl_108 h0_0
     have o_91 := Ow.mono (RI.mono _) hl_108 o_91
     refine l_slit (R := (RI .i64)) (xs := ([] : List Int)) (RI.one _) m T36 f rfl rfl rfl (by decide) (All2.nil _) fun it_110 v_111 w a m o_112 f => ?_
     refine l_nil ?_
     refine K_109 G_107 [it_110, it_89] _ _ (GLe.refl _) m ?_
     refine q_one (i := 4) rfl (by kernel_rfl) rfl fun G_93 w hl_94 m K_95 K_95 => ?_
     have h0_0 := RSl.mono (RSl.mono (RI.mono _)) _ _ _ _ hl_94 h0_0
     have o_112 := Ow.mono (RI.mono _) hl_94 o_112
     have o_91 := Ow.mono (RI.mono _) hl_94 o_91
     refine l_res f rfl rfl Tryd.call70 (Wk.spec_l1All m  hy_97) fun v_101 G_98 Ho_102 w hl_99 m hQ_100 a f => ?_
     obtain ⟨v_103, it_104, rfl, rfl, o_105⟩ := hQ_100
     have h0_0 := RSl.mono (RSl.mono (RI.mono _)) _ _ _ _ hl_99 h0_0
     have o_112 := Ow.mono (RI.mono _) hl_99 o_112
     have o_91 := Ow.mono (RI.mono _) hl_99 o_91
     refine l_nil ?_
     refine K_95 G_98 [it_104, it_110, it_89] _ _ hl_99 m ?_
     refine q_one (i := 6) rfl (by kernel_rfl) rfl fun G_114 w hl_115 m K_116 K_116 => ?_
     have h0_0 := RSl.mono (RSl.mono (RI.mono _)) _ _ _ _ hl_115 h0_0
     have o_105 := Ow.mono (RI.mono _) hl_115 o_105
     have o_112 := Ow.mono (RI.mono _) hl_115 o_112
     have o_91 := Ow.mono (RI.mono _) hl_115 o_91
     have m := m.front 2 rfl
     obtain ⟨G_117, hl_118, m, h_119⟩ := Ow.stamp (RI.mono _) o_91 m
     have h0_0 := RSl.mono (RSl.mono (RI.mono _)) _ _ _ _ hl_118 h0_0
     have o_105 := Ow.mono (RI.mono _) hl_118 o_105
     have o_112 := Ow.mono (RI.mono _) hl_118 o_112
     obtain ⟨G_120, hl_121, m, h_122⟩ := Ow.stamp (RI.mono _) o_105 m
     have h0_0 := RSl.mono (RSl.mono (RI.mono _)) _ _ _ _ hl_121 h0_0
     have h_119 := RSl.mono (RI.mono _) _ _ _ _ hl_121 h_119
     have o_112 := Ow.mono (RI.mono _) hl_121 o_112
     obtain ⟨G_123, hl_124, m, h_125⟩ := Ow.stamp (RI.mono _) o_112 m
     have h0_0 := RSl.mono (RSl.mono (RI.mono _)) _ _ _ _ hl_124 h0_0
     have h_119 := RSl.mono (RI.mono _) _ _ _ _ hl_124 h_119
     have h_122 := RSl.mono (RI.mono _) _ _ _ _ hl_124 h_122
     refine l_res f rfl rfl Tryd.call69 (Wk.spec_l8Cliques m h0_0 h_119 h_122 h_125 hy_127) fun v_131 G_128 Ho_132 w hl_129 m hQ_130 a f => ?_
     obtain ⟨v_133, it_134, rfl, rfl, o_135⟩ := hQ_130
     have h0_0 := RSl.mono (RSl.mono (RI.mono _)) _ _ _ _ hl_129 h0_0
     have h_119 := RSl.mono (RI.mono _) _ _ _ _ hl_129 h_119
     have h_122 := RSl.mono (RI.mono _) _ _ _ _ hl_129 h_122
     have h_125 := RSl.mono (RI.mono _) _ _ _ _ hl_129 h_125
     refine l_nil ?_
     refine K_116 G_128 [it_134] _ _ (GLe.trans hl_118 (GLe.trans hl_121 (GLe.trans hl_124 hl_129))) m ?_
     refine q_p 7 8 rfl (by kernel_rfl) f rfl rfl rfl (fun _ => r_assign (f.eval rfl)) fun a f => ?_
     refine q_end fun G_137 w hl_138 m => ?_
     have h0_0 := RSl.mono (RSl.mono (RI.mono _)) _ _ _ _ hl_138 h0_0
     have h_119 := RSl.mono (RI.mono _) _ _ _ _ hl_138 h_119
     have h_122 := RSl.mono (RI.mono _) _ _ _ _ hl_138 h_122
     have h_125 := RSl.mono (RI.mono _) _ _ _ _ hl_138 h_125
     have o_135 := Ow.mono (RSl.mono (RI.mono _)) hl_138 o_135
     refine l_nil ?_
     have m := m.eraseAt 1
     obtain rfl := sj hj_75
     exact ⟨_, rfl, _, v_133, it_134, (GLe.trans hl_87 (GLe.trans hl_108 (GLe.trans hl_94 (GLe.trans hl_99 (GLe.trans hl_115 (GLe.trans hl_118 (GLe.trans hl_121 (GLe.trans hl_124 (GLe.trans hl_129 hl_138))))))))), f.weak ⟨rfl, trivial⟩, m, o_135⟩
   ·intro G_93 w hl_94 m K_95 K_95
    obtain ⟨y_96, hy_97, hj_75⟩ := bind_some hj_75
    obtain ⟨y_126, hy_127, hj_75⟩ := bind_some hj_75
    have h0_0 := RSl.mono (RSl.mono (RI.mono _)) _ _ _ _ hl_94 h0_0
    refine l_res f rfl rfl Tryd.call70 (Wk.spec_l1All m  hy_97) fun v_101 G_98 Ho_102 w hl_99 m hQ_100 a f => ?_
    obtain ⟨v_103, it_104, rfl, rfl, o_105⟩ := hQ_100
    have h0_0 := RSl.mono (RSl.mono (RI.mono _)) _ _ _ _ hl_99 h0_0
    refine l_nil ?_
    refine K_95 G_98 [it_104] _ _ hl_99 m ?_
    refine q_two (i := 1) (j := 5) (l1 := #[true, true, true, true, true, false, false, false]) (l2 := #[true, false, true, true, true, true, false, false]) rfl rfl (by kernel_rfl) rfl rfl ?_ ?_
    ·intro G_86 w hl_87 m K_88 K_88
     have h0_0 := RSl.mono (RSl.mono (RI.mono _)) _ _ _ _ hl_87 h0_0
     have o_105 := Ow.mono (RI.mono _) hl_87 o_105
     refine l_slit (R := (RI .i64)) (xs := ([] : List Int)) (RI.one _) m T36 f rfl rfl rfl (by decide) (All2.nil _) fun it_89 v_90 w a m o_91 f => ?_
     refine l_nil ?_
     refine K_88 G_86 [it_89, it_104] _ _ (GLe.refl _) m ?_
     refine q_one (i := 5) rfl (by kernel_rfl) rfl fun G_107 w hl_108 m K_109 K_109 => ?_
     have h0_0 := RSl.mono (RSl.mono (RI.mono _)) _ _ _ _ hl_108 h0_0
     have o_91 := Ow.mono (RI.mono _) hl_108 o_91
     have o_105 := Ow.mono (RI.mono _) hl_108 o_105
     refine l_slit (R := (RI .i64)) (xs := ([] : List Int)) (RI.one _) m T36 f rfl rfl rfl (by decide) (All2.nil _) fun it_110 v_111 w a m o_112 f => ?_
     refine l_nil ?_
     refine K_109 G_107 [it_110, it_89, it_104] _ _ (GLe.refl _) m ?_
     refine q_one (i := 6) rfl (by kernel_rfl) rfl fun G_114 w hl_115 m K_116 K_116 => ?_
     have h0_0 := RSl.mono (RSl.mono (RI.mono _)) _ _ _ _ hl_115 h0_0
     have o_112 := Ow.mono (RI.mono _) hl_115 o_112
     have o_91 := Ow.mono (RI.mono _) hl_115 o_91
     have o_105 := Ow.mono (RI.mono _) hl_115 o_105
     have m := m.front 1 rfl
     obtain ⟨G_117, hl_118, m, h_119⟩ := Ow.stamp (RI.mono _) o_91 m
     have h0_0 := RSl.mono (RSl.mono (RI.mono _)) _ _ _ _ hl_118 h0_0
     have o_112 := Ow.mono (RI.mono _) hl_118 o_112
     have o_105 := Ow.mono (RI.mono _) hl_118 o_105
     have m := m.front 1 rfl
     obtain ⟨G_120, hl_121, m, h_122⟩ := Ow.stamp (RI.mono _) o_105 m
     have h0_0 := RSl.mono (RSl.mono (RI.mono _)) _ _ _ _ hl_121 h0_0
     have h_119 := RSl.mono (RI.mono _) _ _ _ _ hl_121 h_119
     have o_112 := Ow.mono (RI.mono _) hl_121 o_112
     obtain ⟨G_123, hl_124, m, h_125⟩ := Ow.stamp (RI.mono _) o_112 m
     have h0_0 := RSl.mono (RSl.mono (RI.mono _)) _ _ _ _ hl_124 h0_0
     have h_119 := RSl.mono (RI.mono _) _ _ _ _ hl_124 h_119
     have h_122 := RSl.mono (RI.mono _) _ _ _ _ hl_124 h_122
     refine l_res f rfl rfl Tryd.call69 (Wk.spec_l8Cliques m h0_0 h_119 h_122 h_125 hy_127) fun v_131 G_128 Ho_132 w hl_129 m hQ_130 a f => ?_
     obtain ⟨v_133, it_134, rfl, rfl, o_135⟩ := hQ_130
     have h0_0 := RSl.mono (RSl.mono (RI.mono _)) _ _ _ _ hl_129 h0_0
     have h_119 := RSl.mono (RI.mono _) _ _ _ _ hl_129 h_119
     have h_122 := RSl.mono (RI.mono _) _ _ _ _ hl_129 h_122
     have h_125 := RSl.mono (RI.mono _) _ _ _ _ hl_129 h_125
     refine l_nil ?_
     refine K_116 G_128 [it_134] _ _ (GLe.trans hl_118 (GLe.trans hl_121 (GLe.trans hl_124 hl_129))) m ?_
     refine q_p 7 8 rfl (by kernel_rfl) f rfl rfl rfl (fun _ => r_assign (f.eval rfl)) fun a f => ?_
     refine q_end fun G_137 w hl_138 m => ?_
     have h0_0 := RSl.mono (RSl.mono (RI.mono _)) _ _ _ _ hl_138 h0_0
     have h_119 := RSl.mono (RI.mono _) _ _ _ _ hl_138 h_119
     have h_122 := RSl.mono (RI.mono _) _ _ _ _ hl_138 h_122
     have h_125 := RSl.mono (RI.mono _) _ _ _ _ hl_138 h_125
     have o_135 := Ow.mono (RSl.mono (RI.mono _)) hl_138 o_135
     refine l_nil ?_
     have m := m.eraseAt 1
     obtain rfl := sj hj_75
     exact ⟨_, rfl, _, v_133, it_134, (GLe.trans hl_94 (GLe.trans hl_99 (GLe.trans hl_87 (GLe.trans hl_108 (GLe.trans hl_115 (GLe.trans hl_118 (GLe.trans hl_121 (GLe.trans hl_124 (GLe.trans hl_129 hl_138))))))))), f.weak ⟨rfl, trivial⟩, m, o_135⟩
    ·intro G_107 w hl_108 m K_109 K_109
     have h0_0 := RSl.mono (RSl.mono (RI.mono _)) _ _ _ _ hl_108 h0_0
     have o_105 := Ow.mono (RI.mono _) hl_108 o_105
     refine l_slit (R := (RI .i64)) (xs := ([] : List Int)) (RI.one _) m T36 f rfl rfl rfl (by decide) (All2.nil _) fun it_110 v_111 w a m o_112 f => ?_
     refine l_nil ?_
     refine K_109 G_107 [it_110, it_104] _ _ (GLe.refl _) m ?_
     refine q_one (i := 1) rfl (by kernel_rfl) rfl fun G_86 w hl_87 m K_88 K_88 => ?_
     have h0_0 := RSl.mono (RSl.mono (RI.mono _)) _ _ _ _ hl_87 h0_0
     have o_112 := Ow.mono (RI.mono _) hl_87 o_112
     have o_105 := Ow.mono (RI.mono _) hl_87 o_105
     refine l_slit (R := (RI .i64)) (xs := ([] : List Int)) (RI.one _) m T36 f rfl rfl rfl (by decide) (All2.nil _) fun it_89 v_90 w a m o_91 f => ?_
     refine l_nil ?_
     refine K_88 G_86 [it_89, it_110, it_104] _ _ (GLe.refl _) m ?_
     refine q_one (i := 6) rfl (by kernel_rfl) rfl fun G_114 w hl_115 m K_116 K_116 => ?_
     have h0_0 := RSl.mono (RSl.mono (RI.mono _)) _ _ _ _ hl_115 h0_0
     have o_91 := Ow.mono (RI.mono _) hl_115 o_91
     have o_112 := Ow.mono (RI.mono _) hl_115 o_112
     have o_105 := Ow.mono (RI.mono _) hl_115 o_105
     obtain ⟨G_117, hl_118, m, h_119⟩ := Ow.stamp (RI.mono _) o_91 m
     have h0_0 := RSl.mono (RSl.mono (RI.mono _)) _ _ _ _ hl_118 h0_0
     have o_112 := Ow.mono (RI.mono _) hl_118 o_112
     have o_105 := Ow.mono (RI.mono _) hl_118 o_105
     have m := m.front 1 rfl
     obtain ⟨G_120, hl_121, m, h_122⟩ := Ow.stamp (RI.mono _) o_105 m
     have h0_0 := RSl.mono (RSl.mono (RI.mono _)) _ _ _ _ hl_121 h0_0
     have h_119 := RSl.mono (RI.mono _) _ _ _ _ hl_121 h_119
     have o_112 := Ow.mono (RI.mono _) hl_121 o_112
     obtain ⟨G_123, hl_124, m, h_125⟩ := Ow.stamp (RI.mono _) o_112 m
     have h0_0 := RSl.mono (RSl.mono (RI.mono _)) _ _ _ _ hl_124 h0_0
     have h_119 := RSl.mono (RI.mono _) _ _ _ _ hl_124 h_119
     have h_122 := RSl.mono (RI.mono _) _ _ _ _ hl_124 h_122
     refine l_res f rfl rfl Tryd.call69 (Wk.spec_l8Cliques m h0_0 h_119 h_122 h_125 hy_127) fun v_131 G_128 Ho_132 w hl_129 m hQ_130 a f => ?_
     obtain ⟨v_133, it_134, rfl, rfl, o_135⟩ := hQ_130
     have h0_0 := RSl.mono (RSl.mono (RI.mono _)) _ _ _ _ hl_129 h0_0
     have h_119 := RSl.mono (RI.mono _) _ _ _ _ hl_129 h_119
     have h_122 := RSl.mono (RI.mono _) _ _ _ _ hl_129 h_122
     have h_125 := RSl.mono (RI.mono _) _ _ _ _ hl_129 h_125
     refine l_nil ?_
     refine K_116 G_128 [it_134] _ _ (GLe.trans hl_118 (GLe.trans hl_121 (GLe.trans hl_124 hl_129))) m ?_
     refine q_p 7 8 rfl (by kernel_rfl) f rfl rfl rfl (fun _ => r_assign (f.eval rfl)) fun a f => ?_
     refine q_end fun G_137 w hl_138 m => ?_
     have h0_0 := RSl.mono (RSl.mono (RI.mono _)) _ _ _ _ hl_138 h0_0
     have h_119 := RSl.mono (RI.mono _) _ _ _ _ hl_138 h_119
     have h_122 := RSl.mono (RI.mono _) _ _ _ _ hl_138 h_122
     have h_125 := RSl.mono (RI.mono _) _ _ _ _ hl_138 h_125
     have o_135 := Ow.mono (RSl.mono (RI.mono _)) hl_138 o_135
     refine l_nil ?_
     have m := m.eraseAt 1
     obtain rfl := sj hj_75
     exact ⟨_, rfl, _, v_133, it_134, (GLe.trans hl_94 (GLe.trans hl_99 (GLe.trans hl_108 (GLe.trans hl_87 (GLe.trans hl_115 (GLe.trans hl_118 (GLe.trans hl_121 (GLe.trans hl_124 (GLe.trans hl_129 hl_138))))))))), f.weak ⟨rfl, trivial⟩, m, o_135⟩
   ·intro G_107 w hl_108 m K_109 K_109
    obtain ⟨y_96, hy_97, hj_75⟩ := bind_some hj_75
    obtain ⟨y_126, hy_127, hj_75⟩ := bind_some hj_75
    have h0_0 := RSl.mono (RSl.mono (RI.mono _)) _ _ _ _ hl_108 h0_0
    refine l_slit (R := (RI .i64)) (xs := ([] : List Int)) (RI.one _) m T36 f rfl rfl rfl (by decide) (All2.nil _) fun it_110 v_111 w a m o_112 f => ?_
    refine l_nil ?_
    refine K_109 G_107 [it_110] _ _ (GLe.refl _) m ?_
    refine q_two (i := 1) (j := 4) (l1 := #[true, true, true, true, false, true, false, false]) (l2 := #[true, false, true, true, true, true, false, false]) rfl rfl (by kernel_rfl) rfl rfl ?_ ?_
    ·intro G_86 w hl_87 m K_88 K_88
     have h0_0 := RSl.mono (RSl.mono (RI.mono _)) _ _ _ _ hl_87 h0_0
     have o_112 := Ow.mono (RI.mono _) hl_87 o_112
     refine l_slit (R := (RI .i64)) (xs := ([] : List Int)) (RI.one _) m T36 f rfl rfl rfl (by decide) (All2.nil _) fun it_89 v_90 w a m o_91 f => ?_
     refine l_nil ?_
     refine K_88 G_86 [it_89, it_110] _ _ (GLe.refl _) m ?_
     refine q_one (i := 4) rfl (by kernel_rfl) rfl fun G_93 w hl_94 m K_95 K_95 => ?_
     have h0_0 := RSl.mono (RSl.mono (RI.mono _)) _ _ _ _ hl_94 h0_0
     have o_91 := Ow.mono (RI.mono _) hl_94 o_91
     have o_112 := Ow.mono (RI.mono _) hl_94 o_112
     refine l_res f rfl rfl Tryd.call70 (Wk.spec_l1All m  hy_97) fun v_101 G_98 Ho_102 w hl_99 m hQ_100 a f => ?_
     obtain ⟨v_103, it_104, rfl, rfl, o_105⟩ := hQ_100
     have h0_0 := RSl.mono (RSl.mono (RI.mono _)) _ _ _ _ hl_99 h0_0
     have o_91 := Ow.mono (RI.mono _) hl_99 o_91
     have o_112 := Ow.mono (RI.mono _) hl_99 o_112
     refine l_nil ?_
     refine K_95 G_98 [it_104, it_89, it_110] _ _ hl_99 m ?_
     refine q_one (i := 6) rfl (by kernel_rfl) rfl fun G_114 w hl_115 m K_116 K_116 => ?_
     have h0_0 := RSl.mono (RSl.mono (RI.mono _)) _ _ _ _ hl_115 h0_0
     have o_105 := Ow.mono (RI.mono _) hl_115 o_105
     have o_91 := Ow.mono (RI.mono _) hl_115 o_91
     have o_112 := Ow.mono (RI.mono _) hl_115 o_112
     have m := m.front 1 rfl
     obtain ⟨G_117, hl_118, m, h_119⟩ := Ow.stamp (RI.mono _) o_91 m
     have h0_0 := RSl.mono (RSl.mono (RI.mono _)) _ _ _ _ hl_118 h0_0
     have o_105 := Ow.mono (RI.mono _) hl_118 o_105
     have o_112 := Ow.mono (RI.mono _) hl_118 o_112
     obtain ⟨G_120, hl_121, m, h_122⟩ := Ow.stamp (RI.mono _) o_105 m
     have h0_0 := RSl.mono (RSl.mono (RI.mono _)) _ _ _ _ hl_121 h0_0
     have h_119 := RSl.mono (RI.mono _) _ _ _ _ hl_121 h_119
     have o_112 := Ow.mono (RI.mono _) hl_121 o_112
     obtain ⟨G_123, hl_124, m, h_125⟩ := Ow.stamp (RI.mono _) o_112 m
     have h0_0 := RSl.mono (RSl.mono (RI.mono _)) _ _ _ _ hl_124 h0_0
     have h_119 := RSl.mono (RI.mono _) _ _ _ _ hl_124 h_119
     have h_122 := RSl.mono (RI.mono _) _ _ _ _ hl_124 h_122
     refine l_res f rfl rfl Tryd.call69 (Wk.spec_l8Cliques m h0_0 h_119 h_122 h_125 hy_127) fun v_131 G_128 Ho_132 w hl_129 m hQ_130 a f => ?_
     obtain ⟨v_133, it_134, rfl, rfl, o_135⟩ := hQ_130
     have h0_0 := RSl.mono (RSl.mono (RI.mono _)) _ _ _ _ hl_129 h0_0
     have h_119 := RSl.mono (RI.mono _) _ _ _ _ hl_129 h_119
     have h_122 := RSl.mono (RI.mono _) _ _ _ _ hl_129 h_122
     have h_125 := RSl.mono (RI.mono _) _ _ _ _ hl_129 h_125
     refine l_nil ?_
     refine K_116 G_128 [it_134] _ _ (GLe.trans hl_118 (GLe.trans hl_121 (GLe.trans hl_124 hl_129))) m ?_
     refine q_p 7 8 rfl (by kernel_rfl) f rfl rfl rfl (fun _ => r_assign (f.eval rfl)) fun a f => ?_
     refine q_end fun G_137 w hl_138 m => ?_
     have h0_0 := RSl.mono (RSl.mono (RI.mono _)) _ _ _ _ hl_138 h0_0
     have h_119 := RSl.mono (RI.mono _) _ _ _ _ hl_138 h_119
     have h_122 := RSl.mono (RI.mono _) _ _ _ _ hl_138 h_122
     have h_125 := RSl.mono (RI.mono _) _ _ _ _ hl_138 h_125
     have o_135 := Ow.mono (RSl.mono (RI.mono _)) hl_138 o_135
     refine l_nil ?_
     have m := m.eraseAt 1
     obtain rfl := sj hj_75
     exact ⟨_, rfl, _, v_133, it_134, (GLe.trans hl_108 (GLe.trans hl_87 (GLe.trans hl_94 (GLe.trans hl_99 (GLe.trans hl_115 (GLe.trans hl_118 (GLe.trans hl_121 (GLe.trans hl_124 (GLe.trans hl_129 hl_138))))))))), f.weak ⟨rfl, trivial⟩, m, o_135⟩
    ·intro G_93 w hl_94 m K_95 K_95
     have h0_0 := RSl.mono (RSl.mono (RI.mono _)) _ _ _ _ hl_94 h0_0
     have o_112 := Ow.mono (RI.mono _) hl_94 o_112
     refine l_res f rfl rfl Tryd.call70 (Wk.spec_l1All m  hy_97) fun v_101 G_98 Ho_102 w hl_99 m hQ_100 a f => ?_
     obtain ⟨v_103, it_104, rfl, rfl, o_105⟩ := hQ_100
     have h0_0 := RSl.mono (RSl.mono (RI.mono _)) _ _ _ _ hl_99 h0_0
     have o_112 := Ow.mono (RI.mono _) hl_99 o_112
     refine l_nil ?_
     refine K_95 G_98 [it_104, it_110] _ _ hl_99 m ?_
     refine q_one (i := 1) rfl (by kernel_rfl) rfl fun G_86 w hl_87 m K_88 K_88 => ?_
     have h0_0 := RSl.mono (RSl.mono (RI.mono _)) _ _ _ _ hl_87 h0_0
     have o_105 := Ow.mono (RI.mono _) hl_87 o_105
     have o_112 := Ow.mono (RI.mono _) hl_87 o_112
     refine l_slit (R := (RI .i64)) (xs := ([] : List Int)) (RI.one _) m T36 f rfl rfl rfl (by decide) (All2.nil _) fun it_89 v_90 w a m o_91 f => ?_
     refine l_nil ?_
     refine K_88 G_86 [it_89, it_104, it_110] _ _ (GLe.refl _) m ?_
     refine q_one (i := 6) rfl (by kernel_rfl) rfl fun G_114 w hl_115 m K_116 K_116 => ?_
     have h0_0 := RSl.mono (RSl.mono (RI.mono _)) _ _ _ _ hl_115 h0_0
     have o_91 := Ow.mono (RI.mono _) hl_115 o_91
     have o_105 := Ow.mono (RI.mono _) hl_115 o_105
     have o_112 := Ow.mono (RI.mono _) hl_115 o_112
     obtain ⟨G_117, hl_118, m, h_119⟩ := Ow.stamp (RI.mono _) o_91 m
     have h0_0 := RSl.mono (RSl.mono (RI.mono _)) _ _ _ _ hl_118 h0_0
     have o_105 := Ow.mono (RI.mono _) hl_118 o_105
     have o_112 := Ow.mono (RI.mono _) hl_118 o_112
     obtain ⟨G_120, hl_121, m, h_122⟩ := Ow.stamp (RI.mono _) o_105 m
     have h0_0 := RSl.mono (RSl.mono (RI.mono _)) _ _ _ _ hl_121 h0_0
     have h_119 := RSl.mono (RI.mono _) _ _ _ _ hl_121 h_119
     have o_112 := Ow.mono (RI.mono _) hl_121 o_112
     obtain ⟨G_123, hl_124, m, h_125⟩ := Ow.stamp (RI.mono _) o_112 m
     have h0_0 := RSl.mono (RSl.mono (RI.mono _)) _ _ _ _ hl_124 h0_0
     have h_119 := RSl.mono (RI.mono _) _ _ _ _ hl_124 h_119
     have h_122 := RSl.mono (RI.mono _) _ _ _ _ hl_124 h_122
     refine l_res f rfl rfl Tryd.call69 (Wk.spec_l8Cliques m h0_0 h_119 h_122 h_125 hy_127) fun v_131 G_128 Ho_132 w hl_129 m hQ_130 a f => ?_
     obtain ⟨v_133, it_134, rfl, rfl, o_135⟩ := hQ_130
     have h0_0 := RSl.mono (RSl.mono (RI.mono _)) _ _ _ _ hl_129 h0_0
     have h_119 := RSl.mono (RI.mono _) _ _ _ _ hl_129 h_119
     have h_122 := RSl.mono (RI.mono _) _ _ _ _ hl_129 h_122
     have h_125 := RSl.mono (RI.mono _) _ _ _ _ hl_129 h_125
     refine l_nil ?_
     refine K_116 G_128 [it_134] _ _ (GLe.trans hl_118 (GLe.trans hl_121 (GLe.trans hl_124 hl_129))) m ?_
     refine q_p 7 8 rfl (by kernel_rfl) f rfl rfl rfl (fun _ => r_assign (f.eval rfl)) fun a f => ?_
     refine q_end fun G_137 w hl_138 m => ?_
     have h0_0 := RSl.mono (RSl.mono (RI.mono _)) _ _ _ _ hl_138 h0_0
     have h_119 := RSl.mono (RI.mono _) _ _ _ _ hl_138 h_119
     have h_122 := RSl.mono (RI.mono _) _ _ _ _ hl_138 h_122
     have h_125 := RSl.mono (RI.mono _) _ _ _ _ hl_138 h_125
     have o_135 := Ow.mono (RSl.mono (RI.mono _)) hl_138 o_135
     refine l_nil ?_
     have m := m.eraseAt 1
     obtain rfl := sj hj_75
     exact ⟨_, rfl, _, v_133, it_134, (GLe.trans hl_108 (GLe.trans hl_94 (GLe.trans hl_99 (GLe.trans hl_87 (GLe.trans hl_115 (GLe.trans hl_118 (GLe.trans hl_121 (GLe.trans hl_124 (GLe.trans hl_129 hl_138))))))))), f.weak ⟨rfl, trivial⟩, m, o_135⟩
  ·rintro a w ⟨l_77, rfl, G_76, v_78, it_79, hl_82, f, m, o_80⟩
   refine k_ret ?_
   obtain rfl := sj hd
   exact ⟨[v_78], ⟨f.get _ _ rfl, trivial⟩, f.defers, _, [it_79], (GLe.trans hl_6 hl_82), m, _, _, rfl, rfl, o_80⟩

theorem Wk.laws_likeInts {W w : World} {G : GH} {H : List Itm} {v0 : Value} {v1 : Value} {x0 : (List Int)} {x1 : (List Int)} (m : Mem W G w (H)) (h0 : RSl (RI .i64) G v0 x0) (h1 : RSl (RI .i64) G v1 x1) {y : Bool} (hd : D.laws_likeInts x0 x1 = some y) :
  Calls Tryd.prog 68 #[v0, v1] w (Res W G H (fun _ Ho v => Ho = [] ∧ v = (.bool y))) := by
 refine calls_b (args := [v0, v1]) (N := 26) [.tmp 4] Tryd.func68 rfl rfl (Nat.le_of_ble_eq_true rfl) rfl fun a f => ?_
 unfold D.laws_likeInts at hd
 refine k_seq (k_region ?_)
 refine l_as f rfl rfl fun a f => ?_
 refine l_nil (k_seq (k_seq (k_region ?_)))
 refine l_mv f rfl rfl fun a f => ?_
 refine l_len Tryd.underlying36 f rfl rfl h0 fun a f => ?_
 refine l_mv f rfl rfl fun a f => ?_
 refine l_len Tryd.underlying36 f rfl rfl h1 fun a f => ?_
 refine l_in f rfl rfl rfl b_neq fun a f => ?_
 refine l_nil ?_
 rcases cond_some hd with ⟨hc_1, hd⟩ | ⟨hc_1, hd⟩
 ·refine k_true f rfl hc_1 ?_
  refine k_seq (k_region ?_)
  refine l_as f rfl rfl fun a f => ?_
  refine l_nil ?_
  refine k_ret ?_
  obtain rfl := sj hd
  exact ⟨[(.bool false)], ⟨f.get _ _ rfl, trivial⟩, f.defers, _, [], (GLe.refl _), m, rfl, rfl⟩
 ·refine k_false f rfl hc_1 ?_
  refine k_skip ?_
  refine k_seq (k_seq (k_region ?_))
  refine l_as f rfl rfl fun a f => ?_
  refine l_nil ?_
  obtain ⟨q_36, hl_37, hd⟩ := bind_some hd
  refine k_cut (fun a w => ∃ q_36' : Unit, q_36 = .inl q_36' ∧ ∃ (G_61 : GH), GLe G G_61 ∧ Fr a 26 [] ∧ Mem W G_61 w (H)) ?_ ?_
  ·refine k_block ?_
   refine k_loop (fun s_40 a w => ∃ x_43 : Int, x_43 = s_40 ∧ ∃ (G_42 : GH), GLe G G_42 ∧ Fr a 26 [(0, v0), (1, v1), (5, (.int .i64 x_43))] ∧ Mem W G_42 w (H)) hl_37 ⟨_, rfl, _, (GLe.refl _), f.weak ⟨rfl, rfl, rfl, trivial⟩, m⟩ ?_
   clear hl_37 f m
   rintro s_40 o_41 hs_38 hq_39 a w ⟨x_43, rfl, G_42, hl_44, f, m⟩
   have h0 := RSl.mono (RI.mono _) _ _ _ _ hl_44 h0
   have h1 := RSl.mono (RI.mono _) _ _ _ _ hl_44 h1
   refine k_seq (k_seq (k_region ?_))
   refine l_mv f rfl rfl fun a f => ?_
   refine l_mv f rfl rfl fun a f => ?_
   refine l_len Tryd.underlying36 f rfl rfl h0 fun a f => ?_
   refine l_in f rfl rfl rfl b_lss fun a f => ?_
   refine l_nil ?_
   rcases cond_some hs_38 with ⟨hc_63, hs_38⟩ | ⟨hc_63, hs_38⟩
   ·refine k_true f rfl hc_63 ?_
    refine k_skip ?_
    refine k_seq (k_block (k_seq ?_))
    refine k_draw 9 Follows (by kernel_rfl) m ?_
    refine q_mv 0 9 rfl (by kernel_rfl) f rfl rfl rfl fun a f => ?_
    refine q_mv 1 9 rfl (by kernel_rfl) f rfl rfl rfl fun a f => ?_
    obtain ⟨e_64, he_65, hs_38⟩ := bind_some hs_38
    refine q_at (i := 2) 9 T36 h0 he_65 rfl (by kernel_rfl) rfl f rfl rfl rfl rfl fun p_66 c_67 a g_68 h_69 f => ?_
    subst h_69
    refine q_loadAt (i := 3) 9 Pl2 g_68 rfl (by kernel_rfl) rfl f rfl rfl rfl fun a f => ?_
    refine q_mv 4 9 rfl (by kernel_rfl) f rfl rfl rfl fun a f => ?_
    refine q_mv 5 9 rfl (by kernel_rfl) f rfl rfl rfl fun a f => ?_
    obtain ⟨e_70, he_71, hs_38⟩ := bind_some hs_38
    refine q_at (i := 6) 9 T36 h1 he_71 rfl (by kernel_rfl) rfl f rfl rfl rfl rfl fun p_72 c_73 a g_74 h_75 f => ?_
    subst h_75
    refine q_loadAt (i := 7) 9 Pl2 g_74 rfl (by kernel_rfl) rfl f rfl rfl rfl fun a f => ?_
    refine q_p 8 9 rfl (by kernel_rfl) f rfl rfl rfl (fun _ => r_int (f.eval rfl) (f.eval rfl) b_neq) fun a f => ?_
    refine q_end fun G_76 w hl_77 m => ?_
    have h0 := RSl.mono (RI.mono _) _ _ _ _ hl_77 h0
    have h1 := RSl.mono (RI.mono _) _ _ _ _ hl_77 h1
    have g_68 := At.mono hl_77 g_68
    have g_74 := At.mono hl_77 g_74
    refine l_nil ?_
    rcases cond_some hs_38 with ⟨hc_78, hs_38⟩ | ⟨hc_78, hs_38⟩
    ·refine k_true f rfl hc_78 ?_
     refine k_seq (k_region ?_)
     refine l_as f rfl rfl fun a f => ?_
     refine l_nil ?_
     refine k_ret ?_
     obtain rfl := sj hs_38
     obtain rfl := hq_39 _ rfl
     obtain rfl := sj hd
     exact ⟨[(.bool false)], ⟨f.get _ _ rfl, trivial⟩, f.defers, _, [], (GLe.trans hl_44 hl_77), m, rfl, rfl⟩
    ·refine k_false f rfl hc_78 ?_
     refine k_skip ?_
     refine k_region ?_
     refine l_mv f rfl rfl fun a f => ?_
     refine l_in f rfl rfl rfl b_add fun a f => ?_
     refine l_as f rfl rfl fun a f => ?_
     refine l_nil ?_
     obtain rfl := sj hs_38
     exact ⟨_, rfl, _, rfl, _, (GLe.trans hl_44 hl_77), f.weak ⟨rfl, rfl, rfl, trivial⟩, m⟩
   ·refine k_false f rfl hc_63 ?_
    refine k_exit rfl ?_
    obtain rfl := sj hs_38
    obtain rfl := hq_39 _ rfl
    exact ⟨_, rfl, _, hl_44, f.weak trivial, m⟩
  ·rintro a w ⟨_, rfl, G_61, hl_62, f, m⟩
   refine k_seq (k_region ?_)
   refine l_as f rfl rfl fun a f => ?_
   refine l_nil ?_
   refine k_ret ?_
   obtain rfl := sj hd
   exact ⟨[(.bool true)], ⟨f.get _ _ rfl, trivial⟩, f.defers, _, [], hl_62, m, rfl, rfl⟩

theorem Wk.laws_w5Lists {W w : World} {G : GH} {H : List Itm} {v0 : Value} {v1 : Value} {x0 : (List (List Int))} {x1 : (List (List Int))} (m : Mem W G w (H)) (h0 : RSl (RSl (RI .i64)) G v0 x0) (h1 : RSl (RSl (RI .i64)) G v1 x1) {y : Bool} (hd : D.laws_w5Lists x0 x1 = some y) :
  Calls Tryd.prog 28 #[v0, v1] w (Res W G H (fun _ Ho v => Ho = [] ∧ v = (.bool y))) := by
 refine calls_b (args := [v0, v1]) (N := 27) [.tmp 4] Tryd.func28 rfl rfl (Nat.le_of_ble_eq_true rfl) rfl fun a f => ?_
 unfold D.laws_w5Lists at hd
 refine k_seq (k_region ?_)
 refine l_as f rfl rfl fun a f => ?_
 refine l_nil (k_seq (k_seq (k_region ?_)))
 refine l_mv f rfl rfl fun a f => ?_
 refine l_len Tryd.underlying22 f rfl rfl h0 fun a f => ?_
 refine l_mv f rfl rfl fun a f => ?_
 refine l_len Tryd.underlying22 f rfl rfl h1 fun a f => ?_
 refine l_in f rfl rfl rfl b_neq fun a f => ?_
 refine l_nil ?_
 rcases cond_some hd with ⟨hc_1, hd⟩ | ⟨hc_1, hd⟩
 ·refine k_true f rfl hc_1 ?_
  refine k_seq (k_region ?_)
  refine l_as f rfl rfl fun a f => ?_
  refine l_nil ?_
  refine k_ret ?_
  obtain rfl := sj hd
  exact ⟨[(.bool false)], ⟨f.get _ _ rfl, trivial⟩, f.defers, _, [], (GLe.refl _), m, rfl, rfl⟩
 ·refine k_false f rfl hc_1 ?_
  refine k_skip ?_
  refine k_seq (k_seq (k_region ?_))
  refine l_as f rfl rfl fun a f => ?_
  refine l_nil ?_
  obtain ⟨q_42, hl_43, hd⟩ := bind_some hd
  refine k_cut (fun a w => ∃ q_42' : Unit, q_42 = .inl q_42' ∧ ∃ (G_70 : GH), GLe G G_70 ∧ Fr a 27 [] ∧ Mem W G_70 w (H)) ?_ ?_
  ·refine k_block ?_
   refine k_loop (fun s_46 a w => ∃ x_49 : Int, x_49 = s_46 ∧ ∃ (G_48 : GH), GLe G G_48 ∧ Fr a 27 [(0, v0), (1, v1), (5, (.int .i64 x_49))] ∧ Mem W G_48 w (H)) hl_43 ⟨_, rfl, _, (GLe.refl _), f.weak ⟨rfl, rfl, rfl, trivial⟩, m⟩ ?_
   clear hl_43 f m
   rintro s_46 o_47 hs_44 hq_45 a w ⟨x_49, rfl, G_48, hl_50, f, m⟩
   have h0 := RSl.mono (RSl.mono (RI.mono _)) _ _ _ _ hl_50 h0
   have h1 := RSl.mono (RSl.mono (RI.mono _)) _ _ _ _ hl_50 h1
   refine k_seq (k_seq (k_region ?_))
   refine l_mv f rfl rfl fun a f => ?_
   refine l_mv f rfl rfl fun a f => ?_
   refine l_len Tryd.underlying22 f rfl rfl h0 fun a f => ?_
   refine l_in f rfl rfl rfl b_lss fun a f => ?_
   refine l_nil ?_
   rcases cond_some hs_44 with ⟨hc_72, hs_44⟩ | ⟨hc_72, hs_44⟩
   ·refine k_true f rfl hc_72 ?_
    refine k_skip ?_
    refine k_seq (k_block (k_seq ?_))
    refine k_draw 10 Follows (by kernel_rfl) m ?_
    refine q_mv 0 10 rfl (by kernel_rfl) f rfl rfl rfl fun a f => ?_
    refine q_mv 1 10 rfl (by kernel_rfl) f rfl rfl rfl fun a f => ?_
    obtain ⟨e_73, he_74, hs_44⟩ := bind_some hs_44
    refine q_at (i := 2) 10 T22 h0 he_74 rfl (by kernel_rfl) rfl f rfl rfl rfl rfl fun p_75 c_76 a g_77 h_78 f => ?_
    refine q_loadAt (i := 3) 10 Pl36 g_77 rfl (by kernel_rfl) rfl f rfl rfl rfl fun a f => ?_
    refine q_mv 4 10 rfl (by kernel_rfl) f rfl rfl rfl fun a f => ?_
    refine q_mv 5 10 rfl (by kernel_rfl) f rfl rfl rfl fun a f => ?_
    obtain ⟨e_79, he_80, hs_44⟩ := bind_some hs_44
    refine q_at (i := 6) 10 T22 h1 he_80 rfl (by kernel_rfl) rfl f rfl rfl rfl rfl fun p_81 c_82 a g_83 h_84 f => ?_
    refine q_loadAt (i := 7) 10 Pl36 g_83 rfl (by kernel_rfl) rfl f rfl rfl rfl fun a f => ?_
    obtain ⟨y_85, hy_86, hs_44⟩ := bind_some hs_44
    refine q_call (i := 8) 10 rfl (by kernel_rfl) rfl f rfl rfl rfl Tryd.call68 (fun _ _ w hG_87 m => Wk.laws_likeInts m (RSl.mono (RI.mono _) _ _ _ _ hG_87 h_78) (RSl.mono (RI.mono _) _ _ _ _ hG_87 h_84) hy_86) fun a f => ?_
    refine q_p 9 10 rfl (by kernel_rfl) f rfl rfl rfl (fun _ => r_not (f.eval rfl)) fun a f => ?_
    refine q_end fun G_88 w hl_89 m => ?_
    have h0 := RSl.mono (RSl.mono (RI.mono _)) _ _ _ _ hl_89 h0
    have h1 := RSl.mono (RSl.mono (RI.mono _)) _ _ _ _ hl_89 h1
    have g_77 := At.mono hl_89 g_77
    have h_78 := RSl.mono (RI.mono _) _ _ _ _ hl_89 h_78
    have g_83 := At.mono hl_89 g_83
    have h_84 := RSl.mono (RI.mono _) _ _ _ _ hl_89 h_84
    refine l_nil ?_
    rcases cond_some hs_44 with ⟨hc_90, hs_44⟩ | ⟨hc_90, hs_44⟩
    ·refine k_true f rfl hc_90 ?_
     refine k_seq (k_region ?_)
     refine l_as f rfl rfl fun a f => ?_
     refine l_nil ?_
     refine k_ret ?_
     obtain rfl := sj hs_44
     obtain rfl := hq_45 _ rfl
     obtain rfl := sj hd
     exact ⟨[(.bool false)], ⟨f.get _ _ rfl, trivial⟩, f.defers, _, [], (GLe.trans hl_50 hl_89), m, rfl, rfl⟩
    ·refine k_false f rfl hc_90 ?_
     refine k_skip ?_
     refine k_region ?_
     refine l_mv f rfl rfl fun a f => ?_
     refine l_in f rfl rfl rfl b_add fun a f => ?_
     refine l_as f rfl rfl fun a f => ?_
     refine l_nil ?_
     obtain rfl := sj hs_44
     exact ⟨_, rfl, _, rfl, _, (GLe.trans hl_50 hl_89), f.weak ⟨rfl, rfl, rfl, trivial⟩, m⟩
   ·refine k_false f rfl hc_72 ?_
    refine k_exit rfl ?_
    obtain rfl := sj hs_44
    obtain rfl := hq_45 _ rfl
    exact ⟨_, rfl, _, hl_50, f.weak trivial, m⟩
  ·rintro a w ⟨_, rfl, G_70, hl_71, f, m⟩
   refine k_seq (k_region ?_)
   refine l_as f rfl rfl fun a f => ?_
   refine l_nil ?_
   refine k_ret ?_
   obtain rfl := sj hd
   exact ⟨[(.bool true)], ⟨f.get _ _ rfl, trivial⟩, f.defers, _, [], hl_71, m, rfl, rfl⟩

theorem Wk.impl_missing {W w : World} {G : GH} {H : List Itm} {v0 : Value} {x0 : (List Int)} {x1 : Int} (hW : TabW W) (m : Mem W G w (H)) (h0 : RSl (RI .u32) G v0 x0) {y : Int} (hd : D.impl_missing x0 x1 = some y) :
  Calls Tryd.prog 71 #[v0, (.int .u32 x1)] w (Res W G H (fun _ Ho v => Ho = [] ∧ v = (.int .i64 y))) := by
 refine calls_b (args := [v0, (.int .u32 x1)]) (N := 30) [.tmp 4] Tryd.func71 rfl rfl (Nat.le_of_ble_eq_true rfl) rfl fun a f => ?_
 unfold D.impl_missing at hd
 refine k_seq (k_region ?_)
 refine l_as f rfl rfl fun a f => ?_
 refine l_nil (k_seq (k_region ?_))
 refine l_as f rfl rfl fun a f => ?_
 refine l_nil (k_seq (k_seq (k_region ?_)))
 refine l_mv f rfl rfl fun a f => ?_
 obtain ⟨y_1, hy_2, hd⟩ := bind_some hd
 refine l_res f rfl rfl Tryd.call103 (Wk.impl_vset_list hW m  hy_2) fun v_6 G_3 Ho_7 w hl_4 m hQ_5 a f => ?_
 obtain ⟨v_8, it_9, rfl, rfl, o_10⟩ := hQ_5
 have h0 := RSl.mono (RI.mono _) _ _ _ _ hl_4 h0
 refine l_own_len 0 m o_10 rfl Tryd.underlying74 f rfl rfl fun a f => ?_
 refine l_mv f rfl rfl fun a f => ?_
 refine l_nil ?_
 obtain ⟨q_57, hl_58, hd⟩ := bind_some hd
 refine k_cut (fun a w => ∃ x_89 : Int, x_89 = q_57 ∧ ∃ (G_88 : GH), GLe G_3 G_88 ∧ Fr a 30 [(5, (.int .i64 x_89))] ∧ Mem W G_88 w (H)) ?_ ?_
 ·refine k_block ?_
  refine k_loop (fun s_61 a w => ∃ x_64 : Int, ∃ x_65 : Int, (x_64, x_65) = s_61 ∧ ∃ (G_63 : GH), GLe G_3 G_63 ∧ Fr a 30 [(0, v0), (1, (.int .u32 x1)), (5, (.int .i64 x_64)), (9, v_8), (10, (.int .i64 (y_1.length : Int))), (11, (.int .i64 x_65))] ∧ Mem W G_63 w (it_9 :: H)) hl_58 ⟨_, _, rfl, _, (GLe.refl _), f.weak ⟨rfl, rfl, rfl, rfl, rfl, rfl, trivial⟩, m⟩ ?_
  clear hl_58 f m
  rintro s_61 o_62 hs_59 hq_60 a w ⟨x_64, x_65, rfl, G_63, hl_66, f, m⟩
  have h0 := RSl.mono (RI.mono _) _ _ _ _ hl_66 h0
  have o_10 := Ow.mono (RI.mono _) hl_66 o_10
  refine k_seq (k_region ?_)
  refine l_in f rfl rfl rfl b_lss fun a f => ?_
  refine l_nil (k_seq ?_)
  rcases cond_some hs_59 with ⟨hc_91, hs_59⟩ | ⟨hc_91, hs_59⟩
  ·refine k_true f rfl hc_91 ?_
   refine k_skip ?_
   refine k_seq (k_block (k_seq (k_region ?_)))
   obtain ⟨e_92, he_93, hs_59⟩ := bind_some hs_59
   refine l_own_at 0 m o_10 rfl T74 f rfl rfl rfl he_93 fun p_94 a ha_95 f => ?_
   refine l_own_load 0 m o_10 rfl Pl3 f rfl rfl ha_95 he_93 fun c_96 a h_97 f => ?_
   subst h_97
   refine l_as f rfl rfl fun a f => ?_
   refine l_nil ?_
   refine k_draw 13 Follows (by kernel_rfl) m ?_
   refine q_mv 0 13 rfl (by kernel_rfl) f rfl rfl rfl fun a f => ?_
   refine q_mv 1 13 rfl (by kernel_rfl) f rfl rfl rfl fun a f => ?_
   refine q_mv 2 13 rfl (by kernel_rfl) f rfl rfl rfl fun a f => ?_
   refine q_mv 3 13 rfl (by kernel_rfl) f rfl rfl rfl fun a f => ?_
   obtain ⟨e_98, he_99, hs_59⟩ := bind_some hs_59
   refine q_at (i := 4) 13 T54 h0 he_99 rfl (by kernel_rfl) rfl f rfl rfl rfl rfl fun p_100 c_101 a g_102 h_103 f => ?_
   subst h_103
   refine q_loadAt (i := 5) 13 Pl59 g_102 rfl (by kernel_rfl) rfl f rfl rfl rfl fun a f => ?_
   refine q_p 6 13 rfl (by kernel_rfl) f rfl rfl rfl (fun _ => r_int (f.eval rfl) (f.eval rfl) b_andNot) fun a f => ?_
   refine q_mv 7 13 rfl (by kernel_rfl) f rfl rfl rfl fun a f => ?_
   obtain ⟨y_104, hy_105, hs_59⟩ := bind_some hs_59
   refine q_call (i := 8) 13 rfl (by kernel_rfl) rfl f rfl rfl rfl Tryd.call82 (fun _ _ w hG_106 m => Wk.impl_one m  hy_105) fun a f => ?_
   refine q_p 9 13 rfl (by kernel_rfl) f rfl rfl rfl (fun _ => r_int (f.eval rfl) (f.eval rfl) b_andNot) fun a f => ?_
   obtain ⟨y_107, hy_108, hs_59⟩ := bind_some hs_59
   refine q_call (i := 10) 13 rfl (by kernel_rfl) rfl f rfl rfl rfl Tryd.call85 (fun _ _ w hG_109 m => Wk.impl_vset_size m  hy_108) fun a f => ?_
   refine q_p 11 13 rfl (by kernel_rfl) f rfl rfl rfl (fun _ => r_int (f.eval rfl) (f.eval rfl) b_add) fun a f => ?_
   refine q_p 12 13 rfl (by kernel_rfl) f rfl rfl rfl (fun _ => r_assign (f.eval rfl)) fun a f => ?_
   refine q_end fun G_110 w hl_111 m => ?_
   have h0 := RSl.mono (RI.mono _) _ _ _ _ hl_111 h0
   have g_102 := At.mono hl_111 g_102
   have o_10 := Ow.mono (RI.mono _) hl_111 o_10
   refine l_nil (k_region ?_)
   refine l_in f rfl rfl rfl b_add fun a f => ?_
   refine l_mv f rfl rfl fun a f => ?_
   refine l_nil ?_
   obtain rfl := sj hs_59
   exact ⟨_, rfl, _, _, rfl, _, (GLe.trans hl_66 hl_111), f.weak ⟨rfl, rfl, rfl, rfl, rfl, rfl, trivial⟩, m⟩
  ·refine k_false f rfl hc_91 ?_
   refine k_exit rfl ?_
   have m : Mem W G_63 w H := Mem.drop (H' := [it_9]) m
   obtain rfl := sj hs_59
   obtain rfl := hq_60 _ rfl
   exact ⟨_, rfl, _, hl_66, f.weak ⟨rfl, trivial⟩, m⟩
 ·rintro a w ⟨x_89, rfl, G_88, hl_90, f, m⟩
  refine k_seq (k_region ?_)
  refine l_mv f rfl rfl fun a f => ?_
  refine l_in f rfl rfl rfl (b_quo rfl) fun a f => ?_
  refine l_as f rfl rfl fun a f => ?_
  refine l_nil ?_
  refine k_ret ?_
  obtain rfl := sj hd
  exact ⟨[(.int .i64 (IntKind.i64.wrap (Int.tdiv x_89 2)))], ⟨f.get _ _ rfl, trivial⟩, f.defers, _, [], (GLe.trans hl_4 hl_90), m, rfl, rfl⟩

theorem Wk.impl_CliqueOk {W w : World} {G : GH} {H : List Itm} {v0_0 : Value} {v1 : Value} {x0_0 : (List (List Int))} {x1 : (List Int)} (hW : TabW W) (m : Mem W G w (H)) (h0_0 : RSl (RSl (RI .i64)) G v0_0 x0_0) (h1 : RSl (RI .i64) G v1 x1) {y : Bool} (hd : D.impl_CliqueOk x0_0 x1 = some y) :
  Calls Tryd.prog 30 #[(.agg #[v0_0]), v1] w (Res W G H (fun _ Ho v => Ho = [] ∧ v = (.bool y))) := by
 refine calls_b (args := [(.agg #[v0_0]), v1]) (N := 16) [.tmp 4] Tryd.func30 rfl rfl (Nat.le_of_ble_eq_true rfl) rfl fun a f => ?_
 unfold D.impl_CliqueOk at hd
 refine k_seq (k_region ?_)
 refine l_box (cs := [v0_0]) m f rfl rfl rfl fun b_2 w a m f => ?_
 refine l_as f rfl rfl fun a f => ?_
 refine l_nil (k_seq (k_region ?_))
 refine l_boxAgg 0 0 (ds := [v0_0]) m Ag27 f rfl rfl rfl rfl rfl fun a f => ?_
 refine l_mv f rfl rfl fun a f => ?_
 obtain ⟨y_3, hy_4, hd⟩ := bind_some hd
 refine l_res f rfl rfl Tryd.call21 (Wk.impl_SetOk m h0_0 h1 hy_4) fun v_8 G_5 Ho_9 w hl_6 m hQ_7 a f => ?_
 obtain ⟨rfl, rfl⟩ := hQ_7
 have h0_0 := RSl.mono (RSl.mono (RI.mono _)) _ _ _ _ hl_6 h0_0
 have h1 := RSl.mono (RI.mono _) _ _ _ _ hl_6 h1
 refine l_mv f rfl rfl fun a f => ?_
 obtain ⟨b_69, hj_70, hd⟩ := bind_some hd
 refine l_cut 7 (fun a w => ∃ G_67, GLe G_5 G_67 ∧ Mem W G_67 w (Itm.box b_2 27 [v0_0] :: H) ∧ Fr a 16 [(0, (.agg #[v0_0])), (1, v1), (2, (.pointer (some ⟨b_2, 0, none⟩))), (5, (.agg #[v0_0])), (6, v1), (7, (.bool y_3)), (8, (.bool y_3)), (15, (.bool b_69))]) ?_ ?_
 ·rcases cond_some hj_70 with ⟨hc_10, hj_70⟩ | ⟨hc_10, hj_70⟩
  ·refine l_run f rfl rfl hc_10 ?_
   refine l_boxAgg 0 0 (ds := [v0_0]) m Ag27 f rfl rfl rfl rfl rfl fun a f => ?_
   refine l_run f rfl rfl hc_10 ?_
   obtain ⟨y_71, hy_72, hj_70⟩ := bind_some hj_70
   refine l_res f rfl rfl Tryd.call43 (Wk.impl_netsOf m h0_0 hy_72) fun v_76 G_73 Ho_77 w hl_74 m hQ_75 a f => ?_
   obtain ⟨v_78, it_79, rfl, rfl, o_80⟩ := hQ_75
   have h0_0 := RSl.mono (RSl.mono (RI.mono _)) _ _ _ _ hl_74 h0_0
   have h1 := RSl.mono (RI.mono _) _ _ _ _ hl_74 h1
   refine l_run f rfl rfl hc_10 ?_
   refine l_mv f rfl rfl fun a f => ?_
   refine l_run f rfl rfl hc_10 ?_
   obtain ⟨y_82, hy_83, hj_70⟩ := bind_some hj_70
   refine l_res f rfl rfl Tryd.call72 (Wk.impl_maskOf m h1 hy_83) fun v_87 G_84 Ho_88 w hl_85 m hQ_86 a f => ?_
   obtain ⟨rfl, rfl⟩ := hQ_86
   have h0_0 := RSl.mono (RSl.mono (RI.mono _)) _ _ _ _ hl_85 h0_0
   have h1 := RSl.mono (RI.mono _) _ _ _ _ hl_85 h1
   have o_80 := Ow.mono (RI.mono _) hl_85 o_80
   refine l_run f rfl rfl hc_10 ?_
   obtain ⟨y_89, hy_90, hj_70⟩ := bind_some hj_70
   refine l_res f rfl rfl Tryd.call71 (Ow.lendCall (RI.mono _) 0 o_80 m rfl (fun G_91 hl_92 m h_93 => Wk.impl_missing hW m h_93 hy_90) (fun _ _ _ _ h => h)) fun v_97 G_94 Ho_98 w hl_95 m hQ_96 a f => ?_
   obtain ⟨rfl, rfl⟩ := hQ_96
   have h0_0 := RSl.mono (RSl.mono (RI.mono _)) _ _ _ _ hl_95 h0_0
   have h1 := RSl.mono (RI.mono _) _ _ _ _ hl_95 h1
   have o_80 := Ow.mono (RI.mono _) hl_95 o_80
   refine l_run f rfl rfl hc_10 ?_
   refine l_in f rfl rfl rfl b_eql fun a f => ?_
   refine l_op f rfl rfl rfl (r_pickT (f.eval rfl) hc_10 (f.eval rfl)) fun a f => ?_
   obtain rfl := sj hj_70
   have m := m.front 1 rfl
   have m := m.eraseAt 1
   exact ⟨_, (GLe.trans hl_74 (GLe.trans hl_85 hl_95)), m, f.weak ⟨rfl, rfl, rfl, rfl, rfl, rfl, rfl, rfl, trivial⟩⟩
  ·refine l_not' f rfl rfl rfl hc_10 fun a f => ?_
   refine l_not' f rfl rfl rfl hc_10 fun a f => ?_
   refine l_not' f rfl rfl rfl hc_10 fun a f => ?_
   refine l_not' f rfl rfl rfl hc_10 fun a f => ?_
   refine l_not' f rfl rfl rfl hc_10 fun a f => ?_
   refine l_not' f rfl rfl rfl hc_10 fun a f => ?_
   refine l_op f rfl rfl rfl (r_pickF (f.eval rfl) hc_10 (f.eval rfl)) fun a f => ?_
   obtain rfl := sj hj_70
   exact ⟨_, (GLe.refl _), m, f.weak ⟨rfl, rfl, rfl, rfl, rfl, rfl, rfl, rfl, trivial⟩⟩
 ·rintro a w ⟨G_67, hl_68, m, f⟩
  have h0_0 := RSl.mono (RSl.mono (RI.mono _)) _ _ _ _ hl_68 h0_0
  have h1 := RSl.mono (RI.mono _) _ _ _ _ hl_68 h1
  refine l_as f rfl rfl fun a f => ?_
  refine l_nil ?_
  refine k_ret ?_
  have m : Mem W G_67 w H := Mem.drop (H' := [Itm.box b_2 27 [v0_0]]) m
  obtain rfl := sj hd
  exact ⟨[(.bool b_69)], ⟨f.get _ _ rfl, trivial⟩, f.defers, _, [], (GLe.trans hl_6 hl_68), m, rfl, rfl⟩

theorem Wk.laws_w5Both {W w : World} {G : GH} {H : List Itm} {v0 : Value} {v1 : Value} {x0 : (List Int)} {x1 : (List Int)} (m : Mem W G w (H)) (h0 : RSl (RI .i64) G v0 x0) (h1 : RSl (RI .i64) G v1 x1) {y : ((List Int))} (hd : D.laws_w5Both x0 x1 = some y) :
  Calls Tryd.prog 31 #[v0, v1] w (Res W G H (fun G' Ho v => ∃ r0 : Value, ∃ i0 : Itm, Ho = [i0] ∧ r0 = v ∧ Ow (RI .i64) 2 G' i0 r0 y)) := by
 refine calls_b (args := [v0, v1]) (N := 56) [.tmp 4] Tryd.func31 rfl rfl (Nat.le_of_ble_eq_true rfl) rfl fun a f => ?_
 unfold D.laws_w5Both at hd
 refine k_seq (k_region ?_)
 refine l_as f rfl rfl fun a f => ?_
 refine l_nil (k_seq (k_region ?_))
 refine l_slit (R := (RI .i64)) (xs := ([] : List Int)) (RI.one _) m T36 f rfl rfl rfl (by decide) (All2.nil _) fun it_1 v_2 w a m o_3 f => ?_
 refine l_as f rfl rfl fun a f => ?_
 refine l_nil (k_seq (k_seq (k_region ?_)))
 refine l_as f rfl rfl fun a f => ?_
 refine l_nil ?_
 obtain ⟨q_922, hl_923, hd⟩ := bind_some hd
 refine k_cut (fun a w => ∃ l_1392 : List Int, l_1392 = q_922 ∧ ∃ (G_1391 : GH) (v_1393 : Value) (it_1394 : Itm), GLe G G_1391 ∧ Fr a 56 [(5, v_1393)] ∧ Mem W G_1391 w (it_1394 :: H) ∧ Ow (RI .i64) 2 G_1391 it_1394 v_1393 l_1392) ?_ ?_
 ·refine k_block ?_
  refine k_loop (fun s_926 a w => ∃ l_929 : List Int, ∃ x_934 : Int, (l_929, x_934) = s_926 ∧ ∃ (G_928 : GH) (v_930 : Value) (it_931 : Itm), GLe G G_928 ∧ Fr a 56 [(0, v0), (1, v1), (5, v_930), (6, (.int .i64 x_934))] ∧ Mem W G_928 w (it_931 :: H) ∧ Ow (RI .i64) 2 G_928 it_931 v_930 l_929) hl_923 ⟨_, _, rfl, _, v_2, it_1, (GLe.refl _), f.weak ⟨rfl, rfl, rfl, rfl, trivial⟩, m, o_3⟩ ?_
  clear hl_923 f m
  rintro s_926 o_927 hs_924 hq_925 a w ⟨l_929, x_934, rfl, G_928, v_930, it_931, hl_935, f, m, o_932⟩
  have h0 := RSl.mono (RI.mono _) _ _ _ _ hl_935 h0
  have h1 := RSl.mono (RI.mono _) _ _ _ _ hl_935 h1
  refine k_seq (k_seq (k_region ?_))
  refine l_mv f rfl rfl fun a f => ?_
  refine l_in f rfl rfl rfl b_lss fun a f => ?_
  refine l_nil ?_
  rcases cond_some hs_924 with ⟨hc_1398, hs_924⟩ | ⟨hc_1398, hs_924⟩
  ·refine k_true f rfl hc_1398 ?_
   refine k_skip ?_
   refine k_seq (k_block (k_seq (k_region ?_)))
   refine l_as f rfl rfl fun a f => ?_
   refine l_nil ?_
   obtain ⟨q_1619, hl_1620, hs_924⟩ := bind_some hs_924
   refine k_cut (fun a w => ∃ l_1738 : List Int, l_1738 = q_1619 ∧ ∃ (G_1737 : GH) (v_1739 : Value) (it_1740 : Itm), GLe G_928 G_1737 ∧ Fr a 56 [(0, v0), (1, v1), (5, v_1739), (6, (.int .i64 x_934))] ∧ Mem W G_1737 w (it_1740 :: H) ∧ Ow (RI .i64) 2 G_1737 it_1740 v_1739 l_1738) ?_ ?_
   ·refine k_block ?_
    refine k_loop (fun s_1623 a w => ∃ x_1626 : Int, x_1626 = s_1623 ∧ ∃ (G_1625 : GH), GLe G_928 G_1625 ∧ Fr a 56 [(0, v0), (1, v1), (5, v_930), (6, (.int .i64 x_934)), (7, (.int .i64 x_1626))] ∧ Mem W G_1625 w (it_931 :: H)) hl_1620 ⟨_, rfl, _, (GLe.refl _), f.weak ⟨rfl, rfl, rfl, rfl, rfl, trivial⟩, m⟩ ?_
    clear hl_1620 f m
    rintro s_1623 o_1624 hs_1621 hq_1622 a w ⟨x_1626, rfl, G_1625, hl_1627, f, m⟩
    have h0 := RSl.mono (RI.mono _) _ _ _ _ hl_1627 h0
    have h1 := RSl.mono (RI.mono _) _ _ _ _ hl_1627 h1
    have o_932 := Ow.mono (RI.mono _) hl_1627 o_932
    refine k_seq (k_seq (k_region ?_))
    refine l_mv f rfl rfl fun a f => ?_
    refine l_mv f rfl rfl fun a f => ?_
    refine l_len Tryd.underlying36 f rfl rfl h0 fun a f => ?_
    refine l_mv f rfl rfl fun a f => ?_
    refine l_len Tryd.underlying36 f rfl rfl h1 fun a f => ?_
    refine l_in f rfl rfl rfl b_add fun a f => ?_
    refine l_in f rfl rfl rfl b_lss fun a f => ?_
    refine l_nil ?_
    rcases cond_some hs_1621 with ⟨hc_1744, hs_1621⟩ | ⟨hc_1744, hs_1621⟩
    ·refine k_true f rfl hc_1744 ?_
     refine k_skip ?_
     refine k_seq (k_block (k_seq (k_region ?_)))
     refine l_mv f rfl rfl fun a f => ?_
     refine l_mv f rfl rfl fun a f => ?_
     refine l_len Tryd.underlying36 f rfl rfl h0 fun a f => ?_
     refine l_in f rfl rfl rfl b_lss fun a f => ?_
     refine l_mv f rfl rfl fun a f => ?_
     obtain ⟨b_1760, hj_1761, hs_1621⟩ := bind_some hs_1621
     refine l_cut 7 (fun a w => ∃ G_1758, GLe G_1625 G_1758 ∧ Mem W G_1758 w (it_931 :: H) ∧ Fr a 56 [(0, v0), (1, v1), (5, v_930), (6, (.int .i64 x_934)), (7, (.int .i64 x_1626)), (19, (.bool (decide (x_1626 < (IntKind.i64.wrap ((x0.length : Int) + (x1.length : Int))))))), (22, (.int .i64 x_1626)), (23, v0), (24, (.int .i64 (x0.length : Int))), (25, (.bool (decide (x_1626 < (x0.length : Int))))), (26, (.bool (decide (x_1626 < (x0.length : Int))))), (33, (.bool b_1760))]) ?_ ?_
     ·rcases cond_some hj_1761 with ⟨hc_1745, hj_1761⟩ | ⟨hc_1745, hj_1761⟩
      ·refine l_run f rfl rfl hc_1745 ?_
       refine l_mv f rfl rfl fun a f => ?_
       refine l_run f rfl rfl hc_1745 ?_
       refine l_mv f rfl rfl fun a f => ?_
       refine l_run f rfl rfl hc_1745 ?_
       obtain ⟨e_1762, he_1763, hj_1761⟩ := bind_some hj_1761
       refine l_at T36 f rfl rfl rfl h0 he_1763 fun p_1764 c_1765 a g_1766 h_1767 f => ?_
       subst h_1767
       refine l_run f rfl rfl hc_1745 ?_
       refine l_loadAt m Pl2 f rfl rfl g_1766 fun a f => ?_
       refine l_run f rfl rfl hc_1745 ?_
       refine l_mv f rfl rfl fun a f => ?_
       refine l_run f rfl rfl hc_1745 ?_
       refine l_in f rfl rfl rfl b_eql fun a f => ?_
       refine l_op f rfl rfl rfl (r_pickT (f.eval rfl) hc_1745 (f.eval rfl)) fun a f => ?_
       obtain rfl := sj hj_1761
       exact ⟨_, (GLe.refl _), m, f.weak ⟨rfl, rfl, rfl, rfl, rfl, rfl, rfl, rfl, rfl, rfl, rfl, rfl, trivial⟩⟩
      ·refine l_not' f rfl rfl rfl hc_1745 fun a f => ?_
       refine l_not' f rfl rfl rfl hc_1745 fun a f => ?_
       refine l_not' f rfl rfl rfl hc_1745 fun a f => ?_
       refine l_not' f rfl rfl rfl hc_1745 fun a f => ?_
       refine l_not' f rfl rfl rfl hc_1745 fun a f => ?_
       refine l_not' f rfl rfl rfl hc_1745 fun a f => ?_
       refine l_op f rfl rfl rfl (r_pickF (f.eval rfl) hc_1745 (f.eval rfl)) fun a f => ?_
       obtain rfl := sj hj_1761
       exact ⟨_, (GLe.refl _), m, f.weak ⟨rfl, rfl, rfl, rfl, rfl, rfl, rfl, rfl, rfl, rfl, rfl, rfl, trivial⟩⟩
     ·rintro a w ⟨G_1758, hl_1759, m, f⟩
      have h0 := RSl.mono (RI.mono _) _ _ _ _ hl_1759 h0
      have h1 := RSl.mono (RI.mono _) _ _ _ _ hl_1759 h1
      have o_932 := Ow.mono (RI.mono _) hl_1759 o_932
      refine l_mv f rfl rfl fun a f => ?_
      obtain ⟨b_1817, hj_1818, hs_1621⟩ := bind_some hs_1621
      refine l_cut 16 (fun a w => ∃ G_1815, GLe G_1758 G_1815 ∧ Mem W G_1815 w (it_931 :: H) ∧ Fr a 56 [(0, v0), (1, v1), (5, v_930), (6, (.int .i64 x_934)), (7, (.int .i64 x_1626)), (19, (.bool (decide (x_1626 < (IntKind.i64.wrap ((x0.length : Int) + (x1.length : Int))))))), (22, (.int .i64 x_1626)), (23, v0), (24, (.int .i64 (x0.length : Int))), (25, (.bool (decide (x_1626 < (x0.length : Int))))), (26, (.bool (decide (x_1626 < (x0.length : Int))))), (33, (.bool b_1760)), (34, (.bool b_1760)), (50, (.bool b_1817))]) ?_ ?_
      ·rcases cond_some hj_1818 with ⟨hc_1768, hj_1818⟩ | ⟨hc_1768, hj_1818⟩
       ·refine l_not' f rfl rfl rfl hc_1768 fun a f => ?_
        refine l_not' f rfl rfl rfl hc_1768 fun a f => ?_
        refine l_not' f rfl rfl rfl hc_1768 fun a f => ?_
        refine l_not' f rfl rfl rfl hc_1768 fun a f => ?_
        refine l_not' f rfl rfl rfl hc_1768 fun a f => ?_
        refine l_notU f rfl rfl rfl fun a f => ?_
        refine l_notU f rfl rfl rfl fun a f => ?_
        refine l_notU f rfl rfl rfl fun a f => ?_
        refine l_notU f rfl rfl rfl fun a f => ?_
        refine l_notU f rfl rfl rfl fun a f => ?_
        refine l_notU f rfl rfl rfl fun a f => ?_
        refine l_notU f rfl rfl rfl fun a f => ?_
        refine l_notU f rfl rfl rfl fun a f => ?_
        refine l_notU f rfl rfl rfl fun a f => ?_
        refine l_not' f rfl rfl rfl hc_1768 fun a f => ?_
        refine l_op f rfl rfl rfl (r_pickT (f.eval rfl) hc_1768 (f.eval rfl)) fun a f => ?_
        obtain rfl := sj hj_1818
        exact ⟨_, (GLe.refl _), m, f.weak ⟨rfl, rfl, rfl, rfl, rfl, rfl, rfl, rfl, rfl, rfl, rfl, rfl, rfl, rfl, trivial⟩⟩
       ·refine l_run f rfl rfl hc_1768 ?_
        refine l_mv f rfl rfl fun a f => ?_
        refine l_run f rfl rfl hc_1768 ?_
        refine l_mv f rfl rfl fun a f => ?_
        refine l_run f rfl rfl hc_1768 ?_
        refine l_len Tryd.underlying36 f rfl rfl h0 fun a f => ?_
        refine l_run f rfl rfl hc_1768 ?_
        refine l_in f rfl rfl rfl b_geq fun a f => ?_
        refine l_run f rfl rfl hc_1768 ?_
        refine l_mv f rfl rfl fun a f => ?_
        obtain ⟨b_1834, hj_1835, hj_1818⟩ := bind_some hj_1818
        refine l_cut 10 (fun a w => ∃ G_1832, GLe G_1758 G_1832 ∧ Mem W G_1832 w (it_931 :: H) ∧ Fr a 56 [(0, v0), (1, v1), (5, v_930), (6, (.int .i64 x_934)), (7, (.int .i64 x_1626)), (19, (.bool (decide (x_1626 < (IntKind.i64.wrap ((x0.length : Int) + (x1.length : Int))))))), (22, (.int .i64 x_1626)), (23, v0), (24, (.int .i64 (x0.length : Int))), (25, (.bool (decide (x_1626 < (x0.length : Int))))), (26, (.bool (decide (x_1626 < (x0.length : Int))))), (33, (.bool b_1760)), (34, (.bool b_1760)), (35, (.int .i64 x_1626)), (36, v0), (37, (.int .i64 (x0.length : Int))), (38, (.bool (decide ((x0.length : Int) ≤ x_1626)))), (39, (.bool (decide ((x0.length : Int) ≤ x_1626)))), (49, (.bool b_1834))]) ?_ ?_
        ·rcases cond_some hj_1835 with ⟨hc_1819, hj_1835⟩ | ⟨hc_1819, hj_1835⟩
         ·refine l_run f rfl rfl hc_1819 ?_
          refine l_mv f rfl rfl fun a f => ?_
          refine l_run f rfl rfl hc_1819 ?_
          refine l_mv f rfl rfl fun a f => ?_
          refine l_run f rfl rfl hc_1819 ?_
          refine l_mv f rfl rfl fun a f => ?_
          refine l_run f rfl rfl hc_1819 ?_
          refine l_len Tryd.underlying36 f rfl rfl h0 fun a f => ?_
          refine l_run f rfl rfl hc_1819 ?_
          refine l_in f rfl rfl rfl b_sub fun a f => ?_
          refine l_run f rfl rfl hc_1819 ?_
          obtain ⟨e_1836, he_1837, hj_1835⟩ := bind_some hj_1835
          refine l_at T36 f rfl rfl rfl h1 he_1837 fun p_1838 c_1839 a g_1840 h_1841 f => ?_
          subst h_1841
          refine l_run f rfl rfl hc_1819 ?_
          refine l_loadAt m Pl2 f rfl rfl g_1840 fun a f => ?_
          refine l_run f rfl rfl hc_1819 ?_
          refine l_mv f rfl rfl fun a f => ?_
          refine l_run f rfl rfl hc_1819 ?_
          refine l_in f rfl rfl rfl b_eql fun a f => ?_
          refine l_run f rfl rfl hc_1768 ?_
          refine l_op f rfl rfl rfl (r_pickT (f.eval rfl) hc_1819 (f.eval rfl)) fun a f => ?_
          obtain rfl := sj hj_1835
          exact ⟨_, (GLe.refl _), m, f.weak ⟨rfl, rfl, rfl, rfl, rfl, rfl, rfl, rfl, rfl, rfl, rfl, rfl, rfl, rfl, rfl, rfl, rfl, rfl, rfl, trivial⟩⟩
         ·refine l_not' f rfl rfl rfl hc_1819 fun a f => ?_
          refine l_not' f rfl rfl rfl hc_1819 fun a f => ?_
          refine l_not' f rfl rfl rfl hc_1819 fun a f => ?_
          refine l_not' f rfl rfl rfl hc_1819 fun a f => ?_
          refine l_not' f rfl rfl rfl hc_1819 fun a f => ?_
          refine l_not' f rfl rfl rfl hc_1819 fun a f => ?_
          refine l_not' f rfl rfl rfl hc_1819 fun a f => ?_
          refine l_not' f rfl rfl rfl hc_1819 fun a f => ?_
          refine l_not' f rfl rfl rfl hc_1819 fun a f => ?_
          refine l_run f rfl rfl hc_1768 ?_
          refine l_op f rfl rfl rfl (r_pickF (f.eval rfl) hc_1819 (f.eval rfl)) fun a f => ?_
          obtain rfl := sj hj_1835
          exact ⟨_, (GLe.refl _), m, f.weak ⟨rfl, rfl, rfl, rfl, rfl, rfl, rfl, rfl, rfl, rfl, rfl, rfl, rfl, rfl, rfl, rfl, rfl, rfl, rfl, trivial⟩⟩
        ·rintro a w ⟨G_1832, hl_1833, m, f⟩
         have h0 := RSl.mono (RI.mono _) _ _ _ _ hl_1833 h0
         have h1 := RSl.mono (RI.mono _) _ _ _ _ hl_1833 h1
         have o_932 := Ow.mono (RI.mono _) hl_1833 o_932
         refine l_op f rfl rfl rfl (r_pickF (f.eval rfl) hc_1768 (f.eval rfl)) fun a f => ?_
         obtain rfl := sj hj_1818
         exact ⟨_, hl_1833, m, f.weak ⟨rfl, rfl, rfl, rfl, rfl, rfl, rfl, rfl, rfl, rfl, rfl, rfl, rfl, rfl, trivial⟩⟩
      ·rintro a w ⟨G_1815, hl_1816, m, f⟩
       have h0 := RSl.mono (RI.mono _) _ _ _ _ hl_1816 h0
       have h1 := RSl.mono (RI.mono _) _ _ _ _ hl_1816 h1
       have o_932 := Ow.mono (RI.mono _) hl_1816 o_932
       refine l_nil ?_
       rcases cond_some hs_1621 with ⟨hc_1842, hs_1621⟩ | ⟨hc_1842, hs_1621⟩
       ·refine k_true f rfl hc_1842 ?_
        refine k_seq (k_region ?_)
        refine l_mv f rfl rfl fun a f => ?_
        refine l_mv f rfl rfl fun a f => ?_
        refine l_slit (R := (RI .i64)) (xs := ([x_934] : List Int)) (RI.one _) m T36 f rfl rfl rfl (by decide) (All2.cons rfl (All2.nil _)) fun it_1843 v_1844 w a m o_1845 f => ?_
        obtain ⟨l_1847, hx_1848, hs_1621⟩ := bind_some hs_1621
        refine l_append (RI.one _) 1 m o_932 rfl T36 rfl (by decide) f rfl rfl rfl (Ow.src (j := 0) o_1845 m rfl) hx_1848 fun it_1849 v_1850 w a m o_1851 f => ?_
        refine l_as f rfl rfl fun a f => ?_
        refine l_nil ?_
        refine k_exit rfl ?_
        have m := m.front 1 rfl
        have m := m.eraseAt 1
        obtain rfl := sj hs_1621
        obtain rfl := hq_1622 _ rfl
        exact ⟨_, rfl, _, v_1850, it_1849, (GLe.trans hl_1627 (GLe.trans hl_1759 hl_1816)), f.weak ⟨rfl, rfl, rfl, rfl, trivial⟩, m, o_1851⟩
       ·refine k_false f rfl hc_1842 ?_
        refine k_skip ?_
        refine k_region ?_
        refine l_mv f rfl rfl fun a f => ?_
        refine l_in f rfl rfl rfl b_add fun a f => ?_
        refine l_as f rfl rfl fun a f => ?_
        refine l_nil ?_
        obtain rfl := sj hs_1621
        exact ⟨_, rfl, _, rfl, _, (GLe.trans hl_1627 (GLe.trans hl_1759 hl_1816)), f.weak ⟨rfl, rfl, rfl, rfl, rfl, trivial⟩, m⟩
    ·refine k_false f rfl hc_1744 ?_
     refine k_exit rfl ?_
     obtain rfl := sj hs_1621
     obtain rfl := hq_1622 _ rfl
     exact ⟨_, rfl, _, v_930, it_931, hl_1627, f.weak ⟨rfl, rfl, rfl, rfl, trivial⟩, m, o_932⟩
   ·rintro a w ⟨l_1738, rfl, G_1737, v_1739, it_1740, hl_1743, f, m, o_1741⟩
    have h0 := RSl.mono (RI.mono _) _ _ _ _ hl_1743 h0
    have h1 := RSl.mono (RI.mono _) _ _ _ _ hl_1743 h1
    refine k_region ?_
    refine l_mv f rfl rfl fun a f => ?_
    refine l_in f rfl rfl rfl b_add fun a f => ?_
    refine l_as f rfl rfl fun a f => ?_
    refine l_nil ?_
    obtain rfl := sj hs_924
    exact ⟨_, rfl, _, _, rfl, _, v_1739, it_1740, (GLe.trans hl_935 hl_1743), f.weak ⟨rfl, rfl, rfl, rfl, trivial⟩, m, o_1741⟩
  ·refine k_false f rfl hc_1398 ?_
   refine k_exit rfl ?_
   obtain rfl := sj hs_924
   obtain rfl := hq_925 _ rfl
   exact ⟨_, rfl, _, v_930, it_931, hl_935, f.weak ⟨rfl, trivial⟩, m, o_932⟩
 ·rintro a w ⟨l_1392, rfl, G_1391, v_1393, it_1394, hl_1397, f, m, o_1395⟩
  refine k_seq (k_region ?_)
  refine l_mv f rfl rfl fun a f => ?_
  refine l_as f rfl rfl fun a f => ?_
  refine l_nil ?_
  refine k_ret ?_
  obtain rfl := sj hd
  exact ⟨[v_1393], ⟨f.get _ _ rfl, trivial⟩, f.defers, _, [it_1394], hl_1397, m, _, _, rfl, rfl, o_1395⟩

theorem Wk.spec_l1Edge {W w : World} {G : GH} {H : List Itm} {v0_0 : Value} {x0_0 : (List (List Int))} {x1 : Int} {x2 : Int} (m : Mem W G w (H)) (h0_0 : RSl (RSl (RI .i64)) G v0_0 x0_0) {y : Bool} (hd : D.spec_l1Edge x0_0 x1 x2 = some y) :
  Calls Tryd.prog 152 #[(.agg #[v0_0]), (.int .i64 x1), (.int .i64 x2)] w (Res W G H (fun _ Ho v => Ho = [] ∧ v = (.bool y))) := by
 refine calls_b (args := [(.agg #[v0_0]), (.int .i64 x1), (.int .i64 x2)]) (N := 14) [.tmp 6] Tryd.func152 rfl rfl (Nat.le_of_ble_eq_true rfl) rfl fun a f => ?_
 unfold D.spec_l1Edge at hd
 refine k_seq (k_region ?_)
 refine l_box (cs := [v0_0]) m f rfl rfl rfl fun b_2 w a m f => ?_
 refine l_as f rfl rfl fun a f => ?_
 refine l_nil (k_seq (k_region ?_))
 refine l_fieldAddr Tryd.underlying27 rfl Tryd.sizeOf22 (by decide) f rfl rfl fun a f => ?_
 refine l_boxCell 0 0 m Pl22 f rfl rfl rfl rfl fun a f => ?_
 refine l_mv f rfl rfl fun a f => ?_
 obtain ⟨e_3, he_4, hd⟩ := bind_some hd
 refine l_at T22 f rfl rfl rfl h0_0 he_4 fun p_5 c_6 a g_7 h_8 f => ?_
 refine l_loadAt m Pl36 f rfl rfl g_7 fun a f => ?_
 refine l_mv f rfl rfl fun a f => ?_
 obtain ⟨y_9, hy_10, hd⟩ := bind_some hd
 refine l_res f rfl rfl Tryd.call64 (Wk.spec_l1Has m h_8 hy_10) fun v_14 G_11 Ho_15 w hl_12 m hQ_13 a f => ?_
 obtain ⟨rfl, rfl⟩ := hQ_13
 have h0_0 := RSl.mono (RSl.mono (RI.mono _)) _ _ _ _ hl_12 h0_0
 have g_7 := At.mono hl_12 g_7
 have h_8 := RSl.mono (RI.mono _) _ _ _ _ hl_12 h_8
 refine l_as f rfl rfl fun a f => ?_
 refine l_nil ?_
 refine k_ret ?_
 have m : Mem W G_11 w H := Mem.drop (H' := [Itm.box b_2 27 [v0_0]]) m
 obtain rfl := sj hd
 exact ⟨[(.bool y_9)], ⟨f.get _ _ rfl, trivial⟩, f.defers, _, [], hl_12, m, rfl, rfl⟩

theorem Wk.spec_l7Missing {W w : World} {G : GH} {H : List Itm} {v0_0 : Value} {v1 : Value} {x0_0 : (List (List Int))} {x1 : (List Int)} (m : Mem W G w (H)) (h0_0 : RSl (RSl (RI .i64)) G v0_0 x0_0) (h1 : RSl (RI .i64) G v1 x1) {y : Int} (hd : D.spec_l7Missing x0_0 x1 = some y) :
  Calls Tryd.prog 131 #[(.agg #[v0_0]), v1] w (Res W G H (fun _ Ho v => Ho = [] ∧ v = (.int .i64 y))) := by
 refine calls_b (args := [(.agg #[v0_0]), v1]) (N := 33) [.tmp 4] Tryd.func131 rfl rfl (Nat.le_of_ble_eq_true rfl) rfl fun a f => ?_
 unfold D.spec_l7Missing at hd
 refine k_seq (k_region ?_)
 refine l_box (cs := [v0_0]) m f rfl rfl rfl fun b_2 w a m f => ?_
 refine l_as f rfl rfl fun a f => ?_
 refine l_nil (k_seq (k_region ?_))
 refine l_as f rfl rfl fun a f => ?_
 refine l_nil (k_seq (k_seq (k_region ?_)))
 refine l_as f rfl rfl fun a f => ?_
 refine l_nil ?_
 obtain ⟨q_192, hl_193, hd⟩ := bind_some hd
 refine k_cut (fun a w => ∃ x_296 : Int, x_296 = q_192 ∧ ∃ (G_295 : GH), GLe G G_295 ∧ Fr a 33 [(5, (.int .i64 x_296))] ∧ Mem W G_295 w (H)) ?_ ?_
 ·refine k_block ?_
  refine k_loop (fun s_196 a w => ∃ x_199 : Int, ∃ x_200 : Int, (x_199, x_200) = s_196 ∧ ∃ (G_198 : GH), GLe G G_198 ∧ Fr a 33 [(1, v1), (2, (.pointer (some ⟨b_2, 0, none⟩))), (5, (.int .i64 x_199)), (6, (.int .i64 x_200))] ∧ Mem W G_198 w (Itm.box b_2 27 [v0_0] :: H)) hl_193 ⟨_, _, rfl, _, (GLe.refl _), f.weak ⟨rfl, rfl, rfl, rfl, trivial⟩, m⟩ ?_
  clear hl_193 f m
  rintro s_196 o_197 hs_194 hq_195 a w ⟨x_199, x_200, rfl, G_198, hl_201, f, m⟩
  have h1 := RSl.mono (RI.mono _) _ _ _ _ hl_201 h1
  have h0_0 := RSl.mono (RSl.mono (RI.mono _)) _ _ _ _ hl_201 h0_0
  refine k_seq (k_seq (k_region ?_))
  refine l_mv f rfl rfl fun a f => ?_
  refine l_mv f rfl rfl fun a f => ?_
  refine l_len Tryd.underlying36 f rfl rfl h1 fun a f => ?_
  refine l_in f rfl rfl rfl b_lss fun a f => ?_
  refine l_nil ?_
  rcases cond_some hs_194 with ⟨hc_298, hs_194⟩ | ⟨hc_298, hs_194⟩
  ·refine k_true f rfl hc_298 ?_
   refine k_skip ?_
   refine k_seq (k_block (k_seq (k_region ?_)))
   refine l_as f rfl rfl fun a f => ?_
   refine l_nil ?_
   obtain ⟨q_340, hl_341, hs_194⟩ := bind_some hs_194
   refine k_cut (fun a w => ∃ x_370 : Int, x_370 = q_340 ∧ ∃ (G_369 : GH), GLe G_198 G_369 ∧ Fr a 33 [(1, v1), (2, (.pointer (some ⟨b_2, 0, none⟩))), (5, (.int .i64 x_370)), (6, (.int .i64 x_200))] ∧ Mem W G_369 w (Itm.box b_2 27 [v0_0] :: H)) ?_ ?_
   ·refine k_block ?_
    refine k_loop (fun s_344 a w => ∃ x_347 : Int, ∃ x_348 : Int, (x_347, x_348) = s_344 ∧ ∃ (G_346 : GH), GLe G_198 G_346 ∧ Fr a 33 [(1, v1), (2, (.pointer (some ⟨b_2, 0, none⟩))), (5, (.int .i64 x_347)), (6, (.int .i64 x_200)), (7, (.int .i64 x_348))] ∧ Mem W G_346 w (Itm.box b_2 27 [v0_0] :: H)) hl_341 ⟨_, _, rfl, _, (GLe.refl _), f.weak ⟨rfl, rfl, rfl, rfl, rfl, trivial⟩, m⟩ ?_
    clear hl_341 f m
    rintro s_344 o_345 hs_342 hq_343 a w ⟨x_347, x_348, rfl, G_346, hl_349, f, m⟩
    have h1 := RSl.mono (RI.mono _) _ _ _ _ hl_349 h1
    have h0_0 := RSl.mono (RSl.mono (RI.mono _)) _ _ _ _ hl_349 h0_0
    refine k_seq (k_seq (k_region ?_))
    refine l_mv f rfl rfl fun a f => ?_
    refine l_mv f rfl rfl fun a f => ?_
    refine l_in f rfl rfl rfl b_lss fun a f => ?_
    refine l_nil ?_
    rcases cond_some hs_342 with ⟨hc_372, hs_342⟩ | ⟨hc_372, hs_342⟩
    ·refine k_true f rfl hc_372 ?_
     refine k_skip ?_
     refine k_seq (k_block (k_seq ?_))
     refine k_draw 11 Follows (by kernel_rfl) m ?_
     refine q_boxAgg (i := 0) (ds := [v0_0]) 11 0 Ag27 rfl rfl rfl rfl (by kernel_rfl) rfl f rfl rfl rfl fun a f => ?_
     refine q_mv 1 11 rfl (by kernel_rfl) f rfl rfl rfl fun a f => ?_
     refine q_mv 2 11 rfl (by kernel_rfl) f rfl rfl rfl fun a f => ?_
     obtain ⟨e_373, he_374, hs_342⟩ := bind_some hs_342
     refine q_at (i := 3) 11 T36 h1 he_374 rfl (by kernel_rfl) rfl f rfl rfl rfl rfl fun p_375 c_376 a g_377 h_378 f => ?_
     subst h_378
     refine q_loadAt (i := 4) 11 Pl2 g_377 rfl (by kernel_rfl) rfl f rfl rfl rfl fun a f => ?_
     refine q_mv 5 11 rfl (by kernel_rfl) f rfl rfl rfl fun a f => ?_
     refine q_mv 6 11 rfl (by kernel_rfl) f rfl rfl rfl fun a f => ?_
     obtain ⟨e_379, he_380, hs_342⟩ := bind_some hs_342
     refine q_at (i := 7) 11 T36 h1 he_380 rfl (by kernel_rfl) rfl f rfl rfl rfl rfl fun p_381 c_382 a g_383 h_384 f => ?_
     subst h_384
     refine q_loadAt (i := 8) 11 Pl2 g_383 rfl (by kernel_rfl) rfl f rfl rfl rfl fun a f => ?_
     obtain ⟨y_385, hy_386, hs_342⟩ := bind_some hs_342
     refine q_call (i := 9) 11 rfl (by kernel_rfl) rfl f rfl rfl rfl Tryd.call152 (fun _ _ w hG_387 m => Wk.spec_l1Edge m (RSl.mono (RSl.mono (RI.mono _)) _ _ _ _ hG_387 h0_0) hy_386) fun a f => ?_
     refine q_p 10 11 rfl (by kernel_rfl) f rfl rfl rfl (fun _ => r_not (f.eval rfl)) fun a f => ?_
     refine q_end fun G_388 w hl_389 m => ?_
     have h1 := RSl.mono (RI.mono _) _ _ _ _ hl_389 h1
     have h0_0 := RSl.mono (RSl.mono (RI.mono _)) _ _ _ _ hl_389 h0_0
     have g_377 := At.mono hl_389 g_377
     have g_383 := At.mono hl_389 g_383
     refine l_nil ?_
     rcases cond_some hs_342 with ⟨hc_390, hs_342⟩ | ⟨hc_390, hs_342⟩
     ·refine k_true f rfl hc_390 ?_
      refine k_region ?_
      refine l_mv f rfl rfl fun a f => ?_
      refine l_in f rfl rfl rfl b_add fun a f => ?_
      refine l_as f rfl rfl fun a f => ?_
      refine l_nil (k_region ?_)
      refine l_mv f rfl rfl fun a f => ?_
      refine l_in f rfl rfl rfl b_add fun a f => ?_
      refine l_as f rfl rfl fun a f => ?_
      refine l_nil ?_
      obtain rfl := sj hs_342
      exact ⟨_, rfl, _, _, rfl, _, (GLe.trans hl_349 hl_389), f.weak ⟨rfl, rfl, rfl, rfl, rfl, trivial⟩, m⟩
     ·refine k_false f rfl hc_390 ?_
      refine k_skip ?_
      refine k_region ?_
      refine l_mv f rfl rfl fun a f => ?_
      refine l_in f rfl rfl rfl b_add fun a f => ?_
      refine l_as f rfl rfl fun a f => ?_
      refine l_nil ?_
      obtain rfl := sj hs_342
      exact ⟨_, rfl, _, _, rfl, _, (GLe.trans hl_349 hl_389), f.weak ⟨rfl, rfl, rfl, rfl, rfl, trivial⟩, m⟩
    ·refine k_false f rfl hc_372 ?_
     refine k_exit rfl ?_
     obtain rfl := sj hs_342
     obtain rfl := hq_343 _ rfl
     exact ⟨_, rfl, _, hl_349, f.weak ⟨rfl, rfl, rfl, rfl, trivial⟩, m⟩
   ·rintro a w ⟨x_370, rfl, G_369, hl_371, f, m⟩
    have h1 := RSl.mono (RI.mono _) _ _ _ _ hl_371 h1
    have h0_0 := RSl.mono (RSl.mono (RI.mono _)) _ _ _ _ hl_371 h0_0
    refine k_region ?_
    refine l_mv f rfl rfl fun a f => ?_
    refine l_in f rfl rfl rfl b_add fun a f => ?_
    refine l_as f rfl rfl fun a f => ?_
    refine l_nil ?_
    obtain rfl := sj hs_194
    exact ⟨_, rfl, _, _, rfl, _, (GLe.trans hl_201 hl_371), f.weak ⟨rfl, rfl, rfl, rfl, trivial⟩, m⟩
  ·refine k_false f rfl hc_298 ?_
   refine k_exit rfl ?_
   have m : Mem W G_198 w H := Mem.drop (H' := [Itm.box b_2 27 [v0_0]]) m
   obtain rfl := sj hs_194
   obtain rfl := hq_195 _ rfl
   exact ⟨_, rfl, _, hl_201, f.weak ⟨rfl, trivial⟩, m⟩
 ·rintro a w ⟨x_296, rfl, G_295, hl_297, f, m⟩
  refine k_seq (k_region ?_)
  refine l_mv f rfl rfl fun a f => ?_
  refine l_as f rfl rfl fun a f => ?_
  refine l_nil ?_
  refine k_ret ?_
  obtain rfl := sj hd
  exact ⟨[(.int .i64 x_296)], ⟨f.get _ _ rfl, trivial⟩, f.defers, _, [], hl_297, m, rfl, rfl⟩

theorem Wk.spec_l8Clique {W w : World} {G : GH} {H : List Itm} {v0_0 : Value} {v1 : Value} {x0_0 : (List (List Int))} {x1 : (List Int)} (m : Mem W G w (H)) (h0_0 : RSl (RSl (RI .i64)) G v0_0 x0_0) (h1 : RSl (RI .i64) G v1 x1) {y : Bool} (hd : D.spec_l8Clique x0_0 x1 = some y) :
  Calls Tryd.prog 104 #[(.agg #[v0_0]), v1] w (Res W G H (fun _ Ho v => Ho = [] ∧ v = (.bool y))) := by
 refine calls_b (args := [(.agg #[v0_0]), v1]) (N := 9) [.tmp 4] Tryd.func104 rfl rfl (Nat.le_of_ble_eq_true rfl) rfl fun a f => ?_
 unfold D.spec_l8Clique at hd
 refine k_seq (k_region ?_)
 refine l_box (cs := [v0_0]) m f rfl rfl rfl fun b_2 w a m f => ?_
 refine l_as f rfl rfl fun a f => ?_
 refine l_nil (k_seq (k_region ?_))
 refine l_boxAgg 0 0 (ds := [v0_0]) m Ag27 f rfl rfl rfl rfl rfl fun a f => ?_
 refine l_mv f rfl rfl fun a f => ?_
 obtain ⟨y_3, hy_4, hd⟩ := bind_some hd
 refine l_res f rfl rfl Tryd.call131 (Wk.spec_l7Missing m h0_0 h1 hy_4) fun v_8 G_5 Ho_9 w hl_6 m hQ_7 a f => ?_
 obtain ⟨rfl, rfl⟩ := hQ_7
 have h0_0 := RSl.mono (RSl.mono (RI.mono _)) _ _ _ _ hl_6 h0_0
 have h1 := RSl.mono (RI.mono _) _ _ _ _ hl_6 h1
 refine l_in f rfl rfl rfl b_eql fun a f => ?_
 refine l_as f rfl rfl fun a f => ?_
 refine l_nil ?_
 refine k_ret ?_
 have m : Mem W G_5 w H := Mem.drop (H' := [Itm.box b_2 27 [v0_0]]) m
 obtain rfl := sj hd
 exact ⟨[(.bool (y_3 == 0))], ⟨f.get _ _ rfl, trivial⟩, f.defers, _, [], hl_6, m, rfl, rfl⟩

theorem Wk.spec_PerfectOrder {W w : World} {G : GH} {H : List Itm} {v0_0 : Value} {x0_0 : (List (List Int))} (m : Mem W G w (H)) (h0_0 : RSl (RSl (RI .i64)) G v0_0 x0_0) {y : ((List Int)) × Bool} (hd : D.spec_PerfectOrder x0_0 = some y) :
  Calls Tryd.prog 73 #[(.agg #[v0_0])] w (Res W G H (fun G' Ho v => ∃ r0 : Value, ∃ i0 : Itm, Ho = [i0] ∧ v = .tuple #[r0, (.bool y.2)] ∧ Ow (RI .i64) 2 G' i0 r0 y.1)) := by
 refine calls_b (args := [(.agg #[v0_0])]) (N := 54) [.tmp 2, .tmp 3] Tryd.func73 rfl rfl (Nat.le_of_ble_eq_true rfl) rfl fun a f => ?_
 unfold D.spec_PerfectOrder at hd
 refine k_seq (k_region ?_)
 refine l_box (cs := [v0_0]) m f rfl rfl rfl fun b_2 w a m f => ?_
 refine l_as f rfl rfl fun a f => ?_
 refine l_as f rfl rfl fun a f => ?_
 refine l_nil (k_seq (k_seq (k_region ?_)))
 refine l_boxAgg 0 0 (ds := [v0_0]) m Ag27 f rfl rfl rfl rfl rfl fun a f => ?_
 obtain ⟨y_3, hy_4, hd⟩ := bind_some hd
 refine l_res f rfl rfl Tryd.call23 (Wk.spec_GraphOk m h0_0 hy_4) fun v_8 G_5 Ho_9 w hl_6 m hQ_7 a f => ?_
 obtain ⟨rfl, rfl⟩ := hQ_7
 have h0_0 := RSl.mono (RSl.mono (RI.mono _)) _ _ _ _ hl_6 h0_0
 refine l_op f rfl rfl rfl (r_not (f.eval rfl)) fun a f => ?_
 refine l_nil ?_
 rcases cond_some hd with ⟨hc_10, hd⟩ | ⟨hc_10, hd⟩
 ·refine k_true f rfl hc_10 ?_
  refine k_seq (k_region ?_)
  refine l_slit (R := (RI .i64)) (xs := ([] : List Int)) (RI.one _) m T36 f rfl rfl rfl (by decide) (All2.nil _) fun it_11 v_12 w a m o_13 f => ?_
  refine l_as f rfl rfl fun a f => ?_
  refine l_as f rfl rfl fun a f => ?_
  refine l_nil ?_
  refine k_ret ?_
  have m := m.eraseAt 1
  obtain rfl := sj hd
  exact ⟨[v_12, (.bool false)], ⟨f.get _ _ rfl, f.get _ _ rfl, trivial⟩, f.defers, _, [it_11], hl_6, m, _, _, rfl, rfl, o_13⟩
 ·refine k_false f rfl hc_10 ?_
  refine k_skip ?_
  refine k_seq (k_region ?_)
  refine l_boxAgg 0 0 (ds := [v0_0]) m Ag27 f rfl rfl rfl rfl rfl fun a f => ?_
  obtain ⟨y_15, hy_16, hd⟩ := bind_some hd
  refine l_res f rfl rfl Tryd.call62 (Wk.spec_l1Size m h0_0 hy_16) fun v_20 G_17 Ho_21 w hl_18 m hQ_19 a f => ?_
  obtain ⟨rfl, rfl⟩ := hQ_19
  have h0_0 := RSl.mono (RSl.mono (RI.mono _)) _ _ _ _ hl_18 h0_0
  obtain ⟨l_22, hx_23, hd⟩ := bind_some hd
  refine l_make (R := RB) m T104 rfl (by decide) rfl f rfl rfl rfl hx_23 fun it_24 v_25 w a m o_26 f => ?_
  refine l_as f rfl rfl fun a f => ?_
  refine l_nil (k_seq (k_region ?_))
  refine l_slit (R := (RI .i64)) (xs := ([] : List Int)) (RI.one _) m T36 f rfl rfl rfl (by decide) (All2.nil _) fun it_28 v_29 w a m o_30 f => ?_
  refine l_as f rfl rfl fun a f => ?_
  refine l_nil (k_seq ?_)
  obtain ⟨q_525, hl_526, hd⟩ := bind_some hd
  refine k_cut (fun a w => ∃ q_525' : (List Int), q_525 = .inl q_525' ∧ ∃ l_784 : List Int, l_784 = q_525' ∧ ∃ (G_783 : GH) (v_785 : Value) (it_786 : Itm), GLe G_17 G_783 ∧ Fr a 54 [(5, v_785)] ∧ Mem W G_783 w (it_786 :: H) ∧ Ow (RI .i64) 2 G_783 it_786 v_785 l_784) ?_ ?_
  ·refine k_block ?_
   have m := m.front 1 rfl
   have m := m.front 2 rfl
   refine k_loop (fun s_529 a w => ∃ l_532 : List Bool, ∃ l_535 : List Int, (l_532, l_535) = s_529 ∧ ∃ (G_531 : GH) (it_533 : Itm) (v_536 : Value) (it_537 : Itm), GLe G_17 G_531 ∧ Fr a 54 [(1, (.pointer (some ⟨b_2, 0, none⟩))), (4, v_25), (5, v_536)] ∧ Mem W G_531 w (Itm.box b_2 27 [v0_0] :: it_533 :: it_537 :: H) ∧ Ow RB 4 G_531 it_533 v_25 l_532 ∧ Ow (RI .i64) 2 G_531 it_537 v_536 l_535) hl_526 ⟨_, _, rfl, _, it_24, v_29, it_28, (GLe.refl _), f.weak ⟨rfl, rfl, rfl, trivial⟩, m, o_26, o_30⟩ ?_
   clear hl_526 f m
   rintro s_529 o_530 hs_527 hq_528 a w ⟨l_532, l_535, rfl, G_531, it_533, v_536, it_537, hl_540, f, m, o_534, o_538⟩
   have h0_0 := RSl.mono (RSl.mono (RI.mono _)) _ _ _ _ hl_540 h0_0
   refine k_seq (k_seq (k_region ?_))
   refine l_mv f rfl rfl fun a f => ?_
   refine l_own_len 2 m o_538 rfl Tryd.underlying36 f rfl rfl fun a f => ?_
   refine l_boxAgg 0 0 (ds := [v0_0]) m Ag27 f rfl rfl rfl rfl rfl fun a f => ?_
   obtain ⟨y_790, hy_791, hs_527⟩ := bind_some hs_527
   refine l_res f rfl rfl Tryd.call62 (Wk.spec_l1Size m h0_0 hy_791) fun v_795 G_792 Ho_796 w hl_793 m hQ_794 a f => ?_
   obtain ⟨rfl, rfl⟩ := hQ_794
   have h0_0 := RSl.mono (RSl.mono (RI.mono _)) _ _ _ _ hl_793 h0_0
   have o_534 := Ow.mono RB.mono hl_793 o_534
   have o_538 := Ow.mono (RI.mono _) hl_793 o_538
   refine l_in f rfl rfl rfl b_lss fun a f => ?_
   refine l_nil ?_
   rcases cond_some hs_527 with ⟨hc_797, hs_527⟩ | ⟨hc_797, hs_527⟩
   ·refine k_true f rfl hc_797 ?_
    refine k_skip ?_
    refine k_block (k_seq (k_region ?_))
    refine l_as f rfl rfl fun a f => ?_
    refine l_nil (k_seq ?_)
    obtain ⟨q_896, hl_897, hs_527⟩ := bind_some hs_527
    refine k_cut (fun a w => ∃ x_954 : Int, x_954 = q_896 ∧ ∃ (G_953 : GH), GLe G_792 G_953 ∧ Fr a 54 [(1, (.pointer (some ⟨b_2, 0, none⟩))), (4, v_25), (5, v_536), (6, (.int .i64 x_954))] ∧ Mem W G_953 w (Itm.box b_2 27 [v0_0] :: it_533 :: it_537 :: H)) ?_ ?_
    ·refine k_block ?_
     have m := m.front 2 rfl
     have m := m.front 2 rfl
     have m := m.front 2 rfl
     refine k_loop (fun s_900 a w => ∃ x_903 : Int, x_903 = s_900 ∧ ∃ (G_902 : GH), GLe G_792 G_902 ∧ Fr a 54 [(1, (.pointer (some ⟨b_2, 0, none⟩))), (4, v_25), (5, v_536), (6, (.int .i64 x_903))] ∧ Mem W G_902 w (Itm.box b_2 27 [v0_0] :: it_533 :: it_537 :: H)) hl_897 ⟨_, rfl, _, (GLe.refl _), f.weak ⟨rfl, rfl, rfl, rfl, trivial⟩, m⟩ ?_
     clear hl_897 f m
     rintro s_900 o_901 hs_898 hq_899 a w ⟨x_903, rfl, G_902, hl_904, f, m⟩
     have h0_0 := RSl.mono (RSl.mono (RI.mono _)) _ _ _ _ hl_904 h0_0
     have o_534 := Ow.mono RB.mono hl_904 o_534
     have o_538 := Ow.mono (RI.mono _) hl_904 o_538
     refine k_seq (k_seq ?_)
     refine k_draw 19 Follows (by kernel_rfl) m ?_
     refine q_mv 0 19 rfl (by kernel_rfl) f rfl rfl rfl fun a f => ?_
     refine q_boxAgg (i := 1) (ds := [v0_0]) 19 0 Ag27 rfl rfl rfl rfl (by kernel_rfl) rfl f rfl rfl rfl fun a f => ?_
     obtain ⟨y_956, hy_957, hs_898⟩ := bind_some hs_898
     refine q_call (i := 2) 19 rfl (by kernel_rfl) rfl f rfl rfl rfl Tryd.call62 (fun _ _ w hG_958 m => Wk.spec_l1Size m (RSl.mono (RSl.mono (RI.mono _)) _ _ _ _ hG_958 h0_0) hy_957) fun a f => ?_
     refine q_p 3 19 rfl (by kernel_rfl) f rfl rfl rfl (fun _ => r_int (f.eval rfl) (f.eval rfl) b_lss) fun a f => ?_
     refine q_mv 4 19 rfl (by kernel_rfl) f rfl rfl rfl fun a f => ?_
     rcases cond_some hs_898 with ⟨hc_959, hs_898⟩ | ⟨hc_959, hs_898⟩
     ·refine q_mv 5 19 rfl (by kernel_rfl) f (wanted_of f rfl rfl rfl hc_959) rfl rfl fun a f => ?_
      refine q_mv 6 19 rfl (by kernel_rfl) f (wanted_of f rfl rfl rfl hc_959) rfl rfl fun a f => ?_
      obtain ⟨e_960, he_961, hs_898⟩ := bind_some hs_898
      refine q_own_at (i := 7) 19 1 m o_534 rfl T104 he_961 rfl (by kernel_rfl) rfl f (wanted_of f rfl rfl rfl hc_959) rfl rfl rfl fun p_962 a ha_963 f => ?_
      refine q_own_load (i := 8) 19 1 o_534 rfl Pl4 ha_963 he_961 rfl (by kernel_rfl) rfl f (wanted_of f rfl rfl rfl hc_959) rfl rfl fun c_964 a h_965 f => ?_
      subst h_965
      refine q_mv 9 19 rfl (by kernel_rfl) f (wanted_of f rfl rfl rfl hc_959) rfl rfl fun a f => ?_
      rcases cond_some hs_898 with ⟨hc_966, hs_898⟩ | ⟨hc_966, hs_898⟩
      ·refine q_ng 10 19 rfl (by kernel_rfl) f rfl rfl hc_966 rfl fun a f => ?_
       refine q_ng 11 19 rfl (by kernel_rfl) f rfl rfl hc_966 rfl fun a f => ?_
       refine q_ng 12 19 rfl (by kernel_rfl) f rfl rfl hc_966 rfl fun a f => ?_
       refine q_ng 13 19 rfl (by kernel_rfl) f rfl rfl hc_966 rfl fun a f => ?_
       refine q_ng 14 19 rfl (by kernel_rfl) f rfl rfl hc_966 rfl fun a f => ?_
       refine q_ng 15 19 rfl (by kernel_rfl) f rfl rfl hc_966 rfl fun a f => ?_
       refine q_ng 16 19 rfl (by kernel_rfl) f rfl rfl hc_966 rfl fun a f => ?_
       refine q_p 17 19 rfl (by kernel_rfl) f (wanted_of f rfl rfl rfl hc_959) rfl rfl (fun _ => r_pickT (f.eval rfl) hc_966 (f.eval rfl)) fun a f => ?_
       refine q_p 18 19 rfl (by kernel_rfl) f rfl rfl rfl (fun _ => r_pickT (f.eval rfl) hc_959 (f.eval rfl)) fun a f => ?_
       refine q_end fun G_1000 w hl_1001 m => ?_
       have h0_0 := RSl.mono (RSl.mono (RI.mono _)) _ _ _ _ hl_1001 h0_0
       have o_534 := Ow.mono RB.mono hl_1001 o_534
       have o_538 := Ow.mono (RI.mono _) hl_1001 o_538
       refine l_nil ?_
       refine k_true f rfl rfl ?_
       refine k_skip ?_
       refine k_block (k_region ?_)
       refine l_mv f rfl rfl fun a f => ?_
       refine l_in f rfl rfl rfl b_add fun a f => ?_
       refine l_as f rfl rfl fun a f => ?_
       refine l_nil ?_
       have m := m.front 2 rfl
       have m := m.front 2 rfl
       have m := m.front 2 rfl
       obtain rfl := sj hs_898
       exact ⟨_, rfl, _, rfl, _, (GLe.trans hl_904 hl_1001), f.weak ⟨rfl, rfl, rfl, rfl, trivial⟩, m⟩
      ·refine q_boxAgg (i := 10) (ds := [v0_0]) 19 0 Ag27 rfl rfl rfl rfl (by kernel_rfl) rfl f (wanted_of f rfl rfl rfl hc_966) rfl rfl fun a f => ?_
       refine q_boxAgg (i := 11) (ds := [v0_0]) 19 0 Ag27 rfl rfl rfl rfl (by kernel_rfl) rfl f (wanted_of f rfl rfl rfl hc_966) rfl rfl fun a f => ?_
       refine q_mv 12 19 rfl (by kernel_rfl) f (wanted_of f rfl rfl rfl hc_966) rfl rfl fun a f => ?_
       refine q_mv 13 19 rfl (by kernel_rfl) f (wanted_of f rfl rfl rfl hc_966) rfl rfl fun a f => ?_
       refine q_one (i := 14) rfl (by kernel_rfl) rfl fun G_967 w hl_968 m K_969 K_969 => ?_
       have h0_0 := RSl.mono (RSl.mono (RI.mono _)) _ _ _ _ hl_968 h0_0
       have o_534 := Ow.mono RB.mono hl_968 o_534
       have o_538 := Ow.mono (RI.mono _) hl_968 o_538
       refine l_run f rfl rfl hc_966 ?_
       obtain ⟨y_970, hy_971, hs_898⟩ := bind_some hs_898
       refine l_res f rfl rfl Tryd.call105 (Ow.lendCall RB.mono 1 o_534 m rfl (fun G_972 hl_973 m h_974 => Wk.spec_l7Left m (RSl.mono (RSl.mono (RI.mono _)) _ _ _ _ hl_973 h0_0) h_974 hy_971) (fun _ G' _ _ ⟨a0, a1, e1, e2, o0⟩ => ⟨a0, a1, e1, e2, Ow.free (RI.free _) G' o0⟩)) fun v_978 G_975 Ho_979 w hl_976 m hQ_977 a f => ?_
       obtain ⟨v_980, it_981, rfl, rfl, o_982⟩ := hQ_977
       have h0_0 := RSl.mono (RSl.mono (RI.mono _)) _ _ _ _ hl_976 h0_0
       have o_534 := Ow.mono RB.mono hl_976 o_534
       have o_538 := Ow.mono (RI.mono _) hl_976 o_538
       refine l_nil ?_
       refine K_969 G_975 [it_981] _ _ hl_976 m ?_
       refine q_one (i := 15) rfl (by kernel_rfl) rfl fun G_984 w hl_985 m K_986 K_986 => ?_
       have h0_0 := RSl.mono (RSl.mono (RI.mono _)) _ _ _ _ hl_985 h0_0
       have o_982 := Ow.mono (RI.mono _) hl_985 o_982
       have o_534 := Ow.mono RB.mono hl_985 o_534
       have o_538 := Ow.mono (RI.mono _) hl_985 o_538
       refine l_run f rfl rfl hc_966 ?_
       obtain ⟨y_987, hy_988, hs_898⟩ := bind_some hs_898
       refine l_res f rfl rfl Tryd.call104 (Ow.lendCall (RI.mono _) 0 o_982 m rfl (fun G_989 hl_990 m h_991 => Wk.spec_l8Clique m (RSl.mono (RSl.mono (RI.mono _)) _ _ _ _ hl_990 h0_0) h_991 hy_988) (fun _ _ _ _ h => h)) fun v_995 G_992 Ho_996 w hl_993 m hQ_994 a f => ?_
       obtain ⟨rfl, rfl⟩ := hQ_994
       have h0_0 := RSl.mono (RSl.mono (RI.mono _)) _ _ _ _ hl_993 h0_0
       have o_982 := Ow.mono (RI.mono _) hl_993 o_982
       have o_534 := Ow.mono RB.mono hl_993 o_534
       have o_538 := Ow.mono (RI.mono _) hl_993 o_538
       refine l_nil ?_
       refine K_986 G_992 [it_981] _ _ hl_993 m ?_
       refine q_p 16 19 rfl (by kernel_rfl) f (wanted_of f rfl rfl rfl hc_966) rfl rfl (fun _ => r_not (f.eval rfl)) fun a f => ?_
       refine q_p 17 19 rfl (by kernel_rfl) f (wanted_of f rfl rfl rfl hc_959) rfl rfl (fun _ => r_pickF (f.eval rfl) hc_966 (f.eval rfl)) fun a f => ?_
       refine q_p 18 19 rfl (by kernel_rfl) f rfl rfl rfl (fun _ => r_pickT (f.eval rfl) hc_959 (f.eval rfl)) fun a f => ?_
       refine q_end fun G_997 w hl_998 m => ?_
       have h0_0 := RSl.mono (RSl.mono (RI.mono _)) _ _ _ _ hl_998 h0_0
       have o_982 := Ow.mono (RI.mono _) hl_998 o_982
       have o_534 := Ow.mono RB.mono hl_998 o_534
       have o_538 := Ow.mono (RI.mono _) hl_998 o_538
       refine l_nil ?_
       rcases cond_some hs_898 with ⟨hc_999, hs_898⟩ | ⟨hc_999, hs_898⟩
       ·refine k_true f rfl hc_999 ?_
        refine k_skip ?_
        refine k_block (k_region ?_)
        refine l_mv f rfl rfl fun a f => ?_
        refine l_in f rfl rfl rfl b_add fun a f => ?_
        refine l_as f rfl rfl fun a f => ?_
        refine l_nil ?_
        have m := m.front 3 rfl
        have m := m.front 3 rfl
        have m := m.front 3 rfl
        have m := m.eraseAt 3
        obtain rfl := sj hs_898
        exact ⟨_, rfl, _, rfl, _, (GLe.trans hl_904 (GLe.trans hl_968 (GLe.trans hl_976 (GLe.trans hl_985 (GLe.trans hl_993 hl_998))))), f.weak ⟨rfl, rfl, rfl, rfl, trivial⟩, m⟩
       ·refine k_false f rfl hc_999 ?_
        refine k_exit rfl ?_
        have m := m.front 3 rfl
        have m := m.front 3 rfl
        have m := m.front 3 rfl
        have m := m.eraseAt 3
        obtain rfl := sj hs_898
        obtain rfl := hq_899 _ rfl
        exact ⟨_, rfl, _, (GLe.trans hl_904 (GLe.trans hl_968 (GLe.trans hl_976 (GLe.trans hl_985 (GLe.trans hl_993 hl_998))))), f.weak ⟨rfl, rfl, rfl, rfl, trivial⟩, m⟩
     ·refine q_ng 5 19 rfl (by kernel_rfl) f rfl rfl hc_959 rfl fun a f => ?_
      refine q_ng 6 19 rfl (by kernel_rfl) f rfl rfl hc_959 rfl fun a f => ?_
      refine q_ng 7 19 rfl (by kernel_rfl) f rfl rfl hc_959 rfl fun a f => ?_
      refine q_ng 8 19 rfl (by kernel_rfl) f rfl rfl hc_959 rfl fun a f => ?_
      refine q_ng 9 19 rfl (by kernel_rfl) f rfl rfl hc_959 rfl fun a f => ?_
      refine q_nu 10 19 rfl (by kernel_rfl) f rfl rfl rfl fun a f => ?_
      refine q_nu 11 19 rfl (by kernel_rfl) f rfl rfl rfl fun a f => ?_
      refine q_nu 12 19 rfl (by kernel_rfl) f rfl rfl rfl fun a f => ?_
      refine q_nu 13 19 rfl (by kernel_rfl) f rfl rfl rfl fun a f => ?_
      refine q_nu 14 19 rfl (by kernel_rfl) f rfl rfl rfl fun a f => ?_
      refine q_nu 15 19 rfl (by kernel_rfl) f rfl rfl rfl fun a f => ?_
      refine q_nu 16 19 rfl (by kernel_rfl) f rfl rfl rfl fun a f => ?_
      refine q_ng 17 19 rfl (by kernel_rfl) f rfl rfl hc_959 rfl fun a f => ?_
      refine q_p 18 19 rfl (by kernel_rfl) f rfl rfl rfl (fun _ => r_pickF (f.eval rfl) hc_959 (f.eval rfl)) fun a f => ?_
      refine q_end fun G_1002 w hl_1003 m => ?_
      have h0_0 := RSl.mono (RSl.mono (RI.mono _)) _ _ _ _ hl_1003 h0_0
      have o_534 := Ow.mono RB.mono hl_1003 o_534
      have o_538 := Ow.mono (RI.mono _) hl_1003 o_538
      refine l_nil ?_
      refine k_false f rfl rfl ?_
      refine k_exit rfl ?_
      have m := m.front 2 rfl
      have m := m.front 2 rfl
      have m := m.front 2 rfl
      obtain rfl := sj hs_898
      obtain rfl := hq_899 _ rfl
      exact ⟨_, rfl, _, (GLe.trans hl_904 hl_1003), f.weak ⟨rfl, rfl, rfl, rfl, trivial⟩, m⟩
    ·rintro a w ⟨x_954, rfl, G_953, hl_955, f, m⟩
     have h0_0 := RSl.mono (RSl.mono (RI.mono _)) _ _ _ _ hl_955 h0_0
     have o_534 := Ow.mono RB.mono hl_955 o_534
     have o_538 := Ow.mono (RI.mono _) hl_955 o_538
     refine k_seq (k_seq (k_region ?_))
     refine l_mv f rfl rfl fun a f => ?_
     refine l_boxAgg 0 0 (ds := [v0_0]) m Ag27 f rfl rfl rfl rfl rfl fun a f => ?_
     obtain ⟨y_1004, hy_1005, hs_527⟩ := bind_some hs_527
     refine l_res f rfl rfl Tryd.call62 (Wk.spec_l1Size m h0_0 hy_1005) fun v_1009 G_1006 Ho_1010 w hl_1007 m hQ_1008 a f => ?_
     obtain ⟨rfl, rfl⟩ := hQ_1008
     have h0_0 := RSl.mono (RSl.mono (RI.mono _)) _ _ _ _ hl_1007 h0_0
     have o_534 := Ow.mono RB.mono hl_1007 o_534
     have o_538 := Ow.mono (RI.mono _) hl_1007 o_538
     refine l_in f rfl rfl rfl b_eql fun a f => ?_
     refine l_nil ?_
     rcases cond_some hs_527 with ⟨hc_1011, hs_527⟩ | ⟨hc_1011, hs_527⟩
     ·refine k_true f rfl hc_1011 ?_
      refine k_seq (k_region ?_)
      refine l_slit (R := (RI .i64)) (xs := ([] : List Int)) (RI.one _) m T36 f rfl rfl rfl (by decide) (All2.nil _) fun it_1012 v_1013 w a m o_1014 f => ?_
      refine l_as f rfl rfl fun a f => ?_
      refine l_as f rfl rfl fun a f => ?_
      refine l_nil ?_
      refine k_ret ?_
      have m := m.eraseAt 3
      have m := m.eraseAt 2
      have m := m.eraseAt 1
      obtain rfl := sj hs_527
      obtain rfl := hq_528 _ rfl
      obtain rfl := sj hd
      exact ⟨[v_1013, (.bool false)], ⟨f.get _ _ rfl, f.get _ _ rfl, trivial⟩, f.defers, _, [it_1012], (GLe.trans hl_6 (GLe.trans hl_18 (GLe.trans hl_540 (GLe.trans hl_793 (GLe.trans hl_955 hl_1007))))), m, _, _, rfl, rfl, o_1014⟩
     ·refine k_false f rfl hc_1011 ?_
      refine k_skip ?_
      refine k_seq (k_region ?_)
      refine l_mv f rfl rfl fun a f => ?_
      refine l_mv f rfl rfl fun a f => ?_
      obtain ⟨e_1016, he_1017, hs_527⟩ := bind_some hs_527
      refine l_own_at 1 m o_534 rfl T104 f rfl rfl rfl he_1017 fun p_1018 a ha_1019 f => ?_
      refine l_own_store 1 m o_534 rfl Tryd.sizeOf4 f rfl rfl ha_1019 he_1017 rfl rfl rfl fun it_1020 w m o_1021 => ?_
      refine l_nil (k_region ?_)
      refine l_mv f rfl rfl fun a f => ?_
      refine l_mv f rfl rfl fun a f => ?_
      refine l_slit (R := (RI .i64)) (xs := ([x_954] : List Int)) (RI.one _) m T36 f rfl rfl rfl (by decide) (All2.cons rfl (All2.nil _)) fun it_1022 v_1023 w a m o_1024 f => ?_
      obtain ⟨l_1026, hx_1027, hs_527⟩ := bind_some hs_527
      refine l_append (RI.one _) 3 m o_538 rfl T36 rfl (by decide) f rfl rfl rfl (Ow.src (j := 0) o_1024 m rfl) hx_1027 fun it_1028 v_1029 w a m o_1030 f => ?_
      refine l_as f rfl rfl fun a f => ?_
      refine l_nil ?_
      have m := m.front 3 rfl
      have m := m.front 3 rfl
      have m := m.front 3 rfl
      have m := m.eraseAt 3
      obtain rfl := sj hs_527
      exact ⟨_, rfl, _, _, rfl, _, it_1020, v_1029, it_1028, (GLe.trans hl_540 (GLe.trans hl_793 (GLe.trans hl_955 hl_1007))), f.weak ⟨rfl, rfl, rfl, trivial⟩, m, o_1021, o_1030⟩
   ·refine k_false f rfl hc_797 ?_
    refine k_exit rfl ?_
    have m := m.front 2 rfl
    have m := m.eraseAt 2
    have m := m.eraseAt 1
    obtain rfl := sj hs_527
    obtain rfl := hq_528 _ rfl
    exact ⟨_, rfl, _, rfl, _, v_536, it_537, (GLe.trans hl_540 hl_793), f.weak ⟨rfl, trivial⟩, m, o_538⟩
  ·rintro a w ⟨_, rfl, l_784, rfl, G_783, v_785, it_786, hl_789, f, m, o_787⟩
   refine k_seq (k_region ?_)
   refine l_mv f rfl rfl fun a f => ?_
   refine l_as f rfl rfl fun a f => ?_
   refine l_as f rfl rfl fun a f => ?_
   refine l_nil ?_
   refine k_ret ?_
   obtain rfl := sj hd
   exact ⟨[v_785, (.bool true)], ⟨f.get _ _ rfl, f.get _ _ rfl, trivial⟩, f.defers, _, [it_786], (GLe.trans hl_6 (GLe.trans hl_18 hl_789)), m, _, _, rfl, rfl, o_787⟩

theorem Wk.spec_ChordalIn {W w : World} {G : GH} {H : List Itm} {v0_0 : Value} {x0_0 : (List (List Int))} (m : Mem W G w (H)) (h0_0 : RSl (RSl (RI .i64)) G v0_0 x0_0) {y : Bool} (hd : D.spec_ChordalIn x0_0 = some y) :
  Calls Tryd.prog 32 #[(.agg #[v0_0])] w (Res W G H (fun _ Ho v => Ho = [] ∧ v = (.bool y))) := by
 refine calls_b (args := [(.agg #[v0_0])]) (N := 11) [.tmp 2] Tryd.func32 rfl rfl (Nat.le_of_ble_eq_true rfl) rfl fun a f => ?_
 unfold D.spec_ChordalIn at hd
 refine k_seq (k_region ?_)
 refine l_box (cs := [v0_0]) m f rfl rfl rfl fun b_2 w a m f => ?_
 refine l_as f rfl rfl fun a f => ?_
 refine l_nil (k_seq (k_region ?_))
 refine l_boxAgg 0 0 (ds := [v0_0]) m Ag27 f rfl rfl rfl rfl rfl fun a f => ?_
 obtain ⟨y_3, hy_4, hd⟩ := bind_some hd
 refine l_res f rfl rfl Tryd.call73 (Wk.spec_PerfectOrder m h0_0 hy_4) fun v_8 G_5 Ho_9 w hl_6 m hQ_7 a f => ?_
 obtain ⟨v_10, it_11, rfl, rfl, o_12⟩ := hQ_7
 have h0_0 := RSl.mono (RSl.mono (RI.mono _)) _ _ _ _ hl_6 h0_0
 refine l_mv f rfl rfl fun a f => ?_
 refine l_op f rfl rfl rfl (r_extract (f.eval rfl) rfl) fun a f => ?_
 refine l_op f rfl rfl rfl (r_extract (f.eval rfl) rfl) fun a f => ?_
 refine l_as f rfl rfl fun a f => ?_
 refine l_as f rfl rfl fun a f => ?_
 refine l_nil (k_seq (k_region ?_))
 refine l_mv f rfl rfl fun a f => ?_
 refine l_as f rfl rfl fun a f => ?_
 refine l_nil ?_
 refine k_ret ?_
 have m : Mem W G_5 w H := Mem.drop (H' := [it_11, Itm.box b_2 27 [v0_0]]) m
 obtain rfl := sj hd
 exact ⟨[(.bool y_3.2)], ⟨f.get _ _ rfl, trivial⟩, f.defers, _, [], hl_6, m, rfl, rfl⟩

theorem Wk.laws_FnCliques {W w : World} {G : GH} {H : List Itm} {v0 : Value} {x0 : (List Int)} (hW : TabW W) (m : Mem W G w (H)) (h0 : RSl (RI .u8) G v0 x0) {y : Bool} (hd : D.laws_FnCliques x0 = some y) :
  Calls Tryd.prog 5 #[v0] w (Res W G H (fun _ Ho v => Ho = [] ∧ v = (.bool y))) := by
 refine calls_b (args := [v0]) (N := 70) [.tmp 2] Tryd.func5 rfl rfl (Nat.le_of_ble_eq_true rfl) rfl fun a f => ?_
 unfold D.laws_FnCliques at hd
 refine k_seq (k_region ?_)
 refine l_as f rfl rfl fun a f => ?_
 refine l_nil (k_seq (k_seq (k_region ?_)))
 refine l_mv f rfl rfl fun a f => ?_
 obtain ⟨y_1, hy_2, hd⟩ := bind_some hd
 refine l_res f rfl rfl Tryd.call15 (Wk.laws_big m h0 hy_2) fun v_6 G_3 Ho_7 w hl_4 m hQ_5 a f => ?_
 obtain ⟨rfl, rfl⟩ := hQ_5
 have h0 := RSl.mono (RI.mono _) _ _ _ _ hl_4 h0
 refine l_nil ?_
 rcases cond_some hd with ⟨hc_8, hd⟩ | ⟨hc_8, hd⟩
 ·refine k_true f rfl hc_8 ?_
  refine k_seq (k_region ?_)
  refine l_as f rfl rfl fun a f => ?_
  refine l_nil ?_
  refine k_ret ?_
  obtain rfl := sj hd
  exact ⟨[(.bool true)], ⟨f.get _ _ rfl, trivial⟩, f.defers, _, [], hl_4, m, rfl, rfl⟩
 ·refine k_false f rfl hc_8 ?_
  refine k_skip ?_
  refine k_seq (k_region ?_)
  refine l_mv f rfl rfl fun a f => ?_
  obtain ⟨y_9, hy_10, hd⟩ := bind_some hd
  refine l_res f rfl rfl Tryd.call26 (Wk.spec_DrawCliquesOf m h0 hy_10) fun v_14 G_11 Ho_15 w hl_12 m hQ_13 a f => ?_
  obtain ⟨v_16, rfl, rfl, h_17⟩ := hQ_13
  have h0 := RSl.mono (RI.mono _) _ _ _ _ hl_12 h0
  refine l_alloc (cs := [(.slice none 0 0)]) Tryd.zeroValue27 m f rfl rfl fun b_19 w a m f => ?_
  refine l_boxStore 0 0 (ds := [v_16]) m Tryd.sizeOf27 f rfl rfl rfl (ones_cons h_17.one1 ones_nil) rfl (Nat.le_of_ble_eq_true rfl) rfl fun w m => ?_
  refine l_nil (k_seq (k_region ?_))
  refine l_boxAgg 0 0 (ds := [v_16]) m Ag27 f rfl rfl rfl rfl rfl fun a f => ?_
  obtain ⟨y_20, hy_21, hd⟩ := bind_some hd
  refine l_res f rfl rfl Tryd.call27 (Wk.impl_CliquesOf hW m h_17 hy_21) fun v_25 G_22 Ho_26 w hl_23 m hQ_24 a f => ?_
  obtain ⟨v_27, it_28, rfl, rfl, o_29⟩ := hQ_24
  have h0 := RSl.mono (RI.mono _) _ _ _ _ hl_23 h0
  have h_17 := RSl.mono (RSl.mono (RI.mono _)) _ _ _ _ hl_23 h_17
  refine l_as f rfl rfl fun a f => ?_
  refine l_nil (k_seq (k_seq (k_region ?_)))
  refine l_mv f rfl rfl fun a f => ?_
  refine l_boxAgg 1 0 (ds := [v_16]) m Ag27 f rfl rfl rfl rfl rfl fun a f => ?_
  obtain ⟨y_31, hy_32, hd⟩ := bind_some hd
  refine l_res f rfl rfl Tryd.call29 (Wk.spec_CliquesOf m h_17 hy_32) fun v_36 G_33 Ho_37 w hl_34 m hQ_35 a f => ?_
  obtain ⟨v_38, it_39, rfl, rfl, o_40⟩ := hQ_35
  have h0 := RSl.mono (RI.mono _) _ _ _ _ hl_34 h0
  have h_17 := RSl.mono (RSl.mono (RI.mono _)) _ _ _ _ hl_34 h_17
  have o_29 := Ow2.mono (RI.mono _) hl_34 o_29
  obtain ⟨y_42, hy_43, hd⟩ := bind_some hd
  refine l_res f rfl rfl Tryd.call28 (Ow2.lendCall (RI.mono _) 1 o_29 m rfl (fun G_44 hl_45 m h_46 => (Ow.lendCall (RSl.mono (RI.mono _)) 0 (Ow.mono (RSl.mono (RI.mono _)) hl_45 o_40) m rfl (fun G_47 hl_48 m h_49 => Wk.laws_w5Lists m (RSl.mono (RSl.mono (RI.mono _)) _ _ _ _ hl_48 h_46) h_49 hy_43) (fun _ _ _ _ h => h))) (fun _ _ _ _ h => h)) fun v_53 G_50 Ho_54 w hl_51 m hQ_52 a f => ?_
  obtain ⟨rfl, rfl⟩ := hQ_52
  have h0 := RSl.mono (RI.mono _) _ _ _ _ hl_51 h0
  have h_17 := RSl.mono (RSl.mono (RI.mono _)) _ _ _ _ hl_51 h_17
  have o_40 := Ow.mono (RSl.mono (RI.mono _)) hl_51 o_40
  have o_29 := Ow2.mono (RI.mono _) hl_51 o_29
  refine l_op f rfl rfl rfl (r_not (f.eval rfl)) fun a f => ?_
  refine l_nil ?_
  rcases cond_some hd with ⟨hc_55, hd⟩ | ⟨hc_55, hd⟩
  ·refine k_true f rfl hc_55 ?_
   refine k_seq (k_region ?_)
   refine l_as f rfl rfl fun a f => ?_
   refine l_nil ?_
   refine k_ret ?_
   have m : Mem W G_50 w H := Mem.drop (H' := [it_39, it_28, Itm.box b_19 27 [v_16]]) m
   obtain rfl := sj hd
   exact ⟨[(.bool false)], ⟨f.get _ _ rfl, trivial⟩, f.defers, _, [], (GLe.trans hl_4 (GLe.trans hl_12 (GLe.trans hl_23 (GLe.trans hl_34 hl_51)))), m, rfl, rfl⟩
  ·refine k_false f rfl hc_55 ?_
   refine k_skip ?_
   refine k_seq (k_seq (k_region ?_))
   refine l_as f rfl rfl fun a f => ?_
   refine l_nil ?_
   have m := m.front 1 rfl
   obtain ⟨G_661, hl_662, m, h_663⟩ := Ow2.stamp (RI.mono _) o_29 m
   have h0 := RSl.mono (RI.mono _) _ _ _ _ hl_662 h0
   have o_40 := Ow.mono (RSl.mono (RI.mono _)) hl_662 o_40
   have h_17 := RSl.mono (RSl.mono (RI.mono _)) _ _ _ _ hl_662 h_17
   obtain ⟨q_655, hl_656, hd⟩ := bind_some hd
   refine k_cut (fun a w => ∃ q_655' : (List (List Int)), q_655 = .inl q_655' ∧ ∃ l_965 : List (List Int), l_965 = q_655' ∧ ∃ (G_964 : GH) (v_966 : Value), GLe G_661 G_964 ∧ Fr a 70 [(3, (.pointer (some ⟨b_19, 0, none⟩))), (4, v_966)] ∧ Mem W G_964 w (Itm.box b_19 27 [v_16] :: H) ∧ RSl (RSl (RI .i64)) G_964 v_966 l_965) ?_ ?_
   ·refine k_block ?_
    have m := m.front 1 rfl
    have m := m.eraseAt 1
    refine k_loop (fun s_659 a w => ∃ l_665 : List (List Int), ∃ x_668 : Int, (l_665, x_668) = s_659 ∧ ∃ (G_664 : GH) (v_666 : Value), GLe G_661 G_664 ∧ Fr a 70 [(3, (.pointer (some ⟨b_19, 0, none⟩))), (4, v_666), (5, (.int .i64 x_668))] ∧ Mem W G_664 w (Itm.box b_19 27 [v_16] :: H) ∧ RSl (RSl (RI .i64)) G_664 v_666 l_665) hl_656 ⟨_, _, rfl, _, v_27, (GLe.refl _), f.weak ⟨rfl, rfl, rfl, trivial⟩, m, h_663⟩ ?_
    clear hl_656 f m
    rintro s_659 o_660 hs_657 hq_658 a w ⟨l_665, x_668, rfl, G_664, v_666, hl_669, f, m, h_667⟩
    have h_17 := RSl.mono (RSl.mono (RI.mono _)) _ _ _ _ hl_669 h_17
    refine k_seq (k_seq (k_region ?_))
    refine l_mv f rfl rfl fun a f => ?_
    refine l_mv f rfl rfl fun a f => ?_
    refine l_len Tryd.underlying22 f rfl rfl h_667 fun a f => ?_
    refine l_in f rfl rfl rfl b_lss fun a f => ?_
    refine l_nil ?_
    rcases cond_some hs_657 with ⟨hc_969, hs_657⟩ | ⟨hc_969, hs_657⟩
    ·refine k_true f rfl hc_969 ?_
     refine k_skip ?_
     refine k_seq (k_block (k_seq (k_seq ?_)))
     refine k_draw 7 Follows (by kernel_rfl) m ?_
     refine q_boxAgg (i := 0) (ds := [v_16]) 7 0 Ag27 rfl rfl rfl rfl (by kernel_rfl) rfl f rfl rfl rfl fun a f => ?_
     refine q_mv 1 7 rfl (by kernel_rfl) f rfl rfl rfl fun a f => ?_
     refine q_mv 2 7 rfl (by kernel_rfl) f rfl rfl rfl fun a f => ?_
     obtain ⟨e_970, he_971, hs_657⟩ := bind_some hs_657
     refine q_at (i := 3) 7 T22 h_667 he_971 rfl (by kernel_rfl) rfl f rfl rfl rfl rfl fun p_972 c_973 a g_974 h_975 f => ?_
     refine q_loadAt (i := 4) 7 Pl36 g_974 rfl (by kernel_rfl) rfl f rfl rfl rfl fun a f => ?_
     obtain ⟨y_976, hy_977, hs_657⟩ := bind_some hs_657
     refine q_call (i := 5) 7 rfl (by kernel_rfl) rfl f rfl rfl rfl Tryd.call30 (fun _ _ w hG_978 m => Wk.impl_CliqueOk hW m (RSl.mono (RSl.mono (RI.mono _)) _ _ _ _ hG_978 h_17) (RSl.mono (RI.mono _) _ _ _ _ hG_978 h_975) hy_977) fun a f => ?_
     refine q_p 6 7 rfl (by kernel_rfl) f rfl rfl rfl (fun _ => r_not (f.eval rfl)) fun a f => ?_
     refine q_end fun G_979 w hl_980 m => ?_
     have h_667 := RSl.mono (RSl.mono (RI.mono _)) _ _ _ _ hl_980 h_667
     have h_17 := RSl.mono (RSl.mono (RI.mono _)) _ _ _ _ hl_980 h_17
     have g_974 := At.mono hl_980 g_974
     have h_975 := RSl.mono (RI.mono _) _ _ _ _ hl_980 h_975
     refine l_nil ?_
     rcases cond_some hs_657 with ⟨hc_981, hs_657⟩ | ⟨hc_981, hs_657⟩
     ·refine k_true f rfl hc_981 ?_
      refine k_seq (k_region ?_)
      refine l_as f rfl rfl fun a f => ?_
      refine l_nil ?_
      refine k_ret ?_
      have m : Mem W G_979 w H := Mem.drop (H' := [Itm.box b_19 27 [v_16]]) m
      obtain rfl := sj hs_657
      obtain rfl := hq_658 _ rfl
      obtain rfl := sj hd
      exact ⟨[(.bool false)], ⟨f.get _ _ rfl, trivial⟩, f.defers, _, [], (GLe.trans hl_4 (GLe.trans hl_12 (GLe.trans hl_23 (GLe.trans hl_34 (GLe.trans hl_51 (GLe.trans hl_662 (GLe.trans hl_669 hl_980))))))), m, rfl, rfl⟩
     ·refine k_false f rfl hc_981 ?_
      refine k_skip ?_
      refine k_seq (k_region ?_)
      refine l_as f rfl rfl fun a f => ?_
      refine l_nil ?_
      obtain ⟨q_1118, hl_1119, hs_657⟩ := bind_some hs_657
      refine k_cut (fun a w => ∃ q_1118' : Unit, q_1118 = .inl q_1118' ∧ ∃ (G_1194 : GH), GLe G_979 G_1194 ∧ Fr a 70 [(3, (.pointer (some ⟨b_19, 0, none⟩))), (4, v_666), (5, (.int .i64 x_668))] ∧ Mem W G_1194 w (Itm.box b_19 27 [v_16] :: H)) ?_ ?_
      ·refine k_block ?_
       refine k_loop (fun s_1122 a w => ∃ x_1125 : Int, x_1125 = s_1122 ∧ ∃ (G_1124 : GH), GLe G_979 G_1124 ∧ Fr a 70 [(3, (.pointer (some ⟨b_19, 0, none⟩))), (4, v_666), (5, (.int .i64 x_668)), (6, (.int .i64 x_1125))] ∧ Mem W G_1124 w (Itm.box b_19 27 [v_16] :: H)) hl_1119 ⟨_, rfl, _, (GLe.refl _), f.weak ⟨rfl, rfl, rfl, rfl, trivial⟩, m⟩ ?_
       clear hl_1119 f m
       rintro s_1122 o_1123 hs_1120 hq_1121 a w ⟨x_1125, rfl, G_1124, hl_1126, f, m⟩
       have h_667 := RSl.mono (RSl.mono (RI.mono _)) _ _ _ _ hl_1126 h_667
       have h_17 := RSl.mono (RSl.mono (RI.mono _)) _ _ _ _ hl_1126 h_17
       refine k_seq (k_seq (k_region ?_))
       refine l_mv f rfl rfl fun a f => ?_
       refine l_fieldAddr Tryd.underlying27 rfl Tryd.sizeOf22 (by decide) f rfl rfl fun a f => ?_
       refine l_boxCell 0 0 m Pl22 f rfl rfl rfl rfl fun a f => ?_
       refine l_len Tryd.underlying22 f rfl rfl h_17 fun a f => ?_
       refine l_in f rfl rfl rfl b_lss fun a f => ?_
       refine l_nil ?_
       rcases cond_some hs_1120 with ⟨hc_1196, hs_1120⟩ | ⟨hc_1196, hs_1120⟩
       ·refine k_true f rfl hc_1196 ?_
        refine k_skip ?_
        refine k_seq (k_block (k_seq (k_region ?_)))
        refine l_mv f rfl rfl fun a f => ?_
        refine l_mv f rfl rfl fun a f => ?_
        obtain ⟨e_1197, he_1198, hs_1120⟩ := bind_some hs_1120
        refine l_at T22 f rfl rfl rfl h_667 he_1198 fun p_1199 c_1200 a g_1201 h_1202 f => ?_
        refine l_loadAt m Pl36 f rfl rfl g_1201 fun a f => ?_
        refine l_mv f rfl rfl fun a f => ?_
        refine l_slit (R := (RI .i64)) (xs := ([x_1125] : List Int)) (RI.one _) m T36 f rfl rfl rfl (by decide) (All2.cons rfl (All2.nil _)) fun it_1203 v_1204 w a m o_1205 f => ?_
        obtain ⟨y_1207, hy_1208, hs_1120⟩ := bind_some hs_1120
        refine l_res f rfl rfl Tryd.call31 (Ow.lendCall (RI.mono _) 0 o_1205 m rfl (fun G_1209 hl_1210 m h_1211 => Wk.laws_w5Both m (RSl.mono (RI.mono _) _ _ _ _ hl_1210 h_1202) h_1211 hy_1208) (fun _ G' _ _ ⟨a0, a1, e1, e2, o0⟩ => ⟨a0, a1, e1, e2, Ow.free (RI.free _) G' o0⟩)) fun v_1215 G_1212 Ho_1216 w hl_1213 m hQ_1214 a f => ?_
        obtain ⟨v_1217, it_1218, rfl, rfl, o_1219⟩ := hQ_1214
        have h_667 := RSl.mono (RSl.mono (RI.mono _)) _ _ _ _ hl_1213 h_667
        have g_1201 := At.mono hl_1213 g_1201
        have h_1202 := RSl.mono (RI.mono _) _ _ _ _ hl_1213 h_1202
        have o_1205 := Ow.mono (RI.mono _) hl_1213 o_1205
        have h_17 := RSl.mono (RSl.mono (RI.mono _)) _ _ _ _ hl_1213 h_17
        refine l_as f rfl rfl fun a f => ?_
        refine l_nil (k_seq (k_region ?_))
        refine l_mv f rfl rfl fun a f => ?_
        refine l_own_len 0 m o_1219 rfl Tryd.underlying36 f rfl rfl fun a f => ?_
        refine l_mv f rfl rfl fun a f => ?_
        refine l_mv f rfl rfl fun a f => ?_
        obtain ⟨e_1221, he_1222, hs_1120⟩ := bind_some hs_1120
        refine l_at T22 f rfl rfl rfl h_667 he_1222 fun p_1223 c_1224 a g_1225 h_1226 f => ?_
        refine l_loadAt m Pl36 f rfl rfl g_1225 fun a f => ?_
        refine l_len Tryd.underlying36 f rfl rfl h_1226 fun a f => ?_
        refine l_in f rfl rfl rfl b_gtr fun a f => ?_
        refine l_mv f rfl rfl fun a f => ?_
        obtain ⟨b_1250, hj_1251, hs_1120⟩ := bind_some hs_1120
        refine l_cut 4 (fun a w => ∃ G_1248, GLe G_1212 G_1248 ∧ Mem W G_1248 w (it_1218 :: it_1203 :: Itm.box b_19 27 [v_16] :: H) ∧ Fr a 70 [(3, (.pointer (some ⟨b_19, 0, none⟩))), (4, v_666), (5, (.int .i64 x_668)), (6, (.int .i64 x_1125)), (7, v_1217), (46, v_1217), (47, (.int .i64 (y_1207.length : Int))), (48, v_666), (49, (.int .i64 x_668)), (50, p_1223), (51, c_1224), (52, (.int .i64 (e_1221.length : Int))), (53, (.bool (decide ((e_1221.length : Int) < (y_1207.length : Int))))), (54, (.bool (decide ((e_1221.length : Int) < (y_1207.length : Int))))), (58, (.bool b_1250))]) ?_ ?_
        ·rcases cond_some hj_1251 with ⟨hc_1227, hj_1251⟩ | ⟨hc_1227, hj_1251⟩
         ·refine l_run f rfl rfl hc_1227 ?_
          refine l_boxAgg 2 0 (ds := [v_16]) m Ag27 f rfl rfl rfl rfl rfl fun a f => ?_
          refine l_run f rfl rfl hc_1227 ?_
          refine l_mv f rfl rfl fun a f => ?_
          refine l_run f rfl rfl hc_1227 ?_
          obtain ⟨y_1252, hy_1253, hj_1251⟩ := bind_some hj_1251
          refine l_res f rfl rfl Tryd.call30 (Ow.lendCall (RI.mono _) 0 o_1219 m rfl (fun G_1254 hl_1255 m h_1256 => Wk.impl_CliqueOk hW m (RSl.mono (RSl.mono (RI.mono _)) _ _ _ _ hl_1255 h_17) h_1256 hy_1253) (fun _ _ _ _ h => h)) fun v_1260 G_1257 Ho_1261 w hl_1258 m hQ_1259 a f => ?_
          obtain ⟨rfl, rfl⟩ := hQ_1259
          have h_667 := RSl.mono (RSl.mono (RI.mono _)) _ _ _ _ hl_1258 h_667
          have g_1225 := At.mono hl_1258 g_1225
          have h_1226 := RSl.mono (RI.mono _) _ _ _ _ hl_1258 h_1226
          have h_17 := RSl.mono (RSl.mono (RI.mono _)) _ _ _ _ hl_1258 h_17
          have o_1219 := Ow.mono (RI.mono _) hl_1258 o_1219
          have o_1205 := Ow.mono (RI.mono _) hl_1258 o_1205
          refine l_op f rfl rfl rfl (r_pickT (f.eval rfl) hc_1227 (f.eval rfl)) fun a f => ?_
          obtain rfl := sj hj_1251
          have m := m.front 2 rfl
          have m := m.front 2 rfl
          have m := m.front 2 rfl
          exact ⟨_, hl_1258, m, f.weak ⟨rfl, rfl, rfl, rfl, rfl, rfl, rfl, rfl, rfl, rfl, rfl, rfl, rfl, rfl, rfl, trivial⟩⟩
         ·refine l_not' f rfl rfl rfl hc_1227 fun a f => ?_
          refine l_not' f rfl rfl rfl hc_1227 fun a f => ?_
          refine l_not' f rfl rfl rfl hc_1227 fun a f => ?_
          refine l_op f rfl rfl rfl (r_pickF (f.eval rfl) hc_1227 (f.eval rfl)) fun a f => ?_
          obtain rfl := sj hj_1251
          have m := m.front 2 rfl
          have m := m.front 2 rfl
          have m := m.front 2 rfl
          exact ⟨_, (GLe.refl _), m, f.weak ⟨rfl, rfl, rfl, rfl, rfl, rfl, rfl, rfl, rfl, rfl, rfl, rfl, rfl, rfl, rfl, trivial⟩⟩
        ·rintro a w ⟨G_1248, hl_1249, m, f⟩
         have h_667 := RSl.mono (RSl.mono (RI.mono _)) _ _ _ _ hl_1249 h_667
         have g_1225 := At.mono hl_1249 g_1225
         have h_1226 := RSl.mono (RI.mono _) _ _ _ _ hl_1249 h_1226
         have o_1219 := Ow.mono (RI.mono _) hl_1249 o_1219
         have o_1205 := Ow.mono (RI.mono _) hl_1249 o_1205
         have h_17 := RSl.mono (RSl.mono (RI.mono _)) _ _ _ _ hl_1249 h_17
         refine l_nil ?_
         rcases cond_some hs_1120 with ⟨hc_1262, hs_1120⟩ | ⟨hc_1262, hs_1120⟩
         ·refine k_true f rfl hc_1262 ?_
          refine k_seq (k_region ?_)
          refine l_as f rfl rfl fun a f => ?_
          refine l_nil ?_
          refine k_ret ?_
          have m : Mem W G_1248 w H := Mem.drop (H' := [it_1218, it_1203, Itm.box b_19 27 [v_16]]) m
          obtain rfl := sj hs_1120
          obtain rfl := hq_1121 _ rfl
          obtain rfl := sj hs_657
          obtain rfl := hq_658 _ rfl
          obtain rfl := sj hd
          exact ⟨[(.bool false)], ⟨f.get _ _ rfl, trivial⟩, f.defers, _, [], (GLe.trans hl_4 (GLe.trans hl_12 (GLe.trans hl_23 (GLe.trans hl_34 (GLe.trans hl_51 (GLe.trans hl_662 (GLe.trans hl_669 (GLe.trans hl_980 (GLe.trans hl_1126 (GLe.trans hl_1213 hl_1249)))))))))), m, rfl, rfl⟩
         ·refine k_false f rfl hc_1262 ?_
          refine k_skip ?_
          refine k_region ?_
          refine l_mv f rfl rfl fun a f => ?_
          refine l_in f rfl rfl rfl b_add fun a f => ?_
          refine l_as f rfl rfl fun a f => ?_
          refine l_nil ?_
          have m := m.front 2 rfl
          have m := m.eraseAt 2
          have m := m.eraseAt 1
          obtain rfl := sj hs_1120
          exact ⟨_, rfl, _, rfl, _, (GLe.trans hl_1126 (GLe.trans hl_1213 hl_1249)), f.weak ⟨rfl, rfl, rfl, rfl, trivial⟩, m⟩
       ·refine k_false f rfl hc_1196 ?_
        refine k_exit rfl ?_
        obtain rfl := sj hs_1120
        obtain rfl := hq_1121 _ rfl
        exact ⟨_, rfl, _, hl_1126, f.weak ⟨rfl, rfl, rfl, trivial⟩, m⟩
      ·rintro a w ⟨_, rfl, G_1194, hl_1195, f, m⟩
       have h_667 := RSl.mono (RSl.mono (RI.mono _)) _ _ _ _ hl_1195 h_667
       have h_17 := RSl.mono (RSl.mono (RI.mono _)) _ _ _ _ hl_1195 h_17
       refine k_region ?_
       refine l_mv f rfl rfl fun a f => ?_
       refine l_in f rfl rfl rfl b_add fun a f => ?_
       refine l_as f rfl rfl fun a f => ?_
       refine l_nil ?_
       obtain rfl := sj hs_657
       exact ⟨_, rfl, _, _, rfl, _, v_666, (GLe.trans hl_669 (GLe.trans hl_980 hl_1195)), f.weak ⟨rfl, rfl, rfl, trivial⟩, m, h_667⟩
    ·refine k_false f rfl hc_969 ?_
     refine k_exit rfl ?_
     obtain rfl := sj hs_657
     obtain rfl := hq_658 _ rfl
     exact ⟨_, rfl, _, rfl, _, v_666, hl_669, f.weak ⟨rfl, rfl, trivial⟩, m, h_667⟩
   ·rintro a w ⟨_, rfl, l_965, rfl, G_964, v_966, hl_968, f, m, h_967⟩
    have h_17 := RSl.mono (RSl.mono (RI.mono _)) _ _ _ _ hl_968 h_17
    refine k_seq (k_region ?_)
    refine l_boxAgg 0 0 (ds := [v_16]) m Ag27 f rfl rfl rfl rfl rfl fun a f => ?_
    obtain ⟨y_1263, hy_1264, hd⟩ := bind_some hd
    refine l_res f rfl rfl Tryd.call32 (Wk.spec_ChordalIn m h_17 hy_1264) fun v_1268 G_1265 Ho_1269 w hl_1266 m hQ_1267 a f => ?_
    obtain ⟨rfl, rfl⟩ := hQ_1267
    have h_967 := RSl.mono (RSl.mono (RI.mono _)) _ _ _ _ hl_1266 h_967
    have h_17 := RSl.mono (RSl.mono (RI.mono _)) _ _ _ _ hl_1266 h_17
    refine l_op f rfl rfl rfl (r_not (f.eval rfl)) fun a f => ?_
    refine l_mv f rfl rfl fun a f => ?_
    refine l_cut 7 (fun a w => ∃ G_1271, GLe G_1265 G_1271 ∧ Mem W G_1271 w (Itm.box b_19 27 [v_16] :: H) ∧ Fr a 70 [(3, (.pointer (some ⟨b_19, 0, none⟩))), (4, v_966), (59, (.agg #[v_16])), (60, (.bool y_1263)), (61, (.bool (!y_1263))), (62, (.bool (!y_1263))), (69, (.bool ((!y_1263) || (decide ((l_965.length : Int) ≤ (y_9.length : Int))))))]) ?_ ?_
    ·rcases Bool.eq_false_or_eq_true (!y_1263) with hc_1270 | hc_1270
     ·refine l_not' f rfl rfl rfl hc_1270 fun a f => ?_
      refine l_not' f rfl rfl rfl hc_1270 fun a f => ?_
      refine l_not' f rfl rfl rfl hc_1270 fun a f => ?_
      refine l_not' f rfl rfl rfl hc_1270 fun a f => ?_
      refine l_not' f rfl rfl rfl hc_1270 fun a f => ?_
      refine l_not' f rfl rfl rfl hc_1270 fun a f => ?_
      refine l_op f rfl rfl rfl (r_pickT (f.eval rfl) hc_1270 (f.eval rfl)) fun a f => ?_
      exact ⟨_, (GLe.refl _), m, f.weak ⟨rfl, rfl, rfl, rfl, rfl, rfl, by rw [hc_1270]; rfl, trivial⟩⟩
     ·refine l_run f rfl rfl hc_1270 ?_
      refine l_mv f rfl rfl fun a f => ?_
      refine l_run f rfl rfl hc_1270 ?_
      refine l_len Tryd.underlying22 f rfl rfl h_967 fun a f => ?_
      refine l_run f rfl rfl hc_1270 ?_
      refine l_fieldAddr Tryd.underlying27 rfl Tryd.sizeOf22 (by decide) f rfl rfl fun a f => ?_
      refine l_run f rfl rfl hc_1270 ?_
      refine l_boxCell 0 0 m Pl22 f rfl rfl rfl rfl fun a f => ?_
      refine l_run f rfl rfl hc_1270 ?_
      refine l_len Tryd.underlying22 f rfl rfl h_17 fun a f => ?_
      refine l_run f rfl rfl hc_1270 ?_
      refine l_in f rfl rfl rfl b_leq fun a f => ?_
      refine l_op f rfl rfl rfl (r_pickF (f.eval rfl) hc_1270 (f.eval rfl)) fun a f => ?_
      exact ⟨_, (GLe.refl _), m, f.weak ⟨rfl, rfl, rfl, rfl, rfl, rfl, by rw [hc_1270]; rfl, trivial⟩⟩
    ·rintro a w ⟨G_1271, hl_1272, m, f⟩
     have h_967 := RSl.mono (RSl.mono (RI.mono _)) _ _ _ _ hl_1272 h_967
     have h_17 := RSl.mono (RSl.mono (RI.mono _)) _ _ _ _ hl_1272 h_17
     refine l_as f rfl rfl fun a f => ?_
     refine l_nil ?_
     refine k_ret ?_
     have m : Mem W G_1271 w H := Mem.drop (H' := [Itm.box b_19 27 [v_16]]) m
     obtain rfl := sj hd
     exact ⟨[(.bool ((!y_1263) || (decide ((l_965.length : Int) ≤ (y_9.length : Int)))))], ⟨f.get _ _ rfl, trivial⟩, f.defers, _, [], (GLe.trans hl_4 (GLe.trans hl_12 (GLe.trans hl_23 (GLe.trans hl_34 (GLe.trans hl_51 (GLe.trans hl_662 (GLe.trans hl_968 (GLe.trans hl_1266 hl_1272)))))))), m, rfl, rfl⟩

end Go.Proofs.YtocakchlhemmeaaDoor
