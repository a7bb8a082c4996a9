/- Parts of the proof: PBW, PCW, PHandP. -/
import Derived.Test.YtkffjeaefgfnnaaDoorPr3
import Derived.Test.YtkffjeaefgfnnaaDoorProg
import Derived.KernelRfl
set_option linter.unusedVariables false
set_option linter.unusedSimpArgs false
set_option linter.unusedSectionVars false
set_option maxRecDepth 100000
namespace Go.Proofs.YtkffjeaefgfnnaaDoor
open Go Go.Sx
theorem T22 : SlT Tryd.prog 22 5 1 1 (.int .u8 0) := ⟨Tryd.underlying22, Tryd.t5, by kernel_rfl, by kernel_rfl, by kernel_rfl, by kernel_rfl⟩
theorem Pl26 : Plain Tryd.prog 26 := Tryd.isAgg26
theorem T27 : SlT Tryd.prog 27 32 1 24 (.slice none 0 0) := ⟨Tryd.underlying27, Tryd.t32, by kernel_rfl, by kernel_rfl, by kernel_rfl, by kernel_rfl⟩
theorem Pl27 : Plain Tryd.prog 27 := Tryd.isAgg27
theorem Ag29 : Agg Tryd.prog 29 1 := ⟨Tryd.isAgg29, Tryd.sizeOf29⟩
theorem Pl32 : Plain Tryd.prog 32 := Tryd.isAgg32
theorem Pl22 : Plain Tryd.prog 22 := Tryd.isAgg22

theorem Wk.A0 {W w : World} {G : GH} {H : List Itm} {v0 : Value} {x0 : (List Int)} (m : Mem W G w (H)) (h0 : RSl (RI .u8) G v0 x0) {y : Bool} (hd : D.A0 x0 = some y) :
  Calls Tryd.prog 5 #[v0] w (Res W G H (fun _ Ho v => Ho = [] ∧ v = (.bool y))) := by
 refine calls_b (args := [v0]) (N := 6) [.tmp 2] Tryd.func5 rfl rfl (Nat.le_of_ble_eq_true rfl) rfl fun a f => ?_
 unfold D.A0 at hd
 refine k_seq (k_region ?_)
 refine l_as f rfl rfl fun a f => l_nil (k_seq (k_region ?_))
 refine l_mv f rfl rfl fun a f => l_len Tryd.underlying22 f rfl rfl h0 fun a f => l_in f rfl rfl rfl b_gtr fun a f => l_as f rfl rfl fun a f => l_nil ?_
 refine k_ret ?_
 obtain rfl := sj hd
 exact ⟨[(.bool (decide ((4096 : Int) < (x0.length : Int))))], ⟨f.get _ _ rfl, trivial⟩, f.defers, _, [], (GLe.refl _), m, rfl, rfl⟩

theorem Wk.p0 {W w : World} {G : GH} {H : List Itm} {v0 : Value} {x0 : (List Int)} {x1 : Int} (m : Mem W G w (H)) (h0 : RSl (RI .u8) G v0 x0) {y : ((List Int)) × Int × Int} (hd : D.p0 x0 x1 = some y) :
  Calls Tryd.prog 6 #[v0, (.int .u64 x1)] w (Res W G H (fun G' Ho v => ∃ r0 : Value, ∃ c1 : Nat, Ho = [Itm.box c1 51 [r0, (.int .i64 y.2.1), (.int .u64 y.2.2)]] ∧ v = (.pointer (some ⟨c1, 0, none⟩)) ∧ RSl (RI .u8) G' r0 y.1)) := by
 refine calls_b (args := [v0, (.int .u64 x1)]) (N := 38) [.tmp 4] Tryd.func6 rfl rfl (Nat.le_of_ble_eq_true rfl) rfl fun a f => ?_
 unfold D.p0 at hd
 refine k_seq (k_region ?_)
 refine l_as f rfl rfl fun a f => l_nil (k_seq (k_region ?_))
 refine l_mv f rfl rfl fun a f => l_mv f rfl rfl fun a f => l_in f rfl rfl rfl b_mul fun a f => l_mv f rfl rfl fun a f => l_len Tryd.underlying22 f rfl rfl h0 fun a f => l_op f rfl rfl rfl (r_conv (f.eval rfl) ⟨_, Tryd.underlying3⟩ Tryd.underlying26) fun a f => l_in f rfl rfl rfl b_add fun a f => ?_
 have aa : ∀ w, (Instr.build 51 #[(0, v0), (2, (.int .u64 (IntKind.u64.wrap ((IntKind.u64.wrap (x1 * 7919)) + (IntKind.u64.wrap (x0.length : Int))))))]).run Tryd.prog w = .ok (.agg #[v0, (.int .i64 0), (.int .u64 (IntKind.u64.wrap ((IntKind.u64.wrap (x1 * 7919)) + (IntKind.u64.wrap (x0.length : Int)))))]) w := by intro w; simp [Instr.build, Instr.fill, h0.cells, cells_int, cells_bool, cells_string, cells_slice, cells_pointer, cells_agg]
 refine l_build f rfl rfl aa fun a f => l_box (cs := [v0, (.int .i64 0), (.int .u64 (IntKind.u64.wrap ((IntKind.u64.wrap (x1 * 7919)) + (IntKind.u64.wrap (x0.length : Int)))))]) m f rfl rfl rfl fun ab w a m f => l_as f rfl rfl fun a f => l_nil (k_seq (k_seq (k_region ?_)))
 refine l_as f rfl rfl fun a f => l_nil ?_
 obtain ⟨ac, ad, hd⟩ := bind_some hd
 refine k_cut (fun a w => ∃ ae : Int, ae = ac ∧ ∃ (af : GH), GLe G af ∧ Fr a 38 [(5, (.pointer (some ⟨ab, 0, none⟩)))] ∧ Mem W af w (Itm.box ab 51 [v0, (.int .i64 0), (.int .u64 ae)] :: H)) ?_ ?_
 ·refine k_block ?_
  refine k_loop (fun ag a w => ∃ ah : Int, ∃ ai : Int, (ah, ai) = ag ∧ ∃ (aj : GH), GLe G aj ∧ Fr a 38 [(0, v0), (5, (.pointer (some ⟨ab, 0, none⟩))), (6, (.int .i64 ah))] ∧ Mem W aj w (Itm.box ab 51 [v0, (.int .i64 0), (.int .u64 ai)] :: H)) ad ⟨_, _, rfl, _, (GLe.refl _), f.weak ⟨rfl, rfl, rfl, trivial⟩, m⟩ ?_
  clear ad f m
  rintro ag ak al am a w ⟨ah, ai, rfl, aj, an, f, m⟩
  have h0 := rd1 an h0
  refine k_seq (k_seq (k_region ?_))
  refine l_mv f rfl rfl fun a f => l_mv f rfl rfl fun a f => l_len Tryd.underlying22 f rfl rfl h0 fun a f => l_in f rfl rfl rfl b_lss fun a f => l_nil ?_
  rcases cond_some al with ⟨ao, al⟩ | ⟨ao, al⟩
  ·refine k_true f rfl ao ?_
   refine k_skip ?_
   refine k_seq (k_block ?_)
   refine k_draw 15 Follows (by kernel_rfl) m ?_
   refine q_mv 0 15 rfl (by kernel_rfl) f rfl rfl rfl fun a f => q_mv 1 15 rfl (by kernel_rfl) f rfl rfl rfl fun a f => q_p 2 15 rfl (by kernel_rfl) f rfl rfl rfl (fun _ => r_nilCheck (f.eval rfl)) fun a f => q_fieldAddr (i := 3) 15 Tryd.underlying51 rfl Tryd.sizeOf26 (by decide) rfl (by kernel_rfl) rfl f rfl rfl rfl fun a f => q_boxCell (i := 4) 15 0 Pl26 rfl rfl rfl (by kernel_rfl) rfl f rfl rfl rfl fun a f => q_p 5 15 rfl (by kernel_rfl) f rfl rfl rfl (fun _ => r_int (f.eval rfl) (f.eval rfl) b_mul) fun a f => q_mv 6 15 rfl (by kernel_rfl) f rfl rfl rfl fun a f => q_mv 7 15 rfl (by kernel_rfl) f rfl rfl rfl fun a f => ?_
   obtain ⟨ap, aq, al⟩ := bind_some al
   refine q_at (i := 8) 15 T22 h0 aq rfl (by kernel_rfl) rfl f rfl rfl rfl rfl fun ar au a av aw f => ?_
   subst aw
   refine q_loadAt (i := 9) 15 Pl5 av rfl (by kernel_rfl) rfl f rfl rfl rfl fun a f => q_p 10 15 rfl (by kernel_rfl) f rfl rfl rfl (fun _ => r_conv (f.eval rfl) ⟨_, Tryd.underlying5⟩ Tryd.underlying26) fun a f => q_p 11 15 rfl (by kernel_rfl) f rfl rfl rfl (fun _ => r_int (f.eval rfl) (f.eval rfl) b_add) fun a f => q_p 12 15 rfl (by kernel_rfl) f rfl rfl rfl (fun _ => r_int (f.eval rfl) (f.eval rfl) b_add) fun a f => q_p 13 15 rfl (by kernel_rfl) f rfl rfl rfl (fun _ => r_nilCheck (f.eval rfl)) fun a f => q_fieldAddr (i := 14) 15 Tryd.underlying51 rfl Tryd.sizeOf26 (by decide) rfl (by kernel_rfl) rfl f rfl rfl rfl fun a f => q_end fun ax w ay m => ?_
   have h0 := rd1 ay h0
   have av := At.mono ay av
   refine l_boxStore 0 2 (ds := [(.int .u64 (IntKind.u64.wrap ((IntKind.u64.wrap ((IntKind.u64.wrap (ai * 1099511628211)) + (IntKind.u64.wrap ap))) + 3)))]) m Tryd.sizeOf26 f rfl rfl rfl (ones_cons rfl ones_nil) rfl (Nat.le_of_ble_eq_true rfl) rfl fun w m => l_nil (k_region ?_)
   refine l_mv f rfl rfl fun a f => l_in f rfl rfl rfl b_add fun a f => l_as f rfl rfl fun a f => l_nil ?_
   obtain rfl := sj al
   exact ⟨_, rfl, _, _, rfl, _, (GLe.trans an ay), f.weak ⟨rfl, rfl, rfl, trivial⟩, m⟩
  ·refine k_false f rfl ao ?_
   refine k_exit rfl ?_
   obtain rfl := sj al
   obtain rfl := am _ rfl
   exact ⟨_, rfl, _, an, f.weak ⟨rfl, trivial⟩, m⟩
 ·rintro a w ⟨ae, rfl, af, az, f, m⟩
  have h0 := rd1 az h0
  refine k_seq (k_region ?_)
  refine l_mv f rfl rfl fun a f => l_as f rfl rfl fun a f => l_nil ?_
  refine k_ret ?_
  obtain rfl := sj hd
  exact ⟨[(.pointer (some ⟨ab, 0, none⟩))], ⟨f.get _ _ rfl, trivial⟩, f.defers, _, [Itm.box ab 51 [v0, (.int .i64 0), (.int .u64 ae)]], az, m, _, _, rfl, rfl, h0⟩

theorem Wk.d {W w : World} {G : GH} {H : List Itm} {x0 : Int} {x1 : Int} {x2 : Int} (m : Mem W G w (H))  {y : Bool} (hd : D.d x0 x1 x2 = some y) :
  Calls Tryd.prog 62 #[(.int .i64 x0), (.int .i64 x1), (.int .i64 x2)] w (Res W G H (fun _ Ho v => Ho = [] ∧ v = (.bool y))) := by
 refine calls_b (args := [(.int .i64 x0), (.int .i64 x1), (.int .i64 x2)]) (N := 15) [.tmp 6] Tryd.func62 rfl rfl (Nat.le_of_ble_eq_true rfl) rfl fun a f => ?_
 unfold D.d at hd
 refine k_seq (k_region ?_)
 refine l_as f rfl rfl fun a f => l_nil (k_seq (k_region ?_))
 refine l_mv f rfl rfl fun a f => l_mv f rfl rfl fun a f => l_in f rfl rfl rfl b_geq fun a f => l_mv f rfl rfl fun a f => ?_
 refine l_cut 4 (fun a w => ∃ aa, GLe G aa ∧ Mem W aa w (H) ∧ Fr a 15 [(0, (.int .i64 x0)), (1, (.int .i64 x1)), (2, (.int .i64 x2)), (7, (.int .i64 x0)), (8, (.int .i64 x1)), (9, (.bool (decide (x1 ≤ x0)))), (10, (.bool (decide (x1 ≤ x0)))), (14, (.bool ((decide (x1 ≤ x0)) && (decide (x0 ≤ x2)))))]) ?_ ?_
 ·rcases Bool.eq_false_or_eq_true (decide (x1 ≤ x0)) with ab | ab
  ·refine l_run f rfl rfl ab ?_
   refine l_mv f rfl rfl fun a f => l_run f rfl rfl ab ?_
   refine l_mv f rfl rfl fun a f => l_run f rfl rfl ab ?_
   refine l_in f rfl rfl rfl b_leq fun a f => l_op f rfl rfl rfl (r_pickT (f.eval rfl) ab (f.eval rfl)) fun a f => ?_
   exact ⟨_, (GLe.refl _), m, f.weak ⟨rfl, rfl, rfl, rfl, rfl, rfl, rfl, by rw [ab]; rfl, trivial⟩⟩
  ·refine l_not' f rfl rfl rfl ab fun a f => ?_
   refine l_not' f rfl rfl rfl ab fun a f => l_not' f rfl rfl rfl ab fun a f => l_op f rfl rfl rfl (r_pickF (f.eval rfl) ab (f.eval rfl)) fun a f => ?_
   exact ⟨_, (GLe.refl _), m, f.weak ⟨rfl, rfl, rfl, rfl, rfl, rfl, rfl, by rw [ab]; rfl, trivial⟩⟩
 ·rintro a w ⟨aa, ac, m, f⟩
  refine l_as f rfl rfl fun a f => l_nil ?_
  refine k_ret ?_
  obtain rfl := sj hd
  exact ⟨[(.bool ((decide (x1 ≤ x0)) && (decide (x0 ≤ x2))))], ⟨f.get _ _ rfl, trivial⟩, f.defers, _, [], ac, m, rfl, rfl⟩

theorem Wk.D {W w : World} {G : GH} {H : List Itm} {x0 : Int} (m : Mem W G w (H))  {y : ((List (List Int)))} (hd : D.D x0 = some y) :
  Calls Tryd.prog 63 #[(.int .i64 x0)] w (Res W G H (fun G' Ho v => ∃ r0 : Value, ∃ i0 : Itm, Ho = [i0] ∧ v = (.agg #[r0]) ∧ Ow (RSl (RI .i64)) 32 G' i0 r0 y)) := by
 refine calls_b (args := [(.int .i64 x0)]) (N := 18) [.cell 2 29] Tryd.func63 rfl rfl (Nat.le_of_ble_eq_true rfl) rfl fun a f => ?_
 unfold D.D at hd
 refine k_seq (k_region ?_)
 refine l_alloc (cs := [(.slice none 0 0)]) Tryd.zeroValue29 m f rfl rfl fun aa w a m f => l_nil (k_seq (k_region ?_))
 have ab : ∀ w, (Instr.build 29 #[]).run Tryd.prog w = .ok (.agg #[(.slice none 0 0)]) w := by intro w; simp [Instr.build, Instr.fill, cells_int, cells_bool, cells_string, cells_slice, cells_pointer, cells_agg]
 refine l_build f rfl rfl ab fun a f => l_alloc (cs := [(.slice none 0 0)]) Tryd.zeroValue29 m f rfl rfl fun ac w a m f => l_boxStore 0 0 (ds := [(.slice none 0 0)]) m Tryd.sizeOf29 f rfl rfl rfl (ones_cons rfl ones_nil) rfl (Nat.le_of_ble_eq_true rfl) rfl fun w m => l_nil (k_seq (k_seq (k_region ?_)))
 refine l_as f rfl rfl fun a f => l_nil ?_
 obtain ⟨ad, m, ae⟩ := Ow.nil (RSl (RI .i64)) 32 m
 obtain ⟨af, ag, hd⟩ := bind_some hd
 refine k_cut (fun a w => ∃ ah : List (List Int), ah = af ∧ ∃ (ai : GH) (aj : Value) (ak : Itm), GLe G ai ∧ Fr a 18 [(2, (.pointer (some ⟨aa, 0, none⟩))), (3, (.pointer (some ⟨ac, 0, none⟩)))] ∧ Mem W ai w (Itm.box aa 29 [(.slice none 0 0)] :: Itm.box ac 29 [aj] :: ak :: H) ∧ Ow (RSl (RI .i64)) 32 ai ak aj ah) ?_ ?_
 ·refine k_block ?_
  have m := m.front 1 rfl
  have m := m.front 2 rfl
  refine k_loop (fun al a w => ∃ am : Int, ∃ an : List (List Int), (am, an) = al ∧ ∃ (ao : GH) (ap : Value) (aq : Itm), GLe G ao ∧ Fr a 18 [(0, (.int .i64 x0)), (2, (.pointer (some ⟨aa, 0, none⟩))), (3, (.pointer (some ⟨ac, 0, none⟩))), (4, (.int .i64 am))] ∧ Mem W ao w (Itm.box aa 29 [(.slice none 0 0)] :: Itm.box ac 29 [ap] :: aq :: H) ∧ Ow (RSl (RI .i64)) 32 ao aq ap an) ag ⟨_, _, rfl, _, (.slice none 0 0), ad, (GLe.refl _), f.weak ⟨rfl, rfl, rfl, rfl, trivial⟩, m, ae⟩ ?_
  clear ag f m
  rintro al ar au av a w ⟨am, an, rfl, ao, ap, aq, aw, f, m, ax⟩
  refine k_seq (k_seq (k_region ?_))
  refine l_mv f rfl rfl fun a f => l_mv f rfl rfl fun a f => l_in f rfl rfl rfl b_lss fun a f => l_nil ?_
  rcases cond_some au with ⟨ay, au⟩ | ⟨ay, au⟩
  ·refine k_true f rfl ay ?_
   refine k_skip ?_
   refine k_seq (k_block (k_region ?_))
   refine l_fieldAddr Tryd.underlying29 rfl Tryd.sizeOf27 (by decide) f rfl rfl fun a f => l_boxCell 1 0 m Pl27 f rfl rfl rfl rfl fun a f => l_slit (R := (RI .i64)) (xs := ([] : List Int)) (RI.one _) m T32 f rfl rfl rfl (by decide) (All2.nil _) fun az aA w a m aB f => ?_
   obtain ⟨aC, aD, m, aE⟩ := Ow.stamp (RI.mono _) aB m
   have ax := Ow.mono (RSl.mono (RI.mono _)) aD ax
   refine l_slit (R := (RSl (RI .i64))) (xs := ([([] : List Int)] : List (List Int))) (RSl.one _) m T27 f rfl rfl rfl (by decide) (All2.cons aE (All2.nil _)) fun aF aG w a m aH f => ?_
   obtain ⟨aI, aJ, au⟩ := bind_some au
   refine l_append (RSl.one _) 3 m ax rfl T27 rfl (by decide) f rfl rfl rfl (Ow.src (j := 0) aH m rfl) aJ fun aK aL w a m aM f => l_fieldAddr Tryd.underlying29 rfl Tryd.sizeOf27 (by decide) f rfl rfl fun a f => l_boxStore 2 0 (ds := [aL]) m Tryd.sizeOf27 f rfl rfl (Ow.cells 3 m aM rfl) (ones_cons (Ow.one1 3 m aM rfl) ones_nil) rfl (Nat.le_of_ble_eq_true rfl) rfl fun w m => l_nil (k_region ?_)
   refine l_mv f rfl rfl fun a f => l_in f rfl rfl rfl b_add fun a f => l_as f rfl rfl fun a f => l_nil ?_
   have m := m.front 3 rfl
   have m := m.front 3 rfl
   have m : Mem W aC w (Itm.box aa 29 [(.slice none 0 0)] :: Itm.box ac 29 [aL] :: aK :: aF :: H) := m.front 3 rfl
   have m := m.eraseAt 3
   obtain rfl := sj au
   exact ⟨_, rfl, _, _, rfl, _, aL, aK, (GLe.trans aw aD), f.weak ⟨rfl, rfl, rfl, rfl, trivial⟩, m, aM⟩
  ·refine k_false f rfl ay ?_
   refine k_exit rfl ?_
   obtain rfl := sj au
   obtain rfl := av _ rfl
   exact ⟨_, rfl, _, ap, aq, aw, f.weak ⟨rfl, rfl, trivial⟩, m, ax⟩
 ·rintro a w ⟨ah, rfl, ai, aj, ak, aN, f, m, aO⟩
  refine k_seq (k_region ?_)
  refine l_boxAgg 1 0 (ds := [aj]) m Ag29 f rfl rfl rfl rfl rfl fun a f => l_boxStore 0 0 (ds := [aj]) m Tryd.sizeOf29 f rfl rfl rfl (ones_cons (Ow.one1 2 m aO rfl) ones_nil) rfl (Nat.le_of_ble_eq_true rfl) rfl fun w m => l_nil ?_
  refine k_ret ?_
  have aP := rr_agg (P := Tryd.prog) 0 m Ag29 f (s := 2) rfl rfl rfl
  have m := m.front 2 rfl
  have m := m.eraseAt 2
  have m := m.eraseAt 1
  obtain rfl := sj hd
  exact ⟨[(.agg #[aj])], ⟨aP, trivial⟩, f.defers, _, [ak], aN, m, _, _, rfl, rfl, aO⟩

theorem Wk.p {W w : World} {G : GH} {H : List Itm} {v0 : Value} {x0 : (List Int)} {x1 : Int} (m : Mem W G w (H)) (h0 : RSl (RI .i64) G v0 x0) {y : Bool} (hd : D.p x0 x1 = some y) :
  Calls Tryd.prog 64 #[v0, (.int .i64 x1)] w (Res W G H (fun _ Ho v => Ho = [] ∧ v = (.bool y))) := by
 refine calls_b (args := [v0, (.int .i64 x1)]) (N := 40) [.tmp 4] Tryd.func64 rfl rfl (Nat.le_of_ble_eq_true rfl) rfl fun a f => ?_
 unfold D.p at hd
 refine k_seq (k_region ?_)
 refine l_as f rfl rfl fun a f => l_nil (k_seq (k_seq (k_region ?_)))
 refine l_mv f rfl rfl fun a f => l_len Tryd.underlying32 f rfl rfl h0 fun a f => l_mv f rfl rfl fun a f => l_in f rfl rfl rfl b_gtr fun a f => l_nil ?_
 rcases cond_some hd with ⟨aa, hd⟩ | ⟨aa, hd⟩
 ·refine k_true f rfl aa ?_
  refine k_seq (k_region ?_)
  refine l_as f rfl rfl fun a f => l_nil ?_
  refine k_ret ?_
  obtain rfl := sj hd
  exact ⟨[(.bool false)], ⟨f.get _ _ rfl, trivial⟩, f.defers, _, [], (GLe.refl _), m, rfl, rfl⟩
 ·refine k_false f rfl aa ?_
  refine k_skip ?_
  refine k_seq (k_seq (k_region ?_))
  refine l_as f rfl rfl fun a f => l_nil ?_
  obtain ⟨ab, ac, hd⟩ := bind_some hd
  refine k_cut (fun a w => ∃ q_150' : Unit, ab = .inl q_150' ∧ ∃ (ad : GH), GLe G ad ∧ Fr a 40 [] ∧ Mem W ad w (H)) ?_ ?_
  ·refine k_block ?_
   refine k_loop (fun ae a w => ∃ af : Int, af = ae ∧ ∃ (ag : GH), GLe G ag ∧ Fr a 40 [(0, v0), (1, (.int .i64 x1)), (5, (.int .i64 af))] ∧ Mem W ag w (H)) ac ⟨_, rfl, _, (GLe.refl _), f.weak ⟨rfl, rfl, rfl, trivial⟩, m⟩ ?_
   clear ac f m
   rintro ae ah ai aj a w ⟨af, rfl, ag, ak, f, m⟩
   have h0 := rd1 ak h0
   refine k_seq (k_seq (k_region ?_))
   refine l_mv f rfl rfl fun a f => l_mv f rfl rfl fun a f => l_len Tryd.underlying32 f rfl rfl h0 fun a f => l_in f rfl rfl rfl b_lss fun a f => l_nil ?_
   rcases cond_some ai with ⟨al, ai⟩ | ⟨al, ai⟩
   ·refine k_true f rfl al ?_
    refine k_skip ?_
    refine k_seq (k_block (k_seq ?_))
    refine k_draw 24 Follows (by kernel_rfl) m ?_
    refine q_mv 0 24 rfl (by kernel_rfl) f rfl rfl rfl fun a f => q_mv 1 24 rfl (by kernel_rfl) f rfl rfl rfl fun a f => ?_
    obtain ⟨am, an, ai⟩ := bind_some ai
    refine q_at (i := 2) 24 T32 h0 an rfl (by kernel_rfl) rfl f rfl rfl rfl rfl fun ao ap a aq ar f => ?_
    subst ar
    refine q_loadAt (i := 3) 24 Pl2 aq rfl (by kernel_rfl) rfl f rfl rfl rfl fun a f => q_mv 4 24 rfl (by kernel_rfl) f rfl rfl rfl fun a f => q_p 5 24 rfl (by kernel_rfl) f rfl rfl rfl (fun _ => r_int (f.eval rfl) (f.eval rfl) b_sub) fun a f => ?_
    obtain ⟨au, av, ai⟩ := bind_some ai
    refine q_call (i := 6) 24 rfl (by kernel_rfl) rfl f rfl rfl rfl Tryd.call62 (fun _ _ w aw m => Wk.d m  av) fun a f => q_p 7 24 rfl (by kernel_rfl) f rfl rfl rfl (fun _ => r_not (f.eval rfl)) fun a f => q_mv 8 24 rfl (by kernel_rfl) f rfl rfl rfl fun a f => ?_
    obtain ⟨ax, ay, ai⟩ := bind_some ai
    refine q_cut (fuel' := 0) (listed' := #[true, true, true, true, true, true, true, true, true, true, true, true, true, true, true, true, true, true, true, true, true, true, true, true]) (fun a => Fr a 40 [(0, v0), (1, (.int .i64 x1)), (5, (.int .i64 af)), (13, (.bool (decide (af < (x0.length : Int))))), (16, v0), (17, (.int .i64 af)), (18, ao), (19, (.int .i64 am)), (20, (.int .i64 x1)), (21, (.int .i64 (IntKind.i64.wrap (x1 - 1)))), (22, (.bool au)), (23, (.bool (!au))), (24, (.bool (!au))), (39, (.bool ax))]) ?_ ?_
    ·intro a f
     refine q_end fun az w aA m => ?_
     have h0 := rd1 aA h0
     have aq := At.mono aA aq
     refine l_nil ?_
     rcases cond_some ai with ⟨aB, ai⟩ | ⟨aB, ai⟩
     ·refine k_true f rfl aB ?_
      refine k_seq (k_region ?_)
      refine l_as f rfl rfl fun a f => l_nil ?_
      refine k_ret ?_
      obtain rfl := sj ai
      obtain rfl := aj _ rfl
      obtain rfl := sj hd
      exact ⟨[(.bool false)], ⟨f.get _ _ rfl, trivial⟩, f.defers, _, [], (GLe.trans ak aA), m, rfl, rfl⟩
     ·refine k_false f rfl aB ?_
      refine k_skip ?_
      refine k_region ?_
      refine l_mv f rfl rfl fun a f => l_in f rfl rfl rfl b_add fun a f => l_as f rfl rfl fun a f => l_nil ?_
      obtain rfl := sj ai
      exact ⟨_, rfl, _, rfl, _, (GLe.trans ak aA), f.weak ⟨rfl, rfl, rfl, trivial⟩, m⟩
    ·intro aC
     rcases cond_some ay with ⟨aD, ay⟩ | ⟨aD, ay⟩
     ·refine q_ng 9 24 rfl (by kernel_rfl) f rfl rfl aD rfl fun a f => ?_
      refine q_ng 10 24 rfl (by kernel_rfl) f rfl rfl aD rfl fun a f => q_ng 11 24 rfl (by kernel_rfl) f rfl rfl aD rfl fun a f => q_nu 12 24 rfl (by kernel_rfl) f rfl rfl rfl fun a f => q_nu 13 24 rfl (by kernel_rfl) f rfl rfl rfl fun a f => q_nu 14 24 rfl (by kernel_rfl) f rfl rfl rfl fun a f => q_nu 15 24 rfl (by kernel_rfl) f rfl rfl rfl fun a f => q_nu 16 24 rfl (by kernel_rfl) f rfl rfl rfl fun a f => q_nu 17 24 rfl (by kernel_rfl) f rfl rfl rfl fun a f => q_nu 18 24 rfl (by kernel_rfl) f rfl rfl rfl fun a f => q_nu 19 24 rfl (by kernel_rfl) f rfl rfl rfl fun a f => q_nu 20 24 rfl (by kernel_rfl) f rfl rfl rfl fun a f => q_nu 21 24 rfl (by kernel_rfl) f rfl rfl rfl fun a f => q_ng 22 24 rfl (by kernel_rfl) f rfl rfl aD rfl fun a f => q_p 23 24 rfl (by kernel_rfl) f rfl rfl rfl (fun _ => r_pickT (f.eval rfl) aD (f.eval rfl)) fun a f => ?_
      obtain rfl := sj ay
      exact aC _ (f.weak ⟨rfl, rfl, rfl, rfl, rfl, rfl, rfl, rfl, rfl, rfl, rfl, rfl, rfl, rfl, trivial⟩)
     ·refine q_mv 9 24 rfl (by kernel_rfl) f (wanted_of f rfl rfl rfl aD) rfl rfl fun a f => ?_
      refine q_p 10 24 rfl (by kernel_rfl) f (wanted_of f rfl rfl rfl aD) rfl rfl (fun _ => r_int (f.eval rfl) (f.eval rfl) b_gtr) fun a f => q_mv 11 24 rfl (by kernel_rfl) f (wanted_of f rfl rfl rfl aD) rfl rfl fun a f => ?_
      obtain ⟨aE, aF, ay⟩ := bind_some ay
      refine q_cut (fuel' := 1) (listed' := #[true, true, true, true, true, true, true, true, true, true, true, true, true, true, true, true, true, true, true, true, true, true, true, false]) (fun a => Fr a 40 [(0, v0), (1, (.int .i64 x1)), (5, (.int .i64 af)), (13, (.bool (decide (af < (x0.length : Int))))), (16, v0), (17, (.int .i64 af)), (18, ao), (19, (.int .i64 am)), (20, (.int .i64 x1)), (21, (.int .i64 (IntKind.i64.wrap (x1 - 1)))), (22, (.bool au)), (23, (.bool (!au))), (24, (.bool (!au))), (25, (.int .i64 af)), (26, (.bool (decide ((0 : Int) < af)))), (27, (.bool (decide ((0 : Int) < af)))), (38, (.bool aE))]) ?_ ?_
      ·intro a f
       refine q_p 23 24 rfl (by kernel_rfl) f rfl rfl rfl (fun _ => r_pickF (f.eval rfl) aD (f.eval rfl)) fun a f => ?_
       obtain rfl := sj ay
       exact aC _ (f.weak ⟨rfl, rfl, rfl, rfl, rfl, rfl, rfl, rfl, rfl, rfl, rfl, rfl, rfl, rfl, trivial⟩)
      ·intro aG
       rcases cond_some aF with ⟨aH, aF⟩ | ⟨aH, aF⟩
       ·refine q_mv 12 24 rfl (by kernel_rfl) f (wanted_of f rfl rfl rfl aH) rfl rfl fun a f => ?_
        refine q_mv 13 24 rfl (by kernel_rfl) f (wanted_of f rfl rfl rfl aH) rfl rfl fun a f => ?_
        obtain ⟨aI, aJ, aF⟩ := bind_some aF
        refine q_at (i := 14) 24 T32 h0 aJ rfl (by kernel_rfl) rfl f (wanted_of f rfl rfl rfl aH) rfl rfl rfl fun aK aL a aM aN f => ?_
        subst aN
        refine q_loadAt (i := 15) 24 Pl2 aM rfl (by kernel_rfl) rfl f (wanted_of f rfl rfl rfl aH) rfl rfl fun a f => q_mv 16 24 rfl (by kernel_rfl) f (wanted_of f rfl rfl rfl aH) rfl rfl fun a f => q_mv 17 24 rfl (by kernel_rfl) f (wanted_of f rfl rfl rfl aH) rfl rfl fun a f => q_p 18 24 rfl (by kernel_rfl) f (wanted_of f rfl rfl rfl aH) rfl rfl (fun _ => r_int (f.eval rfl) (f.eval rfl) b_sub) fun a f => ?_
        obtain ⟨aO, aP, aF⟩ := bind_some aF
        refine q_at (i := 19) 24 T32 h0 aP rfl (by kernel_rfl) rfl f (wanted_of f rfl rfl rfl aH) rfl rfl rfl fun aQ aR a aS aT f => ?_
        subst aT
        refine q_loadAt (i := 20) 24 Pl2 aS rfl (by kernel_rfl) rfl f (wanted_of f rfl rfl rfl aH) rfl rfl fun a f => q_p 21 24 rfl (by kernel_rfl) f (wanted_of f rfl rfl rfl aH) rfl rfl (fun _ => r_int (f.eval rfl) (f.eval rfl) b_leq) fun a f => q_p 22 24 rfl (by kernel_rfl) f (wanted_of f rfl rfl rfl aD) rfl rfl (fun _ => r_pickT (f.eval rfl) aH (f.eval rfl)) fun a f => ?_
        obtain rfl := sj aF
        exact aG _ (f.weak ⟨rfl, rfl, rfl, rfl, rfl, rfl, rfl, rfl, rfl, rfl, rfl, rfl, rfl, rfl, rfl, rfl, rfl, trivial⟩)
       ·refine q_ng 12 24 rfl (by kernel_rfl) f rfl rfl aH rfl fun a f => ?_
        refine q_ng 13 24 rfl (by kernel_rfl) f rfl rfl aH rfl fun a f => q_ng 14 24 rfl (by kernel_rfl) f rfl rfl aH rfl fun a f => q_ng 15 24 rfl (by kernel_rfl) f rfl rfl aH rfl fun a f => q_ng 16 24 rfl (by kernel_rfl) f rfl rfl aH rfl fun a f => q_ng 17 24 rfl (by kernel_rfl) f rfl rfl aH rfl fun a f => q_ng 18 24 rfl (by kernel_rfl) f rfl rfl aH rfl fun a f => q_ng 19 24 rfl (by kernel_rfl) f rfl rfl aH rfl fun a f => q_ng 20 24 rfl (by kernel_rfl) f rfl rfl aH rfl fun a f => q_ng 21 24 rfl (by kernel_rfl) f rfl rfl aH rfl fun a f => q_p 22 24 rfl (by kernel_rfl) f (wanted_of f rfl rfl rfl aD) rfl rfl (fun _ => r_pickF (f.eval rfl) aH (f.eval rfl)) fun a f => ?_
        obtain rfl := sj aF
        exact aG _ (f.weak ⟨rfl, rfl, rfl, rfl, rfl, rfl, rfl, rfl, rfl, rfl, rfl, rfl, rfl, rfl, rfl, rfl, rfl, trivial⟩)
   ·refine k_false f rfl al ?_
    refine k_exit rfl ?_
    obtain rfl := sj ai
    obtain rfl := aj _ rfl
    exact ⟨_, rfl, _, ak, f.weak trivial, m⟩
  ·rintro a w ⟨_, rfl, ad, aU, f, m⟩
   refine k_seq (k_region ?_)
   refine l_as f rfl rfl fun a f => l_nil ?_
   refine k_ret ?_
   obtain rfl := sj hd
   exact ⟨[(.bool true)], ⟨f.get _ _ rfl, trivial⟩, f.defers, _, [], aU, m, rfl, rfl⟩

theorem Wk.h {W w : World} {G : GH} {H : List Itm} {v0 : Value} {x0 : (List Int)} (m : Mem W G w (H)) (h0 : RSl (RI .i64) G v0 x0) {y : ((List Int))} (hd : D.h x0 = some y) :
  Calls Tryd.prog 87 #[v0] w (Res W G H (fun G' Ho v => ∃ r0 : Value, ∃ i0 : Itm, Ho = [i0] ∧ r0 = v ∧ Ow (RI .i64) 2 G' i0 r0 y)) := by
 refine calls_b (args := [v0]) (N := 6) [.tmp 2] Tryd.func87 rfl rfl (Nat.le_of_ble_eq_true rfl) rfl fun a f => ?_
 unfold D.h at hd
 refine k_seq (k_region ?_)
 refine l_as f rfl rfl fun a f => l_nil (k_seq (k_region ?_))
 refine l_slit (R := (RI .i64)) (xs := ([] : List Int)) (RI.one _) m T32 f rfl rfl rfl (by decide) (All2.nil _) fun aa ab w a m ac f => l_mv f rfl rfl fun a f => ?_
 obtain ⟨ad, ae, hd⟩ := bind_some hd
 refine l_append (RI.one _) 0 m ac rfl T32 rfl (by decide) f rfl rfl rfl (h0.src m) ae fun af ag w a m ah f => l_as f rfl rfl fun a f => l_nil ?_
 refine k_ret ?_
 obtain rfl := sj hd
 exact ⟨[ag], ⟨f.get _ _ rfl, trivial⟩, f.defers, _, [af], (GLe.refl _), m, _, _, rfl, rfl, ah⟩

theorem Wk.J {W w : World} {G : GH} {H : List Itm} {v0 : Value} {x0 : (List Int)} {x1 : Int} (m : Mem W G w (H)) (h0 : RSl (RI .i64) G v0 x0) {y : ((List Int))} (hd : D.J x0 x1 = some y) :
  Calls Tryd.prog 86 #[v0, (.int .i64 x1)] w (Res W G H (fun G' Ho v => ∃ r0 : Value, Ho = [] ∧ r0 = v ∧ RSl (RI .i64) G' r0 y)) := by
 refine calls_b (args := [v0, (.int .i64 x1)]) (N := 46) [.tmp 4] Tryd.func86 rfl rfl (Nat.le_of_ble_eq_true rfl) rfl fun a f => ?_
 unfold D.J at hd
 refine k_seq (k_region ?_)
 refine l_as f rfl rfl fun a f => l_nil (k_seq (k_region ?_))
 refine l_as f rfl rfl fun a f => l_nil (k_seq ?_)
 obtain ⟨aa, ab, hd⟩ := bind_some hd
 refine k_cut (fun a w => ∃ ac : Int, ac = aa ∧ ∃ (ad : GH), GLe G ad ∧ Fr a 46 [(0, v0), (1, (.int .i64 x1)), (5, (.int .i64 ac))] ∧ Mem W ad w (H)) ?_ ?_
 ·refine k_block ?_
  refine k_loop (fun ae a w => ∃ af : Int, af = ae ∧ ∃ (ag : GH), GLe G ag ∧ Fr a 46 [(0, v0), (1, (.int .i64 x1)), (5, (.int .i64 af))] ∧ Mem W ag w (H)) ab ⟨_, rfl, _, (GLe.refl _), f.weak ⟨rfl, rfl, rfl, trivial⟩, m⟩ ?_
  clear ab f m
  rintro ae ah ai aj a w ⟨af, rfl, ag, ak, f, m⟩
  have h0 := rd1 ak h0
  refine k_seq (k_seq (k_region ?_))
  refine l_mv f rfl rfl fun a f => l_mv f rfl rfl fun a f => l_len Tryd.underlying32 f rfl rfl h0 fun a f => l_in f rfl rfl rfl b_lss fun a f => l_mv f rfl rfl fun a f => ?_
  obtain ⟨al, am, ai⟩ := bind_some ai
  refine l_cut 7 (fun a w => ∃ an, GLe ag an ∧ Mem W an w (H) ∧ Fr a 46 [(0, v0), (1, (.int .i64 x1)), (5, (.int .i64 af)), (7, (.int .i64 af)), (8, v0), (9, (.int .i64 (x0.length : Int))), (10, (.bool (decide (af < (x0.length : Int))))), (11, (.bool (decide (af < (x0.length : Int))))), (18, (.bool al))]) ?_ ?_
  ·rcases cond_some am with ⟨ao, am⟩ | ⟨ao, am⟩
   ·refine l_run f rfl rfl ao ?_
    refine l_mv f rfl rfl fun a f => l_run f rfl rfl ao ?_
    refine l_mv f rfl rfl fun a f => l_run f rfl rfl ao ?_
    obtain ⟨ap, aq, am⟩ := bind_some am
    refine l_at T32 f rfl rfl rfl h0 aq fun ar au a av aw f => ?_
    subst aw
    refine l_run f rfl rfl ao ?_
    refine l_loadAt m Pl2 f rfl rfl av fun a f => l_run f rfl rfl ao ?_
    refine l_mv f rfl rfl fun a f => l_run f rfl rfl ao ?_
    refine l_in f rfl rfl rfl b_lss fun a f => l_op f rfl rfl rfl (r_pickT (f.eval rfl) ao (f.eval rfl)) fun a f => ?_
    obtain rfl := sj am
    exact ⟨_, (GLe.refl _), m, f.weak ⟨rfl, rfl, rfl, rfl, rfl, rfl, rfl, rfl, rfl, trivial⟩⟩
   ·refine l_not' f rfl rfl rfl ao fun a f => ?_
    refine l_not' f rfl rfl rfl ao fun a f => l_not' f rfl rfl rfl ao fun a f => l_not' f rfl rfl rfl ao fun a f => l_not' f rfl rfl rfl ao fun a f => l_not' f rfl rfl rfl ao fun a f => l_op f rfl rfl rfl (r_pickF (f.eval rfl) ao (f.eval rfl)) fun a f => ?_
    obtain rfl := sj am
    exact ⟨_, (GLe.refl _), m, f.weak ⟨rfl, rfl, rfl, rfl, rfl, rfl, rfl, rfl, rfl, trivial⟩⟩
  ·rintro a w ⟨an, ax, m, f⟩
   have h0 := rd1 ax h0
   refine l_nil ?_
   rcases cond_some ai with ⟨ay, ai⟩ | ⟨ay, ai⟩
   ·refine k_true f rfl ay ?_
    refine k_skip ?_
    refine k_block (k_region ?_)
    refine l_mv f rfl rfl fun a f => l_in f rfl rfl rfl b_add fun a f => l_as f rfl rfl fun a f => l_nil ?_
    obtain rfl := sj ai
    exact ⟨_, rfl, _, rfl, _, (GLe.trans ak ax), f.weak ⟨rfl, rfl, rfl, trivial⟩, m⟩
   ·refine k_false f rfl ay ?_
    refine k_exit rfl ?_
    obtain rfl := sj ai
    obtain rfl := aj _ rfl
    exact ⟨_, rfl, _, (GLe.trans ak ax), f.weak ⟨rfl, rfl, rfl, trivial⟩, m⟩
 ·rintro a w ⟨ac, rfl, ad, az, f, m⟩
  have h0 := rd1 az h0
  refine k_seq (k_seq (k_region ?_))
  refine l_mv f rfl rfl fun a f => l_mv f rfl rfl fun a f => l_len Tryd.underlying32 f rfl rfl h0 fun a f => l_in f rfl rfl rfl b_lss fun a f => l_mv f rfl rfl fun a f => ?_
  obtain ⟨aA, aB, hd⟩ := bind_some hd
  refine l_cut 7 (fun a w => ∃ aC, GLe ad aC ∧ Mem W aC w (H) ∧ Fr a 46 [(0, v0), (1, (.int .i64 x1)), (5, (.int .i64 ac)), (21, (.int .i64 ac)), (22, v0), (23, (.int .i64 (x0.length : Int))), (24, (.bool (decide (ac < (x0.length : Int))))), (25, (.bool (decide (ac < (x0.length : Int))))), (32, (.bool aA))]) ?_ ?_
  ·rcases cond_some aB with ⟨aD, aB⟩ | ⟨aD, aB⟩
   ·refine l_run f rfl rfl aD ?_
    refine l_mv f rfl rfl fun a f => l_run f rfl rfl aD ?_
    refine l_mv f rfl rfl fun a f => l_run f rfl rfl aD ?_
    obtain ⟨aE, aF, aB⟩ := bind_some aB
    refine l_at T32 f rfl rfl rfl h0 aF fun aG aH a aI aJ f => ?_
    subst aJ
    refine l_run f rfl rfl aD ?_
    refine l_loadAt m Pl2 f rfl rfl aI fun a f => l_run f rfl rfl aD ?_
    refine l_mv f rfl rfl fun a f => l_run f rfl rfl aD ?_
    refine l_in f rfl rfl rfl b_eql fun a f => l_op f rfl rfl rfl (r_pickT (f.eval rfl) aD (f.eval rfl)) fun a f => ?_
    obtain rfl := sj aB
    exact ⟨_, (GLe.refl _), m, f.weak ⟨rfl, rfl, rfl, rfl, rfl, rfl, rfl, rfl, rfl, trivial⟩⟩
   ·refine l_not' f rfl rfl rfl aD fun a f => ?_
    refine l_not' f rfl rfl rfl aD fun a f => l_not' f rfl rfl rfl aD fun a f => l_not' f rfl rfl rfl aD fun a f => l_not' f rfl rfl rfl aD fun a f => l_not' f rfl rfl rfl aD fun a f => l_op f rfl rfl rfl (r_pickF (f.eval rfl) aD (f.eval rfl)) fun a f => ?_
    obtain rfl := sj aB
    exact ⟨_, (GLe.refl _), m, f.weak ⟨rfl, rfl, rfl, rfl, rfl, rfl, rfl, rfl, rfl, trivial⟩⟩
  ·rintro a w ⟨aC, aK, m, f⟩
   have h0 := rd1 aK h0
   refine l_nil ?_
   rcases cond_some hd with ⟨aL, hd⟩ | ⟨aL, hd⟩
   ·refine k_true f rfl aL ?_
    refine k_seq (k_region ?_)
    refine l_mv f rfl rfl fun a f => l_as f rfl rfl fun a f => l_nil ?_
    refine k_ret ?_
    obtain rfl := sj hd
    exact ⟨[v0], ⟨f.get _ _ rfl, trivial⟩, f.defers, _, [], (GLe.trans az aK), m, _, rfl, rfl, h0⟩
   ·refine k_false f rfl aL ?_
    refine k_skip ?_
    refine k_seq (k_region ?_)
    refine l_mv f rfl rfl fun a f => l_mv f rfl rfl fun a f => ?_
    obtain ⟨aM, aN, hd⟩ := bind_some hd
    refine l_slice T32 f rfl rfl h0 (.inl ⟨rfl, rfl⟩) (.inr ⟨_, _, rfl, rfl⟩) aN fun aO a aP f => ?_
    obtain ⟨aQ, aR, hd⟩ := bind_some hd
    refine l_res f rfl rfl Tryd.call87 (Wk.h m aP aR) fun aS aT aU w aV m aW a f => ?_
    obtain ⟨aX, aY, rfl, rfl, aZ⟩ := aW
    have h0 := rd1 aV h0
    have aP := rd1 aV aP
    refine l_mv f rfl rfl fun a f => l_slit (R := (RI .i64)) (xs := ([x1] : List Int)) (RI.one _) m T32 f rfl rfl rfl (by decide) (All2.cons rfl (All2.nil _)) fun a0 a1 w a m a2 f => ?_
    obtain ⟨a3, a4, hd⟩ := bind_some hd
    refine l_append (RI.one _) 1 m aZ rfl T32 rfl (by decide) f rfl rfl rfl (Ow.src (j := 0) a2 m rfl) a4 fun a5 a6 w a m a7 f => l_as f rfl rfl fun a f => l_nil (k_seq (k_region ?_))
    refine l_mv f rfl rfl fun a f => l_mv f rfl rfl fun a f => l_mv f rfl rfl fun a f => ?_
    obtain ⟨a8, a9, hd⟩ := bind_some hd
    refine l_slice T32 f rfl rfl h0 (.inr ⟨_, _, rfl, rfl⟩) (.inl ⟨rfl, rfl⟩) a9 fun ba a bb f => ?_
    obtain ⟨bc, bd, hd⟩ := bind_some hd
    refine l_append (RI.one _) 1 m a7 rfl T32 rfl (by decide) f rfl rfl rfl (bb.src m) bd fun be bf w a m bg f => l_as f rfl rfl fun a f => l_nil ?_
    refine k_ret ?_
    have m := m.front 1 rfl
    obtain ⟨bh, bi, m, bj⟩ := Ow.stamp (RI.mono _) bg m
    have h0 := rd1 bi h0
    have a2 := od1 bi a2
    have m : Mem W bh w H := Mem.drop (H' := [a0]) m
    obtain rfl := sj hd
    exact ⟨[bf], ⟨f.get _ _ rfl, trivial⟩, f.defers, _, [], (GLe.trans az (GLe.trans aK (GLe.trans aV bi))), m, _, rfl, rfl, bj⟩

theorem Wk.o {W w : World} {G : GH} {H : List Itm} {v0_0 : Value} {it0_0 : Itm} {x0_0 : (List (List Int))} {x1 : Int} {x2 : Int} (m : Mem W G w (it0_0 :: H)) (o0_0 : Ow (RSl (RI .i64)) 32 G it0_0 v0_0 x0_0) {y : ((List (List Int)))} (hd : D.o x0_0 x1 x2 = some y) :
  Calls Tryd.prog 65 #[(.agg #[v0_0]), (.int .i64 x1), (.int .i64 x2)] w (Res W G H (fun G' Ho v => ∃ i0 : Itm, Ho = [i0] ∧ v = (.agg #[v0_0]) ∧ Ow (RSl (RI .i64)) 32 G' i0 v0_0 y)) := by
 refine calls_b (args := [(.agg #[v0_0]), (.int .i64 x1), (.int .i64 x2)]) (N := 30) [.cell 6 29] Tryd.func65 rfl rfl (Nat.le_of_ble_eq_true rfl) rfl fun a f => ?_
 unfold D.o at hd
 refine k_seq (k_region ?_)
 refine l_box (cs := [v0_0]) m f rfl rfl rfl fun aa w a m f => l_alloc (cs := [(.slice none 0 0)]) Tryd.zeroValue29 m f rfl rfl fun ab w a m f => l_nil (k_seq ?_)
 refine k_draw 11 Follows (by kernel_rfl) m ?_
 refine q_fieldAddr (i := 0) 11 Tryd.underlying29 rfl Tryd.sizeOf27 (by decide) rfl (by kernel_rfl) rfl f rfl rfl rfl fun a f => q_boxCell (i := 1) 11 1 Pl27 rfl rfl rfl (by kernel_rfl) rfl f rfl rfl rfl fun a f => q_mv 2 11 rfl (by kernel_rfl) f rfl rfl rfl fun a f => q_fieldAddr (i := 3) 11 Tryd.underlying29 rfl Tryd.sizeOf27 (by decide) rfl (by kernel_rfl) rfl f rfl rfl rfl fun a f => q_boxCell (i := 4) 11 1 Pl27 rfl rfl rfl (by kernel_rfl) rfl f rfl rfl rfl fun a f => q_mv 5 11 rfl (by kernel_rfl) f rfl rfl rfl fun a f => ?_
 obtain ⟨ac, ad, hd⟩ := bind_some hd
 refine q_own_at (i := 6) 11 2 m o0_0 rfl T27 ad rfl (by kernel_rfl) rfl f rfl rfl rfl rfl fun ae a af f => q_own_load (i := 7) 11 2 o0_0 rfl Pl32 af ad rfl (by kernel_rfl) rfl f rfl rfl rfl fun ag a ah f => q_mv 8 11 rfl (by kernel_rfl) f rfl rfl rfl fun a f => q_one (i := 9) rfl (by kernel_rfl) rfl fun ai w aj m ak ak => ?_
 have ah := rd1 aj ah
 have o0_0 := Ow.mono (RSl.mono (RI.mono _)) aj o0_0
 obtain ⟨al, am, hd⟩ := bind_some hd
 refine l_res f rfl rfl Tryd.call86 (Wk.J m ah am) fun an ao ap w aq m ar a f => ?_
 obtain ⟨au, rfl, rfl, av⟩ := ar
 have ah := rd1 aq ah
 have o0_0 := Ow.mono (RSl.mono (RI.mono _)) aq o0_0
 refine l_nil ?_
 refine ak ao [] _ _ aq m ?_
 obtain ⟨aw, ax, hd⟩ := bind_some hd
 refine q_own_at (i := 10) 11 2 m o0_0 rfl T27 ax rfl (by kernel_rfl) rfl f rfl rfl rfl rfl fun ay a az f => q_end fun aA w aB m => ?_
 have ah := rd1 aB ah
 have av := rd1 aB av
 have o0_0 := Ow.mono (RSl.mono (RI.mono _)) aB o0_0
 refine l_own_store 2 m o0_0 rfl Tryd.sizeOf32 f rfl rfl az ax av.cells av.one1 av fun aC w m aD => l_nil (k_seq ?_)
 refine k_draw 11 Follows (by kernel_rfl) m ?_
 refine q_fieldAddr (i := 0) 11 Tryd.underlying29 rfl Tryd.sizeOf27 (by decide) rfl (by kernel_rfl) rfl f rfl rfl rfl fun a f => q_boxCell (i := 1) 11 1 Pl27 rfl rfl rfl (by kernel_rfl) rfl f rfl rfl rfl fun a f => q_mv 2 11 rfl (by kernel_rfl) f rfl rfl rfl fun a f => q_fieldAddr (i := 3) 11 Tryd.underlying29 rfl Tryd.sizeOf27 (by decide) rfl (by kernel_rfl) rfl f rfl rfl rfl fun a f => q_boxCell (i := 4) 11 1 Pl27 rfl rfl rfl (by kernel_rfl) rfl f rfl rfl rfl fun a f => q_mv 5 11 rfl (by kernel_rfl) f rfl rfl rfl fun a f => ?_
 obtain ⟨aE, aF, hd⟩ := bind_some hd
 refine q_own_at (i := 6) 11 2 m aD rfl T27 aF rfl (by kernel_rfl) rfl f rfl rfl rfl rfl fun aG a aH f => q_own_load (i := 7) 11 2 aD rfl Pl32 aH aF rfl (by kernel_rfl) rfl f rfl rfl rfl fun aI a aJ f => q_mv 8 11 rfl (by kernel_rfl) f rfl rfl rfl fun a f => q_one (i := 9) rfl (by kernel_rfl) rfl fun aK w aL m aM aM => ?_
 have aJ := rd1 aL aJ
 have aD := Ow.mono (RSl.mono (RI.mono _)) aL aD
 obtain ⟨aN, aO, hd⟩ := bind_some hd
 refine l_res f rfl rfl Tryd.call86 (Wk.J m aJ aO) fun aP aQ aR w aS m aT a f => ?_
 obtain ⟨aU, rfl, rfl, aV⟩ := aT
 have aJ := rd1 aS aJ
 have aD := Ow.mono (RSl.mono (RI.mono _)) aS aD
 refine l_nil ?_
 refine aM aQ [] _ _ aS m ?_
 obtain ⟨aW, aX, hd⟩ := bind_some hd
 refine q_own_at (i := 10) 11 2 m aD rfl T27 aX rfl (by kernel_rfl) rfl f rfl rfl rfl rfl fun aY a aZ f => q_end fun a0 w a1 m => ?_
 have aJ := rd1 a1 aJ
 have aV := rd1 a1 aV
 have aD := Ow.mono (RSl.mono (RI.mono _)) a1 aD
 refine l_own_store 2 m aD rfl Tryd.sizeOf32 f rfl rfl aZ aX aV.cells aV.one1 aV fun a2 w m a3 => l_nil (k_seq (k_region ?_))
 refine l_boxAgg 1 0 (ds := [v0_0]) m Ag29 f rfl rfl rfl rfl rfl fun a f => l_boxStore 0 0 (ds := [v0_0]) m Tryd.sizeOf29 f rfl rfl rfl (ones_cons (Ow.one1 2 m a3 rfl) ones_nil) rfl (Nat.le_of_ble_eq_true rfl) rfl fun w m => l_nil ?_
 refine k_ret ?_
 have a4 := rr_agg (P := Tryd.prog) 0 m Ag29 f (s := 6) rfl rfl rfl
 have m := m.front 2 rfl
 have m := m.eraseAt 2
 have m := m.eraseAt 1
 obtain rfl := sj hd
 exact ⟨[(.agg #[v0_0])], ⟨a4, trivial⟩, f.defers, _, [a2], (GLe.trans aj (GLe.trans aq (GLe.trans aB (GLe.trans aL (GLe.trans aS a1))))), m, _, rfl, rfl, a3⟩

theorem Wk.R {W w : World} {G : GH} {H : List Itm} {v1 : Value} {x0 : Int} {x1 : (List (List Int))} (m : Mem W G w (H)) (h1 : RSl (RSl (RI .i64)) G v1 x1) {y : ((List (List Int))) × Bool} (hd : D.R x0 x1 = some y) :
  Calls Tryd.prog 22 #[(.int .i64 x0), v1] w (Res W G H (fun G' Ho v => ∃ r0 : Value, ∃ i0 : Itm, Ho = [i0] ∧ v = .tuple #[(.agg #[r0]), (.bool y.2)] ∧ Ow (RSl (RI .i64)) 32 G' i0 r0 y.1)) := by
 refine calls_b (args := [(.int .i64 x0), v1]) (N := 56) [.cell 4 29, .tmp 5] Tryd.func22 rfl rfl (Nat.le_of_ble_eq_true rfl) rfl fun a f => ?_
 unfold D.R at hd
 refine k_seq (k_region ?_)
 refine l_alloc (cs := [(.slice none 0 0)]) Tryd.zeroValue29 m f rfl rfl fun aa w a m f => l_as f rfl rfl fun a f => l_nil (k_seq (k_seq (k_region ?_)))
 refine l_mv f rfl rfl fun a f => ?_
 obtain ⟨ab, ac, hd⟩ := bind_some hd
 refine l_res f rfl rfl Tryd.call62 (Wk.d m  ac) fun ad ae af w ag m ah a f => ?_
 obtain ⟨rfl, rfl⟩ := ah
 have h1 := rd2 ag h1
 refine l_op f rfl rfl rfl (r_not (f.eval rfl)) fun a f => l_mv f rfl rfl fun a f => ?_
 refine l_cut 4 (fun a w => ∃ ai, GLe ae ai ∧ Mem W ai w (Itm.box aa 29 [(.slice none 0 0)] :: H) ∧ Fr a 56 [(0, (.int .i64 x0)), (1, v1), (4, (.pointer (some ⟨aa, 0, none⟩))), (8, (.int .i64 x0)), (9, (.bool ab)), (10, (.bool (!ab))), (11, (.bool (!ab))), (15, (.bool ((!ab) || (decide ((120 : Int) < (x1.length : Int))))))]) ?_ ?_
 ·rcases Bool.eq_false_or_eq_true (!ab) with aj | aj
  ·refine l_not' f rfl rfl rfl aj fun a f => ?_
   refine l_not' f rfl rfl rfl aj fun a f => l_not' f rfl rfl rfl aj fun a f => l_op f rfl rfl rfl (r_pickT (f.eval rfl) aj (f.eval rfl)) fun a f => ?_
   exact ⟨_, (GLe.refl _), m, f.weak ⟨rfl, rfl, rfl, rfl, rfl, rfl, rfl, by rw [aj]; rfl, trivial⟩⟩
  ·refine l_run f rfl rfl aj ?_
   refine l_mv f rfl rfl fun a f => l_run f rfl rfl aj ?_
   refine l_len Tryd.underlying27 f rfl rfl h1 fun a f => l_run f rfl rfl aj ?_
   refine l_in f rfl rfl rfl b_gtr fun a f => l_op f rfl rfl rfl (r_pickF (f.eval rfl) aj (f.eval rfl)) fun a f => ?_
   exact ⟨_, (GLe.refl _), m, f.weak ⟨rfl, rfl, rfl, rfl, rfl, rfl, rfl, by rw [aj]; rfl, trivial⟩⟩
 ·rintro a w ⟨ai, ak, m, f⟩
  have h1 := rd2 ak h1
  refine l_nil ?_
  rcases cond_some hd with ⟨al, hd⟩ | ⟨al, hd⟩
  ·refine k_true f rfl al ?_
   refine k_seq (k_region ?_)
   have am : ∀ w, (Instr.build 29 #[]).run Tryd.prog w = .ok (.agg #[(.slice none 0 0)]) w := by intro w; simp [Instr.build, Instr.fill, cells_int, cells_bool, cells_string, cells_slice, cells_pointer, cells_agg]
   refine l_build f rfl rfl am fun a f => l_boxStore 0 0 (ds := [(.slice none 0 0)]) m Tryd.sizeOf29 f rfl rfl rfl (ones_cons rfl ones_nil) rfl (Nat.le_of_ble_eq_true rfl) rfl fun w m => l_as f rfl rfl fun a f => l_nil ?_
   refine k_ret ?_
   obtain ⟨an, m, ao⟩ := Ow.nil (RSl (RI .i64)) 32 m
   have ap := rr_agg (P := Tryd.prog) 1 m Ag29 f (s := 4) rfl rfl rfl
   have m := m.eraseAt 1
   obtain rfl := sj hd
   exact ⟨[(.agg #[(.slice none 0 0)]), (.bool false)], ⟨ap, f.get _ _ rfl, trivial⟩, f.defers, _, [an], (GLe.trans ag ak), m, _, _, rfl, rfl, ao⟩
  ·refine k_false f rfl al ?_
   refine k_skip ?_
   refine k_seq (k_region ?_)
   refine l_mv f rfl rfl fun a f => ?_
   obtain ⟨aq, ar, hd⟩ := bind_some hd
   refine l_res f rfl rfl Tryd.call63 (Wk.D m  ar) fun au av aw w ax m ay a f => ?_
   obtain ⟨az, aA, rfl, rfl, aB⟩ := ay
   have h1 := rd2 ax h1
   refine l_alloc (cs := [(.slice none 0 0)]) Tryd.zeroValue29 m f rfl rfl fun aC w a m f => l_boxStore 0 0 (ds := [az]) m Tryd.sizeOf29 f rfl rfl rfl (ones_cons (Ow.one1 1 m aB rfl) ones_nil) rfl (Nat.le_of_ble_eq_true rfl) rfl fun w m => l_nil (k_seq (k_seq (k_region ?_)))
   refine l_as f rfl rfl fun a f => l_nil ?_
   obtain ⟨aD, aE, hd⟩ := bind_some hd
   refine k_cut (fun a w => ∃ q_213' : (List (List Int)), aD = .inl q_213' ∧ ∃ aF : List (List Int), aF = q_213' ∧ ∃ (aG : GH) (aH : Itm), GLe av aG ∧ Fr a 56 [(4, (.pointer (some ⟨aa, 0, none⟩))), (6, (.pointer (some ⟨aC, 0, none⟩)))] ∧ Mem W aG w (Itm.box aa 29 [(.slice none 0 0)] :: Itm.box aC 29 [az] :: aH :: H) ∧ Ow (RSl (RI .i64)) 32 aG aH az aF) ?_ ?_
   ·refine k_block ?_
    have m := m.front 2 rfl
    refine k_loop (fun aI a w => ∃ aJ : Int, ∃ aK : List (List Int), (aJ, aK) = aI ∧ ∃ (aL : GH) (aM : Itm), GLe av aL ∧ Fr a 56 [(0, (.int .i64 x0)), (1, v1), (4, (.pointer (some ⟨aa, 0, none⟩))), (6, (.pointer (some ⟨aC, 0, none⟩))), (7, (.int .i64 aJ))] ∧ Mem W aL w (Itm.box aa 29 [(.slice none 0 0)] :: Itm.box aC 29 [az] :: aM :: H) ∧ Ow (RSl (RI .i64)) 32 aL aM az aK) aE ⟨_, _, rfl, _, aA, (GLe.refl _), f.weak ⟨rfl, rfl, rfl, rfl, rfl, trivial⟩, m, aB⟩ ?_
    clear aE f m
    rintro aI aN aO aP a w ⟨aJ, aK, rfl, aL, aM, aQ, f, m, aR⟩
    have h1 := rd2 aQ h1
    refine k_seq (k_seq (k_region ?_))
    refine l_mv f rfl rfl fun a f => l_mv f rfl rfl fun a f => l_len Tryd.underlying27 f rfl rfl h1 fun a f => l_in f rfl rfl rfl b_lss fun a f => l_nil ?_
    rcases cond_some aO with ⟨aS, aO⟩ | ⟨aS, aO⟩
    ·refine k_true f rfl aS ?_
     refine k_skip ?_
     refine k_seq (k_block (k_seq (k_seq (k_region ?_))))
     refine l_mv f rfl rfl fun a f => l_mv f rfl rfl fun a f => ?_
     obtain ⟨aT, aU, aO⟩ := bind_some aO
     refine l_at T27 f rfl rfl rfl h1 aU fun aV aW a aX aY f => l_loadAt m Pl32 f rfl rfl aX fun a f => l_len Tryd.underlying32 f rfl rfl aY fun a f => l_in f rfl rfl rfl b_neq fun a f => l_mv f rfl rfl fun a f => ?_
     obtain ⟨aZ, a0, aO⟩ := bind_some aO
     refine l_cut 8 (fun a w => ∃ a1, GLe aL a1 ∧ Mem W a1 w (Itm.box aa 29 [(.slice none 0 0)] :: Itm.box aC 29 [az] :: aM :: H) ∧ Fr a 56 [(0, (.int .i64 x0)), (1, v1), (4, (.pointer (some ⟨aa, 0, none⟩))), (6, (.pointer (some ⟨aC, 0, none⟩))), (7, (.int .i64 aJ)), (22, (.bool (decide (aJ < (x1.length : Int))))), (25, v1), (26, (.int .i64 aJ)), (27, aV), (28, aW), (29, (.int .i64 (aT.length : Int))), (30, (.bool ((aT.length : Int) != 2))), (31, (.bool ((aT.length : Int) != 2))), (39, (.bool aZ))]) ?_ ?_
     ·rcases cond_some a0 with ⟨a2, a0⟩ | ⟨a2, a0⟩
      ·refine l_not' f rfl rfl rfl a2 fun a f => ?_
       refine l_not' f rfl rfl rfl a2 fun a f => l_not' f rfl rfl rfl a2 fun a f => l_not' f rfl rfl rfl a2 fun a f => l_not' f rfl rfl rfl a2 fun a f => l_not' f rfl rfl rfl a2 fun a f => l_not' f rfl rfl rfl a2 fun a f => l_op f rfl rfl rfl (r_pickT (f.eval rfl) a2 (f.eval rfl)) fun a f => ?_
       obtain rfl := sj a0
       exact ⟨_, (GLe.refl _), m, f.weak ⟨rfl, rfl, rfl, rfl, rfl, rfl, rfl, rfl, rfl, rfl, rfl, rfl, rfl, rfl, trivial⟩⟩
      ·refine l_run f rfl rfl a2 ?_
       refine l_mv f rfl rfl fun a f => l_run f rfl rfl a2 ?_
       refine l_mv f rfl rfl fun a f => l_run f rfl rfl a2 ?_
       obtain ⟨a3, a4, a0⟩ := bind_some a0
       refine l_at T27 f rfl rfl rfl h1 a4 fun a5 a6 a a7 a8 f => l_run f rfl rfl a2 ?_
       refine l_loadAt m Pl32 f rfl rfl a7 fun a f => l_run f rfl rfl a2 ?_
       refine l_mv f rfl rfl fun a f => l_run f rfl rfl a2 ?_
       obtain ⟨a9, ba, a0⟩ := bind_some a0
       refine l_res f rfl rfl Tryd.call64 (Wk.p m a8 ba) fun bb bc bd w be m bf a f => ?_
       obtain ⟨rfl, rfl⟩ := bf
       have h1 := rd2 be h1
       have aX := At.mono be aX
       have aY := rd1 be aY
       have a7 := At.mono be a7
       have a8 := rd1 be a8
       have aR := Ow.mono (RSl.mono (RI.mono _)) be aR
       refine l_run f rfl rfl a2 ?_
       refine l_op f rfl rfl rfl (r_not (f.eval rfl)) fun a f => l_op f rfl rfl rfl (r_pickF (f.eval rfl) a2 (f.eval rfl)) fun a f => ?_
       obtain rfl := sj a0
       exact ⟨_, be, m, f.weak ⟨rfl, rfl, rfl, rfl, rfl, rfl, rfl, rfl, rfl, rfl, rfl, rfl, rfl, rfl, trivial⟩⟩
     ·rintro a w ⟨a1, bg, m, f⟩
      have h1 := rd2 bg h1
      have aX := At.mono bg aX
      have aY := rd1 bg aY
      have aR := Ow.mono (RSl.mono (RI.mono _)) bg aR
      refine l_nil ?_
      rcases cond_some aO with ⟨bh, aO⟩ | ⟨bh, aO⟩
      ·refine k_true f rfl bh ?_
       refine k_seq (k_region ?_)
       have bi : ∀ w, (Instr.build 29 #[]).run Tryd.prog w = .ok (.agg #[(.slice none 0 0)]) w := by intro w; simp [Instr.build, Instr.fill, cells_int, cells_bool, cells_string, cells_slice, cells_pointer, cells_agg]
       refine l_build f rfl rfl bi fun a f => l_boxStore 0 0 (ds := [(.slice none 0 0)]) m Tryd.sizeOf29 f rfl rfl rfl (ones_cons rfl ones_nil) rfl (Nat.le_of_ble_eq_true rfl) rfl fun w m => l_as f rfl rfl fun a f => l_nil ?_
       refine k_ret ?_
       obtain ⟨bj, m, bk⟩ := Ow.nil (RSl (RI .i64)) 32 m
       have bl := rr_agg (P := Tryd.prog) 1 m Ag29 f (s := 4) rfl rfl rfl
       have m := m.front 3 rfl
       have m := m.front 1 rfl
       have m : Mem W a1 w (bj :: aM :: Itm.box aa 29 [(.slice none 0 0)] :: H) := m.eraseAt 3
       have m := m.eraseAt 2
       have m := m.eraseAt 1
       obtain rfl := sj aO
       obtain rfl := aP _ rfl
       obtain rfl := sj hd
       exact ⟨[(.agg #[(.slice none 0 0)]), (.bool false)], ⟨bl, f.get _ _ rfl, trivial⟩, f.defers, _, [bj], (GLe.trans ag (GLe.trans ak (GLe.trans ax (GLe.trans aQ bg)))), m, _, _, rfl, rfl, bk⟩
      ·refine k_false f rfl bh ?_
       refine k_skip ?_
       refine k_draw 13 Follows (by kernel_rfl) m ?_
       refine q_boxAgg (i := 0) (ds := [az]) 13 1 Ag29 rfl rfl rfl rfl (by kernel_rfl) rfl f rfl rfl rfl fun a f => q_mv 1 13 rfl (by kernel_rfl) f rfl rfl rfl fun a f => q_mv 2 13 rfl (by kernel_rfl) f rfl rfl rfl fun a f => ?_
       obtain ⟨bm, bn, aO⟩ := bind_some aO
       refine q_at (i := 3) 13 T27 h1 bn rfl (by kernel_rfl) rfl f rfl rfl rfl rfl fun bo bp a bq br f => q_loadAt (i := 4) 13 Pl32 bq rfl (by kernel_rfl) rfl f rfl rfl rfl fun a f => ?_
       obtain ⟨bs, bt, aO⟩ := bind_some aO
       refine q_at (i := 5) 13 T32 br bt rfl (by kernel_rfl) rfl f rfl rfl rfl rfl fun bu bv a bw bx f => ?_
       subst bx
       refine q_loadAt (i := 6) 13 Pl2 bw rfl (by kernel_rfl) rfl f rfl rfl rfl fun a f => q_mv 7 13 rfl (by kernel_rfl) f rfl rfl rfl fun a f => q_mv 8 13 rfl (by kernel_rfl) f rfl rfl rfl fun a f => ?_
       obtain ⟨bz, bA, aO⟩ := bind_some aO
       refine q_at (i := 9) 13 T27 h1 bA rfl (by kernel_rfl) rfl f rfl rfl rfl rfl fun bB bC a bD bE f => q_loadAt (i := 10) 13 Pl32 bD rfl (by kernel_rfl) rfl f rfl rfl rfl fun a f => ?_
       obtain ⟨bF, bG, aO⟩ := bind_some aO
       refine q_at (i := 11) 13 T32 bE bG rfl (by kernel_rfl) rfl f rfl rfl rfl rfl fun bH bI a bJ bK f => ?_
       subst bK
       refine q_loadAt (i := 12) 13 Pl2 bJ rfl (by kernel_rfl) rfl f rfl rfl rfl fun a f => q_end fun bL w bM m => ?_
       have h1 := rd2 bM h1
       have bq := At.mono bM bq
       have br := rd1 bM br
       have bw := At.mono bM bw
       have bD := At.mono bM bD
       have bE := rd1 bM bE
       have bJ := At.mono bM bJ
       have aR := Ow.mono (RSl.mono (RI.mono _)) bM aR
       have m : Mem W bL w (aM :: Itm.box aa 29 [(.slice none 0 0)] :: Itm.box aC 29 [az] :: H) := m.front 2 rfl
       obtain ⟨bN, bO, aO⟩ := bind_some aO
       refine l_res f rfl rfl Tryd.call65 (Wk.o m aR bO) fun bP bQ bR w bS m bT a f => ?_
       obtain ⟨bU, rfl, rfl, bV⟩ := bT
       have h1 := rd2 bS h1
       have bq := At.mono bS bq
       have br := rd1 bS br
       have bw := At.mono bS bw
       have bD := At.mono bS bD
       have bE := rd1 bS bE
       have bJ := At.mono bS bJ
       refine l_boxStore 2 0 (ds := [az]) m Tryd.sizeOf29 f rfl rfl rfl (ones_cons (Ow.one1 0 m bV rfl) ones_nil) rfl (Nat.le_of_ble_eq_true rfl) rfl fun w m => l_nil (k_region ?_)
       refine l_mv f rfl rfl fun a f => l_in f rfl rfl rfl b_add fun a f => l_as f rfl rfl fun a f => l_nil ?_
       have m := m.front 2 rfl
       have m : Mem W bQ w (Itm.box aa 29 [(.slice none 0 0)] :: Itm.box aC 29 [az] :: bU :: H) := m.front 2 rfl
       obtain rfl := sj aO
       exact ⟨_, rfl, _, _, rfl, _, bU, (GLe.trans aQ (GLe.trans bg (GLe.trans bM bS))), f.weak ⟨rfl, rfl, rfl, rfl, rfl, trivial⟩, m, bV⟩
    ·refine k_false f rfl aS ?_
     refine k_exit rfl ?_
     obtain rfl := sj aO
     obtain rfl := aP _ rfl
     exact ⟨_, rfl, _, rfl, _, aM, aQ, f.weak ⟨rfl, rfl, trivial⟩, m, aR⟩
   ·rintro a w ⟨_, rfl, aF, rfl, aG, aH, bW, f, m, bX⟩
    refine k_seq (k_region ?_)
    refine l_boxAgg 1 0 (ds := [az]) m Ag29 f rfl rfl rfl rfl rfl fun a f => l_boxStore 0 0 (ds := [az]) m Tryd.sizeOf29 f rfl rfl rfl (ones_cons (Ow.one1 2 m bX rfl) ones_nil) rfl (Nat.le_of_ble_eq_true rfl) rfl fun w m => l_as f rfl rfl fun a f => l_nil ?_
    refine k_ret ?_
    have bY := rr_agg (P := Tryd.prog) 0 m Ag29 f (s := 4) rfl rfl rfl
    have m := m.front 2 rfl
    have m := m.eraseAt 2
    have m := m.eraseAt 1
    obtain rfl := sj hd
    exact ⟨[(.agg #[az]), (.bool true)], ⟨bY, f.get _ _ rfl, trivial⟩, f.defers, _, [aH], (GLe.trans ag (GLe.trans ak (GLe.trans ax bW))), m, _, _, rfl, rfl, bX⟩

theorem Wk.k {W w : World} {G : GH} {H : List Itm} {v0_0 : Value} {b0 : Nat} {x0_0 : (List Int)} {x0_1 : Int} {x0_2 : Int} {x1 : Int} (m : Mem W G w (Itm.box b0 51 [v0_0, (.int .i64 x0_1), (.int .u64 x0_2)] :: H)) (h0_0 : RSl (RI .u8) G v0_0 x0_0) {y : Int × ((List Int)) × Int × Int} (hd : D.k x0_0 x0_1 x0_2 x1 = some y) :
  Calls Tryd.prog 15 #[(.pointer (some ⟨b0, 0, none⟩)), (.int .i64 x1)] w (Res W G H (fun G' Ho v => ∃ r0 : Value, Ho = [Itm.box b0 51 [r0, (.int .i64 y.2.2.1), (.int .u64 y.2.2.2)]] ∧ v = (.int .i64 y.1) ∧ RSl (RI .u8) G' r0 y.2.1)) := by
 refine calls_b (args := [(.pointer (some ⟨b0, 0, none⟩)), (.int .i64 x1)]) (N := 56) [.tmp 4] Tryd.func15 rfl rfl (Nat.le_of_ble_eq_true rfl) rfl fun a f => ?_
 unfold D.k at hd
 refine k_seq (k_region ?_)
 refine l_as f rfl rfl fun a f => l_nil (k_seq (k_region ?_))
 refine l_mv f rfl rfl fun a f => l_mv f rfl rfl fun a f => l_op f rfl rfl rfl (r_nilCheck (f.eval rfl)) fun a f => l_fieldAddr Tryd.underlying51 rfl Tryd.sizeOf26 (by decide) f rfl rfl fun a f => l_boxCell 0 2 m Pl26 f rfl rfl rfl rfl fun a f => l_in f rfl rfl rfl b_mul fun a f => l_in f rfl rfl rfl b_add fun a f => l_op f rfl rfl rfl (r_nilCheck (f.eval rfl)) fun a f => l_fieldAddr Tryd.underlying51 rfl Tryd.sizeOf26 (by decide) f rfl rfl fun a f => l_boxStore 0 2 (ds := [(.int .u64 (IntKind.u64.wrap ((IntKind.u64.wrap (x0_2 * 6364136223846793005)) + 1442695040888963407)))]) m Tryd.sizeOf26 f rfl rfl rfl (ones_cons rfl ones_nil) rfl (Nat.le_of_ble_eq_true rfl) rfl fun w m => l_nil (k_seq (k_region ?_))
 refine l_mv f rfl rfl fun a f => l_op f rfl rfl rfl (r_nilCheck (f.eval rfl)) fun a f => l_fieldAddr Tryd.underlying51 rfl Tryd.sizeOf26 (by decide) f rfl rfl fun a f => l_boxCell 0 2 m Pl26 f rfl rfl rfl rfl fun a f => l_op f rfl rfl rfl (r_shr (f.eval rfl) (f.eval rfl) (by decide)) fun a f => l_in f rfl rfl rfl b_and fun a f => l_op f rfl rfl rfl (r_conv (f.eval rfl) ⟨_, Tryd.underlying26⟩ Tryd.underlying2) fun a f => l_as f rfl rfl fun a f => l_nil (k_seq (k_seq ?_))
 refine k_draw 10 Follows (by kernel_rfl) m ?_
 refine q_mv 0 10 rfl (by kernel_rfl) f rfl rfl rfl fun a f => q_p 1 10 rfl (by kernel_rfl) f rfl rfl rfl (fun _ => r_nilCheck (f.eval rfl)) fun a f => q_fieldAddr (i := 2) 10 Tryd.underlying51 rfl Tryd.sizeOf3 (by decide) rfl (by kernel_rfl) rfl f rfl rfl rfl fun a f => q_boxCell (i := 3) 10 0 Pl3 rfl rfl rfl (by kernel_rfl) rfl f rfl rfl rfl fun a f => q_mv 4 10 rfl (by kernel_rfl) f rfl rfl rfl fun a f => q_p 5 10 rfl (by kernel_rfl) f rfl rfl rfl (fun _ => r_nilCheck (f.eval rfl)) fun a f => q_fieldAddr (i := 6) 10 Tryd.underlying51 rfl Tryd.sizeOf22 (by decide) rfl (by kernel_rfl) rfl f rfl rfl rfl fun a f => q_boxCell (i := 7) 10 0 Pl22 rfl rfl rfl (by kernel_rfl) rfl f rfl rfl rfl fun a f => q_len (i := 8) 10 Tryd.underlying22 h0_0 rfl (by kernel_rfl) rfl f rfl rfl rfl fun a f => q_p 9 10 rfl (by kernel_rfl) f rfl rfl rfl (fun _ => r_int (f.eval rfl) (f.eval rfl) b_lss) fun a f => ?_
 refine q_end fun aa w ab m => ?_
 have h0_0 := rd1 ab h0_0
 refine l_nil ?_
 rcases cond_some hd with ⟨ac, hd⟩ | ⟨ac, hd⟩
 ·refine k_true f rfl ac ?_
  refine k_seq ?_
  refine k_draw 14 Follows (by kernel_rfl) m ?_
  refine q_mv 0 14 rfl (by kernel_rfl) f rfl rfl rfl fun a f => q_mv 1 14 rfl (by kernel_rfl) f rfl rfl rfl fun a f => q_p 2 14 rfl (by kernel_rfl) f rfl rfl rfl (fun _ => r_nilCheck (f.eval rfl)) fun a f => q_fieldAddr (i := 3) 14 Tryd.underlying51 rfl Tryd.sizeOf22 (by decide) rfl (by kernel_rfl) rfl f rfl rfl rfl fun a f => q_boxCell (i := 4) 14 0 Pl22 rfl rfl rfl (by kernel_rfl) rfl f rfl rfl rfl fun a f => q_mv 5 14 rfl (by kernel_rfl) f rfl rfl rfl fun a f => q_p 6 14 rfl (by kernel_rfl) f rfl rfl rfl (fun _ => r_nilCheck (f.eval rfl)) fun a f => q_fieldAddr (i := 7) 14 Tryd.underlying51 rfl Tryd.sizeOf3 (by decide) rfl (by kernel_rfl) rfl f rfl rfl rfl fun a f => q_boxCell (i := 8) 14 0 Pl3 rfl rfl rfl (by kernel_rfl) rfl f rfl rfl rfl fun a f => ?_
  obtain ⟨ad, ae, hd⟩ := bind_some hd
  refine q_at (i := 9) 14 T22 h0_0 ae rfl (by kernel_rfl) rfl f rfl rfl rfl rfl fun af ag a ah ai f => ?_
  subst ai
  refine q_loadAt (i := 10) 14 Pl5 ah rfl (by kernel_rfl) rfl f rfl rfl rfl fun a f => q_p 11 14 rfl (by kernel_rfl) f rfl rfl rfl (fun _ => r_conv (f.eval rfl) ⟨_, Tryd.underlying5⟩ Tryd.underlying2) fun a f => q_p 12 14 rfl (by kernel_rfl) f rfl rfl rfl (fun _ => r_int (f.eval rfl) (f.eval rfl) b_add) fun a f => q_p 13 14 rfl (by kernel_rfl) f rfl rfl rfl (fun _ => r_assign (f.eval rfl)) fun a f => q_end fun aj w ak m => ?_
  have h0_0 := rd1 ak h0_0
  have ah := At.mono ak ah
  refine l_nil (k_region ?_)
  refine l_mv f rfl rfl fun a f => l_mv f rfl rfl fun a f => l_op f rfl rfl rfl (r_nilCheck (f.eval rfl)) fun a f => l_fieldAddr Tryd.underlying51 rfl Tryd.sizeOf3 (by decide) f rfl rfl fun a f => l_boxCell 0 1 m Pl3 f rfl rfl rfl rfl fun a f => l_in f rfl rfl rfl b_add fun a f => l_op f rfl rfl rfl (r_nilCheck (f.eval rfl)) fun a f => l_fieldAddr Tryd.underlying51 rfl Tryd.sizeOf3 (by decide) f rfl rfl fun a f => l_boxStore 0 1 (ds := [(.int .i64 (IntKind.i64.wrap (x0_1 + 1)))]) m Tryd.sizeOf3 f rfl rfl rfl (ones_cons rfl ones_nil) rfl (Nat.le_of_ble_eq_true rfl) rfl fun w m => l_nil (k_seq (k_region ?_))
  refine l_mv f rfl rfl fun a f => l_mv f rfl rfl fun a f => ?_
  obtain ⟨al, hd⟩ := cond_none hd
  refine l_in f rfl rfl rfl (b_rem al) fun a f => l_as f rfl rfl fun a f => l_nil ?_
  refine k_ret ?_
  obtain rfl := sj hd
  exact ⟨[(.int .i64 (Int.tmod (IntKind.i64.wrap ((IntKind.i64.wrap (iand .u64 (ishr .u64 (IntKind.u64.wrap ((IntKind.u64.wrap (x0_2 * 6364136223846793005)) + 1442695040888963407)) 33) 16777215)) + (IntKind.i64.wrap ad))) x1))], ⟨f.get _ _ rfl, trivial⟩, f.defers, _, [Itm.box b0 51 [v0_0, (.int .i64 (IntKind.i64.wrap (x0_1 + 1))), (.int .u64 (IntKind.u64.wrap ((IntKind.u64.wrap (x0_2 * 6364136223846793005)) + 1442695040888963407)))]], (GLe.trans ab ak), m, _, rfl, rfl, h0_0⟩
 ·refine k_false f rfl ac ?_
  refine k_skip ?_
  refine k_seq (k_region ?_)
  refine l_mv f rfl rfl fun a f => l_mv f rfl rfl fun a f => ?_
  obtain ⟨am, hd⟩ := cond_none hd
  refine l_in f rfl rfl rfl (b_rem am) fun a f => l_as f rfl rfl fun a f => l_nil ?_
  refine k_ret ?_
  obtain rfl := sj hd
  exact ⟨[(.int .i64 (Int.tmod (IntKind.i64.wrap (iand .u64 (ishr .u64 (IntKind.u64.wrap ((IntKind.u64.wrap (x0_2 * 6364136223846793005)) + 1442695040888963407)) 33) 16777215)) x1))], ⟨f.get _ _ rfl, trivial⟩, f.defers, _, [Itm.box b0 51 [v0_0, (.int .i64 x0_1), (.int .u64 (IntKind.u64.wrap ((IntKind.u64.wrap (x0_2 * 6364136223846793005)) + 1442695040888963407)))]], ab, m, _, rfl, rfl, h0_0⟩

theorem Wk.n0 {W w : World} {G : GH} {H : List Itm} {v0 : Value} {x0 : (List Int)} {x1 : Int} (m : Mem W G w (H)) (h0 : RSl (RI .i64) G v0 x0) {y : ((List Int))} (hd : D.n0 x0 x1 = some y) :
  Calls Tryd.prog 23 #[v0, (.int .i64 x1)] w (Res W G H (fun G' Ho v => ∃ r0 : Value, ∃ i0 : Itm, Ho = [i0] ∧ r0 = v ∧ Ow (RI .i64) 2 G' i0 r0 y)) := by
 refine calls_b (args := [v0, (.int .i64 x1)]) (N := 52) [.tmp 4] Tryd.func23 rfl rfl (Nat.le_of_ble_eq_true rfl) rfl fun a f => ?_
 unfold D.n0 at hd
 refine k_seq (k_region ?_)
 refine l_as f rfl rfl fun a f => l_nil (k_seq (k_region ?_))
 refine l_slit (R := (RI .i64)) (xs := ([] : List Int)) (RI.one _) m T32 f rfl rfl rfl (by decide) (All2.nil _) fun aa ab w a m ac f => l_as f rfl rfl fun a f => l_nil (k_seq (k_region ?_))
 refine l_as f rfl rfl fun a f => l_nil (k_seq (k_seq (k_region ?_)))
 refine l_as f rfl rfl fun a f => l_nil ?_
 obtain ⟨ad, ae, hd⟩ := bind_some hd
 refine k_cut (fun a w => ∃ af : List Int, ∃ ag : Bool, (af, ag) = ad ∧ ∃ (ah : GH) (ai : Value) (aj : Itm), GLe G ah ∧ Fr a 52 [(1, (.int .i64 x1)), (5, ai), (6, (.bool ag))] ∧ Mem W ah w (aj :: H) ∧ Ow (RI .i64) 2 ah aj ai af) ?_ ?_
 ·refine k_block ?_
  refine k_loop (fun ak a w => ∃ al : List Int, ∃ am : Bool, ∃ an : Int, (al, am, an) = ak ∧ ∃ (ao : GH) (ap : Value) (aq : Itm), GLe G ao ∧ Fr a 52 [(0, v0), (1, (.int .i64 x1)), (5, ap), (6, (.bool am)), (7, (.int .i64 an))] ∧ Mem W ao w (aq :: H) ∧ Ow (RI .i64) 2 ao aq ap al) ae ⟨_, _, _, rfl, _, ab, aa, (GLe.refl _), f.weak ⟨rfl, rfl, rfl, rfl, rfl, trivial⟩, m, ac⟩ ?_
  clear ae f m
  rintro ak ar au av a w ⟨al, am, an, rfl, ao, ap, aq, aw, f, m, ax⟩
  have h0 := rd1 aw h0
  refine k_seq (k_seq (k_region ?_))
  refine l_mv f rfl rfl fun a f => l_mv f rfl rfl fun a f => l_len Tryd.underlying32 f rfl rfl h0 fun a f => l_in f rfl rfl rfl b_lss fun a f => l_nil ?_
  rcases cond_some au with ⟨ay, au⟩ | ⟨ay, au⟩
  ·refine k_true f rfl ay ?_
   refine k_skip ?_
   refine k_seq (k_block (k_seq (k_seq (k_region ?_))))
   refine l_mv f rfl rfl fun a f => l_op f rfl rfl rfl (r_not (f.eval rfl)) fun a f => l_mv f rfl rfl fun a f => ?_
   obtain ⟨az, aA, au⟩ := bind_some au
   refine l_cut 7 (fun a w => ∃ aB, GLe ao aB ∧ Mem W aB w (aq :: H) ∧ Fr a 52 [(0, v0), (1, (.int .i64 x1)), (5, ap), (6, (.bool am)), (7, (.int .i64 an)), (12, (.bool (decide (an < (x0.length : Int))))), (15, (.bool am)), (16, (.bool (!am))), (17, (.bool (!am))), (24, (.bool az))]) ?_ ?_
   ·rcases cond_some aA with ⟨aC, aA⟩ | ⟨aC, aA⟩
    ·refine l_run f rfl rfl aC ?_
     refine l_mv f rfl rfl fun a f => l_run f rfl rfl aC ?_
     refine l_mv f rfl rfl fun a f => l_run f rfl rfl aC ?_
     obtain ⟨aD, aE, aA⟩ := bind_some aA
     refine l_at T32 f rfl rfl rfl h0 aE fun aF aG a aH aI f => ?_
     subst aI
     refine l_run f rfl rfl aC ?_
     refine l_loadAt m Pl2 f rfl rfl aH fun a f => l_run f rfl rfl aC ?_
     refine l_mv f rfl rfl fun a f => l_run f rfl rfl aC ?_
     refine l_in f rfl rfl rfl b_gtr fun a f => l_op f rfl rfl rfl (r_pickT (f.eval rfl) aC (f.eval rfl)) fun a f => ?_
     obtain rfl := sj aA
     exact ⟨_, (GLe.refl _), m, f.weak ⟨rfl, rfl, rfl, rfl, rfl, rfl, rfl, rfl, rfl, rfl, trivial⟩⟩
    ·refine l_not' f rfl rfl rfl aC fun a f => ?_
     refine l_not' f rfl rfl rfl aC fun a f => l_not' f rfl rfl rfl aC fun a f => l_not' f rfl rfl rfl aC fun a f => l_not' f rfl rfl rfl aC fun a f => l_not' f rfl rfl rfl aC fun a f => l_op f rfl rfl rfl (r_pickF (f.eval rfl) aC (f.eval rfl)) fun a f => ?_
     obtain rfl := sj aA
     exact ⟨_, (GLe.refl _), m, f.weak ⟨rfl, rfl, rfl, rfl, rfl, rfl, rfl, rfl, rfl, rfl, trivial⟩⟩
   ·rintro a w ⟨aB, aJ, m, f⟩
    have h0 := rd1 aJ h0
    have ax := od1 aJ ax
    refine l_nil ?_
    obtain ⟨aK, aL, au⟩ := bind_some au
    refine k_cut (fun a w => ∃ aM : List Int, ∃ aN : Bool, (aM, aN) = aK ∧ ∃ (aO : GH) (aP : Value) (aQ : Itm), GLe aB aO ∧ Fr a 52 [(0, v0), (1, (.int .i64 x1)), (5, aP), (6, (.bool aN)), (7, (.int .i64 an))] ∧ Mem W aO w (aQ :: H) ∧ Ow (RI .i64) 2 aO aQ aP aM) ?_ ?_
    ·rcases cond_some aL with ⟨aR, aL⟩ | ⟨aR, aL⟩
     ·refine k_true f rfl aR ?_
      refine k_seq (k_region ?_)
      refine l_mv f rfl rfl fun a f => l_mv f rfl rfl fun a f => l_slit (R := (RI .i64)) (xs := ([x1] : List Int)) (RI.one _) m T32 f rfl rfl rfl (by decide) (All2.cons rfl (All2.nil _)) fun aS aT w a m aU f => ?_
      obtain ⟨aV, aW, aL⟩ := bind_some aL
      refine l_append (RI.one _) 1 m ax rfl T32 rfl (by decide) f rfl rfl rfl (Ow.src (j := 0) aU m rfl) aW fun aX aY w a m aZ f => l_as f rfl rfl fun a f => l_nil (k_region ?_)
      refine l_as f rfl rfl fun a f => l_nil ?_
      have m := m.front 1 rfl
      have m := m.eraseAt 1
      obtain rfl := sj aL
      exact ⟨_, _, rfl, _, aY, aX, (GLe.refl _), f.weak ⟨rfl, rfl, rfl, rfl, rfl, trivial⟩, m, aZ⟩
     ·refine k_false f rfl aR ?_
      refine k_skip ?_
      obtain rfl := sj aL
      exact ⟨_, _, rfl, _, ap, aq, (GLe.refl _), f.weak ⟨rfl, rfl, rfl, rfl, rfl, trivial⟩, m, ax⟩
    ·rintro a w ⟨aM, aN, rfl, aO, aP, aQ, a0, f, m, a1⟩
     have h0 := rd1 a0 h0
     refine k_seq (k_region ?_)
     refine l_mv f rfl rfl fun a f => l_mv f rfl rfl fun a f => ?_
     obtain ⟨a2, a3, au⟩ := bind_some au
     refine l_cut 7 (fun a w => ∃ a4, GLe aO a4 ∧ Mem W a4 w (aQ :: H) ∧ Fr a 52 [(0, v0), (1, (.int .i64 x1)), (5, aP), (6, (.bool aN)), (7, (.int .i64 an)), (29, (.bool aN)), (30, (.bool aN)), (37, (.bool a2))]) ?_ ?_
     ·rcases cond_some a3 with ⟨a5, a3⟩ | ⟨a5, a3⟩
      ·refine l_not' f rfl rfl rfl a5 fun a f => ?_
       refine l_not' f rfl rfl rfl a5 fun a f => l_not' f rfl rfl rfl a5 fun a f => l_not' f rfl rfl rfl a5 fun a f => l_not' f rfl rfl rfl a5 fun a f => l_not' f rfl rfl rfl a5 fun a f => l_op f rfl rfl rfl (r_pickT (f.eval rfl) a5 (f.eval rfl)) fun a f => ?_
       obtain rfl := sj a3
       exact ⟨_, (GLe.refl _), m, f.weak ⟨rfl, rfl, rfl, rfl, rfl, rfl, rfl, rfl, trivial⟩⟩
      ·refine l_run f rfl rfl a5 ?_
       refine l_mv f rfl rfl fun a f => l_run f rfl rfl a5 ?_
       refine l_mv f rfl rfl fun a f => l_run f rfl rfl a5 ?_
       obtain ⟨a6, a7, a3⟩ := bind_some a3
       refine l_at T32 f rfl rfl rfl h0 a7 fun a8 a9 a ba bb f => ?_
       subst bb
       refine l_run f rfl rfl a5 ?_
       refine l_loadAt m Pl2 f rfl rfl ba fun a f => l_run f rfl rfl a5 ?_
       refine l_mv f rfl rfl fun a f => l_run f rfl rfl a5 ?_
       refine l_in f rfl rfl rfl b_eql fun a f => l_op f rfl rfl rfl (r_pickF (f.eval rfl) a5 (f.eval rfl)) fun a f => ?_
       obtain rfl := sj a3
       exact ⟨_, (GLe.refl _), m, f.weak ⟨rfl, rfl, rfl, rfl, rfl, rfl, rfl, rfl, trivial⟩⟩
     ·rintro a w ⟨a4, bc, m, f⟩
      have h0 := rd1 bc h0
      have a1 := od1 bc a1
      refine l_as f rfl rfl fun a f => l_nil (k_region ?_)
      refine l_mv f rfl rfl fun a f => l_mv f rfl rfl fun a f => l_mv f rfl rfl fun a f => ?_
      obtain ⟨bd, be, au⟩ := bind_some au
      refine l_at T32 f rfl rfl rfl h0 be fun bf bg a bh bi f => ?_
      subst bi
      refine l_loadAt m Pl2 f rfl rfl bh fun a f => l_slit (R := (RI .i64)) (xs := ([bd] : List Int)) (RI.one _) m T32 f rfl rfl rfl (by decide) (All2.cons rfl (All2.nil _)) fun bj bk w a m bl f => ?_
      obtain ⟨bm, bn, au⟩ := bind_some au
      refine l_append (RI.one _) 1 m a1 rfl T32 rfl (by decide) f rfl rfl rfl (Ow.src (j := 0) bl m rfl) bn fun bo bp w a m bq f => l_as f rfl rfl fun a f => l_nil (k_region ?_)
      refine l_mv f rfl rfl fun a f => l_in f rfl rfl rfl b_add fun a f => l_as f rfl rfl fun a f => l_nil ?_
      have m := m.front 1 rfl
      have m := m.eraseAt 1
      obtain rfl := sj au
      exact ⟨_, rfl, _, _, _, rfl, _, bp, bo, (GLe.trans aw (GLe.trans aJ (GLe.trans a0 bc))), f.weak ⟨rfl, rfl, rfl, rfl, rfl, trivial⟩, m, bq⟩
  ·refine k_false f rfl ay ?_
   refine k_exit rfl ?_
   obtain rfl := sj au
   obtain rfl := av _ rfl
   exact ⟨_, _, rfl, _, ap, aq, aw, f.weak ⟨rfl, rfl, rfl, trivial⟩, m, ax⟩
 ·rintro a w ⟨af, ag, rfl, ah, ai, aj, br, f, m, bs⟩
  refine k_seq (k_seq (k_region ?_))
  refine l_mv f rfl rfl fun a f => l_op f rfl rfl rfl (r_not (f.eval rfl)) fun a f => l_nil ?_
  rcases cond_some hd with ⟨bt, hd⟩ | ⟨bt, hd⟩
  ·refine k_true f rfl bt ?_
   refine k_region ?_
   refine l_mv f rfl rfl fun a f => l_mv f rfl rfl fun a f => l_slit (R := (RI .i64)) (xs := ([x1] : List Int)) (RI.one _) m T32 f rfl rfl rfl (by decide) (All2.cons rfl (All2.nil _)) fun bu bv w a m bw f => ?_
   obtain ⟨bx, bz, hd⟩ := bind_some hd
   refine l_append (RI.one _) 1 m bs rfl T32 rfl (by decide) f rfl rfl rfl (Ow.src (j := 0) bw m rfl) bz fun bA bB w a m bC f => l_as f rfl rfl fun a f => l_nil (k_seq (k_region ?_))
   refine l_mv f rfl rfl fun a f => l_as f rfl rfl fun a f => l_nil ?_
   refine k_ret ?_
   have m := m.front 1 rfl
   have m := m.eraseAt 1
   obtain rfl := sj hd
   exact ⟨[bB], ⟨f.get _ _ rfl, trivial⟩, f.defers, _, [bA], br, m, _, _, rfl, rfl, bC⟩
  ·refine k_false f rfl bt ?_
   refine k_skip ?_
   refine k_seq (k_region ?_)
   refine l_mv f rfl rfl fun a f => l_as f rfl rfl fun a f => l_nil ?_
   refine k_ret ?_
   obtain rfl := sj hd
   exact ⟨[ai], ⟨f.get _ _ rfl, trivial⟩, f.defers, _, [aj], br, m, _, _, rfl, rfl, bs⟩

theorem Wk.c {W w : World} {G : GH} {H : List Itm} {v0_0 : Value} {x0_0 : (List (List Int))} (m : Mem W G w (H)) (h0_0 : RSl (RSl (RI .i64)) G v0_0 x0_0) {y : Int} (hd : D.c x0_0 = some y) :
  Calls Tryd.prog 51 #[(.agg #[v0_0])] w (Res W G H (fun _ Ho v => Ho = [] ∧ v = (.int .i64 y))) := by
 refine calls_b (args := [(.agg #[v0_0])]) (N := 6) [.tmp 2] Tryd.func51 rfl rfl (Nat.le_of_ble_eq_true rfl) rfl fun a f => ?_
 unfold D.c at hd
 refine k_seq (k_region ?_)
 refine l_box (cs := [v0_0]) m f rfl rfl rfl fun aa w a m f => l_as f rfl rfl fun a f => l_nil (k_seq (k_region ?_))
 refine l_fieldAddr Tryd.underlying29 rfl Tryd.sizeOf27 (by decide) f rfl rfl fun a f => l_boxCell 0 0 m Pl27 f rfl rfl rfl rfl fun a f => l_len Tryd.underlying27 f rfl rfl h0_0 fun a f => l_as f rfl rfl fun a f => l_nil ?_
 refine k_ret ?_
 have m : Mem W G w H := Mem.drop (H' := [Itm.box aa 29 [v0_0]]) m
 obtain rfl := sj hd
 exact ⟨[(.int .i64 (x0_0.length : Int))], ⟨f.get _ _ rfl, trivial⟩, f.defers, _, [], (GLe.refl _), m, rfl, rfl⟩

theorem Wk.e {W w : World} {G : GH} {H : List Itm} {v0 : Value} {x0 : (List Int)} {x1 : Int} (m : Mem W G w (H)) (h0 : RSl (RI .i64) G v0 x0) {y : Bool} (hd : D.e x0 x1 = some y) :
  Calls Tryd.prog 32 #[v0, (.int .i64 x1)] w (Res W G H (fun _ Ho v => Ho = [] ∧ v = (.bool y))) := by
 refine calls_b (args := [v0, (.int .i64 x1)]) (N := 18) [.tmp 4] Tryd.func32 rfl rfl (Nat.le_of_ble_eq_true rfl) rfl fun a f => ?_
 unfold D.e at hd
 refine k_seq (k_region ?_)
 refine l_as f rfl rfl fun a f => l_nil (k_seq (k_seq (k_region ?_)))
 refine l_as f rfl rfl fun a f => l_nil ?_
 obtain ⟨aa, ab, hd⟩ := bind_some hd
 refine k_cut (fun a w => ∃ q_19' : Unit, aa = .inl q_19' ∧ ∃ (ac : GH), GLe G ac ∧ Fr a 18 [] ∧ Mem W ac w (H)) ?_ ?_
 ·refine k_block ?_
  refine k_loop (fun ad a w => ∃ ae : Int, ae = ad ∧ ∃ (af : GH), GLe G af ∧ Fr a 18 [(0, v0), (1, (.int .i64 x1)), (5, (.int .i64 ae))] ∧ Mem W af w (H)) ab ⟨_, rfl, _, (GLe.refl _), f.weak ⟨rfl, rfl, rfl, trivial⟩, m⟩ ?_
  clear ab f m
  rintro ad ag ah ai a w ⟨ae, rfl, af, aj, f, m⟩
  have h0 := rd1 aj h0
  refine k_seq (k_seq (k_region ?_))
  refine l_mv f rfl rfl fun a f => l_mv f rfl rfl fun a f => l_len Tryd.underlying32 f rfl rfl h0 fun a f => l_in f rfl rfl rfl b_lss fun a f => l_nil ?_
  rcases cond_some ah with ⟨ak, ah⟩ | ⟨ak, ah⟩
  ·refine k_true f rfl ak ?_
   refine k_skip ?_
   refine k_seq (k_block (k_seq (k_region ?_)))
   refine l_mv f rfl rfl fun a f => l_mv f rfl rfl fun a f => ?_
   obtain ⟨al, am, ah⟩ := bind_some ah
   refine l_at T32 f rfl rfl rfl h0 am fun an ao a ap aq f => ?_
   subst aq
   refine l_loadAt m Pl2 f rfl rfl ap fun a f => l_mv f rfl rfl fun a f => l_in f rfl rfl rfl b_eql fun a f => l_nil ?_
   rcases cond_some ah with ⟨ar, ah⟩ | ⟨ar, ah⟩
   ·refine k_true f rfl ar ?_
    refine k_seq (k_region ?_)
    refine l_as f rfl rfl fun a f => l_nil ?_
    refine k_ret ?_
    obtain rfl := sj ah
    obtain rfl := ai _ rfl
    obtain rfl := sj hd
    exact ⟨[(.bool true)], ⟨f.get _ _ rfl, trivial⟩, f.defers, _, [], aj, m, rfl, rfl⟩
   ·refine k_false f rfl ar ?_
    refine k_skip ?_
    refine k_region ?_
    refine l_mv f rfl rfl fun a f => l_in f rfl rfl rfl b_add fun a f => l_as f rfl rfl fun a f => l_nil ?_
    obtain rfl := sj ah
    exact ⟨_, rfl, _, rfl, _, aj, f.weak ⟨rfl, rfl, rfl, trivial⟩, m⟩
  ·refine k_false f rfl ak ?_
   refine k_exit rfl ?_
   obtain rfl := sj ah
   obtain rfl := ai _ rfl
   exact ⟨_, rfl, _, aj, f.weak trivial, m⟩
 ·rintro a w ⟨_, rfl, ac, au, f, m⟩
  refine k_seq (k_region ?_)
  refine l_as f rfl rfl fun a f => l_nil ?_
  refine k_ret ?_
  obtain rfl := sj hd
  exact ⟨[(.bool false)], ⟨f.get _ _ rfl, trivial⟩, f.defers, _, [], au, m, rfl, rfl⟩

theorem Wk.m {W w : World} {G : GH} {H : List Itm} {v0_0 : Value} {x0_0 : (List (List Int))} (m : Mem W G w (H)) (h0_0 : RSl (RSl (RI .i64)) G v0_0 x0_0) {y : Bool} (hd : D.m x0_0 = some y) :
  Calls Tryd.prog 30 #[(.agg #[v0_0])] w (Res W G H (fun _ Ho v => Ho = [] ∧ v = (.bool y))) := by
 refine calls_b (args := [(.agg #[v0_0])]) (N := 64) [.tmp 2] Tryd.func30 rfl rfl (Nat.le_of_ble_eq_true rfl) rfl fun a f => ?_
 unfold D.m at hd
 refine k_seq (k_region ?_)
 refine l_box (cs := [v0_0]) m f rfl rfl rfl fun aa w a m f => l_as f rfl rfl fun a f => l_nil (k_seq (k_region ?_))
 refine l_boxAgg 0 0 (ds := [v0_0]) m Ag29 f rfl rfl rfl rfl rfl fun a f => ?_
 obtain ⟨ab, ac, hd⟩ := bind_some hd
 refine l_res f rfl rfl Tryd.call51 (Wk.c m h0_0 ac) fun ad ae af w ag m ah a f => ?_
 obtain ⟨rfl, rfl⟩ := ah
 have h0_0 := rd2 ag h0_0
 refine l_as f rfl rfl fun a f => l_nil (k_seq (k_seq (k_region ?_)))
 refine l_mv f rfl rfl fun a f => ?_
 obtain ⟨ai, aj, hd⟩ := bind_some hd
 refine l_res f rfl rfl Tryd.call62 (Wk.d m  aj) fun ak al am w an m ao a f => ?_
 obtain ⟨rfl, rfl⟩ := ao
 have h0_0 := rd2 an h0_0
 refine l_op f rfl rfl rfl (r_not (f.eval rfl)) fun a f => l_nil ?_
 rcases cond_some hd with ⟨ap, hd⟩ | ⟨ap, hd⟩
 ·refine k_true f rfl ap ?_
  refine k_seq (k_region ?_)
  refine l_as f rfl rfl fun a f => l_nil ?_
  refine k_ret ?_
  have m : Mem W al w H := Mem.drop (H' := [Itm.box aa 29 [v0_0]]) m
  obtain rfl := sj hd
  exact ⟨[(.bool false)], ⟨f.get _ _ rfl, trivial⟩, f.defers, _, [], (GLe.trans ag an), m, rfl, rfl⟩
 ·refine k_false f rfl ap ?_
  refine k_skip ?_
  refine k_seq (k_seq (k_region ?_))
  refine l_as f rfl rfl fun a f => l_nil ?_
  obtain ⟨aq, ar, hd⟩ := bind_some hd
  refine k_cut (fun a w => ∃ q_138' : Unit, aq = .inl q_138' ∧ ∃ (au : GH), GLe al au ∧ Fr a 64 [(1, (.pointer (some ⟨aa, 0, none⟩))), (3, (.int .i64 ab))] ∧ Mem W au w (Itm.box aa 29 [v0_0] :: H)) ?_ ?_
  ·refine k_block ?_
   refine k_loop (fun av a w => ∃ aw : Int, aw = av ∧ ∃ (ax : GH), GLe al ax ∧ Fr a 64 [(1, (.pointer (some ⟨aa, 0, none⟩))), (3, (.int .i64 ab)), (4, (.int .i64 aw))] ∧ Mem W ax w (Itm.box aa 29 [v0_0] :: H)) ar ⟨_, rfl, _, (GLe.refl _), f.weak ⟨rfl, rfl, rfl, trivial⟩, m⟩ ?_
   clear ar f m
   rintro av ay az aA a w ⟨aw, rfl, ax, aB, f, m⟩
   have h0_0 := rd2 aB h0_0
   refine k_seq (k_seq (k_region ?_))
   refine l_mv f rfl rfl fun a f => l_mv f rfl rfl fun a f => l_in f rfl rfl rfl b_lss fun a f => l_nil ?_
   rcases cond_some az with ⟨aC, az⟩ | ⟨aC, az⟩
   ·refine k_true f rfl aC ?_
    refine k_skip ?_
    refine k_seq (k_block (k_seq (k_region ?_)))
    refine l_fieldAddr Tryd.underlying29 rfl Tryd.sizeOf27 (by decide) f rfl rfl fun a f => l_boxCell 0 0 m Pl27 f rfl rfl rfl rfl fun a f => l_mv f rfl rfl fun a f => ?_
    obtain ⟨aD, aE, az⟩ := bind_some az
    refine l_at T27 f rfl rfl rfl h0_0 aE fun aF aG a aH aI f => l_loadAt m Pl32 f rfl rfl aH fun a f => l_mv f rfl rfl fun a f => ?_
    obtain ⟨aJ, aK, az⟩ := bind_some az
    refine l_res f rfl rfl Tryd.call64 (Wk.p m aI aK) fun aL aM aN w aO m aP a f => ?_
    obtain ⟨rfl, rfl⟩ := aP
    have h0_0 := rd2 aO h0_0
    have aH := At.mono aO aH
    have aI := rd1 aO aI
    refine l_op f rfl rfl rfl (r_not (f.eval rfl)) fun a f => l_mv f rfl rfl fun a f => ?_
    obtain ⟨aQ, aR, az⟩ := bind_some az
    refine l_cut 8 (fun a w => ∃ aS, GLe aM aS ∧ Mem W aS w (Itm.box aa 29 [v0_0] :: H) ∧ Fr a 64 [(1, (.pointer (some ⟨aa, 0, none⟩))), (3, (.int .i64 ab)), (4, (.int .i64 aw)), (14, (.bool (decide (aw < ab)))), (17, (.pointer (some ⟨aa, 0, none⟩))), (18, v0_0), (19, (.int .i64 aw)), (20, aF), (21, aG), (22, (.int .i64 ab)), (23, (.bool aJ)), (24, (.bool (!aJ))), (25, (.bool (!aJ))), (33, (.bool aQ))]) ?_ ?_
    ·rcases cond_some aR with ⟨aT, aR⟩ | ⟨aT, aR⟩
     ·refine l_not' f rfl rfl rfl aT fun a f => ?_
      refine l_not' f rfl rfl rfl aT fun a f => l_not' f rfl rfl rfl aT fun a f => l_not' f rfl rfl rfl aT fun a f => l_not' f rfl rfl rfl aT fun a f => l_not' f rfl rfl rfl aT fun a f => l_not' f rfl rfl rfl aT fun a f => l_op f rfl rfl rfl (r_pickT (f.eval rfl) aT (f.eval rfl)) fun a f => ?_
      obtain rfl := sj aR
      exact ⟨_, (GLe.refl _), m, f.weak ⟨rfl, rfl, rfl, rfl, rfl, rfl, rfl, rfl, rfl, rfl, rfl, rfl, rfl, rfl, trivial⟩⟩
     ·refine l_run f rfl rfl aT ?_
      refine l_fieldAddr Tryd.underlying29 rfl Tryd.sizeOf27 (by decide) f rfl rfl fun a f => l_run f rfl rfl aT ?_
      refine l_boxCell 0 0 m Pl27 f rfl rfl rfl rfl fun a f => l_run f rfl rfl aT ?_
      refine l_mv f rfl rfl fun a f => l_run f rfl rfl aT ?_
      obtain ⟨aU, aV, aR⟩ := bind_some aR
      refine l_at T27 f rfl rfl rfl h0_0 aV fun aW aX a aY aZ f => l_run f rfl rfl aT ?_
      refine l_loadAt m Pl32 f rfl rfl aY fun a f => l_run f rfl rfl aT ?_
      refine l_mv f rfl rfl fun a f => l_run f rfl rfl aT ?_
      obtain ⟨a0, a1, aR⟩ := bind_some aR
      refine l_res f rfl rfl Tryd.call32 (Wk.e m aZ a1) fun a2 a3 a4 w a5 m a6 a f => ?_
      obtain ⟨rfl, rfl⟩ := a6
      have h0_0 := rd2 a5 h0_0
      have aH := At.mono a5 aH
      have aI := rd1 a5 aI
      have aY := At.mono a5 aY
      have aZ := rd1 a5 aZ
      refine l_op f rfl rfl rfl (r_pickF (f.eval rfl) aT (f.eval rfl)) fun a f => ?_
      obtain rfl := sj aR
      exact ⟨_, a5, m, f.weak ⟨rfl, rfl, rfl, rfl, rfl, rfl, rfl, rfl, rfl, rfl, rfl, rfl, rfl, rfl, trivial⟩⟩
    ·rintro a w ⟨aS, a7, m, f⟩
     have h0_0 := rd2 a7 h0_0
     have aH := At.mono a7 aH
     have aI := rd1 a7 aI
     refine l_nil ?_
     rcases cond_some az with ⟨a8, az⟩ | ⟨a8, az⟩
     ·refine k_true f rfl a8 ?_
      refine k_seq (k_region ?_)
      refine l_as f rfl rfl fun a f => l_nil ?_
      refine k_ret ?_
      have m : Mem W aS w H := Mem.drop (H' := [Itm.box aa 29 [v0_0]]) m
      obtain rfl := sj az
      obtain rfl := aA _ rfl
      obtain rfl := sj hd
      exact ⟨[(.bool false)], ⟨f.get _ _ rfl, trivial⟩, f.defers, _, [], (GLe.trans ag (GLe.trans an (GLe.trans aB (GLe.trans aO a7)))), m, rfl, rfl⟩
     ·refine k_false f rfl a8 ?_
      refine k_skip ?_
      refine k_region ?_
      refine l_mv f rfl rfl fun a f => l_in f rfl rfl rfl b_add fun a f => l_as f rfl rfl fun a f => l_nil ?_
      obtain rfl := sj az
      exact ⟨_, rfl, _, rfl, _, (GLe.trans aB (GLe.trans aO a7)), f.weak ⟨rfl, rfl, rfl, trivial⟩, m⟩
   ·refine k_false f rfl aC ?_
    refine k_exit rfl ?_
    obtain rfl := sj az
    obtain rfl := aA _ rfl
    exact ⟨_, rfl, _, aB, f.weak ⟨rfl, rfl, trivial⟩, m⟩
  ·rintro a w ⟨_, rfl, au, a9, f, m⟩
   have h0_0 := rd2 a9 h0_0
   refine k_seq (k_seq (k_region ?_))
   refine l_as f rfl rfl fun a f => l_nil ?_
   obtain ⟨ba, bb, hd⟩ := bind_some hd
   refine k_cut (fun a w => ∃ q_545' : Unit, ba = .inl q_545' ∧ ∃ (bc : GH), GLe au bc ∧ Fr a 64 [] ∧ Mem W bc w (H)) ?_ ?_
   ·refine k_block ?_
    refine k_loop (fun bd a w => ∃ be : Int, be = bd ∧ ∃ (bf : GH), GLe au bf ∧ Fr a 64 [(1, (.pointer (some ⟨aa, 0, none⟩))), (3, (.int .i64 ab)), (5, (.int .i64 be))] ∧ Mem W bf w (Itm.box aa 29 [v0_0] :: H)) bb ⟨_, rfl, _, (GLe.refl _), f.weak ⟨rfl, rfl, rfl, trivial⟩, m⟩ ?_
    clear bb f m
    rintro bd bg bh bi a w ⟨be, rfl, bf, bj, f, m⟩
    have h0_0 := rd2 bj h0_0
    refine k_seq (k_seq (k_region ?_))
    refine l_mv f rfl rfl fun a f => l_mv f rfl rfl fun a f => l_in f rfl rfl rfl b_lss fun a f => l_nil ?_
    rcases cond_some bh with ⟨bk, bh⟩ | ⟨bk, bh⟩
    ·refine k_true f rfl bk ?_
     refine k_skip ?_
     refine k_seq (k_block (k_seq (k_region ?_)))
     refine l_as f rfl rfl fun a f => l_nil ?_
     obtain ⟨bl, bm, bh⟩ := bind_some bh
     refine k_cut (fun a w => ∃ q_759' : Unit, bl = .inl q_759' ∧ ∃ (bn : GH), GLe bf bn ∧ Fr a 64 [(1, (.pointer (some ⟨aa, 0, none⟩))), (3, (.int .i64 ab)), (5, (.int .i64 be))] ∧ Mem W bn w (Itm.box aa 29 [v0_0] :: H)) ?_ ?_
     ·refine k_block ?_
      refine k_loop (fun bo a w => ∃ bp : Int, bp = bo ∧ ∃ (bq : GH), GLe bf bq ∧ Fr a 64 [(1, (.pointer (some ⟨aa, 0, none⟩))), (3, (.int .i64 ab)), (5, (.int .i64 be)), (6, (.int .i64 bp))] ∧ Mem W bq w (Itm.box aa 29 [v0_0] :: H)) bm ⟨_, rfl, _, (GLe.refl _), f.weak ⟨rfl, rfl, rfl, rfl, trivial⟩, m⟩ ?_
      clear bm f m
      rintro bo br bs bt a w ⟨bp, rfl, bq, bu, f, m⟩
      have h0_0 := rd2 bu h0_0
      refine k_seq (k_seq (k_region ?_))
      refine l_mv f rfl rfl fun a f => l_fieldAddr Tryd.underlying29 rfl Tryd.sizeOf27 (by decide) f rfl rfl fun a f => l_boxCell 0 0 m Pl27 f rfl rfl rfl rfl fun a f => l_mv f rfl rfl fun a f => ?_
      obtain ⟨bv, bw, bs⟩ := bind_some bs
      refine l_at T27 f rfl rfl rfl h0_0 bw fun bx bz a bA bB f => l_loadAt m Pl32 f rfl rfl bA fun a f => l_len Tryd.underlying32 f rfl rfl bB fun a f => l_in f rfl rfl rfl b_lss fun a f => l_nil ?_
      rcases cond_some bs with ⟨bC, bs⟩ | ⟨bC, bs⟩
      ·refine k_true f rfl bC ?_
       refine k_skip ?_
       refine k_seq (k_block (k_seq ?_))
       refine k_draw 15 Follows (by kernel_rfl) m ?_
       refine q_fieldAddr (i := 0) 15 Tryd.underlying29 rfl Tryd.sizeOf27 (by decide) rfl (by kernel_rfl) rfl f rfl rfl rfl fun a f => q_boxCell (i := 1) 15 0 Pl27 rfl rfl rfl (by kernel_rfl) rfl f rfl rfl rfl fun a f => q_fieldAddr (i := 2) 15 Tryd.underlying29 rfl Tryd.sizeOf27 (by decide) rfl (by kernel_rfl) rfl f rfl rfl rfl fun a f => q_boxCell (i := 3) 15 0 Pl27 rfl rfl rfl (by kernel_rfl) rfl f rfl rfl rfl fun a f => q_mv 4 15 rfl (by kernel_rfl) f rfl rfl rfl fun a f => ?_
       obtain ⟨bD, bE, bs⟩ := bind_some bs
       refine q_at (i := 5) 15 T27 h0_0 bE rfl (by kernel_rfl) rfl f rfl rfl rfl rfl fun bF bG a bH bI f => q_loadAt (i := 6) 15 Pl32 bH rfl (by kernel_rfl) rfl f rfl rfl rfl fun a f => q_mv 7 15 rfl (by kernel_rfl) f rfl rfl rfl fun a f => ?_
       obtain ⟨bJ, bK, bs⟩ := bind_some bs
       refine q_at (i := 8) 15 T32 bI bK rfl (by kernel_rfl) rfl f rfl rfl rfl rfl fun bL bM a bN bO f => ?_
       subst bO
       refine q_loadAt (i := 9) 15 Pl2 bN rfl (by kernel_rfl) rfl f rfl rfl rfl fun a f => ?_
       obtain ⟨bP, bQ, bs⟩ := bind_some bs
       refine q_at (i := 10) 15 T27 h0_0 bQ rfl (by kernel_rfl) rfl f rfl rfl rfl rfl fun bR bS a bT bU f => q_loadAt (i := 11) 15 Pl32 bT rfl (by kernel_rfl) rfl f rfl rfl rfl fun a f => q_mv 12 15 rfl (by kernel_rfl) f rfl rfl rfl fun a f => ?_
       obtain ⟨bV, bW, bs⟩ := bind_some bs
       refine q_call (i := 13) 15 rfl (by kernel_rfl) rfl f rfl rfl rfl Tryd.call32 (fun _ _ w bX m => Wk.e m (rd1 bX bU) bW) fun a f => q_p 14 15 rfl (by kernel_rfl) f rfl rfl rfl (fun _ => r_not (f.eval rfl)) fun a f => q_end fun bY w bZ m => ?_
       have h0_0 := rd2 bZ h0_0
       have bH := At.mono bZ bH
       have bI := rd1 bZ bI
       have bN := At.mono bZ bN
       have bT := At.mono bZ bT
       have bU := rd1 bZ bU
       refine l_nil ?_
       rcases cond_some bs with ⟨b0, bs⟩ | ⟨b0, bs⟩
       ·refine k_true f rfl b0 ?_
        refine k_seq (k_region ?_)
        refine l_as f rfl rfl fun a f => l_nil ?_
        refine k_ret ?_
        have m : Mem W bY w H := Mem.drop (H' := [Itm.box aa 29 [v0_0]]) m
        obtain rfl := sj bs
        obtain rfl := bt _ rfl
        obtain rfl := sj bh
        obtain rfl := bi _ rfl
        obtain rfl := sj hd
        exact ⟨[(.bool false)], ⟨f.get _ _ rfl, trivial⟩, f.defers, _, [], (GLe.trans ag (GLe.trans an (GLe.trans a9 (GLe.trans bj (GLe.trans bu bZ))))), m, rfl, rfl⟩
       ·refine k_false f rfl b0 ?_
        refine k_skip ?_
        refine k_region ?_
        refine l_mv f rfl rfl fun a f => l_in f rfl rfl rfl b_add fun a f => l_as f rfl rfl fun a f => l_nil ?_
        obtain rfl := sj bs
        exact ⟨_, rfl, _, rfl, _, (GLe.trans bu bZ), f.weak ⟨rfl, rfl, rfl, rfl, trivial⟩, m⟩
      ·refine k_false f rfl bC ?_
       refine k_exit rfl ?_
       obtain rfl := sj bs
       obtain rfl := bt _ rfl
       exact ⟨_, rfl, _, bu, f.weak ⟨rfl, rfl, rfl, trivial⟩, m⟩
     ·rintro a w ⟨_, rfl, bn, b1, f, m⟩
      have h0_0 := rd2 b1 h0_0
      refine k_region ?_
      refine l_mv f rfl rfl fun a f => l_in f rfl rfl rfl b_add fun a f => l_as f rfl rfl fun a f => l_nil ?_
      obtain rfl := sj bh
      exact ⟨_, rfl, _, rfl, _, (GLe.trans bj b1), f.weak ⟨rfl, rfl, rfl, trivial⟩, m⟩
    ·refine k_false f rfl bk ?_
     refine k_exit rfl ?_
     have m : Mem W bf w H := Mem.drop (H' := [Itm.box aa 29 [v0_0]]) m
     obtain rfl := sj bh
     obtain rfl := bi _ rfl
     exact ⟨_, rfl, _, bj, f.weak trivial, m⟩
   ·rintro a w ⟨_, rfl, bc, b2, f, m⟩
    refine k_seq (k_region ?_)
    refine l_as f rfl rfl fun a f => l_nil ?_
    refine k_ret ?_
    obtain rfl := sj hd
    exact ⟨[(.bool true)], ⟨f.get _ _ rfl, trivial⟩, f.defers, _, [], (GLe.trans ag (GLe.trans an (GLe.trans a9 b2))), m, rfl, rfl⟩

theorem Wk.Z {W w : World} {G : GH} {H : List Itm} {v0_0 : Value} {v1 : Value} {x0_0 : (List (List Int))} {x1 : (List Int)} (m : Mem W G w (H)) (h0_0 : RSl (RSl (RI .i64)) G v0_0 x0_0) (h1 : RSl (RI .i64) G v1 x1) {y : Bool} (hd : D.Z x0_0 x1 = some y) :
  Calls Tryd.prog 66 #[(.agg #[v0_0]), v1] w (Res W G H (fun _ Ho v => Ho = [] ∧ v = (.bool y))) := by
 refine calls_b (args := [(.agg #[v0_0]), v1]) (N := 13) [.tmp 4] Tryd.func66 rfl rfl (Nat.le_of_ble_eq_true rfl) rfl fun a f => ?_
 unfold D.Z at hd
 refine k_seq (k_region ?_)
 refine l_box (cs := [v0_0]) m f rfl rfl rfl fun aa w a m f => l_as f rfl rfl fun a f => l_nil (k_seq (k_region ?_))
 refine l_boxAgg 0 0 (ds := [v0_0]) m Ag29 f rfl rfl rfl rfl rfl fun a f => ?_
 obtain ⟨ab, ac, hd⟩ := bind_some hd
 refine l_res f rfl rfl Tryd.call30 (Wk.m m h0_0 ac) fun ad ae af w ag m ah a f => ?_
 obtain ⟨rfl, rfl⟩ := ah
 have h0_0 := rd2 ag h0_0
 have h1 := rd1 ag h1
 refine l_mv f rfl rfl fun a f => ?_
 obtain ⟨ai, aj, hd⟩ := bind_some hd
 refine l_cut 5 (fun a w => ∃ ak, GLe ae ak ∧ Mem W ak w (Itm.box aa 29 [v0_0] :: H) ∧ Fr a 13 [(0, (.agg #[v0_0])), (1, v1), (2, (.pointer (some ⟨aa, 0, none⟩))), (5, (.agg #[v0_0])), (6, (.bool ab)), (7, (.bool ab)), (12, (.bool ai))]) ?_ ?_
 ·rcases cond_some aj with ⟨al, aj⟩ | ⟨al, aj⟩
  ·refine l_run f rfl rfl al ?_
   refine l_mv f rfl rfl fun a f => l_run f rfl rfl al ?_
   refine l_boxAgg 0 0 (ds := [v0_0]) m Ag29 f rfl rfl rfl rfl rfl fun a f => l_run f rfl rfl al ?_
   obtain ⟨am, an, aj⟩ := bind_some aj
   refine l_res f rfl rfl Tryd.call51 (Wk.c m h0_0 an) fun ao ap aq w ar m au a f => ?_
   obtain ⟨rfl, rfl⟩ := au
   have h0_0 := rd2 ar h0_0
   have h1 := rd1 ar h1
   refine l_run f rfl rfl al ?_
   obtain ⟨av, aw, aj⟩ := bind_some aj
   refine l_res f rfl rfl Tryd.call64 (Wk.p m h1 aw) fun ax ay az w aA m aB a f => ?_
   obtain ⟨rfl, rfl⟩ := aB
   have h0_0 := rd2 aA h0_0
   have h1 := rd1 aA h1
   refine l_op f rfl rfl rfl (r_pickT (f.eval rfl) al (f.eval rfl)) fun a f => ?_
   obtain rfl := sj aj
   exact ⟨_, (GLe.trans ar aA), m, f.weak ⟨rfl, rfl, rfl, rfl, rfl, rfl, rfl, trivial⟩⟩
  ·refine l_not' f rfl rfl rfl al fun a f => ?_
   refine l_not' f rfl rfl rfl al fun a f => l_not' f rfl rfl rfl al fun a f => l_not' f rfl rfl rfl al fun a f => l_op f rfl rfl rfl (r_pickF (f.eval rfl) al (f.eval rfl)) fun a f => ?_
   obtain rfl := sj aj
   exact ⟨_, (GLe.refl _), m, f.weak ⟨rfl, rfl, rfl, rfl, rfl, rfl, rfl, trivial⟩⟩
 ·rintro a w ⟨ak, aC, m, f⟩
  have h0_0 := rd2 aC h0_0
  have h1 := rd1 aC h1
  refine l_as f rfl rfl fun a f => l_nil ?_
  refine k_ret ?_
  have m : Mem W ak w H := Mem.drop (H' := [Itm.box aa 29 [v0_0]]) m
  obtain rfl := sj hd
  exact ⟨[(.bool ai)], ⟨f.get _ _ rfl, trivial⟩, f.defers, _, [], (GLe.trans ag aC), m, rfl, rfl⟩

theorem Wk.r0 {W w : World} {G : GH} {H : List Itm} {v0_0 : Value} {x0_0 : (List (List Int))} (m : Mem W G w (H)) (h0_0 : RSl (RSl (RI .i64)) G v0_0 x0_0) {y : ((List (List Int)))} (hd : D.r0 x0_0 = some y) :
  Calls Tryd.prog 67 #[(.agg #[v0_0])] w (Res W G H (fun G' Ho v => ∃ r0 : Value, ∃ i0 : Itm, Ho = [i0] ∧ v = (.agg #[r0]) ∧ Ow (RSl (RI .i64)) 32 G' i0 r0 y)) := by
 refine calls_b (args := [(.agg #[v0_0])]) (N := 25) [.cell 2 29] Tryd.func67 rfl rfl (Nat.le_of_ble_eq_true rfl) rfl fun a f => ?_
 unfold D.r0 at hd
 refine k_seq (k_region ?_)
 refine l_box (cs := [v0_0]) m f rfl rfl rfl fun aa w a m f => l_alloc (cs := [(.slice none 0 0)]) Tryd.zeroValue29 m f rfl rfl fun ab w a m f => l_nil (k_seq (k_region ?_))
 have ac : ∀ w, (Instr.build 29 #[]).run Tryd.prog w = .ok (.agg #[(.slice none 0 0)]) w := by intro w; simp [Instr.build, Instr.fill, cells_int, cells_bool, cells_string, cells_slice, cells_pointer, cells_agg]
 refine l_build f rfl rfl ac fun a f => l_alloc (cs := [(.slice none 0 0)]) Tryd.zeroValue29 m f rfl rfl fun ad w a m f => l_boxStore 0 0 (ds := [(.slice none 0 0)]) m Tryd.sizeOf29 f rfl rfl rfl (ones_cons rfl ones_nil) rfl (Nat.le_of_ble_eq_true rfl) rfl fun w m => l_nil (k_seq (k_seq (k_region ?_)))
 refine l_as f rfl rfl fun a f => l_nil ?_
 obtain ⟨ae, m, af⟩ := Ow.nil (RSl (RI .i64)) 32 m
 obtain ⟨ag, ah, hd⟩ := bind_some hd
 refine k_cut (fun a w => ∃ ai : List (List Int), ai = ag ∧ ∃ (aj : GH) (ak : Value) (al : Itm), GLe G aj ∧ Fr a 25 [(2, (.pointer (some ⟨ab, 0, none⟩))), (3, (.pointer (some ⟨ad, 0, none⟩)))] ∧ Mem W aj w (Itm.box ab 29 [(.slice none 0 0)] :: Itm.box ad 29 [ak] :: al :: H) ∧ Ow (RSl (RI .i64)) 32 aj al ak ai) ?_ ?_
 ·refine k_block ?_
  have m := m.front 1 rfl
  have m := m.front 2 rfl
  have m : Mem W G w (Itm.box aa 29 [v0_0] :: Itm.box ab 29 [(.slice none 0 0)] :: Itm.box ad 29 [(.slice none 0 0)] :: ae :: H) := m.front 3 rfl
  refine k_loop (fun am a w => ∃ an : Int, ∃ ao : List (List Int), (an, ao) = am ∧ ∃ (ap : GH) (aq : Value) (ar : Itm), GLe G ap ∧ Fr a 25 [(1, (.pointer (some ⟨aa, 0, none⟩))), (2, (.pointer (some ⟨ab, 0, none⟩))), (3, (.pointer (some ⟨ad, 0, none⟩))), (4, (.int .i64 an))] ∧ Mem W ap w (Itm.box aa 29 [v0_0] :: Itm.box ab 29 [(.slice none 0 0)] :: Itm.box ad 29 [aq] :: ar :: H) ∧ Ow (RSl (RI .i64)) 32 ap ar aq ao) ah ⟨_, _, rfl, _, (.slice none 0 0), ae, (GLe.refl _), f.weak ⟨rfl, rfl, rfl, rfl, trivial⟩, m, af⟩ ?_
  clear ah f m
  rintro am au av aw a w ⟨an, ao, rfl, ap, aq, ar, ax, f, m, ay⟩
  have h0_0 := rd2 ax h0_0
  refine k_seq (k_seq (k_region ?_))
  refine l_mv f rfl rfl fun a f => l_fieldAddr Tryd.underlying29 rfl Tryd.sizeOf27 (by decide) f rfl rfl fun a f => l_boxCell 0 0 m Pl27 f rfl rfl rfl rfl fun a f => l_len Tryd.underlying27 f rfl rfl h0_0 fun a f => l_in f rfl rfl rfl b_lss fun a f => l_nil ?_
  rcases cond_some av with ⟨az, av⟩ | ⟨az, av⟩
  ·refine k_true f rfl az ?_
   refine k_skip ?_
   refine k_seq (k_block ?_)
   refine k_draw 9 Follows (by kernel_rfl) m ?_
   refine q_fieldAddr (i := 0) 9 Tryd.underlying29 rfl Tryd.sizeOf27 (by decide) rfl (by kernel_rfl) rfl f rfl rfl rfl fun a f => q_boxCell (i := 1) 9 2 Pl27 rfl rfl rfl (by kernel_rfl) rfl f rfl rfl rfl fun a f => q_fieldAddr (i := 2) 9 Tryd.underlying29 rfl Tryd.sizeOf27 (by decide) rfl (by kernel_rfl) rfl f rfl rfl rfl fun a f => q_boxCell (i := 3) 9 0 Pl27 rfl rfl rfl (by kernel_rfl) rfl f rfl rfl rfl fun a f => q_mv 4 9 rfl (by kernel_rfl) f rfl rfl rfl fun a f => ?_
   obtain ⟨aA, aB, av⟩ := bind_some av
   refine q_at (i := 5) 9 T27 h0_0 aB rfl (by kernel_rfl) rfl f rfl rfl rfl rfl fun aC aD a aE aF f => q_loadAt (i := 6) 9 Pl32 aE rfl (by kernel_rfl) rfl f rfl rfl rfl fun a f => q_one (i := 7) rfl (by kernel_rfl) rfl fun aG w aH m aI aI => ?_
   have h0_0 := rd2 aH h0_0
   have aE := At.mono aH aE
   have aF := rd1 aH aF
   have ay := Ow.mono (RSl.mono (RI.mono _)) aH ay
   obtain ⟨aJ, aK, av⟩ := bind_some av
   refine l_res f rfl rfl Tryd.call87 (Wk.h m aF aK) fun aL aM aN w aO m aP a f => ?_
   obtain ⟨aQ, aR, rfl, rfl, aS⟩ := aP
   have h0_0 := rd2 aO h0_0
   have aE := At.mono aO aE
   have aF := rd1 aO aF
   have ay := Ow.mono (RSl.mono (RI.mono _)) aO ay
   refine l_nil ?_
   refine aI aM [aR] _ _ aO m ?_
   refine q_one (i := 8) rfl (by kernel_rfl) rfl fun aT w aU m aV aV => ?_
   have h0_0 := rd2 aU h0_0
   have aE := At.mono aU aE
   have aF := rd1 aU aF
   have aS := od1 aU aS
   have ay := Ow.mono (RSl.mono (RI.mono _)) aU ay
   obtain ⟨aW, aX, m, aY⟩ := Ow.stamp (RI.mono _) aS m
   have h0_0 := rd2 aX h0_0
   have aE := At.mono aX aE
   have aF := rd1 aX aF
   have ay := Ow.mono (RSl.mono (RI.mono _)) aX ay
   refine l_slit (R := (RSl (RI .i64))) (xs := ([aJ] : List (List Int))) (RSl.one _) m T27 f rfl rfl rfl (by decide) (All2.cons aY (All2.nil _)) fun aZ a0 w a m a1 f => l_nil ?_
   refine aV aW [aZ] _ _ aX m ?_
   refine q_end fun a2 w a3 m => ?_
   have h0_0 := rd2 a3 h0_0
   have aE := At.mono a3 aE
   have aF := rd1 a3 aF
   have aY := rd1 a3 aY
   have a1 := Ow.mono (RSl.mono (RI.mono _)) a3 a1
   have ay := Ow.mono (RSl.mono (RI.mono _)) a3 ay
   obtain ⟨a4, a5, av⟩ := bind_some av
   refine l_append (RSl.one _) 4 m ay rfl T27 rfl (by decide) f rfl rfl rfl (Ow.src (j := 0) a1 m rfl) a5 fun a6 a7 w a m a8 f => l_fieldAddr Tryd.underlying29 rfl Tryd.sizeOf27 (by decide) f rfl rfl fun a f => l_boxStore 3 0 (ds := [a7]) m Tryd.sizeOf27 f rfl rfl (Ow.cells 4 m a8 rfl) (ones_cons (Ow.one1 4 m a8 rfl) ones_nil) rfl (Nat.le_of_ble_eq_true rfl) rfl fun w m => l_nil (k_region ?_)
   refine l_mv f rfl rfl fun a f => l_in f rfl rfl rfl b_add fun a f => l_as f rfl rfl fun a f => l_nil ?_
   have m := m.front 4 rfl
   have m := m.front 4 rfl
   have m : Mem W a2 w (Itm.box ab 29 [(.slice none 0 0)] :: Itm.box ad 29 [a7] :: a6 :: aZ :: Itm.box aa 29 [v0_0] :: H) := m.front 4 rfl
   have m := m.front 4 rfl
   have m : Mem W a2 w (Itm.box aa 29 [v0_0] :: Itm.box ab 29 [(.slice none 0 0)] :: Itm.box ad 29 [a7] :: a6 :: H) := m.eraseAt 4
   obtain rfl := sj av
   exact ⟨_, rfl, _, _, rfl, _, a7, a6, (GLe.trans ax (GLe.trans aH (GLe.trans aO (GLe.trans aU (GLe.trans aX a3))))), f.weak ⟨rfl, rfl, rfl, rfl, trivial⟩, m, a8⟩
  ·refine k_false f rfl az ?_
   refine k_exit rfl ?_
   have m := m.front 3 rfl
   have m := m.front 3 rfl
   have m : Mem W ap w (Itm.box ab 29 [(.slice none 0 0)] :: Itm.box ad 29 [aq] :: ar :: Itm.box aa 29 [v0_0] :: H) := m.front 3 rfl
   have m := m.eraseAt 3
   obtain rfl := sj av
   obtain rfl := aw _ rfl
   exact ⟨_, rfl, _, aq, ar, ax, f.weak ⟨rfl, rfl, trivial⟩, m, ay⟩
 ·rintro a w ⟨ai, rfl, aj, ak, al, a9, f, m, ba⟩
  refine k_seq (k_region ?_)
  refine l_boxAgg 1 0 (ds := [ak]) m Ag29 f rfl rfl rfl rfl rfl fun a f => l_boxStore 0 0 (ds := [ak]) m Tryd.sizeOf29 f rfl rfl rfl (ones_cons (Ow.one1 2 m ba rfl) ones_nil) rfl (Nat.le_of_ble_eq_true rfl) rfl fun w m => l_nil ?_
  refine k_ret ?_
  have bb := rr_agg (P := Tryd.prog) 0 m Ag29 f (s := 2) rfl rfl rfl
  have m := m.front 2 rfl
  have m := m.eraseAt 2
  have m := m.eraseAt 1
  obtain rfl := sj hd
  exact ⟨[(.agg #[ak])], ⟨bb, trivial⟩, f.defers, _, [al], a9, m, _, _, rfl, rfl, ba⟩

theorem Wk.y {W w : World} {G : GH} {H : List Itm} {v0_0 : Value} {v1 : Value} {x0_0 : (List (List Int))} {x1 : (List Int)} (m : Mem W G w (H)) (h0_0 : RSl (RSl (RI .i64)) G v0_0 x0_0) (h1 : RSl (RI .i64) G v1 x1) {y : ((List (List Int))) × Bool} (hd : D.y x0_0 x1 = some y) :
  Calls Tryd.prog 24 #[(.agg #[v0_0]), v1] w (Res W G H (fun G' Ho v => ∃ r0 : Value, ∃ i0 : Itm, Ho = [i0] ∧ v = .tuple #[(.agg #[r0]), (.bool y.2)] ∧ Ow (RSl (RI .i64)) 32 G' i0 r0 y.1)) := by
 refine calls_b (args := [(.agg #[v0_0]), v1]) (N := 41) [.cell 4 29, .tmp 5] Tryd.func24 rfl rfl (Nat.le_of_ble_eq_true rfl) rfl fun a f => ?_
 unfold D.y at hd
 refine k_seq (k_region ?_)
 refine l_box (cs := [v0_0]) m f rfl rfl rfl fun aa w a m f => l_alloc (cs := [(.slice none 0 0)]) Tryd.zeroValue29 m f rfl rfl fun ab w a m f => l_as f rfl rfl fun a f => l_nil (k_seq (k_seq (k_region ?_)))
 refine l_boxAgg 1 0 (ds := [v0_0]) m Ag29 f rfl rfl rfl rfl rfl fun a f => l_mv f rfl rfl fun a f => ?_
 obtain ⟨ac, ad, hd⟩ := bind_some hd
 refine l_res f rfl rfl Tryd.call66 (Wk.Z m h0_0 h1 ad) fun ae af ag w ah m ai a f => ?_
 obtain ⟨rfl, rfl⟩ := ai
 have h0_0 := rd2 ah h0_0
 have h1 := rd1 ah h1
 refine l_op f rfl rfl rfl (r_not (f.eval rfl)) fun a f => l_mv f rfl rfl fun a f => ?_
 obtain ⟨aj, ak, hd⟩ := bind_some hd
 refine l_cut 4 (fun a w => ∃ al, GLe af al ∧ Mem W al w (Itm.box ab 29 [(.slice none 0 0)] :: Itm.box aa 29 [v0_0] :: H) ∧ Fr a 41 [(0, (.agg #[v0_0])), (1, v1), (2, (.pointer (some ⟨aa, 0, none⟩))), (4, (.pointer (some ⟨ab, 0, none⟩))), (8, (.agg #[v0_0])), (9, v1), (10, (.bool ac)), (11, (.bool (!ac))), (12, (.bool (!ac))), (16, (.bool aj))]) ?_ ?_
 ·rcases cond_some ak with ⟨am, ak⟩ | ⟨am, ak⟩
  ·refine l_not' f rfl rfl rfl am fun a f => ?_
   refine l_not' f rfl rfl rfl am fun a f => l_not' f rfl rfl rfl am fun a f => l_op f rfl rfl rfl (r_pickT (f.eval rfl) am (f.eval rfl)) fun a f => ?_
   obtain rfl := sj ak
   exact ⟨_, (GLe.refl _), m, f.weak ⟨rfl, rfl, rfl, rfl, rfl, rfl, rfl, rfl, rfl, rfl, trivial⟩⟩
  ·refine l_run f rfl rfl am ?_
   refine l_boxAgg 1 0 (ds := [v0_0]) m Ag29 f rfl rfl rfl rfl rfl fun a f => l_run f rfl rfl am ?_
   obtain ⟨an, ao, ak⟩ := bind_some ak
   refine l_res f rfl rfl Tryd.call51 (Wk.c m h0_0 ao) fun ap aq ar w au m av a f => ?_
   obtain ⟨rfl, rfl⟩ := av
   have h0_0 := rd2 au h0_0
   have h1 := rd1 au h1
   refine l_run f rfl rfl am ?_
   refine l_in f rfl rfl rfl b_eql fun a f => l_op f rfl rfl rfl (r_pickF (f.eval rfl) am (f.eval rfl)) fun a f => ?_
   obtain rfl := sj ak
   exact ⟨_, au, m, f.weak ⟨rfl, rfl, rfl, rfl, rfl, rfl, rfl, rfl, rfl, rfl, trivial⟩⟩
 ·rintro a w ⟨al, aw, m, f⟩
  have h0_0 := rd2 aw h0_0
  have h1 := rd1 aw h1
  refine l_nil ?_
  rcases cond_some hd with ⟨ax, hd⟩ | ⟨ax, hd⟩
  ·refine k_true f rfl ax ?_
   refine k_seq (k_region ?_)
   have ay : ∀ w, (Instr.build 29 #[]).run Tryd.prog w = .ok (.agg #[(.slice none 0 0)]) w := by intro w; simp [Instr.build, Instr.fill, cells_int, cells_bool, cells_string, cells_slice, cells_pointer, cells_agg]
   refine l_build f rfl rfl ay fun a f => l_boxStore 0 0 (ds := [(.slice none 0 0)]) m Tryd.sizeOf29 f rfl rfl rfl (ones_cons rfl ones_nil) rfl (Nat.le_of_ble_eq_true rfl) rfl fun w m => l_as f rfl rfl fun a f => l_nil ?_
   refine k_ret ?_
   obtain ⟨az, m, aA⟩ := Ow.nil (RSl (RI .i64)) 32 m
   have aB := rr_agg (P := Tryd.prog) 1 m Ag29 f (s := 4) rfl rfl rfl
   have m := m.eraseAt 2
   have m := m.eraseAt 1
   obtain rfl := sj hd
   exact ⟨[(.agg #[(.slice none 0 0)]), (.bool false)], ⟨aB, f.get _ _ rfl, trivial⟩, f.defers, _, [az], (GLe.trans ah aw), m, _, _, rfl, rfl, aA⟩
  ·refine k_false f rfl ax ?_
   refine k_skip ?_
   refine k_seq (k_region ?_)
   refine l_boxAgg 1 0 (ds := [v0_0]) m Ag29 f rfl rfl rfl rfl rfl fun a f => ?_
   obtain ⟨aC, aD, hd⟩ := bind_some hd
   refine l_res f rfl rfl Tryd.call67 (Wk.r0 m h0_0 aD) fun aE aF aG w aH m aI a f => ?_
   obtain ⟨aJ, aK, rfl, rfl, aL⟩ := aI
   have h0_0 := rd2 aH h0_0
   have h1 := rd1 aH h1
   refine l_alloc (cs := [(.slice none 0 0)]) Tryd.zeroValue29 m f rfl rfl fun aM w a m f => l_boxStore 0 0 (ds := [aJ]) m Tryd.sizeOf29 f rfl rfl rfl (ones_cons (Ow.one1 1 m aL rfl) ones_nil) rfl (Nat.le_of_ble_eq_true rfl) rfl fun w m => l_nil (k_seq (k_region ?_))
   refine l_fieldAddr Tryd.underlying29 rfl Tryd.sizeOf27 (by decide) f rfl rfl fun a f => l_boxCell 0 0 m Pl27 f rfl rfl rfl rfl fun a f => l_slit (R := (RI .i64)) (xs := ([] : List Int)) (RI.one _) m T32 f rfl rfl rfl (by decide) (All2.nil _) fun aN aO w a m aP f => ?_
   obtain ⟨aQ, aR, m, aS⟩ := Ow.stamp (RI.mono _) aP m
   have h0_0 := rd2 aR h0_0
   have h1 := rd1 aR h1
   have aL := Ow.mono (RSl.mono (RI.mono _)) aR aL
   refine l_slit (R := (RSl (RI .i64))) (xs := ([([] : List Int)] : List (List Int))) (RSl.one _) m T27 f rfl rfl rfl (by decide) (All2.cons aS (All2.nil _)) fun aT aU w a m aV f => ?_
   obtain ⟨aW, aX, hd⟩ := bind_some hd
   refine l_append (RSl.one _) 2 m aL rfl T27 rfl (by decide) f rfl rfl rfl (Ow.src (j := 0) aV m rfl) aX fun aY aZ w a m a0 f => l_fieldAddr Tryd.underlying29 rfl Tryd.sizeOf27 (by decide) f rfl rfl fun a f => l_boxStore 1 0 (ds := [aZ]) m Tryd.sizeOf27 f rfl rfl (Ow.cells 2 m a0 rfl) (ones_cons (Ow.one1 2 m a0 rfl) ones_nil) rfl (Nat.le_of_ble_eq_true rfl) rfl fun w m => l_nil (k_seq (k_seq (k_region ?_)))
   refine l_as f rfl rfl fun a f => l_nil ?_
   obtain ⟨a1, a2, hd⟩ := bind_some hd
   refine k_cut (fun a w => ∃ a3 : List (List Int), a3 = a1 ∧ ∃ (a4 : GH) (a5 : Itm), GLe aQ a4 ∧ Fr a 41 [(4, (.pointer (some ⟨ab, 0, none⟩))), (6, (.pointer (some ⟨aM, 0, none⟩)))] ∧ Mem W a4 w (Itm.box ab 29 [(.slice none 0 0)] :: Itm.box aM 29 [aZ] :: a5 :: H) ∧ Ow (RSl (RI .i64)) 32 a4 a5 aZ a3) ?_ ?_
   ·refine k_block ?_
    have m := m.front 2 rfl
    have m := m.front 2 rfl
    have m : Mem W aQ w (Itm.box ab 29 [(.slice none 0 0)] :: Itm.box aM 29 [aZ] :: aY :: aT :: Itm.box aa 29 [v0_0] :: H) := m.front 3 rfl
    have m := m.front 4 rfl
    have m : Mem W aQ w (Itm.box aa 29 [v0_0] :: Itm.box ab 29 [(.slice none 0 0)] :: Itm.box aM 29 [aZ] :: aY :: H) := m.eraseAt 4
    refine k_loop (fun a6 a w => ∃ a7 : Int, ∃ a8 : List (List Int), (a7, a8) = a6 ∧ ∃ (a9 : GH) (ba : Itm), GLe aQ a9 ∧ Fr a 41 [(1, v1), (2, (.pointer (some ⟨aa, 0, none⟩))), (4, (.pointer (some ⟨ab, 0, none⟩))), (6, (.pointer (some ⟨aM, 0, none⟩))), (7, (.int .i64 a7))] ∧ Mem W a9 w (Itm.box aa 29 [v0_0] :: Itm.box ab 29 [(.slice none 0 0)] :: Itm.box aM 29 [aZ] :: ba :: H) ∧ Ow (RSl (RI .i64)) 32 a9 ba aZ a8) a2 ⟨_, _, rfl, _, aY, (GLe.refl _), f.weak ⟨rfl, rfl, rfl, rfl, rfl, trivial⟩, m, a0⟩ ?_
    clear a2 f m
    rintro a6 bb bc bd a w ⟨a7, a8, rfl, a9, ba, be, f, m, bf⟩
    have h1 := rd1 be h1
    have h0_0 := rd2 be h0_0
    refine k_seq (k_seq (k_region ?_))
    refine l_mv f rfl rfl fun a f => l_mv f rfl rfl fun a f => l_len Tryd.underlying32 f rfl rfl h1 fun a f => l_in f rfl rfl rfl b_lss fun a f => l_nil ?_
    rcases cond_some bc with ⟨bg, bc⟩ | ⟨bg, bc⟩
    ·refine k_true f rfl bg ?_
     refine k_skip ?_
     refine k_seq (k_block ?_)
     refine k_draw 7 Follows (by kernel_rfl) m ?_
     refine q_boxAgg (i := 0) (ds := [aZ]) 7 2 Ag29 rfl rfl rfl rfl (by kernel_rfl) rfl f rfl rfl rfl fun a f => q_mv 1 7 rfl (by kernel_rfl) f rfl rfl rfl fun a f => q_mv 2 7 rfl (by kernel_rfl) f rfl rfl rfl fun a f => ?_
     obtain ⟨bh, bi, bc⟩ := bind_some bc
     refine q_at (i := 3) 7 T32 h1 bi rfl (by kernel_rfl) rfl f rfl rfl rfl rfl fun bj bk a bl bm f => ?_
     subst bm
     refine q_loadAt (i := 4) 7 Pl2 bl rfl (by kernel_rfl) rfl f rfl rfl rfl fun a f => q_boxAgg (i := 5) (ds := [v0_0]) 7 0 Ag29 rfl rfl rfl rfl (by kernel_rfl) rfl f rfl rfl rfl fun a f => ?_
     obtain ⟨bn, bo, bc⟩ := bind_some bc
     refine q_call (i := 6) 7 rfl (by kernel_rfl) rfl f rfl rfl rfl Tryd.call51 (fun _ _ w bp m => Wk.c m (rd2 bp h0_0) bo) fun a f => q_end fun bq w br m => ?_
     have h1 := rd1 br h1
     have bl := At.mono br bl
     have h0_0 := rd2 br h0_0
     have bf := Ow.mono (RSl.mono (RI.mono _)) br bf
     have m : Mem W bq w (ba :: Itm.box aa 29 [v0_0] :: Itm.box ab 29 [(.slice none 0 0)] :: Itm.box aM 29 [aZ] :: H) := m.front 3 rfl
     obtain ⟨bs, bt, bc⟩ := bind_some bc
     refine l_res f rfl rfl Tryd.call65 (Wk.o m bf bt) fun bu bv bw w bx m bz a f => ?_
     obtain ⟨bA, rfl, rfl, bB⟩ := bz
     have h1 := rd1 bx h1
     have bl := At.mono bx bl
     have h0_0 := rd2 bx h0_0
     refine l_boxStore 3 0 (ds := [aZ]) m Tryd.sizeOf29 f rfl rfl rfl (ones_cons (Ow.one1 0 m bB rfl) ones_nil) rfl (Nat.le_of_ble_eq_true rfl) rfl fun w m => l_nil (k_region ?_)
     refine l_mv f rfl rfl fun a f => l_in f rfl rfl rfl b_add fun a f => l_as f rfl rfl fun a f => l_nil ?_
     have m := m.front 3 rfl
     have m := m.front 3 rfl
     have m : Mem W bv w (Itm.box aa 29 [v0_0] :: Itm.box ab 29 [(.slice none 0 0)] :: Itm.box aM 29 [aZ] :: bA :: H) := m.front 3 rfl
     obtain rfl := sj bc
     exact ⟨_, rfl, _, _, rfl, _, bA, (GLe.trans be (GLe.trans br bx)), f.weak ⟨rfl, rfl, rfl, rfl, rfl, trivial⟩, m, bB⟩
    ·refine k_false f rfl bg ?_
     refine k_exit rfl ?_
     have m := m.front 3 rfl
     have m := m.front 3 rfl
     have m : Mem W a9 w (Itm.box ab 29 [(.slice none 0 0)] :: Itm.box aM 29 [aZ] :: ba :: Itm.box aa 29 [v0_0] :: H) := m.front 3 rfl
     have m := m.eraseAt 3
     obtain rfl := sj bc
     obtain rfl := bd _ rfl
     exact ⟨_, rfl, _, ba, be, f.weak ⟨rfl, rfl, trivial⟩, m, bf⟩
   ·rintro a w ⟨a3, rfl, a4, a5, bC, f, m, bD⟩
    refine k_seq (k_region ?_)
    refine l_boxAgg 1 0 (ds := [aZ]) m Ag29 f rfl rfl rfl rfl rfl fun a f => l_boxStore 0 0 (ds := [aZ]) m Tryd.sizeOf29 f rfl rfl rfl (ones_cons (Ow.one1 2 m bD rfl) ones_nil) rfl (Nat.le_of_ble_eq_true rfl) rfl fun w m => l_as f rfl rfl fun a f => l_nil ?_
    refine k_ret ?_
    have bE := rr_agg (P := Tryd.prog) 0 m Ag29 f (s := 4) rfl rfl rfl
    have m := m.front 2 rfl
    have m := m.eraseAt 2
    have m := m.eraseAt 1
    obtain rfl := sj hd
    exact ⟨[(.agg #[aZ]), (.bool true)], ⟨bE, f.get _ _ rfl, trivial⟩, f.defers, _, [a5], (GLe.trans ah (GLe.trans aw (GLe.trans aH (GLe.trans aR bC)))), m, _, _, rfl, rfl, bD⟩

theorem Wk.a0 {W w : World} {G : GH} {H : List Itm} {v0_0 : Value} {b0 : Nat} {x0_0 : (List Int)} {x0_1 : Int} {x0_2 : Int} {x1 : Int} {x2 : Int} (m : Mem W G w (Itm.box b0 51 [v0_0, (.int .i64 x0_1), (.int .u64 x0_2)] :: H)) (h0_0 : RSl (RI .u8) G v0_0 x0_0) {y : ((List (List Int))) × ((List Int)) × Int × Int} (hd : D.a0 x0_0 x0_1 x0_2 x1 x2 = some y) :
  Calls Tryd.prog 7 #[(.pointer (some ⟨b0, 0, none⟩)), (.int .i64 x1), (.int .i64 x2)] w (Res W G H (fun G' Ho v => ∃ r0 : Value, ∃ i0 : Itm, ∃ r2 : Value, Ho = [i0, Itm.box b0 51 [r2, (.int .i64 y.2.2.1), (.int .u64 y.2.2.2)]] ∧ v = (.agg #[r0]) ∧ Ow (RSl (RI .i64)) 32 G' i0 r0 y.1 ∧ RSl (RI .u8) G' r2 y.2.1)) := by
 refine calls_b (args := [(.pointer (some ⟨b0, 0, none⟩)), (.int .i64 x1), (.int .i64 x2)]) (N := 65) [.cell 6 29] Tryd.func7 rfl rfl (Nat.le_of_ble_eq_true rfl) rfl fun a f => ?_
 unfold D.a0 at hd
 refine k_seq (k_region ?_)
 refine l_alloc (cs := [(.slice none 0 0)]) Tryd.zeroValue29 m f rfl rfl fun aa w a m f => l_nil (k_seq (k_region ?_))
 refine l_slit (R := (RSl (RI .i64))) (xs := ([] : List (List Int))) (RSl.one _) m T27 f rfl rfl rfl (by decide) (All2.nil _) fun ab ac w a m ad f => ?_
 obtain ⟨ae, af, m, ag⟩ := Ow.stamp (RSl.mono (RI.mono _)) ad m
 have h0_0 := rd1 af h0_0
 obtain ⟨ah, ai, hd⟩ := bind_some hd
 refine l_res f rfl rfl Tryd.call22 (Wk.R m ag ai) fun aj ak al w am m an a f => ?_
 obtain ⟨ao, ap, rfl, rfl, aq⟩ := an
 have ag := rd2 am ag
 have h0_0 := rd1 am h0_0
 refine l_mv f rfl rfl fun a f => l_op f rfl rfl rfl (r_extract (f.eval rfl) rfl) fun a f => l_op f rfl rfl rfl (r_extract (f.eval rfl) rfl) fun a f => l_alloc (cs := [(.slice none 0 0)]) Tryd.zeroValue29 m f rfl rfl fun ar w a m f => l_boxStore 0 0 (ds := [ao]) m Tryd.sizeOf29 f rfl rfl rfl (ones_cons (Ow.one1 1 m aq rfl) ones_nil) rfl (Nat.le_of_ble_eq_true rfl) rfl fun w m => l_as f rfl rfl fun a f => l_nil (k_seq (k_seq (k_region ?_)))
 refine l_mv f rfl rfl fun a f => l_mv f rfl rfl fun a f => ?_
 have m : Mem W ak w (Itm.box b0 51 [v0_0, (.int .i64 x0_1), (.int .u64 x0_2)] :: Itm.box ar 29 [ao] :: ap :: Itm.box aa 29 [(.slice none 0 0)] :: H) := m.front 3 rfl
 obtain ⟨au, av, hd⟩ := bind_some hd
 refine l_res f rfl rfl Tryd.call15 (Wk.k m h0_0 av) fun aw ax ay w az m aA a f => ?_
 obtain ⟨aB, rfl, rfl, aC⟩ := aA
 have aq := Ow.mono (RSl.mono (RI.mono _)) az aq
 refine l_as f rfl rfl fun a f => l_nil ?_
 obtain ⟨aD, aE, hd⟩ := bind_some hd
 refine k_cut (fun a w => ∃ aF : List (List Int), ∃ aG : List Int, ∃ aH : Int, ∃ aI : Int, (aF, aG, aH, aI) = aD ∧ ∃ (aJ : GH) (aK : Value) (aL : Itm) (aM : Value), GLe ax aJ ∧ Fr a 65 [(6, (.pointer (some ⟨aa, 0, none⟩))), (7, (.pointer (some ⟨ar, 0, none⟩)))] ∧ Mem W aJ w (Itm.box aa 29 [(.slice none 0 0)] :: Itm.box ar 29 [aK] :: Itm.box b0 51 [aM, (.int .i64 aH), (.int .u64 aI)] :: aL :: H) ∧ Ow (RSl (RI .i64)) 32 aJ aL aK aF ∧ RSl (RI .u8) aJ aM aG) ?_ ?_
 ·refine k_block ?_
  have m := m.front 3 rfl
  have m : Mem W ax w (Itm.box b0 51 [aB, (.int .i64 au.2.2.1), (.int .u64 au.2.2.2)] :: Itm.box aa 29 [(.slice none 0 0)] :: Itm.box ar 29 [ao] :: ap :: H) := m.front 1 rfl
  refine k_loop (fun aN a w => ∃ aO : Int, ∃ aP : List Int, ∃ aQ : Int, ∃ aR : Int, ∃ aS : List (List Int), (aO, aP, aQ, aR, aS) = aN ∧ ∃ (aT : GH) (aU : Value) (aV : Value) (aW : Itm), GLe ax aT ∧ Fr a 65 [(0, (.pointer (some ⟨b0, 0, none⟩))), (2, (.int .i64 x2)), (6, (.pointer (some ⟨aa, 0, none⟩))), (7, (.pointer (some ⟨ar, 0, none⟩))), (9, (.int .i64 aO))] ∧ Mem W aT w (Itm.box b0 51 [aU, (.int .i64 aQ), (.int .u64 aR)] :: Itm.box aa 29 [(.slice none 0 0)] :: Itm.box ar 29 [aV] :: aW :: H) ∧ RSl (RI .u8) aT aU aP ∧ Ow (RSl (RI .i64)) 32 aT aW aV aS) aE ⟨_, _, _, _, _, rfl, _, aB, ao, ap, (GLe.refl _), f.weak ⟨rfl, rfl, rfl, rfl, rfl, trivial⟩, m, aC, aq⟩ ?_
  clear aE f m
  rintro aN aX aY aZ a w ⟨aO, aP, aQ, aR, aS, rfl, aT, aU, aV, aW, a2, f, m, a3, a4⟩
  refine k_seq (k_seq (k_region ?_))
  refine l_mv f rfl rfl fun a f => l_in f rfl rfl rfl b_gtr fun a f => l_nil ?_
  rcases cond_some aY with ⟨a5, aY⟩ | ⟨a5, aY⟩
  ·refine k_true f rfl a5 ?_
   refine k_skip ?_
   refine k_seq (k_block (k_seq (k_region ?_)))
   refine l_mv f rfl rfl fun a f => l_fieldAddr Tryd.underlying29 rfl Tryd.sizeOf27 (by decide) f rfl rfl fun a f => l_boxCell 2 0 m Pl27 f rfl rfl rfl rfl fun a f => l_own_len 3 m a4 rfl Tryd.underlying27 f rfl rfl fun a f => ?_
   obtain ⟨a6, a7, aY⟩ := bind_some aY
   refine l_res f rfl rfl Tryd.call15 (Wk.k m a3 a7) fun a8 a9 ba w bb m bc a f => ?_
   obtain ⟨bd, rfl, rfl, be⟩ := bc
   have a4 := Ow.mono (RSl.mono (RI.mono _)) bb a4
   refine l_as f rfl rfl fun a f => l_nil (k_seq (k_region ?_))
   refine l_mv f rfl rfl fun a f => l_slit (R := (RI .i64)) (xs := ([a6.1] : List Int)) (RI.one _) m T32 f rfl rfl rfl (by decide) (All2.cons rfl (All2.nil _)) fun bf bg w a m bh f => l_as f rfl rfl fun a f => l_nil (k_seq (k_region ?_))
   refine l_mv f rfl rfl fun a f => l_mv f rfl rfl fun a f => l_mv f rfl rfl fun a f => l_in f rfl rfl rfl b_sub fun a f => ?_
   have m : Mem W a9 w (Itm.box b0 51 [bd, (.int .i64 a6.2.2.1), (.int .u64 a6.2.2.2)] :: bf :: Itm.box aa 29 [(.slice none 0 0)] :: Itm.box ar 29 [aV] :: aW :: H) := m.front 1 rfl
   obtain ⟨bi, bj, aY⟩ := bind_some aY
   refine l_res f rfl rfl Tryd.call15 (Wk.k m be bj) fun bk bl bm w bn m bo a f => ?_
   obtain ⟨bp, rfl, rfl, bq⟩ := bo
   have bh := od1 bn bh
   have a4 := Ow.mono (RSl.mono (RI.mono _)) bn a4
   refine l_in f rfl rfl rfl b_add fun a f => l_as f rfl rfl fun a f => l_nil (k_seq (k_seq (k_region ?_)))
   refine l_mv f rfl rfl fun a f => l_in f rfl rfl rfl b_neq fun a f => l_nil ?_
   obtain ⟨br, bs, aY⟩ := bind_some aY
   refine k_cut (fun a w => ∃ bt : List Int, bt = br ∧ ∃ (bu : GH) (bv : Value) (bw : Itm), GLe bl bu ∧ Fr a 65 [(0, (.pointer (some ⟨b0, 0, none⟩))), (2, (.int .i64 x2)), (6, (.pointer (some ⟨aa, 0, none⟩))), (7, (.pointer (some ⟨ar, 0, none⟩))), (9, (.int .i64 aO)), (10, (.int .i64 a6.1)), (11, bv), (12, (.int .i64 (IntKind.i64.wrap (x2 + bi.1))))] ∧ Mem W bu w (Itm.box b0 51 [bp, (.int .i64 bi.2.2.1), (.int .u64 bi.2.2.2)] :: Itm.box aa 29 [(.slice none 0 0)] :: Itm.box ar 29 [aV] :: bw :: aW :: H) ∧ Ow (RI .i64) 2 bu bw bv bt) ?_ ?_
   ·rcases cond_some bs with ⟨bx, bs⟩ | ⟨bx, bs⟩
    ·refine k_true f rfl bx ?_
     refine k_region ?_
     refine l_slit (R := (RI .i64)) (xs := ([] : List Int)) (RI.one _) m T32 f rfl rfl rfl (by decide) (All2.nil _) fun bz bA w a m bB f => l_fieldAddr Tryd.underlying29 rfl Tryd.sizeOf27 (by decide) f rfl rfl fun a f => l_boxCell 4 0 m Pl27 f rfl rfl rfl rfl fun a f => l_mv f rfl rfl fun a f => ?_
     obtain ⟨bC, bD, bs⟩ := bind_some bs
     refine l_own_at 5 m a4 rfl T27 f rfl rfl rfl bD fun bE a bF f => l_own_load 5 m a4 rfl Pl32 f rfl rfl bF bD fun bG a bH f => ?_
     obtain ⟨bI, bJ, bs⟩ := bind_some bs
     refine l_append (RI.one _) 0 m bB rfl T32 rfl (by decide) f rfl rfl rfl (bH.src m) bJ fun bK bL w a m bM f => l_as f rfl rfl fun a f => l_nil ?_
     have m := m.front 5 rfl
     have m := m.front 1 rfl
     have m : Mem W bl w (Itm.box ar 29 [aV] :: bK :: aW :: Itm.box b0 51 [bp, (.int .i64 bi.2.2.1), (.int .u64 bi.2.2.2)] :: bf :: Itm.box aa 29 [(.slice none 0 0)] :: H) := m.front 5 rfl
     have m := m.front 5 rfl
     have m := m.front 4 rfl
     have m : Mem W bl w (Itm.box b0 51 [bp, (.int .i64 bi.2.2.1), (.int .u64 bi.2.2.2)] :: Itm.box aa 29 [(.slice none 0 0)] :: Itm.box ar 29 [aV] :: bK :: aW :: H) := m.eraseAt 5
     obtain rfl := sj bs
     exact ⟨_, rfl, _, bL, bK, (GLe.refl _), f.weak ⟨rfl, rfl, rfl, rfl, rfl, rfl, rfl, rfl, trivial⟩, m, bM⟩
    ·refine k_false f rfl bx ?_
     refine k_skip ?_
     have m := m.front 3 rfl
     have m := m.front 3 rfl
     have m : Mem W bl w (Itm.box b0 51 [bp, (.int .i64 bi.2.2.1), (.int .u64 bi.2.2.2)] :: Itm.box aa 29 [(.slice none 0 0)] :: Itm.box ar 29 [aV] :: bf :: aW :: H) := m.front 2 rfl
     obtain rfl := sj bs
     exact ⟨_, rfl, _, bg, bf, (GLe.refl _), f.weak ⟨rfl, rfl, rfl, rfl, rfl, rfl, rfl, rfl, trivial⟩, m, bh⟩
   ·rintro a w ⟨bt, rfl, bu, bv, bw, bN, f, m, bO⟩
    have bq := rd1 bN bq
    have a4 := Ow.mono (RSl.mono (RI.mono _)) bN a4
    refine k_seq (k_seq (k_region ?_))
    refine l_mv f rfl rfl fun a f => l_in f rfl rfl rfl b_eql fun a f => l_nil ?_
    obtain ⟨bP, bQ, aY⟩ := bind_some aY
    refine k_cut (fun a w => ∃ bR : List Int, bR = bP ∧ ∃ (bS : GH) (bT : Value) (bU : Itm), GLe bu bS ∧ Fr a 65 [(0, (.pointer (some ⟨b0, 0, none⟩))), (2, (.int .i64 x2)), (6, (.pointer (some ⟨aa, 0, none⟩))), (7, (.pointer (some ⟨ar, 0, none⟩))), (9, (.int .i64 aO)), (11, bT), (12, (.int .i64 (IntKind.i64.wrap (x2 + bi.1))))] ∧ Mem W bS w (Itm.box b0 51 [bp, (.int .i64 bi.2.2.1), (.int .u64 bi.2.2.2)] :: Itm.box aa 29 [(.slice none 0 0)] :: Itm.box ar 29 [aV] :: bU :: aW :: H) ∧ Ow (RI .i64) 2 bS bU bT bR) ?_ ?_
    ·rcases cond_some bQ with ⟨bV, bQ⟩ | ⟨bV, bQ⟩
     ·refine k_true f rfl bV ?_
      refine k_region ?_
      refine l_mv f rfl rfl fun a f => l_mv f rfl rfl fun a f => ?_
      obtain ⟨bW, bX, bQ⟩ := bind_some bQ
      refine l_res f rfl rfl Tryd.call23 (Ow.lendCall (RI.mono _) 3 bO m rfl (fun bY bZ m b1 => Wk.n0 m b1 bX) (fun _ G' _ _ ⟨a0, a1, e1, e2, o0⟩ => ⟨a0, a1, e1, e2, Ow.free (RI.free _) G' o0⟩)) fun b2 b3 b4 w b5 m b6 a f => ?_
      obtain ⟨b7, b8, rfl, rfl, b9⟩ := b6
      have bq := rd1 b5 bq
      have bO := od1 b5 bO
      have a4 := Ow.mono (RSl.mono (RI.mono _)) b5 a4
      refine l_as f rfl rfl fun a f => l_nil ?_
      have m := m.front 5 rfl
      have m := m.front 1 rfl
      have m : Mem W b3 w (Itm.box ar 29 [aV] :: b8 :: aW :: Itm.box b0 51 [bp, (.int .i64 bi.2.2.1), (.int .u64 bi.2.2.2)] :: Itm.box aa 29 [(.slice none 0 0)] :: bw :: H) := m.front 4 rfl
      have m := m.front 4 rfl
      have m := m.front 4 rfl
      have m : Mem W b3 w (Itm.box b0 51 [bp, (.int .i64 bi.2.2.1), (.int .u64 bi.2.2.2)] :: Itm.box aa 29 [(.slice none 0 0)] :: Itm.box ar 29 [aV] :: b8 :: aW :: H) := m.eraseAt 5
      obtain rfl := sj bQ
      exact ⟨_, rfl, _, b7, b8, b5, f.weak ⟨rfl, rfl, rfl, rfl, rfl, rfl, rfl, trivial⟩, m, b9⟩
     ·refine k_false f rfl bV ?_
      refine k_skip ?_
      obtain rfl := sj bQ
      exact ⟨_, rfl, _, bv, bw, (GLe.refl _), f.weak ⟨rfl, rfl, rfl, rfl, rfl, rfl, rfl, trivial⟩, m, bO⟩
    ·rintro a w ⟨bR, rfl, bS, bT, bU, ca, f, m, cb⟩
     have bq := rd1 ca bq
     have a4 := Ow.mono (RSl.mono (RI.mono _)) ca a4
     refine k_seq (k_seq (k_region ?_))
     refine l_mv f rfl rfl fun a f => l_in f rfl rfl rfl b_eql fun a f => l_nil ?_
     rcases cond_some aY with ⟨cc, aY⟩ | ⟨cc, aY⟩
     ·refine k_true f rfl cc ?_
      refine k_region ?_
      refine l_slit (R := (RI .i64)) (xs := ([] : List Int)) (RI.one _) m T32 f rfl rfl rfl (by decide) (All2.nil _) fun cd ce w a m cf f => l_as f rfl rfl fun a f => l_nil (k_seq (k_region ?_))
      refine l_boxAgg 3 0 (ds := [aV]) m Ag29 f rfl rfl rfl rfl rfl fun a f => l_mv f rfl rfl fun a f => ?_
      have m : Mem W bS w (aW :: cd :: Itm.box b0 51 [bp, (.int .i64 bi.2.2.1), (.int .u64 bi.2.2.2)] :: Itm.box aa 29 [(.slice none 0 0)] :: Itm.box ar 29 [aV] :: bU :: H) := m.front 5 rfl
      obtain ⟨cg, ch, m, ci⟩ := Ow.stamp (RSl.mono (RI.mono _)) a4 m
      have cf := od1 ch cf
      have bq := rd1 ch bq
      have cb := od1 ch cb
      obtain ⟨cj, ck, m, cl⟩ := Ow.stamp (RI.mono _) cf m
      have ci := rd2 ck ci
      have bq := rd1 ck bq
      have cb := od1 ck cb
      obtain ⟨cm, cn, aY⟩ := bind_some aY
      refine l_res f rfl rfl Tryd.call24 (Wk.y m ci cl cn) fun co cp cq w cr m ct a f => ?_
      obtain ⟨cu, cv, rfl, rfl, cw⟩ := ct
      have cl := rd1 cr cl
      have ci := rd2 cr ci
      have bq := rd1 cr bq
      have cb := od1 cr cb
      refine l_mv f rfl rfl fun a f => l_op f rfl rfl rfl (r_extract (f.eval rfl) rfl) fun a f => l_op f rfl rfl rfl (r_extract (f.eval rfl) rfl) fun a f => l_alloc (cs := [(.slice none 0 0)]) Tryd.zeroValue29 m f rfl rfl fun cx w a m f => l_boxStore 0 0 (ds := [cu]) m Tryd.sizeOf29 f rfl rfl rfl (ones_cons (Ow.one1 1 m cw rfl) ones_nil) rfl (Nat.le_of_ble_eq_true rfl) rfl fun w m => l_as f rfl rfl fun a f => l_nil (k_region ?_)
      refine l_boxAgg 0 0 (ds := [cu]) m Ag29 f rfl rfl rfl rfl rfl fun a f => l_boxStore 4 0 (ds := [cu]) m Tryd.sizeOf29 f rfl rfl rfl (ones_cons (Ow.one1 1 m cw rfl) ones_nil) rfl (Nat.le_of_ble_eq_true rfl) rfl fun w m => l_nil (k_region ?_)
      refine l_mv f rfl rfl fun a f => l_in f rfl rfl rfl b_sub fun a f => l_as f rfl rfl fun a f => l_nil ?_
      have m := m.front 1 rfl
      have m := m.front 4 rfl
      have m : Mem W cp w (Itm.box aa 29 [(.slice none 0 0)] :: Itm.box ar 29 [cu] :: cv :: Itm.box cx 29 [cu] :: Itm.box b0 51 [bp, (.int .i64 bi.2.2.1), (.int .u64 bi.2.2.2)] :: bU :: H) := m.front 4 rfl
      have m := m.front 4 rfl
      have m := m.front 5 rfl
      have m : Mem W cp w (cv :: bU :: Itm.box b0 51 [bp, (.int .i64 bi.2.2.1), (.int .u64 bi.2.2.2)] :: Itm.box aa 29 [(.slice none 0 0)] :: Itm.box ar 29 [cu] :: Itm.box cx 29 [cu] :: H) := m.front 4 rfl
      have m := m.front 4 rfl
      have m := m.front 4 rfl
      have m : Mem W cp w (Itm.box b0 51 [bp, (.int .i64 bi.2.2.1), (.int .u64 bi.2.2.2)] :: Itm.box aa 29 [(.slice none 0 0)] :: Itm.box ar 29 [cu] :: cv :: bU :: Itm.box cx 29 [cu] :: H) := m.front 4 rfl
      have m := m.eraseAt 5
      have m : Mem W cp w (Itm.box b0 51 [bp, (.int .i64 bi.2.2.1), (.int .u64 bi.2.2.2)] :: Itm.box aa 29 [(.slice none 0 0)] :: Itm.box ar 29 [cu] :: cv :: H) := m.eraseAt 4
      obtain rfl := sj aY
      exact ⟨_, rfl, _, _, _, _, _, rfl, _, bp, cu, cv, (GLe.trans a2 (GLe.trans bb (GLe.trans bn (GLe.trans bN (GLe.trans ca (GLe.trans ch (GLe.trans ck cr))))))), f.weak ⟨rfl, rfl, rfl, rfl, rfl, trivial⟩, m, bq, cw⟩
     ·refine k_false f rfl cc ?_
      refine k_skip ?_
      refine k_seq (k_region ?_)
      refine l_boxAgg 2 0 (ds := [aV]) m Ag29 f rfl rfl rfl rfl rfl fun a f => l_mv f rfl rfl fun a f => ?_
      have m : Mem W bS w (aW :: Itm.box b0 51 [bp, (.int .i64 bi.2.2.1), (.int .u64 bi.2.2.2)] :: Itm.box aa 29 [(.slice none 0 0)] :: Itm.box ar 29 [aV] :: bU :: H) := m.front 4 rfl
      obtain ⟨cy, cz, m, cA⟩ := Ow.stamp (RSl.mono (RI.mono _)) a4 m
      have bq := rd1 cz bq
      have cb := od1 cz cb
      have m : Mem W cy w (bU :: Itm.box b0 51 [bp, (.int .i64 bi.2.2.1), (.int .u64 bi.2.2.2)] :: Itm.box aa 29 [(.slice none 0 0)] :: Itm.box ar 29 [aV] :: H) := m.front 3 rfl
      obtain ⟨cB, cC, m, cD⟩ := Ow.stamp (RI.mono _) cb m
      have cA := rd2 cC cA
      have bq := rd1 cC bq
      obtain ⟨cE, cF, aY⟩ := bind_some aY
      refine l_res f rfl rfl Tryd.call24 (Wk.y m cA cD cF) fun cG cH cI w cJ m cK a f => ?_
      obtain ⟨cL, cM, rfl, rfl, cN⟩ := cK
      have cD := rd1 cJ cD
      have cA := rd2 cJ cA
      have bq := rd1 cJ bq
      refine l_mv f rfl rfl fun a f => l_op f rfl rfl rfl (r_extract (f.eval rfl) rfl) fun a f => l_op f rfl rfl rfl (r_extract (f.eval rfl) rfl) fun a f => l_alloc (cs := [(.slice none 0 0)]) Tryd.zeroValue29 m f rfl rfl fun cO w a m f => l_boxStore 0 0 (ds := [cL]) m Tryd.sizeOf29 f rfl rfl rfl (ones_cons (Ow.one1 1 m cN rfl) ones_nil) rfl (Nat.le_of_ble_eq_true rfl) rfl fun w m => l_as f rfl rfl fun a f => l_nil (k_region ?_)
      refine l_boxAgg 0 0 (ds := [cL]) m Ag29 f rfl rfl rfl rfl rfl fun a f => l_boxStore 4 0 (ds := [cL]) m Tryd.sizeOf29 f rfl rfl rfl (ones_cons (Ow.one1 1 m cN rfl) ones_nil) rfl (Nat.le_of_ble_eq_true rfl) rfl fun w m => l_nil (k_region ?_)
      refine l_mv f rfl rfl fun a f => l_in f rfl rfl rfl b_sub fun a f => l_as f rfl rfl fun a f => l_nil ?_
      have m := m.front 1 rfl
      have m := m.front 4 rfl
      have m : Mem W cH w (Itm.box aa 29 [(.slice none 0 0)] :: Itm.box ar 29 [cL] :: cM :: Itm.box cO 29 [cL] :: Itm.box b0 51 [bp, (.int .i64 bi.2.2.1), (.int .u64 bi.2.2.2)] :: H) := m.front 4 rfl
      have m := m.front 4 rfl
      have m : Mem W cH w (Itm.box b0 51 [bp, (.int .i64 bi.2.2.1), (.int .u64 bi.2.2.2)] :: Itm.box aa 29 [(.slice none 0 0)] :: Itm.box ar 29 [cL] :: cM :: H) := m.eraseAt 4
      obtain rfl := sj aY
      exact ⟨_, rfl, _, _, _, _, _, rfl, _, bp, cL, cM, (GLe.trans a2 (GLe.trans bb (GLe.trans bn (GLe.trans bN (GLe.trans ca (GLe.trans cz (GLe.trans cC cJ))))))), f.weak ⟨rfl, rfl, rfl, rfl, rfl, trivial⟩, m, bq, cN⟩
  ·refine k_false f rfl a5 ?_
   refine k_exit rfl ?_
   have m := m.front 2 rfl
   have m : Mem W aT w (Itm.box aa 29 [(.slice none 0 0)] :: Itm.box ar 29 [aV] :: Itm.box b0 51 [aU, (.int .i64 aQ), (.int .u64 aR)] :: aW :: H) := m.front 2 rfl
   obtain rfl := sj aY
   obtain rfl := aZ _ rfl
   exact ⟨_, _, _, _, rfl, _, aV, aW, aU, a2, f.weak ⟨rfl, rfl, trivial⟩, m, a4, a3⟩
 ·rintro a w ⟨aF, aG, aH, aI, rfl, aJ, aK, aL, aM, cP, f, m, cQ, cR⟩
  refine k_seq (k_region ?_)
  refine l_boxAgg 1 0 (ds := [aK]) m Ag29 f rfl rfl rfl rfl rfl fun a f => l_boxStore 0 0 (ds := [aK]) m Tryd.sizeOf29 f rfl rfl rfl (ones_cons (Ow.one1 3 m cQ rfl) ones_nil) rfl (Nat.le_of_ble_eq_true rfl) rfl fun w m => l_nil ?_
  refine k_ret ?_
  have cS := rr_agg (P := Tryd.prog) 0 m Ag29 f (s := 6) rfl rfl rfl
  have m := m.front 2 rfl
  have m := m.front 3 rfl
  have m : Mem W aJ w (aL :: Itm.box b0 51 [aM, (.int .i64 aH), (.int .u64 aI)] :: Itm.box aa 29 [aK] :: H) := m.eraseAt 3
  have m := m.eraseAt 2
  obtain rfl := sj hd
  exact ⟨[(.agg #[aK])], ⟨cS, trivial⟩, f.defers, _, [aL, Itm.box b0 51 [aM, (.int .i64 aH), (.int .u64 aI)]], (GLe.trans af (GLe.trans am (GLe.trans az cP))), m, _, _, _, rfl, rfl, cQ, cR⟩

theorem Wk.i {W w : World} {G : GH} {H : List Itm} {x0 : Int} {x1 : Int} {x2 : Int} (m : Mem W G w (H))  {y : Bool} (hd : D.i x0 x1 x2 = some y) :
  Calls Tryd.prog 35 #[(.int .i64 x0), (.int .i64 x1), (.int .i64 x2)] w (Res W G H (fun _ Ho v => Ho = [] ∧ v = (.bool y))) := by
 refine calls_b (args := [(.int .i64 x0), (.int .i64 x1), (.int .i64 x2)]) (N := 15) [.tmp 6] Tryd.func35 rfl rfl (Nat.le_of_ble_eq_true rfl) rfl fun a f => ?_
 unfold D.i at hd
 refine k_seq (k_region ?_)
 refine l_as f rfl rfl fun a f => l_nil (k_seq (k_region ?_))
 refine l_mv f rfl rfl fun a f => l_mv f rfl rfl fun a f => l_in f rfl rfl rfl b_leq fun a f => l_mv f rfl rfl fun a f => ?_
 refine l_cut 4 (fun a w => ∃ aa, GLe G aa ∧ Mem W aa w (H) ∧ Fr a 15 [(0, (.int .i64 x0)), (1, (.int .i64 x1)), (2, (.int .i64 x2)), (7, (.int .i64 x1)), (8, (.int .i64 x0)), (9, (.bool (decide (x1 ≤ x0)))), (10, (.bool (decide (x1 ≤ x0)))), (14, (.bool ((decide (x1 ≤ x0)) && (decide (x0 ≤ x2)))))]) ?_ ?_
 ·rcases Bool.eq_false_or_eq_true (decide (x1 ≤ x0)) with ab | ab
  ·refine l_run f rfl rfl ab ?_
   refine l_mv f rfl rfl fun a f => l_run f rfl rfl ab ?_
   refine l_mv f rfl rfl fun a f => l_run f rfl rfl ab ?_
   refine l_in f rfl rfl rfl b_leq fun a f => l_op f rfl rfl rfl (r_pickT (f.eval rfl) ab (f.eval rfl)) fun a f => ?_
   exact ⟨_, (GLe.refl _), m, f.weak ⟨rfl, rfl, rfl, rfl, rfl, rfl, rfl, by rw [ab]; rfl, trivial⟩⟩
  ·refine l_not' f rfl rfl rfl ab fun a f => ?_
   refine l_not' f rfl rfl rfl ab fun a f => l_not' f rfl rfl rfl ab fun a f => l_op f rfl rfl rfl (r_pickF (f.eval rfl) ab (f.eval rfl)) fun a f => ?_
   exact ⟨_, (GLe.refl _), m, f.weak ⟨rfl, rfl, rfl, rfl, rfl, rfl, rfl, by rw [ab]; rfl, trivial⟩⟩
 ·rintro a w ⟨aa, ac, m, f⟩
  refine l_as f rfl rfl fun a f => l_nil ?_
  refine k_ret ?_
  obtain rfl := sj hd
  exact ⟨[(.bool ((decide (x1 ≤ x0)) && (decide (x0 ≤ x2))))], ⟨f.get _ _ rfl, trivial⟩, f.defers, _, [], ac, m, rfl, rfl⟩

theorem Wk.q {W w : World} {G : GH} {H : List Itm} {v0 : Value} {x0 : (List Int)} {x1 : Int} (m : Mem W G w (H)) (h0 : RSl (RI .i64) G v0 x0) {y : Bool} (hd : D.q x0 x1 = some y) :
  Calls Tryd.prog 39 #[v0, (.int .i64 x1)] w (Res W G H (fun _ Ho v => Ho = [] ∧ v = (.bool y))) := by
 refine calls_b (args := [v0, (.int .i64 x1)]) (N := 33) [.tmp 4] Tryd.func39 rfl rfl (Nat.le_of_ble_eq_true rfl) rfl fun a f => ?_
 unfold D.q at hd
 refine k_seq (k_region ?_)
 refine l_as f rfl rfl fun a f => l_nil (k_seq (k_seq (k_region ?_)))
 refine l_mv f rfl rfl fun a f => l_len Tryd.underlying32 f rfl rfl h0 fun a f => l_mv f rfl rfl fun a f => l_nil ?_
 obtain ⟨aa, ab, hd⟩ := bind_some hd
 refine k_cut (fun a w => ∃ q_181' : Unit, aa = .inl q_181' ∧ ∃ (ac : GH), GLe G ac ∧ Fr a 33 [] ∧ Mem W ac w (H)) ?_ ?_
 ·refine k_block ?_
  refine k_loop (fun ad a w => ∃ ae : Int, ae = ad ∧ ∃ (af : GH), GLe G af ∧ Fr a 33 [(0, v0), (1, (.int .i64 x1)), (7, v0), (8, (.int .i64 (x0.length : Int))), (9, (.int .i64 ae))] ∧ Mem W af w (H)) ab ⟨_, rfl, _, (GLe.refl _), f.weak ⟨rfl, rfl, rfl, rfl, rfl, trivial⟩, m⟩ ?_
  clear ab f m
  rintro ad ag ah ai a w ⟨ae, rfl, af, aj, f, m⟩
  have h0 := rd1 aj h0
  refine k_seq (k_region ?_)
  refine l_in f rfl rfl rfl b_lss fun a f => l_nil (k_seq ?_)
  rcases cond_some ah with ⟨ak, ah⟩ | ⟨ak, ah⟩
  ·refine k_true f rfl ak ?_
   refine k_skip ?_
   refine k_seq (k_block (k_seq (k_region ?_)))
   refine l_mv f rfl rfl fun a f => ?_
   obtain ⟨al, am, ah⟩ := bind_some ah
   refine l_at T32 f rfl rfl rfl h0 am fun an ao a ap aq f => ?_
   subst aq
   refine l_loadAt m Pl2 f rfl rfl ap fun a f => l_as f rfl rfl fun a f => l_as f rfl rfl fun a f => l_nil (k_seq (k_region ?_))
   refine l_mv f rfl rfl fun a f => l_mv f rfl rfl fun a f => l_in f rfl rfl rfl b_sub fun a f => ?_
   obtain ⟨ar, au, ah⟩ := bind_some ah
   refine l_res f rfl rfl Tryd.call35 (Wk.i m  au) fun av aw ax w ay m az a f => ?_
   obtain ⟨rfl, rfl⟩ := az
   have h0 := rd1 ay h0
   refine l_op f rfl rfl rfl (r_not (f.eval rfl)) fun a f => l_mv f rfl rfl fun a f => ?_
   obtain ⟨aA, aB, ah⟩ := bind_some ah
   refine l_cut 12 (fun a w => ∃ aC, GLe aw aC ∧ Mem W aC w (H) ∧ Fr a 33 [(0, v0), (1, (.int .i64 x1)), (5, (.int .i64 ae)), (6, (.int .i64 al)), (7, v0), (8, (.int .i64 (x0.length : Int))), (9, (.int .i64 ae)), (14, (.int .i64 al)), (15, (.int .i64 x1)), (16, (.int .i64 (IntKind.i64.wrap (x1 - 1)))), (17, (.bool ar)), (18, (.bool (!ar))), (19, (.bool (!ar))), (31, (.bool aA))]) ?_ ?_
   ·rcases cond_some aB with ⟨aD, aB⟩ | ⟨aD, aB⟩
    ·refine l_not' f rfl rfl rfl aD fun a f => ?_
     refine l_not' f rfl rfl rfl aD fun a f => l_not' f rfl rfl rfl aD fun a f => l_notU f rfl rfl rfl fun a f => l_notU f rfl rfl rfl fun a f => l_notU f rfl rfl rfl fun a f => l_notU f rfl rfl rfl fun a f => l_notU f rfl rfl rfl fun a f => l_notU f rfl rfl rfl fun a f => l_notU f rfl rfl rfl fun a f => l_not' f rfl rfl rfl aD fun a f => l_op f rfl rfl rfl (r_pickT (f.eval rfl) aD (f.eval rfl)) fun a f => ?_
     obtain rfl := sj aB
     exact ⟨_, (GLe.refl _), m, f.weak ⟨rfl, rfl, rfl, rfl, rfl, rfl, rfl, rfl, rfl, rfl, rfl, rfl, rfl, rfl, trivial⟩⟩
    ·refine l_run f rfl rfl aD ?_
     refine l_mv f rfl rfl fun a f => l_run f rfl rfl aD ?_
     refine l_in f rfl rfl rfl b_gtr fun a f => l_run f rfl rfl aD ?_
     refine l_mv f rfl rfl fun a f => ?_
     obtain ⟨aE, aF, aB⟩ := bind_some aB
     refine l_cut 8 (fun a w => ∃ aG, GLe aw aG ∧ Mem W aG w (H) ∧ Fr a 33 [(0, v0), (1, (.int .i64 x1)), (5, (.int .i64 ae)), (6, (.int .i64 al)), (7, v0), (8, (.int .i64 (x0.length : Int))), (9, (.int .i64 ae)), (14, (.int .i64 al)), (15, (.int .i64 x1)), (16, (.int .i64 (IntKind.i64.wrap (x1 - 1)))), (17, (.bool ar)), (18, (.bool (!ar))), (19, (.bool (!ar))), (20, (.int .i64 ae)), (21, (.bool (decide ((0 : Int) < ae)))), (22, (.bool (decide ((0 : Int) < ae)))), (30, (.bool aE))]) ?_ ?_
     ·rcases cond_some aF with ⟨aH, aF⟩ | ⟨aH, aF⟩
      ·refine l_run f rfl rfl aH ?_
       refine l_mv f rfl rfl fun a f => l_run f rfl rfl aH ?_
       refine l_mv f rfl rfl fun a f => l_run f rfl rfl aH ?_
       refine l_in f rfl rfl rfl b_sub fun a f => l_run f rfl rfl aH ?_
       obtain ⟨aI, aJ, aF⟩ := bind_some aF
       refine l_at T32 f rfl rfl rfl h0 aJ fun aK aL a aM aN f => ?_
       subst aN
       refine l_run f rfl rfl aH ?_
       refine l_loadAt m Pl2 f rfl rfl aM fun a f => l_run f rfl rfl aH ?_
       refine l_mv f rfl rfl fun a f => l_run f rfl rfl aH ?_
       refine l_in f rfl rfl rfl b_geq fun a f => l_run f rfl rfl aD ?_
       refine l_op f rfl rfl rfl (r_pickT (f.eval rfl) aH (f.eval rfl)) fun a f => ?_
       obtain rfl := sj aF
       exact ⟨_, (GLe.refl _), m, f.weak ⟨rfl, rfl, rfl, rfl, rfl, rfl, rfl, rfl, rfl, rfl, rfl, rfl, rfl, rfl, rfl, rfl, rfl, trivial⟩⟩
      ·refine l_not' f rfl rfl rfl aH fun a f => ?_
       refine l_not' f rfl rfl rfl aH fun a f => l_not' f rfl rfl rfl aH fun a f => l_not' f rfl rfl rfl aH fun a f => l_not' f rfl rfl rfl aH fun a f => l_not' f rfl rfl rfl aH fun a f => l_not' f rfl rfl rfl aH fun a f => l_run f rfl rfl aD ?_
       refine l_op f rfl rfl rfl (r_pickF (f.eval rfl) aH (f.eval rfl)) fun a f => ?_
       obtain rfl := sj aF
       exact ⟨_, (GLe.refl _), m, f.weak ⟨rfl, rfl, rfl, rfl, rfl, rfl, rfl, rfl, rfl, rfl, rfl, rfl, rfl, rfl, rfl, rfl, rfl, trivial⟩⟩
     ·rintro a w ⟨aG, aO, m, f⟩
      have h0 := rd1 aO h0
      refine l_op f rfl rfl rfl (r_pickF (f.eval rfl) aD (f.eval rfl)) fun a f => ?_
      obtain rfl := sj aB
      exact ⟨_, aO, m, f.weak ⟨rfl, rfl, rfl, rfl, rfl, rfl, rfl, rfl, rfl, rfl, rfl, rfl, rfl, rfl, trivial⟩⟩
   ·rintro a w ⟨aC, aP, m, f⟩
    have h0 := rd1 aP h0
    refine l_nil ?_
    rcases cond_some ah with ⟨aQ, ah⟩ | ⟨aQ, ah⟩
    ·refine k_true f rfl aQ ?_
     refine k_seq (k_region ?_)
     refine l_as f rfl rfl fun a f => l_nil ?_
     refine k_ret ?_
     obtain rfl := sj ah
     obtain rfl := ai _ rfl
     obtain rfl := sj hd
     exact ⟨[(.bool false)], ⟨f.get _ _ rfl, trivial⟩, f.defers, _, [], (GLe.trans aj (GLe.trans ay aP)), m, rfl, rfl⟩
    ·refine k_false f rfl aQ ?_
     refine k_skip ?_
     refine k_region ?_
     refine l_in f rfl rfl rfl b_add fun a f => l_mv f rfl rfl fun a f => l_nil ?_
     obtain rfl := sj ah
     exact ⟨_, rfl, _, rfl, _, (GLe.trans aj (GLe.trans ay aP)), f.weak ⟨rfl, rfl, rfl, rfl, rfl, trivial⟩, m⟩
  ·refine k_false f rfl ak ?_
   refine k_exit rfl ?_
   obtain rfl := sj ah
   obtain rfl := ai _ rfl
   exact ⟨_, rfl, _, aj, f.weak trivial, m⟩
 ·rintro a w ⟨_, rfl, ac, aR, f, m⟩
  refine k_seq (k_region ?_)
  refine l_as f rfl rfl fun a f => l_nil ?_
  refine k_ret ?_
  obtain rfl := sj hd
  exact ⟨[(.bool true)], ⟨f.get _ _ rfl, trivial⟩, f.defers, _, [], aR, m, rfl, rfl⟩

theorem Wk.l {W w : World} {G : GH} {H : List Itm} {v0_0 : Value} {x0_0 : (List (List Int))} (m : Mem W G w (H)) (h0_0 : RSl (RSl (RI .i64)) G v0_0 x0_0) {y : Bool} (hd : D.l x0_0 = some y) :
  Calls Tryd.prog 25 #[(.agg #[v0_0])] w (Res W G H (fun _ Ho v => Ho = [] ∧ v = (.bool y))) := by
 refine calls_b (args := [(.agg #[v0_0])]) (N := 61) [.tmp 2] Tryd.func25 rfl rfl (Nat.le_of_ble_eq_true rfl) rfl fun a f => ?_
 unfold D.l at hd
 refine k_seq (k_region ?_)
 refine l_box (cs := [v0_0]) m f rfl rfl rfl fun aa w a m f => l_as f rfl rfl fun a f => l_nil (k_seq (k_region ?_))
 refine l_fieldAddr Tryd.underlying29 rfl Tryd.sizeOf27 (by decide) f rfl rfl fun a f => l_boxCell 0 0 m Pl27 f rfl rfl rfl rfl fun a f => l_len Tryd.underlying27 f rfl rfl h0_0 fun a f => l_as f rfl rfl fun a f => l_nil (k_seq (k_seq (k_region ?_)))
 refine l_mv f rfl rfl fun a f => l_in f rfl rfl rfl b_lss fun a f => l_mv f rfl rfl fun a f => ?_
 refine l_cut 3 (fun a w => ∃ ab, GLe G ab ∧ Mem W ab w (Itm.box aa 29 [v0_0] :: H) ∧ Fr a 61 [(0, (.agg #[v0_0])), (1, (.pointer (some ⟨aa, 0, none⟩))), (3, (.int .i64 (x0_0.length : Int))), (13, (.int .i64 (x0_0.length : Int))), (14, (.bool (decide ((x0_0.length : Int) < 1)))), (15, (.bool (decide ((x0_0.length : Int) < 1)))), (18, (.bool ((decide ((x0_0.length : Int) < 1)) || (decide ((16 : Int) < (x0_0.length : Int))))))]) ?_ ?_
 ·rcases Bool.eq_false_or_eq_true (decide ((x0_0.length : Int) < 1)) with ac | ac
  ·refine l_not' f rfl rfl rfl ac fun a f => ?_
   refine l_not' f rfl rfl rfl ac fun a f => l_op f rfl rfl rfl (r_pickT (f.eval rfl) ac (f.eval rfl)) fun a f => ?_
   exact ⟨_, (GLe.refl _), m, f.weak ⟨rfl, rfl, rfl, rfl, rfl, rfl, by rw [ac]; rfl, trivial⟩⟩
  ·refine l_run f rfl rfl ac ?_
   refine l_mv f rfl rfl fun a f => l_run f rfl rfl ac ?_
   refine l_in f rfl rfl rfl b_gtr fun a f => l_op f rfl rfl rfl (r_pickF (f.eval rfl) ac (f.eval rfl)) fun a f => ?_
   exact ⟨_, (GLe.refl _), m, f.weak ⟨rfl, rfl, rfl, rfl, rfl, rfl, by rw [ac]; rfl, trivial⟩⟩
 ·rintro a w ⟨ab, ad, m, f⟩
  have h0_0 := rd2 ad h0_0
  refine l_nil ?_
  rcases cond_some hd with ⟨ae, hd⟩ | ⟨ae, hd⟩
  ·refine k_true f rfl ae ?_
   refine k_seq (k_region ?_)
   refine l_as f rfl rfl fun a f => l_nil ?_
   refine k_ret ?_
   have m : Mem W ab w H := Mem.drop (H' := [Itm.box aa 29 [v0_0]]) m
   obtain rfl := sj hd
   exact ⟨[(.bool false)], ⟨f.get _ _ rfl, trivial⟩, f.defers, _, [], ad, m, rfl, rfl⟩
  ·refine k_false f rfl ae ?_
   refine k_skip ?_
   refine k_seq (k_seq (k_region ?_))
   refine l_fieldAddr Tryd.underlying29 rfl Tryd.sizeOf27 (by decide) f rfl rfl fun a f => l_boxCell 0 0 m Pl27 f rfl rfl rfl rfl fun a f => l_len Tryd.underlying27 f rfl rfl h0_0 fun a f => l_mv f rfl rfl fun a f => l_nil ?_
   obtain ⟨af, ag, hd⟩ := bind_some hd
   refine k_cut (fun a w => ∃ q_91' : Unit, af = .inl q_91' ∧ ∃ (ah : GH), GLe ab ah ∧ Fr a 61 [(1, (.pointer (some ⟨aa, 0, none⟩)))] ∧ Mem W ah w (Itm.box aa 29 [v0_0] :: H)) ?_ ?_
   ·refine k_block ?_
    refine k_loop (fun ai a w => ∃ aj : Int, aj = ai ∧ ∃ (ak : GH), GLe ab ak ∧ Fr a 61 [(1, (.pointer (some ⟨aa, 0, none⟩))), (3, (.int .i64 (x0_0.length : Int))), (20, v0_0), (21, (.int .i64 (x0_0.length : Int))), (22, (.int .i64 aj))] ∧ Mem W ak w (Itm.box aa 29 [v0_0] :: H)) ag ⟨_, rfl, _, (GLe.refl _), f.weak ⟨rfl, rfl, rfl, rfl, rfl, trivial⟩, m⟩ ?_
    clear ag f m
    rintro ai al am an a w ⟨aj, rfl, ak, ao, f, m⟩
    have h0_0 := rd2 ao h0_0
    refine k_seq (k_region ?_)
    refine l_in f rfl rfl rfl b_lss fun a f => l_nil (k_seq ?_)
    rcases cond_some am with ⟨ap, am⟩ | ⟨ap, am⟩
    ·refine k_true f rfl ap ?_
     refine k_skip ?_
     refine k_seq (k_block (k_seq (k_region ?_)))
     refine l_mv f rfl rfl fun a f => ?_
     obtain ⟨aq, ar, am⟩ := bind_some am
     refine l_at T27 f rfl rfl rfl h0_0 ar fun au av a aw ax f => l_loadAt m Pl32 f rfl rfl aw fun a f => l_as f rfl rfl fun a f => l_as f rfl rfl fun a f => l_nil (k_seq (k_region ?_))
     refine l_mv f rfl rfl fun a f => l_mv f rfl rfl fun a f => ?_
     obtain ⟨ay, az, am⟩ := bind_some am
     refine l_res f rfl rfl Tryd.call39 (Wk.q m ax az) fun aA aB aC w aD m aE a f => ?_
     obtain ⟨rfl, rfl⟩ := aE
     have ax := rd1 aD ax
     have h0_0 := rd2 aD h0_0
     refine l_op f rfl rfl rfl (r_not (f.eval rfl)) fun a f => l_mv f rfl rfl fun a f => ?_
     obtain ⟨aF, aG, am⟩ := bind_some am
     refine l_cut 4 (fun a w => ∃ aH, GLe aB aH ∧ Mem W aH w (Itm.box aa 29 [v0_0] :: H) ∧ Fr a 61 [(1, (.pointer (some ⟨aa, 0, none⟩))), (3, (.int .i64 (x0_0.length : Int))), (4, (.int .i64 aj)), (5, av), (20, v0_0), (21, (.int .i64 (x0_0.length : Int))), (22, (.int .i64 aj)), (27, av), (28, (.int .i64 (x0_0.length : Int))), (29, (.bool ay)), (30, (.bool (!ay))), (31, (.bool (!ay))), (35, (.bool aF))]) ?_ ?_
     ·rcases cond_some aG with ⟨aI, aG⟩ | ⟨aI, aG⟩
      ·refine l_not' f rfl rfl rfl aI fun a f => ?_
       refine l_not' f rfl rfl rfl aI fun a f => l_not' f rfl rfl rfl aI fun a f => l_op f rfl rfl rfl (r_pickT (f.eval rfl) aI (f.eval rfl)) fun a f => ?_
       obtain rfl := sj aG
       exact ⟨_, (GLe.refl _), m, f.weak ⟨rfl, rfl, rfl, rfl, rfl, rfl, rfl, rfl, rfl, rfl, rfl, rfl, rfl, trivial⟩⟩
      ·refine l_run f rfl rfl aI ?_
       refine l_mv f rfl rfl fun a f => l_run f rfl rfl aI ?_
       refine l_mv f rfl rfl fun a f => l_run f rfl rfl aI ?_
       obtain ⟨aJ, aK, aG⟩ := bind_some aG
       refine l_res f rfl rfl Tryd.call68 (Wk.F m ax aK) fun aL aM aN w aO m aP a f => ?_
       obtain ⟨rfl, rfl⟩ := aP
       have ax := rd1 aO ax
       have h0_0 := rd2 aO h0_0
       refine l_op f rfl rfl rfl (r_pickF (f.eval rfl) aI (f.eval rfl)) fun a f => ?_
       obtain rfl := sj aG
       exact ⟨_, aO, m, f.weak ⟨rfl, rfl, rfl, rfl, rfl, rfl, rfl, rfl, rfl, rfl, rfl, rfl, rfl, trivial⟩⟩
     ·rintro a w ⟨aH, aQ, m, f⟩
      have ax := rd1 aQ ax
      have h0_0 := rd2 aQ h0_0
      refine l_nil ?_
      rcases cond_some am with ⟨aR, am⟩ | ⟨aR, am⟩
      ·refine k_true f rfl aR ?_
       refine k_seq (k_region ?_)
       refine l_as f rfl rfl fun a f => l_nil ?_
       refine k_ret ?_
       have m : Mem W aH w H := Mem.drop (H' := [Itm.box aa 29 [v0_0]]) m
       obtain rfl := sj am
       obtain rfl := an _ rfl
       obtain rfl := sj hd
       exact ⟨[(.bool false)], ⟨f.get _ _ rfl, trivial⟩, f.defers, _, [], (GLe.trans ad (GLe.trans ao (GLe.trans aD aQ))), m, rfl, rfl⟩
      ·refine k_false f rfl aR ?_
       refine k_skip ?_
       refine k_region ?_
       refine l_in f rfl rfl rfl b_add fun a f => l_mv f rfl rfl fun a f => l_nil ?_
       obtain rfl := sj am
       exact ⟨_, rfl, _, rfl, _, (GLe.trans ao (GLe.trans aD aQ)), f.weak ⟨rfl, rfl, rfl, rfl, rfl, trivial⟩, m⟩
    ·refine k_false f rfl ap ?_
     refine k_exit rfl ?_
     obtain rfl := sj am
     obtain rfl := an _ rfl
     exact ⟨_, rfl, _, ao, f.weak ⟨rfl, trivial⟩, m⟩
   ·rintro a w ⟨_, rfl, ah, aS, f, m⟩
    have h0_0 := rd2 aS h0_0
    refine k_seq (k_seq (k_region ?_))
    refine l_fieldAddr Tryd.underlying29 rfl Tryd.sizeOf27 (by decide) f rfl rfl fun a f => l_boxCell 0 0 m Pl27 f rfl rfl rfl rfl fun a f => l_len Tryd.underlying27 f rfl rfl h0_0 fun a f => l_mv f rfl rfl fun a f => l_nil ?_
    obtain ⟨aT, aU, hd⟩ := bind_some hd
    refine k_cut (fun a w => ∃ q_394' : Unit, aT = .inl q_394' ∧ ∃ (aV : GH), GLe ah aV ∧ Fr a 61 [] ∧ Mem W aV w (H)) ?_ ?_
    ·refine k_block ?_
     refine k_loop (fun aW a w => ∃ aX : Int, aX = aW ∧ ∃ (aY : GH), GLe ah aY ∧ Fr a 61 [(1, (.pointer (some ⟨aa, 0, none⟩))), (38, v0_0), (39, (.int .i64 (x0_0.length : Int))), (40, (.int .i64 aX))] ∧ Mem W aY w (Itm.box aa 29 [v0_0] :: H)) aU ⟨_, rfl, _, (GLe.refl _), f.weak ⟨rfl, rfl, rfl, rfl, trivial⟩, m⟩ ?_
     clear aU f m
     rintro aW aZ a0 a1 a w ⟨aX, rfl, aY, a2, f, m⟩
     have h0_0 := rd2 a2 h0_0
     refine k_seq (k_region ?_)
     refine l_in f rfl rfl rfl b_lss fun a f => l_nil (k_seq ?_)
     rcases cond_some a0 with ⟨a3, a0⟩ | ⟨a3, a0⟩
     ·refine k_true f rfl a3 ?_
      refine k_skip ?_
      refine k_seq (k_block (k_seq (k_region ?_)))
      refine l_mv f rfl rfl fun a f => ?_
      obtain ⟨a4, a5, a0⟩ := bind_some a0
      refine l_at T27 f rfl rfl rfl h0_0 a5 fun a6 a7 a a8 a9 f => l_loadAt m Pl32 f rfl rfl a8 fun a f => l_as f rfl rfl fun a f => l_as f rfl rfl fun a f => l_nil (k_seq (k_region ?_))
      refine l_mv f rfl rfl fun a f => l_len Tryd.underlying32 f rfl rfl a9 fun a f => l_mv f rfl rfl fun a f => l_nil ?_
      obtain ⟨ba, bb, a0⟩ := bind_some a0
      refine k_cut (fun a w => ∃ q_560' : Unit, ba = .inl q_560' ∧ ∃ (bc : GH), GLe aY bc ∧ Fr a 61 [(1, (.pointer (some ⟨aa, 0, none⟩))), (38, v0_0), (39, (.int .i64 (x0_0.length : Int))), (40, (.int .i64 aX))] ∧ Mem W bc w (Itm.box aa 29 [v0_0] :: H)) ?_ ?_
      ·refine k_block ?_
       refine k_loop (fun bd a w => ∃ be : Int, be = bd ∧ ∃ (bf : GH), GLe aY bf ∧ Fr a 61 [(1, (.pointer (some ⟨aa, 0, none⟩))), (6, (.int .i64 aX)), (38, v0_0), (39, (.int .i64 (x0_0.length : Int))), (40, (.int .i64 aX)), (45, a7), (46, (.int .i64 (a4.length : Int))), (47, (.int .i64 be))] ∧ Mem W bf w (Itm.box aa 29 [v0_0] :: H)) bb ⟨_, rfl, _, (GLe.refl _), f.weak ⟨rfl, rfl, rfl, rfl, rfl, rfl, rfl, rfl, trivial⟩, m⟩ ?_
       clear bb f m
       rintro bd bg bh bi a w ⟨be, rfl, bf, bj, f, m⟩
       have h0_0 := rd2 bj h0_0
       have a9 := rd1 bj a9
       refine k_seq (k_region ?_)
       refine l_in f rfl rfl rfl b_lss fun a f => l_nil (k_seq ?_)
       rcases cond_some bh with ⟨bk, bh⟩ | ⟨bk, bh⟩
       ·refine k_true f rfl bk ?_
        refine k_skip ?_
        refine k_seq (k_block (k_seq (k_region ?_)))
        obtain ⟨bl, bm, bh⟩ := bind_some bh
        refine l_at T32 f rfl rfl rfl a9 bm fun bn bo a bp bq f => ?_
        subst bq
        refine l_loadAt m Pl2 f rfl rfl bp fun a f => l_as f rfl rfl fun a f => l_nil (k_seq (k_region ?_))
        refine l_fieldAddr Tryd.underlying29 rfl Tryd.sizeOf27 (by decide) f rfl rfl fun a f => l_boxCell 0 0 m Pl27 f rfl rfl rfl rfl fun a f => l_mv f rfl rfl fun a f => ?_
        obtain ⟨br, bs, bh⟩ := bind_some bh
        refine l_at T27 f rfl rfl rfl h0_0 bs fun bt bu a bv bw f => l_loadAt m Pl32 f rfl rfl bv fun a f => l_mv f rfl rfl fun a f => ?_
        obtain ⟨bx, bz, bh⟩ := bind_some bh
        refine l_res f rfl rfl Tryd.call68 (Wk.F m bw bz) fun bA bB bC w bD m bE a f => ?_
        obtain ⟨rfl, rfl⟩ := bE
        have h0_0 := rd2 bD h0_0
        have a9 := rd1 bD a9
        have bv := At.mono bD bv
        have bw := rd1 bD bw
        refine l_op f rfl rfl rfl (r_not (f.eval rfl)) fun a f => l_nil ?_
        rcases cond_some bh with ⟨bF, bh⟩ | ⟨bF, bh⟩
        ·refine k_true f rfl bF ?_
         refine k_seq (k_region ?_)
         refine l_as f rfl rfl fun a f => l_nil ?_
         refine k_ret ?_
         have m : Mem W bB w H := Mem.drop (H' := [Itm.box aa 29 [v0_0]]) m
         obtain rfl := sj bh
         obtain rfl := bi _ rfl
         obtain rfl := sj a0
         obtain rfl := a1 _ rfl
         obtain rfl := sj hd
         exact ⟨[(.bool false)], ⟨f.get _ _ rfl, trivial⟩, f.defers, _, [], (GLe.trans ad (GLe.trans aS (GLe.trans a2 (GLe.trans bj bD)))), m, rfl, rfl⟩
        ·refine k_false f rfl bF ?_
         refine k_skip ?_
         refine k_region ?_
         refine l_in f rfl rfl rfl b_add fun a f => l_mv f rfl rfl fun a f => l_nil ?_
         obtain rfl := sj bh
         exact ⟨_, rfl, _, rfl, _, (GLe.trans bj bD), f.weak ⟨rfl, rfl, rfl, rfl, rfl, rfl, rfl, rfl, trivial⟩, m⟩
       ·refine k_false f rfl bk ?_
        refine k_exit rfl ?_
        obtain rfl := sj bh
        obtain rfl := bi _ rfl
        exact ⟨_, rfl, _, bj, f.weak ⟨rfl, rfl, rfl, rfl, trivial⟩, m⟩
      ·rintro a w ⟨_, rfl, bc, bG, f, m⟩
       have h0_0 := rd2 bG h0_0
       refine k_region ?_
       refine l_in f rfl rfl rfl b_add fun a f => l_mv f rfl rfl fun a f => l_nil ?_
       obtain rfl := sj a0
       exact ⟨_, rfl, _, rfl, _, (GLe.trans a2 bG), f.weak ⟨rfl, rfl, rfl, rfl, trivial⟩, m⟩
     ·refine k_false f rfl a3 ?_
      refine k_exit rfl ?_
      have m : Mem W aY w H := Mem.drop (H' := [Itm.box aa 29 [v0_0]]) m
      obtain rfl := sj a0
      obtain rfl := a1 _ rfl
      exact ⟨_, rfl, _, a2, f.weak trivial, m⟩
    ·rintro a w ⟨_, rfl, aV, bH, f, m⟩
     refine k_seq (k_region ?_)
     refine l_as f rfl rfl fun a f => l_nil ?_
     refine k_ret ?_
     obtain rfl := sj hd
     exact ⟨[(.bool true)], ⟨f.get _ _ rfl, trivial⟩, f.defers, _, [], (GLe.trans ad (GLe.trans aS bH)), m, rfl, rfl⟩

theorem Wk.b {W w : World} {G : GH} {H : List Itm} {x0 : Int} (m : Mem W G w (H))  {y : Int} (hd : D.b x0 = some y) :
  Calls Tryd.prog 38 #[(.int .i64 x0)] w (Res W G H (fun _ Ho v => Ho = [] ∧ v = (.int .u32 y))) := by
 refine calls_b (args := [(.int .i64 x0)]) (N := 5) [.tmp 2] Tryd.func38 rfl rfl (Nat.le_of_ble_eq_true rfl) rfl fun a f => ?_
 unfold D.b at hd
 refine k_seq (k_region ?_)
 refine l_as f rfl rfl fun a f => l_nil (k_seq (k_region ?_))
 refine l_mv f rfl rfl fun a f => ?_
 obtain ⟨aa, hd⟩ := cond_none hd
 refine l_op f rfl rfl rfl (r_shl (f.eval rfl) (f.eval rfl) aa) fun a f => l_as f rfl rfl fun a f => l_nil ?_
 refine k_ret ?_
 obtain rfl := sj hd
 exact ⟨[(.int .u32 (ishl .u32 1 x0))], ⟨f.get _ _ rfl, trivial⟩, f.defers, _, [], (GLe.refl _), m, rfl, rfl⟩

end Go.Proofs.YtkffjeaefgfnnaaDoor

set_option maxRecDepth 100000
namespace Go.Proofs.YtkffjeaefgfnnaaDoor
open Go Go.Sx
theorem T56 : SlT Tryd.prog 56 59 1 4 (.int .u32 0) := ⟨Tryd.underlying56, Tryd.t59, by kernel_rfl, by kernel_rfl, by kernel_rfl, by kernel_rfl⟩
theorem T76 : SlT Tryd.prog 76 3 1 8 (.int .i64 0) := ⟨Tryd.underlying76, Tryd.t3, by kernel_rfl, by kernel_rfl, by kernel_rfl, by kernel_rfl⟩
theorem Pl59 : Plain Tryd.prog 59 := Tryd.isAgg59
theorem Ag41 : Agg Tryd.prog 41 3 := ⟨Tryd.isAgg41, Tryd.sizeOf41⟩

theorem Wk.t {W w : World} {G : GH} {H : List Itm} {v0 : Value} {x0 : (List Int)} (m : Mem W G w (H)) (h0 : RSl (RI .i64) G v0 x0) {y : Int} (hd : D.t x0 = some y) :
  Calls Tryd.prog 48 #[v0] w (Res W G H (fun _ Ho v => Ho = [] ∧ v = (.int .u32 y))) := by
 refine calls_b (args := [v0]) (N := 18) [.tmp 2] Tryd.func48 rfl rfl (Nat.le_of_ble_eq_true rfl) rfl fun a f => ?_
 unfold D.t at hd
 refine k_seq (k_region ?_)
 refine l_as f rfl rfl fun a f => l_nil (k_seq (k_region ?_))
 refine l_as f rfl rfl fun a f => l_nil (k_seq (k_seq (k_region ?_)))
 refine l_mv f rfl rfl fun a f => l_len Tryd.underlying32 f rfl rfl h0 fun a f => l_mv f rfl rfl fun a f => l_nil ?_
 obtain ⟨aa, ab, hd⟩ := bind_some hd
 refine k_cut (fun a w => ∃ ac : Int, ac = aa ∧ ∃ (ad : GH), GLe G ad ∧ Fr a 18 [(3, (.int .u32 ac))] ∧ Mem W ad w (H)) ?_ ?_
 ·refine k_block ?_
  refine k_loop (fun ae a w => ∃ af : Int, ∃ ag : Int, (af, ag) = ae ∧ ∃ (ah : GH), GLe G ah ∧ Fr a 18 [(3, (.int .u32 af)), (6, v0), (7, (.int .i64 (x0.length : Int))), (8, (.int .i64 ag))] ∧ Mem W ah w (H)) ab ⟨_, _, rfl, _, (GLe.refl _), f.weak ⟨rfl, rfl, rfl, rfl, trivial⟩, m⟩ ?_
  clear ab f m
  rintro ae ai aj ak a w ⟨af, ag, rfl, ah, al, f, m⟩
  have h0 := rd1 al h0
  refine k_seq (k_region ?_)
  refine l_in f rfl rfl rfl b_lss fun a f => l_nil (k_seq ?_)
  rcases cond_some aj with ⟨am, aj⟩ | ⟨am, aj⟩
  ·refine k_true f rfl am ?_
   refine k_skip ?_
   refine k_seq (k_block (k_seq (k_region ?_)))
   obtain ⟨an, ao, aj⟩ := bind_some aj
   refine l_at T32 f rfl rfl rfl h0 ao fun ap aq a ar au f => ?_
   subst au
   refine l_loadAt m Pl2 f rfl rfl ar fun a f => l_as f rfl rfl fun a f => l_nil (k_region ?_)
   refine l_mv f rfl rfl fun a f => l_mv f rfl rfl fun a f => ?_
   obtain ⟨av, aw, aj⟩ := bind_some aj
   refine l_res f rfl rfl Tryd.call38 (Wk.b m  aw) fun ax ay az w aA m aB a f => ?_
   obtain ⟨rfl, rfl⟩ := aB
   have h0 := rd1 aA h0
   refine l_in f rfl rfl rfl b_or fun a f => l_as f rfl rfl fun a f => l_nil (k_region ?_)
   refine l_in f rfl rfl rfl b_add fun a f => l_mv f rfl rfl fun a f => l_nil ?_
   obtain rfl := sj aj
   exact ⟨_, rfl, _, _, rfl, _, (GLe.trans al aA), f.weak ⟨rfl, rfl, rfl, rfl, trivial⟩, m⟩
  ·refine k_false f rfl am ?_
   refine k_exit rfl ?_
   obtain rfl := sj aj
   obtain rfl := ak _ rfl
   exact ⟨_, rfl, _, al, f.weak ⟨rfl, trivial⟩, m⟩
 ·rintro a w ⟨ac, rfl, ad, aC, f, m⟩
  refine k_seq (k_region ?_)
  refine l_mv f rfl rfl fun a f => l_as f rfl rfl fun a f => l_nil ?_
  refine k_ret ?_
  obtain rfl := sj hd
  exact ⟨[(.int .u32 ac)], ⟨f.get _ _ rfl, trivial⟩, f.defers, _, [], aC, m, rfl, rfl⟩

theorem Wk.v {W w : World} {G : GH} {H : List Itm} {v0_0 : Value} {x0_0 : (List (List Int))} (m : Mem W G w (H)) (h0_0 : RSl (RSl (RI .i64)) G v0_0 x0_0) {y : ((List Int))} (hd : D.v x0_0 = some y) :
  Calls Tryd.prog 26 #[(.agg #[v0_0])] w (Res W G H (fun G' Ho v => ∃ r0 : Value, ∃ i0 : Itm, Ho = [i0] ∧ r0 = v ∧ Ow (RI .u32) 59 G' i0 r0 y)) := by
 refine calls_b (args := [(.agg #[v0_0])]) (N := 21) [.tmp 2] Tryd.func26 rfl rfl (Nat.le_of_ble_eq_true rfl) rfl fun a f => ?_
 unfold D.v at hd
 refine k_seq (k_region ?_)
 refine l_box (cs := [v0_0]) m f rfl rfl rfl fun aa w a m f => l_as f rfl rfl fun a f => l_nil (k_seq (k_region ?_))
 refine l_slit (R := (RI .u32)) (xs := ([] : List Int)) (RI.one _) m T56 f rfl rfl rfl (by decide) (All2.nil _) fun ab ac w a m ad f => l_as f rfl rfl fun a f => l_nil (k_seq (k_seq (k_region ?_)))
 refine l_fieldAddr Tryd.underlying29 rfl Tryd.sizeOf27 (by decide) f rfl rfl fun a f => l_boxCell 1 0 m Pl27 f rfl rfl rfl rfl fun a f => l_len Tryd.underlying27 f rfl rfl h0_0 fun a f => l_mv f rfl rfl fun a f => l_nil ?_
 obtain ⟨ae, af, hd⟩ := bind_some hd
 refine k_cut (fun a w => ∃ ag : List Int, ag = ae ∧ ∃ (ah : GH) (ai : Value) (aj : Itm), GLe G ah ∧ Fr a 21 [(3, ai)] ∧ Mem W ah w (aj :: H) ∧ Ow (RI .u32) 59 ah aj ai ag) ?_ ?_
 ·refine k_block ?_
  have m := m.eraseAt 1
  refine k_loop (fun ak a w => ∃ al : List Int, ∃ am : Int, (al, am) = ak ∧ ∃ (an : GH) (ao : Value) (ap : Itm), GLe G an ∧ Fr a 21 [(3, ao), (8, v0_0), (9, (.int .i64 (x0_0.length : Int))), (10, (.int .i64 am))] ∧ Mem W an w (ap :: H) ∧ Ow (RI .u32) 59 an ap ao al) af ⟨_, _, rfl, _, ac, ab, (GLe.refl _), f.weak ⟨rfl, rfl, rfl, rfl, trivial⟩, m, ad⟩ ?_
  clear af f m
  rintro ak aq ar au a w ⟨al, am, rfl, an, ao, ap, av, f, m, aw⟩
  have h0_0 := rd2 av h0_0
  refine k_seq (k_region ?_)
  refine l_in f rfl rfl rfl b_lss fun a f => l_nil (k_seq ?_)
  rcases cond_some ar with ⟨ax, ar⟩ | ⟨ax, ar⟩
  ·refine k_true f rfl ax ?_
   refine k_skip ?_
   refine k_seq (k_block (k_seq (k_region ?_)))
   obtain ⟨ay, az, ar⟩ := bind_some ar
   refine l_at T27 f rfl rfl rfl h0_0 az fun aA aB a aC aD f => l_loadAt m Pl32 f rfl rfl aC fun a f => l_as f rfl rfl fun a f => l_nil (k_region ?_)
   refine l_mv f rfl rfl fun a f => l_mv f rfl rfl fun a f => ?_
   obtain ⟨aE, aF, ar⟩ := bind_some ar
   refine l_res f rfl rfl Tryd.call48 (Wk.t m aD aF) fun aG aH aI w aJ m aK a f => ?_
   obtain ⟨rfl, rfl⟩ := aK
   have aD := rd1 aJ aD
   have h0_0 := rd2 aJ h0_0
   have aw := od1 aJ aw
   refine l_slit (R := (RI .u32)) (xs := ([aE] : List Int)) (RI.one _) m T56 f rfl rfl rfl (by decide) (All2.cons rfl (All2.nil _)) fun aL aM w a m aN f => ?_
   obtain ⟨aO, aP, ar⟩ := bind_some ar
   refine l_append (RI.one _) 1 m aw rfl T56 rfl (by decide) f rfl rfl rfl (Ow.src (j := 0) aN m rfl) aP fun aQ aR w a m aS f => l_as f rfl rfl fun a f => l_nil (k_region ?_)
   refine l_in f rfl rfl rfl b_add fun a f => l_mv f rfl rfl fun a f => l_nil ?_
   have m := m.front 1 rfl
   have m := m.eraseAt 1
   obtain rfl := sj ar
   exact ⟨_, rfl, _, _, rfl, _, aR, aQ, (GLe.trans av aJ), f.weak ⟨rfl, rfl, rfl, rfl, trivial⟩, m, aS⟩
  ·refine k_false f rfl ax ?_
   refine k_exit rfl ?_
   obtain rfl := sj ar
   obtain rfl := au _ rfl
   exact ⟨_, rfl, _, ao, ap, av, f.weak ⟨rfl, trivial⟩, m, aw⟩
 ·rintro a w ⟨ag, rfl, ah, ai, aj, aT, f, m, aU⟩
  refine k_seq (k_region ?_)
  refine l_mv f rfl rfl fun a f => l_as f rfl rfl fun a f => l_nil ?_
  refine k_ret ?_
  obtain rfl := sj hd
  exact ⟨[ai], ⟨f.get _ _ rfl, trivial⟩, f.defers, _, [aj], aT, m, _, _, rfl, rfl, aU⟩

theorem Wk.t0 {W w : World} {G : GH} {H : List Itm} {x0 : Int} (m : Mem W G w (H))  {y : Int} (hd : D.t0 x0 = some y) :
  Calls Tryd.prog 69 #[(.int .i64 x0)] w (Res W G H (fun _ Ho v => Ho = [] ∧ v = (.int .u32 y))) := by
 refine calls_b (args := [(.int .i64 x0)]) (N := 6) [.tmp 2] Tryd.func69 rfl rfl (Nat.le_of_ble_eq_true rfl) rfl fun a f => ?_
 unfold D.t0 at hd
 refine k_seq (k_region ?_)
 refine l_as f rfl rfl fun a f => l_nil (k_seq (k_region ?_))
 refine l_mv f rfl rfl fun a f => ?_
 obtain ⟨aa, hd⟩ := cond_none hd
 refine l_op f rfl rfl rfl (r_shl (f.eval rfl) (f.eval rfl) aa) fun a f => l_in f rfl rfl rfl b_sub fun a f => l_as f rfl rfl fun a f => l_nil ?_
 refine k_ret ?_
 obtain rfl := sj hd
 exact ⟨[(.int .u32 (IntKind.u32.wrap ((ishl .u32 1 x0) - 1)))], ⟨f.get _ _ rfl, trivial⟩, f.defers, _, [], (GLe.refl _), m, rfl, rfl⟩

theorem Wk.B {W w : World} {G : GH} {H : List Itm} {v0 : Value} {x0 : (List Int)} (m : Mem W G w (H)) (h0 : RSl (RI .u32) G v0 x0) {y : Int} (hd : D.B x0 = some y) :
  Calls Tryd.prog 28 #[v0] w (Res W G H (fun _ Ho v => Ho = [] ∧ v = (.int .u32 y))) := by
 refine calls_b (args := [v0]) (N := 6) [.tmp 2] Tryd.func28 rfl rfl (Nat.le_of_ble_eq_true rfl) rfl fun a f => ?_
 unfold D.B at hd
 refine k_seq (k_region ?_)
 refine l_as f rfl rfl fun a f => l_nil (k_seq (k_region ?_))
 refine l_mv f rfl rfl fun a f => l_len Tryd.underlying56 f rfl rfl h0 fun a f => ?_
 obtain ⟨aa, ab, hd⟩ := bind_some hd
 refine l_res f rfl rfl Tryd.call69 (Wk.t0 m  ab) fun ac ad ae w af m ag a f => ?_
 obtain ⟨rfl, rfl⟩ := ag
 have h0 := rd1 af h0
 refine l_as f rfl rfl fun a f => l_nil ?_
 refine k_ret ?_
 obtain rfl := sj hd
 exact ⟨[(.int .u32 aa)], ⟨f.get _ _ rfl, trivial⟩, f.defers, _, [], af, m, rfl, rfl⟩

theorem Wk.S {W w : World} {G : GH} {H : List Itm} {x0 : Int} (hW : TabW W) (m : Mem W G w (H))  {y : Int} (hd : D.S x0 = some y) :
  Calls Tryd.prog 76 #[(.int .u32 x0)] w (Res W G H (fun _ Ho v => Ho = [] ∧ v = (.int .i64 y))) := by
 refine calls_b (args := [(.int .u32 x0)]) (N := 5) [.tmp 2] Tryd.func76 rfl rfl (Nat.le_of_ble_eq_true rfl) rfl fun a f => ?_
 unfold D.S at hd
 refine k_seq (k_region ?_)
 refine l_as f rfl rfl fun a f => l_nil (k_seq (k_region ?_))
 refine l_mv f rfl rfl fun a f => ?_
 obtain ⟨aa, ab, hd⟩ := bind_some hd
 refine l_res f rfl rfl Tryd.call92 (Wk.u0 hW m  ab) fun ac ad ae w af m ag a f => ?_
 obtain ⟨rfl, rfl⟩ := ag
 refine l_as f rfl rfl fun a f => l_nil ?_
 refine k_ret ?_
 obtain rfl := sj hd
 exact ⟨[(.int .i64 aa)], ⟨f.get _ _ rfl, trivial⟩, f.defers, _, [], af, m, rfl, rfl⟩

theorem Wk.n {W w : World} {G : GH} {H : List Itm} {x0 : Int} (hW : TabW W) (m : Mem W G w (H))  {y : ((List Int))} (hd : D.n x0 = some y) :
  Calls Tryd.prog 42 #[(.int .u32 x0)] w (Res W G H (fun G' Ho v => ∃ r0 : Value, ∃ i0 : Itm, Ho = [i0] ∧ r0 = v ∧ Ow (RI .i64) 3 G' i0 r0 y)) := by
 refine calls_b (args := [(.int .u32 x0)]) (N := 17) [.tmp 2] Tryd.func42 rfl rfl (Nat.le_of_ble_eq_true rfl) rfl fun a f => ?_
 unfold D.n at hd
 refine k_seq (k_region ?_)
 refine l_as f rfl rfl fun a f => l_nil (k_seq (k_region ?_))
 refine l_slit (R := (RI .i64)) (xs := ([] : List Int)) (RI.one _) m T76 f rfl rfl rfl (by decide) (All2.nil _) fun aa ab w a m ac f => l_as f rfl rfl fun a f => l_nil (k_seq ?_)
 obtain ⟨ad, ae, hd⟩ := bind_some hd
 refine k_cut (fun a w => ∃ af : List Int, af = ad ∧ ∃ (ag : GH) (ah : Value) (ai : Itm), GLe G ag ∧ Fr a 17 [(3, ah)] ∧ Mem W ag w (ai :: H) ∧ Ow (RI .i64) 3 ag ai ah af) ?_ ?_
 ·refine k_block ?_
  refine k_loop (fun aj a w => ∃ ak : Int, ∃ al : List Int, (ak, al) = aj ∧ ∃ (am : GH) (an : Value) (ao : Itm), GLe G am ∧ Fr a 17 [(0, (.int .u32 ak)), (3, an)] ∧ Mem W am w (ao :: H) ∧ Ow (RI .i64) 3 am ao an al) ae ⟨_, _, rfl, _, ab, aa, (GLe.refl _), f.weak ⟨rfl, rfl, trivial⟩, m, ac⟩ ?_
  clear ae f m
  rintro aj ap aq ar a w ⟨ak, al, rfl, am, an, ao, au, f, m, av⟩
  refine k_seq (k_seq (k_region ?_))
  refine l_mv f rfl rfl fun a f => l_in f rfl rfl rfl b_neq fun a f => l_nil ?_
  rcases cond_some aq with ⟨aw, aq⟩ | ⟨aw, aq⟩
  ·refine k_true f rfl aw ?_
   refine k_skip ?_
   refine k_seq (k_block (k_region ?_))
   refine l_mv f rfl rfl fun a f => l_mv f rfl rfl fun a f => ?_
   obtain ⟨ax, ay, aq⟩ := bind_some aq
   refine l_res f rfl rfl Tryd.call76 (Wk.S hW m  ay) fun az aA aB w aC m aD a f => ?_
   obtain ⟨rfl, rfl⟩ := aD
   have av := od1 aC av
   refine l_slit (R := (RI .i64)) (xs := ([ax] : List Int)) (RI.one _) m T76 f rfl rfl rfl (by decide) (All2.cons rfl (All2.nil _)) fun aE aF w a m aG f => ?_
   obtain ⟨aH, aI, aq⟩ := bind_some aq
   refine l_append (RI.one _) 1 m av rfl T76 rfl (by decide) f rfl rfl rfl (Ow.src (j := 0) aG m rfl) aI fun aJ aK w a m aL f => l_as f rfl rfl fun a f => l_nil (k_region ?_)
   refine l_mv f rfl rfl fun a f => l_mv f rfl rfl fun a f => l_in f rfl rfl rfl b_sub fun a f => l_in f rfl rfl rfl b_and fun a f => l_as f rfl rfl fun a f => l_nil ?_
   have m := m.front 1 rfl
   have m := m.eraseAt 1
   obtain rfl := sj aq
   exact ⟨_, rfl, _, _, rfl, _, aK, aJ, (GLe.trans au aC), f.weak ⟨rfl, rfl, trivial⟩, m, aL⟩
  ·refine k_false f rfl aw ?_
   refine k_exit rfl ?_
   obtain rfl := sj aq
   obtain rfl := ar _ rfl
   exact ⟨_, rfl, _, an, ao, au, f.weak ⟨rfl, trivial⟩, m, av⟩
 ·rintro a w ⟨af, rfl, ag, ah, ai, aM, f, m, aN⟩
  refine k_seq (k_region ?_)
  refine l_mv f rfl rfl fun a f => l_as f rfl rfl fun a f => l_nil ?_
  refine k_ret ?_
  obtain rfl := sj hd
  exact ⟨[ah], ⟨f.get _ _ rfl, trivial⟩, f.defers, _, [ai], aM, m, _, _, rfl, rfl, aN⟩

theorem Wk.g {W w : World} {G : GH} {H : List Itm} {x0 : Int} {x1 : Int} (m : Mem W G w (H))  {y : Bool} (hd : D.g x0 x1 = some y) :
  Calls Tryd.prog 36 #[(.int .u32 x0), (.int .i64 x1)] w (Res W G H (fun _ Ho v => Ho = [] ∧ v = (.bool y))) := by
 refine calls_b (args := [(.int .u32 x0), (.int .i64 x1)]) (N := 10) [.tmp 4] Tryd.func36 rfl rfl (Nat.le_of_ble_eq_true rfl) rfl fun a f => ?_
 unfold D.g at hd
 refine k_seq (k_region ?_)
 refine l_as f rfl rfl fun a f => l_nil (k_seq (k_region ?_))
 refine l_mv f rfl rfl fun a f => l_mv f rfl rfl fun a f => ?_
 obtain ⟨aa, hd⟩ := cond_none hd
 refine l_op f rfl rfl rfl (r_shr (f.eval rfl) (f.eval rfl) aa) fun a f => l_in f rfl rfl rfl b_and fun a f => l_in f rfl rfl rfl b_eql fun a f => l_as f rfl rfl fun a f => l_nil ?_
 refine k_ret ?_
 obtain rfl := sj hd
 exact ⟨[(.bool ((iand .u32 (ishr .u32 x0 x1) 1) == 1))], ⟨f.get _ _ rfl, trivial⟩, f.defers, _, [], (GLe.refl _), m, rfl, rfl⟩

theorem Wk.A {W w : World} {G : GH} {H : List Itm} {v0 : Value} {x0 : (List Int)} {x1 : Int} {x2 : Int} {x3 : Int} {x4 : Int} (m : Mem W G w (H)) (h0 : RSl (RI .u32) G v0 x0) {y : Bool} (hd : D.A x0 x1 x2 x3 x4 = some y) :
  Calls Tryd.prog 37 #[v0, (.int .u32 x1), (.int .i64 x2), (.int .i64 x3), (.int .i64 x4)] w (Res W G H (fun _ Ho v => Ho = [] ∧ v = (.bool y))) := by
 refine calls_b (args := [v0, (.int .u32 x1), (.int .i64 x2), (.int .i64 x3), (.int .i64 x4)]) (N := 78) [.tmp 10] Tryd.func37 rfl rfl (Nat.le_of_ble_eq_true rfl) rfl fun a f => ?_
 unfold D.A at hd
 refine k_seq (k_region ?_)
 refine l_as f rfl rfl fun a f => l_nil (k_seq (k_region ?_))
 refine l_mv f rfl rfl fun a f => l_mv f rfl rfl fun a f => ?_
 obtain ⟨aa, ab, hd⟩ := bind_some hd
 refine l_at T56 f rfl rfl rfl h0 ab fun ac ad a ae af f => ?_
 subst af
 refine l_loadAt m Pl59 f rfl rfl ae fun a f => l_mv f rfl rfl fun a f => l_in f rfl rfl rfl b_and fun a f => l_as f rfl rfl fun a f => l_nil (k_seq (k_seq (k_region ?_)))
 refine l_mv f rfl rfl fun a f => l_in f rfl rfl rfl b_eql fun a f => l_nil ?_
 rcases cond_some hd with ⟨ag, hd⟩ | ⟨ag, hd⟩
 ·refine k_true f rfl ag ?_
  refine k_seq (k_region ?_)
  refine l_mv f rfl rfl fun a f => l_in f rfl rfl rfl b_eql fun a f => l_mv f rfl rfl fun a f => ?_
  refine l_cut 3 (fun a w => ∃ ah, GLe G ah ∧ Mem W ah w (H) ∧ Fr a 78 [(0, v0), (1, (.int .u32 x1)), (2, (.int .i64 x2)), (3, (.int .i64 x3)), (4, (.int .i64 x4)), (11, (.int .u32 (iand .u32 aa x1))), (20, (.bool (x4 == 1))), (21, (.int .i64 x3)), (22, (.bool (x3 == (-1)))), (23, (.bool (x3 == (-1)))), (26, (.bool ((x3 == (-1)) && ((iand .u32 aa x1) == 0))))]) ?_ ?_
  ·rcases Bool.eq_false_or_eq_true (x3 == (-1)) with ai | ai
   ·refine l_run f rfl rfl ai ?_
    refine l_mv f rfl rfl fun a f => l_run f rfl rfl ai ?_
    refine l_in f rfl rfl rfl b_eql fun a f => l_op f rfl rfl rfl (r_pickT (f.eval rfl) ai (f.eval rfl)) fun a f => ?_
    exact ⟨_, (GLe.refl _), m, f.weak ⟨rfl, rfl, rfl, rfl, rfl, rfl, rfl, rfl, rfl, rfl, by rw [ai]; rfl, trivial⟩⟩
   ·refine l_not' f rfl rfl rfl ai fun a f => ?_
    refine l_not' f rfl rfl rfl ai fun a f => l_op f rfl rfl rfl (r_pickF (f.eval rfl) ai (f.eval rfl)) fun a f => ?_
    exact ⟨_, (GLe.refl _), m, f.weak ⟨rfl, rfl, rfl, rfl, rfl, rfl, rfl, rfl, rfl, rfl, by rw [ai]; rfl, trivial⟩⟩
  ·rintro a w ⟨ah, aj, m, f⟩
   have h0 := rd1 aj h0
   refine l_as f rfl rfl fun a f => l_nil ?_
   refine k_ret ?_
   obtain rfl := sj hd
   exact ⟨[(.bool ((x3 == (-1)) && ((iand .u32 aa x1) == 0)))], ⟨f.get _ _ rfl, trivial⟩, f.defers, _, [], aj, m, rfl, rfl⟩
 ·refine k_false f rfl ag ?_
  refine k_skip ?_
  refine k_seq (k_seq (k_region ?_))
  refine l_mv f rfl rfl fun a f => l_mv f rfl rfl fun a f => l_len Tryd.underlying56 f rfl rfl h0 fun a f => l_in f rfl rfl rfl b_sub fun a f => ?_
  obtain ⟨ak, al, hd⟩ := bind_some hd
  refine l_res f rfl rfl Tryd.call35 (Wk.i m  al) fun am an ao w ap m aq a f => ?_
  obtain ⟨rfl, rfl⟩ := aq
  have h0 := rd1 ap h0
  refine l_op f rfl rfl rfl (r_not (f.eval rfl)) fun a f => l_mv f rfl rfl fun a f => ?_
  refine l_cut 4 (fun a w => ∃ ar, GLe an ar ∧ Mem W ar w (H) ∧ Fr a 78 [(0, v0), (1, (.int .u32 x1)), (2, (.int .i64 x2)), (3, (.int .i64 x3)), (4, (.int .i64 x4)), (11, (.int .u32 (iand .u32 aa x1))), (20, (.bool (x4 == 1))), (27, (.int .i64 x3)), (28, v0), (29, (.int .i64 (x0.length : Int))), (30, (.int .i64 (IntKind.i64.wrap ((x0.length : Int) - 1)))), (31, (.bool ak)), (32, (.bool (!ak))), (33, (.bool (!ak))), (37, (.bool ((!ak) || (x3 == x2))))]) ?_ ?_
  ·rcases Bool.eq_false_or_eq_true (!ak) with au | au
   ·refine l_not' f rfl rfl rfl au fun a f => ?_
    refine l_not' f rfl rfl rfl au fun a f => l_not' f rfl rfl rfl au fun a f => l_op f rfl rfl rfl (r_pickT (f.eval rfl) au (f.eval rfl)) fun a f => ?_
    exact ⟨_, (GLe.refl _), m, f.weak ⟨rfl, rfl, rfl, rfl, rfl, rfl, rfl, rfl, rfl, rfl, rfl, rfl, rfl, rfl, by rw [au]; rfl, trivial⟩⟩
   ·refine l_run f rfl rfl au ?_
    refine l_mv f rfl rfl fun a f => l_run f rfl rfl au ?_
    refine l_mv f rfl rfl fun a f => l_run f rfl rfl au ?_
    refine l_in f rfl rfl rfl b_eql fun a f => l_op f rfl rfl rfl (r_pickF (f.eval rfl) au (f.eval rfl)) fun a f => ?_
    exact ⟨_, (GLe.refl _), m, f.weak ⟨rfl, rfl, rfl, rfl, rfl, rfl, rfl, rfl, rfl, rfl, rfl, rfl, rfl, rfl, by rw [au]; rfl, trivial⟩⟩
  ·rintro a w ⟨ar, av, m, f⟩
   have h0 := rd1 av h0
   refine l_mv f rfl rfl fun a f => ?_
   obtain ⟨aw, ax, hd⟩ := bind_some hd
   refine l_cut 5 (fun a w => ∃ ay, GLe ar ay ∧ Mem W ay w (H) ∧ Fr a 78 [(0, v0), (1, (.int .u32 x1)), (2, (.int .i64 x2)), (3, (.int .i64 x3)), (4, (.int .i64 x4)), (11, (.int .u32 (iand .u32 aa x1))), (20, (.bool (x4 == 1))), (27, (.int .i64 x3)), (28, v0), (29, (.int .i64 (x0.length : Int))), (30, (.int .i64 (IntKind.i64.wrap ((x0.length : Int) - 1)))), (31, (.bool ak)), (32, (.bool (!ak))), (33, (.bool (!ak))), (37, (.bool ((!ak) || (x3 == x2)))), (38, (.bool ((!ak) || (x3 == x2)))), (43, (.bool aw))]) ?_ ?_
   ·rcases cond_some ax with ⟨az, ax⟩ | ⟨az, ax⟩
    ·refine l_not' f rfl rfl rfl az fun a f => ?_
     refine l_not' f rfl rfl rfl az fun a f => l_not' f rfl rfl rfl az fun a f => l_not' f rfl rfl rfl az fun a f => l_op f rfl rfl rfl (r_pickT (f.eval rfl) az (f.eval rfl)) fun a f => ?_
     obtain rfl := sj ax
     exact ⟨_, (GLe.refl _), m, f.weak ⟨rfl, rfl, rfl, rfl, rfl, rfl, rfl, rfl, rfl, rfl, rfl, rfl, rfl, rfl, rfl, rfl, rfl, trivial⟩⟩
    ·refine l_run f rfl rfl az ?_
     refine l_mv f rfl rfl fun a f => l_run f rfl rfl az ?_
     refine l_mv f rfl rfl fun a f => l_run f rfl rfl az ?_
     obtain ⟨aA, aB, ax⟩ := bind_some ax
     refine l_res f rfl rfl Tryd.call36 (Wk.g m  aB) fun aC aD aE w aF m aG a f => ?_
     obtain ⟨rfl, rfl⟩ := aG
     have h0 := rd1 aF h0
     refine l_run f rfl rfl az ?_
     refine l_op f rfl rfl rfl (r_not (f.eval rfl)) fun a f => l_op f rfl rfl rfl (r_pickF (f.eval rfl) az (f.eval rfl)) fun a f => ?_
     obtain rfl := sj ax
     exact ⟨_, aF, m, f.weak ⟨rfl, rfl, rfl, rfl, rfl, rfl, rfl, rfl, rfl, rfl, rfl, rfl, rfl, rfl, rfl, rfl, rfl, trivial⟩⟩
   ·rintro a w ⟨ay, aH, m, f⟩
    have h0 := rd1 aH h0
    refine l_nil ?_
    rcases cond_some hd with ⟨aI, hd⟩ | ⟨aI, hd⟩
    ·refine k_true f rfl aI ?_
     refine k_seq (k_region ?_)
     refine l_as f rfl rfl fun a f => l_nil ?_
     refine k_ret ?_
     obtain rfl := sj hd
     exact ⟨[(.bool false)], ⟨f.get _ _ rfl, trivial⟩, f.defers, _, [], (GLe.trans ap (GLe.trans av aH)), m, rfl, rfl⟩
    ·refine k_false f rfl aI ?_
     refine k_skip ?_
     refine k_seq (k_region ?_)
     refine l_mv f rfl rfl fun a f => l_mv f rfl rfl fun a f => ?_
     obtain ⟨aJ, aK, hd⟩ := bind_some hd
     refine l_at T56 f rfl rfl rfl h0 aK fun aL aM a aN aO f => ?_
     subst aO
     refine l_loadAt m Pl59 f rfl rfl aN fun a f => l_mv f rfl rfl fun a f => l_in f rfl rfl rfl b_and fun a f => l_as f rfl rfl fun a f => l_nil (k_seq (k_seq (k_region ?_)))
     refine l_mv f rfl rfl fun a f => l_nil (k_block (k_seq (k_region ?_)))
     refine l_in f rfl rfl rfl b_eql fun a f => l_as f rfl rfl fun a f => l_nil ?_
     rcases cond_some hd with ⟨aP, hd⟩ | ⟨aP, hd⟩
     ·refine k_true f rfl aP ?_
      refine k_seq (k_region ?_)
      refine l_mv f rfl rfl fun a f => l_mv f rfl rfl fun a f => ?_
      obtain ⟨aQ, aR, hd⟩ := bind_some hd
      refine l_res f rfl rfl Tryd.call38 (Wk.b m  aR) fun aS aT aU w aV m aW a f => ?_
      obtain ⟨rfl, rfl⟩ := aW
      have h0 := rd1 aV h0
      refine l_in f rfl rfl rfl b_eql fun a f => l_as f rfl rfl fun a f => l_nil ?_
      refine k_ret ?_
      obtain rfl := sj hd
      exact ⟨[(.bool ((iand .u32 aa x1) == aQ))], ⟨f.get _ _ rfl, trivial⟩, f.defers, _, [], (GLe.trans ap (GLe.trans av (GLe.trans aH aV))), m, rfl, rfl⟩
     ·refine k_false f rfl aP ?_
      refine k_seq (k_region ?_)
      refine l_in f rfl rfl rfl b_eql fun a f => l_as f rfl rfl fun a f => l_nil ?_
      rcases cond_some hd with ⟨aX, hd⟩ | ⟨aX, hd⟩
      ·refine k_true f rfl aX ?_
       refine k_seq (k_region ?_)
       refine l_mv f rfl rfl fun a f => l_mv f rfl rfl fun a f => l_in f rfl rfl rfl b_eql fun a f => l_as f rfl rfl fun a f => l_nil ?_
       refine k_ret ?_
       obtain rfl := sj hd
       exact ⟨[(.bool ((iand .u32 aa x1) == (iand .u32 aJ x1)))], ⟨f.get _ _ rfl, trivial⟩, f.defers, _, [], (GLe.trans ap (GLe.trans av aH)), m, rfl, rfl⟩
      ·refine k_false f rfl aX ?_
       refine k_seq (k_region ?_)
       refine l_in f rfl rfl rfl b_eql fun a f => l_as f rfl rfl fun a f => l_nil ?_
       rcases cond_some hd with ⟨aY, hd⟩ | ⟨aY, hd⟩
       ·refine k_true f rfl aY ?_
        refine k_seq (k_region ?_)
        refine l_mv f rfl rfl fun a f => l_mv f rfl rfl fun a f => ?_
        obtain ⟨aZ, a0, hd⟩ := bind_some hd
        refine l_res f rfl rfl Tryd.call36 (Wk.g m  a0) fun a1 a2 a3 w a4 m a5 a f => ?_
        obtain ⟨rfl, rfl⟩ := a5
        have h0 := rd1 a4 h0
        refine l_mv f rfl rfl fun a f => ?_
        obtain ⟨a6, a7, hd⟩ := bind_some hd
        refine l_cut 10 (fun a w => ∃ a8, GLe a2 a8 ∧ Mem W a8 w (H) ∧ Fr a 78 [(0, v0), (1, (.int .u32 x1)), (2, (.int .i64 x2)), (3, (.int .i64 x3)), (4, (.int .i64 x4)), (11, (.int .u32 (iand .u32 aa x1))), (12, (.int .u32 (iand .u32 aJ x1))), (62, (.bool (x4 == 4))), (64, (.int .u32 (iand .u32 aa x1))), (65, (.int .i64 x3)), (66, (.bool aZ)), (67, (.bool aZ)), (77, (.bool a6))]) ?_ ?_
        ·rcases cond_some a7 with ⟨a9, a7⟩ | ⟨a9, a7⟩
         ·refine l_run f rfl rfl a9 ?_
          refine l_mv f rfl rfl fun a f => l_run f rfl rfl a9 ?_
          refine l_mv f rfl rfl fun a f => l_run f rfl rfl a9 ?_
          obtain ⟨ba, bb, a7⟩ := bind_some a7
          refine l_res f rfl rfl Tryd.call38 (Wk.b m  bb) fun bc bd be w bf m bg a f => ?_
          obtain ⟨rfl, rfl⟩ := bg
          have h0 := rd1 bf h0
          refine l_run f rfl rfl a9 ?_
          refine l_in f rfl rfl rfl b_andNot fun a f => l_run f rfl rfl a9 ?_
          refine l_mv f rfl rfl fun a f => l_run f rfl rfl a9 ?_
          refine l_mv f rfl rfl fun a f => l_run f rfl rfl a9 ?_
          obtain ⟨bh, bi, a7⟩ := bind_some a7
          refine l_res f rfl rfl Tryd.call38 (Wk.b m  bi) fun bj bk bl w bm m bn a f => ?_
          obtain ⟨rfl, rfl⟩ := bn
          have h0 := rd1 bm h0
          refine l_run f rfl rfl a9 ?_
          refine l_in f rfl rfl rfl b_andNot fun a f => l_run f rfl rfl a9 ?_
          refine l_in f rfl rfl rfl b_eql fun a f => l_op f rfl rfl rfl (r_pickT (f.eval rfl) a9 (f.eval rfl)) fun a f => ?_
          obtain rfl := sj a7
          exact ⟨_, (GLe.trans bf bm), m, f.weak ⟨rfl, rfl, rfl, rfl, rfl, rfl, rfl, rfl, rfl, rfl, rfl, rfl, rfl, trivial⟩⟩
         ·refine l_not' f rfl rfl rfl a9 fun a f => ?_
          refine l_not' f rfl rfl rfl a9 fun a f => l_not' f rfl rfl rfl a9 fun a f => l_not' f rfl rfl rfl a9 fun a f => l_not' f rfl rfl rfl a9 fun a f => l_not' f rfl rfl rfl a9 fun a f => l_not' f rfl rfl rfl a9 fun a f => l_not' f rfl rfl rfl a9 fun a f => l_not' f rfl rfl rfl a9 fun a f => l_op f rfl rfl rfl (r_pickF (f.eval rfl) a9 (f.eval rfl)) fun a f => ?_
          obtain rfl := sj a7
          exact ⟨_, (GLe.refl _), m, f.weak ⟨rfl, rfl, rfl, rfl, rfl, rfl, rfl, rfl, rfl, rfl, rfl, rfl, rfl, trivial⟩⟩
        ·rintro a w ⟨a8, bo, m, f⟩
         have h0 := rd1 bo h0
         refine l_as f rfl rfl fun a f => l_nil ?_
         refine k_ret ?_
         obtain rfl := sj hd
         exact ⟨[(.bool a6)], ⟨f.get _ _ rfl, trivial⟩, f.defers, _, [], (GLe.trans ap (GLe.trans av (GLe.trans aH (GLe.trans a4 bo)))), m, rfl, rfl⟩
       ·refine k_false f rfl aY ?_
        refine k_skip ?_
        refine k_seq (k_region ?_)
        refine l_as f rfl rfl fun a f => l_nil ?_
        refine k_ret ?_
        obtain rfl := sj hd
        exact ⟨[(.bool false)], ⟨f.get _ _ rfl, trivial⟩, f.defers, _, [], (GLe.trans ap (GLe.trans av aH)), m, rfl, rfl⟩

theorem Wk.K {W w : World} {G : GH} {H : List Itm} {v0 : Value} {x0 : (List Int)} {x1 : Int} {x2 : Int} (m : Mem W G w (H)) (h0 : RSl (RI .u32) G v0 x0) {y : Int × Int × Int × Bool} (hd : D.K x0 x1 x2 = some y) :
  Calls Tryd.prog 49 #[v0, (.int .u32 x1), (.int .i64 x2)] w (Res W G H (fun _ Ho v => Ho = [] ∧ v = .tuple #[(.agg #[(.int .i64 y.1), (.int .i64 y.2.1), (.int .i64 y.2.2.1)]), (.bool y.2.2.2)])) := by
 refine calls_b (args := [v0, (.int .u32 x1), (.int .i64 x2)]) (N := 31) [.cell 6 41, .tmp 7] Tryd.func49 rfl rfl (Nat.le_of_ble_eq_true rfl) rfl fun a f => ?_
 unfold D.K at hd
 refine k_seq (k_region ?_)
 refine l_alloc (cs := [(.int .i64 0), (.int .i64 0), (.int .i64 0)]) Tryd.zeroValue41 m f rfl rfl fun aa w a m f => l_as f rfl rfl fun a f => l_nil (k_seq (k_seq (k_region ?_)))
 refine l_as f rfl rfl fun a f => l_nil ?_
 obtain ⟨ab, ac, hd⟩ := bind_some hd
 refine k_cut (fun a w => ∃ q_113' : Unit, ab = .inl q_113' ∧ ∃ (ad : GH), GLe G ad ∧ Fr a 31 [(6, (.pointer (some ⟨aa, 0, none⟩)))] ∧ Mem W ad w (Itm.box aa 41 [(.int .i64 0), (.int .i64 0), (.int .i64 0)] :: H)) ?_ ?_
 ·refine k_block ?_
  refine k_loop (fun ae a w => ∃ af : Int, af = ae ∧ ∃ (ag : GH), GLe G ag ∧ Fr a 31 [(0, v0), (1, (.int .u32 x1)), (2, (.int .i64 x2)), (6, (.pointer (some ⟨aa, 0, none⟩))), (8, (.int .i64 af))] ∧ Mem W ag w (Itm.box aa 41 [(.int .i64 0), (.int .i64 0), (.int .i64 0)] :: H)) ac ⟨_, rfl, _, (GLe.refl _), f.weak ⟨rfl, rfl, rfl, rfl, rfl, trivial⟩, m⟩ ?_
  clear ac f m
  rintro ae ah ai aj a w ⟨af, rfl, ag, ak, f, m⟩
  have h0 := rd1 ak h0
  refine k_seq (k_seq (k_region ?_))
  refine l_mv f rfl rfl fun a f => l_in f rfl rfl rfl b_leq fun a f => l_nil ?_
  rcases cond_some ai with ⟨al, ai⟩ | ⟨al, ai⟩
  ·refine k_true f rfl al ?_
   refine k_skip ?_
   refine k_seq (k_block (k_seq (k_region ?_)))
   refine l_as f rfl rfl fun a f => l_nil ?_
   obtain ⟨am, an, ai⟩ := bind_some ai
   refine k_cut (fun a w => ∃ q_201' : Unit, am = .inl q_201' ∧ ∃ (ao : GH), GLe ag ao ∧ Fr a 31 [(0, v0), (1, (.int .u32 x1)), (2, (.int .i64 x2)), (6, (.pointer (some ⟨aa, 0, none⟩))), (8, (.int .i64 af))] ∧ Mem W ao w (Itm.box aa 41 [(.int .i64 0), (.int .i64 0), (.int .i64 0)] :: H)) ?_ ?_
   ·refine k_block ?_
    refine k_loop (fun ap a w => ∃ aq : Int, aq = ap ∧ ∃ (ar : GH), GLe ag ar ∧ Fr a 31 [(0, v0), (1, (.int .u32 x1)), (2, (.int .i64 x2)), (6, (.pointer (some ⟨aa, 0, none⟩))), (8, (.int .i64 af)), (9, (.int .i64 aq))] ∧ Mem W ar w (Itm.box aa 41 [(.int .i64 0), (.int .i64 0), (.int .i64 0)] :: H)) an ⟨_, rfl, _, (GLe.refl _), f.weak ⟨rfl, rfl, rfl, rfl, rfl, rfl, trivial⟩, m⟩ ?_
    clear an f m
    rintro ap au av aw a w ⟨aq, rfl, ar, ax, f, m⟩
    have h0 := rd1 ax h0
    refine k_seq (k_seq (k_region ?_))
    refine l_mv f rfl rfl fun a f => l_mv f rfl rfl fun a f => l_len Tryd.underlying56 f rfl rfl h0 fun a f => l_in f rfl rfl rfl b_lss fun a f => l_nil ?_
    rcases cond_some av with ⟨ay, av⟩ | ⟨ay, av⟩
    ·refine k_true f rfl ay ?_
     refine k_skip ?_
     refine k_seq (k_block (k_seq (k_region ?_)))
     refine l_mv f rfl rfl fun a f => l_mv f rfl rfl fun a f => l_mv f rfl rfl fun a f => l_mv f rfl rfl fun a f => l_mv f rfl rfl fun a f => ?_
     obtain ⟨az, aA, av⟩ := bind_some av
     refine l_res f rfl rfl Tryd.call37 (Wk.A m h0 aA) fun aB aC aD w aE m aF a f => ?_
     obtain ⟨rfl, rfl⟩ := aF
     have h0 := rd1 aE h0
     refine l_nil ?_
     rcases cond_some av with ⟨aG, av⟩ | ⟨aG, av⟩
     ·refine k_true f rfl aG ?_
      refine k_seq (k_region ?_)
      refine l_mv f rfl rfl fun a f => l_mv f rfl rfl fun a f => l_mv f rfl rfl fun a f => ?_
      have aH : ∀ w, (Instr.build 41 #[(0, (.int .i64 x2)), (1, (.int .i64 aq)), (2, (.int .i64 af))]).run Tryd.prog w = .ok (.agg #[(.int .i64 x2), (.int .i64 aq), (.int .i64 af)]) w := by intro w; simp [Instr.build, Instr.fill, cells_int, cells_bool, cells_string, cells_slice, cells_pointer, cells_agg]
      refine l_build f rfl rfl aH fun a f => l_boxStore 0 0 (ds := [(.int .i64 x2), (.int .i64 aq), (.int .i64 af)]) m Tryd.sizeOf41 f rfl rfl rfl (ones_cons rfl (ones_cons rfl (ones_cons rfl ones_nil))) rfl (Nat.le_of_ble_eq_true rfl) rfl fun w m => l_as f rfl rfl fun a f => l_nil ?_
      refine k_ret ?_
      have aI := rr_agg (P := Tryd.prog) 0 m Ag41 f (s := 6) rfl rfl rfl
      have m : Mem W aC w H := Mem.drop (H' := [Itm.box aa 41 [(.int .i64 x2), (.int .i64 aq), (.int .i64 af)]]) m
      obtain rfl := sj av
      obtain rfl := aw _ rfl
      obtain rfl := sj ai
      obtain rfl := aj _ rfl
      obtain rfl := sj hd
      exact ⟨[(.agg #[(.int .i64 x2), (.int .i64 aq), (.int .i64 af)]), (.bool true)], ⟨aI, f.get _ _ rfl, trivial⟩, f.defers, _, [], (GLe.trans ak (GLe.trans ax aE)), m, rfl, rfl⟩
     ·refine k_false f rfl aG ?_
      refine k_skip ?_
      refine k_region ?_
      refine l_mv f rfl rfl fun a f => l_in f rfl rfl rfl b_add fun a f => l_as f rfl rfl fun a f => l_nil ?_
      obtain rfl := sj av
      exact ⟨_, rfl, _, rfl, _, (GLe.trans ax aE), f.weak ⟨rfl, rfl, rfl, rfl, rfl, rfl, trivial⟩, m⟩
    ·refine k_false f rfl ay ?_
     refine k_exit rfl ?_
     obtain rfl := sj av
     obtain rfl := aw _ rfl
     exact ⟨_, rfl, _, ax, f.weak ⟨rfl, rfl, rfl, rfl, rfl, trivial⟩, m⟩
   ·rintro a w ⟨_, rfl, ao, aJ, f, m⟩
    have h0 := rd1 aJ h0
    refine k_region ?_
    refine l_mv f rfl rfl fun a f => l_in f rfl rfl rfl b_add fun a f => l_as f rfl rfl fun a f => l_nil ?_
    obtain rfl := sj ai
    exact ⟨_, rfl, _, rfl, _, (GLe.trans ak aJ), f.weak ⟨rfl, rfl, rfl, rfl, rfl, trivial⟩, m⟩
  ·refine k_false f rfl al ?_
   refine k_exit rfl ?_
   obtain rfl := sj ai
   obtain rfl := aj _ rfl
   exact ⟨_, rfl, _, ak, f.weak ⟨rfl, trivial⟩, m⟩
 ·rintro a w ⟨_, rfl, ad, aK, f, m⟩
  refine k_seq (k_region ?_)
  have aL : ∀ w, (Instr.build 41 #[]).run Tryd.prog w = .ok (.agg #[(.int .i64 0), (.int .i64 0), (.int .i64 0)]) w := by intro w; simp [Instr.build, Instr.fill, cells_int, cells_bool, cells_string, cells_slice, cells_pointer, cells_agg]
  refine l_build f rfl rfl aL fun a f => l_boxStore 0 0 (ds := [(.int .i64 0), (.int .i64 0), (.int .i64 0)]) m Tryd.sizeOf41 f rfl rfl rfl (ones_cons rfl (ones_cons rfl (ones_cons rfl ones_nil))) rfl (Nat.le_of_ble_eq_true rfl) rfl fun w m => l_as f rfl rfl fun a f => l_nil ?_
  refine k_ret ?_
  have aM := rr_agg (P := Tryd.prog) 0 m Ag41 f (s := 6) rfl rfl rfl
  have m : Mem W ad w H := Mem.drop (H' := [Itm.box aa 41 [(.int .i64 0), (.int .i64 0), (.int .i64 0)]]) m
  obtain rfl := sj hd
  exact ⟨[(.agg #[(.int .i64 0), (.int .i64 0), (.int .i64 0)]), (.bool false)], ⟨aM, f.get _ _ rfl, trivial⟩, f.defers, _, [], aK, m, rfl, rfl⟩

end Go.Proofs.YtkffjeaefgfnnaaDoor

/- 'prunedOf', by hand. -/
set_option maxRecDepth 100000
namespace Go.Proofs.YtkffjeaefgfnnaaDoor
open Go Go.Sx
theorem hT76 : SlT Tryd.prog 76 3 1 8 (.int .i64 0) := ⟨Tryd.underlying76, Tryd.t3, by kernel_rfl, by kernel_rfl, by kernel_rfl, by kernel_rfl⟩
theorem hT31 : SlT Tryd.prog 31 41 P3.m 24 (.agg #[(.int .i64 0), (.int .i64 0), (.int .i64 0)]) := ⟨Tryd.underlying31, Tryd.t41, by kernel_rfl, by kernel_rfl, by kernel_rfl, by kernel_rfl⟩
theorem hP3 : Plain Tryd.prog 3 := Tryd.isAgg3
theorem hA41 : Agg Tryd.prog 41 3 := ⟨Tryd.isAgg41, Tryd.sizeOf41⟩

set_option maxHeartbeats 1000000 in
theorem Wk.o0 {W w : World} {G : GH} {H : List Itm} {v0 : Value} {x0 : (List Int)} {x1 : Int} (hW : TabW W) (m : Mem W G w (H)) (h0 : RSl (RI .u32) G v0 x0) {y : List (Int × Int × Int) × Int} (hd : D.o0 x0 x1 = some y) :
    Calls Tryd.prog 27 #[v0, (.int .u32 x1)] w (Res W G H (fun G' Ho v => ∃ r0 : Value, ∃ i0 : Itm, Ho = [i0] ∧ v = .tuple #[r0, (.int .u32 y.2)] ∧ OwR P3 41 G' i0 r0 y.1)) := by
  refine calls_b (args := [v0, (.int .u32 x1)]) (N := 40) [.tmp 4, .tmp 5] Tryd.func27 rfl rfl (Nat.le_of_ble_eq_true rfl) rfl (fun a f => ?_)
  unfold D.o0 at hd
  refine k_seq ?_
  refine k_region ?_
  refine l_op f rfl rfl rfl (r_assign (f.eval rfl)) (fun a f => ?_)
  refine l_op f rfl rfl rfl (r_assign (f.eval rfl)) (fun a f => ?_)
  refine l_nil ?_
  refine k_seq ?_
  refine k_region ?_
  refine l_slitR0 (E := P3) m hT31 f rfl (fun it1 v1 w a m o1 f => ?_)
  refine l_op f rfl rfl rfl (r_assign (f.eval rfl)) (fun a f => ?_)
  refine l_nil ?_
  refine k_seq ?_
  refine k_seq ?_
  refine k_region ?_
  refine l_op f rfl rfl rfl (r_assign (f.eval rfl)) (fun a f => ?_)
  refine l_nil ?_
  refine k_cut (fun a w => ∃ (G' : GH) (v' : Value) (i0 : Itm), GLe G G' ∧ Fr a 40 [(6, v'), (1, (.int .u32 y.2))] ∧ Mem W G' w (i0 :: H) ∧ OwR P3 41 G' i0 v' y.1) ?_ ?_
  · refine k_block ?_
    refine k_loop (fun (s : List (Int × Int × Int) × Int × Bool) a w => ∃ (G' : GH) (v' : Value) (i0 : Itm), GLe G G' ∧ Fr a 40 [(0, v0), (1, (.int .u32 s.2.1)), (6, v'), (7, (.bool s.2.2))] ∧ Mem W G' w (i0 :: H) ∧ OwR P3 41 G' i0 v' s.1) hd ⟨_, _, _, GLe.refl _, f.weak ⟨rfl, rfl, rfl, rfl, trivial⟩, m, o1⟩ ?_
    clear hd f m o1
    rintro ⟨out, left, go⟩ o hs hqq a w ⟨G1, v1, it1, hl1, f, m, o1⟩
    dsimp only at f o1
    have h0 := RSl.mono (RI.mono _) _ _ _ _ hl1 h0
    unfold D.H0 at hs
    dsimp only at hs
    refine k_seq ?_
    refine k_seq ?_
    refine k_region ?_
    refine l_op f rfl rfl rfl (r_move (f.eval rfl)) (fun a f => ?_)
    refine l_nil ?_
    rcases cond_some hs with ⟨hc1, hs⟩ | ⟨hc1, hs⟩
    · refine k_true f rfl (by rw [hc1]) ?_
      refine k_skip ?_
      obtain ⟨us, hus, hs⟩ := bind_some hs
      obtain ⟨q, hq, hs⟩ := bind_some hs
      obtain rfl := Option.some.inj hs
      refine k_block ?_
      refine k_seq ?_
      refine k_region ?_
      refine l_op f rfl rfl rfl (r_assign (f.eval rfl)) (fun a f => ?_)
      refine l_nil ?_
      refine k_seq ?_
      refine k_region ?_
      refine l_op f rfl rfl rfl (r_move (f.eval rfl)) (fun a f => ?_)
      refine l_res f rfl rfl Tryd.call42 (Wk.n hW m hus) (fun v2 G2 Ho2 w hl2 m hQ2 a f => ?_)
      obtain ⟨vu, itu, rfl, rfl, ou⟩ := hQ2
      have h0 := RSl.mono (RI.mono _) _ _ _ _ hl2 h0
      have o1 := OwR.mono trivial hl2 o1
      have m : Mem W G2 w (itu :: it1 :: H) := m
      obtain ⟨G3, hl3, m, hu⟩ := ou.stamp (RI.mono _) m
      have h0 := RSl.mono (RI.mono _) _ _ _ _ hl3 h0
      have o1 := OwR.mono trivial hl3 o1
      refine l_len Tryd.underlying76 f rfl rfl hu (fun a f => ?_)
      refine l_op f rfl rfl rfl (r_move (f.eval rfl)) (fun a f => ?_)
      refine l_nil ?_
      have hle3 : GLe G G3 := GLe.trans hl1 (GLe.trans hl2 hl3)
      refine k_block ?_
      refine k_loop (fun (i : Int) a w => ∃ (G' : GH) (v' : Value) (i0 : Itm), GLe G3 G' ∧ Fr a 40 [(0, v0), (1, (.int .u32 left)), (6, v'), (7, (.bool false)), (15, vu), (16, (.int .i64 (us.length : Int))), (17, (.int .i64 i))] ∧ Mem W G' w (i0 :: H) ∧ OwR P3 41 G' i0 v' out) hq ⟨_, _, _, GLe.refl _, f.weak ⟨rfl, rfl, rfl, rfl, rfl, rfl, rfl, trivial⟩, m, o1⟩ ?_
      clear hq f m o1
      rintro i o' hs' hqq' a w ⟨G4, v1, it1, hl4, f, m, o1⟩
      have h0 := RSl.mono (RI.mono _) _ _ _ _ hl4 h0
      have hu := RSl.mono (RI.mono _) _ _ _ _ hl4 hu
      unfold D.I0 at hs'
      refine k_seq ?_
      refine k_region ?_
      refine l_op f rfl rfl rfl (r_int (f.eval rfl) (f.eval rfl) b_lss) (fun a f => ?_)
      refine l_nil ?_
      refine k_seq ?_
      rcases cond_some hs' with ⟨hc2, hs'⟩ | ⟨hc2, hs'⟩
      · refine k_true f rfl hc2 ?_
        refine k_skip ?_
        obtain ⟨v, hv, hs'⟩ := bind_some hs'
        obtain ⟨p, hp, hs'⟩ := bind_some hs'
        refine k_seq ?_
        refine k_block ?_
        refine k_seq ?_
        refine k_region ?_
        refine l_at hT76 f rfl rfl rfl hu hv (fun p3 c3 a g3 h3 f => ?_)
        subst h3
        refine l_loadAt m hP3 f rfl rfl g3 (fun a f => ?_)
        refine l_op f rfl rfl rfl (r_assign (f.eval rfl)) (fun a f => ?_)
        refine l_nil ?_
        refine k_seq ?_
        refine k_region ?_
        refine l_op f rfl rfl rfl (r_move (f.eval rfl)) (fun a f => ?_)
        refine l_op f rfl rfl rfl (r_move (f.eval rfl)) (fun a f => ?_)
        refine l_op f rfl rfl rfl (r_move (f.eval rfl)) (fun a f => ?_)
        refine l_res f rfl rfl Tryd.call49 (Wk.K m h0 hp) (fun v5 G5 Ho5 w hl5 m hQ5 a f => ?_)
        obtain ⟨rfl, rfl⟩ := hQ5
        have h0 := RSl.mono (RI.mono _) _ _ _ _ hl5 h0
        have hu := RSl.mono (RI.mono _) _ _ _ _ hl5 hu
        have o1 := OwR.mono trivial hl5 o1
        have m : Mem W G5 w (it1 :: H) := m
        refine l_op f rfl rfl rfl (r_move (f.eval rfl)) (fun a f => ?_)
        refine l_op f rfl rfl rfl (r_extract (f.eval rfl) rfl) (fun a f => ?_)
        refine l_op f rfl rfl rfl (r_extract (f.eval rfl) rfl) (fun a f => ?_)
        refine l_alloc (cs := [(.int .i64 0), (.int .i64 0), (.int .i64 0)]) Tryd.zeroValue41 m f rfl rfl (fun b6 w a m f => ?_)
        refine l_boxStore 0 0 (ds := [(.int .i64 p.1), (.int .i64 p.2.1), (.int .i64 p.2.2.1)]) m Tryd.sizeOf41 f rfl rfl rfl (ones_cons rfl (ones_cons rfl (ones_cons rfl ones_nil))) rfl (Nat.le_of_ble_eq_true rfl) rfl (fun w m => ?_)
        have m : Mem W G5 w (Itm.box b6 41 [(.int .i64 p.1), (.int .i64 p.2.1), (.int .i64 p.2.2.1)] :: it1 :: H) := m
        refine l_op f rfl rfl rfl (r_assign (f.eval rfl)) (fun a f => ?_)
        refine l_nil ?_
        have hle5 : GLe G3 G5 := GLe.trans hl4 hl5
        refine k_seq ?_
        refine k_region ?_
        refine l_op f rfl rfl rfl (r_move (f.eval rfl)) (fun a f => ?_)
        refine l_nil ?_
        rcases cond_some hs' with ⟨hc3, hs'⟩ | ⟨hc3, hs'⟩
        · obtain ⟨o2, ho2, hs'⟩ := bind_some hs'
          obtain ⟨b, hb, hs'⟩ := bind_some hs'
          obtain rfl := Option.some.inj hs'
          obtain rfl := hqq' _ rfl
          refine k_true f rfl (by rw [hc3]) ?_
          refine k_seq ?_
          refine k_region ?_
          refine l_op f rfl rfl rfl (r_move (f.eval rfl)) (fun a f => ?_)
          refine l_boxAgg 0 0 (ds := [(.int .i64 p.1), (.int .i64 p.2.1), (.int .i64 p.2.2.1)]) m hA41 f rfl rfl rfl rfl rfl (fun a f => ?_)
          refine l_slitR (E := P3) (y := (p.1, p.2.1, p.2.2.1)) (cs := [(.int .i64 p.1), (.int .i64 p.2.1), (.int .i64 p.2.2.1)]) m hT31 f rfl rfl rfl (Nat.le_of_ble_eq_true rfl) (fun it7 v7 w a m o7 f => ?_)
          refine l_appendR (E := P3) (z := .agg #[(.int .i64 0), (.int .i64 0), (.int .i64 0)]) 2 0 m o1 rfl o7 rfl (by simp) hT31 rfl (by decide) f rfl rfl rfl ho2 (fun it8 v8 w a m o8 f => ?_)
          have m : Mem W G5 w (it7 :: Itm.box b6 41 [(.int .i64 p.1), (.int .i64 p.2.1), (.int .i64 p.2.2.1)] :: it8 :: H) := m
          have m : Mem W G5 w (it8 :: H) := m.tail.tail
          refine l_op f rfl rfl rfl (r_move (f.eval rfl)) (fun a f => ?_)
          refine l_op f rfl rfl rfl (r_move (f.eval rfl)) (fun a f => ?_)
          refine l_res f rfl rfl Tryd.call38 (Wk.b m hb) (fun v9 G9 Ho9 w hl9 m hQ9 a f => ?_)
          obtain ⟨rfl, rfl⟩ := hQ9
          have o8 := OwR.mono trivial hl9 o8
          have m : Mem W G9 w (it8 :: H) := m
          refine l_op f rfl rfl rfl (r_int (f.eval rfl) (f.eval rfl) b_andNot) (fun a f => ?_)
          refine l_op f rfl rfl rfl (r_assign (f.eval rfl)) (fun a f => ?_)
          refine l_op f rfl rfl rfl (r_assign (f.eval rfl)) (fun a f => ?_)
          refine l_op f rfl rfl rfl (r_assign (f.eval rfl)) (fun a f => ?_)
          refine l_nil ?_
          refine k_exit rfl ?_
          exact ⟨_, rfl, G9, _, _, GLe.trans hle3 (GLe.trans hle5 hl9), f.weak ⟨rfl, rfl, rfl, rfl, trivial⟩, m, o8⟩
        · obtain rfl := Option.some.inj hs'
          refine k_false f rfl (by rw [hc3]) ?_
          refine k_skip ?_
          refine k_region ?_
          refine l_op f rfl rfl rfl (r_int (f.eval rfl) (f.eval rfl) b_add) (fun a f => ?_)
          refine l_op f rfl rfl rfl (r_move (f.eval rfl)) (fun a f => ?_)
          refine l_nil ?_
          exact ⟨_, rfl, G5, _, _, hle5, f.weak ⟨rfl, rfl, rfl, rfl, rfl, rfl, rfl, trivial⟩, m.tail, o1⟩
      · refine k_false f rfl hc2 ?_
        refine k_exit rfl ?_
        obtain rfl := Option.some.inj hs'
        obtain rfl := hqq' _ rfl
        exact ⟨_, rfl, G4, _, _, GLe.trans hle3 hl4, f.weak ⟨rfl, rfl, rfl, rfl, trivial⟩, m, o1⟩
    · refine k_false f rfl (by rw [hc1]) ?_
      refine k_exit rfl ?_
      obtain rfl := Option.some.inj hs
      obtain rfl := hqq _ rfl
      exact ⟨G1, _, _, hl1, f.weak ⟨rfl, rfl, trivial⟩, m, o1⟩
  · clear hd f m o1
    rintro a w ⟨G1, v1, it1, hl1, f, m, o1⟩
    refine k_seq ?_
    refine k_region ?_
    refine l_op f rfl rfl rfl (r_move (f.eval rfl)) (fun a f => ?_)
    refine l_op f rfl rfl rfl (r_move (f.eval rfl)) (fun a f => ?_)
    refine l_op f rfl rfl rfl (r_assign (f.eval rfl)) (fun a f => ?_)
    refine l_op f rfl rfl rfl (r_assign (f.eval rfl)) (fun a f => ?_)
    refine l_nil ?_
    refine k_ret ?_
    exact ⟨[v1, (.int .u32 y.2)], ⟨f.get _ _ rfl, f.get _ _ rfl, trivial⟩, f.defers, _, [it1], hl1, m, _, _, rfl, rfl, o1⟩
end Go.Proofs.YtkffjeaefgfnnaaDoor
