/- Parts of the proof: PDW, PEW, Ya, Qb, Pf, Pg, T1D. -/
import Derived.Test.YtkffjeaefgfnnaaDoorPr4
import Derived.Test.YtkffjeaefgfnnaaDoorProg
import Derived.KernelRfl
import Derived.Lib.TrailingZeros
set_option linter.unusedVariables false
set_option linter.unusedSimpArgs false
set_option linter.unusedSectionVars false
set_option maxRecDepth 100000
namespace Go.Proofs.YtkffjeaefgfnnaaDoor
open Go Go.Sx
theorem T31 : SlT Tryd.prog 31 41 3 24 (.agg #[(.int .i64 0), (.int .i64 0), (.int .i64 0)]) := ⟨Tryd.underlying31, Tryd.t41, by kernel_rfl, by kernel_rfl, by kernel_rfl, by kernel_rfl⟩

theorem Wk.c0 {W w : World} {G : GH} {H : List Itm} {v0 : Value} {x0 : (List Int)} (m : Mem W G w (H)) (h0 : RSl (RI .i64) G v0 x0) {y : ((List Int))} (hd : D.c0 x0 = some y) :
  Calls Tryd.prog 70 #[v0] w (Res W G H (fun G' Ho v => ∃ r0 : Value, ∃ i0 : Itm, Ho = [i0] ∧ r0 = v ∧ Ow (RI .i64) 2 G' i0 r0 y)) := by
 refine calls_b (args := [v0]) (N := 21) [.tmp 2] Tryd.func70 rfl rfl (Nat.le_of_ble_eq_true rfl) rfl fun a f => ?_
 unfold D.c0 at hd
 refine k_seq (k_region ?_)
 refine l_as f rfl rfl fun a f => l_nil (k_seq (k_region ?_))
 refine l_mv f rfl rfl fun a f => l_len Tryd.underlying76 f rfl rfl h0 fun a f => ?_
 obtain ⟨aa, ab, hd⟩ := bind_some hd
 refine l_make (R := (RI .i64)) m T32 rfl (by decide) rfl f rfl rfl rfl ab fun ac ad w a m ae f => l_as f rfl rfl fun a f => l_nil (k_seq (k_seq (k_region ?_)))
 refine l_mv f rfl rfl fun a f => l_len Tryd.underlying76 f rfl rfl h0 fun a f => l_mv f rfl rfl fun a f => l_nil ?_
 obtain ⟨af, ag, hd⟩ := bind_some hd
 refine k_cut (fun a w => ∃ ah : List Int, ah = af ∧ ∃ (ai : GH) (aj : Value) (ak : Itm), GLe G ai ∧ Fr a 21 [(3, aj)] ∧ Mem W ai w (ak :: H) ∧ Ow (RI .i64) 2 ai ak aj ah) ?_ ?_
 ·refine k_block ?_
  refine k_loop (fun al a w => ∃ am : List Int, ∃ an : Int, (am, an) = al ∧ ∃ (ao : GH) (ap : Value) (aq : Itm), GLe G ao ∧ Fr a 21 [(3, ap), (9, v0), (10, (.int .i64 (x0.length : Int))), (11, (.int .i64 an))] ∧ Mem W ao w (aq :: H) ∧ Ow (RI .i64) 2 ao aq ap am) ag ⟨_, _, rfl, _, ad, ac, (GLe.refl _), f.weak ⟨rfl, rfl, rfl, rfl, trivial⟩, m, ae⟩ ?_
  clear ag f m
  rintro al ar au av a w ⟨am, an, rfl, ao, ap, aq, aw, f, m, ax⟩
  have h0 := rd1 aw h0
  refine k_seq (k_region ?_)
  refine l_in f rfl rfl rfl b_lss fun a f => l_nil (k_seq ?_)
  rcases cond_some au with ⟨ay, au⟩ | ⟨ay, au⟩
  ·refine k_true f rfl ay ?_
   refine k_skip ?_
   refine k_seq (k_block (k_seq (k_region ?_)))
   obtain ⟨az, aA, au⟩ := bind_some au
   refine l_at T76 f rfl rfl rfl h0 aA fun aB aC a aD aE f => ?_
   subst aE
   refine l_loadAt m Pl3 f rfl rfl aD fun a f => l_as f rfl rfl fun a f => l_nil (k_region ?_)
   refine l_mv f rfl rfl fun a f => l_mv f rfl rfl fun a f => l_slit (R := (RI .i64)) (xs := ([az] : List Int)) (RI.one _) m T32 f rfl rfl rfl (by decide) (All2.cons rfl (All2.nil _)) fun aF aG w a m aH f => ?_
   obtain ⟨aI, aJ, au⟩ := bind_some au
   refine l_append (RI.one _) 1 m ax rfl T32 rfl (by decide) f rfl rfl rfl (Ow.src (j := 0) aH m rfl) aJ fun aK aL w a m aM f => l_as f rfl rfl fun a f => l_nil (k_region ?_)
   refine l_in f rfl rfl rfl b_add fun a f => l_mv f rfl rfl fun a f => l_nil ?_
   have m := m.front 1 rfl
   have m := m.eraseAt 1
   obtain rfl := sj au
   exact ⟨_, rfl, _, _, rfl, _, aL, aK, aw, f.weak ⟨rfl, rfl, rfl, rfl, trivial⟩, m, aM⟩
  ·refine k_false f rfl ay ?_
   refine k_exit rfl ?_
   obtain rfl := sj au
   obtain rfl := av _ rfl
   exact ⟨_, rfl, _, ap, aq, aw, f.weak ⟨rfl, trivial⟩, m, ax⟩
 ·rintro a w ⟨ah, rfl, ai, aj, ak, aN, f, m, aO⟩
  refine k_seq (k_region ?_)
  refine l_mv f rfl rfl fun a f => l_as f rfl rfl fun a f => l_nil ?_
  refine k_ret ?_
  obtain rfl := sj hd
  exact ⟨[aj], ⟨f.get _ _ rfl, trivial⟩, f.defers, _, [ak], aN, m, _, _, rfl, rfl, aO⟩

theorem Wk.x {W w : World} {G : GH} {H : List Itm} {x0 : Int} (hW : TabW W) (m : Mem W G w (H))  {y : ((List Int))} (hd : D.x x0 = some y) :
  Calls Tryd.prog 29 #[(.int .u32 x0)] w (Res W G H (fun G' Ho v => ∃ r0 : Value, ∃ i0 : Itm, Ho = [i0] ∧ r0 = v ∧ Ow (RI .i64) 2 G' i0 r0 y)) := by
 refine calls_b (args := [(.int .u32 x0)]) (N := 6) [.tmp 2] Tryd.func29 rfl rfl (Nat.le_of_ble_eq_true rfl) rfl fun a f => ?_
 unfold D.x at hd
 refine k_seq (k_region ?_)
 refine l_as f rfl rfl fun a f => l_nil (k_seq (k_region ?_))
 refine l_mv f rfl rfl fun a f => ?_
 obtain ⟨aa, ab, hd⟩ := bind_some hd
 refine l_res f rfl rfl Tryd.call42 (Wk.n hW m  ab) fun ac ad ae w af m ag a f => ?_
 obtain ⟨ah, ai, rfl, rfl, aj⟩ := ag
 obtain ⟨ak, al, hd⟩ := bind_some hd
 refine l_res f rfl rfl Tryd.call70 (Ow.lendCall (RI.mono _) 0 aj m rfl (fun am an m ao => Wk.c0 m ao al) (fun _ G' _ _ ⟨a0, a1, e1, e2, o0⟩ => ⟨a0, a1, e1, e2, Ow.free (RI.free _) G' o0⟩)) fun ap aq ar w au m av a f => ?_
 obtain ⟨aw, ax, rfl, rfl, ay⟩ := av
 have aj := od1 au aj
 refine l_as f rfl rfl fun a f => l_nil ?_
 refine k_ret ?_
 have m := m.eraseAt 1
 obtain rfl := sj hd
 exact ⟨[aw], ⟨f.get _ _ rfl, trivial⟩, f.defers, _, [ax], (GLe.trans af au), m, _, _, rfl, rfl, ay⟩

theorem Wk.I {W w : World} {G : GH} {H : List Itm} {v0_0 : Value} {x0_0 : (List (List Int))} (hW : TabW W) (m : Mem W G w (H)) (h0_0 : RSl (RSl (RI .i64)) G v0_0 x0_0) {y : ((List (Int × Int × Int))) × ((List Int))} (hd : D.I x0_0 = some y) :
  Calls Tryd.prog 8 #[(.agg #[v0_0])] w (Res W G H (fun G' Ho v => ∃ r0 : Value, ∃ i0 : Itm, ∃ r2 : Value, ∃ i2 : Itm, Ho = [i0, i2] ∧ v = .tuple #[r0, r2] ∧ OwR P3 41 G' i0 r0 y.1 ∧ Ow (RI .i64) 2 G' i2 r2 y.2)) := by
 refine calls_b (args := [(.agg #[v0_0])]) (N := 22) [.tmp 2, .tmp 3] Tryd.func8 rfl rfl (Nat.le_of_ble_eq_true rfl) rfl fun a f => ?_
 unfold D.I at hd
 refine k_seq (k_region ?_)
 refine l_box (cs := [v0_0]) m f rfl rfl rfl fun aa w a m f => l_as f rfl rfl fun a f => l_as f rfl rfl fun a f => l_nil (k_seq (k_seq (k_region ?_)))
 refine l_boxAgg 0 0 (ds := [v0_0]) m Ag29 f rfl rfl rfl rfl rfl fun a f => ?_
 obtain ⟨ab, ac, hd⟩ := bind_some hd
 refine l_res f rfl rfl Tryd.call25 (Wk.l m h0_0 ac) fun ad ae af w ag m ah a f => ?_
 obtain ⟨rfl, rfl⟩ := ah
 have h0_0 := rd2 ag h0_0
 refine l_op f rfl rfl rfl (r_not (f.eval rfl)) fun a f => l_nil ?_
 rcases cond_some hd with ⟨ai, hd⟩ | ⟨ai, hd⟩
 ·refine k_true f rfl ai ?_
  refine k_seq (k_region ?_)
  refine l_as f rfl rfl fun a f => l_as f rfl rfl fun a f => l_nil ?_
  refine k_ret ?_
  obtain ⟨aj, m, ak⟩ := OwR.nil P3 41 m
  obtain ⟨al, m, am⟩ := Ow.nil (RI .i64) 2 m
  have m := m.front 1 rfl
  have m := m.eraseAt 2
  obtain rfl := sj hd
  exact ⟨[(.slice none 0 0), (.slice none 0 0)], ⟨f.get _ _ rfl, f.get _ _ rfl, trivial⟩, f.defers, _, [aj, al], ag, m, _, _, _, _, rfl, rfl, ak, am⟩
 ·refine k_false f rfl ai ?_
  refine k_skip ?_
  refine k_seq (k_region ?_)
  refine l_boxAgg 0 0 (ds := [v0_0]) m Ag29 f rfl rfl rfl rfl rfl fun a f => ?_
  obtain ⟨an, ao, hd⟩ := bind_some hd
  refine l_res f rfl rfl Tryd.call26 (Wk.v m h0_0 ao) fun ap aq ar w au m av a f => ?_
  obtain ⟨aw, ax, rfl, rfl, ay⟩ := av
  have h0_0 := rd2 au h0_0
  refine l_as f rfl rfl fun a f => l_nil (k_seq (k_region ?_))
  refine l_mv f rfl rfl fun a f => l_mv f rfl rfl fun a f => ?_
  obtain ⟨az, aA, hd⟩ := bind_some hd
  refine l_res f rfl rfl Tryd.call28 (Ow.lendCall (RI.mono _) 0 ay m rfl (fun aB aC m aD => Wk.B m aD aA) (fun _ _ _ _ h => h)) fun aE aF aG w aH m aI a f => ?_
  obtain ⟨rfl, rfl⟩ := aI
  have h0_0 := rd2 aH h0_0
  have ay := od1 aH ay
  obtain ⟨aJ, aK, hd⟩ := bind_some hd
  refine l_res f rfl rfl Tryd.call27 (Ow.lendCall (RI.mono _) 0 ay m rfl (fun aL aM m aN => Wk.o0 hW m aN aK) (fun _ _ _ _ ⟨r0, i0, h1, h2, h3⟩ => ⟨r0, i0, h1, h2, OwR.free trivial _ h3⟩)) fun aO aP aQ w aR m aS a f => ?_
  obtain ⟨aT, aU, rfl, rfl, aV⟩ := aS
  have h0_0 := rd2 aR h0_0
  have ay := od1 aR ay
  refine l_mv f rfl rfl fun a f => l_op f rfl rfl rfl (r_extract (f.eval rfl) rfl) fun a f => l_op f rfl rfl rfl (r_extract (f.eval rfl) rfl) fun a f => l_as f rfl rfl fun a f => l_as f rfl rfl fun a f => l_nil (k_seq (k_region ?_))
  refine l_mv f rfl rfl fun a f => l_mv f rfl rfl fun a f => ?_
  obtain ⟨aW, aX, hd⟩ := bind_some hd
  refine l_res f rfl rfl Tryd.call29 (Wk.x hW m  aX) fun aY aZ a0 w a1 m a2 a f => ?_
  obtain ⟨a3, a4, rfl, rfl, a5⟩ := a2
  have h0_0 := rd2 a1 h0_0
  have aV := OwR.mono trivial a1 aV
  have ay := od1 a1 ay
  refine l_as f rfl rfl fun a f => l_as f rfl rfl fun a f => l_nil ?_
  refine k_ret ?_
  have m := m.front 1 rfl
  have m := m.eraseAt 3
  have m := m.eraseAt 2
  obtain rfl := sj hd
  exact ⟨[aT, a3], ⟨f.get _ _ rfl, f.get _ _ rfl, trivial⟩, f.defers, _, [aU, a4], (GLe.trans ag (GLe.trans au (GLe.trans aH (GLe.trans aR a1)))), m, _, _, _, _, rfl, rfl, aV, a5⟩

theorem Wk.E {W w : World} {G : GH} {H : List Itm} {v0_0 : Value} {x0_0 : (List (List Int))} (hW : TabW W) (m : Mem W G w (H)) (h0_0 : RSl (RSl (RI .i64)) G v0_0 x0_0) {y : Bool} (hd : D.E x0_0 = some y) :
  Calls Tryd.prog 9 #[(.agg #[v0_0])] w (Res W G H (fun _ Ho v => Ho = [] ∧ v = (.bool y))) := by
 refine calls_b (args := [(.agg #[v0_0])]) (N := 16) [.tmp 2] Tryd.func9 rfl rfl (Nat.le_of_ble_eq_true rfl) rfl fun a f => ?_
 unfold D.E at hd
 refine k_seq (k_region ?_)
 refine l_box (cs := [v0_0]) m f rfl rfl rfl fun aa w a m f => l_as f rfl rfl fun a f => l_nil (k_seq (k_seq (k_region ?_)))
 refine l_boxAgg 0 0 (ds := [v0_0]) m Ag29 f rfl rfl rfl rfl rfl fun a f => ?_
 obtain ⟨ab, ac, hd⟩ := bind_some hd
 refine l_res f rfl rfl Tryd.call25 (Wk.l m h0_0 ac) fun ad ae af w ag m ah a f => ?_
 obtain ⟨rfl, rfl⟩ := ah
 have h0_0 := rd2 ag h0_0
 refine l_op f rfl rfl rfl (r_not (f.eval rfl)) fun a f => l_nil ?_
 rcases cond_some hd with ⟨ai, hd⟩ | ⟨ai, hd⟩
 ·refine k_true f rfl ai ?_
  refine k_seq (k_region ?_)
  refine l_as f rfl rfl fun a f => l_nil ?_
  refine k_ret ?_
  have m : Mem W ae w H := Mem.drop (H' := [Itm.box aa 29 [v0_0]]) m
  obtain rfl := sj hd
  exact ⟨[(.bool false)], ⟨f.get _ _ rfl, trivial⟩, f.defers, _, [], ag, m, rfl, rfl⟩
 ·refine k_false f rfl ai ?_
  refine k_skip ?_
  refine k_seq (k_region ?_)
  refine l_boxAgg 0 0 (ds := [v0_0]) m Ag29 f rfl rfl rfl rfl rfl fun a f => ?_
  obtain ⟨aj, ak, hd⟩ := bind_some hd
  refine l_res f rfl rfl Tryd.call8 (Wk.I hW m h0_0 ak) fun al am an w ao m ap a f => ?_
  obtain ⟨aq, ar, au, av, rfl, rfl, aw, ax⟩ := ap
  have h0_0 := rd2 ao h0_0
  refine l_mv f rfl rfl fun a f => l_op f rfl rfl rfl (r_extract (f.eval rfl) rfl) fun a f => l_op f rfl rfl rfl (r_extract (f.eval rfl) rfl) fun a f => l_as f rfl rfl fun a f => l_as f rfl rfl fun a f => l_nil (k_seq (k_region ?_))
  refine l_mv f rfl rfl fun a f => l_own_len 1 m ax rfl Tryd.underlying32 f rfl rfl fun a f => l_in f rfl rfl rfl b_eql fun a f => l_as f rfl rfl fun a f => l_nil ?_
  refine k_ret ?_
  have m : Mem W am w H := Mem.drop (H' := [ar, av, Itm.box aa 29 [v0_0]]) m
  obtain rfl := sj hd
  exact ⟨[(.bool ((aj.2.length : Int) == 0))], ⟨f.get _ _ rfl, trivial⟩, f.defers, _, [], (GLe.trans ag ao), m, rfl, rfl⟩

theorem Wk.b0 {W w : World} {G : GH} {H : List Itm} {v0_0 : Value} {x0_0 : (List (List Int))} (m : Mem W G w (H)) (h0_0 : RSl (RSl (RI .i64)) G v0_0 x0_0) {y : ((List Int))} (hd : D.b0 x0_0 = some y) :
  Calls Tryd.prog 31 #[(.agg #[v0_0])] w (Res W G H (fun G' Ho v => ∃ r0 : Value, ∃ i0 : Itm, Ho = [i0] ∧ r0 = v ∧ Ow (RI .i64) 2 G' i0 r0 y)) := by
 refine calls_b (args := [(.agg #[v0_0])]) (N := 18) [.tmp 2] Tryd.func31 rfl rfl (Nat.le_of_ble_eq_true rfl) rfl fun a f => ?_
 unfold D.b0 at hd
 refine k_seq (k_region ?_)
 refine l_box (cs := [v0_0]) m f rfl rfl rfl fun aa w a m f => l_as f rfl rfl fun a f => l_nil (k_seq (k_region ?_))
 refine l_slit (R := (RI .i64)) (xs := ([] : List Int)) (RI.one _) m T32 f rfl rfl rfl (by decide) (All2.nil _) fun ab ac w a m ad f => l_as f rfl rfl fun a f => l_nil (k_seq (k_seq (k_region ?_)))
 refine l_as f rfl rfl fun a f => l_nil ?_
 obtain ⟨ae, af, hd⟩ := bind_some hd
 refine k_cut (fun a w => ∃ ag : List Int, ag = ae ∧ ∃ (ah : GH) (ai : Value) (aj : Itm), GLe G ah ∧ Fr a 18 [(3, ai)] ∧ Mem W ah w (aj :: H) ∧ Ow (RI .i64) 2 ah aj ai ag) ?_ ?_
 ·refine k_block ?_
  have m := m.front 1 rfl
  refine k_loop (fun ak a w => ∃ al : List Int, ∃ am : Int, (al, am) = ak ∧ ∃ (an : GH) (ao : Value) (ap : Itm), GLe G an ∧ Fr a 18 [(1, (.pointer (some ⟨aa, 0, none⟩))), (3, ao), (4, (.int .i64 am))] ∧ Mem W an w (Itm.box aa 29 [v0_0] :: ap :: H) ∧ Ow (RI .i64) 2 an ap ao al) af ⟨_, _, rfl, _, ac, ab, (GLe.refl _), f.weak ⟨rfl, rfl, rfl, trivial⟩, m, ad⟩ ?_
  clear af f m
  rintro ak aq ar au a w ⟨al, am, rfl, an, ao, ap, av, f, m, aw⟩
  have h0_0 := rd2 av h0_0
  refine k_seq (k_seq (k_region ?_))
  refine l_mv f rfl rfl fun a f => l_fieldAddr Tryd.underlying29 rfl Tryd.sizeOf27 (by decide) f rfl rfl fun a f => l_boxCell 0 0 m Pl27 f rfl rfl rfl rfl fun a f => l_len Tryd.underlying27 f rfl rfl h0_0 fun a f => l_in f rfl rfl rfl b_lss fun a f => l_nil ?_
  rcases cond_some ar with ⟨ax, ar⟩ | ⟨ax, ar⟩
  ·refine k_true f rfl ax ?_
   refine k_skip ?_
   refine k_seq (k_block (k_region ?_))
   refine l_mv f rfl rfl fun a f => l_mv f rfl rfl fun a f => l_slit (R := (RI .i64)) (xs := ([am] : List Int)) (RI.one _) m T32 f rfl rfl rfl (by decide) (All2.cons rfl (All2.nil _)) fun ay az w a m aA f => ?_
   obtain ⟨aB, aC, ar⟩ := bind_some ar
   refine l_append (RI.one _) 2 m aw rfl T32 rfl (by decide) f rfl rfl rfl (Ow.src (j := 0) aA m rfl) aC fun aD aE w a m aF f => l_as f rfl rfl fun a f => l_nil (k_region ?_)
   refine l_mv f rfl rfl fun a f => l_in f rfl rfl rfl b_add fun a f => l_as f rfl rfl fun a f => l_nil ?_
   have m := m.front 2 rfl
   have m := m.front 2 rfl
   have m := m.eraseAt 2
   obtain rfl := sj ar
   exact ⟨_, rfl, _, _, rfl, _, aE, aD, av, f.weak ⟨rfl, rfl, rfl, trivial⟩, m, aF⟩
  ·refine k_false f rfl ax ?_
   refine k_exit rfl ?_
   have m := m.front 1 rfl
   have m := m.eraseAt 1
   obtain rfl := sj ar
   obtain rfl := au _ rfl
   exact ⟨_, rfl, _, ao, ap, av, f.weak ⟨rfl, trivial⟩, m, aw⟩
 ·rintro a w ⟨ag, rfl, ah, ai, aj, aG, f, m, aH⟩
  refine k_seq (k_region ?_)
  refine l_mv f rfl rfl fun a f => l_as f rfl rfl fun a f => l_nil ?_
  refine k_ret ?_
  obtain rfl := sj hd
  exact ⟨[ai], ⟨f.get _ _ rfl, trivial⟩, f.defers, _, [aj], aG, m, _, _, rfl, rfl, aH⟩

theorem Wk.u {W w : World} {G : GH} {H : List Itm} {v0_0 : Value} {v1 : Value} {x0_0 : (List (List Int))} {x1 : (List Int)} {x2 : Int} {x3 : Int} (m : Mem W G w (H)) (h0_0 : RSl (RSl (RI .i64)) G v0_0 x0_0) (h1 : RSl (RI .i64) G v1 x1) {y : ((List Int))} (hd : D.u x0_0 x1 x2 x3 = some y) :
  Calls Tryd.prog 71 #[(.agg #[v0_0]), v1, (.int .i64 x2), (.int .i64 x3)] w (Res W G H (fun G' Ho v => ∃ r0 : Value, ∃ i0 : Itm, Ho = [i0] ∧ r0 = v ∧ Ow (RI .i64) 2 G' i0 r0 y)) := by
 refine calls_b (args := [(.agg #[v0_0]), v1, (.int .i64 x2), (.int .i64 x3)]) (N := 44) [.tmp 8] Tryd.func71 rfl rfl (Nat.le_of_ble_eq_true rfl) rfl fun a f => ?_
 unfold D.u at hd
 refine k_seq (k_region ?_)
 refine l_box (cs := [v0_0]) m f rfl rfl rfl fun aa w a m f => l_as f rfl rfl fun a f => l_nil (k_seq (k_region ?_))
 refine l_slit (R := (RI .i64)) (xs := ([] : List Int)) (RI.one _) m T32 f rfl rfl rfl (by decide) (All2.nil _) fun ab ac w a m ad f => l_as f rfl rfl fun a f => l_nil (k_seq (k_seq (k_region ?_)))
 refine l_as f rfl rfl fun a f => l_nil ?_
 obtain ⟨ae, af, hd⟩ := bind_some hd
 refine k_cut (fun a w => ∃ ag : List Int, ag = ae ∧ ∃ (ah : GH) (ai : Value) (aj : Itm), GLe G ah ∧ Fr a 44 [(9, ai)] ∧ Mem W ah w (aj :: H) ∧ Ow (RI .i64) 2 ah aj ai ag) ?_ ?_
 ·refine k_block ?_
  have m := m.front 1 rfl
  refine k_loop (fun ak a w => ∃ al : List Int, ∃ am : Int, (al, am) = ak ∧ ∃ (an : GH) (ao : Value) (ap : Itm), GLe G an ∧ Fr a 44 [(1, v1), (2, (.int .i64 x2)), (3, (.int .i64 x3)), (4, (.pointer (some ⟨aa, 0, none⟩))), (9, ao), (10, (.int .i64 am))] ∧ Mem W an w (Itm.box aa 29 [v0_0] :: ap :: H) ∧ Ow (RI .i64) 2 an ap ao al) af ⟨_, _, rfl, _, ac, ab, (GLe.refl _), f.weak ⟨rfl, rfl, rfl, rfl, rfl, rfl, trivial⟩, m, ad⟩ ?_
  clear af f m
  rintro ak aq ar au a w ⟨al, am, rfl, an, ao, ap, av, f, m, aw⟩
  have h1 := rd1 av h1
  have h0_0 := rd2 av h0_0
  refine k_seq (k_seq (k_region ?_))
  refine l_mv f rfl rfl fun a f => l_fieldAddr Tryd.underlying29 rfl Tryd.sizeOf27 (by decide) f rfl rfl fun a f => l_boxCell 0 0 m Pl27 f rfl rfl rfl rfl fun a f => l_mv f rfl rfl fun a f => ?_
  obtain ⟨ax, ay, ar⟩ := bind_some ar
  refine l_at T27 f rfl rfl rfl h0_0 ay fun az aA a aB aC f => l_loadAt m Pl32 f rfl rfl aB fun a f => l_len Tryd.underlying32 f rfl rfl aC fun a f => l_in f rfl rfl rfl b_lss fun a f => l_nil ?_
  rcases cond_some ar with ⟨aD, ar⟩ | ⟨aD, ar⟩
  ·refine k_true f rfl aD ?_
   refine k_skip ?_
   refine k_seq (k_block (k_seq (k_region ?_)))
   refine l_fieldAddr Tryd.underlying29 rfl Tryd.sizeOf27 (by decide) f rfl rfl fun a f => l_boxCell 0 0 m Pl27 f rfl rfl rfl rfl fun a f => l_mv f rfl rfl fun a f => ?_
   obtain ⟨aE, aF, ar⟩ := bind_some ar
   refine l_at T27 f rfl rfl rfl h0_0 aF fun aG aH a aI aJ f => l_loadAt m Pl32 f rfl rfl aI fun a f => l_mv f rfl rfl fun a f => ?_
   obtain ⟨aK, aL, ar⟩ := bind_some ar
   refine l_at T32 f rfl rfl rfl aJ aL fun aM aN a aO aP f => ?_
   subst aP
   refine l_loadAt m Pl2 f rfl rfl aO fun a f => l_as f rfl rfl fun a f => l_nil (k_seq (k_region ?_))
   refine l_mv f rfl rfl fun a f => l_mv f rfl rfl fun a f => l_in f rfl rfl rfl b_neq fun a f => l_mv f rfl rfl fun a f => ?_
   obtain ⟨aQ, aR, ar⟩ := bind_some ar
   refine l_cut 4 (fun a w => ∃ aS, GLe an aS ∧ Mem W aS w (Itm.box aa 29 [v0_0] :: ap :: H) ∧ Fr a 44 [(1, v1), (2, (.int .i64 x2)), (3, (.int .i64 x3)), (4, (.pointer (some ⟨aa, 0, none⟩))), (9, ao), (10, (.int .i64 am)), (11, (.int .i64 aK)), (31, (.int .i64 aK)), (32, (.int .i64 x3)), (33, (.bool (aK != x3))), (34, (.bool (aK != x3))), (38, (.bool aQ))]) ?_ ?_
   ·rcases cond_some aR with ⟨aT, aR⟩ | ⟨aT, aR⟩
    ·refine l_run f rfl rfl aT ?_
     refine l_mv f rfl rfl fun a f => l_run f rfl rfl aT ?_
     refine l_mv f rfl rfl fun a f => l_run f rfl rfl aT ?_
     obtain ⟨aU, aV, aR⟩ := bind_some aR
     refine l_res f rfl rfl Tryd.call32 (Wk.e m h1 aV) fun aW aX aY w aZ m a0 a f => ?_
     obtain ⟨rfl, rfl⟩ := a0
     have h1 := rd1 aZ h1
     have h0_0 := rd2 aZ h0_0
     have aw := od1 aZ aw
     refine l_op f rfl rfl rfl (r_pickT (f.eval rfl) aT (f.eval rfl)) fun a f => ?_
     obtain rfl := sj aR
     exact ⟨_, aZ, m, f.weak ⟨rfl, rfl, rfl, rfl, rfl, rfl, rfl, rfl, rfl, rfl, rfl, rfl, trivial⟩⟩
    ·refine l_not' f rfl rfl rfl aT fun a f => ?_
     refine l_not' f rfl rfl rfl aT fun a f => l_not' f rfl rfl rfl aT fun a f => l_op f rfl rfl rfl (r_pickF (f.eval rfl) aT (f.eval rfl)) fun a f => ?_
     obtain rfl := sj aR
     exact ⟨_, (GLe.refl _), m, f.weak ⟨rfl, rfl, rfl, rfl, rfl, rfl, rfl, rfl, rfl, rfl, rfl, rfl, trivial⟩⟩
   ·rintro a w ⟨aS, a1, m, f⟩
    have h1 := rd1 a1 h1
    have h0_0 := rd2 a1 h0_0
    have aw := od1 a1 aw
    refine l_nil ?_
    rcases cond_some ar with ⟨a2, ar⟩ | ⟨a2, ar⟩
    ·refine k_true f rfl a2 ?_
     refine k_region ?_
     refine l_mv f rfl rfl fun a f => l_mv f rfl rfl fun a f => l_slit (R := (RI .i64)) (xs := ([aK] : List Int)) (RI.one _) m T32 f rfl rfl rfl (by decide) (All2.cons rfl (All2.nil _)) fun a3 a4 w a m a5 f => ?_
     obtain ⟨a6, a7, ar⟩ := bind_some ar
     refine l_append (RI.one _) 2 m aw rfl T32 rfl (by decide) f rfl rfl rfl (Ow.src (j := 0) a5 m rfl) a7 fun a8 a9 w a m ba f => l_as f rfl rfl fun a f => l_nil (k_region ?_)
     refine l_mv f rfl rfl fun a f => l_in f rfl rfl rfl b_add fun a f => l_as f rfl rfl fun a f => l_nil ?_
     have m := m.front 2 rfl
     have m := m.front 2 rfl
     have m := m.eraseAt 2
     obtain rfl := sj ar
     exact ⟨_, rfl, _, _, rfl, _, a9, a8, (GLe.trans av a1), f.weak ⟨rfl, rfl, rfl, rfl, rfl, rfl, trivial⟩, m, ba⟩
    ·refine k_false f rfl a2 ?_
     refine k_skip ?_
     refine k_region ?_
     refine l_mv f rfl rfl fun a f => l_in f rfl rfl rfl b_add fun a f => l_as f rfl rfl fun a f => l_nil ?_
     obtain rfl := sj ar
     exact ⟨_, rfl, _, _, rfl, _, ao, ap, (GLe.trans av a1), f.weak ⟨rfl, rfl, rfl, rfl, rfl, rfl, trivial⟩, m, aw⟩
  ·refine k_false f rfl aD ?_
   refine k_exit rfl ?_
   have m := m.front 1 rfl
   have m := m.eraseAt 1
   obtain rfl := sj ar
   obtain rfl := au _ rfl
   exact ⟨_, rfl, _, ao, ap, av, f.weak ⟨rfl, trivial⟩, m, aw⟩
 ·rintro a w ⟨ag, rfl, ah, ai, aj, bb, f, m, bc⟩
  refine k_seq (k_region ?_)
  refine l_mv f rfl rfl fun a f => l_as f rfl rfl fun a f => l_nil ?_
  refine k_ret ?_
  obtain rfl := sj hd
  exact ⟨[ai], ⟨f.get _ _ rfl, trivial⟩, f.defers, _, [aj], bb, m, _, _, rfl, rfl, bc⟩

theorem Wk.f {W w : World} {G : GH} {H : List Itm} {v0 : Value} {v1 : Value} {x0 : (List Int)} {x1 : (List Int)} (m : Mem W G w (H)) (h0 : RSl (RI .i64) G v0 x0) (h1 : RSl (RI .i64) G v1 x1) {y : Bool} (hd : D.f x0 x1 = some y) :
  Calls Tryd.prog 72 #[v0, v1] w (Res W G H (fun _ Ho v => Ho = [] ∧ v = (.bool y))) := by
 refine calls_b (args := [v0, v1]) (N := 26) [.tmp 4] Tryd.func72 rfl rfl (Nat.le_of_ble_eq_true rfl) rfl fun a f => ?_
 unfold D.f at hd
 refine k_seq (k_region ?_)
 refine l_as f rfl rfl fun a f => l_nil (k_seq (k_seq (k_region ?_)))
 refine l_mv f rfl rfl fun a f => l_len Tryd.underlying32 f rfl rfl h0 fun a f => l_mv f rfl rfl fun a f => l_len Tryd.underlying32 f rfl rfl h1 fun a f => l_in f rfl rfl rfl b_neq fun a f => l_nil ?_
 rcases cond_some hd with ⟨aa, hd⟩ | ⟨aa, hd⟩
 ·refine k_true f rfl aa ?_
  refine k_seq (k_region ?_)
  refine l_as f rfl rfl fun a f => l_nil ?_
  refine k_ret ?_
  obtain rfl := sj hd
  exact ⟨[(.bool false)], ⟨f.get _ _ rfl, trivial⟩, f.defers, _, [], (GLe.refl _), m, rfl, rfl⟩
 ·refine k_false f rfl aa ?_
  refine k_skip ?_
  refine k_seq (k_seq (k_region ?_))
  refine l_as f rfl rfl fun a f => l_nil ?_
  obtain ⟨ab, ac, hd⟩ := bind_some hd
  refine k_cut (fun a w => ∃ q_36' : Unit, ab = .inl q_36' ∧ ∃ (ad : GH), GLe G ad ∧ Fr a 26 [] ∧ Mem W ad w (H)) ?_ ?_
  ·refine k_block ?_
   refine k_loop (fun ae a w => ∃ af : Int, af = ae ∧ ∃ (ag : GH), GLe G ag ∧ Fr a 26 [(0, v0), (1, v1), (5, (.int .i64 af))] ∧ Mem W ag w (H)) ac ⟨_, rfl, _, (GLe.refl _), f.weak ⟨rfl, rfl, rfl, trivial⟩, m⟩ ?_
   clear ac f m
   rintro ae ah ai aj a w ⟨af, rfl, ag, ak, f, m⟩
   have h0 := rd1 ak h0
   have h1 := rd1 ak h1
   refine k_seq (k_seq (k_region ?_))
   refine l_mv f rfl rfl fun a f => l_mv f rfl rfl fun a f => l_len Tryd.underlying32 f rfl rfl h0 fun a f => l_in f rfl rfl rfl b_lss fun a f => l_nil ?_
   rcases cond_some ai with ⟨al, ai⟩ | ⟨al, ai⟩
   ·refine k_true f rfl al ?_
    refine k_skip ?_
    refine k_seq (k_block (k_seq ?_))
    refine k_draw 9 Follows (by kernel_rfl) m ?_
    refine q_mv 0 9 rfl (by kernel_rfl) f rfl rfl rfl fun a f => q_mv 1 9 rfl (by kernel_rfl) f rfl rfl rfl fun a f => ?_
    obtain ⟨am, an, ai⟩ := bind_some ai
    refine q_at (i := 2) 9 T32 h0 an rfl (by kernel_rfl) rfl f rfl rfl rfl rfl fun ao ap a aq ar f => ?_
    subst ar
    refine q_loadAt (i := 3) 9 Pl2 aq rfl (by kernel_rfl) rfl f rfl rfl rfl fun a f => q_mv 4 9 rfl (by kernel_rfl) f rfl rfl rfl fun a f => q_mv 5 9 rfl (by kernel_rfl) f rfl rfl rfl fun a f => ?_
    obtain ⟨au, av, ai⟩ := bind_some ai
    refine q_at (i := 6) 9 T32 h1 av rfl (by kernel_rfl) rfl f rfl rfl rfl rfl fun aw ax a ay az f => ?_
    subst az
    refine q_loadAt (i := 7) 9 Pl2 ay rfl (by kernel_rfl) rfl f rfl rfl rfl fun a f => q_p 8 9 rfl (by kernel_rfl) f rfl rfl rfl (fun _ => r_int (f.eval rfl) (f.eval rfl) b_neq) fun a f => q_end fun aA w aB m => ?_
    have h0 := rd1 aB h0
    have h1 := rd1 aB h1
    have aq := At.mono aB aq
    have ay := At.mono aB ay
    refine l_nil ?_
    rcases cond_some ai with ⟨aC, ai⟩ | ⟨aC, ai⟩
    ·refine k_true f rfl aC ?_
     refine k_seq (k_region ?_)
     refine l_as f rfl rfl fun a f => l_nil ?_
     refine k_ret ?_
     obtain rfl := sj ai
     obtain rfl := aj _ rfl
     obtain rfl := sj hd
     exact ⟨[(.bool false)], ⟨f.get _ _ rfl, trivial⟩, f.defers, _, [], (GLe.trans ak aB), m, rfl, rfl⟩
    ·refine k_false f rfl aC ?_
     refine k_skip ?_
     refine k_region ?_
     refine l_mv f rfl rfl fun a f => l_in f rfl rfl rfl b_add fun a f => l_as f rfl rfl fun a f => l_nil ?_
     obtain rfl := sj ai
     exact ⟨_, rfl, _, rfl, _, (GLe.trans ak aB), f.weak ⟨rfl, rfl, rfl, trivial⟩, m⟩
   ·refine k_false f rfl al ?_
    refine k_exit rfl ?_
    obtain rfl := sj ai
    obtain rfl := aj _ rfl
    exact ⟨_, rfl, _, ak, f.weak trivial, m⟩
  ·rintro a w ⟨_, rfl, ad, aD, f, m⟩
   refine k_seq (k_region ?_)
   refine l_as f rfl rfl fun a f => l_nil ?_
   refine k_ret ?_
   obtain rfl := sj hd
   exact ⟨[(.bool true)], ⟨f.get _ _ rfl, trivial⟩, f.defers, _, [], aD, m, rfl, rfl⟩

theorem Wk.T {W w : World} {G : GH} {H : List Itm} {v0_0 : Value} {v1 : Value} {x0_0 : (List (List Int))} {x1 : (List Int)} {x2_0 : Int} {x2_1 : Int} {x2_2 : Int} (m : Mem W G w (H)) (h0_0 : RSl (RSl (RI .i64)) G v0_0 x0_0) (h1 : RSl (RI .i64) G v1 x1) {y : Bool} (hd : D.T x0_0 x1 x2_0 x2_1 x2_2 = some y) :
  Calls Tryd.prog 33 #[(.agg #[v0_0]), v1, (.agg #[(.int .i64 x2_0), (.int .i64 x2_1), (.int .i64 x2_2)])] w (Res W G H (fun _ Ho v => Ho = [] ∧ v = (.bool y))) := by
 refine calls_b (args := [(.agg #[v0_0]), v1, (.agg #[(.int .i64 x2_0), (.int .i64 x2_1), (.int .i64 x2_2)])]) (N := 87) [.tmp 6] Tryd.func33 rfl rfl (Nat.le_of_ble_eq_true rfl) rfl fun a f => ?_
 unfold D.T at hd
 refine k_seq (k_region ?_)
 refine l_box (cs := [v0_0]) m f rfl rfl rfl fun aa w a m f => l_box (cs := [(.int .i64 x2_0), (.int .i64 x2_1), (.int .i64 x2_2)]) m f rfl rfl rfl fun ab w a m f => l_as f rfl rfl fun a f => l_nil (k_seq (k_region ?_))
 refine l_boxAgg 1 0 (ds := [v0_0]) m Ag29 f rfl rfl rfl rfl rfl fun a f => l_mv f rfl rfl fun a f => l_fieldAddr Tryd.underlying41 rfl Tryd.sizeOf2 (by decide) f rfl rfl fun a f => l_boxCell 0 0 m Pl2 f rfl rfl rfl rfl fun a f => l_fieldAddr Tryd.underlying41 rfl Tryd.sizeOf2 (by decide) f rfl rfl fun a f => l_boxCell 0 1 m Pl2 f rfl rfl rfl rfl fun a f => ?_
 obtain ⟨ac, ad, hd⟩ := bind_some hd
 refine l_res f rfl rfl Tryd.call71 (Wk.u m h0_0 h1 ad) fun ae af ag w ah m ai a f => ?_
 obtain ⟨aj, ak, rfl, rfl, al⟩ := ai
 have h0_0 := rd2 ah h0_0
 have h1 := rd1 ah h1
 refine l_as f rfl rfl fun a f => l_nil (k_seq (k_seq (k_region ?_)))
 refine l_fieldAddr Tryd.underlying41 rfl Tryd.sizeOf2 (by decide) f rfl rfl fun a f => l_boxCell 1 2 m Pl2 f rfl rfl rfl rfl fun a f => l_in f rfl rfl rfl b_eql fun a f => l_nil ?_
 rcases cond_some hd with ⟨am, hd⟩ | ⟨am, hd⟩
 ·refine k_true f rfl am ?_
  refine k_seq (k_region ?_)
  refine l_fieldAddr Tryd.underlying41 rfl Tryd.sizeOf2 (by decide) f rfl rfl fun a f => l_boxCell 1 1 m Pl2 f rfl rfl rfl rfl fun a f => l_in f rfl rfl rfl b_eql fun a f => l_mv f rfl rfl fun a f => ?_
  refine l_cut 4 (fun a w => ∃ an, GLe af an ∧ Mem W an w (ak :: Itm.box ab 41 [(.int .i64 x2_0), (.int .i64 x2_1), (.int .i64 x2_2)] :: Itm.box aa 29 [v0_0] :: H) ∧ Fr a 87 [(0, (.agg #[v0_0])), (1, v1), (2, (.agg #[(.int .i64 x2_0), (.int .i64 x2_1), (.int .i64 x2_2)])), (3, (.pointer (some ⟨aa, 0, none⟩))), (5, (.pointer (some ⟨ab, 0, none⟩))), (7, aj), (18, (.bool (x2_2 == 1))), (19, (.pointer (some ⟨ab, 1, none⟩))), (20, (.int .i64 x2_1)), (21, (.bool (x2_1 == (-1)))), (22, (.bool (x2_1 == (-1)))), (26, (.bool ((x2_1 == (-1)) && ((ac.length : Int) == 0))))]) ?_ ?_
  ·rcases Bool.eq_false_or_eq_true (x2_1 == (-1)) with ao | ao
   ·refine l_run f rfl rfl ao ?_
    refine l_mv f rfl rfl fun a f => l_run f rfl rfl ao ?_
    refine l_own_len 0 m al rfl Tryd.underlying32 f rfl rfl fun a f => l_run f rfl rfl ao ?_
    refine l_in f rfl rfl rfl b_eql fun a f => l_op f rfl rfl rfl (r_pickT (f.eval rfl) ao (f.eval rfl)) fun a f => ?_
    exact ⟨_, (GLe.refl _), m, f.weak ⟨rfl, rfl, rfl, rfl, rfl, rfl, rfl, rfl, rfl, rfl, rfl, by rw [ao]; rfl, trivial⟩⟩
   ·refine l_not' f rfl rfl rfl ao fun a f => ?_
    refine l_not' f rfl rfl rfl ao fun a f => l_not' f rfl rfl rfl ao fun a f => l_op f rfl rfl rfl (r_pickF (f.eval rfl) ao (f.eval rfl)) fun a f => ?_
    exact ⟨_, (GLe.refl _), m, f.weak ⟨rfl, rfl, rfl, rfl, rfl, rfl, rfl, rfl, rfl, rfl, rfl, by rw [ao]; rfl, trivial⟩⟩
  ·rintro a w ⟨an, ap, m, f⟩
   have h0_0 := rd2 ap h0_0
   have h1 := rd1 ap h1
   have al := od1 ap al
   refine l_as f rfl rfl fun a f => l_nil ?_
   refine k_ret ?_
   have m : Mem W an w H := Mem.drop (H' := [ak, Itm.box ab 41 [(.int .i64 x2_0), (.int .i64 x2_1), (.int .i64 x2_2)], Itm.box aa 29 [v0_0]]) m
   obtain rfl := sj hd
   exact ⟨[(.bool ((x2_1 == (-1)) && ((ac.length : Int) == 0)))], ⟨f.get _ _ rfl, trivial⟩, f.defers, _, [], (GLe.trans ah ap), m, rfl, rfl⟩
 ·refine k_false f rfl am ?_
  refine k_skip ?_
  refine k_seq (k_seq (k_region ?_))
  refine l_fieldAddr Tryd.underlying41 rfl Tryd.sizeOf2 (by decide) f rfl rfl fun a f => l_boxCell 1 1 m Pl2 f rfl rfl rfl rfl fun a f => l_fieldAddr Tryd.underlying41 rfl Tryd.sizeOf2 (by decide) f rfl rfl fun a f => l_boxCell 1 0 m Pl2 f rfl rfl rfl rfl fun a f => l_in f rfl rfl rfl b_eql fun a f => l_mv f rfl rfl fun a f => ?_
  obtain ⟨aq, ar, hd⟩ := bind_some hd
  refine l_cut 6 (fun a w => ∃ au, GLe af au ∧ Mem W au w (ak :: Itm.box ab 41 [(.int .i64 x2_0), (.int .i64 x2_1), (.int .i64 x2_2)] :: Itm.box aa 29 [v0_0] :: H) ∧ Fr a 87 [(0, (.agg #[v0_0])), (1, v1), (2, (.agg #[(.int .i64 x2_0), (.int .i64 x2_1), (.int .i64 x2_2)])), (3, (.pointer (some ⟨aa, 0, none⟩))), (5, (.pointer (some ⟨ab, 0, none⟩))), (7, aj), (18, (.bool (x2_2 == 1))), (27, (.pointer (some ⟨ab, 1, none⟩))), (28, (.int .i64 x2_1)), (29, (.pointer (some ⟨ab, 0, none⟩))), (30, (.int .i64 x2_0)), (31, (.bool (x2_1 == x2_0))), (32, (.bool (x2_1 == x2_0))), (38, (.bool aq))]) ?_ ?_
  ·rcases cond_some ar with ⟨av, ar⟩ | ⟨av, ar⟩
   ·refine l_not' f rfl rfl rfl av fun a f => ?_
    refine l_not' f rfl rfl rfl av fun a f => l_not' f rfl rfl rfl av fun a f => l_not' f rfl rfl rfl av fun a f => l_not' f rfl rfl rfl av fun a f => l_op f rfl rfl rfl (r_pickT (f.eval rfl) av (f.eval rfl)) fun a f => ?_
    obtain rfl := sj ar
    exact ⟨_, (GLe.refl _), m, f.weak ⟨rfl, rfl, rfl, rfl, rfl, rfl, rfl, rfl, rfl, rfl, rfl, rfl, rfl, rfl, trivial⟩⟩
   ·refine l_run f rfl rfl av ?_
    refine l_mv f rfl rfl fun a f => l_run f rfl rfl av ?_
    refine l_fieldAddr Tryd.underlying41 rfl Tryd.sizeOf2 (by decide) f rfl rfl fun a f => l_run f rfl rfl av ?_
    refine l_boxCell 1 1 m Pl2 f rfl rfl rfl rfl fun a f => l_run f rfl rfl av ?_
    obtain ⟨aw, ax, ar⟩ := bind_some ar
    refine l_res f rfl rfl Tryd.call32 (Wk.e m h1 ax) fun ay az aA w aB m aC a f => ?_
    obtain ⟨rfl, rfl⟩ := aC
    have h0_0 := rd2 aB h0_0
    have h1 := rd1 aB h1
    have al := od1 aB al
    refine l_run f rfl rfl av ?_
    refine l_op f rfl rfl rfl (r_not (f.eval rfl)) fun a f => l_op f rfl rfl rfl (r_pickF (f.eval rfl) av (f.eval rfl)) fun a f => ?_
    obtain rfl := sj ar
    exact ⟨_, aB, m, f.weak ⟨rfl, rfl, rfl, rfl, rfl, rfl, rfl, rfl, rfl, rfl, rfl, rfl, rfl, rfl, trivial⟩⟩
  ·rintro a w ⟨au, aD, m, f⟩
   have h0_0 := rd2 aD h0_0
   have h1 := rd1 aD h1
   have al := od1 aD al
   refine l_nil ?_
   rcases cond_some hd with ⟨aE, hd⟩ | ⟨aE, hd⟩
   ·refine k_true f rfl aE ?_
    refine k_seq (k_region ?_)
    refine l_as f rfl rfl fun a f => l_nil ?_
    refine k_ret ?_
    have m : Mem W au w H := Mem.drop (H' := [ak, Itm.box ab 41 [(.int .i64 x2_0), (.int .i64 x2_1), (.int .i64 x2_2)], Itm.box aa 29 [v0_0]]) m
    obtain rfl := sj hd
    exact ⟨[(.bool false)], ⟨f.get _ _ rfl, trivial⟩, f.defers, _, [], (GLe.trans ah aD), m, rfl, rfl⟩
   ·refine k_false f rfl aE ?_
    refine k_skip ?_
    refine k_seq ?_
    refine k_draw 10 Follows (by kernel_rfl) m ?_
    refine q_fieldAddr (i := 0) 10 Tryd.underlying29 rfl Tryd.sizeOf27 (by decide) rfl (by kernel_rfl) rfl f rfl rfl rfl fun a f => q_boxCell (i := 1) 10 2 Pl27 rfl rfl rfl (by kernel_rfl) rfl f rfl rfl rfl fun a f => q_fieldAddr (i := 2) 10 Tryd.underlying41 rfl Tryd.sizeOf2 (by decide) rfl (by kernel_rfl) rfl f rfl rfl rfl fun a f => q_boxCell (i := 3) 10 1 Pl2 rfl rfl rfl (by kernel_rfl) rfl f rfl rfl rfl fun a f => ?_
    obtain ⟨aF, aG, hd⟩ := bind_some hd
    refine q_at (i := 4) 10 T27 h0_0 aG rfl (by kernel_rfl) rfl f rfl rfl rfl rfl fun aH aI a aJ aK f => q_loadAt (i := 5) 10 Pl32 aJ rfl (by kernel_rfl) rfl f rfl rfl rfl fun a f => q_fieldAddr (i := 6) 10 Tryd.underlying41 rfl Tryd.sizeOf2 (by decide) rfl (by kernel_rfl) rfl f rfl rfl rfl fun a f => q_boxCell (i := 7) 10 1 Pl2 rfl rfl rfl (by kernel_rfl) rfl f rfl rfl rfl fun a f => ?_
    obtain ⟨aL, aM, hd⟩ := bind_some hd
    refine q_call (i := 8) 10 rfl (by kernel_rfl) rfl f rfl rfl rfl Tryd.call32 (fun _ _ w aN m => Wk.e m (rd1 aN aK) aM) fun a f => q_p 9 10 rfl (by kernel_rfl) f rfl rfl rfl (fun _ => r_assign (f.eval rfl)) fun a f => q_end fun aO w aP m => ?_
    have h0_0 := rd2 aP h0_0
    have h1 := rd1 aP h1
    have aJ := At.mono aP aJ
    have aK := rd1 aP aK
    have al := od1 aP al
    refine l_nil (k_seq (k_seq (k_region ?_)))
    refine l_fieldAddr Tryd.underlying41 rfl Tryd.sizeOf2 (by decide) f rfl rfl fun a f => l_boxCell 1 2 m Pl2 f rfl rfl rfl rfl fun a f => l_nil (k_block (k_seq (k_region ?_)))
    refine l_in f rfl rfl rfl b_eql fun a f => l_as f rfl rfl fun a f => l_nil ?_
    rcases cond_some hd with ⟨aQ, hd⟩ | ⟨aQ, hd⟩
    ·refine k_true f rfl aQ ?_
     refine k_seq (k_region ?_)
     refine l_mv f rfl rfl fun a f => l_mv f rfl rfl fun a f => ?_
     refine l_cut 4 (fun a w => ∃ aR, GLe aO aR ∧ Mem W aR w (ak :: Itm.box ab 41 [(.int .i64 x2_0), (.int .i64 x2_1), (.int .i64 x2_2)] :: Itm.box aa 29 [v0_0] :: H) ∧ Fr a 87 [(0, (.agg #[v0_0])), (1, v1), (2, (.agg #[(.int .i64 x2_0), (.int .i64 x2_1), (.int .i64 x2_2)])), (3, (.pointer (some ⟨aa, 0, none⟩))), (5, (.pointer (some ⟨ab, 0, none⟩))), (7, aj), (8, (.bool aL)), (49, (.int .i64 x2_2)), (50, (.bool (x2_2 == 2))), (52, (.bool aL)), (53, (.bool aL)), (57, (.bool (aL && ((ac.length : Int) == 0))))]) ?_ ?_
     ·rcases Bool.eq_false_or_eq_true aL with aS | aS
      ·refine l_run f rfl rfl aS ?_
       refine l_mv f rfl rfl fun a f => l_run f rfl rfl aS ?_
       refine l_own_len 0 m al rfl Tryd.underlying32 f rfl rfl fun a f => l_run f rfl rfl aS ?_
       refine l_in f rfl rfl rfl b_eql fun a f => l_op f rfl rfl rfl (r_pickT (f.eval rfl) aS (f.eval rfl)) fun a f => ?_
       exact ⟨_, (GLe.refl _), m, f.weak ⟨rfl, rfl, rfl, rfl, rfl, rfl, rfl, rfl, rfl, rfl, rfl, by rw [aS]; rfl, trivial⟩⟩
      ·refine l_not' f rfl rfl rfl aS fun a f => ?_
       refine l_not' f rfl rfl rfl aS fun a f => l_not' f rfl rfl rfl aS fun a f => l_op f rfl rfl rfl (r_pickF (f.eval rfl) aS (f.eval rfl)) fun a f => ?_
       exact ⟨_, (GLe.refl _), m, f.weak ⟨rfl, rfl, rfl, rfl, rfl, rfl, rfl, rfl, rfl, rfl, rfl, by rw [aS]; rfl, trivial⟩⟩
     ·rintro a w ⟨aR, aT, m, f⟩
      have h0_0 := rd2 aT h0_0
      have h1 := rd1 aT h1
      have al := od1 aT al
      refine l_as f rfl rfl fun a f => l_nil ?_
      refine k_ret ?_
      have m : Mem W aR w H := Mem.drop (H' := [ak, Itm.box ab 41 [(.int .i64 x2_0), (.int .i64 x2_1), (.int .i64 x2_2)], Itm.box aa 29 [v0_0]]) m
      obtain rfl := sj hd
      exact ⟨[(.bool (aL && ((ac.length : Int) == 0)))], ⟨f.get _ _ rfl, trivial⟩, f.defers, _, [], (GLe.trans ah (GLe.trans aD (GLe.trans aP aT))), m, rfl, rfl⟩
    ·refine k_false f rfl aQ ?_
     refine k_seq (k_region ?_)
     refine l_in f rfl rfl rfl b_eql fun a f => l_as f rfl rfl fun a f => l_nil ?_
     rcases cond_some hd with ⟨aU, hd⟩ | ⟨aU, hd⟩
     ·refine k_true f rfl aU ?_
      refine k_seq (k_region ?_)
      refine l_mv f rfl rfl fun a f => l_op f rfl rfl rfl (r_not (f.eval rfl)) fun a f => l_mv f rfl rfl fun a f => ?_
      obtain ⟨aV, aW, hd⟩ := bind_some hd
      refine l_cut 10 (fun a w => ∃ aX, GLe aO aX ∧ Mem W aX w (ak :: Itm.box ab 41 [(.int .i64 x2_0), (.int .i64 x2_1), (.int .i64 x2_2)] :: Itm.box aa 29 [v0_0] :: H) ∧ Fr a 87 [(0, (.agg #[v0_0])), (1, v1), (2, (.agg #[(.int .i64 x2_0), (.int .i64 x2_1), (.int .i64 x2_2)])), (3, (.pointer (some ⟨aa, 0, none⟩))), (5, (.pointer (some ⟨ab, 0, none⟩))), (7, aj), (8, (.bool aL)), (49, (.int .i64 x2_2)), (58, (.bool (x2_2 == 3))), (60, (.bool aL)), (61, (.bool (!aL))), (62, (.bool (!aL))), (72, (.bool aV))]) ?_ ?_
      ·rcases cond_some aW with ⟨aY, aW⟩ | ⟨aY, aW⟩
       ·refine l_run f rfl rfl aY ?_
        refine l_mv f rfl rfl fun a f => l_run f rfl rfl aY ?_
        refine l_boxAgg 2 0 (ds := [v0_0]) m Ag29 f rfl rfl rfl rfl rfl fun a f => l_run f rfl rfl aY ?_
        refine l_mv f rfl rfl fun a f => l_run f rfl rfl aY ?_
        refine l_fieldAddr Tryd.underlying41 rfl Tryd.sizeOf2 (by decide) f rfl rfl fun a f => l_run f rfl rfl aY ?_
        refine l_boxCell 1 1 m Pl2 f rfl rfl rfl rfl fun a f => l_run f rfl rfl aY ?_
        refine l_fieldAddr Tryd.underlying41 rfl Tryd.sizeOf2 (by decide) f rfl rfl fun a f => l_run f rfl rfl aY ?_
        refine l_boxCell 1 0 m Pl2 f rfl rfl rfl rfl fun a f => l_run f rfl rfl aY ?_
        obtain ⟨aZ, a0, aW⟩ := bind_some aW
        refine l_res f rfl rfl Tryd.call71 (Wk.u m h0_0 h1 a0) fun a1 a2 a3 w a4 m a5 a f => ?_
        obtain ⟨a6, a7, rfl, rfl, a8⟩ := a5
        have h0_0 := rd2 a4 h0_0
        have h1 := rd1 a4 h1
        have al := od1 a4 al
        refine l_run f rfl rfl aY ?_
        obtain ⟨a9, ba, aW⟩ := bind_some aW
        refine l_res f rfl rfl Tryd.call72 (Ow.lendCall (RI.mono _) 1 al m rfl (fun bb bc m bd => (Ow.lendCall (RI.mono _) 0 (od1 bc a8) m rfl (fun be bf m bg => Wk.f m (rd1 bf bd) bg ba) (fun _ _ _ _ h => h))) (fun _ _ _ _ h => h)) fun bh bi bj w bk m bl a f => ?_
        obtain ⟨rfl, rfl⟩ := bl
        have h0_0 := rd2 bk h0_0
        have h1 := rd1 bk h1
        have a8 := od1 bk a8
        have al := od1 bk al
        refine l_op f rfl rfl rfl (r_pickT (f.eval rfl) aY (f.eval rfl)) fun a f => ?_
        obtain rfl := sj aW
        have m := m.front 3 rfl
        have m := m.front 3 rfl
        have m : Mem W bi w (ak :: Itm.box ab 41 [(.int .i64 x2_0), (.int .i64 x2_1), (.int .i64 x2_2)] :: Itm.box aa 29 [v0_0] :: a7 :: H) := m.front 3 rfl
        have m : Mem W bi w (ak :: Itm.box ab 41 [(.int .i64 x2_0), (.int .i64 x2_1), (.int .i64 x2_2)] :: Itm.box aa 29 [v0_0] :: H) := m.eraseAt 3
        exact ⟨_, (GLe.trans a4 bk), m, f.weak ⟨rfl, rfl, rfl, rfl, rfl, rfl, rfl, rfl, rfl, rfl, rfl, rfl, rfl, trivial⟩⟩
       ·refine l_not' f rfl rfl rfl aY fun a f => ?_
        refine l_not' f rfl rfl rfl aY fun a f => l_not' f rfl rfl rfl aY fun a f => l_not' f rfl rfl rfl aY fun a f => l_not' f rfl rfl rfl aY fun a f => l_not' f rfl rfl rfl aY fun a f => l_not' f rfl rfl rfl aY fun a f => l_not' f rfl rfl rfl aY fun a f => l_not' f rfl rfl rfl aY fun a f => l_op f rfl rfl rfl (r_pickF (f.eval rfl) aY (f.eval rfl)) fun a f => ?_
        obtain rfl := sj aW
        exact ⟨_, (GLe.refl _), m, f.weak ⟨rfl, rfl, rfl, rfl, rfl, rfl, rfl, rfl, rfl, rfl, rfl, rfl, rfl, trivial⟩⟩
      ·rintro a w ⟨aX, bm, m, f⟩
       have h0_0 := rd2 bm h0_0
       have h1 := rd1 bm h1
       have al := od1 bm al
       refine l_as f rfl rfl fun a f => l_nil ?_
       refine k_ret ?_
       have m : Mem W aX w H := Mem.drop (H' := [ak, Itm.box ab 41 [(.int .i64 x2_0), (.int .i64 x2_1), (.int .i64 x2_2)], Itm.box aa 29 [v0_0]]) m
       obtain rfl := sj hd
       exact ⟨[(.bool aV)], ⟨f.get _ _ rfl, trivial⟩, f.defers, _, [], (GLe.trans ah (GLe.trans aD (GLe.trans aP bm))), m, rfl, rfl⟩
     ·refine k_false f rfl aU ?_
      refine k_seq (k_region ?_)
      refine l_in f rfl rfl rfl b_eql fun a f => l_as f rfl rfl fun a f => l_nil ?_
      rcases cond_some hd with ⟨bn, hd⟩ | ⟨bn, hd⟩
      ·refine k_true f rfl bn ?_
       refine k_seq (k_region ?_)
       refine l_mv f rfl rfl fun a f => l_mv f rfl rfl fun a f => ?_
       obtain ⟨bo, bp, hd⟩ := bind_some hd
       refine l_cut 10 (fun a w => ∃ bq, GLe aO bq ∧ Mem W bq w (ak :: Itm.box ab 41 [(.int .i64 x2_0), (.int .i64 x2_1), (.int .i64 x2_2)] :: Itm.box aa 29 [v0_0] :: H) ∧ Fr a 87 [(0, (.agg #[v0_0])), (1, v1), (2, (.agg #[(.int .i64 x2_0), (.int .i64 x2_1), (.int .i64 x2_2)])), (3, (.pointer (some ⟨aa, 0, none⟩))), (5, (.pointer (some ⟨ab, 0, none⟩))), (7, aj), (8, (.bool aL)), (73, (.bool (x2_2 == 4))), (75, (.bool aL)), (76, (.bool aL)), (86, (.bool bo))]) ?_ ?_
       ·rcases cond_some bp with ⟨br, bp⟩ | ⟨br, bp⟩
        ·refine l_run f rfl rfl br ?_
         refine l_mv f rfl rfl fun a f => l_run f rfl rfl br ?_
         refine l_boxAgg 2 0 (ds := [v0_0]) m Ag29 f rfl rfl rfl rfl rfl fun a f => l_run f rfl rfl br ?_
         refine l_mv f rfl rfl fun a f => l_run f rfl rfl br ?_
         refine l_fieldAddr Tryd.underlying41 rfl Tryd.sizeOf2 (by decide) f rfl rfl fun a f => l_run f rfl rfl br ?_
         refine l_boxCell 1 1 m Pl2 f rfl rfl rfl rfl fun a f => l_run f rfl rfl br ?_
         refine l_fieldAddr Tryd.underlying41 rfl Tryd.sizeOf2 (by decide) f rfl rfl fun a f => l_run f rfl rfl br ?_
         refine l_boxCell 1 0 m Pl2 f rfl rfl rfl rfl fun a f => l_run f rfl rfl br ?_
         obtain ⟨bs, bt, bp⟩ := bind_some bp
         refine l_res f rfl rfl Tryd.call71 (Wk.u m h0_0 h1 bt) fun bu bv bw w bx m bz a f => ?_
         obtain ⟨bA, bB, rfl, rfl, bC⟩ := bz
         have h0_0 := rd2 bx h0_0
         have h1 := rd1 bx h1
         have al := od1 bx al
         refine l_run f rfl rfl br ?_
         obtain ⟨bD, bE, bp⟩ := bind_some bp
         refine l_res f rfl rfl Tryd.call72 (Ow.lendCall (RI.mono _) 1 al m rfl (fun bF bG m bH => (Ow.lendCall (RI.mono _) 0 (od1 bG bC) m rfl (fun bI bJ m bK => Wk.f m (rd1 bJ bH) bK bE) (fun _ _ _ _ h => h))) (fun _ _ _ _ h => h)) fun bL bM bN w bO m bP a f => ?_
         obtain ⟨rfl, rfl⟩ := bP
         have h0_0 := rd2 bO h0_0
         have h1 := rd1 bO h1
         have bC := od1 bO bC
         have al := od1 bO al
         refine l_op f rfl rfl rfl (r_pickT (f.eval rfl) br (f.eval rfl)) fun a f => ?_
         obtain rfl := sj bp
         have m := m.front 3 rfl
         have m := m.front 3 rfl
         have m : Mem W bM w (ak :: Itm.box ab 41 [(.int .i64 x2_0), (.int .i64 x2_1), (.int .i64 x2_2)] :: Itm.box aa 29 [v0_0] :: bB :: H) := m.front 3 rfl
         have m : Mem W bM w (ak :: Itm.box ab 41 [(.int .i64 x2_0), (.int .i64 x2_1), (.int .i64 x2_2)] :: Itm.box aa 29 [v0_0] :: H) := m.eraseAt 3
         exact ⟨_, (GLe.trans bx bO), m, f.weak ⟨rfl, rfl, rfl, rfl, rfl, rfl, rfl, rfl, rfl, rfl, rfl, trivial⟩⟩
        ·refine l_not' f rfl rfl rfl br fun a f => ?_
         refine l_not' f rfl rfl rfl br fun a f => l_not' f rfl rfl rfl br fun a f => l_not' f rfl rfl rfl br fun a f => l_not' f rfl rfl rfl br fun a f => l_not' f rfl rfl rfl br fun a f => l_not' f rfl rfl rfl br fun a f => l_not' f rfl rfl rfl br fun a f => l_not' f rfl rfl rfl br fun a f => l_op f rfl rfl rfl (r_pickF (f.eval rfl) br (f.eval rfl)) fun a f => ?_
         obtain rfl := sj bp
         exact ⟨_, (GLe.refl _), m, f.weak ⟨rfl, rfl, rfl, rfl, rfl, rfl, rfl, rfl, rfl, rfl, rfl, trivial⟩⟩
       ·rintro a w ⟨bq, bQ, m, f⟩
        have h0_0 := rd2 bQ h0_0
        have h1 := rd1 bQ h1
        have al := od1 bQ al
        refine l_as f rfl rfl fun a f => l_nil ?_
        refine k_ret ?_
        have m : Mem W bq w H := Mem.drop (H' := [ak, Itm.box ab 41 [(.int .i64 x2_0), (.int .i64 x2_1), (.int .i64 x2_2)], Itm.box aa 29 [v0_0]]) m
        obtain rfl := sj hd
        exact ⟨[(.bool bo)], ⟨f.get _ _ rfl, trivial⟩, f.defers, _, [], (GLe.trans ah (GLe.trans aD (GLe.trans aP bQ))), m, rfl, rfl⟩
      ·refine k_false f rfl bn ?_
       refine k_skip ?_
       refine k_seq (k_region ?_)
       refine l_as f rfl rfl fun a f => l_nil ?_
       refine k_ret ?_
       have m : Mem W aO w H := Mem.drop (H' := [ak, Itm.box ab 41 [(.int .i64 x2_0), (.int .i64 x2_1), (.int .i64 x2_2)], Itm.box aa 29 [v0_0]]) m
       obtain rfl := sj hd
       exact ⟨[(.bool false)], ⟨f.get _ _ rfl, trivial⟩, f.defers, _, [], (GLe.trans ah (GLe.trans aD aP)), m, rfl, rfl⟩

theorem Wk.O {W w : World} {G : GH} {H : List Itm} {v0 : Value} {x0 : (List Int)} {x1 : Int} (m : Mem W G w (H)) (h0 : RSl (RI .i64) G v0 x0) {y : ((List Int))} (hd : D.O x0 x1 = some y) :
  Calls Tryd.prog 34 #[v0, (.int .i64 x1)] w (Res W G H (fun G' Ho v => ∃ r0 : Value, ∃ i0 : Itm, Ho = [i0] ∧ r0 = v ∧ Ow (RI .i64) 2 G' i0 r0 y)) := by
 refine calls_b (args := [v0, (.int .i64 x1)]) (N := 28) [.tmp 4] Tryd.func34 rfl rfl (Nat.le_of_ble_eq_true rfl) rfl fun a f => ?_
 unfold D.O at hd
 refine k_seq (k_region ?_)
 refine l_as f rfl rfl fun a f => l_nil (k_seq (k_region ?_))
 refine l_slit (R := (RI .i64)) (xs := ([] : List Int)) (RI.one _) m T32 f rfl rfl rfl (by decide) (All2.nil _) fun aa ab w a m ac f => l_as f rfl rfl fun a f => l_nil (k_seq (k_seq (k_region ?_)))
 refine l_as f rfl rfl fun a f => l_nil ?_
 obtain ⟨ad, ae, hd⟩ := bind_some hd
 refine k_cut (fun a w => ∃ af : List Int, af = ad ∧ ∃ (ag : GH) (ah : Value) (ai : Itm), GLe G ag ∧ Fr a 28 [(5, ah)] ∧ Mem W ag w (ai :: H) ∧ Ow (RI .i64) 2 ag ai ah af) ?_ ?_
 ·refine k_block ?_
  refine k_loop (fun aj a w => ∃ ak : List Int, ∃ al : Int, (ak, al) = aj ∧ ∃ (am : GH) (an : Value) (ao : Itm), GLe G am ∧ Fr a 28 [(0, v0), (1, (.int .i64 x1)), (5, an), (6, (.int .i64 al))] ∧ Mem W am w (ao :: H) ∧ Ow (RI .i64) 2 am ao an ak) ae ⟨_, _, rfl, _, ab, aa, (GLe.refl _), f.weak ⟨rfl, rfl, rfl, rfl, trivial⟩, m, ac⟩ ?_
  clear ae f m
  rintro aj ap aq ar a w ⟨ak, al, rfl, am, an, ao, au, f, m, av⟩
  have h0 := rd1 au h0
  refine k_seq (k_seq (k_region ?_))
  refine l_mv f rfl rfl fun a f => l_mv f rfl rfl fun a f => l_len Tryd.underlying32 f rfl rfl h0 fun a f => l_in f rfl rfl rfl b_lss fun a f => l_nil ?_
  rcases cond_some aq with ⟨aw, aq⟩ | ⟨aw, aq⟩
  ·refine k_true f rfl aw ?_
   refine k_skip ?_
   refine k_seq (k_block (k_seq (k_region ?_)))
   refine l_mv f rfl rfl fun a f => l_mv f rfl rfl fun a f => ?_
   obtain ⟨ax, ay, aq⟩ := bind_some aq
   refine l_at T32 f rfl rfl rfl h0 ay fun az aA a aB aC f => ?_
   subst aC
   refine l_loadAt m Pl2 f rfl rfl aB fun a f => l_mv f rfl rfl fun a f => l_in f rfl rfl rfl b_neq fun a f => l_nil ?_
   rcases cond_some aq with ⟨aD, aq⟩ | ⟨aD, aq⟩
   ·refine k_true f rfl aD ?_
    refine k_region ?_
    refine l_mv f rfl rfl fun a f => l_mv f rfl rfl fun a f => l_mv f rfl rfl fun a f => ?_
    obtain ⟨aE, aF, aq⟩ := bind_some aq
    refine l_at T32 f rfl rfl rfl h0 aF fun aG aH a aI aJ f => ?_
    subst aJ
    refine l_loadAt m Pl2 f rfl rfl aI fun a f => l_slit (R := (RI .i64)) (xs := ([aE] : List Int)) (RI.one _) m T32 f rfl rfl rfl (by decide) (All2.cons rfl (All2.nil _)) fun aK aL w a m aM f => ?_
    obtain ⟨aN, aO, aq⟩ := bind_some aq
    refine l_append (RI.one _) 1 m av rfl T32 rfl (by decide) f rfl rfl rfl (Ow.src (j := 0) aM m rfl) aO fun aP aQ w a m aR f => l_as f rfl rfl fun a f => l_nil (k_region ?_)
    refine l_mv f rfl rfl fun a f => l_in f rfl rfl rfl b_add fun a f => l_as f rfl rfl fun a f => l_nil ?_
    have m := m.front 1 rfl
    have m := m.eraseAt 1
    obtain rfl := sj aq
    exact ⟨_, rfl, _, _, rfl, _, aQ, aP, au, f.weak ⟨rfl, rfl, rfl, rfl, trivial⟩, m, aR⟩
   ·refine k_false f rfl aD ?_
    refine k_skip ?_
    refine k_region ?_
    refine l_mv f rfl rfl fun a f => l_in f rfl rfl rfl b_add fun a f => l_as f rfl rfl fun a f => l_nil ?_
    obtain rfl := sj aq
    exact ⟨_, rfl, _, _, rfl, _, an, ao, au, f.weak ⟨rfl, rfl, rfl, rfl, trivial⟩, m, av⟩
  ·refine k_false f rfl aw ?_
   refine k_exit rfl ?_
   obtain rfl := sj aq
   obtain rfl := ar _ rfl
   exact ⟨_, rfl, _, an, ao, au, f.weak ⟨rfl, trivial⟩, m, av⟩
 ·rintro a w ⟨af, rfl, ag, ah, ai, aS, f, m, aT⟩
  refine k_seq (k_region ?_)
  refine l_mv f rfl rfl fun a f => l_as f rfl rfl fun a f => l_nil ?_
  refine k_ret ?_
  obtain rfl := sj hd
  exact ⟨[ah], ⟨f.get _ _ rfl, trivial⟩, f.defers, _, [ai], aS, m, _, _, rfl, rfl, aT⟩

theorem Wk.P {W w : World} {G : GH} {H : List Itm} {v0_0 : Value} {v1 : Value} {x0_0 : (List (List Int))} {x1 : (List (Int × Int × Int))} (m : Mem W G w (H)) (h0_0 : RSl (RSl (RI .i64)) G v0_0 x0_0) (h1 : RSr P3 G v1 x1) {y : Bool} (hd : D.P x0_0 x1 = some y) :
  Calls Tryd.prog 10 #[(.agg #[v0_0]), v1] w (Res W G H (fun _ Ho v => Ho = [] ∧ v = (.bool y))) := by
 refine calls_b (args := [(.agg #[v0_0]), v1]) (N := 48) [.tmp 4] Tryd.func10 rfl rfl (Nat.le_of_ble_eq_true rfl) rfl fun a f => ?_
 unfold D.P at hd
 refine k_seq (k_region ?_)
 refine l_box (cs := [v0_0]) m f rfl rfl rfl fun aa w a m f => l_as f rfl rfl fun a f => l_nil (k_seq (k_seq (k_region ?_)))
 refine l_boxAgg 0 0 (ds := [v0_0]) m Ag29 f rfl rfl rfl rfl rfl fun a f => ?_
 obtain ⟨ab, ac, hd⟩ := bind_some hd
 refine l_res f rfl rfl Tryd.call30 (Wk.m m h0_0 ac) fun ad ae af w ag m ah a f => ?_
 obtain ⟨rfl, rfl⟩ := ah
 have h0_0 := rd2 ag h0_0
 have h1 := RSr.mono trivial _ _ _ _ ag h1
 refine l_op f rfl rfl rfl (r_not (f.eval rfl)) fun a f => l_mv f rfl rfl fun a f => ?_
 refine l_cut 4 (fun a w => ∃ ai, GLe ae ai ∧ Mem W ai w (Itm.box aa 29 [v0_0] :: H) ∧ Fr a 48 [(0, (.agg #[v0_0])), (1, v1), (2, (.pointer (some ⟨aa, 0, none⟩))), (7, (.agg #[v0_0])), (8, (.bool ab)), (9, (.bool (!ab))), (10, (.bool (!ab))), (14, (.bool ((!ab) || (decide ((16 : Int) < (x1.length : Int))))))]) ?_ ?_
 ·rcases Bool.eq_false_or_eq_true (!ab) with aj | aj
  ·refine l_not' f rfl rfl rfl aj fun a f => ?_
   refine l_not' f rfl rfl rfl aj fun a f => l_not' f rfl rfl rfl aj fun a f => l_op f rfl rfl rfl (r_pickT (f.eval rfl) aj (f.eval rfl)) fun a f => ?_
   exact ⟨_, (GLe.refl _), m, f.weak ⟨rfl, rfl, rfl, rfl, rfl, rfl, rfl, by rw [aj]; rfl, trivial⟩⟩
  ·refine l_run f rfl rfl aj ?_
   refine l_mv f rfl rfl fun a f => l_run f rfl rfl aj ?_
   refine l_lenR Tryd.underlying31 f rfl rfl h1 fun a f => l_run f rfl rfl aj ?_
   refine l_in f rfl rfl rfl b_gtr fun a f => l_op f rfl rfl rfl (r_pickF (f.eval rfl) aj (f.eval rfl)) fun a f => ?_
   exact ⟨_, (GLe.refl _), m, f.weak ⟨rfl, rfl, rfl, rfl, rfl, rfl, rfl, by rw [aj]; rfl, trivial⟩⟩
 ·rintro a w ⟨ai, ak, m, f⟩
  have h0_0 := rd2 ak h0_0
  have h1 := RSr.mono trivial _ _ _ _ ak h1
  refine l_nil ?_
  rcases cond_some hd with ⟨al, hd⟩ | ⟨al, hd⟩
  ·refine k_true f rfl al ?_
   refine k_seq (k_region ?_)
   refine l_as f rfl rfl fun a f => l_nil ?_
   refine k_ret ?_
   have m : Mem W ai w H := Mem.drop (H' := [Itm.box aa 29 [v0_0]]) m
   obtain rfl := sj hd
   exact ⟨[(.bool false)], ⟨f.get _ _ rfl, trivial⟩, f.defers, _, [], (GLe.trans ag ak), m, rfl, rfl⟩
  ·refine k_false f rfl al ?_
   refine k_skip ?_
   refine k_seq (k_region ?_)
   refine l_boxAgg 0 0 (ds := [v0_0]) m Ag29 f rfl rfl rfl rfl rfl fun a f => ?_
   obtain ⟨am, an, hd⟩ := bind_some hd
   refine l_res f rfl rfl Tryd.call31 (Wk.b0 m h0_0 an) fun ao ap aq w ar m au a f => ?_
   obtain ⟨av, aw, rfl, rfl, ax⟩ := au
   have h0_0 := rd2 ar h0_0
   have h1 := RSr.mono trivial _ _ _ _ ar h1
   refine l_as f rfl rfl fun a f => l_nil (k_seq (k_seq (k_region ?_)))
   refine l_as f rfl rfl fun a f => l_nil ?_
   obtain ⟨ay, az, hd⟩ := bind_some hd
   refine k_cut (fun a w => ∃ q_152' : Unit, ay = .inl q_152' ∧ ∃ (aA : GH), GLe ap aA ∧ Fr a 48 [] ∧ Mem W aA w (H)) ?_ ?_
   ·refine k_block ?_
    have m := m.front 1 rfl
    refine k_loop (fun aB a w => ∃ aC : List Int, ∃ aD : Int, (aC, aD) = aB ∧ ∃ (aE : GH) (aF : Value) (aG : Itm), GLe ap aE ∧ Fr a 48 [(1, v1), (2, (.pointer (some ⟨aa, 0, none⟩))), (5, aF), (6, (.int .i64 aD))] ∧ Mem W aE w (Itm.box aa 29 [v0_0] :: aG :: H) ∧ Ow (RI .i64) 2 aE aG aF aC) az ⟨_, _, rfl, _, av, aw, (GLe.refl _), f.weak ⟨rfl, rfl, rfl, rfl, trivial⟩, m, ax⟩ ?_
    clear az f m
    rintro aB aH aI aJ a w ⟨aC, aD, rfl, aE, aF, aG, aK, f, m, aL⟩
    have h1 := RSr.mono trivial _ _ _ _ aK h1
    have h0_0 := rd2 aK h0_0
    refine k_seq (k_seq (k_region ?_))
    refine l_mv f rfl rfl fun a f => l_mv f rfl rfl fun a f => l_lenR Tryd.underlying31 f rfl rfl h1 fun a f => l_in f rfl rfl rfl b_lss fun a f => l_nil ?_
    rcases cond_some aI with ⟨aM, aI⟩ | ⟨aM, aI⟩
    ·refine k_true f rfl aM ?_
     refine k_skip ?_
     refine k_seq (k_block (k_seq (k_seq ?_)))
     refine k_draw 18 Follows (by kernel_rfl) m ?_
     refine q_mv 0 18 rfl (by kernel_rfl) f rfl rfl rfl fun a f => q_mv 1 18 rfl (by kernel_rfl) f rfl rfl rfl fun a f => q_mv 2 18 rfl (by kernel_rfl) f rfl rfl rfl fun a f => ?_
     obtain ⟨aN, aO, aI⟩ := bind_some aI
     refine q_atR (i := 3) (listed' := #[true, true, true, true, false, false, false, false, false, false, false, false, false, false, false, false, false, false]) (C := P3) 18 T31 h1 aO rfl (by kernel_rfl) rfl f rfl rfl rfl rfl fun aP a aQ f => q_fieldR (i := 4) (listed' := #[true, true, true, true, true, false, false, false, false, false, false, false, false, false, false, false, false, false]) (C := P3) (c := (.int .i64 aN.1)) 18 Tryd.underlying41 rfl Tryd.sizeOf2 (by decide) aQ rfl rfl (by kernel_rfl) rfl f rfl rfl rfl fun aR a aS f => q_loadAt (i := 5) 18 Pl2 aS rfl (by kernel_rfl) rfl f rfl rfl rfl fun a f => ?_
     obtain ⟨aT, aU, aI⟩ := bind_some aI
     refine q_call (i := 6) 18 rfl (by kernel_rfl) rfl f rfl rfl rfl Tryd.call32 (fun _ _ w aV m => (Ow.lendCallR (RI.mono _) 1 (od1 aV aL) m rfl (fun aW aX m aY => Wk.e m aY aU) (fun _ _ _ _ h => h))) fun a f => q_p 7 18 rfl (by kernel_rfl) f rfl rfl rfl (fun _ => r_not (f.eval rfl)) fun a f => q_mv 8 18 rfl (by kernel_rfl) f rfl rfl rfl fun a f => ?_
     obtain ⟨aZ, a2, aI⟩ := bind_some aI
     refine q_cut (fuel' := 0) (listed' := #[true, true, true, true, true, true, true, true, true, true, true, true, true, true, true, true, true, true]) (fun a => Fr a 48 [(1, v1), (2, (.pointer (some ⟨aa, 0, none⟩))), (5, aF), (6, (.int .i64 aD)), (20, (.bool (decide (aD < (x1.length : Int))))), (23, aF), (24, v1), (25, (.int .i64 aD)), (26, aP), (27, aR), (28, (.int .i64 aN.1)), (29, (.bool aT)), (30, (.bool (!aT))), (31, (.bool (!aT))), (40, (.bool aZ))]) ?_ ?_
     ·intro a f
      refine q_end fun a3 w a4 m => ?_
      have h1 := RSr.mono trivial _ _ _ _ a4 h1
      have aQ := AtR.mono a4 aQ
      have aS := At.mono a4 aS
      have h0_0 := rd2 a4 h0_0
      have aL := od1 a4 aL
      refine l_nil ?_
      rcases cond_some aI with ⟨a5, aI⟩ | ⟨a5, aI⟩
      ·refine k_true f rfl a5 ?_
       refine k_seq (k_region ?_)
       refine l_as f rfl rfl fun a f => l_nil ?_
       refine k_ret ?_
       have m : Mem W a3 w H := Mem.drop (H' := [Itm.box aa 29 [v0_0], aG]) m
       obtain rfl := sj aI
       obtain rfl := aJ _ rfl
       obtain rfl := sj hd
       exact ⟨[(.bool false)], ⟨f.get _ _ rfl, trivial⟩, f.defers, _, [], (GLe.trans ag (GLe.trans ak (GLe.trans ar (GLe.trans aK a4)))), m, rfl, rfl⟩
      ·refine k_false f rfl a5 ?_
       refine k_skip ?_
       refine k_region ?_
       refine l_mv f rfl rfl fun a f => l_mv f rfl rfl fun a f => l_mv f rfl rfl fun a f => ?_
       obtain ⟨a6, a7, aI⟩ := bind_some aI
       refine l_atR (E := P3) T31 f rfl rfl rfl h1 a7 fun a8 a a9 f => l_fieldR (E := P3) (c := (.int .i64 a6.1)) Tryd.underlying41 rfl Tryd.sizeOf2 (by decide) f rfl rfl a9 rfl fun ba a bb f => l_loadAt m Pl2 f rfl rfl bb fun a f => ?_
       obtain ⟨bc, bd, aI⟩ := bind_some aI
       refine l_res f rfl rfl Tryd.call34 (Ow.lendCall (RI.mono _) 1 aL m rfl (fun be bf m bg => Wk.O m bg bd) (fun _ G' _ _ ⟨a0, a1, e1, e2, o0⟩ => ⟨a0, a1, e1, e2, Ow.free (RI.free _) G' o0⟩)) fun bh bi bj w bk m bl a f => ?_
       obtain ⟨bm, bn, rfl, rfl, bo⟩ := bl
       have h1 := RSr.mono trivial _ _ _ _ bk h1
       have a9 := AtR.mono bk a9
       have bb := At.mono bk bb
       have h0_0 := rd2 bk h0_0
       have aL := od1 bk aL
       refine l_as f rfl rfl fun a f => l_nil (k_region ?_)
       refine l_mv f rfl rfl fun a f => l_in f rfl rfl rfl b_add fun a f => l_as f rfl rfl fun a f => l_nil ?_
       have m := m.front 1 rfl
       have m := m.eraseAt 2
       obtain rfl := sj aI
       exact ⟨_, rfl, _, _, rfl, _, bm, bn, (GLe.trans aK (GLe.trans a4 bk)), f.weak ⟨rfl, rfl, rfl, rfl, trivial⟩, m, bo⟩
     ·intro bp
      rcases cond_some a2 with ⟨bq, a2⟩ | ⟨bq, a2⟩
      ·refine q_ng 9 18 rfl (by kernel_rfl) f rfl rfl bq rfl fun a f => ?_
       refine q_ng 10 18 rfl (by kernel_rfl) f rfl rfl bq rfl fun a f => q_ng 11 18 rfl (by kernel_rfl) f rfl rfl bq rfl fun a f => q_ng 12 18 rfl (by kernel_rfl) f rfl rfl bq rfl fun a f => q_ng 13 18 rfl (by kernel_rfl) f rfl rfl bq rfl fun a f => q_ng 14 18 rfl (by kernel_rfl) f rfl rfl bq rfl fun a f => q_ng 15 18 rfl (by kernel_rfl) f rfl rfl bq rfl fun a f => q_ng 16 18 rfl (by kernel_rfl) f rfl rfl bq rfl fun a f => q_p 17 18 rfl (by kernel_rfl) f rfl rfl rfl (fun _ => r_pickT (f.eval rfl) bq (f.eval rfl)) fun a f => ?_
       obtain rfl := sj a2
       exact bp _ (f.weak ⟨rfl, rfl, rfl, rfl, rfl, rfl, rfl, rfl, rfl, rfl, rfl, rfl, rfl, rfl, rfl, trivial⟩)
      ·refine q_boxAgg (i := 9) (ds := [v0_0]) 18 0 Ag29 rfl rfl rfl rfl (by kernel_rfl) rfl f (wanted_of f rfl rfl rfl bq) rfl rfl fun a f => ?_
       refine q_mv 10 18 rfl (by kernel_rfl) f (wanted_of f rfl rfl rfl bq) rfl rfl fun a f => q_mv 11 18 rfl (by kernel_rfl) f (wanted_of f rfl rfl rfl bq) rfl rfl fun a f => q_mv 12 18 rfl (by kernel_rfl) f (wanted_of f rfl rfl rfl bq) rfl rfl fun a f => ?_
       obtain ⟨br, bs, a2⟩ := bind_some a2
       refine q_atR (i := 13) (listed' := #[true, true, true, true, true, true, true, true, true, true, true, true, true, true, false, false, false, false]) (C := P3) 18 T31 h1 bs rfl (by kernel_rfl) rfl f (wanted_of f rfl rfl rfl bq) rfl rfl rfl fun bt a bu f => q_loadR (i := 14) (listed' := #[true, true, true, true, true, true, true, true, true, true, true, true, true, true, true, false, false, false]) (C := P3) [(.int .i64 br.1), (.int .i64 br.2.1), (.int .i64 br.2.2)] 18 Ag41 bu rfl rfl (by kernel_rfl) rfl f (wanted_of f rfl rfl rfl bq) rfl rfl fun a f => ?_
       obtain ⟨bv, bw, a2⟩ := bind_some a2
       refine q_call (i := 15) 18 rfl (by kernel_rfl) rfl f (wanted_of f rfl rfl rfl bq) rfl rfl Tryd.call33 (fun _ _ w bx m => (Ow.lendCallR (RI.mono _) 1 (od1 bx aL) m rfl (fun bz bA m bB => Wk.T m (rd2 bA (rd2 bx h0_0)) bB bw) (fun _ _ _ _ h => h))) fun a f => q_p 16 18 rfl (by kernel_rfl) f (wanted_of f rfl rfl rfl bq) rfl rfl (fun _ => r_not (f.eval rfl)) fun a f => q_p 17 18 rfl (by kernel_rfl) f rfl rfl rfl (fun _ => r_pickF (f.eval rfl) bq (f.eval rfl)) fun a f => ?_
       obtain rfl := sj a2
       exact bp _ (f.weak ⟨rfl, rfl, rfl, rfl, rfl, rfl, rfl, rfl, rfl, rfl, rfl, rfl, rfl, rfl, rfl, trivial⟩)
    ·refine k_false f rfl aM ?_
     refine k_exit rfl ?_
     have m : Mem W aE w H := Mem.drop (H' := [Itm.box aa 29 [v0_0], aG]) m
     obtain rfl := sj aI
     obtain rfl := aJ _ rfl
     exact ⟨_, rfl, _, aK, f.weak trivial, m⟩
   ·rintro a w ⟨_, rfl, aA, bC, f, m⟩
    refine k_seq (k_region ?_)
    refine l_as f rfl rfl fun a f => l_nil ?_
    refine k_ret ?_
    obtain rfl := sj hd
    exact ⟨[(.bool true)], ⟨f.get _ _ rfl, trivial⟩, f.defers, _, [], (GLe.trans ag (GLe.trans ak (GLe.trans ar bC))), m, rfl, rfl⟩

theorem Wk.z {W w : World} {G : GH} {H : List Itm} {v0_0 : Value} {v1 : Value} {x0_0 : (List (List Int))} {x1 : (List (Int × Int × Int))} (m : Mem W G w (H)) (h0_0 : RSl (RSl (RI .i64)) G v0_0 x0_0) (h1 : RSr P3 G v1 x1) {y : Bool} (hd : D.z x0_0 x1 = some y) :
  Calls Tryd.prog 11 #[(.agg #[v0_0]), v1] w (Res W G H (fun _ Ho v => Ho = [] ∧ v = (.bool y))) := by
 refine calls_b (args := [(.agg #[v0_0]), v1]) (N := 59) [.tmp 4] Tryd.func11 rfl rfl (Nat.le_of_ble_eq_true rfl) rfl fun a f => ?_
 unfold D.z at hd
 refine k_seq (k_region ?_)
 refine l_box (cs := [v0_0]) m f rfl rfl rfl fun aa w a m f => l_as f rfl rfl fun a f => l_nil (k_seq (k_seq (k_region ?_)))
 refine l_boxAgg 0 0 (ds := [v0_0]) m Ag29 f rfl rfl rfl rfl rfl fun a f => ?_
 obtain ⟨ab, ac, hd⟩ := bind_some hd
 refine l_res f rfl rfl Tryd.call25 (Wk.l m h0_0 ac) fun ad ae af w ag m ah a f => ?_
 obtain ⟨rfl, rfl⟩ := ah
 have h0_0 := rd2 ag h0_0
 have h1 := RSr.mono trivial _ _ _ _ ag h1
 refine l_op f rfl rfl rfl (r_not (f.eval rfl)) fun a f => l_mv f rfl rfl fun a f => ?_
 refine l_cut 4 (fun a w => ∃ ai, GLe ae ai ∧ Mem W ai w (Itm.box aa 29 [v0_0] :: H) ∧ Fr a 59 [(0, (.agg #[v0_0])), (1, v1), (2, (.pointer (some ⟨aa, 0, none⟩))), (9, (.agg #[v0_0])), (10, (.bool ab)), (11, (.bool (!ab))), (12, (.bool (!ab))), (16, (.bool ((!ab) || (decide ((16 : Int) < (x1.length : Int))))))]) ?_ ?_
 ·rcases Bool.eq_false_or_eq_true (!ab) with aj | aj
  ·refine l_not' f rfl rfl rfl aj fun a f => ?_
   refine l_not' f rfl rfl rfl aj fun a f => l_not' f rfl rfl rfl aj fun a f => l_op f rfl rfl rfl (r_pickT (f.eval rfl) aj (f.eval rfl)) fun a f => ?_
   exact ⟨_, (GLe.refl _), m, f.weak ⟨rfl, rfl, rfl, rfl, rfl, rfl, rfl, by rw [aj]; rfl, trivial⟩⟩
  ·refine l_run f rfl rfl aj ?_
   refine l_mv f rfl rfl fun a f => l_run f rfl rfl aj ?_
   refine l_lenR Tryd.underlying31 f rfl rfl h1 fun a f => l_run f rfl rfl aj ?_
   refine l_in f rfl rfl rfl b_gtr fun a f => l_op f rfl rfl rfl (r_pickF (f.eval rfl) aj (f.eval rfl)) fun a f => ?_
   exact ⟨_, (GLe.refl _), m, f.weak ⟨rfl, rfl, rfl, rfl, rfl, rfl, rfl, by rw [aj]; rfl, trivial⟩⟩
 ·rintro a w ⟨ai, ak, m, f⟩
  have h0_0 := rd2 ak h0_0
  have h1 := RSr.mono trivial _ _ _ _ ak h1
  refine l_nil ?_
  rcases cond_some hd with ⟨al, hd⟩ | ⟨al, hd⟩
  ·refine k_true f rfl al ?_
   refine k_seq (k_region ?_)
   refine l_as f rfl rfl fun a f => l_nil ?_
   refine k_ret ?_
   have m : Mem W ai w H := Mem.drop (H' := [Itm.box aa 29 [v0_0]]) m
   obtain rfl := sj hd
   exact ⟨[(.bool false)], ⟨f.get _ _ rfl, trivial⟩, f.defers, _, [], (GLe.trans ag ak), m, rfl, rfl⟩
  ·refine k_false f rfl al ?_
   refine k_skip ?_
   refine k_seq (k_region ?_)
   refine l_boxAgg 0 0 (ds := [v0_0]) m Ag29 f rfl rfl rfl rfl rfl fun a f => ?_
   obtain ⟨am, an, hd⟩ := bind_some hd
   refine l_res f rfl rfl Tryd.call26 (Wk.v m h0_0 an) fun ao ap aq w ar m au a f => ?_
   obtain ⟨av, aw, rfl, rfl, ax⟩ := au
   have h0_0 := rd2 ar h0_0
   have h1 := RSr.mono trivial _ _ _ _ ar h1
   refine l_as f rfl rfl fun a f => l_nil (k_seq (k_region ?_))
   refine l_mv f rfl rfl fun a f => ?_
   obtain ⟨ay, az, hd⟩ := bind_some hd
   refine l_res f rfl rfl Tryd.call28 (Ow.lendCall (RI.mono _) 0 ax m rfl (fun aA aB m aC => Wk.B m aC az) (fun _ _ _ _ h => h)) fun aD aE aF w aG m aH a f => ?_
   obtain ⟨rfl, rfl⟩ := aH
   have h0_0 := rd2 aG h0_0
   have h1 := RSr.mono trivial _ _ _ _ aG h1
   have ax := od1 aG ax
   refine l_as f rfl rfl fun a f => l_nil (k_seq (k_seq (k_region ?_)))
   refine l_mv f rfl rfl fun a f => l_lenR Tryd.underlying31 f rfl rfl h1 fun a f => l_mv f rfl rfl fun a f => l_nil ?_
   obtain ⟨aI, aJ, hd⟩ := bind_some hd
   refine k_cut (fun a w => ∃ q_204' : Unit, aI = .inl q_204' ∧ ∃ (aK : GH), GLe aE aK ∧ Fr a 59 [] ∧ Mem W aK w (H)) ?_ ?_
   ·refine k_block ?_
    have m := m.eraseAt 1
    refine k_loop (fun aL a w => ∃ aM : Int, ∃ aN : Int, (aM, aN) = aL ∧ ∃ (aO : GH), GLe aE aO ∧ Fr a 59 [(5, av), (6, (.int .u32 aM)), (21, v1), (22, (.int .i64 (x1.length : Int))), (23, (.int .i64 aN))] ∧ Mem W aO w (aw :: H)) aJ ⟨_, _, rfl, _, (GLe.refl _), f.weak ⟨rfl, rfl, rfl, rfl, rfl, trivial⟩, m⟩ ?_
    clear aJ f m
    rintro aL aP aQ aR a w ⟨aM, aN, rfl, aO, aS, f, m⟩
    have h1 := RSr.mono trivial _ _ _ _ aS h1
    have ax := od1 aS ax
    refine k_seq (k_region ?_)
    refine l_in f rfl rfl rfl b_lss fun a f => l_nil (k_seq ?_)
    rcases cond_some aQ with ⟨aT, aQ⟩ | ⟨aT, aQ⟩
    ·refine k_true f rfl aT ?_
     refine k_skip ?_
     refine k_seq (k_block (k_seq (k_region ?_)))
     obtain ⟨aU, aV, aQ⟩ := bind_some aQ
     refine l_atR (E := P3) T31 f rfl rfl rfl h1 aV fun aW a aX f => l_loadR (E := P3) [(.int .i64 aU.1), (.int .i64 aU.2.1), (.int .i64 aU.2.2)] m Ag41 f rfl rfl aX rfl fun a f => l_alloc (cs := [(.int .i64 0), (.int .i64 0), (.int .i64 0)]) Tryd.zeroValue41 m f rfl rfl fun aY w a m f => l_boxStore 0 0 (ds := [(.int .i64 aU.1), (.int .i64 aU.2.1), (.int .i64 aU.2.2)]) m Tryd.sizeOf41 f rfl rfl rfl (ones_cons rfl (ones_cons rfl (ones_cons rfl ones_nil))) rfl (Nat.le_of_ble_eq_true rfl) rfl fun w m => l_nil (k_seq (k_seq (k_region ?_)))
     refine l_fieldAddr Tryd.underlying41 rfl Tryd.sizeOf2 (by decide) f rfl rfl fun a f => l_boxCell 0 0 m Pl2 f rfl rfl rfl rfl fun a f => l_mv f rfl rfl fun a f => l_own_len 1 m ax rfl Tryd.underlying56 f rfl rfl fun a f => l_in f rfl rfl rfl b_sub fun a f => ?_
     obtain ⟨aZ, a0, aQ⟩ := bind_some aQ
     refine l_res f rfl rfl Tryd.call35 (Wk.i m  a0) fun a1 a2 a3 w a4 m a5 a f => ?_
     obtain ⟨rfl, rfl⟩ := a5
     have h1 := RSr.mono trivial _ _ _ _ a4 h1
     have ax := od1 a4 ax
     refine l_op f rfl rfl rfl (r_not (f.eval rfl)) fun a f => l_mv f rfl rfl fun a f => ?_
     obtain ⟨a6, a7, aQ⟩ := bind_some aQ
     refine l_cut 6 (fun a w => ∃ a8, GLe a2 a8 ∧ Mem W a8 w (Itm.box aY 41 [(.int .i64 aU.1), (.int .i64 aU.2.1), (.int .i64 aU.2.2)] :: aw :: H) ∧ Fr a 59 [(5, av), (6, (.int .u32 aM)), (8, (.pointer (some ⟨aY, 0, none⟩))), (21, v1), (22, (.int .i64 (x1.length : Int))), (23, (.int .i64 aN)), (27, (.pointer (some ⟨aY, 0, none⟩))), (28, (.int .i64 aU.1)), (29, av), (30, (.int .i64 (am.length : Int))), (31, (.int .i64 (IntKind.i64.wrap ((am.length : Int) - 1)))), (32, (.bool aZ)), (33, (.bool (!aZ))), (34, (.bool (!aZ))), (40, (.bool a6))]) ?_ ?_
     ·rcases cond_some a7 with ⟨a9, a7⟩ | ⟨a9, a7⟩
      ·refine l_not' f rfl rfl rfl a9 fun a f => ?_
       refine l_not' f rfl rfl rfl a9 fun a f => l_not' f rfl rfl rfl a9 fun a f => l_not' f rfl rfl rfl a9 fun a f => l_not' f rfl rfl rfl a9 fun a f => l_op f rfl rfl rfl (r_pickT (f.eval rfl) a9 (f.eval rfl)) fun a f => ?_
       obtain rfl := sj a7
       exact ⟨_, (GLe.refl _), m, f.weak ⟨rfl, rfl, rfl, rfl, rfl, rfl, rfl, rfl, rfl, rfl, rfl, rfl, rfl, rfl, rfl, trivial⟩⟩
      ·refine l_run f rfl rfl a9 ?_
       refine l_mv f rfl rfl fun a f => l_run f rfl rfl a9 ?_
       refine l_fieldAddr Tryd.underlying41 rfl Tryd.sizeOf2 (by decide) f rfl rfl fun a f => l_run f rfl rfl a9 ?_
       refine l_boxCell 0 0 m Pl2 f rfl rfl rfl rfl fun a f => l_run f rfl rfl a9 ?_
       obtain ⟨ba, bb, a7⟩ := bind_some a7
       refine l_res f rfl rfl Tryd.call36 (Wk.g m  bb) fun bc bd be w bf m bg a f => ?_
       obtain ⟨rfl, rfl⟩ := bg
       have h1 := RSr.mono trivial _ _ _ _ bf h1
       have ax := od1 bf ax
       refine l_run f rfl rfl a9 ?_
       refine l_op f rfl rfl rfl (r_not (f.eval rfl)) fun a f => l_op f rfl rfl rfl (r_pickF (f.eval rfl) a9 (f.eval rfl)) fun a f => ?_
       obtain rfl := sj a7
       exact ⟨_, bf, m, f.weak ⟨rfl, rfl, rfl, rfl, rfl, rfl, rfl, rfl, rfl, rfl, rfl, rfl, rfl, rfl, rfl, trivial⟩⟩
     ·rintro a w ⟨a8, bh, m, f⟩
      have h1 := RSr.mono trivial _ _ _ _ bh h1
      have ax := od1 bh ax
      refine l_mv f rfl rfl fun a f => ?_
      obtain ⟨bi, bj, aQ⟩ := bind_some aQ
      refine l_cut 11 (fun a w => ∃ bk, GLe a8 bk ∧ Mem W bk w (Itm.box aY 41 [(.int .i64 aU.1), (.int .i64 aU.2.1), (.int .i64 aU.2.2)] :: aw :: H) ∧ Fr a 59 [(5, av), (6, (.int .u32 aM)), (8, (.pointer (some ⟨aY, 0, none⟩))), (21, v1), (22, (.int .i64 (x1.length : Int))), (23, (.int .i64 aN)), (27, (.pointer (some ⟨aY, 0, none⟩))), (28, (.int .i64 aU.1)), (29, av), (30, (.int .i64 (am.length : Int))), (31, (.int .i64 (IntKind.i64.wrap ((am.length : Int) - 1)))), (32, (.bool aZ)), (33, (.bool (!aZ))), (34, (.bool (!aZ))), (40, (.bool a6)), (41, (.bool a6)), (52, (.bool bi))]) ?_ ?_
      ·rcases cond_some bj with ⟨bl, bj⟩ | ⟨bl, bj⟩
       ·refine l_not' f rfl rfl rfl bl fun a f => ?_
        refine l_not' f rfl rfl rfl bl fun a f => l_not' f rfl rfl rfl bl fun a f => l_not' f rfl rfl rfl bl fun a f => l_not' f rfl rfl rfl bl fun a f => l_not' f rfl rfl rfl bl fun a f => l_not' f rfl rfl rfl bl fun a f => l_not' f rfl rfl rfl bl fun a f => l_not' f rfl rfl rfl bl fun a f => l_not' f rfl rfl rfl bl fun a f => l_op f rfl rfl rfl (r_pickT (f.eval rfl) bl (f.eval rfl)) fun a f => ?_
        obtain rfl := sj bj
        exact ⟨_, (GLe.refl _), m, f.weak ⟨rfl, rfl, rfl, rfl, rfl, rfl, rfl, rfl, rfl, rfl, rfl, rfl, rfl, rfl, rfl, rfl, rfl, trivial⟩⟩
       ·refine l_run f rfl rfl bl ?_
        refine l_mv f rfl rfl fun a f => l_run f rfl rfl bl ?_
        refine l_mv f rfl rfl fun a f => l_run f rfl rfl bl ?_
        refine l_fieldAddr Tryd.underlying41 rfl Tryd.sizeOf2 (by decide) f rfl rfl fun a f => l_run f rfl rfl bl ?_
        refine l_boxCell 0 0 m Pl2 f rfl rfl rfl rfl fun a f => l_run f rfl rfl bl ?_
        refine l_fieldAddr Tryd.underlying41 rfl Tryd.sizeOf2 (by decide) f rfl rfl fun a f => l_run f rfl rfl bl ?_
        refine l_boxCell 0 1 m Pl2 f rfl rfl rfl rfl fun a f => l_run f rfl rfl bl ?_
        refine l_fieldAddr Tryd.underlying41 rfl Tryd.sizeOf2 (by decide) f rfl rfl fun a f => l_run f rfl rfl bl ?_
        refine l_boxCell 0 2 m Pl2 f rfl rfl rfl rfl fun a f => l_run f rfl rfl bl ?_
        obtain ⟨bm, bn, bj⟩ := bind_some bj
        refine l_res f rfl rfl Tryd.call37 (Ow.lendCall (RI.mono _) 1 ax m rfl (fun bo bp m bq => Wk.A m bq bn) (fun _ _ _ _ h => h)) fun br bs bt w bu m bv a f => ?_
        obtain ⟨rfl, rfl⟩ := bv
        have h1 := RSr.mono trivial _ _ _ _ bu h1
        have ax := od1 bu ax
        refine l_run f rfl rfl bl ?_
        refine l_op f rfl rfl rfl (r_not (f.eval rfl)) fun a f => l_op f rfl rfl rfl (r_pickF (f.eval rfl) bl (f.eval rfl)) fun a f => ?_
        obtain rfl := sj bj
        exact ⟨_, bu, m, f.weak ⟨rfl, rfl, rfl, rfl, rfl, rfl, rfl, rfl, rfl, rfl, rfl, rfl, rfl, rfl, rfl, rfl, rfl, trivial⟩⟩
      ·rintro a w ⟨bk, bw, m, f⟩
       have h1 := RSr.mono trivial _ _ _ _ bw h1
       have ax := od1 bw ax
       refine l_nil ?_
       rcases cond_some aQ with ⟨bx, aQ⟩ | ⟨bx, aQ⟩
       ·refine k_true f rfl bx ?_
        refine k_seq (k_region ?_)
        refine l_as f rfl rfl fun a f => l_nil ?_
        refine k_ret ?_
        have m : Mem W bk w H := Mem.drop (H' := [Itm.box aY 41 [(.int .i64 aU.1), (.int .i64 aU.2.1), (.int .i64 aU.2.2)], aw]) m
        obtain rfl := sj aQ
        obtain rfl := aR _ rfl
        obtain rfl := sj hd
        exact ⟨[(.bool false)], ⟨f.get _ _ rfl, trivial⟩, f.defers, _, [], (GLe.trans ag (GLe.trans ak (GLe.trans ar (GLe.trans aG (GLe.trans aS (GLe.trans a4 (GLe.trans bh bw))))))), m, rfl, rfl⟩
       ·refine k_false f rfl bx ?_
        refine k_skip ?_
        refine k_region ?_
        refine l_mv f rfl rfl fun a f => l_fieldAddr Tryd.underlying41 rfl Tryd.sizeOf2 (by decide) f rfl rfl fun a f => l_boxCell 0 0 m Pl2 f rfl rfl rfl rfl fun a f => ?_
        obtain ⟨bz, bA, aQ⟩ := bind_some aQ
        refine l_res f rfl rfl Tryd.call38 (Wk.b m  bA) fun bB bC bD w bE m bF a f => ?_
        obtain ⟨rfl, rfl⟩ := bF
        have h1 := RSr.mono trivial _ _ _ _ bE h1
        have ax := od1 bE ax
        refine l_in f rfl rfl rfl b_andNot fun a f => l_as f rfl rfl fun a f => l_nil (k_region ?_)
        refine l_in f rfl rfl rfl b_add fun a f => l_mv f rfl rfl fun a f => l_nil ?_
        have m := m.front 1 rfl
        have m := m.eraseAt 1
        obtain rfl := sj aQ
        exact ⟨_, rfl, _, _, rfl, _, (GLe.trans aS (GLe.trans a4 (GLe.trans bh (GLe.trans bw bE)))), f.weak ⟨rfl, rfl, rfl, rfl, rfl, trivial⟩, m⟩
    ·refine k_false f rfl aT ?_
     refine k_exit rfl ?_
     have m : Mem W aO w H := Mem.drop (H' := [aw]) m
     obtain rfl := sj aQ
     obtain rfl := aR _ rfl
     exact ⟨_, rfl, _, aS, f.weak trivial, m⟩
   ·rintro a w ⟨_, rfl, aK, bG, f, m⟩
    refine k_seq (k_region ?_)
    refine l_as f rfl rfl fun a f => l_nil ?_
    refine k_ret ?_
    obtain rfl := sj hd
    exact ⟨[(.bool true)], ⟨f.get _ _ rfl, trivial⟩, f.defers, _, [], (GLe.trans ag (GLe.trans ak (GLe.trans ar (GLe.trans aG bG)))), m, rfl, rfl⟩

theorem Wk.r {W w : World} {G : GH} {H : List Itm} {v0 : Value} {it0 : Itm} {x0 : (List Int)} {x1 : Int} {x2 : Int} (m : Mem W G w (it0 :: H)) (o0 : Ow (RI .u32) 59 G it0 v0 x0) {y : ((List Int))} (hd : D.r x0 x1 x2 = some y) :
  Calls Tryd.prog 43 #[v0, (.int .i64 x1), (.int .i64 x2)] w (Res W G H (fun G' Ho _ => ∃ i0 : Itm, Ho = [i0] ∧ Ow (RI .u32) 59 G' i0 v0 y)) := by
 refine calls_b (args := [v0, (.int .i64 x1), (.int .i64 x2)]) (N := 22) [] Tryd.func43 rfl rfl (Nat.le_of_ble_eq_true rfl) rfl fun a f => ?_
 unfold D.r at hd
 refine k_seq ?_
 refine k_draw 8 Follows (by kernel_rfl) m ?_
 refine q_mv 0 8 rfl (by kernel_rfl) f rfl rfl rfl fun a f => q_mv 1 8 rfl (by kernel_rfl) f rfl rfl rfl fun a f => ?_
 obtain ⟨aa, ab, hd⟩ := bind_some hd
 refine q_own_at (i := 2) 8 0 m o0 rfl T56 ab rfl (by kernel_rfl) rfl f rfl rfl rfl rfl fun ac a ad f => q_own_load (i := 3) 8 0 o0 rfl Pl59 ad ab rfl (by kernel_rfl) rfl f rfl rfl rfl fun ae a af f => ?_
 subst af
 refine q_mv 4 8 rfl (by kernel_rfl) f rfl rfl rfl fun a f => ?_
 obtain ⟨ag, ah, hd⟩ := bind_some hd
 refine q_call (i := 5) 8 rfl (by kernel_rfl) rfl f rfl rfl rfl Tryd.call38 (fun _ _ w ai m => Wk.b m  ah) fun a f => q_p 6 8 rfl (by kernel_rfl) f rfl rfl rfl (fun _ => r_int (f.eval rfl) (f.eval rfl) b_or) fun a f => ?_
 obtain ⟨aj, ak, hd⟩ := bind_some hd
 refine q_own_at (i := 7) 8 0 m o0 rfl T56 ak rfl (by kernel_rfl) rfl f rfl rfl rfl rfl fun al a am f => q_end fun an w ao m => ?_
 have o0 := od1 ao o0
 refine l_own_store 0 m o0 rfl Tryd.sizeOf59 f rfl rfl am ak rfl rfl rfl fun ap w m aq => l_nil ?_
 refine k_draw 8 Follows (by kernel_rfl) m ?_
 refine q_mv 0 8 rfl (by kernel_rfl) f rfl rfl rfl fun a f => q_mv 1 8 rfl (by kernel_rfl) f rfl rfl rfl fun a f => ?_
 obtain ⟨ar, au, hd⟩ := bind_some hd
 refine q_own_at (i := 2) 8 0 m aq rfl T56 au rfl (by kernel_rfl) rfl f rfl rfl rfl rfl fun av a aw f => q_own_load (i := 3) 8 0 aq rfl Pl59 aw au rfl (by kernel_rfl) rfl f rfl rfl rfl fun ax a ay f => ?_
 subst ay
 refine q_mv 4 8 rfl (by kernel_rfl) f rfl rfl rfl fun a f => ?_
 obtain ⟨az, aA, hd⟩ := bind_some hd
 refine q_call (i := 5) 8 rfl (by kernel_rfl) rfl f rfl rfl rfl Tryd.call38 (fun _ _ w aB m => Wk.b m  aA) fun a f => q_p 6 8 rfl (by kernel_rfl) f rfl rfl rfl (fun _ => r_int (f.eval rfl) (f.eval rfl) b_or) fun a f => ?_
 obtain ⟨aC, aD, hd⟩ := bind_some hd
 refine q_own_at (i := 7) 8 0 m aq rfl T56 aD rfl (by kernel_rfl) rfl f rfl rfl rfl rfl fun aE a aF f => q_end fun aG w aH m => ?_
 have aq := od1 aH aq
 refine l_own_store 0 m aq rfl Tryd.sizeOf59 f rfl rfl aF aD rfl rfl rfl fun aI w m aJ => l_nil ?_
 obtain rfl := sj hd
 exact ⟨[], trivial, f.defers, _, [aI], (GLe.trans ao aH), m, _, rfl, aJ⟩

theorem Wk.w0 {W w : World} {G : GH} {H : List Itm} {v0 : Value} {x0 : (List Int)} (hW : TabW W) (m : Mem W G w (H)) (h0 : RSl (RI .u32) G v0 x0) {y : ((List (List Int)))} (hd : D.w0 x0 = some y) :
  Calls Tryd.prog 44 #[v0] w (Res W G H (fun G' Ho v => ∃ r0 : Value, ∃ i0 : Itm, Ho = [i0] ∧ v = (.agg #[r0]) ∧ Ow2 (RI .i64) 32 2 G' i0 r0 y)) := by
 refine calls_b (args := [v0]) (N := 22) [.cell 2 29] Tryd.func44 rfl rfl (Nat.le_of_ble_eq_true rfl) rfl fun a f => ?_
 unfold D.w0 at hd
 refine k_seq (k_region ?_)
 refine l_alloc (cs := [(.slice none 0 0)]) Tryd.zeroValue29 m f rfl rfl fun aa w a m f => l_nil (k_seq (k_region ?_))
 have ab : ∀ w, (Instr.build 29 #[]).run Tryd.prog w = .ok (.agg #[(.slice none 0 0)]) w := by intro w; simp [Instr.build, Instr.fill, cells_int, cells_bool, cells_string, cells_slice, cells_pointer, cells_agg]
 refine l_build f rfl rfl ab fun a f => l_alloc (cs := [(.slice none 0 0)]) Tryd.zeroValue29 m f rfl rfl fun ac w a m f => l_boxStore 0 0 (ds := [(.slice none 0 0)]) m Tryd.sizeOf29 f rfl rfl rfl (ones_cons rfl ones_nil) rfl (Nat.le_of_ble_eq_true rfl) rfl fun w m => l_nil (k_seq (k_seq (k_region ?_)))
 refine l_mv f rfl rfl fun a f => l_len Tryd.underlying56 f rfl rfl h0 fun a f => l_mv f rfl rfl fun a f => l_nil ?_
 obtain ⟨ad, m, ae⟩ := Ow2.nil (RI .i64) 32 2 m
 obtain ⟨af, ag, hd⟩ := bind_some hd
 refine k_cut (fun a w => ∃ ah : List (List Int), ah = af ∧ ∃ (ai : GH) (aj : Value) (ak : Itm), GLe G ai ∧ Fr a 22 [(2, (.pointer (some ⟨aa, 0, none⟩))), (3, (.pointer (some ⟨ac, 0, none⟩)))] ∧ Mem W ai w (Itm.box aa 29 [(.slice none 0 0)] :: Itm.box ac 29 [aj] :: ak :: H) ∧ Ow2 (RI .i64) 32 2 ai ak aj ah) ?_ ?_
 ·refine k_block ?_
  have m := m.front 1 rfl
  have m := m.front 2 rfl
  refine k_loop (fun al a w => ∃ am : Int, ∃ an : List (List Int), (am, an) = al ∧ ∃ (ao : GH) (ap : Value) (aq : Itm), GLe G ao ∧ Fr a 22 [(2, (.pointer (some ⟨aa, 0, none⟩))), (3, (.pointer (some ⟨ac, 0, none⟩))), (7, v0), (8, (.int .i64 (x0.length : Int))), (9, (.int .i64 am))] ∧ Mem W ao w (Itm.box aa 29 [(.slice none 0 0)] :: Itm.box ac 29 [ap] :: aq :: H) ∧ Ow2 (RI .i64) 32 2 ao aq ap an) ag ⟨_, _, rfl, _, (.slice none 0 0), ad, (GLe.refl _), f.weak ⟨rfl, rfl, rfl, rfl, rfl, trivial⟩, m, ae⟩ ?_
  clear ag f m
  rintro al ar au av a w ⟨am, an, rfl, ao, ap, aq, aw, f, m, ax⟩
  have h0 := rd1 aw h0
  refine k_seq (k_region ?_)
  refine l_in f rfl rfl rfl b_lss fun a f => l_nil (k_seq ?_)
  rcases cond_some au with ⟨ay, au⟩ | ⟨ay, au⟩
  ·refine k_true f rfl ay ?_
   refine k_skip ?_
   refine k_seq (k_block (k_seq (k_region ?_)))
   obtain ⟨az, aA, au⟩ := bind_some au
   refine l_at T56 f rfl rfl rfl h0 aA fun aB aC a aD aE f => ?_
   subst aE
   refine l_loadAt m Pl59 f rfl rfl aD fun a f => l_as f rfl rfl fun a f => l_nil ?_
   refine k_draw 5 Follows (by kernel_rfl) m ?_
   refine q_fieldAddr (i := 0) 5 Tryd.underlying29 rfl Tryd.sizeOf27 (by decide) rfl (by kernel_rfl) rfl f rfl rfl rfl fun a f => q_boxCell (i := 1) 5 1 Pl27 rfl rfl rfl (by kernel_rfl) rfl f rfl rfl rfl fun a f => q_mv 2 5 rfl (by kernel_rfl) f rfl rfl rfl fun a f => q_one (i := 3) rfl (by kernel_rfl) rfl fun aF w aG m aH aH => ?_
   have h0 := rd1 aG h0
   have ax := Ow2.mono (RI.mono _) aG ax
   obtain ⟨aI, aJ, au⟩ := bind_some au
   refine l_res f rfl rfl Tryd.call29 (Wk.x hW m  aJ) fun aK aL aM w aN m aO a f => ?_
   obtain ⟨aP, aQ, rfl, rfl, aR⟩ := aO
   have h0 := rd1 aN h0
   have ax := Ow2.mono (RI.mono _) aN ax
   refine l_nil ?_
   refine aH aL [aQ] _ _ aN m ?_
   refine q_one (i := 4) rfl (by kernel_rfl) rfl fun aS w aT m aU aU => ?_
   have h0 := rd1 aT h0
   have aR := od1 aT aR
   have ax := Ow2.mono (RI.mono _) aT ax
   refine l_slit (R := RawS) (xs := [aP]) RawS.one m T27 f rfl rfl rfl (by decide) (All2.cons ⟨rfl, Ow.one1 0 m aR rfl, Ow.cells 0 m aR rfl⟩ (All2.nil _)) fun aV aW w a m aX f => l_nil ?_
   refine aU aS [aV, aQ] _ _ (GLe.refl _) m ?_
   refine q_end fun aY w aZ m => ?_
   have h0 := rd1 aZ h0
   have aX := Ow.mono RawS.mono aZ aX
   have aR := od1 aZ aR
   have ax := Ow2.mono (RI.mono _) aZ ax
   have m := m.front 1 rfl
   have m : Mem W aY w (aq :: aQ :: aV :: Itm.box aa 29 [(.slice none 0 0)] :: Itm.box ac 29 [ap] :: H) := m.front 4 rfl
   obtain ⟨a0, a1, au⟩ := bind_some au
   refine l_append2 m ax aR aX T27 rfl (by decide) f rfl rfl rfl a1 fun a2 a3 w a m a4 f => l_fieldAddr Tryd.underlying29 rfl Tryd.sizeOf27 (by decide) f rfl rfl fun a f => l_boxStore 2 0 (ds := [a3]) m Tryd.sizeOf27 f rfl rfl (Ow2.cells 0 m a4 rfl) (ones_cons (Ow2.one1 0 m a4 rfl) ones_nil) rfl (Nat.le_of_ble_eq_true rfl) rfl fun w m => l_nil (k_region ?_)
   refine l_in f rfl rfl rfl b_add fun a f => l_mv f rfl rfl fun a f => l_nil ?_
   have m := m.front 2 rfl
   have m := m.front 2 rfl
   obtain rfl := sj au
   exact ⟨_, rfl, _, _, rfl, _, a3, a2, (GLe.trans aw (GLe.trans aG (GLe.trans aN (GLe.trans aT aZ)))), f.weak ⟨rfl, rfl, rfl, rfl, rfl, trivial⟩, m, a4⟩
  ·refine k_false f rfl ay ?_
   refine k_exit rfl ?_
   obtain rfl := sj au
   obtain rfl := av _ rfl
   exact ⟨_, rfl, _, ap, aq, aw, f.weak ⟨rfl, rfl, trivial⟩, m, ax⟩
 ·rintro a w ⟨ah, rfl, ai, aj, ak, a5, f, m, a6⟩
  refine k_seq (k_region ?_)
  refine l_boxAgg 1 0 (ds := [aj]) m Ag29 f rfl rfl rfl rfl rfl fun a f => l_boxStore 0 0 (ds := [aj]) m Tryd.sizeOf29 f rfl rfl rfl (ones_cons (Ow2.one1 2 m a6 rfl) ones_nil) rfl (Nat.le_of_ble_eq_true rfl) rfl fun w m => l_nil ?_
  refine k_ret ?_
  have a7 := rr_agg (P := Tryd.prog) 0 m Ag29 f (s := 2) rfl rfl rfl
  have m := m.front 2 rfl
  have m := m.eraseAt 2
  have m := m.eraseAt 1
  obtain rfl := sj hd
  exact ⟨[(.agg #[aj])], ⟨a7, trivial⟩, f.defers, _, [ak], a5, m, _, _, rfl, rfl, a6⟩

theorem Wk.k0 {W w : World} {G : GH} {H : List Itm} {v0 : Value} {x0 : (List (Int × Int × Int))} (hW : TabW W) (m : Mem W G w (H)) (h0 : RSr P3 G v0 x0) {y : ((List (List Int))) × Bool} (hd : D.k0 x0 = some y) :
  Calls Tryd.prog 12 #[v0] w (Res W G H (fun G' Ho v => ∃ r0 : Value, ∃ i0 : Itm, Ho = [i0] ∧ v = .tuple #[(.agg #[r0]), (.bool y.2)] ∧ Ow2 (RI .i64) 32 2 G' i0 r0 y.1)) := by
 refine calls_b (args := [v0]) (N := 126) [.cell 2 29, .tmp 3] Tryd.func12 rfl rfl (Nat.le_of_ble_eq_true rfl) rfl fun a f => ?_
 unfold D.k0 at hd
 refine k_seq (k_region ?_)
 refine l_alloc (cs := [(.slice none 0 0)]) Tryd.zeroValue29 m f rfl rfl fun aa w a m f => l_as f rfl rfl fun a f => l_nil (k_seq (k_region ?_))
 refine l_mv f rfl rfl fun a f => l_lenR Tryd.underlying31 f rfl rfl h0 fun a f => l_as f rfl rfl fun a f => l_nil (k_seq (k_region ?_))
 refine l_slit (R := (RI .i64)) (xs := ([] : List Int)) (RI.one _) m T32 f rfl rfl rfl (by decide) (All2.nil _) fun ab ac w a m ad f => l_as f rfl rfl fun a f => l_nil (k_seq (k_seq (k_region ?_)))
 refine l_mv f rfl rfl fun a f => l_lenR Tryd.underlying31 f rfl rfl h0 fun a f => l_mv f rfl rfl fun a f => l_nil ?_
 obtain ⟨ae, af, hd⟩ := bind_some hd
 refine k_cut (fun a w => ∃ ag : List Int, ag = ae ∧ ∃ (ah : GH) (ai : Value) (aj : Itm), GLe G ah ∧ Fr a 126 [(0, v0), (2, (.pointer (some ⟨aa, 0, none⟩))), (4, (.int .i64 (x0.length : Int))), (5, ai)] ∧ Mem W ah w (Itm.box aa 29 [(.slice none 0 0)] :: aj :: H) ∧ Ow (RI .i64) 2 ah aj ai ag) ?_ ?_
 ·refine k_block ?_
  have m := m.front 1 rfl
  refine k_loop (fun ak a w => ∃ al : List Int, ∃ am : Int, (al, am) = ak ∧ ∃ (an : GH) (ao : Value) (ap : Itm), GLe G an ∧ Fr a 126 [(0, v0), (2, (.pointer (some ⟨aa, 0, none⟩))), (4, (.int .i64 (x0.length : Int))), (5, ao), (20, v0), (21, (.int .i64 (x0.length : Int))), (22, (.int .i64 am))] ∧ Mem W an w (Itm.box aa 29 [(.slice none 0 0)] :: ap :: H) ∧ Ow (RI .i64) 2 an ap ao al) af ⟨_, _, rfl, _, ac, ab, (GLe.refl _), f.weak ⟨rfl, rfl, rfl, rfl, rfl, rfl, rfl, trivial⟩, m, ad⟩ ?_
  clear af f m
  rintro ak aq ar au a w ⟨al, am, rfl, an, ao, ap, av, f, m, aw⟩
  have h0 := RSr.mono trivial _ _ _ _ av h0
  refine k_seq (k_region ?_)
  refine l_in f rfl rfl rfl b_lss fun a f => l_nil (k_seq ?_)
  rcases cond_some ar with ⟨ax, ar⟩ | ⟨ax, ar⟩
  ·refine k_true f rfl ax ?_
   refine k_skip ?_
   refine k_seq (k_block (k_seq (k_region ?_)))
   obtain ⟨ay, az, ar⟩ := bind_some ar
   refine l_atR (E := P3) T31 f rfl rfl rfl h0 az fun aA a aB f => l_loadR (E := P3) [(.int .i64 ay.1), (.int .i64 ay.2.1), (.int .i64 ay.2.2)] m Ag41 f rfl rfl aB rfl fun a f => l_alloc (cs := [(.int .i64 0), (.int .i64 0), (.int .i64 0)]) Tryd.zeroValue41 m f rfl rfl fun aC w a m f => l_boxStore 0 0 (ds := [(.int .i64 ay.1), (.int .i64 ay.2.1), (.int .i64 ay.2.2)]) m Tryd.sizeOf41 f rfl rfl rfl (ones_cons rfl (ones_cons rfl (ones_cons rfl ones_nil))) rfl (Nat.le_of_ble_eq_true rfl) rfl fun w m => l_nil (k_region ?_)
   refine l_mv f rfl rfl fun a f => l_fieldAddr Tryd.underlying41 rfl Tryd.sizeOf2 (by decide) f rfl rfl fun a f => l_boxCell 0 0 m Pl2 f rfl rfl rfl rfl fun a f => l_slit (R := (RI .i64)) (xs := ([ay.1] : List Int)) (RI.one _) m T32 f rfl rfl rfl (by decide) (All2.cons rfl (All2.nil _)) fun aD aE w a m aF f => ?_
   obtain ⟨aG, aH, ar⟩ := bind_some ar
   refine l_append (RI.one _) 3 m aw rfl T32 rfl (by decide) f rfl rfl rfl (Ow.src (j := 0) aF m rfl) aH fun aI aJ w a m aK f => l_as f rfl rfl fun a f => l_nil (k_region ?_)
   refine l_in f rfl rfl rfl b_add fun a f => l_mv f rfl rfl fun a f => l_nil ?_
   have m := m.front 3 rfl
   have m := m.front 3 rfl
   have m : Mem W an w (Itm.box aa 29 [(.slice none 0 0)] :: aI :: aD :: H) := m.eraseAt 3
   have m := m.eraseAt 2
   obtain rfl := sj ar
   exact ⟨_, rfl, _, _, rfl, _, aJ, aI, av, f.weak ⟨rfl, rfl, rfl, rfl, rfl, rfl, rfl, trivial⟩, m, aK⟩
  ·refine k_false f rfl ax ?_
   refine k_exit rfl ?_
   obtain rfl := sj ar
   obtain rfl := au _ rfl
   exact ⟨_, rfl, _, ao, ap, av, f.weak ⟨rfl, rfl, rfl, rfl, trivial⟩, m, aw⟩
 ·rintro a w ⟨ag, rfl, ah, ai, aj, aL, f, m, aM⟩
  have h0 := RSr.mono trivial _ _ _ _ aL h0
  refine k_seq (k_seq (k_region ?_))
  refine l_mv f rfl rfl fun a f => l_in f rfl rfl rfl b_lss fun a f => l_mv f rfl rfl fun a f => ?_
  refine l_cut 3 (fun a w => ∃ aN, GLe ah aN ∧ Mem W aN w (Itm.box aa 29 [(.slice none 0 0)] :: aj :: H) ∧ Fr a 126 [(0, v0), (2, (.pointer (some ⟨aa, 0, none⟩))), (4, (.int .i64 (x0.length : Int))), (5, ai), (32, (.int .i64 (x0.length : Int))), (33, (.bool (decide ((x0.length : Int) < 1)))), (34, (.bool (decide ((x0.length : Int) < 1)))), (37, (.bool ((decide ((x0.length : Int) < 1)) || (decide ((16 : Int) < (x0.length : Int))))))]) ?_ ?_
  ·rcases Bool.eq_false_or_eq_true (decide ((x0.length : Int) < 1)) with aO | aO
   ·refine l_not' f rfl rfl rfl aO fun a f => ?_
    refine l_not' f rfl rfl rfl aO fun a f => l_op f rfl rfl rfl (r_pickT (f.eval rfl) aO (f.eval rfl)) fun a f => ?_
    exact ⟨_, (GLe.refl _), m, f.weak ⟨rfl, rfl, rfl, rfl, rfl, rfl, rfl, by rw [aO]; rfl, trivial⟩⟩
   ·refine l_run f rfl rfl aO ?_
    refine l_mv f rfl rfl fun a f => l_run f rfl rfl aO ?_
    refine l_in f rfl rfl rfl b_gtr fun a f => l_op f rfl rfl rfl (r_pickF (f.eval rfl) aO (f.eval rfl)) fun a f => ?_
    exact ⟨_, (GLe.refl _), m, f.weak ⟨rfl, rfl, rfl, rfl, rfl, rfl, rfl, by rw [aO]; rfl, trivial⟩⟩
  ·rintro a w ⟨aN, aP, m, f⟩
   have h0 := RSr.mono trivial _ _ _ _ aP h0
   have aM := od1 aP aM
   refine l_mv f rfl rfl fun a f => ?_
   have m := m.front 1 rfl
   obtain ⟨aQ, aR, m, aS⟩ := Ow.stamp (RI.mono _) aM m
   have h0 := RSr.mono trivial _ _ _ _ aR h0
   obtain ⟨aT, aU, hd⟩ := bind_some hd
   refine l_cut 7 (fun a w => ∃ aV, GLe aQ aV ∧ Mem W aV w (Itm.box aa 29 [(.slice none 0 0)] :: H) ∧ Fr a 126 [(0, v0), (2, (.pointer (some ⟨aa, 0, none⟩))), (4, (.int .i64 (x0.length : Int))), (5, ai), (32, (.int .i64 (x0.length : Int))), (33, (.bool (decide ((x0.length : Int) < 1)))), (34, (.bool (decide ((x0.length : Int) < 1)))), (37, (.bool ((decide ((x0.length : Int) < 1)) || (decide ((16 : Int) < (x0.length : Int)))))), (38, (.bool ((decide ((x0.length : Int) < 1)) || (decide ((16 : Int) < (x0.length : Int)))))), (45, (.bool aT))]) ?_ ?_
   ·rcases cond_some aU with ⟨aW, aU⟩ | ⟨aW, aU⟩
    ·refine l_not' f rfl rfl rfl aW fun a f => ?_
     refine l_not' f rfl rfl rfl aW fun a f => l_not' f rfl rfl rfl aW fun a f => l_not' f rfl rfl rfl aW fun a f => l_not' f rfl rfl rfl aW fun a f => l_not' f rfl rfl rfl aW fun a f => l_op f rfl rfl rfl (r_pickT (f.eval rfl) aW (f.eval rfl)) fun a f => ?_
     obtain rfl := sj aU
     exact ⟨_, (GLe.refl _), m, f.weak ⟨rfl, rfl, rfl, rfl, rfl, rfl, rfl, rfl, rfl, rfl, trivial⟩⟩
    ·refine l_run f rfl rfl aW ?_
     refine l_mv f rfl rfl fun a f => l_run f rfl rfl aW ?_
     refine l_res f rfl rfl Tryd.call41 (Wk.J0 m aS) fun aX aY aZ w a2 m a3 a f => ?_
     obtain ⟨a4, rfl, rfl⟩ := a3
     have h0 := RSr.mono trivial _ _ _ _ a2 h0
     have aS := rd1 a2 aS
     refine l_run f rfl rfl aW ?_
     obtain ⟨a5, a6, aU⟩ := bind_some aU
     refine l_res f rfl rfl Tryd.call40 (Wk.N m aS a6) fun a7 a8 a9 w ba m bb a f => ?_
     obtain ⟨bc, bd, rfl, rfl, be⟩ := bb
     have h0 := RSr.mono trivial _ _ _ _ ba h0
     have aS := rd1 ba aS
     refine l_run f rfl rfl aW ?_
     refine l_mv f rfl rfl fun a f => l_run f rfl rfl aW ?_
     obtain ⟨bf, bg, aU⟩ := bind_some aU
     refine l_res f rfl rfl Tryd.call39 (Ow.lendCall (RI.mono _) 0 be m rfl (fun bh bi m bj => Wk.q m bj bg) (fun _ _ _ _ h => h)) fun bk bl bm w bn m bo a f => ?_
     obtain ⟨rfl, rfl⟩ := bo
     have h0 := RSr.mono trivial _ _ _ _ bn h0
     have aS := rd1 bn aS
     have be := od1 bn be
     refine l_run f rfl rfl aW ?_
     refine l_op f rfl rfl rfl (r_not (f.eval rfl)) fun a f => l_op f rfl rfl rfl (r_pickF (f.eval rfl) aW (f.eval rfl)) fun a f => ?_
     obtain rfl := sj aU
     have m := m.front 1 rfl
     have m := m.eraseAt 1
     exact ⟨_, (GLe.trans a2 (GLe.trans ba bn)), m, f.weak ⟨rfl, rfl, rfl, rfl, rfl, rfl, rfl, rfl, rfl, rfl, trivial⟩⟩
   ·rintro a w ⟨aV, bp, m, f⟩
    have h0 := RSr.mono trivial _ _ _ _ bp h0
    have aS := rd1 bp aS
    refine l_nil ?_
    rcases cond_some hd with ⟨bq, hd⟩ | ⟨bq, hd⟩
    ·refine k_true f rfl bq ?_
     refine k_seq (k_region ?_)
     have br : ∀ w, (Instr.build 29 #[]).run Tryd.prog w = .ok (.agg #[(.slice none 0 0)]) w := by intro w; simp [Instr.build, Instr.fill, cells_int, cells_bool, cells_string, cells_slice, cells_pointer, cells_agg]
     refine l_build f rfl rfl br fun a f => l_boxStore 0 0 (ds := [(.slice none 0 0)]) m Tryd.sizeOf29 f rfl rfl rfl (ones_cons rfl ones_nil) rfl (Nat.le_of_ble_eq_true rfl) rfl fun w m => l_as f rfl rfl fun a f => l_nil ?_
     refine k_ret ?_
     obtain ⟨bs, m, bt⟩ := Ow2.nil (RI .i64) 32 2 m
     have bu := rr_agg (P := Tryd.prog) 1 m Ag29 f (s := 2) rfl rfl rfl
     have m := m.eraseAt 1
     obtain rfl := sj hd
     exact ⟨[(.agg #[(.slice none 0 0)]), (.bool false)], ⟨bu, f.get _ _ rfl, trivial⟩, f.defers, _, [bs], (GLe.trans aL (GLe.trans aP (GLe.trans aR bp))), m, _, _, rfl, rfl, bt⟩
    ·refine k_false f rfl bq ?_
     refine k_skip ?_
     refine k_seq (k_region ?_)
     refine l_mv f rfl rfl fun a f => ?_
     obtain ⟨bv, bw, hd⟩ := bind_some hd
     refine l_make (R := (RI .u32)) m T56 rfl (by decide) rfl f rfl rfl rfl bw fun bx bz w a m bA f => l_as f rfl rfl fun a f => l_as f rfl rfl fun a f => l_nil (k_seq (k_seq (k_region ?_)))
     refine l_mv f rfl rfl fun a f => l_in f rfl rfl rfl b_sub fun a f => l_as f rfl rfl fun a f => l_nil ?_
     obtain ⟨bB, bC, hd⟩ := bind_some hd
     refine k_cut (fun a w => ∃ q_712' : (List Int), bB = .inl q_712' ∧ ∃ bD : List Int, bD = q_712' ∧ ∃ (bE : GH) (bF : Itm), GLe aV bE ∧ Fr a 126 [(0, v0), (2, (.pointer (some ⟨aa, 0, none⟩))), (8, bz)] ∧ Mem W bE w (Itm.box aa 29 [(.slice none 0 0)] :: bF :: H) ∧ Ow (RI .u32) 59 bE bF bz bD) ?_ ?_
     ·refine k_block ?_
      have m := m.front 1 rfl
      refine k_loop (fun bG a w => ∃ bH : List Int, ∃ bI : Int, ∃ bJ : Int, (bH, bI, bJ) = bG ∧ ∃ (bK : GH) (bL : Itm), GLe aV bK ∧ Fr a 126 [(0, v0), (2, (.pointer (some ⟨aa, 0, none⟩))), (4, (.int .i64 (x0.length : Int))), (8, bz), (9, (.int .u32 bI)), (10, (.int .i64 bJ))] ∧ Mem W bK w (Itm.box aa 29 [(.slice none 0 0)] :: bL :: H) ∧ Ow (RI .u32) 59 bK bL bz bH) bC ⟨_, _, _, rfl, _, bx, (GLe.refl _), f.weak ⟨rfl, rfl, rfl, rfl, rfl, rfl, trivial⟩, m, bA⟩ ?_
      clear bC f m
      rintro bG bM bN bO a w ⟨bH, bI, bJ, rfl, bK, bL, bP, f, m, bQ⟩
      have h0 := RSr.mono trivial _ _ _ _ bP h0
      refine k_seq (k_seq (k_region ?_))
      refine l_mv f rfl rfl fun a f => l_in f rfl rfl rfl b_geq fun a f => l_nil ?_
      rcases cond_some bN with ⟨bR, bN⟩ | ⟨bR, bN⟩
      ·refine k_true f rfl bR ?_
       refine k_skip ?_
       refine k_seq (k_block (k_seq (k_region ?_)))
       refine l_mv f rfl rfl fun a f => l_mv f rfl rfl fun a f => ?_
       obtain ⟨bS, bT, bN⟩ := bind_some bN
       refine l_atR (E := P3) T31 f rfl rfl rfl h0 bT fun bU a bV f => l_loadR (E := P3) [(.int .i64 bS.1), (.int .i64 bS.2.1), (.int .i64 bS.2.2)] m Ag41 f rfl rfl bV rfl fun a f => l_alloc (cs := [(.int .i64 0), (.int .i64 0), (.int .i64 0)]) Tryd.zeroValue41 m f rfl rfl fun bW w a m f => l_boxStore 0 0 (ds := [(.int .i64 bS.1), (.int .i64 bS.2.1), (.int .i64 bS.2.2)]) m Tryd.sizeOf41 f rfl rfl rfl (ones_cons rfl (ones_cons rfl (ones_cons rfl ones_nil))) rfl (Nat.le_of_ble_eq_true rfl) rfl fun w m => l_nil (k_seq (k_region ?_))
       refine l_as f rfl rfl fun a f => l_nil (k_seq (k_seq (k_region ?_)))
       refine l_fieldAddr Tryd.underlying41 rfl Tryd.sizeOf2 (by decide) f rfl rfl fun a f => l_boxCell 0 2 m Pl2 f rfl rfl rfl rfl fun a f => l_in f rfl rfl rfl b_neq fun a f => l_nil ?_
       obtain ⟨bX, bY, bN⟩ := bind_some bN
       refine k_cut (fun a w => ∃ j_1027' : Int, bX = .inl j_1027' ∧ ∃ bZ : Int, bZ = j_1027' ∧ ∃ (b0 : GH), GLe bK b0 ∧ Fr a 126 [(0, v0), (2, (.pointer (some ⟨aa, 0, none⟩))), (4, (.int .i64 (x0.length : Int))), (8, bz), (9, (.int .u32 bI)), (10, (.int .i64 bJ)), (11, (.pointer (some ⟨bW, 0, none⟩))), (12, (.int .u32 bZ))] ∧ Mem W b0 w (Itm.box aa 29 [(.slice none 0 0)] :: Itm.box bW 41 [(.int .i64 bS.1), (.int .i64 bS.2.1), (.int .i64 bS.2.2)] :: bL :: H)) ?_ ?_
       ·rcases cond_some bY with ⟨b1, bY⟩ | ⟨b1, bY⟩
        ·refine k_true f rfl b1 ?_
         refine k_seq (k_seq (k_region ?_))
         refine l_fieldAddr Tryd.underlying41 rfl Tryd.sizeOf2 (by decide) f rfl rfl fun a f => l_boxCell 0 1 m Pl2 f rfl rfl rfl rfl fun a f => l_mv f rfl rfl fun a f => l_in f rfl rfl rfl b_sub fun a f => ?_
         obtain ⟨b2, b3, bY⟩ := bind_some bY
         refine l_res f rfl rfl Tryd.call35 (Wk.i m  b3) fun b4 b5 b6 w b7 m b8 a f => ?_
         obtain ⟨rfl, rfl⟩ := b8
         have h0 := RSr.mono trivial _ _ _ _ b7 h0
         have bQ := od1 b7 bQ
         refine l_op f rfl rfl rfl (r_not (f.eval rfl)) fun a f => l_mv f rfl rfl fun a f => ?_
         obtain ⟨b9, ca, bY⟩ := bind_some bY
         refine l_cut 6 (fun a w => ∃ cb, GLe b5 cb ∧ Mem W cb w (Itm.box bW 41 [(.int .i64 bS.1), (.int .i64 bS.2.1), (.int .i64 bS.2.2)] :: Itm.box aa 29 [(.slice none 0 0)] :: bL :: H) ∧ Fr a 126 [(0, v0), (2, (.pointer (some ⟨aa, 0, none⟩))), (4, (.int .i64 (x0.length : Int))), (8, bz), (9, (.int .u32 bI)), (10, (.int .i64 bJ)), (11, (.pointer (some ⟨bW, 0, none⟩))), (12, (.int .u32 0)), (61, (.bool (bS.2.2 != 1))), (62, (.pointer (some ⟨bW, 1, none⟩))), (63, (.int .i64 bS.2.1)), (64, (.int .i64 (x0.length : Int))), (65, (.int .i64 (IntKind.i64.wrap ((x0.length : Int) - 1)))), (66, (.bool b2)), (67, (.bool (!b2))), (68, (.bool (!b2))), (74, (.bool b9))]) ?_ ?_
         ·rcases cond_some ca with ⟨cc, ca⟩ | ⟨cc, ca⟩
          ·refine l_not' f rfl rfl rfl cc fun a f => ?_
           refine l_not' f rfl rfl rfl cc fun a f => l_not' f rfl rfl rfl cc fun a f => l_not' f rfl rfl rfl cc fun a f => l_not' f rfl rfl rfl cc fun a f => l_op f rfl rfl rfl (r_pickT (f.eval rfl) cc (f.eval rfl)) fun a f => ?_
           obtain rfl := sj ca
           exact ⟨_, (GLe.refl _), m, f.weak ⟨rfl, rfl, rfl, rfl, rfl, rfl, rfl, rfl, rfl, rfl, rfl, rfl, rfl, rfl, rfl, rfl, rfl, trivial⟩⟩
          ·refine l_run f rfl rfl cc ?_
           refine l_mv f rfl rfl fun a f => l_run f rfl rfl cc ?_
           refine l_fieldAddr Tryd.underlying41 rfl Tryd.sizeOf2 (by decide) f rfl rfl fun a f => l_run f rfl rfl cc ?_
           refine l_boxCell 0 1 m Pl2 f rfl rfl rfl rfl fun a f => l_run f rfl rfl cc ?_
           obtain ⟨cd, ce, ca⟩ := bind_some ca
           refine l_res f rfl rfl Tryd.call36 (Wk.g m  ce) fun cf cg ch w ci m cj a f => ?_
           obtain ⟨rfl, rfl⟩ := cj
           have h0 := RSr.mono trivial _ _ _ _ ci h0
           have bQ := od1 ci bQ
           refine l_run f rfl rfl cc ?_
           refine l_op f rfl rfl rfl (r_not (f.eval rfl)) fun a f => l_op f rfl rfl rfl (r_pickF (f.eval rfl) cc (f.eval rfl)) fun a f => ?_
           obtain rfl := sj ca
           exact ⟨_, ci, m, f.weak ⟨rfl, rfl, rfl, rfl, rfl, rfl, rfl, rfl, rfl, rfl, rfl, rfl, rfl, rfl, rfl, rfl, rfl, trivial⟩⟩
         ·rintro a w ⟨cb, ck, m, f⟩
          have h0 := RSr.mono trivial _ _ _ _ ck h0
          have bQ := od1 ck bQ
          refine l_nil ?_
          rcases cond_some bY with ⟨cl, bY⟩ | ⟨cl, bY⟩
          ·refine k_true f rfl cl ?_
           refine k_seq (k_region ?_)
           have cm : ∀ w, (Instr.build 29 #[]).run Tryd.prog w = .ok (.agg #[(.slice none 0 0)]) w := by intro w; simp [Instr.build, Instr.fill, cells_int, cells_bool, cells_string, cells_slice, cells_pointer, cells_agg]
           refine l_build f rfl rfl cm fun a f => l_boxStore 1 0 (ds := [(.slice none 0 0)]) m Tryd.sizeOf29 f rfl rfl rfl (ones_cons rfl ones_nil) rfl (Nat.le_of_ble_eq_true rfl) rfl fun w m => l_as f rfl rfl fun a f => l_nil ?_
           refine k_ret ?_
           obtain ⟨cn, m, co⟩ := Ow2.nil (RI .i64) 32 2 m
           have cp := rr_agg (P := Tryd.prog) 2 m Ag29 f (s := 2) rfl rfl rfl
           have m := m.eraseAt 3
           have m := m.eraseAt 2
           have m := m.eraseAt 1
           obtain rfl := sj bY
           obtain rfl := sj bN
           obtain rfl := bO _ rfl
           obtain rfl := sj hd
           exact ⟨[(.agg #[(.slice none 0 0)]), (.bool false)], ⟨cp, f.get _ _ rfl, trivial⟩, f.defers, _, [cn], (GLe.trans aL (GLe.trans aP (GLe.trans aR (GLe.trans bp (GLe.trans bP (GLe.trans b7 ck)))))), m, _, _, rfl, rfl, co⟩
          ·refine k_false f rfl cl ?_
           refine k_skip ?_
           refine k_seq (k_region ?_)
           refine l_fieldAddr Tryd.underlying41 rfl Tryd.sizeOf2 (by decide) f rfl rfl fun a f => l_boxCell 0 1 m Pl2 f rfl rfl rfl rfl fun a f => ?_
           obtain ⟨cq, cr, bY⟩ := bind_some bY
           refine l_res f rfl rfl Tryd.call38 (Wk.b m  cr) fun ct cu cv w cw m cx a f => ?_
           obtain ⟨rfl, rfl⟩ := cx
           have h0 := RSr.mono trivial _ _ _ _ cw h0
           have bQ := od1 cw bQ
           refine l_as f rfl rfl fun a f => l_nil (k_seq (k_region ?_))
           refine l_fieldAddr Tryd.underlying41 rfl Tryd.sizeOf2 (by decide) f rfl rfl fun a f => l_boxCell 0 2 m Pl2 f rfl rfl rfl rfl fun a f => l_nil (k_block (k_seq (k_region ?_)))
           refine l_in f rfl rfl rfl b_eql fun a f => l_as f rfl rfl fun a f => l_nil ?_
           rcases cond_some bY with ⟨cy, bY⟩ | ⟨cy, bY⟩
           ·refine k_true f rfl cy ?_
            refine k_region ?_
            refine l_mv f rfl rfl fun a f => l_as f rfl rfl fun a f => l_nil ?_
            have m : Mem W cu w (Itm.box aa 29 [(.slice none 0 0)] :: Itm.box bW 41 [(.int .i64 bS.1), (.int .i64 bS.2.1), (.int .i64 bS.2.2)] :: bL :: H) := m.front 1 rfl
            obtain rfl := sj bY
            exact ⟨_, rfl, _, rfl, _, (GLe.trans b7 (GLe.trans ck cw)), f.weak ⟨rfl, rfl, rfl, rfl, rfl, rfl, rfl, rfl, trivial⟩, m⟩
           ·refine k_false f rfl cy ?_
            refine k_seq (k_region ?_)
            refine l_in f rfl rfl rfl b_eql fun a f => l_as f rfl rfl fun a f => l_nil ?_
            rcases cond_some bY with ⟨cz, bY⟩ | ⟨cz, bY⟩
            ·refine k_true f rfl cz ?_
             refine k_region ?_
             refine l_mv f rfl rfl fun a f => l_fieldAddr Tryd.underlying41 rfl Tryd.sizeOf2 (by decide) f rfl rfl fun a f => l_boxCell 0 1 m Pl2 f rfl rfl rfl rfl fun a f => ?_
             obtain ⟨cA, cB, bY⟩ := bind_some bY
             refine l_own_at 2 m bQ rfl T56 f rfl rfl rfl cB fun cC a cD f => l_own_load 2 m bQ rfl Pl59 f rfl rfl cD cB fun cE a cF f => ?_
             subst cF
             refine l_as f rfl rfl fun a f => l_nil ?_
             have m : Mem W cu w (Itm.box aa 29 [(.slice none 0 0)] :: Itm.box bW 41 [(.int .i64 bS.1), (.int .i64 bS.2.1), (.int .i64 bS.2.2)] :: bL :: H) := m.front 1 rfl
             obtain rfl := sj bY
             exact ⟨_, rfl, _, rfl, _, (GLe.trans b7 (GLe.trans ck cw)), f.weak ⟨rfl, rfl, rfl, rfl, rfl, rfl, rfl, rfl, trivial⟩, m⟩
            ·refine k_false f rfl cz ?_
             refine k_seq (k_region ?_)
             refine l_in f rfl rfl rfl b_eql fun a f => l_as f rfl rfl fun a f => l_nil ?_
             rcases cond_some bY with ⟨cG, bY⟩ | ⟨cG, bY⟩
             ·refine k_true f rfl cG ?_
              refine k_region ?_
              refine l_mv f rfl rfl fun a f => l_fieldAddr Tryd.underlying41 rfl Tryd.sizeOf2 (by decide) f rfl rfl fun a f => l_boxCell 0 1 m Pl2 f rfl rfl rfl rfl fun a f => ?_
              obtain ⟨cH, cI, bY⟩ := bind_some bY
              refine l_own_at 2 m bQ rfl T56 f rfl rfl rfl cI fun cJ a cK f => l_own_load 2 m bQ rfl Pl59 f rfl rfl cK cI fun cL a cM f => ?_
              subst cM
              refine l_mv f rfl rfl fun a f => l_in f rfl rfl rfl b_or fun a f => l_as f rfl rfl fun a f => l_nil ?_
              have m : Mem W cu w (Itm.box aa 29 [(.slice none 0 0)] :: Itm.box bW 41 [(.int .i64 bS.1), (.int .i64 bS.2.1), (.int .i64 bS.2.2)] :: bL :: H) := m.front 1 rfl
              obtain rfl := sj bY
              exact ⟨_, rfl, _, rfl, _, (GLe.trans b7 (GLe.trans ck cw)), f.weak ⟨rfl, rfl, rfl, rfl, rfl, rfl, rfl, rfl, trivial⟩, m⟩
             ·refine k_false f rfl cG ?_
              refine k_skip ?_
              have m : Mem W cu w (Itm.box aa 29 [(.slice none 0 0)] :: Itm.box bW 41 [(.int .i64 bS.1), (.int .i64 bS.2.1), (.int .i64 bS.2.2)] :: bL :: H) := m.front 1 rfl
              obtain rfl := sj bY
              exact ⟨_, rfl, _, rfl, _, (GLe.trans b7 (GLe.trans ck cw)), f.weak ⟨rfl, rfl, rfl, rfl, rfl, rfl, rfl, rfl, trivial⟩, m⟩
        ·refine k_false f rfl b1 ?_
         refine k_skip ?_
         have m : Mem W bK w (Itm.box aa 29 [(.slice none 0 0)] :: Itm.box bW 41 [(.int .i64 bS.1), (.int .i64 bS.2.1), (.int .i64 bS.2.2)] :: bL :: H) := m.front 1 rfl
         obtain rfl := sj bY
         exact ⟨_, rfl, _, rfl, _, (GLe.refl _), f.weak ⟨rfl, rfl, rfl, rfl, rfl, rfl, rfl, rfl, trivial⟩, m⟩
       ·rintro a w ⟨_, rfl, bZ, rfl, b0, cN, f, m⟩
        have h0 := RSr.mono trivial _ _ _ _ cN h0
        have bQ := od1 cN bQ
        refine k_seq (k_seq (k_region ?_))
        refine l_mv f rfl rfl fun a f => ?_
        obtain ⟨cO, cP, bN⟩ := bind_some bN
        refine l_res f rfl rfl Tryd.call42 (Wk.n hW m  cP) fun cQ cR cS w cT m cU a f => ?_
        obtain ⟨cV, cW, rfl, rfl, cX⟩ := cU
        have h0 := RSr.mono trivial _ _ _ _ cT h0
        have bQ := od1 cT bQ
        refine l_own_len 0 m cX rfl Tryd.underlying76 f rfl rfl fun a f => l_mv f rfl rfl fun a f => l_nil ?_
        obtain ⟨cY, cZ, bN⟩ := bind_some bN
        refine k_cut (fun a w => ∃ c0 : List Int, c0 = cY ∧ ∃ (c1 : GH) (c2 : Itm), GLe cR c1 ∧ Fr a 126 [(0, v0), (2, (.pointer (some ⟨aa, 0, none⟩))), (4, (.int .i64 (x0.length : Int))), (8, bz), (9, (.int .u32 bI)), (10, (.int .i64 bJ)), (11, (.pointer (some ⟨bW, 0, none⟩)))] ∧ Mem W c1 w (Itm.box aa 29 [(.slice none 0 0)] :: Itm.box bW 41 [(.int .i64 bS.1), (.int .i64 bS.2.1), (.int .i64 bS.2.2)] :: c2 :: H) ∧ Ow (RI .u32) 59 c1 c2 bz c0) ?_ ?_
        ·refine k_block ?_
         have m := m.front 3 rfl
         have m := m.front 3 rfl
         have m : Mem W cR w (Itm.box aa 29 [(.slice none 0 0)] :: Itm.box bW 41 [(.int .i64 bS.1), (.int .i64 bS.2.1), (.int .i64 bS.2.2)] :: bL :: cW :: H) := m.front 3 rfl
         refine k_loop (fun c3 a w => ∃ c4 : List Int, ∃ c5 : Int, (c4, c5) = c3 ∧ ∃ (c6 : GH) (c7 : Itm), GLe cR c6 ∧ Fr a 126 [(0, v0), (2, (.pointer (some ⟨aa, 0, none⟩))), (4, (.int .i64 (x0.length : Int))), (8, bz), (9, (.int .u32 bI)), (10, (.int .i64 bJ)), (11, (.pointer (some ⟨bW, 0, none⟩))), (101, cV), (102, (.int .i64 (cO.length : Int))), (103, (.int .i64 c5))] ∧ Mem W c6 w (Itm.box aa 29 [(.slice none 0 0)] :: Itm.box bW 41 [(.int .i64 bS.1), (.int .i64 bS.2.1), (.int .i64 bS.2.2)] :: c7 :: cW :: H) ∧ Ow (RI .u32) 59 c6 c7 bz c4) cZ ⟨_, _, rfl, _, bL, (GLe.refl _), f.weak ⟨rfl, rfl, rfl, rfl, rfl, rfl, rfl, rfl, rfl, rfl, trivial⟩, m, bQ⟩ ?_
         clear cZ f m
         rintro c3 c8 c9 da a w ⟨c4, c5, rfl, c6, c7, db, f, m, dc⟩
         have h0 := RSr.mono trivial _ _ _ _ db h0
         have cX := od1 db cX
         refine k_seq (k_region ?_)
         refine l_in f rfl rfl rfl b_lss fun a f => l_nil (k_seq ?_)
         rcases cond_some c9 with ⟨dd, c9⟩ | ⟨dd, c9⟩
         ·refine k_true f rfl dd ?_
          refine k_skip ?_
          refine k_seq (k_block (k_seq (k_region ?_)))
          obtain ⟨de, df, c9⟩ := bind_some c9
          refine l_own_at 3 m cX rfl T76 f rfl rfl rfl df fun dg a dh f => l_own_load 3 m cX rfl Pl3 f rfl rfl dh df fun di a dj f => ?_
          subst dj
          refine l_as f rfl rfl fun a f => l_nil (k_region ?_)
          refine l_mv f rfl rfl fun a f => l_fieldAddr Tryd.underlying41 rfl Tryd.sizeOf2 (by decide) f rfl rfl fun a f => l_boxCell 1 0 m Pl2 f rfl rfl rfl rfl fun a f => l_mv f rfl rfl fun a f => ?_
          have m : Mem W c6 w (c7 :: Itm.box aa 29 [(.slice none 0 0)] :: Itm.box bW 41 [(.int .i64 bS.1), (.int .i64 bS.2.1), (.int .i64 bS.2.2)] :: cW :: H) := m.front 2 rfl
          obtain ⟨dk, dl, c9⟩ := bind_some c9
          refine l_res f rfl rfl Tryd.call43 (Wk.r m dc dl) fun dm dn dp w dq m dr a f => ?_
          obtain ⟨dt, rfl, du⟩ := dr
          have h0 := RSr.mono trivial _ _ _ _ dq h0
          have cX := od1 dq cX
          refine l_nil (k_region ?_)
          refine l_in f rfl rfl rfl b_add fun a f => l_mv f rfl rfl fun a f => l_nil ?_
          have m := m.front 2 rfl
          have m : Mem W dn w (Itm.box aa 29 [(.slice none 0 0)] :: Itm.box bW 41 [(.int .i64 bS.1), (.int .i64 bS.2.1), (.int .i64 bS.2.2)] :: dt :: cW :: H) := m.front 2 rfl
          obtain rfl := sj c9
          exact ⟨_, rfl, _, _, rfl, _, dt, (GLe.trans db dq), f.weak ⟨rfl, rfl, rfl, rfl, rfl, rfl, rfl, rfl, rfl, rfl, trivial⟩, m, du⟩
         ·refine k_false f rfl dd ?_
          refine k_exit rfl ?_
          have m : Mem W c6 w (Itm.box aa 29 [(.slice none 0 0)] :: Itm.box bW 41 [(.int .i64 bS.1), (.int .i64 bS.2.1), (.int .i64 bS.2.2)] :: c7 :: H) := m.eraseAt 3
          obtain rfl := sj c9
          obtain rfl := da _ rfl
          exact ⟨_, rfl, _, c7, db, f.weak ⟨rfl, rfl, rfl, rfl, rfl, rfl, rfl, trivial⟩, m, dc⟩
        ·rintro a w ⟨c0, rfl, c1, c2, dv, f, m, dw⟩
         have h0 := RSr.mono trivial _ _ _ _ dv h0
         refine k_region ?_
         refine l_mv f rfl rfl fun a f => l_fieldAddr Tryd.underlying41 rfl Tryd.sizeOf2 (by decide) f rfl rfl fun a f => l_boxCell 1 0 m Pl2 f rfl rfl rfl rfl fun a f => ?_
         obtain ⟨dx, dy, bN⟩ := bind_some bN
         refine l_res f rfl rfl Tryd.call38 (Wk.b m  dy) fun dz dA dB w dC m dD a f => ?_
         obtain ⟨rfl, rfl⟩ := dD
         have h0 := RSr.mono trivial _ _ _ _ dC h0
         have dw := od1 dC dw
         refine l_in f rfl rfl rfl b_or fun a f => l_as f rfl rfl fun a f => l_nil (k_region ?_)
         refine l_mv f rfl rfl fun a f => l_in f rfl rfl rfl b_sub fun a f => l_as f rfl rfl fun a f => l_nil ?_
         have m := m.front 2 rfl
         have m := m.front 1 rfl
         have m := m.eraseAt 2
         obtain rfl := sj bN
         exact ⟨_, rfl, _, _, _, rfl, _, c2, (GLe.trans bP (GLe.trans cN (GLe.trans cT (GLe.trans dv dC)))), f.weak ⟨rfl, rfl, rfl, rfl, rfl, rfl, trivial⟩, m, dw⟩
      ·refine k_false f rfl bR ?_
       refine k_exit rfl ?_
       obtain rfl := sj bN
       obtain rfl := bO _ rfl
       exact ⟨_, rfl, _, rfl, _, bL, bP, f.weak ⟨rfl, rfl, rfl, trivial⟩, m, bQ⟩
     ·rintro a w ⟨_, rfl, bD, rfl, bE, bF, dE, f, m, dF⟩
      have h0 := RSr.mono trivial _ _ _ _ dE h0
      refine k_seq (k_region ?_)
      refine l_mv f rfl rfl fun a f => ?_
      obtain ⟨dG, dH, hd⟩ := bind_some hd
      refine l_res f rfl rfl Tryd.call44 (Ow.lendCall (RI.mono _) 1 dF m rfl (fun dI dJ m dK => Wk.w0 hW m dK dH) (fun _ G' _ _ ⟨a0, a1, e1, e2, o0⟩ => ⟨a0, a1, e1, e2, Ow2.free (RI.free _) G' o0⟩)) fun dL dM dN w dO m dP a f => ?_
      obtain ⟨dQ, dR, rfl, rfl, dS⟩ := dP
      have h0 := RSr.mono trivial _ _ _ _ dO h0
      have dF := od1 dO dF
      refine l_alloc (cs := [(.slice none 0 0)]) Tryd.zeroValue29 m f rfl rfl fun dT w a m f => l_boxStore 0 0 (ds := [dQ]) m Tryd.sizeOf29 f rfl rfl rfl (ones_cons (Ow2.one1 1 m dS rfl) ones_nil) rfl (Nat.le_of_ble_eq_true rfl) rfl fun w m => l_nil (k_seq (k_seq (k_region ?_)))
      refine l_boxAgg 0 0 (ds := [dQ]) m Ag29 f rfl rfl rfl rfl rfl fun a f => l_mv f rfl rfl fun a f => ?_
      obtain ⟨dU, dV, hd⟩ := bind_some hd
      refine l_res f rfl rfl Tryd.call11 (Ow2.lendCall (RI.mono _) 1 dS m rfl (fun dW dX m dY => Wk.z m dY (RSr.mono trivial _ _ _ _ dX h0) dV) (fun _ _ _ _ h => h)) fun dZ d0 d1 w d2 m d3 a f => ?_
      obtain ⟨rfl, rfl⟩ := d3
      have h0 := RSr.mono trivial _ _ _ _ d2 h0
      have dS := Ow2.mono (RI.mono _) d2 dS
      have dF := od1 d2 dF
      refine l_op f rfl rfl rfl (r_not (f.eval rfl)) fun a f => l_nil ?_
      rcases cond_some hd with ⟨d4, hd⟩ | ⟨d4, hd⟩
      ·refine k_true f rfl d4 ?_
       refine k_seq (k_region ?_)
       have d5 : ∀ w, (Instr.build 29 #[]).run Tryd.prog w = .ok (.agg #[(.slice none 0 0)]) w := by intro w; simp [Instr.build, Instr.fill, cells_int, cells_bool, cells_string, cells_slice, cells_pointer, cells_agg]
       refine l_build f rfl rfl d5 fun a f => l_boxStore 2 0 (ds := [(.slice none 0 0)]) m Tryd.sizeOf29 f rfl rfl rfl (ones_cons rfl ones_nil) rfl (Nat.le_of_ble_eq_true rfl) rfl fun w m => l_as f rfl rfl fun a f => l_nil ?_
       refine k_ret ?_
       obtain ⟨d6, m, d7⟩ := Ow2.nil (RI .i64) 32 2 m
       have d8 := rr_agg (P := Tryd.prog) 3 m Ag29 f (s := 2) rfl rfl rfl
       have m := m.front 4 rfl
       have m := m.front 3 rfl
       have m : Mem W d0 w (d6 :: dR :: bF :: Itm.box dT 29 [dQ] :: Itm.box aa 29 [(.slice none 0 0)] :: H) := m.front 2 rfl
       have m := m.eraseAt 4
       have m := m.eraseAt 3
       have m : Mem W d0 w (d6 :: dR :: H) := m.eraseAt 2
       have m := m.eraseAt 1
       obtain rfl := sj hd
       exact ⟨[(.agg #[(.slice none 0 0)]), (.bool false)], ⟨d8, f.get _ _ rfl, trivial⟩, f.defers, _, [d6], (GLe.trans aL (GLe.trans aP (GLe.trans aR (GLe.trans bp (GLe.trans dE (GLe.trans dO d2)))))), m, _, _, rfl, rfl, d7⟩
      ·refine k_false f rfl d4 ?_
       refine k_skip ?_
       refine k_seq (k_region ?_)
       refine l_boxAgg 0 0 (ds := [dQ]) m Ag29 f rfl rfl rfl rfl rfl fun a f => l_boxStore 2 0 (ds := [dQ]) m Tryd.sizeOf29 f rfl rfl rfl (ones_cons (Ow2.one1 1 m dS rfl) ones_nil) rfl (Nat.le_of_ble_eq_true rfl) rfl fun w m => l_as f rfl rfl fun a f => l_nil ?_
       refine k_ret ?_
       have d9 := rr_agg (P := Tryd.prog) 2 m Ag29 f (s := 2) rfl rfl rfl
       have m := m.front 1 rfl
       have m := m.front 3 rfl
       have m : Mem W d0 w (dR :: bF :: Itm.box dT 29 [dQ] :: Itm.box aa 29 [dQ] :: H) := m.front 1 rfl
       have m := m.eraseAt 3
       have m := m.eraseAt 2
       have m := m.eraseAt 1
       obtain rfl := sj hd
       exact ⟨[(.agg #[dQ]), (.bool true)], ⟨d9, f.get _ _ rfl, trivial⟩, f.defers, _, [dR], (GLe.trans aL (GLe.trans aP (GLe.trans aR (GLe.trans bp (GLe.trans dE (GLe.trans dO d2)))))), m, _, _, rfl, rfl, dS⟩

theorem Wk.v0 {W w : World} {G : GH} {H : List Itm} {v0_0 : Value} {v1_0 : Value} {x0_0 : (List (List Int))} {x1_0 : (List (List Int))} (m : Mem W G w (H)) (h0_0 : RSl (RSl (RI .i64)) G v0_0 x0_0) (h1_0 : RSl (RSl (RI .i64)) G v1_0 x1_0) {y : Bool} (hd : D.v0 x0_0 x1_0 = some y) :
  Calls Tryd.prog 45 #[(.agg #[v0_0]), (.agg #[v1_0])] w (Res W G H (fun _ Ho v => Ho = [] ∧ v = (.bool y))) := by
 refine calls_b (args := [(.agg #[v0_0]), (.agg #[v1_0])]) (N := 32) [.tmp 4] Tryd.func45 rfl rfl (Nat.le_of_ble_eq_true rfl) rfl fun a f => ?_
 unfold D.v0 at hd
 refine k_seq (k_region ?_)
 refine l_box (cs := [v0_0]) m f rfl rfl rfl fun aa w a m f => l_box (cs := [v1_0]) m f rfl rfl rfl fun ab w a m f => l_as f rfl rfl fun a f => l_nil (k_seq (k_seq (k_region ?_)))
 refine l_fieldAddr Tryd.underlying29 rfl Tryd.sizeOf27 (by decide) f rfl rfl fun a f => l_boxCell 1 0 m Pl27 f rfl rfl rfl rfl fun a f => l_len Tryd.underlying27 f rfl rfl h0_0 fun a f => l_fieldAddr Tryd.underlying29 rfl Tryd.sizeOf27 (by decide) f rfl rfl fun a f => l_boxCell 0 0 m Pl27 f rfl rfl rfl rfl fun a f => l_len Tryd.underlying27 f rfl rfl h1_0 fun a f => l_in f rfl rfl rfl b_neq fun a f => l_nil ?_
 rcases cond_some hd with ⟨ac, hd⟩ | ⟨ac, hd⟩
 ·refine k_true f rfl ac ?_
  refine k_seq (k_region ?_)
  refine l_as f rfl rfl fun a f => l_nil ?_
  refine k_ret ?_
  have m : Mem W G w H := Mem.drop (H' := [Itm.box ab 29 [v1_0], Itm.box aa 29 [v0_0]]) m
  obtain rfl := sj hd
  exact ⟨[(.bool false)], ⟨f.get _ _ rfl, trivial⟩, f.defers, _, [], (GLe.refl _), m, rfl, rfl⟩
 ·refine k_false f rfl ac ?_
  refine k_skip ?_
  refine k_seq (k_seq (k_region ?_))
  refine l_as f rfl rfl fun a f => l_nil ?_
  obtain ⟨ad, ae, hd⟩ := bind_some hd
  refine k_cut (fun a w => ∃ q_46' : Unit, ad = .inl q_46' ∧ ∃ (af : GH), GLe G af ∧ Fr a 32 [] ∧ Mem W af w (H)) ?_ ?_
  ·refine k_block ?_
   have m := m.front 1 rfl
   refine k_loop (fun ag a w => ∃ ah : Int, ah = ag ∧ ∃ (ai : GH), GLe G ai ∧ Fr a 32 [(2, (.pointer (some ⟨aa, 0, none⟩))), (3, (.pointer (some ⟨ab, 0, none⟩))), (5, (.int .i64 ah))] ∧ Mem W ai w (Itm.box aa 29 [v0_0] :: Itm.box ab 29 [v1_0] :: H)) ae ⟨_, rfl, _, (GLe.refl _), f.weak ⟨rfl, rfl, rfl, trivial⟩, m⟩ ?_
   clear ae f m
   rintro ag aj ak al a w ⟨ah, rfl, ai, am, f, m⟩
   have h0_0 := rd2 am h0_0
   have h1_0 := rd2 am h1_0
   refine k_seq (k_seq (k_region ?_))
   refine l_mv f rfl rfl fun a f => l_fieldAddr Tryd.underlying29 rfl Tryd.sizeOf27 (by decide) f rfl rfl fun a f => l_boxCell 0 0 m Pl27 f rfl rfl rfl rfl fun a f => l_len Tryd.underlying27 f rfl rfl h0_0 fun a f => l_in f rfl rfl rfl b_lss fun a f => l_nil ?_
   rcases cond_some ak with ⟨an, ak⟩ | ⟨an, ak⟩
   ·refine k_true f rfl an ?_
    refine k_skip ?_
    refine k_seq (k_block (k_seq ?_))
    refine k_draw 12 Follows (by kernel_rfl) m ?_
    refine q_fieldAddr (i := 0) 12 Tryd.underlying29 rfl Tryd.sizeOf27 (by decide) rfl (by kernel_rfl) rfl f rfl rfl rfl fun a f => q_boxCell (i := 1) 12 0 Pl27 rfl rfl rfl (by kernel_rfl) rfl f rfl rfl rfl fun a f => q_mv 2 12 rfl (by kernel_rfl) f rfl rfl rfl fun a f => ?_
    obtain ⟨ao, ap, ak⟩ := bind_some ak
    refine q_at (i := 3) 12 T27 h0_0 ap rfl (by kernel_rfl) rfl f rfl rfl rfl rfl fun aq ar a au av f => q_loadAt (i := 4) 12 Pl32 au rfl (by kernel_rfl) rfl f rfl rfl rfl fun a f => q_fieldAddr (i := 5) 12 Tryd.underlying29 rfl Tryd.sizeOf27 (by decide) rfl (by kernel_rfl) rfl f rfl rfl rfl fun a f => q_boxCell (i := 6) 12 1 Pl27 rfl rfl rfl (by kernel_rfl) rfl f rfl rfl rfl fun a f => q_mv 7 12 rfl (by kernel_rfl) f rfl rfl rfl fun a f => ?_
    obtain ⟨aw, ax, ak⟩ := bind_some ak
    refine q_at (i := 8) 12 T27 h1_0 ax rfl (by kernel_rfl) rfl f rfl rfl rfl rfl fun ay az a aA aB f => q_loadAt (i := 9) 12 Pl32 aA rfl (by kernel_rfl) rfl f rfl rfl rfl fun a f => ?_
    obtain ⟨aC, aD, ak⟩ := bind_some ak
    refine q_call (i := 10) 12 rfl (by kernel_rfl) rfl f rfl rfl rfl Tryd.call72 (fun _ _ w aE m => Wk.f m (rd1 aE av) (rd1 aE aB) aD) fun a f => q_p 11 12 rfl (by kernel_rfl) f rfl rfl rfl (fun _ => r_not (f.eval rfl)) fun a f => q_end fun aF w aG m => ?_
    have h0_0 := rd2 aG h0_0
    have au := At.mono aG au
    have av := rd1 aG av
    have h1_0 := rd2 aG h1_0
    have aA := At.mono aG aA
    have aB := rd1 aG aB
    refine l_nil ?_
    rcases cond_some ak with ⟨aH, ak⟩ | ⟨aH, ak⟩
    ·refine k_true f rfl aH ?_
     refine k_seq (k_region ?_)
     refine l_as f rfl rfl fun a f => l_nil ?_
     refine k_ret ?_
     have m : Mem W aF w H := Mem.drop (H' := [Itm.box aa 29 [v0_0], Itm.box ab 29 [v1_0]]) m
     obtain rfl := sj ak
     obtain rfl := al _ rfl
     obtain rfl := sj hd
     exact ⟨[(.bool false)], ⟨f.get _ _ rfl, trivial⟩, f.defers, _, [], (GLe.trans am aG), m, rfl, rfl⟩
    ·refine k_false f rfl aH ?_
     refine k_skip ?_
     refine k_region ?_
     refine l_mv f rfl rfl fun a f => l_in f rfl rfl rfl b_add fun a f => l_as f rfl rfl fun a f => l_nil ?_
     obtain rfl := sj ak
     exact ⟨_, rfl, _, rfl, _, (GLe.trans am aG), f.weak ⟨rfl, rfl, rfl, trivial⟩, m⟩
   ·refine k_false f rfl an ?_
    refine k_exit rfl ?_
    have m : Mem W ai w H := Mem.drop (H' := [Itm.box aa 29 [v0_0], Itm.box ab 29 [v1_0]]) m
    obtain rfl := sj ak
    obtain rfl := al _ rfl
    exact ⟨_, rfl, _, am, f.weak trivial, m⟩
  ·rintro a w ⟨_, rfl, af, aI, f, m⟩
   refine k_seq (k_region ?_)
   refine l_as f rfl rfl fun a f => l_nil ?_
   refine k_ret ?_
   obtain rfl := sj hd
   exact ⟨[(.bool true)], ⟨f.get _ _ rfl, trivial⟩, f.defers, _, [], aI, m, rfl, rfl⟩

theorem Wk.d0 {W w : World} {G : GH} {H : List Itm} {v0_0 : Value} {v1_0 : Value} {x0_0 : (List (List Int))} {x1_0 : (List (List Int))} (m : Mem W G w (H)) (h0_0 : RSl (RSl (RI .i64)) G v0_0 x0_0) (h1_0 : RSl (RSl (RI .i64)) G v1_0 x1_0) {y : Bool} (hd : D.d0 x0_0 x1_0 = some y) :
  Calls Tryd.prog 13 #[(.agg #[v0_0]), (.agg #[v1_0])] w (Res W G H (fun _ Ho v => Ho = [] ∧ v = (.bool y))) := by
 refine calls_b (args := [(.agg #[v0_0]), (.agg #[v1_0])]) (N := 16) [.tmp 4] Tryd.func13 rfl rfl (Nat.le_of_ble_eq_true rfl) rfl fun a f => ?_
 unfold D.d0 at hd
 refine k_seq (k_region ?_)
 refine l_box (cs := [v0_0]) m f rfl rfl rfl fun aa w a m f => l_box (cs := [v1_0]) m f rfl rfl rfl fun ab w a m f => l_as f rfl rfl fun a f => l_nil (k_seq (k_region ?_))
 refine l_boxAgg 1 0 (ds := [v0_0]) m Ag29 f rfl rfl rfl rfl rfl fun a f => ?_
 obtain ⟨ac, ad, hd⟩ := bind_some hd
 refine l_res f rfl rfl Tryd.call30 (Wk.m m h0_0 ad) fun ae af ag w ah m ai a f => ?_
 obtain ⟨rfl, rfl⟩ := ai
 have h0_0 := rd2 ah h0_0
 have h1_0 := rd2 ah h1_0
 refine l_mv f rfl rfl fun a f => ?_
 obtain ⟨aj, ak, hd⟩ := bind_some hd
 refine l_cut 3 (fun a w => ∃ al, GLe af al ∧ Mem W al w (Itm.box ab 29 [v1_0] :: Itm.box aa 29 [v0_0] :: H) ∧ Fr a 16 [(0, (.agg #[v0_0])), (1, (.agg #[v1_0])), (2, (.pointer (some ⟨aa, 0, none⟩))), (3, (.pointer (some ⟨ab, 0, none⟩))), (5, (.agg #[v0_0])), (6, (.bool ac)), (7, (.bool ac)), (10, (.bool aj))]) ?_ ?_
 ·rcases cond_some ak with ⟨am, ak⟩ | ⟨am, ak⟩
  ·refine l_run f rfl rfl am ?_
   refine l_boxAgg 0 0 (ds := [v1_0]) m Ag29 f rfl rfl rfl rfl rfl fun a f => l_run f rfl rfl am ?_
   obtain ⟨an, ao, ak⟩ := bind_some ak
   refine l_res f rfl rfl Tryd.call30 (Wk.m m h1_0 ao) fun ap aq ar w au m av a f => ?_
   obtain ⟨rfl, rfl⟩ := av
   have h0_0 := rd2 au h0_0
   have h1_0 := rd2 au h1_0
   refine l_op f rfl rfl rfl (r_pickT (f.eval rfl) am (f.eval rfl)) fun a f => ?_
   obtain rfl := sj ak
   exact ⟨_, au, m, f.weak ⟨rfl, rfl, rfl, rfl, rfl, rfl, rfl, rfl, trivial⟩⟩
  ·refine l_not' f rfl rfl rfl am fun a f => ?_
   refine l_not' f rfl rfl rfl am fun a f => l_op f rfl rfl rfl (r_pickF (f.eval rfl) am (f.eval rfl)) fun a f => ?_
   obtain rfl := sj ak
   exact ⟨_, (GLe.refl _), m, f.weak ⟨rfl, rfl, rfl, rfl, rfl, rfl, rfl, rfl, trivial⟩⟩
 ·rintro a w ⟨al, aw, m, f⟩
  have h0_0 := rd2 aw h0_0
  have h1_0 := rd2 aw h1_0
  refine l_mv f rfl rfl fun a f => ?_
  obtain ⟨ax, ay, hd⟩ := bind_some hd
  refine l_cut 4 (fun a w => ∃ az, GLe al az ∧ Mem W az w (Itm.box ab 29 [v1_0] :: Itm.box aa 29 [v0_0] :: H) ∧ Fr a 16 [(0, (.agg #[v0_0])), (1, (.agg #[v1_0])), (2, (.pointer (some ⟨aa, 0, none⟩))), (3, (.pointer (some ⟨ab, 0, none⟩))), (5, (.agg #[v0_0])), (6, (.bool ac)), (7, (.bool ac)), (10, (.bool aj)), (11, (.bool aj)), (15, (.bool ax))]) ?_ ?_
  ·rcases cond_some ay with ⟨aA, ay⟩ | ⟨aA, ay⟩
   ·refine l_run f rfl rfl aA ?_
    refine l_boxAgg 1 0 (ds := [v0_0]) m Ag29 f rfl rfl rfl rfl rfl fun a f => l_run f rfl rfl aA ?_
    refine l_boxAgg 0 0 (ds := [v1_0]) m Ag29 f rfl rfl rfl rfl rfl fun a f => l_run f rfl rfl aA ?_
    obtain ⟨aB, aC, ay⟩ := bind_some ay
    refine l_res f rfl rfl Tryd.call45 (Wk.v0 m h0_0 h1_0 aC) fun aD aE aF w aG m aH a f => ?_
    obtain ⟨rfl, rfl⟩ := aH
    have h0_0 := rd2 aG h0_0
    have h1_0 := rd2 aG h1_0
    refine l_op f rfl rfl rfl (r_pickT (f.eval rfl) aA (f.eval rfl)) fun a f => ?_
    obtain rfl := sj ay
    exact ⟨_, aG, m, f.weak ⟨rfl, rfl, rfl, rfl, rfl, rfl, rfl, rfl, rfl, rfl, trivial⟩⟩
   ·refine l_not' f rfl rfl rfl aA fun a f => ?_
    refine l_not' f rfl rfl rfl aA fun a f => l_not' f rfl rfl rfl aA fun a f => l_op f rfl rfl rfl (r_pickF (f.eval rfl) aA (f.eval rfl)) fun a f => ?_
    obtain rfl := sj ay
    exact ⟨_, (GLe.refl _), m, f.weak ⟨rfl, rfl, rfl, rfl, rfl, rfl, rfl, rfl, rfl, rfl, trivial⟩⟩
  ·rintro a w ⟨az, aI, m, f⟩
   have h0_0 := rd2 aI h0_0
   have h1_0 := rd2 aI h1_0
   refine l_as f rfl rfl fun a f => l_nil ?_
   refine k_ret ?_
   have m : Mem W az w H := Mem.drop (H' := [Itm.box ab 29 [v1_0], Itm.box aa 29 [v0_0]]) m
   obtain rfl := sj hd
   exact ⟨[(.bool ax)], ⟨f.get _ _ rfl, trivial⟩, f.defers, _, [], (GLe.trans ah (GLe.trans aw aI)), m, rfl, rfl⟩

theorem Wk.C0 {W w : World} {G : GH} {H : List Itm} {v0_0 : Value} {x0_0 : (List (List Int))} {x1 : Int} (m : Mem W G w (H)) (h0_0 : RSl (RSl (RI .i64)) G v0_0 x0_0) {y : Bool} (hd : D.C0 x0_0 x1 = some y) :
  Calls Tryd.prog 46 #[(.agg #[v0_0]), (.int .i64 x1)] w (Res W G H (fun _ Ho v => Ho = [] ∧ v = (.bool y))) := by
 refine calls_b (args := [(.agg #[v0_0]), (.int .i64 x1)]) (N := 15) [.tmp 4] Tryd.func46 rfl rfl (Nat.le_of_ble_eq_true rfl) rfl fun a f => ?_
 unfold D.C0 at hd
 refine k_seq (k_region ?_)
 refine l_box (cs := [v0_0]) m f rfl rfl rfl fun aa w a m f => l_as f rfl rfl fun a f => l_nil (k_seq (k_region ?_))
 refine l_boxAgg 0 0 (ds := [v0_0]) m Ag29 f rfl rfl rfl rfl rfl fun a f => ?_
 obtain ⟨ab, ac, hd⟩ := bind_some hd
 refine l_res f rfl rfl Tryd.call25 (Wk.l m h0_0 ac) fun ad ae af w ag m ah a f => ?_
 obtain ⟨rfl, rfl⟩ := ah
 have h0_0 := rd2 ag h0_0
 refine l_mv f rfl rfl fun a f => ?_
 obtain ⟨ai, aj, hd⟩ := bind_some hd
 refine l_cut 7 (fun a w => ∃ ak, GLe ae ak ∧ Mem W ak w (Itm.box aa 29 [v0_0] :: H) ∧ Fr a 15 [(0, (.agg #[v0_0])), (1, (.int .i64 x1)), (2, (.pointer (some ⟨aa, 0, none⟩))), (5, (.agg #[v0_0])), (6, (.bool ab)), (7, (.bool ab)), (14, (.bool ai))]) ?_ ?_
 ·rcases cond_some aj with ⟨al, aj⟩ | ⟨al, aj⟩
  ·refine l_run f rfl rfl al ?_
   refine l_mv f rfl rfl fun a f => l_run f rfl rfl al ?_
   refine l_fieldAddr Tryd.underlying29 rfl Tryd.sizeOf27 (by decide) f rfl rfl fun a f => l_run f rfl rfl al ?_
   refine l_boxCell 0 0 m Pl27 f rfl rfl rfl rfl fun a f => l_run f rfl rfl al ?_
   refine l_len Tryd.underlying27 f rfl rfl h0_0 fun a f => l_run f rfl rfl al ?_
   refine l_in f rfl rfl rfl b_sub fun a f => l_run f rfl rfl al ?_
   obtain ⟨am, an, aj⟩ := bind_some aj
   refine l_res f rfl rfl Tryd.call35 (Wk.i m  an) fun ao ap aq w ar m au a f => ?_
   obtain ⟨rfl, rfl⟩ := au
   have h0_0 := rd2 ar h0_0
   refine l_op f rfl rfl rfl (r_pickT (f.eval rfl) al (f.eval rfl)) fun a f => ?_
   obtain rfl := sj aj
   exact ⟨_, ar, m, f.weak ⟨rfl, rfl, rfl, rfl, rfl, rfl, rfl, trivial⟩⟩
  ·refine l_not' f rfl rfl rfl al fun a f => ?_
   refine l_not' f rfl rfl rfl al fun a f => l_not' f rfl rfl rfl al fun a f => l_not' f rfl rfl rfl al fun a f => l_not' f rfl rfl rfl al fun a f => l_not' f rfl rfl rfl al fun a f => l_op f rfl rfl rfl (r_pickF (f.eval rfl) al (f.eval rfl)) fun a f => ?_
   obtain rfl := sj aj
   exact ⟨_, (GLe.refl _), m, f.weak ⟨rfl, rfl, rfl, rfl, rfl, rfl, rfl, trivial⟩⟩
 ·rintro a w ⟨ak, av, m, f⟩
  have h0_0 := rd2 av h0_0
  refine l_as f rfl rfl fun a f => l_nil ?_
  refine k_ret ?_
  have m : Mem W ak w H := Mem.drop (H' := [Itm.box aa 29 [v0_0]]) m
  obtain rfl := sj hd
  exact ⟨[(.bool ai)], ⟨f.get _ _ rfl, trivial⟩, f.defers, _, [], (GLe.trans ag av), m, rfl, rfl⟩

theorem Wk.e0 {W w : World} {G : GH} {H : List Itm} {v0_0 : Value} {v1 : Value} {x0_0 : (List (List Int))} {x1 : (List Int)} (m : Mem W G w (H)) (h0_0 : RSl (RSl (RI .i64)) G v0_0 x0_0) (h1 : RSl (RI .i64) G v1 x1) {y : Bool} (hd : D.e0 x0_0 x1 = some y) :
  Calls Tryd.prog 47 #[(.agg #[v0_0]), v1] w (Res W G H (fun _ Ho v => Ho = [] ∧ v = (.bool y))) := by
 refine calls_b (args := [(.agg #[v0_0]), v1]) (N := 14) [.tmp 4] Tryd.func47 rfl rfl (Nat.le_of_ble_eq_true rfl) rfl fun a f => ?_
 unfold D.e0 at hd
 refine k_seq (k_region ?_)
 refine l_box (cs := [v0_0]) m f rfl rfl rfl fun aa w a m f => l_as f rfl rfl fun a f => l_nil (k_seq (k_region ?_))
 refine l_boxAgg 0 0 (ds := [v0_0]) m Ag29 f rfl rfl rfl rfl rfl fun a f => ?_
 obtain ⟨ab, ac, hd⟩ := bind_some hd
 refine l_res f rfl rfl Tryd.call25 (Wk.l m h0_0 ac) fun ad ae af w ag m ah a f => ?_
 obtain ⟨rfl, rfl⟩ := ah
 have h0_0 := rd2 ag h0_0
 have h1 := rd1 ag h1
 refine l_mv f rfl rfl fun a f => ?_
 obtain ⟨ai, aj, hd⟩ := bind_some hd
 refine l_cut 6 (fun a w => ∃ ak, GLe ae ak ∧ Mem W ak w (Itm.box aa 29 [v0_0] :: H) ∧ Fr a 14 [(0, (.agg #[v0_0])), (1, v1), (2, (.pointer (some ⟨aa, 0, none⟩))), (5, (.agg #[v0_0])), (6, (.bool ab)), (7, (.bool ab)), (13, (.bool ai))]) ?_ ?_
 ·rcases cond_some aj with ⟨al, aj⟩ | ⟨al, aj⟩
  ·refine l_run f rfl rfl al ?_
   refine l_mv f rfl rfl fun a f => l_run f rfl rfl al ?_
   refine l_fieldAddr Tryd.underlying29 rfl Tryd.sizeOf27 (by decide) f rfl rfl fun a f => l_run f rfl rfl al ?_
   refine l_boxCell 0 0 m Pl27 f rfl rfl rfl rfl fun a f => l_run f rfl rfl al ?_
   refine l_len Tryd.underlying27 f rfl rfl h0_0 fun a f => l_run f rfl rfl al ?_
   obtain ⟨am, an, aj⟩ := bind_some aj
   refine l_res f rfl rfl Tryd.call39 (Wk.q m h1 an) fun ao ap aq w ar m au a f => ?_
   obtain ⟨rfl, rfl⟩ := au
   have h0_0 := rd2 ar h0_0
   have h1 := rd1 ar h1
   refine l_op f rfl rfl rfl (r_pickT (f.eval rfl) al (f.eval rfl)) fun a f => ?_
   obtain rfl := sj aj
   exact ⟨_, ar, m, f.weak ⟨rfl, rfl, rfl, rfl, rfl, rfl, rfl, trivial⟩⟩
  ·refine l_not' f rfl rfl rfl al fun a f => ?_
   refine l_not' f rfl rfl rfl al fun a f => l_not' f rfl rfl rfl al fun a f => l_not' f rfl rfl rfl al fun a f => l_not' f rfl rfl rfl al fun a f => l_op f rfl rfl rfl (r_pickF (f.eval rfl) al (f.eval rfl)) fun a f => ?_
   obtain rfl := sj aj
   exact ⟨_, (GLe.refl _), m, f.weak ⟨rfl, rfl, rfl, rfl, rfl, rfl, rfl, trivial⟩⟩
 ·rintro a w ⟨ak, av, m, f⟩
  have h0_0 := rd2 av h0_0
  have h1 := rd1 av h1
  refine l_as f rfl rfl fun a f => l_nil ?_
  refine k_ret ?_
  have m : Mem W ak w H := Mem.drop (H' := [Itm.box aa 29 [v0_0]]) m
  obtain rfl := sj hd
  exact ⟨[(.bool ai)], ⟨f.get _ _ rfl, trivial⟩, f.defers, _, [], (GLe.trans ag av), m, rfl, rfl⟩

theorem Wk.M {W w : World} {G : GH} {H : List Itm} {v0_0 : Value} {v1 : Value} {x0_0 : (List (List Int))} {x1 : (List Int)} {x2 : Int} (m : Mem W G w (H)) (h0_0 : RSl (RSl (RI .i64)) G v0_0 x0_0) (h1 : RSl (RI .i64) G v1 x1) {y : Int × Int × Int × Bool} (hd : D.M x0_0 x1 x2 = some y) :
  Calls Tryd.prog 14 #[(.agg #[v0_0]), v1, (.int .i64 x2)] w (Res W G H (fun _ Ho v => Ho = [] ∧ v = .tuple #[(.agg #[(.int .i64 y.1), (.int .i64 y.2.1), (.int .i64 y.2.2.1)]), (.bool y.2.2.2)])) := by
 refine calls_b (args := [(.agg #[v0_0]), v1, (.int .i64 x2)]) (N := 34) [.cell 6 41, .tmp 7] Tryd.func14 rfl rfl (Nat.le_of_ble_eq_true rfl) rfl fun a f => ?_
 unfold D.M at hd
 refine k_seq (k_region ?_)
 refine l_box (cs := [v0_0]) m f rfl rfl rfl fun aa w a m f => l_alloc (cs := [(.int .i64 0), (.int .i64 0), (.int .i64 0)]) Tryd.zeroValue41 m f rfl rfl fun ab w a m f => l_as f rfl rfl fun a f => l_nil (k_seq (k_seq (k_region ?_)))
 refine l_boxAgg 1 0 (ds := [v0_0]) m Ag29 f rfl rfl rfl rfl rfl fun a f => l_mv f rfl rfl fun a f => ?_
 obtain ⟨ac, ad, hd⟩ := bind_some hd
 refine l_res f rfl rfl Tryd.call46 (Wk.C0 m h0_0 ad) fun ae af ag w ah m ai a f => ?_
 obtain ⟨rfl, rfl⟩ := ai
 have h0_0 := rd2 ah h0_0
 have h1 := rd1 ah h1
 refine l_op f rfl rfl rfl (r_not (f.eval rfl)) fun a f => l_mv f rfl rfl fun a f => ?_
 obtain ⟨aj, ak, hd⟩ := bind_some hd
 refine l_cut 5 (fun a w => ∃ al, GLe af al ∧ Mem W al w (Itm.box ab 41 [(.int .i64 0), (.int .i64 0), (.int .i64 0)] :: Itm.box aa 29 [v0_0] :: H) ∧ Fr a 34 [(0, (.agg #[v0_0])), (1, v1), (2, (.int .i64 x2)), (3, (.pointer (some ⟨aa, 0, none⟩))), (6, (.pointer (some ⟨ab, 0, none⟩))), (8, (.agg #[v0_0])), (9, (.int .i64 x2)), (10, (.bool ac)), (11, (.bool (!ac))), (12, (.bool (!ac))), (17, (.bool aj))]) ?_ ?_
 ·rcases cond_some ak with ⟨am, ak⟩ | ⟨am, ak⟩
  ·refine l_not' f rfl rfl rfl am fun a f => ?_
   refine l_not' f rfl rfl rfl am fun a f => l_not' f rfl rfl rfl am fun a f => l_not' f rfl rfl rfl am fun a f => l_op f rfl rfl rfl (r_pickT (f.eval rfl) am (f.eval rfl)) fun a f => ?_
   obtain rfl := sj ak
   exact ⟨_, (GLe.refl _), m, f.weak ⟨rfl, rfl, rfl, rfl, rfl, rfl, rfl, rfl, rfl, rfl, rfl, trivial⟩⟩
  ·refine l_run f rfl rfl am ?_
   refine l_boxAgg 1 0 (ds := [v0_0]) m Ag29 f rfl rfl rfl rfl rfl fun a f => l_run f rfl rfl am ?_
   refine l_mv f rfl rfl fun a f => l_run f rfl rfl am ?_
   obtain ⟨an, ao, ak⟩ := bind_some ak
   refine l_res f rfl rfl Tryd.call47 (Wk.e0 m h0_0 h1 ao) fun ap aq ar w au m av a f => ?_
   obtain ⟨rfl, rfl⟩ := av
   have h0_0 := rd2 au h0_0
   have h1 := rd1 au h1
   refine l_run f rfl rfl am ?_
   refine l_op f rfl rfl rfl (r_not (f.eval rfl)) fun a f => l_op f rfl rfl rfl (r_pickF (f.eval rfl) am (f.eval rfl)) fun a f => ?_
   obtain rfl := sj ak
   exact ⟨_, au, m, f.weak ⟨rfl, rfl, rfl, rfl, rfl, rfl, rfl, rfl, rfl, rfl, rfl, trivial⟩⟩
 ·rintro a w ⟨al, aw, m, f⟩
  have h0_0 := rd2 aw h0_0
  have h1 := rd1 aw h1
  refine l_mv f rfl rfl fun a f => ?_
  obtain ⟨ax, ay, hd⟩ := bind_some hd
  refine l_cut 6 (fun a w => ∃ az, GLe al az ∧ Mem W az w (Itm.box ab 41 [(.int .i64 0), (.int .i64 0), (.int .i64 0)] :: Itm.box aa 29 [v0_0] :: H) ∧ Fr a 34 [(0, (.agg #[v0_0])), (1, v1), (2, (.int .i64 x2)), (3, (.pointer (some ⟨aa, 0, none⟩))), (6, (.pointer (some ⟨ab, 0, none⟩))), (8, (.agg #[v0_0])), (9, (.int .i64 x2)), (10, (.bool ac)), (11, (.bool (!ac))), (12, (.bool (!ac))), (17, (.bool aj)), (18, (.bool aj)), (24, (.bool ax))]) ?_ ?_
  ·rcases cond_some ay with ⟨aA, ay⟩ | ⟨aA, ay⟩
   ·refine l_not' f rfl rfl rfl aA fun a f => ?_
    refine l_not' f rfl rfl rfl aA fun a f => l_not' f rfl rfl rfl aA fun a f => l_not' f rfl rfl rfl aA fun a f => l_not' f rfl rfl rfl aA fun a f => l_op f rfl rfl rfl (r_pickT (f.eval rfl) aA (f.eval rfl)) fun a f => ?_
    obtain rfl := sj ay
    exact ⟨_, (GLe.refl _), m, f.weak ⟨rfl, rfl, rfl, rfl, rfl, rfl, rfl, rfl, rfl, rfl, rfl, rfl, rfl, trivial⟩⟩
   ·refine l_run f rfl rfl aA ?_
    refine l_mv f rfl rfl fun a f => l_run f rfl rfl aA ?_
    obtain ⟨aB, aC, ay⟩ := bind_some ay
    refine l_res f rfl rfl Tryd.call48 (Wk.t m h1 aC) fun aD aE aF w aG m aH a f => ?_
    obtain ⟨rfl, rfl⟩ := aH
    have h0_0 := rd2 aG h0_0
    have h1 := rd1 aG h1
    refine l_run f rfl rfl aA ?_
    refine l_mv f rfl rfl fun a f => l_run f rfl rfl aA ?_
    obtain ⟨aI, aJ, ay⟩ := bind_some ay
    refine l_res f rfl rfl Tryd.call36 (Wk.g m  aJ) fun aK aL aM w aN m aO a f => ?_
    obtain ⟨rfl, rfl⟩ := aO
    have h0_0 := rd2 aN h0_0
    have h1 := rd1 aN h1
    refine l_run f rfl rfl aA ?_
    refine l_op f rfl rfl rfl (r_not (f.eval rfl)) fun a f => l_op f rfl rfl rfl (r_pickF (f.eval rfl) aA (f.eval rfl)) fun a f => ?_
    obtain rfl := sj ay
    exact ⟨_, (GLe.trans aG aN), m, f.weak ⟨rfl, rfl, rfl, rfl, rfl, rfl, rfl, rfl, rfl, rfl, rfl, rfl, rfl, trivial⟩⟩
  ·rintro a w ⟨az, aP, m, f⟩
   have h0_0 := rd2 aP h0_0
   have h1 := rd1 aP h1
   refine l_nil ?_
   rcases cond_some hd with ⟨aQ, hd⟩ | ⟨aQ, hd⟩
   ·refine k_true f rfl aQ ?_
    refine k_seq (k_region ?_)
    have aR : ∀ w, (Instr.build 41 #[]).run Tryd.prog w = .ok (.agg #[(.int .i64 0), (.int .i64 0), (.int .i64 0)]) w := by intro w; simp [Instr.build, Instr.fill, cells_int, cells_bool, cells_string, cells_slice, cells_pointer, cells_agg]
    refine l_build f rfl rfl aR fun a f => l_boxStore 0 0 (ds := [(.int .i64 0), (.int .i64 0), (.int .i64 0)]) m Tryd.sizeOf41 f rfl rfl rfl (ones_cons rfl (ones_cons rfl (ones_cons rfl ones_nil))) rfl (Nat.le_of_ble_eq_true rfl) rfl fun w m => l_as f rfl rfl fun a f => l_nil ?_
    refine k_ret ?_
    have aS := rr_agg (P := Tryd.prog) 0 m Ag41 f (s := 6) rfl rfl rfl
    have m : Mem W az w H := Mem.drop (H' := [Itm.box ab 41 [(.int .i64 0), (.int .i64 0), (.int .i64 0)], Itm.box aa 29 [v0_0]]) m
    obtain rfl := sj hd
    exact ⟨[(.agg #[(.int .i64 0), (.int .i64 0), (.int .i64 0)]), (.bool false)], ⟨aS, f.get _ _ rfl, trivial⟩, f.defers, _, [], (GLe.trans ah (GLe.trans aw aP)), m, rfl, rfl⟩
   ·refine k_false f rfl aQ ?_
    refine k_skip ?_
    refine k_seq (k_region ?_)
    refine l_boxAgg 1 0 (ds := [v0_0]) m Ag29 f rfl rfl rfl rfl rfl fun a f => ?_
    obtain ⟨aT, aU, hd⟩ := bind_some hd
    refine l_res f rfl rfl Tryd.call26 (Wk.v m h0_0 aU) fun aV aW aX w aY m aZ a f => ?_
    obtain ⟨a0, a1, rfl, rfl, a2⟩ := aZ
    have h0_0 := rd2 aY h0_0
    have h1 := rd1 aY h1
    refine l_mv f rfl rfl fun a f => ?_
    obtain ⟨a3, a4, hd⟩ := bind_some hd
    refine l_res f rfl rfl Tryd.call48 (Wk.t m h1 a4) fun a5 a6 a7 w a8 m a9 a f => ?_
    obtain ⟨rfl, rfl⟩ := a9
    have h0_0 := rd2 a8 h0_0
    have h1 := rd1 a8 h1
    have a2 := od1 a8 a2
    refine l_mv f rfl rfl fun a f => ?_
    obtain ⟨ba, bb, hd⟩ := bind_some hd
    refine l_res f rfl rfl Tryd.call49 (Ow.lendCall (RI.mono _) 0 a2 m rfl (fun bc bd m be => Wk.K m be bb) (fun _ _ _ _ h => h)) fun bf bg bh w bi m bj a f => ?_
    obtain ⟨rfl, rfl⟩ := bj
    have h0_0 := rd2 bi h0_0
    have h1 := rd1 bi h1
    have a2 := od1 bi a2
    refine l_op f rfl rfl rfl (r_extract (f.eval rfl) rfl) fun a f => l_op f rfl rfl rfl (r_extract (f.eval rfl) rfl) fun a f => l_boxStore 1 0 (ds := [(.int .i64 ba.1), (.int .i64 ba.2.1), (.int .i64 ba.2.2.1)]) m Tryd.sizeOf41 f rfl rfl rfl (ones_cons rfl (ones_cons rfl (ones_cons rfl ones_nil))) rfl (Nat.le_of_ble_eq_true rfl) rfl fun w m => l_as f rfl rfl fun a f => l_nil ?_
    refine k_ret ?_
    have bk := rr_agg (P := Tryd.prog) 1 m Ag41 f (s := 6) rfl rfl rfl
    have m : Mem W bg w H := Mem.drop (H' := [a1, Itm.box ab 41 [(.int .i64 ba.1), (.int .i64 ba.2.1), (.int .i64 ba.2.2.1)], Itm.box aa 29 [v0_0]]) m
    obtain rfl := sj hd
    exact ⟨[(.agg #[(.int .i64 ba.1), (.int .i64 ba.2.1), (.int .i64 ba.2.2.1)]), (.bool ba.2.2.2)], ⟨bk, f.get _ _ rfl, trivial⟩, f.defers, _, [], (GLe.trans ah (GLe.trans aw (GLe.trans aP (GLe.trans aY (GLe.trans a8 bi))))), m, rfl, rfl⟩

theorem Wk.l0 {W w : World} {G : GH} {H : List Itm} {v0_0 : Value} {x0_0 : (List (List Int))} {x1 : Int} (m : Mem W G w (H)) (h0_0 : RSl (RSl (RI .i64)) G v0_0 x0_0) {y : Bool} (hd : D.l0 x0_0 x1 = some y) :
  Calls Tryd.prog 50 #[(.agg #[v0_0]), (.int .i64 x1)] w (Res W G H (fun _ Ho v => Ho = [] ∧ v = (.bool y))) := by
 refine calls_b (args := [(.agg #[v0_0]), (.int .i64 x1)]) (N := 10) [.tmp 4] Tryd.func50 rfl rfl (Nat.le_of_ble_eq_true rfl) rfl fun a f => ?_
 unfold D.l0 at hd
 refine k_seq (k_region ?_)
 refine l_box (cs := [v0_0]) m f rfl rfl rfl fun aa w a m f => l_as f rfl rfl fun a f => l_nil (k_seq (k_region ?_))
 refine l_mv f rfl rfl fun a f => l_boxAgg 0 0 (ds := [v0_0]) m Ag29 f rfl rfl rfl rfl rfl fun a f => ?_
 obtain ⟨ab, ac, hd⟩ := bind_some hd
 refine l_res f rfl rfl Tryd.call51 (Wk.c m h0_0 ac) fun ad ae af w ag m ah a f => ?_
 obtain ⟨rfl, rfl⟩ := ah
 have h0_0 := rd2 ag h0_0
 refine l_in f rfl rfl rfl b_sub fun a f => ?_
 obtain ⟨ai, aj, hd⟩ := bind_some hd
 refine l_res f rfl rfl Tryd.call62 (Wk.d m  aj) fun ak al am w an m ao a f => ?_
 obtain ⟨rfl, rfl⟩ := ao
 have h0_0 := rd2 an h0_0
 refine l_as f rfl rfl fun a f => l_nil ?_
 refine k_ret ?_
 have m : Mem W al w H := Mem.drop (H' := [Itm.box aa 29 [v0_0]]) m
 obtain rfl := sj hd
 exact ⟨[(.bool ai)], ⟨f.get _ _ rfl, trivial⟩, f.defers, _, [], (GLe.trans ag an), m, rfl, rfl⟩

theorem Wk.g0 {W w : World} {G : GH} {H : List Itm} {x0 : Int} (m : Mem W G w (H))  {y : ((List Int))} (hd : D.g0 x0 = some y) :
  Calls Tryd.prog 54 #[(.int .i64 x0)] w (Res W G H (fun G' Ho v => ∃ r0 : Value, ∃ i0 : Itm, Ho = [i0] ∧ r0 = v ∧ Ow (RI .i64) 2 G' i0 r0 y)) := by
 refine calls_b (args := [(.int .i64 x0)]) (N := 16) [.tmp 2] Tryd.func54 rfl rfl (Nat.le_of_ble_eq_true rfl) rfl fun a f => ?_
 unfold D.g0 at hd
 refine k_seq (k_region ?_)
 refine l_as f rfl rfl fun a f => l_nil (k_seq (k_region ?_))
 refine l_slit (R := (RI .i64)) (xs := ([] : List Int)) (RI.one _) m T32 f rfl rfl rfl (by decide) (All2.nil _) fun aa ab w a m ac f => l_as f rfl rfl fun a f => l_nil (k_seq (k_seq (k_region ?_)))
 refine l_as f rfl rfl fun a f => l_nil ?_
 obtain ⟨ad, ae, hd⟩ := bind_some hd
 refine k_cut (fun a w => ∃ af : List Int, af = ad ∧ ∃ (ag : GH) (ah : Value) (ai : Itm), GLe G ag ∧ Fr a 16 [(3, ah)] ∧ Mem W ag w (ai :: H) ∧ Ow (RI .i64) 2 ag ai ah af) ?_ ?_
 ·refine k_block ?_
  refine k_loop (fun aj a w => ∃ ak : List Int, ∃ al : Int, (ak, al) = aj ∧ ∃ (am : GH) (an : Value) (ao : Itm), GLe G am ∧ Fr a 16 [(0, (.int .i64 x0)), (3, an), (4, (.int .i64 al))] ∧ Mem W am w (ao :: H) ∧ Ow (RI .i64) 2 am ao an ak) ae ⟨_, _, rfl, _, ab, aa, (GLe.refl _), f.weak ⟨rfl, rfl, rfl, trivial⟩, m, ac⟩ ?_
  clear ae f m
  rintro aj ap aq ar a w ⟨ak, al, rfl, am, an, ao, au, f, m, av⟩
  refine k_seq (k_seq (k_region ?_))
  refine l_mv f rfl rfl fun a f => l_mv f rfl rfl fun a f => l_in f rfl rfl rfl b_lss fun a f => l_nil ?_
  rcases cond_some aq with ⟨aw, aq⟩ | ⟨aw, aq⟩
  ·refine k_true f rfl aw ?_
   refine k_skip ?_
   refine k_seq (k_block (k_region ?_))
   refine l_mv f rfl rfl fun a f => l_mv f rfl rfl fun a f => l_slit (R := (RI .i64)) (xs := ([al] : List Int)) (RI.one _) m T32 f rfl rfl rfl (by decide) (All2.cons rfl (All2.nil _)) fun ax ay w a m az f => ?_
   obtain ⟨aA, aB, aq⟩ := bind_some aq
   refine l_append (RI.one _) 1 m av rfl T32 rfl (by decide) f rfl rfl rfl (Ow.src (j := 0) az m rfl) aB fun aC aD w a m aE f => l_as f rfl rfl fun a f => l_nil (k_region ?_)
   refine l_mv f rfl rfl fun a f => l_in f rfl rfl rfl b_add fun a f => l_as f rfl rfl fun a f => l_nil ?_
   have m := m.front 1 rfl
   have m := m.eraseAt 1
   obtain rfl := sj aq
   exact ⟨_, rfl, _, _, rfl, _, aD, aC, au, f.weak ⟨rfl, rfl, rfl, trivial⟩, m, aE⟩
  ·refine k_false f rfl aw ?_
   refine k_exit rfl ?_
   obtain rfl := sj aq
   obtain rfl := ar _ rfl
   exact ⟨_, rfl, _, an, ao, au, f.weak ⟨rfl, trivial⟩, m, av⟩
 ·rintro a w ⟨af, rfl, ag, ah, ai, aF, f, m, aG⟩
  refine k_seq (k_region ?_)
  refine l_mv f rfl rfl fun a f => l_as f rfl rfl fun a f => l_nil ?_
  refine k_ret ?_
  obtain rfl := sj hd
  exact ⟨[ah], ⟨f.get _ _ rfl, trivial⟩, f.defers, _, [ai], aF, m, _, _, rfl, rfl, aG⟩

theorem Wk.B0 {W w : World} {G : GH} {H : List Itm} {v0 : Value} {x0 : (List Int)} {x1 : Int} (m : Mem W G w (H)) (h0 : RSl (RI .i64) G v0 x0) {y : ((List Int))} (hd : D.B0 x0 x1 = some y) :
  Calls Tryd.prog 53 #[v0, (.int .i64 x1)] w (Res W G H (fun G' Ho v => ∃ r0 : Value, ∃ i0 : Itm, Ho = [i0] ∧ r0 = v ∧ Ow (RI .i64) 2 G' i0 r0 y)) := by
 refine calls_b (args := [v0, (.int .i64 x1)]) (N := 28) [.tmp 4] Tryd.func53 rfl rfl (Nat.le_of_ble_eq_true rfl) rfl fun a f => ?_
 unfold D.B0 at hd
 refine k_seq (k_region ?_)
 refine l_as f rfl rfl fun a f => l_nil (k_seq (k_region ?_))
 refine l_slit (R := (RI .i64)) (xs := ([] : List Int)) (RI.one _) m T32 f rfl rfl rfl (by decide) (All2.nil _) fun aa ab w a m ac f => l_as f rfl rfl fun a f => l_nil (k_seq (k_seq (k_region ?_)))
 refine l_as f rfl rfl fun a f => l_nil ?_
 obtain ⟨ad, ae, hd⟩ := bind_some hd
 refine k_cut (fun a w => ∃ af : List Int, af = ad ∧ ∃ (ag : GH) (ah : Value) (ai : Itm), GLe G ag ∧ Fr a 28 [(5, ah)] ∧ Mem W ag w (ai :: H) ∧ Ow (RI .i64) 2 ag ai ah af) ?_ ?_
 ·refine k_block ?_
  refine k_loop (fun aj a w => ∃ ak : List Int, ∃ al : Int, (ak, al) = aj ∧ ∃ (am : GH) (an : Value) (ao : Itm), GLe G am ∧ Fr a 28 [(0, v0), (1, (.int .i64 x1)), (5, an), (6, (.int .i64 al))] ∧ Mem W am w (ao :: H) ∧ Ow (RI .i64) 2 am ao an ak) ae ⟨_, _, rfl, _, ab, aa, (GLe.refl _), f.weak ⟨rfl, rfl, rfl, rfl, trivial⟩, m, ac⟩ ?_
  clear ae f m
  rintro aj ap aq ar a w ⟨ak, al, rfl, am, an, ao, au, f, m, av⟩
  have h0 := rd1 au h0
  refine k_seq (k_seq (k_region ?_))
  refine l_mv f rfl rfl fun a f => l_mv f rfl rfl fun a f => l_len Tryd.underlying32 f rfl rfl h0 fun a f => l_in f rfl rfl rfl b_lss fun a f => l_nil ?_
  rcases cond_some aq with ⟨aw, aq⟩ | ⟨aw, aq⟩
  ·refine k_true f rfl aw ?_
   refine k_skip ?_
   refine k_seq (k_block (k_seq (k_region ?_)))
   refine l_mv f rfl rfl fun a f => l_mv f rfl rfl fun a f => ?_
   obtain ⟨ax, ay, aq⟩ := bind_some aq
   refine l_at T32 f rfl rfl rfl h0 ay fun az aA a aB aC f => ?_
   subst aC
   refine l_loadAt m Pl2 f rfl rfl aB fun a f => l_mv f rfl rfl fun a f => l_in f rfl rfl rfl b_neq fun a f => l_nil ?_
   rcases cond_some aq with ⟨aD, aq⟩ | ⟨aD, aq⟩
   ·refine k_true f rfl aD ?_
    refine k_region ?_
    refine l_mv f rfl rfl fun a f => l_mv f rfl rfl fun a f => l_mv f rfl rfl fun a f => ?_
    obtain ⟨aE, aF, aq⟩ := bind_some aq
    refine l_at T32 f rfl rfl rfl h0 aF fun aG aH a aI aJ f => ?_
    subst aJ
    refine l_loadAt m Pl2 f rfl rfl aI fun a f => l_slit (R := (RI .i64)) (xs := ([aE] : List Int)) (RI.one _) m T32 f rfl rfl rfl (by decide) (All2.cons rfl (All2.nil _)) fun aK aL w a m aM f => ?_
    obtain ⟨aN, aO, aq⟩ := bind_some aq
    refine l_append (RI.one _) 1 m av rfl T32 rfl (by decide) f rfl rfl rfl (Ow.src (j := 0) aM m rfl) aO fun aP aQ w a m aR f => l_as f rfl rfl fun a f => l_nil (k_region ?_)
    refine l_mv f rfl rfl fun a f => l_in f rfl rfl rfl b_add fun a f => l_as f rfl rfl fun a f => l_nil ?_
    have m := m.front 1 rfl
    have m := m.eraseAt 1
    obtain rfl := sj aq
    exact ⟨_, rfl, _, _, rfl, _, aQ, aP, au, f.weak ⟨rfl, rfl, rfl, rfl, trivial⟩, m, aR⟩
   ·refine k_false f rfl aD ?_
    refine k_skip ?_
    refine k_region ?_
    refine l_mv f rfl rfl fun a f => l_in f rfl rfl rfl b_add fun a f => l_as f rfl rfl fun a f => l_nil ?_
    obtain rfl := sj aq
    exact ⟨_, rfl, _, _, rfl, _, an, ao, au, f.weak ⟨rfl, rfl, rfl, rfl, trivial⟩, m, av⟩
  ·refine k_false f rfl aw ?_
   refine k_exit rfl ?_
   obtain rfl := sj aq
   obtain rfl := ar _ rfl
   exact ⟨_, rfl, _, an, ao, au, f.weak ⟨rfl, trivial⟩, m, av⟩
 ·rintro a w ⟨af, rfl, ag, ah, ai, aS, f, m, aT⟩
  refine k_seq (k_region ?_)
  refine l_mv f rfl rfl fun a f => l_as f rfl rfl fun a f => l_nil ?_
  refine k_ret ?_
  obtain rfl := sj hd
  exact ⟨[ah], ⟨f.get _ _ rfl, trivial⟩, f.defers, _, [ai], aS, m, _, _, rfl, rfl, aT⟩

end Go.Proofs.YtkffjeaefgfnnaaDoor

set_option maxRecDepth 100000
namespace Go.Proofs.YtkffjeaefgfnnaaDoor
open Go Go.Sx


theorem Wk.Y {W w : World} {G : GH} {H : List Itm} {v0_0 : Value} {x0_0 : (List (List Int))} {x1 : Int} {x2 : Int} (m : Mem W G w (H)) (h0_0 : RSl (RSl (RI .i64)) G v0_0 x0_0) {y : Bool} (hd : D.Y x0_0 x1 x2 = some y) :
  Calls Tryd.prog 77 #[(.agg #[v0_0]), (.int .i64 x1), (.int .i64 x2)] w (Res W G H (fun _ Ho v => Ho = [] ∧ v = (.bool y))) := by
 refine calls_b (args := [(.agg #[v0_0]), (.int .i64 x1), (.int .i64 x2)]) (N := 14) [.tmp 6] Tryd.func77 rfl rfl (Nat.le_of_ble_eq_true rfl) rfl fun a f => ?_
 unfold D.Y at hd
 refine k_seq (k_region ?_)
 refine l_box (cs := [v0_0]) m f rfl rfl rfl fun aa w a m f => l_as f rfl rfl fun a f => l_nil (k_seq (k_region ?_))
 refine l_fieldAddr Tryd.underlying29 rfl Tryd.sizeOf27 (by decide) f rfl rfl fun a f => l_boxCell 0 0 m Pl27 f rfl rfl rfl rfl fun a f => l_mv f rfl rfl fun a f => ?_
 obtain ⟨ab, ac, hd⟩ := bind_some hd
 refine l_at T27 f rfl rfl rfl h0_0 ac fun ad ae a af ag f => l_loadAt m Pl32 f rfl rfl af fun a f => l_mv f rfl rfl fun a f => ?_
 obtain ⟨ah, ai, hd⟩ := bind_some hd
 refine l_res f rfl rfl Tryd.call32 (Wk.e m ag ai) fun aj ak al w am m an a f => ?_
 obtain ⟨rfl, rfl⟩ := an
 have h0_0 := rd2 am h0_0
 have af := At.mono am af
 have ag := rd1 am ag
 refine l_as f rfl rfl fun a f => l_nil ?_
 refine k_ret ?_
 have m : Mem W ak w H := Mem.drop (H' := [Itm.box aa 29 [v0_0]]) m
 obtain rfl := sj hd
 exact ⟨[(.bool ah)], ⟨f.get _ _ rfl, trivial⟩, f.defers, _, [], am, m, rfl, rfl⟩

theorem Wk.f0 {W w : World} {G : GH} {H : List Itm} {v0_0 : Value} {v1 : Value} {x0_0 : (List (List Int))} {x1 : (List Int)} (m : Mem W G w (H)) (h0_0 : RSl (RSl (RI .i64)) G v0_0 x0_0) (h1 : RSl (RI .i64) G v1 x1) {y : ((List (List Int)))} (hd : D.f0 x0_0 x1 = some y) :
  Calls Tryd.prog 52 #[(.agg #[v0_0]), v1] w (Res W G H (fun G' Ho v => ∃ r0 : Value, ∃ i0 : Itm, Ho = [i0] ∧ v = (.agg #[r0]) ∧ Ow (RSl (RI .i64)) 32 G' i0 r0 y)) := by
 refine calls_b (args := [(.agg #[v0_0]), v1]) (N := 37) [.cell 4 29] Tryd.func52 rfl rfl (Nat.le_of_ble_eq_true rfl) rfl fun a f => ?_
 unfold D.f0 at hd
 refine k_seq (k_region ?_)
 refine l_box (cs := [v0_0]) m f rfl rfl rfl fun aa w a m f => l_alloc (cs := [(.slice none 0 0)]) Tryd.zeroValue29 m f rfl rfl fun ab w a m f => l_nil (k_seq (k_region ?_))
 refine l_mv f rfl rfl fun a f => l_len Tryd.underlying32 f rfl rfl h1 fun a f => ?_
 obtain ⟨ac, ad, hd⟩ := bind_some hd
 refine l_res f rfl rfl Tryd.call63 (Wk.D m  ad) fun ae af ag w ah m ai a f => ?_
 obtain ⟨aj, ak, rfl, rfl, al⟩ := ai
 have h0_0 := rd2 ah h0_0
 have h1 := rd1 ah h1
 refine l_alloc (cs := [(.slice none 0 0)]) Tryd.zeroValue29 m f rfl rfl fun am w a m f => l_boxStore 0 0 (ds := [aj]) m Tryd.sizeOf29 f rfl rfl rfl (ones_cons (Ow.one1 1 m al rfl) ones_nil) rfl (Nat.le_of_ble_eq_true rfl) rfl fun w m => l_nil (k_seq (k_seq (k_region ?_)))
 refine l_as f rfl rfl fun a f => l_nil ?_
 obtain ⟨an, ao, hd⟩ := bind_some hd
 refine k_cut (fun a w => ∃ ap : List (List Int), ap = an ∧ ∃ (aq : GH) (ar : Itm), GLe af aq ∧ Fr a 37 [(4, (.pointer (some ⟨ab, 0, none⟩))), (5, (.pointer (some ⟨am, 0, none⟩)))] ∧ Mem W aq w (Itm.box ab 29 [(.slice none 0 0)] :: Itm.box am 29 [aj] :: ar :: H) ∧ Ow (RSl (RI .i64)) 32 aq ar aj ap) ?_ ?_
 ·refine k_block ?_
  have m := m.front 2 rfl
  have m : Mem W af w (Itm.box aa 29 [v0_0] :: Itm.box ab 29 [(.slice none 0 0)] :: Itm.box am 29 [aj] :: ak :: H) := m.front 3 rfl
  refine k_loop (fun au a w => ∃ av : Int, ∃ aw : List (List Int), (av, aw) = au ∧ ∃ (ax : GH) (ay : Itm), GLe af ax ∧ Fr a 37 [(1, v1), (2, (.pointer (some ⟨aa, 0, none⟩))), (4, (.pointer (some ⟨ab, 0, none⟩))), (5, (.pointer (some ⟨am, 0, none⟩))), (6, (.int .i64 av))] ∧ Mem W ax w (Itm.box aa 29 [v0_0] :: Itm.box ab 29 [(.slice none 0 0)] :: Itm.box am 29 [aj] :: ay :: H) ∧ Ow (RSl (RI .i64)) 32 ax ay aj aw) ao ⟨_, _, rfl, _, ak, (GLe.refl _), f.weak ⟨rfl, rfl, rfl, rfl, rfl, trivial⟩, m, al⟩ ?_
  clear ao f m
  rintro au az aA aB a w ⟨av, aw, rfl, ax, ay, aC, f, m, aD⟩
  have h1 := rd1 aC h1
  have h0_0 := rd2 aC h0_0
  refine k_seq (k_seq (k_region ?_))
  refine l_mv f rfl rfl fun a f => l_mv f rfl rfl fun a f => l_len Tryd.underlying32 f rfl rfl h1 fun a f => l_in f rfl rfl rfl b_lss fun a f => l_nil ?_
  rcases cond_some aA with ⟨aE, aA⟩ | ⟨aE, aA⟩
  ·refine k_true f rfl aE ?_
   refine k_skip ?_
   refine k_seq (k_block (k_seq (k_region ?_)))
   refine l_as f rfl rfl fun a f => l_nil ?_
   obtain ⟨aF, aG, aA⟩ := bind_some aA
   refine k_cut (fun a w => ∃ aH : List (List Int), aH = aF ∧ ∃ (aI : GH) (aJ : Itm), GLe ax aI ∧ Fr a 37 [(1, v1), (2, (.pointer (some ⟨aa, 0, none⟩))), (4, (.pointer (some ⟨ab, 0, none⟩))), (5, (.pointer (some ⟨am, 0, none⟩))), (6, (.int .i64 av))] ∧ Mem W aI w (Itm.box aa 29 [v0_0] :: Itm.box ab 29 [(.slice none 0 0)] :: Itm.box am 29 [aj] :: aJ :: H) ∧ Ow (RSl (RI .i64)) 32 aI aJ aj aH) ?_ ?_
   ·refine k_block ?_
    refine k_loop (fun aK a w => ∃ aL : Int, ∃ aM : List (List Int), (aL, aM) = aK ∧ ∃ (aN : GH) (aO : Itm), GLe ax aN ∧ Fr a 37 [(1, v1), (2, (.pointer (some ⟨aa, 0, none⟩))), (4, (.pointer (some ⟨ab, 0, none⟩))), (5, (.pointer (some ⟨am, 0, none⟩))), (6, (.int .i64 av)), (7, (.int .i64 aL))] ∧ Mem W aN w (Itm.box aa 29 [v0_0] :: Itm.box ab 29 [(.slice none 0 0)] :: Itm.box am 29 [aj] :: aO :: H) ∧ Ow (RSl (RI .i64)) 32 aN aO aj aM) aG ⟨_, _, rfl, _, ay, (GLe.refl _), f.weak ⟨rfl, rfl, rfl, rfl, rfl, rfl, trivial⟩, m, aD⟩ ?_
    clear aG f m
    rintro aK aP aQ aR a w ⟨aL, aM, rfl, aN, aO, aS, f, m, aT⟩
    have h1 := rd1 aS h1
    have h0_0 := rd2 aS h0_0
    refine k_seq (k_seq (k_region ?_))
    refine l_mv f rfl rfl fun a f => l_mv f rfl rfl fun a f => l_in f rfl rfl rfl b_lss fun a f => l_nil ?_
    rcases cond_some aQ with ⟨aU, aQ⟩ | ⟨aU, aQ⟩
    ·refine k_true f rfl aU ?_
     refine k_skip ?_
     refine k_seq (k_block (k_seq ?_))
     refine k_draw 10 Follows (by kernel_rfl) m ?_
     refine q_boxAgg (i := 0) (ds := [v0_0]) 10 0 Ag29 rfl rfl rfl rfl (by kernel_rfl) rfl f rfl rfl rfl fun a f => q_mv 1 10 rfl (by kernel_rfl) f rfl rfl rfl fun a f => q_mv 2 10 rfl (by kernel_rfl) f rfl rfl rfl fun a f => ?_
     obtain ⟨aV, aW, aQ⟩ := bind_some aQ
     refine q_at (i := 3) 10 T32 h1 aW rfl (by kernel_rfl) rfl f rfl rfl rfl rfl fun aX aY a aZ a0 f => ?_
     subst a0
     refine q_loadAt (i := 4) 10 Pl2 aZ rfl (by kernel_rfl) rfl f rfl rfl rfl fun a f => q_mv 5 10 rfl (by kernel_rfl) f rfl rfl rfl fun a f => q_mv 6 10 rfl (by kernel_rfl) f rfl rfl rfl fun a f => ?_
     obtain ⟨a1, a2, aQ⟩ := bind_some aQ
     refine q_at (i := 7) 10 T32 h1 a2 rfl (by kernel_rfl) rfl f rfl rfl rfl rfl fun a3 a4 a a5 a6 f => ?_
     subst a6
     refine q_loadAt (i := 8) 10 Pl2 a5 rfl (by kernel_rfl) rfl f rfl rfl rfl fun a f => ?_
     obtain ⟨a7, a8, aQ⟩ := bind_some aQ
     refine q_call (i := 9) 10 rfl (by kernel_rfl) rfl f rfl rfl rfl Tryd.call77 (fun _ _ w a9 m => Wk.Y m (rd2 a9 h0_0) a8) fun a f => q_end fun ba w bb m => ?_
     have h1 := rd1 bb h1
     have h0_0 := rd2 bb h0_0
     have aZ := At.mono bb aZ
     have a5 := At.mono bb a5
     have aT := Ow.mono (RSl.mono (RI.mono _)) bb aT
     refine l_nil ?_
     rcases cond_some aQ with ⟨bc, aQ⟩ | ⟨bc, aQ⟩
     ·refine k_true f rfl bc ?_
      refine k_region ?_
      refine l_boxAgg 2 0 (ds := [aj]) m Ag29 f rfl rfl rfl rfl rfl fun a f => l_mv f rfl rfl fun a f => l_mv f rfl rfl fun a f => ?_
      have m : Mem W ba w (aO :: Itm.box aa 29 [v0_0] :: Itm.box ab 29 [(.slice none 0 0)] :: Itm.box am 29 [aj] :: H) := m.front 3 rfl
      obtain ⟨bd, be, aQ⟩ := bind_some aQ
      refine l_res f rfl rfl Tryd.call65 (Wk.o m aT be) fun bf bg bh w bi m bj a f => ?_
      obtain ⟨bk, rfl, rfl, bl⟩ := bj
      have h1 := rd1 bi h1
      have h0_0 := rd2 bi h0_0
      refine l_boxStore 3 0 (ds := [aj]) m Tryd.sizeOf29 f rfl rfl rfl (ones_cons (Ow.one1 0 m bl rfl) ones_nil) rfl (Nat.le_of_ble_eq_true rfl) rfl fun w m => l_nil (k_region ?_)
      refine l_mv f rfl rfl fun a f => l_in f rfl rfl rfl b_add fun a f => l_as f rfl rfl fun a f => l_nil ?_
      have m := m.front 3 rfl
      have m := m.front 3 rfl
      have m : Mem W bg w (Itm.box aa 29 [v0_0] :: Itm.box ab 29 [(.slice none 0 0)] :: Itm.box am 29 [aj] :: bk :: H) := m.front 3 rfl
      obtain rfl := sj aQ
      exact ⟨_, rfl, _, _, rfl, _, bk, (GLe.trans aS (GLe.trans bb bi)), f.weak ⟨rfl, rfl, rfl, rfl, rfl, rfl, trivial⟩, m, bl⟩
     ·refine k_false f rfl bc ?_
      refine k_skip ?_
      refine k_region ?_
      refine l_mv f rfl rfl fun a f => l_in f rfl rfl rfl b_add fun a f => l_as f rfl rfl fun a f => l_nil ?_
      obtain rfl := sj aQ
      exact ⟨_, rfl, _, _, rfl, _, aO, (GLe.trans aS bb), f.weak ⟨rfl, rfl, rfl, rfl, rfl, rfl, trivial⟩, m, aT⟩
    ·refine k_false f rfl aU ?_
     refine k_exit rfl ?_
     obtain rfl := sj aQ
     obtain rfl := aR _ rfl
     exact ⟨_, rfl, _, aO, aS, f.weak ⟨rfl, rfl, rfl, rfl, rfl, trivial⟩, m, aT⟩
   ·rintro a w ⟨aH, rfl, aI, aJ, bm, f, m, bn⟩
    have h1 := rd1 bm h1
    have h0_0 := rd2 bm h0_0
    refine k_region ?_
    refine l_mv f rfl rfl fun a f => l_in f rfl rfl rfl b_add fun a f => l_as f rfl rfl fun a f => l_nil ?_
    obtain rfl := sj aA
    exact ⟨_, rfl, _, _, rfl, _, aJ, (GLe.trans aC bm), f.weak ⟨rfl, rfl, rfl, rfl, rfl, trivial⟩, m, bn⟩
  ·refine k_false f rfl aE ?_
   refine k_exit rfl ?_
   have m := m.front 3 rfl
   have m := m.front 3 rfl
   have m : Mem W ax w (Itm.box ab 29 [(.slice none 0 0)] :: Itm.box am 29 [aj] :: ay :: Itm.box aa 29 [v0_0] :: H) := m.front 3 rfl
   have m := m.eraseAt 3
   obtain rfl := sj aA
   obtain rfl := aB _ rfl
   exact ⟨_, rfl, _, ay, aC, f.weak ⟨rfl, rfl, trivial⟩, m, aD⟩
 ·rintro a w ⟨ap, rfl, aq, ar, bo, f, m, bp⟩
  refine k_seq (k_region ?_)
  refine l_boxAgg 1 0 (ds := [aj]) m Ag29 f rfl rfl rfl rfl rfl fun a f => l_boxStore 0 0 (ds := [aj]) m Tryd.sizeOf29 f rfl rfl rfl (ones_cons (Ow.one1 2 m bp rfl) ones_nil) rfl (Nat.le_of_ble_eq_true rfl) rfl fun w m => l_nil ?_
  refine k_ret ?_
  have bq := rr_agg (P := Tryd.prog) 0 m Ag29 f (s := 4) rfl rfl rfl
  have m := m.front 2 rfl
  have m := m.eraseAt 2
  have m := m.eraseAt 1
  obtain rfl := sj hd
  exact ⟨[(.agg #[aj])], ⟨bq, trivial⟩, f.defers, _, [ar], (GLe.trans ah bo), m, _, _, rfl, rfl, bp⟩

theorem Wk.q0 {W w : World} {G : GH} {H : List Itm} {v0_0 : Value} {x0_0 : (List (List Int))} {x1 : Int} (m : Mem W G w (H)) (h0_0 : RSl (RSl (RI .i64)) G v0_0 x0_0) {y : ((List (List Int))) × Bool} (hd : D.q0 x0_0 x1 = some y) :
  Calls Tryd.prog 16 #[(.agg #[v0_0]), (.int .i64 x1)] w (Res W G H (fun G' Ho v => ∃ r0 : Value, ∃ i0 : Itm, Ho = [i0] ∧ v = .tuple #[(.agg #[r0]), (.bool y.2)] ∧ Ow (RSl (RI .i64)) 32 G' i0 r0 y.1)) := by
 refine calls_b (args := [(.agg #[v0_0]), (.int .i64 x1)]) (N := 28) [.cell 4 29, .tmp 5] Tryd.func16 rfl rfl (Nat.le_of_ble_eq_true rfl) rfl fun a f => ?_
 unfold D.q0 at hd
 refine k_seq (k_region ?_)
 refine l_box (cs := [v0_0]) m f rfl rfl rfl fun aa w a m f => l_alloc (cs := [(.slice none 0 0)]) Tryd.zeroValue29 m f rfl rfl fun ab w a m f => l_as f rfl rfl fun a f => l_nil (k_seq (k_seq (k_region ?_)))
 refine l_boxAgg 1 0 (ds := [v0_0]) m Ag29 f rfl rfl rfl rfl rfl fun a f => ?_
 obtain ⟨ac, ad, hd⟩ := bind_some hd
 refine l_res f rfl rfl Tryd.call30 (Wk.m m h0_0 ad) fun ae af ag w ah m ai a f => ?_
 obtain ⟨rfl, rfl⟩ := ai
 have h0_0 := rd2 ah h0_0
 refine l_op f rfl rfl rfl (r_not (f.eval rfl)) fun a f => l_mv f rfl rfl fun a f => ?_
 obtain ⟨aj, ak, hd⟩ := bind_some hd
 refine l_cut 5 (fun a w => ∃ al, GLe af al ∧ Mem W al w (Itm.box ab 29 [(.slice none 0 0)] :: Itm.box aa 29 [v0_0] :: H) ∧ Fr a 28 [(0, (.agg #[v0_0])), (1, (.int .i64 x1)), (2, (.pointer (some ⟨aa, 0, none⟩))), (4, (.pointer (some ⟨ab, 0, none⟩))), (6, (.agg #[v0_0])), (7, (.bool ac)), (8, (.bool (!ac))), (9, (.bool (!ac))), (14, (.bool aj))]) ?_ ?_
 ·rcases cond_some ak with ⟨am, ak⟩ | ⟨am, ak⟩
  ·refine l_not' f rfl rfl rfl am fun a f => ?_
   refine l_not' f rfl rfl rfl am fun a f => l_not' f rfl rfl rfl am fun a f => l_not' f rfl rfl rfl am fun a f => l_op f rfl rfl rfl (r_pickT (f.eval rfl) am (f.eval rfl)) fun a f => ?_
   obtain rfl := sj ak
   exact ⟨_, (GLe.refl _), m, f.weak ⟨rfl, rfl, rfl, rfl, rfl, rfl, rfl, rfl, rfl, trivial⟩⟩
  ·refine l_run f rfl rfl am ?_
   refine l_boxAgg 1 0 (ds := [v0_0]) m Ag29 f rfl rfl rfl rfl rfl fun a f => l_run f rfl rfl am ?_
   refine l_mv f rfl rfl fun a f => l_run f rfl rfl am ?_
   obtain ⟨an, ao, ak⟩ := bind_some ak
   refine l_res f rfl rfl Tryd.call50 (Wk.l0 m h0_0 ao) fun ap aq ar w au m av a f => ?_
   obtain ⟨rfl, rfl⟩ := av
   have h0_0 := rd2 au h0_0
   refine l_run f rfl rfl am ?_
   refine l_op f rfl rfl rfl (r_not (f.eval rfl)) fun a f => l_op f rfl rfl rfl (r_pickF (f.eval rfl) am (f.eval rfl)) fun a f => ?_
   obtain rfl := sj ak
   exact ⟨_, au, m, f.weak ⟨rfl, rfl, rfl, rfl, rfl, rfl, rfl, rfl, rfl, trivial⟩⟩
 ·rintro a w ⟨al, aw, m, f⟩
  have h0_0 := rd2 aw h0_0
  refine l_mv f rfl rfl fun a f => ?_
  obtain ⟨ax, ay, hd⟩ := bind_some hd
  refine l_cut 4 (fun a w => ∃ az, GLe al az ∧ Mem W az w (Itm.box ab 29 [(.slice none 0 0)] :: Itm.box aa 29 [v0_0] :: H) ∧ Fr a 28 [(0, (.agg #[v0_0])), (1, (.int .i64 x1)), (2, (.pointer (some ⟨aa, 0, none⟩))), (4, (.pointer (some ⟨ab, 0, none⟩))), (6, (.agg #[v0_0])), (7, (.bool ac)), (8, (.bool (!ac))), (9, (.bool (!ac))), (14, (.bool aj)), (15, (.bool aj)), (19, (.bool ax))]) ?_ ?_
  ·rcases cond_some ay with ⟨aA, ay⟩ | ⟨aA, ay⟩
   ·refine l_not' f rfl rfl rfl aA fun a f => ?_
    refine l_not' f rfl rfl rfl aA fun a f => l_not' f rfl rfl rfl aA fun a f => l_op f rfl rfl rfl (r_pickT (f.eval rfl) aA (f.eval rfl)) fun a f => ?_
    obtain rfl := sj ay
    exact ⟨_, (GLe.refl _), m, f.weak ⟨rfl, rfl, rfl, rfl, rfl, rfl, rfl, rfl, rfl, rfl, rfl, trivial⟩⟩
   ·refine l_run f rfl rfl aA ?_
    refine l_boxAgg 1 0 (ds := [v0_0]) m Ag29 f rfl rfl rfl rfl rfl fun a f => l_run f rfl rfl aA ?_
    obtain ⟨aB, aC, ay⟩ := bind_some ay
    refine l_res f rfl rfl Tryd.call51 (Wk.c m h0_0 aC) fun aD aE aF w aG m aH a f => ?_
    obtain ⟨rfl, rfl⟩ := aH
    have h0_0 := rd2 aG h0_0
    refine l_run f rfl rfl aA ?_
    refine l_in f rfl rfl rfl b_eql fun a f => l_op f rfl rfl rfl (r_pickF (f.eval rfl) aA (f.eval rfl)) fun a f => ?_
    obtain rfl := sj ay
    exact ⟨_, aG, m, f.weak ⟨rfl, rfl, rfl, rfl, rfl, rfl, rfl, rfl, rfl, rfl, rfl, trivial⟩⟩
  ·rintro a w ⟨az, aI, m, f⟩
   have h0_0 := rd2 aI h0_0
   refine l_nil ?_
   rcases cond_some hd with ⟨aJ, hd⟩ | ⟨aJ, hd⟩
   ·refine k_true f rfl aJ ?_
    refine k_seq (k_region ?_)
    have aK : ∀ w, (Instr.build 29 #[]).run Tryd.prog w = .ok (.agg #[(.slice none 0 0)]) w := by intro w; simp [Instr.build, Instr.fill, cells_int, cells_bool, cells_string, cells_slice, cells_pointer, cells_agg]
    refine l_build f rfl rfl aK fun a f => l_boxStore 0 0 (ds := [(.slice none 0 0)]) m Tryd.sizeOf29 f rfl rfl rfl (ones_cons rfl ones_nil) rfl (Nat.le_of_ble_eq_true rfl) rfl fun w m => l_as f rfl rfl fun a f => l_nil ?_
    refine k_ret ?_
    obtain ⟨aL, m, aM⟩ := Ow.nil (RSl (RI .i64)) 32 m
    have aN := rr_agg (P := Tryd.prog) 1 m Ag29 f (s := 4) rfl rfl rfl
    have m := m.eraseAt 2
    have m := m.eraseAt 1
    obtain rfl := sj hd
    exact ⟨[(.agg #[(.slice none 0 0)]), (.bool false)], ⟨aN, f.get _ _ rfl, trivial⟩, f.defers, _, [aL], (GLe.trans ah (GLe.trans aw aI)), m, _, _, rfl, rfl, aM⟩
   ·refine k_false f rfl aJ ?_
    refine k_skip ?_
    refine k_seq ?_
    refine k_draw 7 Follows (by kernel_rfl) m ?_
    refine q_boxAgg (i := 0) (ds := [v0_0]) 7 1 Ag29 rfl rfl rfl rfl (by kernel_rfl) rfl f rfl rfl rfl fun a f => q_boxAgg (i := 1) (ds := [v0_0]) 7 1 Ag29 rfl rfl rfl rfl (by kernel_rfl) rfl f rfl rfl rfl fun a f => ?_
    obtain ⟨aO, aP, hd⟩ := bind_some hd
    refine q_call (i := 2) 7 rfl (by kernel_rfl) rfl f rfl rfl rfl Tryd.call51 (fun _ _ w aQ m => Wk.c m (rd2 aQ h0_0) aP) fun a f => q_mv 4 7 rfl (by kernel_rfl) f rfl rfl rfl fun a f => q_one (i := 3) rfl (by kernel_rfl) rfl fun aR w aS m aT aT => ?_
    have h0_0 := rd2 aS h0_0
    obtain ⟨aU, aV, hd⟩ := bind_some hd
    refine l_res f rfl rfl Tryd.call54 (Wk.g0 m  aV) fun aW aX aY w aZ m a2 a f => ?_
    obtain ⟨a3, a4, rfl, rfl, a5⟩ := a2
    have h0_0 := rd2 aZ h0_0
    refine l_nil ?_
    refine aT aX [a4] _ _ aZ m ?_
    refine q_one (i := 5) rfl (by kernel_rfl) rfl fun a6 w a7 m a8 a8 => ?_
    have h0_0 := rd2 a7 h0_0
    have a5 := od1 a7 a5
    obtain ⟨a9, ba, hd⟩ := bind_some hd
    refine l_res f rfl rfl Tryd.call53 (Ow.lendCall (RI.mono _) 0 a5 m rfl (fun bb bc m bd => Wk.B0 m bd ba) (fun _ G' _ _ ⟨a0, a1, e1, e2, o0⟩ => ⟨a0, a1, e1, e2, Ow.free (RI.free _) G' o0⟩)) fun be bf bg w bh m bi a f => ?_
    obtain ⟨bj, bk, rfl, rfl, bl⟩ := bi
    have h0_0 := rd2 bh h0_0
    have a5 := od1 bh a5
    refine l_nil ?_
    refine a8 bf [bk, a4] _ _ bh m ?_
    refine q_one (i := 6) rfl (by kernel_rfl) rfl fun bm w bn m bo bo => ?_
    have h0_0 := rd2 bn h0_0
    have bl := od1 bn bl
    have a5 := od1 bn a5
    obtain ⟨bp, bq, m, br⟩ := Ow.stamp (RI.mono _) bl m
    have h0_0 := rd2 bq h0_0
    have a5 := od1 bq a5
    obtain ⟨bs, bt, hd⟩ := bind_some hd
    refine l_res f rfl rfl Tryd.call52 (Wk.f0 m h0_0 br bt) fun bu bv bw w bx m bz a f => ?_
    obtain ⟨bA, bB, rfl, rfl, bC⟩ := bz
    have h0_0 := rd2 bx h0_0
    have br := rd1 bx br
    have a5 := od1 bx a5
    refine l_nil ?_
    refine bo bv [bB, a4] _ _ (GLe.trans bq bx) m ?_
    refine q_end fun bD w bE m => ?_
    have h0_0 := rd2 bE h0_0
    have br := rd1 bE br
    have bC := Ow.mono (RSl.mono (RI.mono _)) bE bC
    have a5 := od1 bE a5
    refine l_boxStore 2 0 (ds := [bA]) m Tryd.sizeOf29 f rfl rfl rfl (ones_cons (Ow.one1 0 m bC rfl) ones_nil) rfl (Nat.le_of_ble_eq_true rfl) rfl fun w m => l_as f rfl rfl fun a f => l_nil ?_
    refine k_ret ?_
    have bF := rr_agg (P := Tryd.prog) 2 m Ag29 f (s := 4) rfl rfl rfl
    have m := m.eraseAt 3
    have m := m.eraseAt 2
    have m := m.eraseAt 1
    obtain rfl := sj hd
    exact ⟨[(.agg #[bA]), (.bool true)], ⟨bF, f.get _ _ rfl, trivial⟩, f.defers, _, [bB], (GLe.trans ah (GLe.trans aw (GLe.trans aI (GLe.trans aS (GLe.trans aZ (GLe.trans a7 (GLe.trans bh (GLe.trans bn (GLe.trans bq (GLe.trans bx bE)))))))))), m, _, _, rfl, rfl, bC⟩

set_option maxHeartbeats 1000000 in
theorem Wk.z0 {W w : World} {G : GH} {H : List Itm} {v0 : Value} {x0 : (List Int)} (hW : TabW W) (m : Mem W G w (H)) (h0 : RSl (RI .u8) G v0 x0) {y : Bool} (hd : D.z0 x0 = some y) :
  Calls Tryd.prog 3 #[v0] w (Res W G H (fun _ Ho v => Ho = [] ∧ v = (.bool y))) := by
 refine calls_b (args := [v0]) (N := 102) [.tmp 2] Tryd.func3 rfl rfl (Nat.le_of_ble_eq_true rfl) rfl fun a f => ?_
 unfold D.z0 at hd
 refine k_seq (k_region ?_)
 refine l_as f rfl rfl fun a f => l_nil (k_seq (k_seq (k_region ?_)))
 refine l_mv f rfl rfl fun a f => ?_
 obtain ⟨aa, ab, hd⟩ := bind_some hd
 refine l_res f rfl rfl Tryd.call5 (Wk.A0 m h0 ab) fun ac ad ae w af m ag a f => ?_
 obtain ⟨rfl, rfl⟩ := ag
 have h0 := rd1 af h0
 refine l_nil ?_
 rcases cond_some hd with ⟨ah, hd⟩ | ⟨ah, hd⟩
 ·refine k_true f rfl ah ?_
  refine k_seq (k_region ?_)
  refine l_as f rfl rfl fun a f => l_nil ?_
  refine k_ret ?_
  obtain rfl := sj hd
  exact ⟨[(.bool true)], ⟨f.get _ _ rfl, trivial⟩, f.defers, _, [], af, m, rfl, rfl⟩
 ·refine k_false f rfl ah ?_
  refine k_skip ?_
  refine k_seq (k_region ?_)
  refine l_mv f rfl rfl fun a f => ?_
  obtain ⟨ai, aj, hd⟩ := bind_some hd
  refine l_res f rfl rfl Tryd.call6 (Wk.p0 m h0 aj) fun ak al am w an m ao a f => ?_
  obtain ⟨ap, aq, rfl, rfl, ar⟩ := ao
  have h0 := rd1 an h0
  refine l_as f rfl rfl fun a f => l_nil (k_seq (k_region ?_))
  refine l_mv f rfl rfl fun a f => ?_
  obtain ⟨au, av, hd⟩ := bind_some hd
  refine l_res f rfl rfl Tryd.call7 (Wk.a0 m ar av) fun aw ax ay w az m aA a f => ?_
  obtain ⟨aB, aC, aD, rfl, rfl, aE, aF⟩ := aA
  have h0 := rd1 az h0
  refine l_alloc (cs := [(.slice none 0 0)]) Tryd.zeroValue29 m f rfl rfl fun aG w a m f => l_boxStore 0 0 (ds := [aB]) m Tryd.sizeOf29 f rfl rfl rfl (ones_cons (Ow.one1 1 m aE rfl) ones_nil) rfl (Nat.le_of_ble_eq_true rfl) rfl fun w m => l_nil (k_seq (k_region ?_))
  refine l_boxAgg 0 0 (ds := [aB]) m Ag29 f rfl rfl rfl rfl rfl fun a f => ?_
  obtain ⟨aH, aI, hd⟩ := bind_some hd
  refine l_res f rfl rfl Tryd.call8 (Ow.lendCall (RSl.mono (RI.mono _)) 1 aE m rfl (fun aJ aK m aL => Wk.I hW m aL aI) (fun _ G' _ _ ⟨a0, a1, a2, a3, e1, e2, o0, o1⟩ => ⟨a0, a1, a2, a3, e1, e2, OwR.free trivial G' o0, Ow.free (RI.free _) G' o1⟩)) fun aM aN aO w aP m aQ a f => ?_
  obtain ⟨aR, aS, aT, aU, rfl, rfl, aV, aW⟩ := aQ
  have h0 := rd1 aP h0
  have aE := Ow.mono (RSl.mono (RI.mono _)) aP aE
  have aF := rd1 aP aF
  refine l_mv f rfl rfl fun a f => l_op f rfl rfl rfl (r_extract (f.eval rfl) rfl) fun a f => l_op f rfl rfl rfl (r_extract (f.eval rfl) rfl) fun a f => l_as f rfl rfl fun a f => l_as f rfl rfl fun a f => l_nil (k_seq (k_seq (k_region ?_)))
  refine l_mv f rfl rfl fun a f => l_own_len 1 m aW rfl Tryd.underlying32 f rfl rfl fun a f => l_in f rfl rfl rfl b_gtr fun a f => l_mv f rfl rfl fun a f => ?_
  obtain ⟨aX, aY, hd⟩ := bind_some hd
  refine l_cut 4 (fun a w => ∃ aZ, GLe aN aZ ∧ Mem W aZ w (aS :: aU :: Itm.box aG 29 [aB] :: aC :: Itm.box aq 51 [aD, (.int .i64 au.2.2.1), (.int .u64 au.2.2.2)] :: H) ∧ Fr a 102 [(0, v0), (3, (.pointer (some ⟨aq, 0, none⟩))), (4, (.pointer (some ⟨aG, 0, none⟩))), (5, aR), (6, aT), (27, aT), (28, (.int .i64 (aH.2.length : Int))), (29, (.bool (decide ((0 : Int) < (aH.2.length : Int))))), (30, (.bool (decide ((0 : Int) < (aH.2.length : Int))))), (34, (.bool aX))]) ?_ ?_
  ·rcases cond_some aY with ⟨a4, aY⟩ | ⟨a4, aY⟩
   ·refine l_not' f rfl rfl rfl a4 fun a f => ?_
    refine l_not' f rfl rfl rfl a4 fun a f => l_not' f rfl rfl rfl a4 fun a f => l_op f rfl rfl rfl (r_pickT (f.eval rfl) a4 (f.eval rfl)) fun a f => ?_
    obtain rfl := sj aY
    exact ⟨_, (GLe.refl _), m, f.weak ⟨rfl, rfl, rfl, rfl, rfl, rfl, rfl, rfl, rfl, rfl, trivial⟩⟩
   ·refine l_run f rfl rfl a4 ?_
    refine l_boxAgg 2 0 (ds := [aB]) m Ag29 f rfl rfl rfl rfl rfl fun a f => l_run f rfl rfl a4 ?_
    obtain ⟨a5, a6, aY⟩ := bind_some aY
    refine l_res f rfl rfl Tryd.call9 (Ow.lendCall (RSl.mono (RI.mono _)) 3 aE m rfl (fun a7 a8 m a9 => Wk.E hW m a9 a6) (fun _ _ _ _ h => h)) fun ba bb bc w bd m be a f => ?_
    obtain ⟨rfl, rfl⟩ := be
    have h0 := rd1 bd h0
    have aV := OwR.mono trivial bd aV
    have aW := od1 bd aW
    have aE := Ow.mono (RSl.mono (RI.mono _)) bd aE
    have aF := rd1 bd aF
    refine l_run f rfl rfl a4 ?_
    refine l_op f rfl rfl rfl (r_not (f.eval rfl)) fun a f => l_op f rfl rfl rfl (r_pickF (f.eval rfl) a4 (f.eval rfl)) fun a f => ?_
    obtain rfl := sj aY
    exact ⟨_, bd, m, f.weak ⟨rfl, rfl, rfl, rfl, rfl, rfl, rfl, rfl, rfl, rfl, trivial⟩⟩
  ·rintro a w ⟨aZ, bf, m, f⟩
   have h0 := rd1 bf h0
   have aV := OwR.mono trivial bf aV
   have aW := od1 bf aW
   have aE := Ow.mono (RSl.mono (RI.mono _)) bf aE
   have aF := rd1 bf aF
   refine l_mv f rfl rfl fun a f => ?_
   obtain ⟨bg, bh, hd⟩ := bind_some hd
   refine l_cut 5 (fun a w => ∃ bi, GLe aZ bi ∧ Mem W bi w (aS :: aU :: Itm.box aG 29 [aB] :: aC :: Itm.box aq 51 [aD, (.int .i64 au.2.2.1), (.int .u64 au.2.2.2)] :: H) ∧ Fr a 102 [(0, v0), (3, (.pointer (some ⟨aq, 0, none⟩))), (4, (.pointer (some ⟨aG, 0, none⟩))), (5, aR), (6, aT), (27, aT), (28, (.int .i64 (aH.2.length : Int))), (29, (.bool (decide ((0 : Int) < (aH.2.length : Int))))), (30, (.bool (decide ((0 : Int) < (aH.2.length : Int))))), (34, (.bool aX)), (35, (.bool aX)), (40, (.bool bg))]) ?_ ?_
   ·rcases cond_some bh with ⟨bj, bh⟩ | ⟨bj, bh⟩
    ·refine l_not' f rfl rfl rfl bj fun a f => ?_
     refine l_not' f rfl rfl rfl bj fun a f => l_not' f rfl rfl rfl bj fun a f => l_not' f rfl rfl rfl bj fun a f => l_op f rfl rfl rfl (r_pickT (f.eval rfl) bj (f.eval rfl)) fun a f => ?_
     obtain rfl := sj bh
     exact ⟨_, (GLe.refl _), m, f.weak ⟨rfl, rfl, rfl, rfl, rfl, rfl, rfl, rfl, rfl, rfl, rfl, rfl, trivial⟩⟩
    ·refine l_run f rfl rfl bj ?_
     refine l_boxAgg 2 0 (ds := [aB]) m Ag29 f rfl rfl rfl rfl rfl fun a f => l_run f rfl rfl bj ?_
     refine l_mv f rfl rfl fun a f => l_run f rfl rfl bj ?_
     obtain ⟨bk, bl, bh⟩ := bind_some bh
     refine l_res f rfl rfl Tryd.call10 (Ow.lendCall (RSl.mono (RI.mono _)) 3 aE m rfl (fun bm bn m bo => (OwR.lendCall trivial 0 (OwR.mono trivial bn aV) m rfl (fun bp bq m br => Wk.P m (rd2 bq bo) br bl) (fun _ _ _ _ h => h))) (fun _ _ _ _ h => h)) fun bs bt bu w bv m bw a f => ?_
     obtain ⟨rfl, rfl⟩ := bw
     have h0 := rd1 bv h0
     have aV := OwR.mono trivial bv aV
     have aW := od1 bv aW
     have aE := Ow.mono (RSl.mono (RI.mono _)) bv aE
     have aF := rd1 bv aF
     refine l_run f rfl rfl bj ?_
     refine l_op f rfl rfl rfl (r_not (f.eval rfl)) fun a f => l_op f rfl rfl rfl (r_pickF (f.eval rfl) bj (f.eval rfl)) fun a f => ?_
     obtain rfl := sj bh
     exact ⟨_, bv, m, f.weak ⟨rfl, rfl, rfl, rfl, rfl, rfl, rfl, rfl, rfl, rfl, rfl, rfl, trivial⟩⟩
   ·rintro a w ⟨bi, bx, m, f⟩
    have h0 := rd1 bx h0
    have aV := OwR.mono trivial bx aV
    have aW := od1 bx aW
    have aE := Ow.mono (RSl.mono (RI.mono _)) bx aE
    have aF := rd1 bx aF
    refine l_mv f rfl rfl fun a f => ?_
    obtain ⟨bz, bA, hd⟩ := bind_some hd
    refine l_cut 5 (fun a w => ∃ bB, GLe bi bB ∧ Mem W bB w (aS :: aU :: Itm.box aG 29 [aB] :: aC :: Itm.box aq 51 [aD, (.int .i64 au.2.2.1), (.int .u64 au.2.2.2)] :: H) ∧ Fr a 102 [(0, v0), (3, (.pointer (some ⟨aq, 0, none⟩))), (4, (.pointer (some ⟨aG, 0, none⟩))), (5, aR), (6, aT), (27, aT), (28, (.int .i64 (aH.2.length : Int))), (29, (.bool (decide ((0 : Int) < (aH.2.length : Int))))), (30, (.bool (decide ((0 : Int) < (aH.2.length : Int))))), (34, (.bool aX)), (35, (.bool aX)), (40, (.bool bg)), (41, (.bool bg)), (46, (.bool bz))]) ?_ ?_
    ·rcases cond_some bA with ⟨bC, bA⟩ | ⟨bC, bA⟩
     ·refine l_not' f rfl rfl rfl bC fun a f => ?_
      refine l_not' f rfl rfl rfl bC fun a f => l_not' f rfl rfl rfl bC fun a f => l_not' f rfl rfl rfl bC fun a f => l_op f rfl rfl rfl (r_pickT (f.eval rfl) bC (f.eval rfl)) fun a f => ?_
      obtain rfl := sj bA
      exact ⟨_, (GLe.refl _), m, f.weak ⟨rfl, rfl, rfl, rfl, rfl, rfl, rfl, rfl, rfl, rfl, rfl, rfl, rfl, rfl, trivial⟩⟩
     ·refine l_run f rfl rfl bC ?_
      refine l_boxAgg 2 0 (ds := [aB]) m Ag29 f rfl rfl rfl rfl rfl fun a f => l_run f rfl rfl bC ?_
      refine l_mv f rfl rfl fun a f => l_run f rfl rfl bC ?_
      obtain ⟨bD, bE, bA⟩ := bind_some bA
      refine l_res f rfl rfl Tryd.call11 (Ow.lendCall (RSl.mono (RI.mono _)) 3 aE m rfl (fun bF bG m bH => (OwR.lendCall trivial 0 (OwR.mono trivial bG aV) m rfl (fun bI bJ m bK => Wk.z m (rd2 bJ bH) bK bE) (fun _ _ _ _ h => h))) (fun _ _ _ _ h => h)) fun bL bM bN w bO m bP a f => ?_
      obtain ⟨rfl, rfl⟩ := bP
      have h0 := rd1 bO h0
      have aV := OwR.mono trivial bO aV
      have aW := od1 bO aW
      have aE := Ow.mono (RSl.mono (RI.mono _)) bO aE
      have aF := rd1 bO aF
      refine l_run f rfl rfl bC ?_
      refine l_op f rfl rfl rfl (r_not (f.eval rfl)) fun a f => l_op f rfl rfl rfl (r_pickF (f.eval rfl) bC (f.eval rfl)) fun a f => ?_
      obtain rfl := sj bA
      exact ⟨_, bO, m, f.weak ⟨rfl, rfl, rfl, rfl, rfl, rfl, rfl, rfl, rfl, rfl, rfl, rfl, rfl, rfl, trivial⟩⟩
    ·rintro a w ⟨bB, bQ, m, f⟩
     have h0 := rd1 bQ h0
     have aV := OwR.mono trivial bQ aV
     have aW := od1 bQ aW
     have aE := Ow.mono (RSl.mono (RI.mono _)) bQ aE
     have aF := rd1 bQ aF
     refine l_nil ?_
     rcases cond_some hd with ⟨bR, hd⟩ | ⟨bR, hd⟩
     ·refine k_true f rfl bR ?_
      refine k_seq (k_region ?_)
      refine l_as f rfl rfl fun a f => l_nil ?_
      refine k_ret ?_
      have m : Mem W bB w H := Mem.drop (H' := [aS, aU, Itm.box aG 29 [aB], aC, Itm.box aq 51 [aD, (.int .i64 au.2.2.1), (.int .u64 au.2.2.2)]]) m
      obtain rfl := sj hd
      exact ⟨[(.bool false)], ⟨f.get _ _ rfl, trivial⟩, f.defers, _, [], (GLe.trans af (GLe.trans an (GLe.trans az (GLe.trans aP (GLe.trans bf (GLe.trans bx bQ)))))), m, rfl, rfl⟩
     ·refine k_false f rfl bR ?_
      refine k_skip ?_
      refine k_seq (k_region ?_)
      refine l_mv f rfl rfl fun a f => ?_
      obtain ⟨bS, bT, hd⟩ := bind_some hd
      refine l_res f rfl rfl Tryd.call12 (OwR.lendCall trivial 0 aV m rfl (fun bU bV m bW => Wk.k0 hW m bW bT) (fun _ G' _ _ ⟨a0, a1, e1, e2, o0⟩ => ⟨a0, a1, e1, e2, Ow2.free (RI.free _) G' o0⟩)) fun bX bY bZ w b0 m b1 a f => ?_
      obtain ⟨b2, b3, rfl, rfl, b4⟩ := b1
      have h0 := rd1 b0 h0
      have aV := OwR.mono trivial b0 aV
      have aW := od1 b0 aW
      have aE := Ow.mono (RSl.mono (RI.mono _)) b0 aE
      have aF := rd1 b0 aF
      refine l_mv f rfl rfl fun a f => l_op f rfl rfl rfl (r_extract (f.eval rfl) rfl) fun a f => l_op f rfl rfl rfl (r_extract (f.eval rfl) rfl) fun a f => l_alloc (cs := [(.slice none 0 0)]) Tryd.zeroValue29 m f rfl rfl fun b5 w a m f => l_boxStore 0 0 (ds := [b2]) m Tryd.sizeOf29 f rfl rfl rfl (ones_cons (Ow2.one1 1 m b4 rfl) ones_nil) rfl (Nat.le_of_ble_eq_true rfl) rfl fun w m => l_as f rfl rfl fun a f => l_nil (k_seq (k_seq (k_region ?_)))
      refine l_mv f rfl rfl fun a f => l_op f rfl rfl rfl (r_not (f.eval rfl)) fun a f => l_mv f rfl rfl fun a f => ?_
      obtain ⟨b6, b7, hd⟩ := bind_some hd
      refine l_cut 5 (fun a w => ∃ b8, GLe bY b8 ∧ Mem W b8 w (Itm.box b5 29 [b2] :: b3 :: aS :: aU :: Itm.box aG 29 [aB] :: aC :: Itm.box aq 51 [aD, (.int .i64 au.2.2.1), (.int .u64 au.2.2.2)] :: H) ∧ Fr a 102 [(0, v0), (3, (.pointer (some ⟨aq, 0, none⟩))), (4, (.pointer (some ⟨aG, 0, none⟩))), (5, aR), (6, aT), (7, (.pointer (some ⟨b5, 0, none⟩))), (8, (.bool bS.2)), (52, (.bool bS.2)), (53, (.bool (!bS.2))), (54, (.bool (!bS.2))), (59, (.bool b6))]) ?_ ?_
      ·rcases cond_some b7 with ⟨b9, b7⟩ | ⟨b9, b7⟩
       ·refine l_not' f rfl rfl rfl b9 fun a f => ?_
        refine l_not' f rfl rfl rfl b9 fun a f => l_not' f rfl rfl rfl b9 fun a f => l_not' f rfl rfl rfl b9 fun a f => l_op f rfl rfl rfl (r_pickT (f.eval rfl) b9 (f.eval rfl)) fun a f => ?_
        obtain rfl := sj b7
        exact ⟨_, (GLe.refl _), m, f.weak ⟨rfl, rfl, rfl, rfl, rfl, rfl, rfl, rfl, rfl, rfl, rfl, trivial⟩⟩
       ·refine l_run f rfl rfl b9 ?_
        refine l_boxAgg 0 0 (ds := [b2]) m Ag29 f rfl rfl rfl rfl rfl fun a f => l_run f rfl rfl b9 ?_
        refine l_boxAgg 4 0 (ds := [aB]) m Ag29 f rfl rfl rfl rfl rfl fun a f => l_run f rfl rfl b9 ?_
        obtain ⟨ca, cb, b7⟩ := bind_some b7
        refine l_res f rfl rfl Tryd.call13 (Ow2.lendCall (RI.mono _) 1 b4 m rfl (fun cc cd m ce => (Ow.lendCall (RSl.mono (RI.mono _)) 4 (Ow.mono (RSl.mono (RI.mono _)) cd aE) m rfl (fun cf cg m ch => Wk.d0 m (rd2 cg ce) ch cb) (fun _ _ _ _ h => h))) (fun _ _ _ _ h => h)) fun ci cj ck w cl m cm a f => ?_
        obtain ⟨rfl, rfl⟩ := cm
        have h0 := rd1 cl h0
        have b4 := Ow2.mono (RI.mono _) cl b4
        have aV := OwR.mono trivial cl aV
        have aW := od1 cl aW
        have aE := Ow.mono (RSl.mono (RI.mono _)) cl aE
        have aF := rd1 cl aF
        refine l_run f rfl rfl b9 ?_
        refine l_op f rfl rfl rfl (r_not (f.eval rfl)) fun a f => l_op f rfl rfl rfl (r_pickF (f.eval rfl) b9 (f.eval rfl)) fun a f => ?_
        obtain rfl := sj b7
        exact ⟨_, cl, m, f.weak ⟨rfl, rfl, rfl, rfl, rfl, rfl, rfl, rfl, rfl, rfl, rfl, trivial⟩⟩
      ·rintro a w ⟨b8, cn, m, f⟩
       have h0 := rd1 cn h0
       have b4 := Ow2.mono (RI.mono _) cn b4
       have aV := OwR.mono trivial cn aV
       have aW := od1 cn aW
       have aE := Ow.mono (RSl.mono (RI.mono _)) cn aE
       have aF := rd1 cn aF
       refine l_nil ?_
       rcases cond_some hd with ⟨co, hd⟩ | ⟨co, hd⟩
       ·refine k_true f rfl co ?_
        refine k_seq (k_region ?_)
        refine l_as f rfl rfl fun a f => l_nil ?_
        refine k_ret ?_
        have m : Mem W b8 w H := Mem.drop (H' := [Itm.box b5 29 [b2], b3, aS, aU, Itm.box aG 29 [aB], aC, Itm.box aq 51 [aD, (.int .i64 au.2.2.1), (.int .u64 au.2.2.2)]]) m
        obtain rfl := sj hd
        exact ⟨[(.bool false)], ⟨f.get _ _ rfl, trivial⟩, f.defers, _, [], (GLe.trans af (GLe.trans an (GLe.trans az (GLe.trans aP (GLe.trans bf (GLe.trans bx (GLe.trans bQ (GLe.trans b0 cn)))))))), m, rfl, rfl⟩
       ·refine k_false f rfl co ?_
        refine k_skip ?_
        refine k_seq (k_region ?_)
        refine l_fieldAddr Tryd.underlying29 rfl Tryd.sizeOf27 (by decide) f rfl rfl fun a f => l_boxCell 4 0 m Pl27 f rfl rfl rfl rfl fun a f => l_own_len 5 m aE rfl Tryd.underlying27 f rfl rfl fun a f => l_as f rfl rfl fun a f => l_nil (k_seq (k_region ?_))
        refine l_slit (R := (RI .i64)) (xs := ([] : List Int)) (RI.one _) m T32 f rfl rfl rfl (by decide) (All2.nil _) fun cp cq w a m cr f => l_as f rfl rfl fun a f => l_nil (k_seq (k_seq (k_region ?_)))
        refine l_as f rfl rfl fun a f => l_nil ?_
        obtain ⟨ct, cu, hd⟩ := bind_some hd
        refine k_cut (fun a w => ∃ cv : List Int, cv = ct ∧ ∃ (cw : GH) (cx : Value) (cy : Itm), GLe b8 cw ∧ Fr a 102 [(3, (.pointer (some ⟨aq, 0, none⟩))), (4, (.pointer (some ⟨aG, 0, none⟩))), (9, (.int .i64 (au.1.length : Int))), (10, cx)] ∧ Mem W cw w (Itm.box aq 51 [aD, (.int .i64 au.2.2.1), (.int .u64 au.2.2.2)] :: Itm.box aG 29 [aB] :: cy :: aC :: H) ∧ Ow (RI .i64) 2 cw cy cx cv) ?_ ?_
        ·refine k_block ?_
         have m := m.front 6 rfl
         have m := m.front 1 rfl
         have m : Mem W b8 w (Itm.box aG 29 [aB] :: cp :: aC :: Itm.box b5 29 [b2] :: b3 :: aS :: aU :: Itm.box aq 51 [aD, (.int .i64 au.2.2.1), (.int .u64 au.2.2.2)] :: H) := m.front 6 rfl
         have m := m.front 7 rfl
         have m := m.front 7 rfl
         have m : Mem W b8 w (aS :: aU :: Itm.box aq 51 [aD, (.int .i64 au.2.2.1), (.int .u64 au.2.2.2)] :: Itm.box aG 29 [aB] :: cp :: aC :: Itm.box b5 29 [b2] :: b3 :: H) := m.front 7 rfl
         have m := m.front 7 rfl
         have m := m.front 6 rfl
         have m : Mem W b8 w (cp :: aC :: b3 :: aS :: aU :: Itm.box aq 51 [aD, (.int .i64 au.2.2.1), (.int .u64 au.2.2.2)] :: Itm.box aG 29 [aB] :: Itm.box b5 29 [b2] :: H) := m.front 6 rfl
         have m := m.front 6 rfl
         have m := m.front 6 rfl
         have m : Mem W b8 w (Itm.box aq 51 [aD, (.int .i64 au.2.2.1), (.int .u64 au.2.2.2)] :: Itm.box aG 29 [aB] :: cp :: aC :: b3 :: aS :: aU :: H) := m.eraseAt 7
         have m := m.eraseAt 6
         have m := m.eraseAt 5
         have m : Mem W b8 w (Itm.box aq 51 [aD, (.int .i64 au.2.2.1), (.int .u64 au.2.2.2)] :: Itm.box aG 29 [aB] :: cp :: aC :: H) := m.eraseAt 4
         refine k_loop (fun cz a w => ∃ cA : List Int, ∃ cB : Int, (cA, cB) = cz ∧ ∃ (cC : GH) (cD : Value) (cE : Itm), GLe b8 cC ∧ Fr a 102 [(3, (.pointer (some ⟨aq, 0, none⟩))), (4, (.pointer (some ⟨aG, 0, none⟩))), (9, (.int .i64 (au.1.length : Int))), (10, cD), (11, (.int .i64 cB))] ∧ Mem W cC w (Itm.box aq 51 [aD, (.int .i64 au.2.2.1), (.int .u64 au.2.2.2)] :: Itm.box aG 29 [aB] :: cE :: aC :: H) ∧ Ow (RI .i64) 2 cC cE cD cA) cu ⟨_, _, rfl, _, cq, cp, (GLe.refl _), f.weak ⟨rfl, rfl, rfl, rfl, rfl, trivial⟩, m, cr⟩ ?_
         clear cu f m
         rintro cz cF cG cH a w ⟨cA, cB, rfl, cC, cD, cE, cI, f, m, cJ⟩
         have aF := rd1 cI aF
         have aE := Ow.mono (RSl.mono (RI.mono _)) cI aE
         refine k_seq (k_seq (k_region ?_))
         refine l_mv f rfl rfl fun a f => l_mv f rfl rfl fun a f => l_in f rfl rfl rfl b_lss fun a f => l_nil ?_
         rcases cond_some cG with ⟨cK, cG⟩ | ⟨cK, cG⟩
         ·refine k_true f rfl cK ?_
          refine k_skip ?_
          refine k_seq (k_block (k_region ?_))
          refine l_mv f rfl rfl fun a f => l_mv f rfl rfl fun a f => l_slit (R := (RI .i64)) (xs := ([cB] : List Int)) (RI.one _) m T32 f rfl rfl rfl (by decide) (All2.cons rfl (All2.nil _)) fun cL cM w a m cN f => ?_
          obtain ⟨cO, cP, cG⟩ := bind_some cG
          refine l_append (RI.one _) 3 m cJ rfl T32 rfl (by decide) f rfl rfl rfl (Ow.src (j := 0) cN m rfl) cP fun cQ cR w a m cS f => l_as f rfl rfl fun a f => l_nil (k_region ?_)
          refine l_mv f rfl rfl fun a f => l_in f rfl rfl rfl b_add fun a f => l_as f rfl rfl fun a f => l_nil ?_
          have m := m.front 4 rfl
          have m := m.front 4 rfl
          have m : Mem W cC w (Itm.box aG 29 [aB] :: cQ :: aC :: cL :: Itm.box aq 51 [aD, (.int .i64 au.2.2.1), (.int .u64 au.2.2.2)] :: H) := m.front 4 rfl
          have m := m.front 4 rfl
          have m : Mem W cC w (Itm.box aq 51 [aD, (.int .i64 au.2.2.1), (.int .u64 au.2.2.2)] :: Itm.box aG 29 [aB] :: cQ :: aC :: H) := m.eraseAt 4
          obtain rfl := sj cG
          exact ⟨_, rfl, _, _, rfl, _, cR, cQ, cI, f.weak ⟨rfl, rfl, rfl, rfl, rfl, trivial⟩, m, cS⟩
         ·refine k_false f rfl cK ?_
          refine k_exit rfl ?_
          obtain rfl := sj cG
          obtain rfl := cH _ rfl
          exact ⟨_, rfl, _, cD, cE, cI, f.weak ⟨rfl, rfl, rfl, rfl, trivial⟩, m, cJ⟩
        ·rintro a w ⟨cv, rfl, cw, cx, cy, cT, f, m, cU⟩
         have aF := rd1 cT aF
         have aE := Ow.mono (RSl.mono (RI.mono _)) cT aE
         refine k_seq ?_
         obtain ⟨cV, cW, hd⟩ := bind_some hd
         refine k_cut (fun a w => ∃ cX : Int, ∃ cY : Int, ∃ cZ : Int, ∃ c0 : Bool, (cX, cY, cZ, c0) = cV ∧ ∃ (c1 : GH) (c2 : Nat), GLe cw c1 ∧ Fr a 102 [(4, (.pointer (some ⟨aG, 0, none⟩))), (9, (.int .i64 (au.1.length : Int))), (12, (.pointer (some ⟨c2, 0, none⟩))), (13, (.bool c0))] ∧ Mem W c1 w (Itm.box aG 29 [aB] :: Itm.box c2 41 [(.int .i64 cX), (.int .i64 cY), (.int .i64 cZ)] :: aC :: H)) ?_ ?_
         ·refine k_drawE [Itm.box aq 51 [aD, (.int .i64 au.2.2.1), (.int .u64 au.2.2.2)]] (Itm.box aG 29 [aB] :: cy :: aC :: H) 11 Follows (by kernel_rfl) m ?_
          refine q_boxAgg (i := 0) (ds := [aB]) 11 0 Ag29 rfl rfl rfl rfl (by kernel_rfl) rfl f rfl rfl rfl fun a f => q_mv 1 11 rfl (by kernel_rfl) f rfl rfl rfl fun a f => q_mv 2 11 rfl (by kernel_rfl) f rfl rfl rfl fun a f => q_mv 3 11 rfl (by kernel_rfl) f rfl rfl rfl fun a f => q_two (i := 4) (j := 9) (l1 := #[true, true, true, true, true, false, false, false, false, false, false, false]) (l2 := #[true, true, true, true, false, false, false, false, false, true, false, false]) rfl rfl (by kernel_rfl) rfl rfl ?_ ?_
          ·intro c3 w c4 m c5 c5
           have aF := rd1 c4 aF
           have cU := od1 c4 cU
           have aE := Ow.mono (RSl.mono (RI.mono _)) c4 aE
           obtain ⟨c6, c7, cW⟩ := bind_some cW
           refine l_res f rfl rfl Tryd.call15 (Wk.k m aF c7) fun c8 c9 da w db m dc a f => ?_
           obtain ⟨dd, rfl, rfl, de⟩ := dc
           have cU := od1 db cU
           have aE := Ow.mono (RSl.mono (RI.mono _)) db aE
           refine l_nil ?_
           refine c5 c9 [Itm.box aq 51 [dd, (.int .i64 c6.2.2.1), (.int .u64 c6.2.2.2)]] _ _ db m ?_
           refine q_two (i := 5) (j := 9) (l1 := #[true, true, true, true, true, true, false, false, false, false, false, false]) (l2 := #[true, true, true, true, true, false, false, false, false, true, false, false]) rfl rfl (by kernel_rfl) rfl rfl ?_ ?_
           ·intro df w dg m dh dh
            have de := rd1 dg de
            have cU := od1 dg cU
            have aE := Ow.mono (RSl.mono (RI.mono _)) dg aE
            obtain ⟨di, dj, cW⟩ := bind_some cW
            refine l_res f rfl rfl Tryd.call14 (Ow.lendCall (RSl.mono (RI.mono _)) 3 aE m rfl (fun dk dl m dm => (Ow.lendCall (RI.mono _) 2 (od1 dl cU) m rfl (fun dn dp m dq => Wk.M m (rd2 dp dm) dq dj) (fun _ _ _ _ h => h))) (fun _ _ _ _ h => h)) fun dr dt du w dv m dw a f => ?_
            obtain ⟨rfl, rfl⟩ := dw
            have de := rd1 dv de
            have cU := od1 dv cU
            have aE := Ow.mono (RSl.mono (RI.mono _)) dv aE
            refine l_nil ?_
            refine dh dt [Itm.box aq 51 [dd, (.int .i64 c6.2.2.1), (.int .u64 c6.2.2.2)]] _ _ dv m ?_
            refine q_mv 6 11 rfl (by kernel_rfl) f rfl rfl rfl fun a f => q_p 7 11 rfl (by kernel_rfl) f rfl rfl rfl (fun _ => r_extract (f.eval rfl) rfl) fun a f => q_p 8 11 rfl (by kernel_rfl) f rfl rfl rfl (fun _ => r_extract (f.eval rfl) rfl) fun a f => q_one (i := 9) rfl (by kernel_rfl) rfl fun dx w dy m dz dz => ?_
            have de := rd1 dy de
            have cU := od1 dy cU
            have aE := Ow.mono (RSl.mono (RI.mono _)) dy aE
            refine l_alloc (cs := [(.int .i64 0), (.int .i64 0), (.int .i64 0)]) Tryd.zeroValue41 m f rfl rfl fun dA w a m f => l_nil ?_
            refine dz dx [Itm.box dA 41 [(.int .i64 0), (.int .i64 0), (.int .i64 0)], Itm.box aq 51 [dd, (.int .i64 c6.2.2.1), (.int .u64 c6.2.2.2)]] _ _ (GLe.refl _) m ?_
            refine q_one (i := 10) rfl (by kernel_rfl) rfl fun dB w dC m dD dD => ?_
            have de := rd1 dC de
            have cU := od1 dC cU
            have aE := Ow.mono (RSl.mono (RI.mono _)) dC aE
            refine l_boxStore 0 0 (ds := [(.int .i64 di.1), (.int .i64 di.2.1), (.int .i64 di.2.2.1)]) m Tryd.sizeOf41 f rfl rfl rfl (ones_cons rfl (ones_cons rfl (ones_cons rfl ones_nil))) rfl (Nat.le_of_ble_eq_true rfl) rfl fun w m => l_nil ?_
            refine dD dB [Itm.box dA 41 [(.int .i64 di.1), (.int .i64 di.2.1), (.int .i64 di.2.2.1)], Itm.box aq 51 [dd, (.int .i64 c6.2.2.1), (.int .u64 c6.2.2.2)]] _ _ (GLe.refl _) m ?_
            refine q_end fun dE w dF m => ?_
            have de := rd1 dF de
            have cU := od1 dF cU
            have aE := Ow.mono (RSl.mono (RI.mono _)) dF aE
            refine l_as f rfl rfl fun a f => l_nil ?_
            have m := m.front 4 rfl
            have m := m.front 1 rfl
            have m : Mem W dE w (Itm.box aG 29 [aB] :: Itm.box dA 41 [(.int .i64 di.1), (.int .i64 di.2.1), (.int .i64 di.2.2.1)] :: aC :: Itm.box aq 51 [dd, (.int .i64 c6.2.2.1), (.int .u64 c6.2.2.2)] :: cy :: H) := m.front 3 rfl
            have m := m.eraseAt 4
            have m : Mem W dE w (Itm.box aG 29 [aB] :: Itm.box dA 41 [(.int .i64 di.1), (.int .i64 di.2.1), (.int .i64 di.2.2.1)] :: aC :: H) := m.eraseAt 3
            obtain rfl := sj cW
            exact ⟨_, _, _, _, rfl, _, dA, (GLe.trans c4 (GLe.trans db (GLe.trans dg (GLe.trans dv (GLe.trans dy (GLe.trans dC dF)))))), f.weak ⟨rfl, rfl, rfl, rfl, trivial⟩, m⟩
           ·intro dx w dy m dz dz
            obtain ⟨di, dj, cW⟩ := bind_some cW
            have de := rd1 dy de
            have cU := od1 dy cU
            have aE := Ow.mono (RSl.mono (RI.mono _)) dy aE
            refine l_alloc (cs := [(.int .i64 0), (.int .i64 0), (.int .i64 0)]) Tryd.zeroValue41 m f rfl rfl fun dA w a m f => l_nil ?_
            refine dz dx [Itm.box dA 41 [(.int .i64 0), (.int .i64 0), (.int .i64 0)], Itm.box aq 51 [dd, (.int .i64 c6.2.2.1), (.int .u64 c6.2.2.2)]] _ _ (GLe.refl _) m ?_
            refine q_one (i := 5) rfl (by kernel_rfl) rfl fun df w dg m dh dh => ?_
            have de := rd1 dg de
            have cU := od1 dg cU
            have aE := Ow.mono (RSl.mono (RI.mono _)) dg aE
            refine l_res f rfl rfl Tryd.call14 (Ow.lendCall (RSl.mono (RI.mono _)) 4 aE m rfl (fun dk dl m dm => (Ow.lendCall (RI.mono _) 3 (od1 dl cU) m rfl (fun dn dp m dq => Wk.M m (rd2 dp dm) dq dj) (fun _ _ _ _ h => h))) (fun _ _ _ _ h => h)) fun dr dt du w dv m dw a f => ?_
            obtain ⟨rfl, rfl⟩ := dw
            have de := rd1 dv de
            have cU := od1 dv cU
            have aE := Ow.mono (RSl.mono (RI.mono _)) dv aE
            refine l_nil ?_
            refine dh dt [Itm.box dA 41 [(.int .i64 0), (.int .i64 0), (.int .i64 0)], Itm.box aq 51 [dd, (.int .i64 c6.2.2.1), (.int .u64 c6.2.2.2)]] _ _ dv m ?_
            refine q_mv 6 11 rfl (by kernel_rfl) f rfl rfl rfl fun a f => q_p 7 11 rfl (by kernel_rfl) f rfl rfl rfl (fun _ => r_extract (f.eval rfl) rfl) fun a f => q_p 8 11 rfl (by kernel_rfl) f rfl rfl rfl (fun _ => r_extract (f.eval rfl) rfl) fun a f => q_one (i := 10) rfl (by kernel_rfl) rfl fun dB w dC m dD dD => ?_
            have de := rd1 dC de
            have cU := od1 dC cU
            have aE := Ow.mono (RSl.mono (RI.mono _)) dC aE
            refine l_boxStore 0 0 (ds := [(.int .i64 di.1), (.int .i64 di.2.1), (.int .i64 di.2.2.1)]) m Tryd.sizeOf41 f rfl rfl rfl (ones_cons rfl (ones_cons rfl (ones_cons rfl ones_nil))) rfl (Nat.le_of_ble_eq_true rfl) rfl fun w m => l_nil ?_
            refine dD dB [Itm.box dA 41 [(.int .i64 di.1), (.int .i64 di.2.1), (.int .i64 di.2.2.1)], Itm.box aq 51 [dd, (.int .i64 c6.2.2.1), (.int .u64 c6.2.2.2)]] _ _ (GLe.refl _) m ?_
            refine q_end fun dE w dF m => ?_
            have de := rd1 dF de
            have cU := od1 dF cU
            have aE := Ow.mono (RSl.mono (RI.mono _)) dF aE
            refine l_as f rfl rfl fun a f => l_nil ?_
            have m := m.front 4 rfl
            have m := m.front 1 rfl
            have m : Mem W dE w (Itm.box aG 29 [aB] :: Itm.box dA 41 [(.int .i64 di.1), (.int .i64 di.2.1), (.int .i64 di.2.2.1)] :: aC :: Itm.box aq 51 [dd, (.int .i64 c6.2.2.1), (.int .u64 c6.2.2.2)] :: cy :: H) := m.front 3 rfl
            have m := m.eraseAt 4
            have m : Mem W dE w (Itm.box aG 29 [aB] :: Itm.box dA 41 [(.int .i64 di.1), (.int .i64 di.2.1), (.int .i64 di.2.2.1)] :: aC :: H) := m.eraseAt 3
            obtain rfl := sj cW
            exact ⟨_, _, _, _, rfl, _, dA, (GLe.trans c4 (GLe.trans db (GLe.trans dy (GLe.trans dg (GLe.trans dv (GLe.trans dC dF)))))), f.weak ⟨rfl, rfl, rfl, rfl, trivial⟩, m⟩
          ·intro dx w dy m dz dz
           obtain ⟨c6, c7, cW⟩ := bind_some cW
           obtain ⟨di, dj, cW⟩ := bind_some cW
           have aF := rd1 dy aF
           have cU := od1 dy cU
           have aE := Ow.mono (RSl.mono (RI.mono _)) dy aE
           refine l_alloc (cs := [(.int .i64 0), (.int .i64 0), (.int .i64 0)]) Tryd.zeroValue41 m f rfl rfl fun dA w a m f => l_nil ?_
           refine dz dx [Itm.box dA 41 [(.int .i64 0), (.int .i64 0), (.int .i64 0)], Itm.box aq 51 [aD, (.int .i64 au.2.2.1), (.int .u64 au.2.2.2)]] _ _ (GLe.refl _) m ?_
           refine q_one (i := 4) rfl (by kernel_rfl) rfl fun c3 w c4 m c5 c5 => ?_
           have aF := rd1 c4 aF
           have cU := od1 c4 cU
           have aE := Ow.mono (RSl.mono (RI.mono _)) c4 aE
           have m : Mem W c3 w (Itm.box aq 51 [aD, (.int .i64 au.2.2.1), (.int .u64 au.2.2.2)] :: Itm.box dA 41 [(.int .i64 0), (.int .i64 0), (.int .i64 0)] :: Itm.box aG 29 [aB] :: cy :: aC :: H) := m.front 1 rfl
           refine l_res f rfl rfl Tryd.call15 (Wk.k m aF c7) fun c8 c9 da w db m dc a f => ?_
           obtain ⟨dd, rfl, rfl, de⟩ := dc
           have cU := od1 db cU
           have aE := Ow.mono (RSl.mono (RI.mono _)) db aE
           refine l_nil ?_
           refine c5 c9 [Itm.box aq 51 [dd, (.int .i64 c6.2.2.1), (.int .u64 c6.2.2.2)], Itm.box dA 41 [(.int .i64 0), (.int .i64 0), (.int .i64 0)]] _ _ db m ?_
           refine q_one (i := 5) rfl (by kernel_rfl) rfl fun df w dg m dh dh => ?_
           have de := rd1 dg de
           have cU := od1 dg cU
           have aE := Ow.mono (RSl.mono (RI.mono _)) dg aE
           refine l_res f rfl rfl Tryd.call14 (Ow.lendCall (RSl.mono (RI.mono _)) 4 aE m rfl (fun dk dl m dm => (Ow.lendCall (RI.mono _) 3 (od1 dl cU) m rfl (fun dn dp m dq => Wk.M m (rd2 dp dm) dq dj) (fun _ _ _ _ h => h))) (fun _ _ _ _ h => h)) fun dr dt du w dv m dw a f => ?_
           obtain ⟨rfl, rfl⟩ := dw
           have de := rd1 dv de
           have cU := od1 dv cU
           have aE := Ow.mono (RSl.mono (RI.mono _)) dv aE
           refine l_nil ?_
           refine dh dt [Itm.box aq 51 [dd, (.int .i64 c6.2.2.1), (.int .u64 c6.2.2.2)], Itm.box dA 41 [(.int .i64 0), (.int .i64 0), (.int .i64 0)]] _ _ dv m ?_
           refine q_mv 6 11 rfl (by kernel_rfl) f rfl rfl rfl fun a f => q_p 7 11 rfl (by kernel_rfl) f rfl rfl rfl (fun _ => r_extract (f.eval rfl) rfl) fun a f => q_p 8 11 rfl (by kernel_rfl) f rfl rfl rfl (fun _ => r_extract (f.eval rfl) rfl) fun a f => q_one (i := 10) rfl (by kernel_rfl) rfl fun dB w dC m dD dD => ?_
           have de := rd1 dC de
           have cU := od1 dC cU
           have aE := Ow.mono (RSl.mono (RI.mono _)) dC aE
           refine l_boxStore 1 0 (ds := [(.int .i64 di.1), (.int .i64 di.2.1), (.int .i64 di.2.2.1)]) m Tryd.sizeOf41 f rfl rfl rfl (ones_cons rfl (ones_cons rfl (ones_cons rfl ones_nil))) rfl (Nat.le_of_ble_eq_true rfl) rfl fun w m => l_nil ?_
           refine dD dB [Itm.box aq 51 [dd, (.int .i64 c6.2.2.1), (.int .u64 c6.2.2.2)], Itm.box dA 41 [(.int .i64 di.1), (.int .i64 di.2.1), (.int .i64 di.2.2.1)]] _ _ (GLe.refl _) m ?_
           refine q_end fun dE w dF m => ?_
           have de := rd1 dF de
           have cU := od1 dF cU
           have aE := Ow.mono (RSl.mono (RI.mono _)) dF aE
           refine l_as f rfl rfl fun a f => l_nil ?_
           have m := m.front 4 rfl
           have m := m.front 2 rfl
           have m : Mem W dE w (Itm.box aG 29 [aB] :: Itm.box dA 41 [(.int .i64 di.1), (.int .i64 di.2.1), (.int .i64 di.2.2.1)] :: aC :: Itm.box aq 51 [dd, (.int .i64 c6.2.2.1), (.int .u64 c6.2.2.2)] :: cy :: H) := m.front 3 rfl
           have m := m.eraseAt 4
           have m : Mem W dE w (Itm.box aG 29 [aB] :: Itm.box dA 41 [(.int .i64 di.1), (.int .i64 di.2.1), (.int .i64 di.2.2.1)] :: aC :: H) := m.eraseAt 3
           obtain rfl := sj cW
           exact ⟨_, _, _, _, rfl, _, dA, (GLe.trans dy (GLe.trans c4 (GLe.trans db (GLe.trans dg (GLe.trans dv (GLe.trans dC dF)))))), f.weak ⟨rfl, rfl, rfl, rfl, trivial⟩, m⟩
         ·rintro a w ⟨cX, cY, cZ, c0, rfl, c1, c2, dG, f, m⟩
          have aE := Ow.mono (RSl.mono (RI.mono _)) dG aE
          refine k_seq (k_seq (k_region ?_))
          refine l_mv f rfl rfl fun a f => l_op f rfl rfl rfl (r_not (f.eval rfl)) fun a f => l_mv f rfl rfl fun a f => ?_
          refine l_cut 3 (fun a w => ∃ dH, GLe c1 dH ∧ Mem W dH w (Itm.box aG 29 [aB] :: Itm.box c2 41 [(.int .i64 cX), (.int .i64 cY), (.int .i64 cZ)] :: aC :: H) ∧ Fr a 102 [(4, (.pointer (some ⟨aG, 0, none⟩))), (9, (.int .i64 (au.1.length : Int))), (12, (.pointer (some ⟨c2, 0, none⟩))), (13, (.bool c0)), (82, (.bool c0)), (83, (.bool (!c0))), (84, (.bool (!c0))), (87, (.bool ((!c0) || ((au.1.length : Int) == 1))))]) ?_ ?_
          ·rcases Bool.eq_false_or_eq_true (!c0) with dI | dI
           ·refine l_not' f rfl rfl rfl dI fun a f => ?_
            refine l_not' f rfl rfl rfl dI fun a f => l_op f rfl rfl rfl (r_pickT (f.eval rfl) dI (f.eval rfl)) fun a f => ?_
            exact ⟨_, (GLe.refl _), m, f.weak ⟨rfl, rfl, rfl, rfl, rfl, rfl, rfl, by rw [dI]; rfl, trivial⟩⟩
           ·refine l_run f rfl rfl dI ?_
            refine l_mv f rfl rfl fun a f => l_run f rfl rfl dI ?_
            refine l_in f rfl rfl rfl b_eql fun a f => l_op f rfl rfl rfl (r_pickF (f.eval rfl) dI (f.eval rfl)) fun a f => ?_
            exact ⟨_, (GLe.refl _), m, f.weak ⟨rfl, rfl, rfl, rfl, rfl, rfl, rfl, by rw [dI]; rfl, trivial⟩⟩
          ·rintro a w ⟨dH, dJ, m, f⟩
           have aE := Ow.mono (RSl.mono (RI.mono _)) dJ aE
           refine l_nil ?_
           rcases cond_some hd with ⟨dK, hd⟩ | ⟨dK, hd⟩
           ·refine k_true f rfl dK ?_
            refine k_seq (k_region ?_)
            refine l_mv f rfl rfl fun a f => l_mv f rfl rfl fun a f => ?_
            refine l_cut 3 (fun a w => ∃ dL, GLe dH dL ∧ Mem W dL w (Itm.box aG 29 [aB] :: Itm.box c2 41 [(.int .i64 cX), (.int .i64 cY), (.int .i64 cZ)] :: aC :: H) ∧ Fr a 102 [(4, (.pointer (some ⟨aG, 0, none⟩))), (9, (.int .i64 (au.1.length : Int))), (12, (.pointer (some ⟨c2, 0, none⟩))), (13, (.bool c0)), (87, (.bool ((!c0) || ((au.1.length : Int) == 1)))), (88, (.bool c0)), (89, (.bool c0)), (92, (.bool (c0 || (decide ((1 : Int) < (au.1.length : Int))))))]) ?_ ?_
            ·rcases Bool.eq_false_or_eq_true c0 with dM | dM
             ·refine l_not' f rfl rfl rfl dM fun a f => ?_
              refine l_not' f rfl rfl rfl dM fun a f => l_op f rfl rfl rfl (r_pickT (f.eval rfl) dM (f.eval rfl)) fun a f => ?_
              exact ⟨_, (GLe.refl _), m, f.weak ⟨rfl, rfl, rfl, rfl, rfl, rfl, rfl, by rw [dM]; rfl, trivial⟩⟩
             ·refine l_run f rfl rfl dM ?_
              refine l_mv f rfl rfl fun a f => l_run f rfl rfl dM ?_
              refine l_in f rfl rfl rfl b_gtr fun a f => l_op f rfl rfl rfl (r_pickF (f.eval rfl) dM (f.eval rfl)) fun a f => ?_
              exact ⟨_, (GLe.refl _), m, f.weak ⟨rfl, rfl, rfl, rfl, rfl, rfl, rfl, by rw [dM]; rfl, trivial⟩⟩
            ·rintro a w ⟨dL, dN, m, f⟩
             have aE := Ow.mono (RSl.mono (RI.mono _)) dN aE
             refine l_as f rfl rfl fun a f => l_nil ?_
             refine k_ret ?_
             have m : Mem W dL w H := Mem.drop (H' := [Itm.box aG 29 [aB], Itm.box c2 41 [(.int .i64 cX), (.int .i64 cY), (.int .i64 cZ)], aC]) m
             obtain rfl := sj hd
             exact ⟨[(.bool (c0 || (decide ((1 : Int) < (au.1.length : Int)))))], ⟨f.get _ _ rfl, trivial⟩, f.defers, _, [], (GLe.trans af (GLe.trans an (GLe.trans az (GLe.trans aP (GLe.trans bf (GLe.trans bx (GLe.trans bQ (GLe.trans b0 (GLe.trans cn (GLe.trans cT (GLe.trans dG (GLe.trans dJ dN)))))))))))), m, rfl, rfl⟩
           ·refine k_false f rfl dK ?_
            refine k_skip ?_
            refine k_seq (k_region ?_)
            refine l_boxAgg 0 0 (ds := [aB]) m Ag29 f rfl rfl rfl rfl rfl fun a f => l_fieldAddr Tryd.underlying41 rfl Tryd.sizeOf2 (by decide) f rfl rfl fun a f => l_boxCell 1 0 m Pl2 f rfl rfl rfl rfl fun a f => ?_
            have m : Mem W dH w (aC :: Itm.box aG 29 [aB] :: Itm.box c2 41 [(.int .i64 cX), (.int .i64 cY), (.int .i64 cZ)] :: H) := m.front 2 rfl
            obtain ⟨dO, dP, m, dQ⟩ := Ow.stamp (RSl.mono (RI.mono _)) aE m
            obtain ⟨dR, dS, hd⟩ := bind_some hd
            refine l_res f rfl rfl Tryd.call16 (Wk.q0 m dQ dS) fun dT dU dV w dW m dX a f => ?_
            obtain ⟨dY, dZ, rfl, rfl, d0⟩ := dX
            have dQ := rd2 dW dQ
            refine l_mv f rfl rfl fun a f => l_op f rfl rfl rfl (r_extract (f.eval rfl) rfl) fun a f => l_op f rfl rfl rfl (r_extract (f.eval rfl) rfl) fun a f => l_alloc (cs := [(.slice none 0 0)]) Tryd.zeroValue29 m f rfl rfl fun d1 w a m f => l_boxStore 0 0 (ds := [dY]) m Tryd.sizeOf29 f rfl rfl rfl (ones_cons (Ow.one1 1 m d0 rfl) ones_nil) rfl (Nat.le_of_ble_eq_true rfl) rfl fun w m => l_as f rfl rfl fun a f => l_nil (k_seq (k_region ?_))
            refine l_boxAgg 0 0 (ds := [dY]) m Ag29 f rfl rfl rfl rfl rfl fun a f => ?_
            obtain ⟨d2, d3, hd⟩ := bind_some hd
            refine l_res f rfl rfl Tryd.call9 (Ow.lendCall (RSl.mono (RI.mono _)) 1 d0 m rfl (fun d4 d5 m d6 => Wk.E hW m d6 d3) (fun _ _ _ _ h => h)) fun d7 d8 d9 w ea m eb a f => ?_
            obtain ⟨rfl, rfl⟩ := eb
            have d0 := Ow.mono (RSl.mono (RI.mono _)) ea d0
            have dQ := rd2 ea dQ
            refine l_as f rfl rfl fun a f => l_nil ?_
            refine k_ret ?_
            have m : Mem W d8 w H := Mem.drop (H' := [Itm.box d1 29 [dY], dZ, Itm.box aG 29 [aB], Itm.box c2 41 [(.int .i64 cX), (.int .i64 cY), (.int .i64 cZ)]]) m
            obtain rfl := sj hd
            exact ⟨[(.bool d2)], ⟨f.get _ _ rfl, trivial⟩, f.defers, _, [], (GLe.trans af (GLe.trans an (GLe.trans az (GLe.trans aP (GLe.trans bf (GLe.trans bx (GLe.trans bQ (GLe.trans b0 (GLe.trans cn (GLe.trans cT (GLe.trans dG (GLe.trans dJ (GLe.trans dP (GLe.trans dW ea)))))))))))))), m, rfl, rfl⟩

end Go.Proofs.YtkffjeaefgfnnaaDoor

/- What pendants and twins take away: whoever goes, the rest can go too. Plain. -/
namespace Go.Sx
/-- may v go from S? -/
def canR (R : Nat → Nat → Prop) (S : Nat → Prop) (v : Nat) : Prop :=
  (∀ w, S w → ¬ R v w) ∨ ∃ u, u ≠ v ∧ S u ∧ ((∀ w, S w → (R v w ↔ w = u)) ∨ (¬ R v u ∧ ∀ w, S w → (R v w ↔ R u w)) ∨ (R v u ∧ ∀ w, S w → w ≠ u → w ≠ v → (R v w ↔ R u w)))
/-- all of S, k of them, may go in some order -/
def Elim (R : Nat → Nat → Prop) : Nat → (Nat → Prop) → Prop
  | 0, S => ∀ w, ¬ S w
  | k + 1, S => ∃ v, S v ∧ canR R S v ∧ Elim R k (fun w => S w ∧ w ≠ v)
theorem Elim.iso {R R' : Nat → Nat → Prop} (f : Nat → Nat) : ∀ (k : Nat) (S S' : Nat → Prop), Elim R k S → (∀ w, S w → S' (f w)) → (∀ w', S' w' → ∃ w, S w ∧ f w = w') → (∀ u w, S u → S w → f u = f w → u = w) → (∀ u w, S u → S w → (R' (f u) (f w) ↔ R u w)) → Elim R' k S'
  | 0, S, S', h, _, h2, _, _ => fun w' hw' => by
    obtain ⟨w, hw, _⟩ := h2 w' hw'
    exact h w hw
  | k + 1, S, S', h, h1, h2, h3, h4 => by
    obtain ⟨v, hv, hc, he⟩ := h
    refine ⟨f v, h1 v hv, ?_, Elim.iso f k _ _ he (fun w hw => ⟨h1 w hw.1, fun e => hw.2 (h3 w v hw.1 hv e)⟩) (fun w' hw' => ?_) (fun u w hu hw => h3 u w hu.1 hw.1) (fun u w hu hw => h4 u w hu.1 hw.1)⟩
    · rcases hc with hc | ⟨u, hu, hSu, hc⟩
      · refine .inl fun w' hw' => ?_
        obtain ⟨w, hw, rfl⟩ := h2 w' hw'
        rw [h4 v w hv hw]; exact hc w hw
      · refine .inr ⟨f u, fun e => hu (h3 u v hSu hv e), h1 u hSu, ?_⟩
        rcases hc with hc | ⟨hn, hc⟩ | ⟨hn, hc⟩
        · refine .inl fun w' hw' => ?_
          obtain ⟨w, hw, rfl⟩ := h2 w' hw'
          rw [h4 v w hv hw, hc w hw]
          exact ⟨fun e => by rw [e], fun e => h3 w u hw hSu e⟩
        · refine .inr (.inl ⟨fun h => hn ((h4 v u hv hSu).1 h), fun w' hw' => ?_⟩)
          obtain ⟨w, hw, rfl⟩ := h2 w' hw'
          rw [h4 v w hv hw, h4 u w hSu hw]; exact hc w hw
        · refine .inr (.inr ⟨(h4 v u hv hSu).2 hn, fun w' hw' hwu hwv => ?_⟩)
          obtain ⟨w, hw, rfl⟩ := h2 w' hw'
          rw [h4 v w hv hw, h4 u w hSu hw]
          exact hc w hw (fun e => hwu (by rw [e])) (fun e => hwv (by rw [e]))
    · obtain ⟨w, hw, rfl⟩ := h2 w' hw'.1
      exact ⟨w, ⟨hw, fun e => hw'.2 (by rw [e])⟩, rfl⟩
theorem Elim.congr {R R' : Nat → Nat → Prop} {k : Nat} {S S' : Nat → Prop} (h : Elim R k S) (hS : ∀ w, S w ↔ S' w) (hR : ∀ u w, S u → S w → (R' u w ↔ R u w)) : Elim R' k S' :=
  Elim.iso id k S S' h (fun w hw => (hS w).1 hw) (fun w hw => ⟨w, (hS w).2 hw, rfl⟩) (fun _ _ _ _ e => e) hR
/-- whoever goes, the others can go still -/
theorem Elim.del {R : Nat → Nat → Prop} (hs : ∀ u w, R u w → R w u) (hi : ∀ u, ¬ R u u) : ∀ (k : Nat) (S : Nat → Prop), Elim R (k + 1) S → ∀ w, S w → Elim R k (fun x => S x ∧ x ≠ w)
  | k, S, h, w, hw => by
    obtain ⟨v, hv, hc, he⟩ := h
    by_cases hwv : w = v
    · subst hwv; exact he
    · cases k with
      | zero => exact absurd ⟨hw, hwv⟩ (he w)
      | succ k =>
        have ih := Elim.del hs hi k _ he w ⟨hw, hwv⟩
        have ih' : Elim R k (fun x => (S x ∧ x ≠ w) ∧ x ≠ v) := ih.congr (fun x => ⟨fun h => ⟨⟨h.1.1, h.2⟩, h.1.2⟩, fun h => ⟨⟨h.1.1, h.2⟩, h.1.2⟩⟩) (fun _ _ _ _ => Iff.rfl)
        have hvS : S v ∧ v ≠ w := ⟨hv, fun e => hwv e.symm⟩
        rcases hc with hc | ⟨u, hu, hSu, hc⟩
        · exact ⟨v, hvS, .inl fun x hx => hc x hx.1, ih'⟩
        · by_cases huw : u = w
          · subst huw
            have hswap : (∀ y, S y → y ≠ u → y ≠ v → (R v y ↔ R u y)) → Elim R (k + 1) (fun x => S x ∧ x ≠ u) := by
              intro hy
              have key : ∀ x y, (S x ∧ x ≠ v) → (S y ∧ y ≠ v) → (R (if x = u then v else x) (if y = u then v else y) ↔ R x y) := by
                intro x y hx hy'
                by_cases h1 : x = u
                · rw [if_pos h1]
                  by_cases h2 : y = u
                  · rw [if_pos h2, h1, h2]; exact ⟨fun h => absurd h (hi v), fun h => absurd h (hi u)⟩
                  · rw [if_neg h2, h1]; exact hy y hy'.1 h2 hy'.2
                · rw [if_neg h1]
                  by_cases h2 : y = u
                  · rw [if_pos h2, h2]
                    have := hy x hx.1 h1 hx.2
                    exact ⟨fun h => hs _ _ (this.1 (hs _ _ h)), fun h => hs _ _ (this.2 (hs _ _ h))⟩
                  · rw [if_neg h2]
              refine Elim.iso (fun x => if x = u then v else x) (k + 1) _ _ he (fun x hx => ?_) (fun x hx => ?_) (fun x y hx hy' e => ?_) key
              · by_cases h1 : x = u
                · rw [if_pos h1]; exact hvS
                · rw [if_neg h1]; exact ⟨hx.1, h1⟩
              · by_cases h1 : x = v
                · exact ⟨u, ⟨hSu, hu⟩, by rw [if_pos rfl, h1]⟩
                · exact ⟨x, ⟨hx.1, h1⟩, by rw [if_neg hx.2]⟩
              · by_cases h1 : x = u
                · rw [if_pos h1] at e
                  by_cases h2 : y = u
                  · rw [h1, h2]
                  · rw [if_neg h2] at e; exact absurd e.symm hy'.2
                · rw [if_neg h1] at e
                  by_cases h2 : y = u
                  · rw [if_pos h2] at e; exact absurd e hx.2
                  · rw [if_neg h2] at e; exact e
            rcases hc with hc | ⟨_, hc⟩ | ⟨_, hc⟩
            · exact ⟨v, hvS, .inl fun x hx h => hx.2 ((hc x hx.1).1 h), ih'⟩
            · exact hswap fun y hy _ _ => hc y hy
            · exact hswap fun y hy h1 h2 => hc y hy h1 h2
          · refine ⟨v, hvS, .inr ⟨u, hu, ⟨hSu, huw⟩, ?_⟩, ih'⟩
            rcases hc with hc | ⟨hn, hc⟩ | ⟨hn, hc⟩
            · exact .inl fun x hx => hc x hx.1
            · exact .inr (.inl ⟨hn, fun x hx => hc x hx.1⟩)
            · exact .inr (.inr ⟨hn, fun x hx => hc x hx.1⟩)
end Go.Sx

/- Sets of vertices as numbers: what the bit operations do to membership. Plain facts. -/
namespace Go.Sx
theorem wrap32 (n : Int) : IntKind.u32.wrap n = n % 4294967296 := by simp [IntKind.wrap, IntKind.signed, IntKind.bits]

/-- a word of 32 bits -/
def VS (s : Int) : Prop := 0 ≤ s ∧ s < 4294967296
/-- is a vertex in a set -/
def has (s : Int) (v : Nat) : Bool := s.toNat.testBit v

theorem VS.nat {s : Int} (h : VS s) : ∃ n : Nat, s = n ∧ n < 4294967296 := ⟨s.toNat, by have := h.1; omega, by have := h.1; have := h.2; omega⟩
theorem VS.zero : VS 0 := ⟨by omega, by omega⟩
theorem VS.wrap (n : Int) : VS (IntKind.u32.wrap n) := by rw [wrap32]; exact ⟨by omega, by omega⟩
theorem VS.ofNat {n : Nat} (h : n < 4294967296) : VS (n : Int) := ⟨by omega, by omega⟩
theorem has_nat (n v : Nat) : has (n : Int) v = n.testBit v := by simp [has]
theorem has_zero (v : Nat) : has 0 v = false := by simp [has]

theorem ofInt_nat (n : Nat) (h : n < 4294967296) : (BitVec.ofInt 32 (n : Int)).toNat = n := by
  rw [BitVec.toNat_ofInt]
  omega

theorem ior_nat {a b : Nat} (ha : a < 4294967296) (hb : b < 4294967296) : ior .u32 (a : Int) (b : Int) = ((a ||| b : Nat) : Int) := by
  have hw : a ||| b < 4294967296 := Nat.or_lt_two_pow (n := 32) ha hb
  show IntKind.u32.wrap (((BitVec.ofInt 32 (a : Int) ||| BitVec.ofInt 32 (b : Int)).toNat : Nat) : Int) = _
  rw [BitVec.toNat_or, ofInt_nat a ha, ofInt_nat b hb, wrap32]; omega
theorem iand_nat {a b : Nat} (ha : a < 4294967296) (hb : b < 4294967296) : iand .u32 (a : Int) (b : Int) = ((a &&& b : Nat) : Int) := by
  have hw : a &&& b < 4294967296 := Nat.and_lt_two_pow (n := 32) _ hb
  show IntKind.u32.wrap (((BitVec.ofInt 32 (a : Int) &&& BitVec.ofInt 32 (b : Int)).toNat : Nat) : Int) = _
  rw [BitVec.toNat_and, ofInt_nat a ha, ofInt_nat b hb, wrap32]; omega
theorem VS.ior (a b : Int) : VS (ior .u32 a b) := VS.wrap _
theorem VS.iand (a b : Int) : VS (iand .u32 a b) := VS.wrap _
theorem VS.iandNot (a b : Int) : VS (iandNot .u32 a b) := VS.wrap _
theorem VS.ishl (a b : Int) : VS (ishl .u32 a b) := VS.wrap _

theorem has_ior {a b : Int} (ha : VS a) (hb : VS b) (v : Nat) : has (ior .u32 a b) v = (has a v || has b v) := by
  obtain ⟨m, rfl, hm⟩ := ha.nat; obtain ⟨n, rfl, hn⟩ := hb.nat
  rw [ior_nat hm hn]; simp only [has_nat, Nat.testBit_or]
theorem has_iand {a b : Int} (ha : VS a) (hb : VS b) (v : Nat) : has (iand .u32 a b) v = (has a v && has b v) := by
  obtain ⟨m, rfl, hm⟩ := ha.nat; obtain ⟨n, rfl, hn⟩ := hb.nat
  rw [iand_nat hm hn]; simp only [has_nat, Nat.testBit_and]
theorem has_iandNot {a b : Int} (ha : VS a) (hb : VS b) (v : Nat) : has (iandNot .u32 a b) v = (has a v && !has b v) := by
  obtain ⟨m, rfl, hm⟩ := ha.nat; obtain ⟨n, rfl, hn⟩ := hb.nat
  have e : iandNot .u32 (m : Int) (n : Int) = (((BitVec.ofInt 32 (m : Int) &&& ~~~(BitVec.ofInt 32 (n : Int))).toNat : Nat) : Int) := by
    have hw := (BitVec.ofInt 32 (m : Int) &&& ~~~(BitVec.ofInt 32 (n : Int))).isLt
    show IntKind.u32.wrap (((BitVec.ofInt 32 (m : Int) &&& ~~~(BitVec.ofInt 32 (n : Int))).toNat : Nat) : Int) = _
    rw [wrap32]; omega
  rw [e, has_nat, has_nat, has_nat]
  have h1 : ∀ i, (BitVec.ofInt 32 (m : Int)).getLsbD i = m.testBit i := fun i => by rw [BitVec.getLsbD, ofInt_nat m hm]
  have h2 : ∀ i, (BitVec.ofInt 32 (n : Int)).getLsbD i = n.testBit i := fun i => by rw [BitVec.getLsbD, ofInt_nat n hn]
  rw [← BitVec.getLsbD, BitVec.getLsbD_and, BitVec.getLsbD_not, h1, h2]
  by_cases hv : v < 32
  · simp [hv]
  · have : m.testBit v = false := Nat.testBit_lt_two_pow (Nat.lt_of_lt_of_le hm (Nat.pow_le_pow_right (n := 2) (by omega) (show 32 ≤ v by omega)))
    simp [this]
theorem has_big {a : Int} (ha : VS a) {v : Nat} (hv : 32 ≤ v) : has a v = false := by
  obtain ⟨m, rfl, hm⟩ := ha.nat
  rw [has_nat]
  exact Nat.testBit_lt_two_pow (Nat.lt_of_lt_of_le hm (Nat.pow_le_pow_right (n := 2) (by omega) hv))
theorem VS.ext {a b : Int} (ha : VS a) (hb : VS b) (h : ∀ v, v < 32 → has a v = has b v) : a = b := by
  have : ∀ v, has a v = has b v := fun v => by
    by_cases hv : v < 32
    · exact h v hv
    · rw [has_big ha (by omega), has_big hb (by omega)]
  obtain ⟨m, rfl, hm⟩ := ha.nat; obtain ⟨n, rfl, hn⟩ := hb.nat
  congr 1
  apply Nat.eq_of_testBit_eq
  intro v
  have := this v
  rwa [has_nat, has_nat] at this
theorem VS.eq_zero {a : Int} (ha : VS a) : a = 0 ↔ ∀ v, v < 32 → has a v = false :=
  ⟨fun h v _ => by rw [h, has_zero], fun h => ha.ext VS.zero (fun v hv => by rw [h v hv, has_zero])⟩

/-- the set of one vertex -/
theorem one_eq {v : Nat} (hv : v < 32) : ishl .u32 1 (v : Int) = ((2 ^ v : Nat) : Int) := by
  have h : (2 : Nat) ^ v < 2 ^ 32 := Nat.pow_lt_pow_right (by omega) hv
  have h' : (2 : Nat) ^ 32 = 4294967296 := by decide
  rw [h'] at h
  show IntKind.u32.wrap (1 * 2 ^ (min ((v : Int)).toNat 32)) = _
  rw [wrap32, show min ((v : Int)).toNat 32 = v by simp; omega, Int.one_mul]
  have e : ((2 ^ v : Nat) : Int) = (2 : Int) ^ v := by simp
  rw [← e]
  generalize 2 ^ v = p at h ⊢
  omega
theorem has_one {v : Nat} (hv : v < 32) (u : Nat) : has (ishl .u32 1 (v : Int)) u = decide (u = v) := by
  rw [one_eq hv, has_nat, Nat.testBit_two_pow]
  simp [eq_comm]
theorem shr_eq (s : Int) (v : Nat) (h : VS s) (hv : v < 32) : ishr .u32 s (v : Int) = ((s.toNat >>> v : Nat) : Int) := by
  obtain ⟨m, rfl, hm⟩ := h.nat
  show Int.fdiv (m : Int) (2 ^ (min ((v : Int)).toNat 32)) = _
  rw [show min ((v : Int)).toNat 32 = v by simp; omega]
  have e : ((2 ^ v : Nat) : Int) = (2 : Int) ^ v := by simp
  rw [← e, Int.fdiv_eq_ediv_of_nonneg _ (Int.natCast_nonneg _), Nat.shiftRight_eq_div_pow]
  simp
theorem bitAt_eq {s : Int} {v : Nat} (h : VS s) (hv : v < 32) : (iand .u32 (ishr .u32 s (v : Int)) 1 == 1) = has s v := by
  rw [shr_eq s v h hv]
  have hs : s.toNat >>> v < 4294967296 := by
    obtain ⟨m, rfl, hm⟩ := h.nat
    rw [Nat.shiftRight_eq_div_pow]
    exact Nat.lt_of_le_of_lt (Nat.div_le_self _ _) hm
  have := iand_nat hs (show (1 : Nat) < 4294967296 by omega)
  rw [show (1 : Int) = ((1 : Nat) : Int) from rfl, this, has, Nat.testBit]
  rw [Nat.and_comm]
  have h1 : 1 &&& (s.toNat >>> v) = 0 ∨ 1 &&& (s.toNat >>> v) = 1 := by
    rw [Nat.and_comm, Nat.and_one_is_mod]; omega
  rcases h1 with e | e <;> rw [e] <;> rfl

/-- the numbers in a set, rising -/
def elems (s : Int) : List Int := ((List.range 32).filter (has s)).map Int.ofNat
theorem mem_elems {s : Int} {x : Int} : x ∈ elems s ↔ ∃ v : Nat, v < 32 ∧ has s v = true ∧ x = v := by
  unfold elems
  rw [List.mem_map]
  constructor
  · rintro ⟨v, hv, rfl⟩
    rw [List.mem_filter, List.mem_range] at hv
    exact ⟨v, hv.1, hv.2, rfl⟩
  · rintro ⟨v, h1, h2, rfl⟩
    exact ⟨v, List.mem_filter.2 ⟨List.mem_range.2 h1, h2⟩, rfl⟩
theorem mem_elems_nat {s : Int} (h : VS s) {v : Nat} : (v : Int) ∈ elems s ↔ has s v = true := by
  rw [mem_elems]
  constructor
  · rintro ⟨u, _, h2, h3⟩; obtain rfl : v = u := by omega
    exact h2
  · intro h2
    refine ⟨v, ?_, h2, rfl⟩
    by_cases hv : v < 32
    · exact hv
    · rw [has_big h (by omega)] at h2; cases h2
theorem elems_len (s : Int) : (elems s).length ≤ 32 := by
  unfold elems
  rw [List.length_map]
  exact Nat.le_trans (List.length_filter_le _ _) (by simp)

/-- rising lists -/
def Inc (l : List Int) : Prop := l.Pairwise (· < ·)
theorem elems_inc (s : Int) : Inc (elems s) := by
  unfold elems Inc
  rw [List.pairwise_map]
  refine List.Pairwise.filter _ ?_
  refine List.Pairwise.imp ?_ (List.pairwise_lt_range (n := 32))
  intro a b h
  show (a : Int) < (b : Int)
  omega
theorem Inc.ext : ∀ {l l' : List Int}, Inc l → Inc l' → (∀ x, x ∈ l ↔ x ∈ l') → l = l'
  | [], [], _, _, _ => rfl
  | [], y :: l', _, _, h => by have := (h y).2 (by simp); simp at this
  | x :: l, [], _, _, h => by have := (h x).1 (by simp); simp at this
  | x :: l, y :: l', h1, h2, h => by
    have h1' := List.pairwise_cons.1 h1; have h2' := List.pairwise_cons.1 h2
    have e : x = y := by
      rcases List.mem_cons.1 ((h x).1 (by simp)) with e | e
      · exact e
      · rcases List.mem_cons.1 ((h y).2 (by simp)) with e' | e'
        · exact e'.symm
        · have := h2'.1 x e; have := h1'.1 y e'; omega
    subst e
    have : l = l' := by
      refine Inc.ext h1'.2 h2'.2 (fun z => ?_)
      constructor
      · intro hz
        rcases List.mem_cons.1 ((h z).1 (List.mem_cons_of_mem _ hz)) with e | e
        · have := h1'.1 z hz; omega
        · exact e
      · intro hz
        rcases List.mem_cons.1 ((h z).2 (List.mem_cons_of_mem _ hz)) with e | e
        · have := h2'.1 z hz; omega
        · exact e
    rw [this]

/-- the least of a set, and what is left -/
theorem least_spec {s : Int} (h : VS s) (h0 : s ≠ 0) : ∃ k : Nat, k < 32 ∧ has s k = true ∧ (∀ v, v < k → has s v = false) ∧
    iand .u32 s (IntKind.u32.wrap (0 - s)) = ((2 ^ k : Nat) : Int) ∧ (∀ v, has (iand .u32 s (IntKind.u32.wrap (s - 1))) v = (has s v && !decide (v = k))) := by
  obtain ⟨m, rfl, hm⟩ := h.nat
  have hm0 : m ≠ 0 := by omega
  obtain ⟨q, hq, hk⟩ := Lib.ctzFrom_spec 32 m (by omega) hm
  have hc : Lib.ctz 32 m = Lib.ctzFrom 32 m := by unfold Lib.ctz; rw [if_neg hm0]
  obtain ⟨hl, _⟩ := Lib.lowest_bit 32 m hm0 hm
  rw [hc] at hl
  generalize Lib.ctzFrom 32 m = k at *
  have hpos : 0 < 2 ^ k := Nat.pow_pos (by omega)
  have hb : ∀ v, m.testBit v = (decide (v ≥ k) && (2 * q + 1).testBit (v - k)) := fun v => by rw [hq, Nat.mul_comm, Nat.testBit_mul_two_pow, Bool.and_comm]
  refine ⟨k, hk, ?_, fun v hv => ?_, ?_, fun v => ?_⟩
  · rw [has_nat, hb]; simp
  · rw [has_nat, hb]; simp; intro hc; omega
  · have e : IntKind.u32.wrap (0 - (m : Int)) = ((4294967296 - m : Nat) : Int) := by rw [wrap32]; omega
    rw [e, iand_nat hm (by omega)]
    rw [← hl]
  · have e : IntKind.u32.wrap ((m : Int) - 1) = ((m - 1 : Nat) : Int) := by rw [wrap32]; omega
    rw [e, iand_nat hm (by omega), has_nat, has_nat, Nat.testBit_and]
    have hm1 : m - 1 = 2 ^ k * (2 * q) + (2 ^ k - 1) := by rw [hq, Nat.mul_add]; omega
    have hb1 : (m - 1).testBit v = if v < k then true else (2 * q).testBit (v - k) := by
      rw [hm1, Nat.testBit_two_pow_mul_add _ (by omega)]
      split
      · rename_i hv; rw [Nat.testBit_two_pow_sub_one]; simp [hv]
      · rfl
    rw [hb1, hb]
    by_cases hv : v < k
    · simp [hv]; intro hc; omega
    · rw [if_neg hv]
      by_cases hvk : v = k
      · subst hvk; simp
      · obtain ⟨t, ht⟩ : ∃ t, v - k = t + 1 := ⟨v - k - 1, by omega⟩
        rw [ht, Nat.testBit_succ, Nat.testBit_succ]
        have e1 : (2 * q + 1) / 2 = q := by omega
        have e2 : 2 * q / 2 = q := by omega
        rw [e1, e2]
        simp [hvk]

theorem elems_least {s t : Int} {k : Nat} (hk : k < 32) (h1 : has s k = true) (h2 : ∀ v, v < k → has s v = false) (h3 : ∀ v, has t v = (has s v && !decide (v = k))) :
    elems s = (k : Int) :: elems t := by
  refine Inc.ext (elems_inc s) ?_ (fun x => ?_)
  · refine List.pairwise_cons.2 ⟨fun x hx => ?_, elems_inc t⟩
    obtain ⟨v, hv, h4, rfl⟩ := mem_elems.1 hx
    rw [h3] at h4
    simp at h4
    by_cases hc : v < k
    · rw [h2 v hc] at h4; simp at h4
    · omega
  · rw [List.mem_cons, mem_elems, mem_elems]
    constructor
    · rintro ⟨v, hv, h4, rfl⟩
      by_cases e : v = k
      · left; omega
      · right; exact ⟨v, hv, by rw [h3, h4]; simp [e], rfl⟩
    · rintro (rfl | ⟨v, hv, h4, rfl⟩)
      · exact ⟨k, hk, h1, rfl⟩
      · rw [h3] at h4; simp at h4
        exact ⟨v, hv, h4.1, rfl⟩
theorem elems_zero : elems 0 = [] := by
  unfold elems
  rw [List.filter_eq_nil_iff.2 (fun v _ => by simp [has_zero])]; rfl

theorem tz_table : ∀ k : Nat, k < 32 → idx tab32 (ishr .u32 (IntKind.u32.wrap (((2 ^ k : Nat) : Int) * 125613361)) 27) = some (k : Int) := by decide +kernel
end Go.Sx

namespace Go.Sx
/-- from a0 to b0 all pairs are in order, but for those from a to b -/
def Out (l : List Int) (a0 b0 a b : Int) : Prop := ∀ i j, a0 ≤ i → i < j → j < b0 → ¬ (a ≤ i ∧ j < b) → at' l i ≤ at' l j

theorem Out.keep {a0 a b b0 : Int} {l l' : List Int} (h : Rg a b l l') (h0 : 0 ≤ a0) (ha : a0 ≤ a) (hb : b ≤ b0) (c : Out l a0 b0 a b) : Out l' a0 b0 a b := by
  intro i j h1 h2 h3 h4
  by_cases hi : a ≤ i ∧ i < b
  · rw [h.out j (by omega) (by omega)]
    exact h.all (fun x => x ≤ at' l j) (fun k k1 k2 => c k j (by omega) (by omega) h3 (by omega)) i hi.1 hi.2
  · rw [h.out i (by omega) (by omega)]
    by_cases hj : a ≤ j ∧ j < b
    · exact h.all (fun x => at' l i ≤ x) (fun k k1 k2 => c i k (by omega) (by omega) (by omega) (by omega)) j hj.1 hj.2
    · rw [h.out j (by omega) (by omega)]; exact c i j h1 h2 h3 h4

theorem pdqsort_spec : ∀ (n : Nat) (l0 : List Int) (a0 b0 lim : Int), 0 ≤ a0 → a0 ≤ b0 → b0 ≤ l0.length → l0.length ≤ 1000000 → b0 - a0 ≤ 16 → b0 - a0 ≤ 12 + lim → 0 ≤ lim → lim ≤ 64 →
    (0 < a0 → ∀ k, a0 ≤ k → k < b0 → at' l0 (a0 - 1) ≤ at' l0 k) → b0 - a0 < n → ∃ l', D.w n l0 a0 b0 lim = some l' ∧ Rg a0 b0 l0 l' ∧ Srt l' a0 b0 := by
  intro n
  induction n with
  | zero => intro l0 a0 b0 lim h1 h2 h3 h4 h5 h6 h7 h8 h9 h10; omega
  | succ n ih =>
    intro l0 a0 b0 lim h1 h2 h3 h4 h5 h6 h7 h8 h9 h10
    unfold D.w
    refine loop_then (fun s => Rg a0 b0 l0 s.1 ∧ Out s.1 a0 b0 s.2.1 s.2.2.1 ∧ a0 ≤ s.2.1 ∧ s.2.1 ≤ s.2.2.1 ∧ s.2.2.1 ≤ b0 ∧ s.2.2.1 - s.2.1 ≤ 12 + s.2.2.2.1 ∧ 0 ≤ s.2.2.2.1 ∧ s.2.2.2.1 ≤ 64 ∧ (0 < s.2.1 → ∀ k, s.2.1 ≤ k → k < s.2.2.1 → at' s.1 (s.2.1 - 1) ≤ at' s.1 k))
      (fun s => (s.2.2.1 - s.2.1).toNat) (fun r => Rg a0 b0 l0 r ∧ Srt r a0 b0) ?_ ?_ ?_
    · rintro ⟨l, a, b, lm, bal, par⟩ ⟨hR, hO, g1, g2, g3, g4, g5, g6, g7⟩
      dsimp only at hR hO g1 g2 g3 g4 g5 g6 g7 ⊢
      have hll := hR.len
      have fin : ∀ l', Rg a b l l' → Srt l' a b → Rg a0 b0 l0 l' ∧ Srt l' a0 b0 := fun l' hr hs =>
        ⟨hR.trans (hr.widen g1 g3 h1), fun i j k1 k2 k3 => by
          by_cases hc : a ≤ i ∧ j < b
          · exact hs i j hc.1 k2 hc.2
          · exact (hO.keep hr h1 g1 g3) i j k1 k2 k3 hc⟩
      rw [w64 (show -9223372036854775808 ≤ b - a by omega) (by omega)]
      by_cases hs : b - a ≤ 12
      · obtain ⟨l', e, r1, r2⟩ := insertionSort_spec l a b (by omega) g2 (by omega) (by omega)
        refine ⟨.inr l', ?_, fin l' r1 r2⟩
        simp only [hs, decide_true, cond_true, e, Option.bind_some]
      · have hl0 : (lm == 0) = false := by simp; omega
        simp only [hs, decide_false, cond_false, hl0]
        refine bind_then (fun q : List Int × Int => Rg a b l q.1 ∧ b - a ≤ 13 + q.2 ∧ 0 ≤ q.2 ∧ q.2 ≤ 64) ?_ ?_
        · cases bal
          · obtain ⟨l1, e, r1⟩ := breakPatterns_spec l a b (by omega) (by omega) (by omega) (by omega) (by omega)
            refine ⟨(l1, lm - 1), ?_, r1, by dsimp only; omega, by dsimp only; omega, by dsimp only; omega⟩
            simp only [Bool.not_false, cond_true, e, Option.bind_some]
            rw [w64 (by omega) (by omega)]
          · exact ⟨(l, lm), rfl, Rg.refl _ _ _, by dsimp only; omega, by dsimp only; omega, by dsimp only; omega⟩
        rintro ⟨l1, lm1⟩ ⟨hr1, k1, k2, k3⟩
        dsimp only at hr1 k1 k2 k3 ⊢
        have hl1 := hr1.len
        obtain ⟨y, ey, c1, c2, c3⟩ := choosePivot_spec l1 a b (by omega) (by omega) (by omega) (by omega) (by omega)
        rw [ey, Option.bind_some]
        refine bind_then (fun q : List Int × Int × Int => Rg a b l q.1 ∧ a ≤ q.2.1 ∧ q.2.1 < b) ?_ ?_
        · cases (y.2.1 == 2)
          · exact ⟨_, rfl, by dsimp only; rw [c1]; exact hr1, c2, c3⟩
          · obtain ⟨l2, e2, r2⟩ := reverseRange_spec l1 a b (by omega) (by omega) (by omega) (by omega)
            rw [c1]
            simp only [cond_true, e2, Option.bind_some]
            rw [w64 (show -9223372036854775808 ≤ b - 1 by omega) (by omega), w64 (show -9223372036854775808 ≤ y.1 - a by omega) (by omega), w64 (show -9223372036854775808 ≤ b - 1 - (y.1 - a) by omega) (by omega)]
            exact ⟨_, rfl, hr1.trans r2, by dsimp only; omega, by dsimp only; omega⟩
        rintro ⟨l2, p, hint⟩ ⟨hr2, p1, p2⟩
        dsimp only at hr2 p1 p2 ⊢
        have hl2 := hr2.len
        refine bind_then (fun q : List Int ⊕ List Int => match q with | .inl q => q = l2 | .inr q => q = l2 ∧ Srt l2 a b) ?_ ?_
        · cases ((bal && par) && (hint == 1))
          · exact ⟨.inl l2, rfl, rfl⟩
          · obtain ⟨y2, e2, d1, d2⟩ := partialInsertion_spec l2 a b (by omega) (by omega) (by omega) (by omega) (by omega)
            simp only [cond_true, e2, Option.bind_some, d1]
            cases hy : y2.1
            · exact ⟨.inl l2, rfl, rfl⟩
            · exact ⟨.inr l2, rfl, rfl, d2 hy⟩
        rintro (q | q) hq
        case inr =>
          obtain ⟨rfl, hq⟩ := hq
          exact ⟨.inr q, rfl, fin q hr2 hq⟩
        dsimp only at hq ⊢
        subst hq
        have hO2 := hO.keep hr2 h1 g1 g3
        have g7' : 0 < a → ∀ k, a ≤ k → k < b → at' q (a - 1) ≤ at' q k := fun ha k m1 m2 => by
          rw [hr2.out (a - 1) (by omega) (.inl (by omega))]
          exact hr2.all (fun x => at' l (a - 1) ≤ x) (g7 ha) k m1 m2
        refine bind_then (fun c : Bool => c = true → 0 < a ∧ at' q p ≤ at' q (a - 1)) ?_ ?_
        · by_cases ha : 0 < a
          · have r1 : idx q (a - 1) = some (at' q (a - 1)) := idx_at (by omega) (by omega)
            have r2 : idx q p = some (at' q p) := idx_at (by omega) (by omega)
            rw [w64 (show -9223372036854775808 ≤ a - 1 by omega) (by omega)]
            simp only [ha, decide_true, cond_true, r1, r2, less_eq, Option.bind_some]
            exact ⟨_, rfl, fun h => ⟨by trivial, by simpa using h⟩⟩
          · simp only [ha, decide_false, cond_false]
            exact ⟨_, rfl, fun h => by cases h⟩
        intro c hc
        cases c
        · -- the pivot parts
          simp only [cond_false]
          obtain ⟨⟨mid, par', l3⟩, e3, P⟩ := partition_spec q a b p (by omega) (by omega) (by omega) p1 p2
          rw [e3, Option.bind_some]
          obtain ⟨hr3, m1, m2, m3, m4⟩ := P
          dsimp only at hr3 m1 m2 m3 m4 ⊢
          have hl3 := hr3.len
          have hO3 := hO2.keep hr3 h1 g1 g3
          have g7'' : 0 < a → ∀ k, a ≤ k → k < b → at' l3 (a - 1) ≤ at' l3 k := fun ha k n1 n2 => by
            rw [hr3.out (a - 1) (by omega) (.inl (by omega))]
            exact hr3.all (fun x => at' q (a - 1) ≤ x) (g7' ha) k n1 n2
          have hR3 : Rg a0 b0 l0 l3 := hR.trans ((hr2.trans hr3).widen g1 g3 h1)
          rw [w64 (show -9223372036854775808 ≤ mid - a by omega) (by omega), w64 (show -9223372036854775808 ≤ b - mid by omega) (by omega), w64 (show -9223372036854775808 ≤ mid + 1 by omega) (by omega)]
          by_cases hside : mid - a < b - mid
          · simp only [hside, decide_true, cond_true]
            obtain ⟨l4, e4, r4, s4⟩ := ih l3 a mid lm1 (by omega) m1 (by omega) (by omega) (by omega) (by omega) k2 k3 (fun ha k n1 n2 => g7'' ha k n1 (by omega)) (by omega)
            rw [e4, Option.bind_some]
            have hl4 := r4.len
            have em : ∀ k, mid ≤ k → at' l4 k = at' l3 k := fun k hk => r4.out k (by omega) (.inr hk)
            have lf : ∀ k, a ≤ k → k < mid → at' l4 k ≤ at' l4 mid := fun k n1 n2 => by
              rw [em mid (Int.le_refl _)]; exact r4.all (fun x => x ≤ at' l3 mid) m3 k n1 n2
            refine ⟨.inl _, rfl, ⟨hR3.trans (r4.widen g1 (by omega) h1), ?_, by dsimp only; omega, by dsimp only; omega, g3, by dsimp only; omega, k2, k3, ?_⟩, by dsimp only; omega⟩
            · have hO4 := hO3.keep (r4.widen (Int.le_refl a) (by omega) (by omega)) h1 g1 g3
              intro i j n1 n2 n3 n4
              dsimp only at n4 ⊢
              by_cases hin : a ≤ i ∧ j < b
              · by_cases hj : j < mid
                · exact s4 i j hin.1 n2 hj
                · have hi : i ≤ mid := by omega
                  have e1 : at' l4 i ≤ at' l4 mid := by
                    by_cases e : i = mid
                    · rw [e]; exact Int.le_refl _
                    · exact lf i hin.1 (by omega)
                  have e2 : at' l4 mid ≤ at' l4 j := by
                    by_cases e : j = mid
                    · rw [e]; exact Int.le_refl _
                    · rw [em mid (Int.le_refl _), em j (by omega)]; exact m4 j (by omega) hin.2
                  omega
              · exact hO4 i j n1 n2 n3 hin
            · intro _ k n1 n2
              dsimp only at n1 n2 ⊢
              rw [show mid + 1 - 1 = mid by omega, em mid (Int.le_refl _), em k (by omega)]
              exact m4 k (by omega) n2
          · simp only [hside, decide_false, cond_false]
            obtain ⟨l4, e4, r4, s4⟩ := ih l3 (mid + 1) b lm1 (by omega) (by omega) (by omega) (by omega) (by omega) (by omega) k2 k3 (fun _ k n1 n2 => by rw [show mid + 1 - 1 = mid by omega]; exact m4 k (by omega) n2) (by omega)
            rw [e4, Option.bind_some]
            have hl4 := r4.len
            have em : ∀ k, 0 ≤ k → k ≤ mid → at' l4 k = at' l3 k := fun k h0 hk => r4.out k h0 (.inl (by omega))
            have rt : ∀ k, mid < k → k < b → at' l4 mid ≤ at' l4 k := fun k n1 n2 => by
              rw [em mid (by omega) (Int.le_refl _)]; exact r4.all (fun x => at' l3 mid ≤ x) (fun k q1 q2 => m4 k (by omega) q2) k (by omega) n2
            refine ⟨.inl _, rfl, ⟨hR3.trans (r4.widen (by omega) g3 h1), ?_, g1, m1, by dsimp only; omega, by dsimp only; omega, k2, k3, ?_⟩, by dsimp only; omega⟩
            · have hO4 := hO3.keep (r4.widen (by omega) (Int.le_refl b) (by omega)) h1 g1 g3
              intro i j n1 n2 n3 n4
              dsimp only at n4 ⊢
              by_cases hin : a ≤ i ∧ j < b
              · by_cases hi : mid < i
                · exact s4 i j (by omega) n2 hin.2
                · have hj : mid ≤ j := by omega
                  have e1 : at' l4 i ≤ at' l4 mid := by
                    by_cases e : i = mid
                    · rw [e]; exact Int.le_refl _
                    · rw [em i (by omega) (by omega), em mid (by omega) (Int.le_refl _)]; exact m3 i hin.1 (by omega)
                  have e2 : at' l4 mid ≤ at' l4 j := by
                    by_cases e : j = mid
                    · rw [e]; exact Int.le_refl _
                    · exact rt j (by omega) hin.2
                  omega
              · exact hO4 i j n1 n2 n3 hin
            · intro ha k n1 n2
              dsimp only at ha n1 n2 ⊢
              rw [em (a - 1) (by omega) (by omega), em k (by omega) (by omega)]
              exact g7'' ha k n1 (by omega)
        · -- many are equal to the pivot
          simp only [cond_true]
          obtain ⟨hc1, hc2⟩ := hc rfl
          obtain ⟨⟨mid, l3⟩, e3, hr3, m1, m2, m3, m4⟩ := partitionEqual_spec q a b p (by omega) (by omega) (by omega) p1 p2
          rw [e3, Option.bind_some]
          dsimp only at hr3 m1 m2 m3 m4 ⊢
          have hl3 := hr3.len
          have hO3 := hO2.keep hr3 h1 g1 g3
          have lw : ∀ k, a ≤ k → k < b → at' q p ≤ at' l3 k := fun k n1 n2 =>
            hr3.all (fun x => at' q p ≤ x) (fun k q1 q2 => Int.le_trans hc2 (g7' hc1 k q1 q2)) k n1 n2
          refine ⟨.inl _, rfl, ⟨hR.trans ((hr2.trans hr3).widen g1 g3 h1), ?_, by dsimp only; omega, m2, g3, by dsimp only; omega, k2, k3, ?_⟩, by dsimp only; omega⟩
          · intro i j n1 n2 n3 n4
            dsimp only at n4 ⊢
            by_cases hin : a ≤ i ∧ j < b
            · have := m3 i hin.1 (by omega)
              have := lw j (by omega) hin.2
              omega
            · exact hO3 i j n1 n2 n3 hin
          · intro _ k n1 n2
            dsimp only at n1 n2 ⊢
            have := m3 (mid - 1) (by omega) (by omega)
            have := m4 k n1 n2
            omega
    · exact ⟨Rg.refl _ _ _, fun i j n1 n2 n3 n4 => by dsimp only at n4; omega, Int.le_refl _, h2, Int.le_refl _, h6, h7, h8, h9⟩
    · rintro r hr
      exact ⟨r, rfl, hr⟩
end Go.Sx

namespace Go.Sx
/-- slices.Sorted(slices.Values(l)), of a list that is not long -/
theorem sorted_spec (l : List Int) (hl : l.length ≤ 16) : ∃ y, D.N l = some y ∧ List.Perm y l ∧ Srt y 0 y.length := by
  unfold D.N D.y0 D.D0 D.F0 D.j D.G
  rw [if_pos (show l.length ≤ 1000000 by omega)]
  simp only [Option.bind_some]
  rw [wu64 (by omega) (by omega), if_pos (by omega)]
  simp only [Option.bind_some]
  have hk : ∀ k : Nat, k ≤ 16 → k ≤ 12 + Lib.bitLen k ∧ Lib.bitLen k ≤ 64 := by decide
  obtain ⟨k1, k2⟩ := hk l.length hl
  have e : ((l.length : Int)).toNat = l.length := by omega
  have hb := recFuel_big
  obtain ⟨y, hy, hr, hs⟩ := pdqsort_spec recFuel l 0 l.length (Lib.bitLen l.length : Nat) (by omega) (by omega) (by omega) (by omega) (by omega) (by omega) (by omega) (by omega) (fun h => absurd h (by omega)) (by omega)
  rw [e, hy]
  refine ⟨y, rfl, hr.perm, ?_⟩
  rw [hr.len]; exact hs
end Go.Sx


