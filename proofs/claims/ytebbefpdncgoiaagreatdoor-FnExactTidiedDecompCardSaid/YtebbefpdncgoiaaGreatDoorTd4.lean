/- Parts of the proof: MCW. -/
import Derived.Test.YtebbefpdncgoiaaGreatDoorTd3
import Derived.Test.YtebbefpdncgoiaaGreatDoorProg
import Derived.KernelRfl
set_option linter.unusedVariables false
set_option linter.unusedSimpArgs false
set_option linter.unusedSectionVars false
set_option maxRecDepth 100000
namespace Go.Proofs.YtebbefpdncgoiaaGreatDoor
open Go Go.Sx
theorem T73 : SlT Tryz.prog 73 76 1 4 (.int .u32 0) := ⟨Tryz.underlying73, Tryz.t76, by kernel_rfl, by kernel_rfl, by kernel_rfl, by kernel_rfl⟩
theorem Pl76 : Plain Tryz.prog 76 := Tryz.isAgg76

theorem Wk.spec_l9Part {W w : World} {G : GH} {H : List Itm} {v0 : Value} {v1 : Value} {x0 : (List Int)} {x1 : (List Int)} (m : Mem W G w (H)) (h0 : RSl (RI .i64) G v0 x0) (h1 : RSl (RI .i64) G v1 x1) {y : Bool} (hd : D.spec_l9Part x0 x1 = some y) :
  Calls Tryz.prog 126 #[v0, v1] w (Res W G H (fun _ Ho v => Ho = [] ∧ v = (.bool y))) := by
 refine calls_b (args := [v0, v1]) (N := 12) [.tmp 4] Tryz.func126 rfl rfl (Nat.le_of_ble_eq_true rfl) rfl fun a f => ?_
 unfold D.spec_l9Part at hd
 refine k_seq (k_region ?_)
 refine l_as f rfl rfl fun a f => l_nil (k_seq (k_region ?_))
 refine l_mv f rfl rfl fun a f => l_mv f rfl rfl fun a f => ?_
 obtain ⟨aa, ab, hd⟩ := bind_some hd
 refine l_res f rfl rfl Tryz.call44 (Wk.spec_l8Meet m h0 h1 ab) fun ac ad ae w af m ag a f => ?_
 obtain ⟨ah, ai, rfl, rfl, aj⟩ := ag
 have h0 := rd1 af h0
 have h1 := rd1 af h1
 refine l_own_len 0 m aj rfl Tryz.underlying42 f rfl rfl fun a f => l_mv f rfl rfl fun a f => l_len Tryz.underlying42 f rfl rfl h0 fun a f => l_in f rfl rfl rfl b_eql fun a f => l_as f rfl rfl fun a f => l_nil ?_
 refine k_ret ?_
 have m : Mem W ad w H := Mem.drop (H' := [ai]) m
 obtain rfl := sj hd
 exact ⟨[(.bool ((aa.length : Int) == (x0.length : Int)))], ⟨f.get _ _ rfl, trivial⟩, f.defers, _, [], af, m, rfl, rfl⟩

theorem Wk.spec_l9In {W w : World} {G : GH} {H : List Itm} {v0_0 : Value} {v0_1 : Value} {v1 : Value} {x0_0 : (List (List Int))} {x0_1 : (List (List Int))} {x1 : (List Int)} (m : Mem W G w (H)) (h0_0 : RSl (RSl (RI .i64)) G v0_0 x0_0) (h0_1 : RSl (RSl (RI .i64)) G v0_1 x0_1) (h1 : RSl (RI .i64) G v1 x1) {y : Bool} (hd : D.spec_l9In x0_0 x0_1 x1 = some y) :
  Calls Tryz.prog 82 #[(.agg #[v0_0, v0_1]), v1] w (Res W G H (fun _ Ho v => Ho = [] ∧ v = (.bool y))) := by
 refine calls_b (args := [(.agg #[v0_0, v0_1]), v1]) (N := 20) [.tmp 4] Tryz.func82 rfl rfl (Nat.le_of_ble_eq_true rfl) rfl fun a f => ?_
 unfold D.spec_l9In at hd
 refine k_seq (k_region ?_)
 refine l_box (cs := [v0_0, v0_1]) m f rfl rfl rfl fun aa w a m f => l_as f rfl rfl fun a f => l_nil (k_seq (k_seq (k_region ?_)))
 refine l_as f rfl rfl fun a f => l_nil ?_
 obtain ⟨ab, ac, hd⟩ := bind_some hd
 refine k_cut (fun a w => ∃ q_35' : Unit, ab = .inl q_35' ∧ ∃ (ad : GH), GLe G ad ∧ Fr a 20 [] ∧ Mem W ad w (H)) ?_ ?_
 ·refine k_block ?_
  refine k_loop (fun ae a w => ∃ af : Int, af = ae ∧ ∃ (ag : GH), GLe G ag ∧ Fr a 20 [(1, v1), (2, (.pointer (some ⟨aa, 0, none⟩))), (5, (.int .i64 af))] ∧ Mem W ag w (Itm.box aa 27 [v0_0, v0_1] :: H)) ac ⟨_, rfl, _, (GLe.refl _), f.weak ⟨rfl, rfl, rfl, trivial⟩, m⟩ ?_
  clear ac f m
  rintro ae ah ai aj a w ⟨af, rfl, ag, ak, f, m⟩
  have h1 := rd1 ak h1
  have h0_0 := rd2 ak h0_0
  have h0_1 := rd2 ak h0_1
  refine k_seq (k_seq (k_region ?_))
  refine l_mv f rfl rfl fun a f => l_fieldAddr Tryz.underlying27 rfl Tryz.sizeOf22 (by decide) f rfl rfl fun a f => l_boxCell 0 0 m Pl22 f rfl rfl rfl rfl fun a f => l_len Tryz.underlying22 f rfl rfl h0_0 fun a f => l_in f rfl rfl rfl b_lss fun a f => l_nil ?_
  rcases cond_some ai with ⟨al, ai⟩ | ⟨al, ai⟩
  ·refine k_true f rfl al ?_
   refine k_skip ?_
   refine k_seq (k_block (k_seq (k_region ?_)))
   refine l_mv f rfl rfl fun a f => l_fieldAddr Tryz.underlying27 rfl Tryz.sizeOf22 (by decide) f rfl rfl fun a f => l_boxCell 0 0 m Pl22 f rfl rfl rfl rfl fun a f => l_mv f rfl rfl fun a f => ?_
   obtain ⟨am, an, ai⟩ := bind_some ai
   refine l_at T22 f rfl rfl rfl h0_0 an fun ao ap a aq ar f => l_loadAt m Pl42 f rfl rfl aq fun a f => ?_
   obtain ⟨au, av, ai⟩ := bind_some ai
   refine l_res f rfl rfl Tryz.call126 (Wk.spec_l9Part m h1 ar av) fun aw ax ay w az m aA a f => ?_
   obtain ⟨rfl, rfl⟩ := aA
   have h1 := rd1 az h1
   have h0_0 := rd2 az h0_0
   have aq := At.mono az aq
   have ar := rd1 az ar
   have h0_1 := rd2 az h0_1
   refine l_nil ?_
   rcases cond_some ai with ⟨aB, ai⟩ | ⟨aB, ai⟩
   ·refine k_true f rfl aB ?_
    refine k_seq (k_region ?_)
    refine l_as f rfl rfl fun a f => l_nil ?_
    refine k_ret ?_
    have m : Mem W ax w H := Mem.drop (H' := [Itm.box aa 27 [v0_0, v0_1]]) m
    obtain rfl := sj ai
    obtain rfl := aj _ rfl
    obtain rfl := sj hd
    exact ⟨[(.bool true)], ⟨f.get _ _ rfl, trivial⟩, f.defers, _, [], (GLe.trans ak az), m, rfl, rfl⟩
   ·refine k_false f rfl aB ?_
    refine k_skip ?_
    refine k_region ?_
    refine l_mv f rfl rfl fun a f => l_in f rfl rfl rfl b_add fun a f => l_as f rfl rfl fun a f => l_nil ?_
    obtain rfl := sj ai
    exact ⟨_, rfl, _, rfl, _, (GLe.trans ak az), f.weak ⟨rfl, rfl, rfl, trivial⟩, m⟩
  ·refine k_false f rfl al ?_
   refine k_exit rfl ?_
   have m : Mem W ag w H := Mem.drop (H' := [Itm.box aa 27 [v0_0, v0_1]]) m
   obtain rfl := sj ai
   obtain rfl := aj _ rfl
   exact ⟨_, rfl, _, ak, f.weak trivial, m⟩
 ·rintro a w ⟨_, rfl, ad, aC, f, m⟩
  refine k_seq (k_region ?_)
  refine l_as f rfl rfl fun a f => l_nil ?_
  refine k_ret ?_
  obtain rfl := sj hd
  exact ⟨[(.bool false)], ⟨f.get _ _ rfl, trivial⟩, f.defers, _, [], aC, m, rfl, rfl⟩

theorem Wk.spec_l9With {W w : World} {G : GH} {H : List Itm} {v0_0 : Value} {v0_1 : Value} {x0_0 : (List (List Int))} {x0_1 : (List (List Int))} {x1 : Int} (m : Mem W G w (H)) (h0_0 : RSl (RSl (RI .i64)) G v0_0 x0_0) (h0_1 : RSl (RSl (RI .i64)) G v0_1 x0_1) {y : ((List Int))} (hd : D.spec_l9With x0_0 x0_1 x1 = some y) :
  Calls Tryz.prog 83 #[(.agg #[v0_0, v0_1]), (.int .i64 x1)] w (Res W G H (fun G' Ho v => ∃ r0 : Value, ∃ i0 : Itm, Ho = [i0] ∧ r0 = v ∧ Ow (RI .i64) 2 G' i0 r0 y)) := by
 refine calls_b (args := [(.agg #[v0_0, v0_1]), (.int .i64 x1)]) (N := 27) [.tmp 4] Tryz.func83 rfl rfl (Nat.le_of_ble_eq_true rfl) rfl fun a f => ?_
 unfold D.spec_l9With at hd
 refine k_seq (k_region ?_)
 refine l_box (cs := [v0_0, v0_1]) m f rfl rfl rfl fun aa w a m f => l_as f rfl rfl fun a f => l_nil (k_seq (k_region ?_))
 refine l_slit (R := (RI .i64)) (xs := ([] : List Int)) (RI.one _) m T42 f rfl rfl rfl (by decide) (All2.nil _) fun ab ac w a m ad f => l_as f rfl rfl fun a f => l_nil (k_seq (k_seq (k_region ?_)))
 refine l_as f rfl rfl fun a f => l_nil ?_
 obtain ⟨ae, af, hd⟩ := bind_some hd
 refine k_cut (fun a w => ∃ ag : List Int, ag = ae ∧ ∃ (ah : GH) (ai : Value) (aj : Itm), GLe G ah ∧ Fr a 27 [(5, ai)] ∧ Mem W ah w (aj :: H) ∧ Ow (RI .i64) 2 ah aj ai ag) ?_ ?_
 ·refine k_block ?_
  have m := m.front 1 rfl
  refine k_loop (fun ak a w => ∃ al : List Int, ∃ am : Int, (al, am) = ak ∧ ∃ (an : GH) (ao : Value) (ap : Itm), GLe G an ∧ Fr a 27 [(1, (.int .i64 x1)), (2, (.pointer (some ⟨aa, 0, none⟩))), (5, ao), (6, (.int .i64 am))] ∧ Mem W an w (Itm.box aa 27 [v0_0, v0_1] :: ap :: H) ∧ Ow (RI .i64) 2 an ap ao al) af ⟨_, _, rfl, _, ac, ab, (GLe.refl _), f.weak ⟨rfl, rfl, rfl, rfl, trivial⟩, m, ad⟩ ?_
  clear af f m
  rintro ak aq ar au a w ⟨al, am, rfl, an, ao, ap, av, f, m, aw⟩
  have h0_0 := rd2 av h0_0
  have h0_1 := rd2 av h0_1
  refine k_seq (k_seq (k_region ?_))
  refine l_mv f rfl rfl fun a f => l_fieldAddr Tryz.underlying27 rfl Tryz.sizeOf22 (by decide) f rfl rfl fun a f => l_boxCell 0 0 m Pl22 f rfl rfl rfl rfl fun a f => l_len Tryz.underlying22 f rfl rfl h0_0 fun a f => l_in f rfl rfl rfl b_lss fun a f => l_nil ?_
  rcases cond_some ar with ⟨ax, ar⟩ | ⟨ax, ar⟩
  ·refine k_true f rfl ax ?_
   refine k_skip ?_
   refine k_seq (k_block (k_seq (k_region ?_)))
   refine l_fieldAddr Tryz.underlying27 rfl Tryz.sizeOf22 (by decide) f rfl rfl fun a f => l_boxCell 0 0 m Pl22 f rfl rfl rfl rfl fun a f => l_mv f rfl rfl fun a f => ?_
   obtain ⟨ay, az, ar⟩ := bind_some ar
   refine l_at T22 f rfl rfl rfl h0_0 az fun aA aB a aC aD f => l_loadAt m Pl42 f rfl rfl aC fun a f => l_mv f rfl rfl fun a f => ?_
   obtain ⟨aE, aF, ar⟩ := bind_some ar
   refine l_res f rfl rfl Tryz.call70 (Wk.spec_l1Has m aD aF) fun aG aH aI w aJ m aK a f => ?_
   obtain ⟨rfl, rfl⟩ := aK
   have h0_0 := rd2 aJ h0_0
   have aC := At.mono aJ aC
   have aD := rd1 aJ aD
   have h0_1 := rd2 aJ h0_1
   have aw := od1 aJ aw
   refine l_nil ?_
   rcases cond_some ar with ⟨aL, ar⟩ | ⟨aL, ar⟩
   ·refine k_true f rfl aL ?_
    refine k_region ?_
    refine l_mv f rfl rfl fun a f => l_mv f rfl rfl fun a f => l_slit (R := (RI .i64)) (xs := ([am] : List Int)) (RI.one _) m T42 f rfl rfl rfl (by decide) (All2.cons rfl (All2.nil _)) fun aM aN w a m aO f => ?_
    obtain ⟨aP, aQ, ar⟩ := bind_some ar
    refine l_append (RI.one _) 2 m aw rfl T42 rfl (by decide) f rfl rfl rfl (Ow.src (j := 0) aO m rfl) aQ fun aR aS w a m aT f => l_as f rfl rfl fun a f => l_nil (k_region ?_)
    refine l_mv f rfl rfl fun a f => l_in f rfl rfl rfl b_add fun a f => l_as f rfl rfl fun a f => l_nil ?_
    have m := m.front 2 rfl
    have m := m.front 2 rfl
    have m := m.eraseAt 2
    obtain rfl := sj ar
    exact ⟨_, rfl, _, _, rfl, _, aS, aR, (GLe.trans av aJ), f.weak ⟨rfl, rfl, rfl, rfl, trivial⟩, m, aT⟩
   ·refine k_false f rfl aL ?_
    refine k_skip ?_
    refine k_region ?_
    refine l_mv f rfl rfl fun a f => l_in f rfl rfl rfl b_add fun a f => l_as f rfl rfl fun a f => l_nil ?_
    obtain rfl := sj ar
    exact ⟨_, rfl, _, _, rfl, _, ao, ap, (GLe.trans av aJ), f.weak ⟨rfl, rfl, rfl, rfl, trivial⟩, m, aw⟩
  ·refine k_false f rfl ax ?_
   refine k_exit rfl ?_
   have m := m.front 1 rfl
   have m := m.eraseAt 1
   obtain rfl := sj ar
   obtain rfl := au _ rfl
   exact ⟨_, rfl, _, ao, ap, av, f.weak ⟨rfl, trivial⟩, m, aw⟩
 ·rintro a w ⟨ag, rfl, ah, ai, aj, aU, f, m, aV⟩
  refine k_seq (k_region ?_)
  refine l_mv f rfl rfl fun a f => l_as f rfl rfl fun a f => l_nil ?_
  refine k_ret ?_
  obtain rfl := sj hd
  exact ⟨[ai], ⟨f.get _ _ rfl, trivial⟩, f.defers, _, [aj], aU, m, _, _, rfl, rfl, aV⟩

theorem Wk.spec_DecompOk {W w : World} {G : GH} {H : List Itm} {v0_0 : Value} {v1_0 : Value} {v1_1 : Value} {x0_0 : (List (List Int))} {x1_0 : (List (List Int))} {x1_1 : (List (List Int))} (m : Mem W G w (H)) (h0_0 : RSl (RSl (RI .i64)) G v0_0 x0_0) (h1_0 : RSl (RSl (RI .i64)) G v1_0 x1_0) (h1_1 : RSl (RSl (RI .i64)) G v1_1 x1_1) {y : Bool} (hd : D.spec_DecompOk x0_0 x1_0 x1_1 = some y) :
  Calls Tryz.prog 29 #[(.agg #[v0_0]), (.agg #[v1_0, v1_1])] w (Res W G H (fun _ Ho v => Ho = [] ∧ v = (.bool y))) := by
 refine calls_b (args := [(.agg #[v0_0]), (.agg #[v1_0, v1_1])]) (N := 69) [.tmp 4] Tryz.func29 rfl rfl (Nat.le_of_ble_eq_true rfl) rfl fun a f => ?_
 unfold D.spec_DecompOk at hd
 refine k_seq (k_region ?_)
 refine l_box (cs := [v0_0]) m f rfl rfl rfl fun aa w a m f => l_box (cs := [v1_0, v1_1]) m f rfl rfl rfl fun ab w a m f => l_as f rfl rfl fun a f => l_nil (k_seq (k_seq (k_region ?_)))
 refine l_boxAgg 1 0 (ds := [v0_0]) m Ag30 f rfl rfl rfl rfl rfl fun a f => ?_
 obtain ⟨ac, ad, hd⟩ := bind_some hd
 refine l_res f rfl rfl Tryz.call77 (Wk.spec_GraphOk m h0_0 ad) fun ae af ag w ah m ai a f => ?_
 obtain ⟨rfl, rfl⟩ := ai
 have h0_0 := rd2 ah h0_0
 have h1_0 := rd2 ah h1_0
 have h1_1 := rd2 ah h1_1
 refine l_op f rfl rfl rfl (r_not (f.eval rfl)) fun a f => l_mv f rfl rfl fun a f => ?_
 obtain ⟨aj, ak, hd⟩ := bind_some hd
 refine l_cut 4 (fun a w => ∃ al, GLe af al ∧ Mem W al w (Itm.box ab 27 [v1_0, v1_1] :: Itm.box aa 30 [v0_0] :: H) ∧ Fr a 69 [(0, (.agg #[v0_0])), (1, (.agg #[v1_0, v1_1])), (2, (.pointer (some ⟨aa, 0, none⟩))), (3, (.pointer (some ⟨ab, 0, none⟩))), (10, (.agg #[v0_0])), (11, (.bool ac)), (12, (.bool (!ac))), (13, (.bool (!ac))), (17, (.bool aj))]) ?_ ?_
 ·rcases cond_some ak with ⟨am, ak⟩ | ⟨am, ak⟩
  ·refine l_not' f rfl rfl rfl am fun a f => ?_
   refine l_not' f rfl rfl rfl am fun a f => l_not' f rfl rfl rfl am fun a f => l_op f rfl rfl rfl (r_pickT (f.eval rfl) am (f.eval rfl)) fun a f => ?_
   obtain rfl := sj ak
   exact ⟨_, (GLe.refl _), m, f.weak ⟨rfl, rfl, rfl, rfl, rfl, rfl, rfl, rfl, rfl, trivial⟩⟩
  ·refine l_run f rfl rfl am ?_
   refine l_boxAgg 0 0 (ds := [v1_0, v1_1]) m Ag27 f rfl rfl rfl rfl rfl fun a f => l_run f rfl rfl am ?_
   obtain ⟨an, ao, ak⟩ := bind_some ak
   refine l_res f rfl rfl Tryz.call78 (Wk.spec_l9Tree m h1_0 h1_1 ao) fun ap aq ar w au m av a f => ?_
   obtain ⟨rfl, rfl⟩ := av
   have h0_0 := rd2 au h0_0
   have h1_0 := rd2 au h1_0
   have h1_1 := rd2 au h1_1
   refine l_run f rfl rfl am ?_
   refine l_op f rfl rfl rfl (r_not (f.eval rfl)) fun a f => l_op f rfl rfl rfl (r_pickF (f.eval rfl) am (f.eval rfl)) fun a f => ?_
   obtain rfl := sj ak
   exact ⟨_, au, m, f.weak ⟨rfl, rfl, rfl, rfl, rfl, rfl, rfl, rfl, rfl, trivial⟩⟩
 ·rintro a w ⟨al, aw, m, f⟩
  have h0_0 := rd2 aw h0_0
  have h1_0 := rd2 aw h1_0
  have h1_1 := rd2 aw h1_1
  refine l_nil ?_
  rcases cond_some hd with ⟨ax, hd⟩ | ⟨ax, hd⟩
  ·refine k_true f rfl ax ?_
   refine k_seq (k_region ?_)
   refine l_as f rfl rfl fun a f => l_nil ?_
   refine k_ret ?_
   have m : Mem W al w H := Mem.drop (H' := [Itm.box ab 27 [v1_0, v1_1], Itm.box aa 30 [v0_0]]) m
   obtain rfl := sj hd
   exact ⟨[(.bool false)], ⟨f.get _ _ rfl, trivial⟩, f.defers, _, [], (GLe.trans ah aw), m, rfl, rfl⟩
  ·refine k_false f rfl ax ?_
   refine k_skip ?_
   refine k_seq (k_seq (k_region ?_))
   refine l_as f rfl rfl fun a f => l_nil ?_
   obtain ⟨ay, az, hd⟩ := bind_some hd
   refine k_cut (fun a w => ∃ q_73' : Unit, ay = .inl q_73' ∧ ∃ (aA : GH), GLe al aA ∧ Fr a 69 [(2, (.pointer (some ⟨aa, 0, none⟩))), (3, (.pointer (some ⟨ab, 0, none⟩)))] ∧ Mem W aA w (Itm.box aa 30 [v0_0] :: Itm.box ab 27 [v1_0, v1_1] :: H)) ?_ ?_
   ·refine k_block ?_
    have m := m.front 1 rfl
    refine k_loop (fun aB a w => ∃ aC : Int, aC = aB ∧ ∃ (aD : GH), GLe al aD ∧ Fr a 69 [(2, (.pointer (some ⟨aa, 0, none⟩))), (3, (.pointer (some ⟨ab, 0, none⟩))), (5, (.int .i64 aC))] ∧ Mem W aD w (Itm.box aa 30 [v0_0] :: Itm.box ab 27 [v1_0, v1_1] :: H)) az ⟨_, rfl, _, (GLe.refl _), f.weak ⟨rfl, rfl, rfl, trivial⟩, m⟩ ?_
    clear az f m
    rintro aB aE aF aG a w ⟨aC, rfl, aD, aH, f, m⟩
    have h0_0 := rd2 aH h0_0
    have h1_0 := rd2 aH h1_0
    have h1_1 := rd2 aH h1_1
    refine k_seq (k_seq (k_region ?_))
    refine l_mv f rfl rfl fun a f => l_fieldAddr Tryz.underlying27 rfl Tryz.sizeOf22 (by decide) f rfl rfl fun a f => l_boxCell 1 0 m Pl22 f rfl rfl rfl rfl fun a f => l_len Tryz.underlying22 f rfl rfl h1_0 fun a f => l_in f rfl rfl rfl b_lss fun a f => l_nil ?_
    rcases cond_some aF with ⟨aI, aF⟩ | ⟨aI, aF⟩
    ·refine k_true f rfl aI ?_
     refine k_skip ?_
     refine k_seq (k_block (k_seq ?_))
     refine k_draw 9 Follows (by kernel_rfl) m ?_
     refine q_fieldAddr (i := 0) 9 Tryz.underlying27 rfl Tryz.sizeOf22 (by decide) rfl (by kernel_rfl) rfl f rfl rfl rfl fun a f => q_boxCell (i := 1) 9 1 Pl22 rfl rfl rfl (by kernel_rfl) rfl f rfl rfl rfl fun a f => q_mv 2 9 rfl (by kernel_rfl) f rfl rfl rfl fun a f => ?_
     obtain ⟨aJ, aK, aF⟩ := bind_some aF
     refine q_at (i := 3) 9 T22 h1_0 aK rfl (by kernel_rfl) rfl f rfl rfl rfl rfl fun aL aM a aN aO f => q_loadAt (i := 4) 9 Pl42 aN rfl (by kernel_rfl) rfl f rfl rfl rfl fun a f => q_boxAgg (i := 5) (ds := [v0_0]) 9 0 Ag30 rfl rfl rfl rfl (by kernel_rfl) rfl f rfl rfl rfl fun a f => ?_
     obtain ⟨aP, aQ, aF⟩ := bind_some aF
     refine q_call (i := 6) 9 rfl (by kernel_rfl) rfl f rfl rfl rfl Tryz.call80 (fun _ _ w aR m => Wk.spec_l1Size m (rd2 aR h0_0) aQ) fun a f => ?_
     obtain ⟨aS, aT, aF⟩ := bind_some aF
     refine q_call (i := 7) 9 rfl (by kernel_rfl) rfl f rfl rfl rfl Tryz.call79 (fun _ _ w aU m => Wk.spec_l1Set m (rd1 aU aO) aT) fun a f => q_p 8 9 rfl (by kernel_rfl) f rfl rfl rfl (fun _ => r_not (f.eval rfl)) fun a f => q_end fun aV w aW m => ?_
     have h1_0 := rd2 aW h1_0
     have aN := At.mono aW aN
     have aO := rd1 aW aO
     have h0_0 := rd2 aW h0_0
     have h1_1 := rd2 aW h1_1
     refine l_nil ?_
     rcases cond_some aF with ⟨aX, aF⟩ | ⟨aX, aF⟩
     ·refine k_true f rfl aX ?_
      refine k_seq (k_region ?_)
      refine l_as f rfl rfl fun a f => l_nil ?_
      refine k_ret ?_
      have m : Mem W aV w H := Mem.drop (H' := [Itm.box aa 30 [v0_0], Itm.box ab 27 [v1_0, v1_1]]) m
      obtain rfl := sj aF
      obtain rfl := aG _ rfl
      obtain rfl := sj hd
      exact ⟨[(.bool false)], ⟨f.get _ _ rfl, trivial⟩, f.defers, _, [], (GLe.trans ah (GLe.trans aw (GLe.trans aH aW))), m, rfl, rfl⟩
     ·refine k_false f rfl aX ?_
      refine k_skip ?_
      refine k_region ?_
      refine l_mv f rfl rfl fun a f => l_in f rfl rfl rfl b_add fun a f => l_as f rfl rfl fun a f => l_nil ?_
      obtain rfl := sj aF
      exact ⟨_, rfl, _, rfl, _, (GLe.trans aH aW), f.weak ⟨rfl, rfl, rfl, trivial⟩, m⟩
    ·refine k_false f rfl aI ?_
     refine k_exit rfl ?_
     obtain rfl := sj aF
     obtain rfl := aG _ rfl
     exact ⟨_, rfl, _, aH, f.weak ⟨rfl, rfl, trivial⟩, m⟩
   ·rintro a w ⟨_, rfl, aA, aY, f, m⟩
    have h0_0 := rd2 aY h0_0
    have h1_0 := rd2 aY h1_0
    have h1_1 := rd2 aY h1_1
    refine k_seq (k_region ?_)
    refine l_boxAgg 0 0 (ds := [v0_0]) m Ag30 f rfl rfl rfl rfl rfl fun a f => ?_
    obtain ⟨aZ, a0, hd⟩ := bind_some hd
    refine l_res f rfl rfl Tryz.call81 (Wk.spec_l1Edges m h0_0 a0) fun a1 a2 a3 w a4 m a5 a f => ?_
    obtain ⟨a6, a7, rfl, rfl, a8⟩ := a5
    have h0_0 := rd2 a4 h0_0
    have h1_0 := rd2 a4 h1_0
    have h1_1 := rd2 a4 h1_1
    refine l_as f rfl rfl fun a f => l_nil (k_seq (k_seq (k_region ?_)))
    refine l_as f rfl rfl fun a f => l_nil ?_
    obtain ⟨a9, ba, hd⟩ := bind_some hd
    refine k_cut (fun a w => ∃ q_155' : Unit, a9 = .inl q_155' ∧ ∃ (bb : GH), GLe a2 bb ∧ Fr a 69 [(2, (.pointer (some ⟨aa, 0, none⟩))), (3, (.pointer (some ⟨ab, 0, none⟩)))] ∧ Mem W bb w (Itm.box aa 30 [v0_0] :: Itm.box ab 27 [v1_0, v1_1] :: H)) ?_ ?_
    ·refine k_block ?_
     have m := m.front 2 rfl
     have m := m.front 2 rfl
     refine k_loop (fun bc a w => ∃ bd : Int, bd = bc ∧ ∃ (be : GH), GLe a2 be ∧ Fr a 69 [(2, (.pointer (some ⟨aa, 0, none⟩))), (3, (.pointer (some ⟨ab, 0, none⟩))), (6, a6), (7, (.int .i64 bd))] ∧ Mem W be w (Itm.box aa 30 [v0_0] :: Itm.box ab 27 [v1_0, v1_1] :: a7 :: H)) ba ⟨_, rfl, _, (GLe.refl _), f.weak ⟨rfl, rfl, rfl, rfl, trivial⟩, m⟩ ?_
     clear ba f m
     rintro bc bf bg bh a w ⟨bd, rfl, be, bi, f, m⟩
     have h0_0 := rd2 bi h0_0
     have h1_0 := rd2 bi h1_0
     have h1_1 := rd2 bi h1_1
     have a8 := Ow.mono (RSl.mono (RI.mono _)) bi a8
     refine k_seq (k_seq (k_region ?_))
     refine l_mv f rfl rfl fun a f => l_mv f rfl rfl fun a f => l_own_len 2 m a8 rfl Tryz.underlying22 f rfl rfl fun a f => l_in f rfl rfl rfl b_lss fun a f => l_nil ?_
     rcases cond_some bg with ⟨bj, bg⟩ | ⟨bj, bg⟩
     ·refine k_true f rfl bj ?_
      refine k_skip ?_
      refine k_seq (k_block (k_seq ?_))
      refine k_draw 7 Follows (by kernel_rfl) m ?_
      refine q_boxAgg (i := 0) (ds := [v1_0, v1_1]) 7 1 Ag27 rfl rfl rfl rfl (by kernel_rfl) rfl f rfl rfl rfl fun a f => q_mv 1 7 rfl (by kernel_rfl) f rfl rfl rfl fun a f => q_mv 2 7 rfl (by kernel_rfl) f rfl rfl rfl fun a f => ?_
      obtain ⟨bk, bl, bg⟩ := bind_some bg
      refine q_own_at (i := 3) 7 2 m a8 rfl T22 bl rfl (by kernel_rfl) rfl f rfl rfl rfl rfl fun bm a bn f => q_own_load (i := 4) 7 2 a8 rfl Pl42 bn bl rfl (by kernel_rfl) rfl f rfl rfl rfl fun bo a bp f => ?_
      obtain ⟨bq, br, bg⟩ := bind_some bg
      refine q_call (i := 5) 7 rfl (by kernel_rfl) rfl f rfl rfl rfl Tryz.call82 (fun _ _ w bs m => Wk.spec_l9In m (rd2 bs h1_0) (rd2 bs h1_1) (rd1 bs bp) br) fun a f => q_p 6 7 rfl (by kernel_rfl) f rfl rfl rfl (fun _ => r_not (f.eval rfl)) fun a f => q_end fun bt w bu m => ?_
      have h1_0 := rd2 bu h1_0
      have h1_1 := rd2 bu h1_1
      have bp := rd1 bu bp
      have h0_0 := rd2 bu h0_0
      have a8 := Ow.mono (RSl.mono (RI.mono _)) bu a8
      refine l_nil ?_
      rcases cond_some bg with ⟨bv, bg⟩ | ⟨bv, bg⟩
      ·refine k_true f rfl bv ?_
       refine k_seq (k_region ?_)
       refine l_as f rfl rfl fun a f => l_nil ?_
       refine k_ret ?_
       have m : Mem W bt w H := Mem.drop (H' := [Itm.box aa 30 [v0_0], Itm.box ab 27 [v1_0, v1_1], a7]) m
       obtain rfl := sj bg
       obtain rfl := bh _ rfl
       obtain rfl := sj hd
       exact ⟨[(.bool false)], ⟨f.get _ _ rfl, trivial⟩, f.defers, _, [], (GLe.trans ah (GLe.trans aw (GLe.trans aY (GLe.trans a4 (GLe.trans bi bu))))), m, rfl, rfl⟩
      ·refine k_false f rfl bv ?_
       refine k_skip ?_
       refine k_region ?_
       refine l_mv f rfl rfl fun a f => l_in f rfl rfl rfl b_add fun a f => l_as f rfl rfl fun a f => l_nil ?_
       obtain rfl := sj bg
       exact ⟨_, rfl, _, rfl, _, (GLe.trans bi bu), f.weak ⟨rfl, rfl, rfl, rfl, trivial⟩, m⟩
     ·refine k_false f rfl bj ?_
      refine k_exit rfl ?_
      have m := m.eraseAt 2
      obtain rfl := sj bg
      obtain rfl := bh _ rfl
      exact ⟨_, rfl, _, bi, f.weak ⟨rfl, rfl, trivial⟩, m⟩
    ·rintro a w ⟨_, rfl, bb, bw, f, m⟩
     have h0_0 := rd2 bw h0_0
     have h1_0 := rd2 bw h1_0
     have h1_1 := rd2 bw h1_1
     refine k_seq (k_seq (k_region ?_))
     refine l_as f rfl rfl fun a f => l_nil ?_
     obtain ⟨bx, bz, hd⟩ := bind_some hd
     refine k_cut (fun a w => ∃ q_304' : Unit, bx = .inl q_304' ∧ ∃ (bA : GH), GLe bb bA ∧ Fr a 69 [] ∧ Mem W bA w (H)) ?_ ?_
     ·refine k_block ?_
      refine k_loop (fun bB a w => ∃ bC : Int, bC = bB ∧ ∃ (bD : GH), GLe bb bD ∧ Fr a 69 [(2, (.pointer (some ⟨aa, 0, none⟩))), (3, (.pointer (some ⟨ab, 0, none⟩))), (8, (.int .i64 bC))] ∧ Mem W bD w (Itm.box aa 30 [v0_0] :: Itm.box ab 27 [v1_0, v1_1] :: H)) bz ⟨_, rfl, _, (GLe.refl _), f.weak ⟨rfl, rfl, rfl, trivial⟩, m⟩ ?_
      clear bz f m
      rintro bB bE bF bG a w ⟨bC, rfl, bD, bH, f, m⟩
      have h0_0 := rd2 bH h0_0
      have h1_0 := rd2 bH h1_0
      have h1_1 := rd2 bH h1_1
      refine k_seq (k_seq (k_region ?_))
      refine l_mv f rfl rfl fun a f => l_boxAgg 0 0 (ds := [v0_0]) m Ag30 f rfl rfl rfl rfl rfl fun a f => ?_
      obtain ⟨bI, bJ, bF⟩ := bind_some bF
      refine l_res f rfl rfl Tryz.call80 (Wk.spec_l1Size m h0_0 bJ) fun bK bL bM w bN m bO a f => ?_
      obtain ⟨rfl, rfl⟩ := bO
      have h0_0 := rd2 bN h0_0
      have h1_0 := rd2 bN h1_0
      have h1_1 := rd2 bN h1_1
      refine l_in f rfl rfl rfl b_lss fun a f => l_nil ?_
      rcases cond_some bF with ⟨bP, bF⟩ | ⟨bP, bF⟩
      ·refine k_true f rfl bP ?_
       refine k_skip ?_
       refine k_seq (k_block (k_seq (k_region ?_)))
       refine l_boxAgg 1 0 (ds := [v1_0, v1_1]) m Ag27 f rfl rfl rfl rfl rfl fun a f => l_mv f rfl rfl fun a f => ?_
       obtain ⟨bQ, bR, bF⟩ := bind_some bF
       refine l_res f rfl rfl Tryz.call83 (Wk.spec_l9With m h1_0 h1_1 bR) fun bS bT bU w bV m bW a f => ?_
       obtain ⟨bX, bY, rfl, rfl, bZ⟩ := bW
       have h1_0 := rd2 bV h1_0
       have h1_1 := rd2 bV h1_1
       have h0_0 := rd2 bV h0_0
       refine l_as f rfl rfl fun a f => l_nil (k_seq (k_region ?_))
       refine l_mv f rfl rfl fun a f => l_own_len 0 m bZ rfl Tryz.underlying42 f rfl rfl fun a f => l_in f rfl rfl rfl b_eql fun a f => l_mv f rfl rfl fun a f => ?_
       obtain ⟨b0, b1, bF⟩ := bind_some bF
       refine l_cut 7 (fun a w => ∃ b2, GLe bT b2 ∧ Mem W b2 w (bY :: Itm.box aa 30 [v0_0] :: Itm.box ab 27 [v1_0, v1_1] :: H) ∧ Fr a 69 [(2, (.pointer (some ⟨aa, 0, none⟩))), (3, (.pointer (some ⟨ab, 0, none⟩))), (8, (.int .i64 bC)), (9, bX), (58, bX), (59, (.int .i64 (bQ.length : Int))), (60, (.bool ((bQ.length : Int) == 0))), (61, (.bool ((bQ.length : Int) == 0))), (68, (.bool b0))]) ?_ ?_
       ·rcases cond_some b1 with ⟨b3, b1⟩ | ⟨b3, b1⟩
        ·refine l_not' f rfl rfl rfl b3 fun a f => ?_
         refine l_not' f rfl rfl rfl b3 fun a f => l_not' f rfl rfl rfl b3 fun a f => l_not' f rfl rfl rfl b3 fun a f => l_not' f rfl rfl rfl b3 fun a f => l_not' f rfl rfl rfl b3 fun a f => l_op f rfl rfl rfl (r_pickT (f.eval rfl) b3 (f.eval rfl)) fun a f => ?_
         obtain rfl := sj b1
         exact ⟨_, (GLe.refl _), m, f.weak ⟨rfl, rfl, rfl, rfl, rfl, rfl, rfl, rfl, rfl, trivial⟩⟩
        ·refine l_run f rfl rfl b3 ?_
         refine l_boxAgg 2 0 (ds := [v1_0, v1_1]) m Ag27 f rfl rfl rfl rfl rfl fun a f => l_run f rfl rfl b3 ?_
         refine l_mv f rfl rfl fun a f => l_run f rfl rfl b3 ?_
         obtain ⟨b4, b5, b1⟩ := bind_some b1
         refine l_res f rfl rfl Tryz.call84 (Ow.lendCall (RI.mono _) 0 bZ m rfl (fun b6 b7 m b8 => Wk.spec_l9Reached m (rd2 b7 h1_0) (rd2 b7 h1_1) b8 b5) (fun _ _ _ _ h => h)) fun b9 ca cb w cc m cd a f => ?_
         obtain ⟨rfl, rfl⟩ := cd
         have h1_0 := rd2 cc h1_0
         have h1_1 := rd2 cc h1_1
         have bZ := od1 cc bZ
         have h0_0 := rd2 cc h0_0
         refine l_run f rfl rfl b3 ?_
         refine l_mv f rfl rfl fun a f => l_run f rfl rfl b3 ?_
         refine l_own_len 0 m bZ rfl Tryz.underlying42 f rfl rfl fun a f => l_run f rfl rfl b3 ?_
         refine l_in f rfl rfl rfl b_neq fun a f => l_op f rfl rfl rfl (r_pickF (f.eval rfl) b3 (f.eval rfl)) fun a f => ?_
         obtain rfl := sj b1
         exact ⟨_, cc, m, f.weak ⟨rfl, rfl, rfl, rfl, rfl, rfl, rfl, rfl, rfl, trivial⟩⟩
       ·rintro a w ⟨b2, ce, m, f⟩
        have bZ := od1 ce bZ
        have h0_0 := rd2 ce h0_0
        have h1_0 := rd2 ce h1_0
        have h1_1 := rd2 ce h1_1
        refine l_nil ?_
        rcases cond_some bF with ⟨cf, bF⟩ | ⟨cf, bF⟩
        ·refine k_true f rfl cf ?_
         refine k_seq (k_region ?_)
         refine l_as f rfl rfl fun a f => l_nil ?_
         refine k_ret ?_
         have m : Mem W b2 w H := Mem.drop (H' := [bY, Itm.box aa 30 [v0_0], Itm.box ab 27 [v1_0, v1_1]]) m
         obtain rfl := sj bF
         obtain rfl := bG _ rfl
         obtain rfl := sj hd
         exact ⟨[(.bool false)], ⟨f.get _ _ rfl, trivial⟩, f.defers, _, [], (GLe.trans ah (GLe.trans aw (GLe.trans aY (GLe.trans a4 (GLe.trans bw (GLe.trans bH (GLe.trans bN (GLe.trans bV ce)))))))), m, rfl, rfl⟩
        ·refine k_false f rfl cf ?_
         refine k_skip ?_
         refine k_region ?_
         refine l_mv f rfl rfl fun a f => l_in f rfl rfl rfl b_add fun a f => l_as f rfl rfl fun a f => l_nil ?_
         have m := m.front 2 rfl
         have m := m.front 2 rfl
         have m := m.eraseAt 2
         obtain rfl := sj bF
         exact ⟨_, rfl, _, rfl, _, (GLe.trans bH (GLe.trans bN (GLe.trans bV ce))), f.weak ⟨rfl, rfl, rfl, trivial⟩, m⟩
      ·refine k_false f rfl bP ?_
       refine k_exit rfl ?_
       have m : Mem W bL w H := Mem.drop (H' := [Itm.box aa 30 [v0_0], Itm.box ab 27 [v1_0, v1_1]]) m
       obtain rfl := sj bF
       obtain rfl := bG _ rfl
       exact ⟨_, rfl, _, (GLe.trans bH bN), f.weak trivial, m⟩
     ·rintro a w ⟨_, rfl, bA, cg, f, m⟩
      refine k_seq (k_region ?_)
      refine l_as f rfl rfl fun a f => l_nil ?_
      refine k_ret ?_
      obtain rfl := sj hd
      exact ⟨[(.bool true)], ⟨f.get _ _ rfl, trivial⟩, f.defers, _, [], (GLe.trans ah (GLe.trans aw (GLe.trans aY (GLe.trans a4 (GLe.trans bw cg))))), m, rfl, rfl⟩

theorem Wk.spec_l1Min {W w : World} {G : GH} {H : List Itm} {x0 : Int} {x1 : Int} (m : Mem W G w (H))  {y : Int} (hd : D.spec_l1Min x0 x1 = some y) :
  Calls Tryz.prog 112 #[(.int .i64 x0), (.int .i64 x1)] w (Res W G H (fun _ Ho v => Ho = [] ∧ v = (.int .i64 y))) := by
 refine calls_b (args := [(.int .i64 x0), (.int .i64 x1)]) (N := 10) [.tmp 4] Tryz.func112 rfl rfl (Nat.le_of_ble_eq_true rfl) rfl fun a f => ?_
 unfold D.spec_l1Min at hd
 refine k_seq (k_region ?_)
 refine l_as f rfl rfl fun a f => l_nil (k_seq (k_seq (k_region ?_)))
 refine l_mv f rfl rfl fun a f => l_mv f rfl rfl fun a f => l_in f rfl rfl rfl b_lss fun a f => l_nil ?_
 rcases cond_some hd with ⟨aa, hd⟩ | ⟨aa, hd⟩
 ·refine k_true f rfl aa ?_
  refine k_seq (k_region ?_)
  refine l_mv f rfl rfl fun a f => l_as f rfl rfl fun a f => l_nil ?_
  refine k_ret ?_
  obtain rfl := sj hd
  exact ⟨[(.int .i64 x0)], ⟨f.get _ _ rfl, trivial⟩, f.defers, _, [], (GLe.refl _), m, rfl, rfl⟩
 ·refine k_false f rfl aa ?_
  refine k_skip ?_
  refine k_seq (k_region ?_)
  refine l_mv f rfl rfl fun a f => l_as f rfl rfl fun a f => l_nil ?_
  refine k_ret ?_
  obtain rfl := sj hd
  exact ⟨[(.int .i64 x1)], ⟨f.get _ _ rfl, trivial⟩, f.defers, _, [], (GLe.refl _), m, rfl, rfl⟩

theorem Wk.spec_l1Max {W w : World} {G : GH} {H : List Itm} {x0 : Int} {x1 : Int} (m : Mem W G w (H))  {y : Int} (hd : D.spec_l1Max x0 x1 = some y) :
  Calls Tryz.prog 102 #[(.int .i64 x0), (.int .i64 x1)] w (Res W G H (fun _ Ho v => Ho = [] ∧ v = (.int .i64 y))) := by
 refine calls_b (args := [(.int .i64 x0), (.int .i64 x1)]) (N := 10) [.tmp 4] Tryz.func102 rfl rfl (Nat.le_of_ble_eq_true rfl) rfl fun a f => ?_
 unfold D.spec_l1Max at hd
 refine k_seq (k_region ?_)
 refine l_as f rfl rfl fun a f => l_nil (k_seq (k_seq (k_region ?_)))
 refine l_mv f rfl rfl fun a f => l_mv f rfl rfl fun a f => l_in f rfl rfl rfl b_gtr fun a f => l_nil ?_
 rcases cond_some hd with ⟨aa, hd⟩ | ⟨aa, hd⟩
 ·refine k_true f rfl aa ?_
  refine k_seq (k_region ?_)
  refine l_mv f rfl rfl fun a f => l_as f rfl rfl fun a f => l_nil ?_
  refine k_ret ?_
  obtain rfl := sj hd
  exact ⟨[(.int .i64 x0)], ⟨f.get _ _ rfl, trivial⟩, f.defers, _, [], (GLe.refl _), m, rfl, rfl⟩
 ·refine k_false f rfl aa ?_
  refine k_skip ?_
  refine k_seq (k_region ?_)
  refine l_mv f rfl rfl fun a f => l_as f rfl rfl fun a f => l_nil ?_
  refine k_ret ?_
  obtain rfl := sj hd
  exact ⟨[(.int .i64 x1)], ⟨f.get _ _ rfl, trivial⟩, f.defers, _, [], (GLe.refl _), m, rfl, rfl⟩

theorem Wk.spec_l1Less {W w : World} {G : GH} {H : List Itm} {v0 : Value} {v1 : Value} {x0 : (List Int)} {x1 : (List Int)} (m : Mem W G w (H)) (h0 : RSl (RI .i64) G v0 x0) (h1 : RSl (RI .i64) G v1 x1) {y : Bool} (hd : D.spec_l1Less x0 x1 = some y) :
  Calls Tryz.prog 113 #[v0, v1] w (Res W G H (fun _ Ho v => Ho = [] ∧ v = (.bool y))) := by
 refine calls_b (args := [v0, v1]) (N := 40) [.tmp 4] Tryz.func113 rfl rfl (Nat.le_of_ble_eq_true rfl) rfl fun a f => ?_
 unfold D.spec_l1Less at hd
 refine k_seq (k_region ?_)
 refine l_as f rfl rfl fun a f => l_nil (k_seq (k_seq (k_region ?_)))
 refine l_mv f rfl rfl fun a f => l_len Tryz.underlying42 f rfl rfl h0 fun a f => l_mv f rfl rfl fun a f => l_len Tryz.underlying42 f rfl rfl h1 fun a f => l_in f rfl rfl rfl b_neq fun a f => l_nil ?_
 rcases cond_some hd with ⟨aa, hd⟩ | ⟨aa, hd⟩
 ·refine k_true f rfl aa ?_
  refine k_seq (k_region ?_)
  refine l_mv f rfl rfl fun a f => l_len Tryz.underlying42 f rfl rfl h0 fun a f => l_mv f rfl rfl fun a f => l_len Tryz.underlying42 f rfl rfl h1 fun a f => l_in f rfl rfl rfl b_lss fun a f => l_as f rfl rfl fun a f => l_nil ?_
  refine k_ret ?_
  obtain rfl := sj hd
  exact ⟨[(.bool (decide ((x0.length : Int) < (x1.length : Int))))], ⟨f.get _ _ rfl, trivial⟩, f.defers, _, [], (GLe.refl _), m, rfl, rfl⟩
 ·refine k_false f rfl aa ?_
  refine k_skip ?_
  refine k_seq (k_seq (k_region ?_))
  refine l_as f rfl rfl fun a f => l_nil ?_
  obtain ⟨ab, ac, hd⟩ := bind_some hd
  refine k_cut (fun a w => ∃ q_64' : Unit, ab = .inl q_64' ∧ ∃ (ad : GH), GLe G ad ∧ Fr a 40 [] ∧ Mem W ad w (H)) ?_ ?_
  ·refine k_block ?_
   refine k_loop (fun ae a w => ∃ af : Int, af = ae ∧ ∃ (ag : GH), GLe G ag ∧ Fr a 40 [(0, v0), (1, v1), (5, (.int .i64 af))] ∧ Mem W ag w (H)) ac ⟨_, rfl, _, (GLe.refl _), f.weak ⟨rfl, rfl, rfl, trivial⟩, m⟩ ?_
   clear ac f m
   rintro ae ah ai aj a w ⟨af, rfl, ag, ak, f, m⟩
   have h0 := rd1 ak h0
   have h1 := rd1 ak h1
   refine k_seq (k_seq (k_region ?_))
   refine l_mv f rfl rfl fun a f => l_mv f rfl rfl fun a f => l_len Tryz.underlying42 f rfl rfl h0 fun a f => l_in f rfl rfl rfl b_lss fun a f => l_nil ?_
   rcases cond_some ai with ⟨al, ai⟩ | ⟨al, ai⟩
   ·refine k_true f rfl al ?_
    refine k_skip ?_
    refine k_seq (k_block (k_seq ?_))
    refine k_draw 9 Follows (by kernel_rfl) m ?_
    refine q_mv 0 9 rfl (by kernel_rfl) f rfl rfl rfl fun a f => q_mv 1 9 rfl (by kernel_rfl) f rfl rfl rfl fun a f => ?_
    obtain ⟨am, an, ai⟩ := bind_some ai
    refine q_at (i := 2) 9 T42 h0 an rfl (by kernel_rfl) rfl f rfl rfl rfl rfl fun ao ap a aq ar f => ?_
    subst ar
    refine q_loadAt (i := 3) 9 Pl2 aq rfl (by kernel_rfl) rfl f rfl rfl rfl fun a f => q_mv 4 9 rfl (by kernel_rfl) f rfl rfl rfl fun a f => q_mv 5 9 rfl (by kernel_rfl) f rfl rfl rfl fun a f => ?_
    obtain ⟨au, av, ai⟩ := bind_some ai
    refine q_at (i := 6) 9 T42 h1 av rfl (by kernel_rfl) rfl f rfl rfl rfl rfl fun aw ax a ay az f => ?_
    subst az
    refine q_loadAt (i := 7) 9 Pl2 ay rfl (by kernel_rfl) rfl f rfl rfl rfl fun a f => q_p 8 9 rfl (by kernel_rfl) f rfl rfl rfl (fun _ => r_int (f.eval rfl) (f.eval rfl) b_neq) fun a f => q_end fun aA w aB m => ?_
    have h0 := rd1 aB h0
    have h1 := rd1 aB h1
    have aq := At.mono aB aq
    have ay := At.mono aB ay
    refine l_nil ?_
    rcases cond_some ai with ⟨aC, ai⟩ | ⟨aC, ai⟩
    ·refine k_true f rfl aC ?_
     refine k_seq ?_
     refine k_draw 10 Follows (by kernel_rfl) m ?_
     refine q_mv 0 10 rfl (by kernel_rfl) f rfl rfl rfl fun a f => q_mv 1 10 rfl (by kernel_rfl) f rfl rfl rfl fun a f => ?_
     obtain ⟨aD, aE, ai⟩ := bind_some ai
     refine q_at (i := 2) 10 T42 h0 aE rfl (by kernel_rfl) rfl f rfl rfl rfl rfl fun aF aG a aH aI f => ?_
     subst aI
     refine q_loadAt (i := 3) 10 Pl2 aH rfl (by kernel_rfl) rfl f rfl rfl rfl fun a f => q_mv 4 10 rfl (by kernel_rfl) f rfl rfl rfl fun a f => q_mv 5 10 rfl (by kernel_rfl) f rfl rfl rfl fun a f => ?_
     obtain ⟨aJ, aK, ai⟩ := bind_some ai
     refine q_at (i := 6) 10 T42 h1 aK rfl (by kernel_rfl) rfl f rfl rfl rfl rfl fun aL aM a aN aO f => ?_
     subst aO
     refine q_loadAt (i := 7) 10 Pl2 aN rfl (by kernel_rfl) rfl f rfl rfl rfl fun a f => q_p 8 10 rfl (by kernel_rfl) f rfl rfl rfl (fun _ => r_int (f.eval rfl) (f.eval rfl) b_lss) fun a f => q_p 9 10 rfl (by kernel_rfl) f rfl rfl rfl (fun _ => r_assign (f.eval rfl)) fun a f => q_end fun aP w aQ m => ?_
     have h0 := rd1 aQ h0
     have h1 := rd1 aQ h1
     have aH := At.mono aQ aH
     have aN := At.mono aQ aN
     refine l_nil ?_
     refine k_ret ?_
     obtain rfl := sj ai
     obtain rfl := aj _ rfl
     obtain rfl := sj hd
     exact ⟨[(.bool (decide (aD < aJ)))], ⟨f.get _ _ rfl, trivial⟩, f.defers, _, [], (GLe.trans ak (GLe.trans aB aQ)), m, rfl, rfl⟩
    ·refine k_false f rfl aC ?_
     refine k_skip ?_
     refine k_region ?_
     refine l_mv f rfl rfl fun a f => l_in f rfl rfl rfl b_add fun a f => l_as f rfl rfl fun a f => l_nil ?_
     obtain rfl := sj ai
     exact ⟨_, rfl, _, rfl, _, (GLe.trans ak aB), f.weak ⟨rfl, rfl, rfl, trivial⟩, m⟩
   ·refine k_false f rfl al ?_
    refine k_exit rfl ?_
    obtain rfl := sj ai
    obtain rfl := aj _ rfl
    exact ⟨_, rfl, _, ak, f.weak trivial, m⟩
  ·rintro a w ⟨_, rfl, ad, aR, f, m⟩
   refine k_seq (k_region ?_)
   refine l_as f rfl rfl fun a f => l_nil ?_
   refine k_ret ?_
   obtain rfl := sj hd
   exact ⟨[(.bool false)], ⟨f.get _ _ rfl, trivial⟩, f.defers, _, [], aR, m, rfl, rfl⟩

theorem Wk.spec_l9Link {W w : World} {G : GH} {H : List Itm} {v0 : Value} {x0 : (List (List Int))} {x1 : Int} {x2 : Int} (m : Mem W G w (H)) (h0 : RSl (RSl (RI .i64)) G v0 x0) {y : ((List (List Int)))} (hd : D.spec_l9Link x0 x1 x2 = some y) :
  Calls Tryz.prog 46 #[v0, (.int .i64 x1), (.int .i64 x2)] w (Res W G H (fun G' Ho v => ∃ r0 : Value, ∃ i0 : Itm, Ho = [i0] ∧ r0 = v ∧ Ow (RSl (RI .i64)) 42 G' i0 r0 y)) := by
 refine calls_b (args := [v0, (.int .i64 x1), (.int .i64 x2)]) (N := 53) [.tmp 6] Tryz.func46 rfl rfl (Nat.le_of_ble_eq_true rfl) rfl fun a f => ?_
 unfold D.spec_l9Link at hd
 refine k_seq (k_region ?_)
 refine l_as f rfl rfl fun a f => l_nil (k_seq (k_region ?_))
 refine l_mv f rfl rfl fun a f => l_mv f rfl rfl fun a f => ?_
 obtain ⟨aa, ab, hd⟩ := bind_some hd
 refine l_res f rfl rfl Tryz.call112 (Wk.spec_l1Min m  ab) fun ac ad ae w af m ag a f => ?_
 obtain ⟨rfl, rfl⟩ := ag
 have h0 := rd2 af h0
 refine l_mv f rfl rfl fun a f => l_mv f rfl rfl fun a f => ?_
 obtain ⟨ah, ai, hd⟩ := bind_some hd
 refine l_res f rfl rfl Tryz.call102 (Wk.spec_l1Max m  ai) fun aj ak al w am m an a f => ?_
 obtain ⟨rfl, rfl⟩ := an
 have h0 := rd2 am h0
 refine l_slit (R := (RI .i64)) (xs := ([aa, ah] : List Int)) (RI.one _) m T42 f rfl rfl rfl (by decide) (All2.cons rfl (All2.cons rfl (All2.nil _))) fun ao ap w a m aq f => l_as f rfl rfl fun a f => l_nil (k_seq (k_region ?_))
 refine l_slit (R := (RSl (RI .i64))) (xs := ([] : List (List Int))) (RSl.one _) m T22 f rfl rfl rfl (by decide) (All2.nil _) fun ar au w a m av f => l_as f rfl rfl fun a f => l_nil (k_seq (k_region ?_))
 refine l_as f rfl rfl fun a f => l_nil (k_seq (k_seq (k_region ?_)))
 refine l_as f rfl rfl fun a f => l_nil ?_
 have m := m.front 1 rfl
 obtain ⟨aw, ax, m, ay⟩ := Ow.stamp (RI.mono _) aq m
 have h0 := rd2 ax h0
 have av := Ow.mono (RSl.mono (RI.mono _)) ax av
 obtain ⟨az, aA, hd⟩ := bind_some hd
 refine k_cut (fun a w => ∃ aB : List Int, ∃ aC : List (List Int), ∃ aD : Bool, (aB, aC, aD) = az ∧ ∃ (aE : GH) (aF : Value) (aG : Value) (aH : Itm), GLe aw aE ∧ Fr a 53 [(7, aF), (8, aG), (9, (.bool aD))] ∧ Mem W aE w (aH :: H) ∧ RSl (RI .i64) aE aF aB ∧ Ow (RSl (RI .i64)) 42 aE aH aG aC) ?_ ?_
 ·refine k_block ?_
  refine k_loop (fun aI a w => ∃ aJ : List Int, ∃ aK : List (List Int), ∃ aL : Bool, ∃ aM : Int, (aJ, aK, aL, aM) = aI ∧ ∃ (aN : GH) (aO : Value) (aP : Value) (aQ : Itm), GLe aw aN ∧ Fr a 53 [(0, v0), (7, aO), (8, aP), (9, (.bool aL)), (10, (.int .i64 aM))] ∧ Mem W aN w (aQ :: H) ∧ RSl (RI .i64) aN aO aJ ∧ Ow (RSl (RI .i64)) 42 aN aQ aP aK) aA ⟨_, _, _, _, rfl, _, ap, au, ar, (GLe.refl _), f.weak ⟨rfl, rfl, rfl, rfl, rfl, trivial⟩, m, ay, av⟩ ?_
  clear aA f m
  rintro aI aR aS aT a w ⟨aJ, aK, aL, aM, rfl, aN, aO, aP, aQ, aU, f, m, aV, aW⟩
  have h0 := rd2 aU h0
  refine k_seq (k_seq (k_region ?_))
  refine l_mv f rfl rfl fun a f => l_mv f rfl rfl fun a f => l_len Tryz.underlying22 f rfl rfl h0 fun a f => l_in f rfl rfl rfl b_lss fun a f => l_nil ?_
  rcases cond_some aS with ⟨aX, aS⟩ | ⟨aX, aS⟩
  ·refine k_true f rfl aX ?_
   refine k_skip ?_
   refine k_seq (k_block (k_seq (k_seq (k_region ?_))))
   refine l_mv f rfl rfl fun a f => l_op f rfl rfl rfl (r_not (f.eval rfl)) fun a f => l_mv f rfl rfl fun a f => ?_
   obtain ⟨aY, aZ, aS⟩ := bind_some aS
   refine l_cut 7 (fun a w => ∃ a0, GLe aN a0 ∧ Mem W a0 w (aQ :: H) ∧ Fr a 53 [(0, v0), (7, aO), (8, aP), (9, (.bool aL)), (10, (.int .i64 aM)), (22, (.bool (decide (aM < (x0.length : Int))))), (25, (.bool aL)), (26, (.bool (!aL))), (27, (.bool (!aL))), (34, (.bool aY))]) ?_ ?_
   ·rcases cond_some aZ with ⟨a1, aZ⟩ | ⟨a1, aZ⟩
    ·refine l_run f rfl rfl a1 ?_
     refine l_mv f rfl rfl fun a f => l_run f rfl rfl a1 ?_
     refine l_mv f rfl rfl fun a f => l_run f rfl rfl a1 ?_
     refine l_mv f rfl rfl fun a f => l_run f rfl rfl a1 ?_
     obtain ⟨a2, a3, aZ⟩ := bind_some aZ
     refine l_at T22 f rfl rfl rfl h0 a3 fun a4 a5 a a6 a7 f => l_run f rfl rfl a1 ?_
     refine l_loadAt m Pl42 f rfl rfl a6 fun a f => l_run f rfl rfl a1 ?_
     obtain ⟨a8, a9, aZ⟩ := bind_some aZ
     refine l_res f rfl rfl Tryz.call113 (Wk.spec_l1Less m aV a7 a9) fun ba bb bc w bd m be a f => ?_
     obtain ⟨rfl, rfl⟩ := be
     have h0 := rd2 bd h0
     have aV := rd1 bd aV
     have a6 := At.mono bd a6
     have a7 := rd1 bd a7
     have aW := Ow.mono (RSl.mono (RI.mono _)) bd aW
     refine l_op f rfl rfl rfl (r_pickT (f.eval rfl) a1 (f.eval rfl)) fun a f => ?_
     obtain rfl := sj aZ
     exact ⟨_, bd, m, f.weak ⟨rfl, rfl, rfl, rfl, rfl, rfl, rfl, rfl, rfl, rfl, trivial⟩⟩
    ·refine l_not' f rfl rfl rfl a1 fun a f => ?_
     refine l_not' f rfl rfl rfl a1 fun a f => l_not' f rfl rfl rfl a1 fun a f => l_not' f rfl rfl rfl a1 fun a f => l_not' f rfl rfl rfl a1 fun a f => l_not' f rfl rfl rfl a1 fun a f => l_op f rfl rfl rfl (r_pickF (f.eval rfl) a1 (f.eval rfl)) fun a f => ?_
     obtain rfl := sj aZ
     exact ⟨_, (GLe.refl _), m, f.weak ⟨rfl, rfl, rfl, rfl, rfl, rfl, rfl, rfl, rfl, rfl, trivial⟩⟩
   ·rintro a w ⟨a0, bf, m, f⟩
    have h0 := rd2 bf h0
    have aV := rd1 bf aV
    have aW := Ow.mono (RSl.mono (RI.mono _)) bf aW
    refine l_nil ?_
    rcases cond_some aS with ⟨bg, aS⟩ | ⟨bg, aS⟩
    ·refine k_true f rfl bg ?_
     refine k_seq (k_region ?_)
     refine l_mv f rfl rfl fun a f => l_mv f rfl rfl fun a f => l_slit (R := (RSl (RI .i64))) (xs := ([aJ] : List (List Int))) (RSl.one _) m T22 f rfl rfl rfl (by decide) (All2.cons aV (All2.nil _)) fun bh bi w a m bj f => ?_
     obtain ⟨bk, bl, aS⟩ := bind_some aS
     refine l_append (RSl.one _) 1 m aW rfl T22 rfl (by decide) f rfl rfl rfl (Ow.src (j := 0) bj m rfl) bl fun bm bn w a m bo f => l_as f rfl rfl fun a f => l_nil (k_region ?_)
     refine l_as f rfl rfl fun a f => l_nil (k_region ?_)
     refine l_mv f rfl rfl fun a f => l_mv f rfl rfl fun a f => l_mv f rfl rfl fun a f => ?_
     obtain ⟨bp, bq, aS⟩ := bind_some aS
     refine l_at T22 f rfl rfl rfl h0 bq fun br bs a bt bu f => l_loadAt m Pl42 f rfl rfl bt fun a f => l_slit (R := (RSl (RI .i64))) (xs := ([bp] : List (List Int))) (RSl.one _) m T22 f rfl rfl rfl (by decide) (All2.cons bu (All2.nil _)) fun bv bw w a m bx f => ?_
     obtain ⟨bz, bA, aS⟩ := bind_some aS
     refine l_append (RSl.one _) 2 m bo rfl T22 rfl (by decide) f rfl rfl rfl (Ow.src (j := 0) bx m rfl) bA fun bB bC w a m bD f => l_as f rfl rfl fun a f => l_nil (k_region ?_)
     refine l_mv f rfl rfl fun a f => l_in f rfl rfl rfl b_add fun a f => l_as f rfl rfl fun a f => l_nil ?_
     have m := m.front 2 rfl
     have m := m.eraseAt 2
     have m := m.eraseAt 1
     obtain rfl := sj aS
     exact ⟨_, rfl, _, _, _, _, rfl, _, aO, bC, bB, (GLe.trans aU bf), f.weak ⟨rfl, rfl, rfl, rfl, rfl, trivial⟩, m, aV, bD⟩
    ·refine k_false f rfl bg ?_
     refine k_skip ?_
     refine k_region ?_
     refine l_mv f rfl rfl fun a f => l_mv f rfl rfl fun a f => l_mv f rfl rfl fun a f => ?_
     obtain ⟨bE, bF, aS⟩ := bind_some aS
     refine l_at T22 f rfl rfl rfl h0 bF fun bG bH a bI bJ f => l_loadAt m Pl42 f rfl rfl bI fun a f => l_slit (R := (RSl (RI .i64))) (xs := ([bE] : List (List Int))) (RSl.one _) m T22 f rfl rfl rfl (by decide) (All2.cons bJ (All2.nil _)) fun bK bL w a m bM f => ?_
     obtain ⟨bN, bO, aS⟩ := bind_some aS
     refine l_append (RSl.one _) 1 m aW rfl T22 rfl (by decide) f rfl rfl rfl (Ow.src (j := 0) bM m rfl) bO fun bP bQ w a m bR f => l_as f rfl rfl fun a f => l_nil (k_region ?_)
     refine l_mv f rfl rfl fun a f => l_in f rfl rfl rfl b_add fun a f => l_as f rfl rfl fun a f => l_nil ?_
     have m := m.front 1 rfl
     have m := m.eraseAt 1
     obtain rfl := sj aS
     exact ⟨_, rfl, _, _, _, _, rfl, _, aO, bQ, bP, (GLe.trans aU bf), f.weak ⟨rfl, rfl, rfl, rfl, rfl, trivial⟩, m, aV, bR⟩
  ·refine k_false f rfl aX ?_
   refine k_exit rfl ?_
   obtain rfl := sj aS
   obtain rfl := aT _ rfl
   exact ⟨_, _, _, rfl, _, aO, aP, aQ, aU, f.weak ⟨rfl, rfl, rfl, trivial⟩, m, aV, aW⟩
 ·rintro a w ⟨aB, aC, aD, rfl, aE, aF, aG, aH, bS, f, m, bT, bU⟩
  refine k_seq (k_seq (k_region ?_))
  refine l_mv f rfl rfl fun a f => l_op f rfl rfl rfl (r_not (f.eval rfl)) fun a f => l_nil ?_
  rcases cond_some hd with ⟨bV, hd⟩ | ⟨bV, hd⟩
  ·refine k_true f rfl bV ?_
   refine k_region ?_
   refine l_mv f rfl rfl fun a f => l_mv f rfl rfl fun a f => l_slit (R := (RSl (RI .i64))) (xs := ([aB] : List (List Int))) (RSl.one _) m T22 f rfl rfl rfl (by decide) (All2.cons bT (All2.nil _)) fun bW bX w a m bY f => ?_
   obtain ⟨bZ, b0, hd⟩ := bind_some hd
   refine l_append (RSl.one _) 1 m bU rfl T22 rfl (by decide) f rfl rfl rfl (Ow.src (j := 0) bY m rfl) b0 fun b1 b2 w a m b3 f => l_as f rfl rfl fun a f => l_nil (k_seq (k_region ?_))
   refine l_mv f rfl rfl fun a f => l_as f rfl rfl fun a f => l_nil ?_
   refine k_ret ?_
   have m := m.front 1 rfl
   have m := m.eraseAt 1
   obtain rfl := sj hd
   exact ⟨[b2], ⟨f.get _ _ rfl, trivial⟩, f.defers, _, [b1], (GLe.trans af (GLe.trans am (GLe.trans ax bS))), m, _, _, rfl, rfl, b3⟩
  ·refine k_false f rfl bV ?_
   refine k_skip ?_
   refine k_seq (k_region ?_)
   refine l_mv f rfl rfl fun a f => l_as f rfl rfl fun a f => l_nil ?_
   refine k_ret ?_
   obtain rfl := sj hd
   exact ⟨[aG], ⟨f.get _ _ rfl, trivial⟩, f.defers, _, [aH], (GLe.trans af (GLe.trans am (GLe.trans ax bS))), m, _, _, rfl, rfl, bU⟩

theorem Wk.spec_l9Sorted {W w : World} {G : GH} {H : List Itm} {v0_0 : Value} {v0_1 : Value} {x0_0 : (List (List Int))} {x0_1 : (List (List Int))} (m : Mem W G w (H)) (h0_0 : RSl (RSl (RI .i64)) G v0_0 x0_0) (h0_1 : RSl (RSl (RI .i64)) G v0_1 x0_1) {y : ((List (List Int))) × ((List (List Int)))} (hd : D.spec_l9Sorted x0_0 x0_1 = some y) :
  Calls Tryz.prog 63 #[(.agg #[v0_0, v0_1])] w (Res W G H (fun G' Ho v => ∃ r0 : Value, ∃ i0 : Itm, ∃ r2 : Value, ∃ i2 : Itm, Ho = [i0, i2] ∧ v = (.agg #[r0, r2]) ∧ Ow (RSl (RI .i64)) 42 G' i0 r0 y.1 ∧ Ow (RSl (RI .i64)) 42 G' i2 r2 y.2)) := by
 refine calls_b (args := [(.agg #[v0_0, v0_1])]) (N := 51) [.cell 2 27] Tryz.func63 rfl rfl (Nat.le_of_ble_eq_true rfl) rfl fun a f => ?_
 unfold D.spec_l9Sorted at hd
 refine k_seq (k_region ?_)
 refine l_box (cs := [v0_0, v0_1]) m f rfl rfl rfl fun aa w a m f => l_alloc (cs := [(.slice none 0 0), (.slice none 0 0)]) Tryz.zeroValue27 m f rfl rfl fun ab w a m f => l_nil (k_seq (k_region ?_))
 have ac : ∀ w, (Instr.build 27 #[]).run Tryz.prog w = .ok (.agg #[(.slice none 0 0), (.slice none 0 0)]) w := by intro w; simp [Instr.build, Instr.fill, cells_int, cells_bool, cells_string, cells_slice, cells_pointer, cells_agg]
 refine l_build f rfl rfl ac fun a f => l_alloc (cs := [(.slice none 0 0), (.slice none 0 0)]) Tryz.zeroValue27 m f rfl rfl fun ad w a m f => l_boxStore 0 0 (ds := [(.slice none 0 0), (.slice none 0 0)]) m Tryz.sizeOf27 f rfl rfl rfl (ones_cons rfl (ones_cons rfl ones_nil)) rfl (Nat.le_of_ble_eq_true rfl) rfl fun w m => l_nil (k_seq (k_seq (k_region ?_)))
 refine l_as f rfl rfl fun a f => l_nil ?_
 obtain ⟨ae, m, af⟩ := Ow.nil (RSl (RI .i64)) 42 m
 obtain ⟨ag, ah, hd⟩ := bind_some hd
 refine k_cut (fun a w => ∃ ai : List (List Int), ai = ag ∧ ∃ (aj : GH) (ak : Value) (al : Itm), GLe G aj ∧ Fr a 51 [(1, (.pointer (some ⟨aa, 0, none⟩))), (2, (.pointer (some ⟨ab, 0, none⟩))), (3, (.pointer (some ⟨ad, 0, none⟩)))] ∧ Mem W aj w (Itm.box aa 27 [v0_0, v0_1] :: Itm.box ab 27 [(.slice none 0 0), (.slice none 0 0)] :: Itm.box ad 27 [ak, (.slice none 0 0)] :: al :: H) ∧ Ow (RSl (RI .i64)) 42 aj al ak ai) ?_ ?_
 ·refine k_block ?_
  have m := m.front 1 rfl
  have m := m.front 2 rfl
  have m : Mem W G w (Itm.box aa 27 [v0_0, v0_1] :: Itm.box ab 27 [(.slice none 0 0), (.slice none 0 0)] :: Itm.box ad 27 [(.slice none 0 0), (.slice none 0 0)] :: ae :: H) := m.front 3 rfl
  refine k_loop (fun am a w => ∃ an : Int, ∃ ao : List (List Int), (an, ao) = am ∧ ∃ (ap : GH) (aq : Value) (ar : Itm), GLe G ap ∧ Fr a 51 [(1, (.pointer (some ⟨aa, 0, none⟩))), (2, (.pointer (some ⟨ab, 0, none⟩))), (3, (.pointer (some ⟨ad, 0, none⟩))), (4, (.int .i64 an))] ∧ Mem W ap w (Itm.box aa 27 [v0_0, v0_1] :: Itm.box ab 27 [(.slice none 0 0), (.slice none 0 0)] :: Itm.box ad 27 [aq, (.slice none 0 0)] :: ar :: H) ∧ Ow (RSl (RI .i64)) 42 ap ar aq ao) ah ⟨_, _, rfl, _, (.slice none 0 0), ae, (GLe.refl _), f.weak ⟨rfl, rfl, rfl, rfl, trivial⟩, m, af⟩ ?_
  clear ah f m
  rintro am au av aw a w ⟨an, ao, rfl, ap, aq, ar, ax, f, m, ay⟩
  have h0_0 := rd2 ax h0_0
  have h0_1 := rd2 ax h0_1
  refine k_seq (k_seq (k_region ?_))
  refine l_mv f rfl rfl fun a f => l_fieldAddr Tryz.underlying27 rfl Tryz.sizeOf22 (by decide) f rfl rfl fun a f => l_boxCell 0 0 m Pl22 f rfl rfl rfl rfl fun a f => l_len Tryz.underlying22 f rfl rfl h0_0 fun a f => l_in f rfl rfl rfl b_lss fun a f => l_nil ?_
  rcases cond_some av with ⟨az, av⟩ | ⟨az, av⟩
  ·refine k_true f rfl az ?_
   refine k_skip ?_
   refine k_seq (k_block ?_)
   refine k_draw 9 Follows (by kernel_rfl) m ?_
   refine q_fieldAddr (i := 0) 9 Tryz.underlying27 rfl Tryz.sizeOf22 (by decide) rfl (by kernel_rfl) rfl f rfl rfl rfl fun a f => q_boxCell (i := 1) 9 2 Pl22 rfl rfl rfl (by kernel_rfl) rfl f rfl rfl rfl fun a f => q_fieldAddr (i := 2) 9 Tryz.underlying27 rfl Tryz.sizeOf22 (by decide) rfl (by kernel_rfl) rfl f rfl rfl rfl fun a f => q_boxCell (i := 3) 9 0 Pl22 rfl rfl rfl (by kernel_rfl) rfl f rfl rfl rfl fun a f => q_mv 4 9 rfl (by kernel_rfl) f rfl rfl rfl fun a f => ?_
   obtain ⟨aA, aB, av⟩ := bind_some av
   refine q_at (i := 5) 9 T22 h0_0 aB rfl (by kernel_rfl) rfl f rfl rfl rfl rfl fun aC aD a aE aF f => q_loadAt (i := 6) 9 Pl42 aE rfl (by kernel_rfl) rfl f rfl rfl rfl fun a f => q_one (i := 7) rfl (by kernel_rfl) rfl fun aG w aH m aI aI => ?_
   have h0_0 := rd2 aH h0_0
   have aE := At.mono aH aE
   have aF := rd1 aH aF
   have h0_1 := rd2 aH h0_1
   have ay := Ow.mono (RSl.mono (RI.mono _)) aH ay
   obtain ⟨aJ, aK, av⟩ := bind_some av
   refine l_res f rfl rfl Tryz.call69 (Wk.spec_l1Copy m aF aK) fun aL aM aN w aO m aP a f => ?_
   obtain ⟨aQ, aR, rfl, rfl, aS⟩ := aP
   have h0_0 := rd2 aO h0_0
   have aE := At.mono aO aE
   have aF := rd1 aO aF
   have h0_1 := rd2 aO h0_1
   have ay := Ow.mono (RSl.mono (RI.mono _)) aO ay
   refine l_nil ?_
   refine aI aM [aR] _ _ aO m ?_
   refine q_one (i := 8) rfl (by kernel_rfl) rfl fun aT w aU m aV aV => ?_
   have h0_0 := rd2 aU h0_0
   have aE := At.mono aU aE
   have aF := rd1 aU aF
   have aS := od1 aU aS
   have h0_1 := rd2 aU h0_1
   have ay := Ow.mono (RSl.mono (RI.mono _)) aU ay
   obtain ⟨aW, aX, m, aY⟩ := Ow.stamp (RI.mono _) aS m
   have h0_0 := rd2 aX h0_0
   have aE := At.mono aX aE
   have aF := rd1 aX aF
   have h0_1 := rd2 aX h0_1
   have ay := Ow.mono (RSl.mono (RI.mono _)) aX ay
   refine l_slit (R := (RSl (RI .i64))) (xs := ([aJ] : List (List Int))) (RSl.one _) m T22 f rfl rfl rfl (by decide) (All2.cons aY (All2.nil _)) fun aZ a0 w a m a1 f => l_nil ?_
   refine aV aW [aZ] _ _ aX m ?_
   refine q_end fun a2 w a3 m => ?_
   have h0_0 := rd2 a3 h0_0
   have aE := At.mono a3 aE
   have aF := rd1 a3 aF
   have aY := rd1 a3 aY
   have a1 := Ow.mono (RSl.mono (RI.mono _)) a3 a1
   have h0_1 := rd2 a3 h0_1
   have ay := Ow.mono (RSl.mono (RI.mono _)) a3 ay
   obtain ⟨a4, a5, av⟩ := bind_some av
   refine l_append (RSl.one _) 4 m ay rfl T22 rfl (by decide) f rfl rfl rfl (Ow.src (j := 0) a1 m rfl) a5 fun a6 a7 w a m a8 f => l_fieldAddr Tryz.underlying27 rfl Tryz.sizeOf22 (by decide) f rfl rfl fun a f => l_boxStore 3 0 (ds := [a7]) m Tryz.sizeOf22 f rfl rfl (Ow.cells 4 m a8 rfl) (ones_cons (Ow.one1 4 m a8 rfl) ones_nil) rfl (Nat.le_of_ble_eq_true rfl) rfl fun w m => l_nil (k_region ?_)
   refine l_mv f rfl rfl fun a f => l_in f rfl rfl rfl b_add fun a f => l_as f rfl rfl fun a f => l_nil ?_
   have m := m.front 4 rfl
   have m := m.front 4 rfl
   have m : Mem W a2 w (Itm.box ab 27 [(.slice none 0 0), (.slice none 0 0)] :: Itm.box ad 27 [a7, (.slice none 0 0)] :: a6 :: aZ :: Itm.box aa 27 [v0_0, v0_1] :: H) := m.front 4 rfl
   have m := m.front 4 rfl
   have m : Mem W a2 w (Itm.box aa 27 [v0_0, v0_1] :: Itm.box ab 27 [(.slice none 0 0), (.slice none 0 0)] :: Itm.box ad 27 [a7, (.slice none 0 0)] :: a6 :: H) := m.eraseAt 4
   obtain rfl := sj av
   exact ⟨_, rfl, _, _, rfl, _, a7, a6, (GLe.trans ax (GLe.trans aH (GLe.trans aO (GLe.trans aU (GLe.trans aX a3))))), f.weak ⟨rfl, rfl, rfl, rfl, trivial⟩, m, a8⟩
  ·refine k_false f rfl az ?_
   refine k_exit rfl ?_
   obtain rfl := sj av
   obtain rfl := aw _ rfl
   exact ⟨_, rfl, _, aq, ar, ax, f.weak ⟨rfl, rfl, rfl, trivial⟩, m, ay⟩
 ·rintro a w ⟨ai, rfl, aj, ak, al, a9, f, m, ba⟩
  have h0_0 := rd2 a9 h0_0
  have h0_1 := rd2 a9 h0_1
  refine k_seq (k_seq (k_region ?_))
  refine l_as f rfl rfl fun a f => l_nil ?_
  obtain ⟨bb, m, bc⟩ := Ow.nil (RSl (RI .i64)) 42 m
  obtain ⟨bd, be, hd⟩ := bind_some hd
  refine k_cut (fun a w => ∃ bf : List (List Int), bf = bd ∧ ∃ (bg : GH) (bh : Value) (bi : Itm), GLe aj bg ∧ Fr a 51 [(2, (.pointer (some ⟨ab, 0, none⟩))), (3, (.pointer (some ⟨ad, 0, none⟩)))] ∧ Mem W bg w (Itm.box ab 27 [(.slice none 0 0), (.slice none 0 0)] :: Itm.box ad 27 [ak, bh] :: al :: bi :: H) ∧ Ow (RSl (RI .i64)) 42 bg bi bh bf) ?_ ?_
  ·refine k_block ?_
   have m := m.front 4 rfl
   have m := m.front 4 rfl
   have m : Mem W aj w (Itm.box ab 27 [(.slice none 0 0), (.slice none 0 0)] :: Itm.box ad 27 [ak, (.slice none 0 0)] :: al :: bb :: Itm.box aa 27 [v0_0, v0_1] :: H) := m.front 4 rfl
   have m : Mem W aj w (Itm.box aa 27 [v0_0, v0_1] :: Itm.box ab 27 [(.slice none 0 0), (.slice none 0 0)] :: Itm.box ad 27 [ak, (.slice none 0 0)] :: al :: bb :: H) := m.front 4 rfl
   refine k_loop (fun bj a w => ∃ bk : Int, ∃ bl : List (List Int), (bk, bl) = bj ∧ ∃ (bm : GH) (bn : Value) (bo : Itm), GLe aj bm ∧ Fr a 51 [(1, (.pointer (some ⟨aa, 0, none⟩))), (2, (.pointer (some ⟨ab, 0, none⟩))), (3, (.pointer (some ⟨ad, 0, none⟩))), (5, (.int .i64 bk))] ∧ Mem W bm w (Itm.box aa 27 [v0_0, v0_1] :: Itm.box ab 27 [(.slice none 0 0), (.slice none 0 0)] :: Itm.box ad 27 [ak, bn] :: al :: bo :: H) ∧ Ow (RSl (RI .i64)) 42 bm bo bn bl) be ⟨_, _, rfl, _, (.slice none 0 0), bb, (GLe.refl _), f.weak ⟨rfl, rfl, rfl, rfl, trivial⟩, m, bc⟩ ?_
   clear be f m
   rintro bj bp bq br a w ⟨bk, bl, rfl, bm, bn, bo, bs, f, m, bt⟩
   have h0_0 := rd2 bs h0_0
   have h0_1 := rd2 bs h0_1
   have ba := Ow.mono (RSl.mono (RI.mono _)) bs ba
   refine k_seq (k_seq (k_region ?_))
   refine l_mv f rfl rfl fun a f => l_fieldAddr Tryz.underlying27 rfl Tryz.sizeOf22 (by decide) f rfl rfl fun a f => l_boxCell 0 1 m Pl22 f rfl rfl rfl rfl fun a f => l_len Tryz.underlying22 f rfl rfl h0_1 fun a f => l_in f rfl rfl rfl b_lss fun a f => l_nil ?_
   rcases cond_some bq with ⟨bu, bq⟩ | ⟨bu, bq⟩
   ·refine k_true f rfl bu ?_
    refine k_skip ?_
    refine k_seq (k_block ?_)
    have m : Mem W bm w (bo :: Itm.box aa 27 [v0_0, v0_1] :: Itm.box ab 27 [(.slice none 0 0), (.slice none 0 0)] :: Itm.box ad 27 [ak, bn] :: al :: H) := m.front 4 rfl
    obtain ⟨bv, bw, m, bx⟩ := Ow.stamp (RSl.mono (RI.mono _)) bt m
    have h0_0 := rd2 bw h0_0
    have h0_1 := rd2 bw h0_1
    have ba := Ow.mono (RSl.mono (RI.mono _)) bw ba
    refine k_draw 18 Follows (by kernel_rfl) m ?_
    refine q_fieldAddr (i := 0) 18 Tryz.underlying27 rfl Tryz.sizeOf22 (by decide) rfl (by kernel_rfl) rfl f rfl rfl rfl fun a f => q_boxCell (i := 1) 18 2 Pl22 rfl rfl rfl (by kernel_rfl) rfl f rfl rfl rfl fun a f => q_fieldAddr (i := 2) 18 Tryz.underlying27 rfl Tryz.sizeOf22 (by decide) rfl (by kernel_rfl) rfl f rfl rfl rfl fun a f => q_boxCell (i := 3) 18 0 Pl22 rfl rfl rfl (by kernel_rfl) rfl f rfl rfl rfl fun a f => q_mv 4 18 rfl (by kernel_rfl) f rfl rfl rfl fun a f => ?_
    obtain ⟨bz, bA, bq⟩ := bind_some bq
    refine q_at (i := 5) 18 T22 h0_1 bA rfl (by kernel_rfl) rfl f rfl rfl rfl rfl fun bB bC a bD bE f => q_loadAt (i := 6) 18 Pl42 bD rfl (by kernel_rfl) rfl f rfl rfl rfl fun a f => ?_
    obtain ⟨bF, bG, bq⟩ := bind_some bq
    refine q_at (i := 7) 18 T42 bE bG rfl (by kernel_rfl) rfl f rfl rfl rfl rfl fun bH bI a bJ bK f => ?_
    subst bK
    refine q_loadAt (i := 8) 18 Pl2 bJ rfl (by kernel_rfl) rfl f rfl rfl rfl fun a f => q_fieldAddr (i := 9) 18 Tryz.underlying27 rfl Tryz.sizeOf22 (by decide) rfl (by kernel_rfl) rfl f rfl rfl rfl fun a f => q_boxCell (i := 10) 18 0 Pl22 rfl rfl rfl (by kernel_rfl) rfl f rfl rfl rfl fun a f => q_mv 11 18 rfl (by kernel_rfl) f rfl rfl rfl fun a f => ?_
    obtain ⟨bL, bM, bq⟩ := bind_some bq
    refine q_at (i := 12) 18 T22 h0_1 bM rfl (by kernel_rfl) rfl f rfl rfl rfl rfl fun bN bO a bP bQ f => q_loadAt (i := 13) 18 Pl42 bP rfl (by kernel_rfl) rfl f rfl rfl rfl fun a f => ?_
    obtain ⟨bR, bS, bq⟩ := bind_some bq
    refine q_at (i := 14) 18 T42 bQ bS rfl (by kernel_rfl) rfl f rfl rfl rfl rfl fun bT bU a bV bW f => ?_
    subst bW
    refine q_loadAt (i := 15) 18 Pl2 bV rfl (by kernel_rfl) rfl f rfl rfl rfl fun a f => q_one (i := 16) rfl (by kernel_rfl) rfl fun bX w bY m bZ bZ => ?_
    have bx := rd2 bY bx
    have h0_1 := rd2 bY h0_1
    have bD := At.mono bY bD
    have bE := rd1 bY bE
    have bJ := At.mono bY bJ
    have bP := At.mono bY bP
    have bQ := rd1 bY bQ
    have bV := At.mono bY bV
    have h0_0 := rd2 bY h0_0
    have ba := Ow.mono (RSl.mono (RI.mono _)) bY ba
    obtain ⟨b0, b1, bq⟩ := bind_some bq
    refine l_res f rfl rfl Tryz.call46 (Wk.spec_l9Link m bx b1) fun b2 b3 b4 w b5 m b6 a f => ?_
    obtain ⟨b7, b8, rfl, rfl, b9⟩ := b6
    have bx := rd2 b5 bx
    have h0_1 := rd2 b5 h0_1
    have bD := At.mono b5 bD
    have bE := rd1 b5 bE
    have bJ := At.mono b5 bJ
    have bP := At.mono b5 bP
    have bQ := rd1 b5 bQ
    have bV := At.mono b5 bV
    have h0_0 := rd2 b5 h0_0
    have ba := Ow.mono (RSl.mono (RI.mono _)) b5 ba
    refine l_nil ?_
    refine bZ b3 [b8] _ _ b5 m ?_
    refine q_fieldAddr (i := 17) 18 Tryz.underlying27 rfl Tryz.sizeOf22 (by decide) rfl (by kernel_rfl) rfl f rfl rfl rfl fun a f => q_end fun ca w cb m => ?_
    have bx := rd2 cb bx
    have h0_1 := rd2 cb h0_1
    have bD := At.mono cb bD
    have bE := rd1 cb bE
    have bJ := At.mono cb bJ
    have bP := At.mono cb bP
    have bQ := rd1 cb bQ
    have bV := At.mono cb bV
    have b9 := Ow.mono (RSl.mono (RI.mono _)) cb b9
    have h0_0 := rd2 cb h0_0
    have ba := Ow.mono (RSl.mono (RI.mono _)) cb ba
    refine l_boxStore 3 1 (ds := [b7]) m Tryz.sizeOf22 f rfl rfl (Ow.cells 0 m b9 rfl) (ones_cons (Ow.one1 0 m b9 rfl) ones_nil) rfl (Nat.le_of_ble_eq_true rfl) rfl fun w m => l_nil (k_region ?_)
    refine l_mv f rfl rfl fun a f => l_in f rfl rfl rfl b_add fun a f => l_as f rfl rfl fun a f => l_nil ?_
    have m := m.front 4 rfl
    have m := m.front 4 rfl
    have m : Mem W ca w (Itm.box ab 27 [(.slice none 0 0), (.slice none 0 0)] :: Itm.box ad 27 [ak, b7] :: al :: b8 :: Itm.box aa 27 [v0_0, v0_1] :: H) := m.front 4 rfl
    have m : Mem W ca w (Itm.box aa 27 [v0_0, v0_1] :: Itm.box ab 27 [(.slice none 0 0), (.slice none 0 0)] :: Itm.box ad 27 [ak, b7] :: al :: b8 :: H) := m.front 4 rfl
    obtain rfl := sj bq
    exact ⟨_, rfl, _, _, rfl, _, b7, b8, (GLe.trans bs (GLe.trans bw (GLe.trans bY (GLe.trans b5 cb)))), f.weak ⟨rfl, rfl, rfl, rfl, trivial⟩, m, b9⟩
   ·refine k_false f rfl bu ?_
    refine k_exit rfl ?_
    have m := m.front 4 rfl
    have m := m.front 4 rfl
    have m : Mem W bm w (Itm.box ad 27 [ak, bn] :: al :: bo :: Itm.box aa 27 [v0_0, v0_1] :: Itm.box ab 27 [(.slice none 0 0), (.slice none 0 0)] :: H) := m.front 4 rfl
    have m := m.front 4 rfl
    have m : Mem W bm w (Itm.box ab 27 [(.slice none 0 0), (.slice none 0 0)] :: Itm.box ad 27 [ak, bn] :: al :: bo :: H) := m.eraseAt 4
    obtain rfl := sj bq
    obtain rfl := br _ rfl
    exact ⟨_, rfl, _, bn, bo, bs, f.weak ⟨rfl, rfl, trivial⟩, m, bt⟩
  ·rintro a w ⟨bf, rfl, bg, bh, bi, cc, f, m, cd⟩
   have ba := Ow.mono (RSl.mono (RI.mono _)) cc ba
   refine k_seq (k_region ?_)
   refine l_boxAgg 1 0 (ds := [ak, bh]) m Ag27 f rfl rfl rfl rfl rfl fun a f => l_boxStore 0 0 (ds := [ak, bh]) m Tryz.sizeOf27 f rfl rfl rfl (ones_cons (Ow.one1 2 m ba rfl) (ones_cons (Ow.one1 3 m cd rfl) ones_nil)) rfl (Nat.le_of_ble_eq_true rfl) rfl fun w m => l_nil ?_
   refine k_ret ?_
   have ce := rr_agg (P := Tryz.prog) 0 m Ag27 f (s := 2) rfl rfl rfl
   have m := m.front 3 rfl
   have m := m.front 3 rfl
   have m : Mem W bg w (al :: bi :: Itm.box ab 27 [ak, bh] :: H) := m.eraseAt 3
   have m := m.eraseAt 2
   obtain rfl := sj hd
   exact ⟨[(.agg #[ak, bh])], ⟨ce, trivial⟩, f.defers, _, [al, bi], (GLe.trans a9 cc), m, _, _, _, _, rfl, rfl, ba, cd⟩

theorem Wk.spec_l9Spare {W w : World} {G : GH} {H : List Itm} {v0_0 : Value} {v0_1 : Value} {x0_0 : (List (List Int))} {x0_1 : (List (List Int))} (m : Mem W G w (H)) (h0_0 : RSl (RSl (RI .i64)) G v0_0 x0_0) (h0_1 : RSl (RSl (RI .i64)) G v0_1 x0_1) {y : Int × Int} (hd : D.spec_l9Spare x0_0 x0_1 = some y) :
  Calls Tryz.prog 64 #[(.agg #[v0_0, v0_1])] w (Res W G H (fun _ Ho v => Ho = [] ∧ v = .tuple #[(.int .i64 y.1), (.int .i64 y.2)])) := by
 refine calls_b (args := [(.agg #[v0_0, v0_1])]) (N := 54) [.tmp 2, .tmp 3] Tryz.func64 rfl rfl (Nat.le_of_ble_eq_true rfl) rfl fun a f => ?_
 unfold D.spec_l9Spare at hd
 refine k_seq (k_region ?_)
 refine l_box (cs := [v0_0, v0_1]) m f rfl rfl rfl fun aa w a m f => l_as f rfl rfl fun a f => l_as f rfl rfl fun a f => l_nil (k_seq (k_seq (k_region ?_)))
 refine l_as f rfl rfl fun a f => l_nil ?_
 obtain ⟨ab, ac, hd⟩ := bind_some hd
 refine k_cut (fun a w => ∃ q_127' : Unit, ab = .inl q_127' ∧ ∃ (ad : GH), GLe G ad ∧ Fr a 54 [] ∧ Mem W ad w (H)) ?_ ?_
 ·refine k_block ?_
  refine k_loop (fun ae a w => ∃ af : Int, af = ae ∧ ∃ (ag : GH), GLe G ag ∧ Fr a 54 [(1, (.pointer (some ⟨aa, 0, none⟩))), (4, (.int .i64 af))] ∧ Mem W ag w (Itm.box aa 27 [v0_0, v0_1] :: H)) ac ⟨_, rfl, _, (GLe.refl _), f.weak ⟨rfl, rfl, trivial⟩, m⟩ ?_
  clear ac f m
  rintro ae ah ai aj a w ⟨af, rfl, ag, ak, f, m⟩
  have h0_0 := rd2 ak h0_0
  have h0_1 := rd2 ak h0_1
  refine k_seq (k_seq (k_region ?_))
  refine l_mv f rfl rfl fun a f => l_fieldAddr Tryz.underlying27 rfl Tryz.sizeOf22 (by decide) f rfl rfl fun a f => l_boxCell 0 1 m Pl22 f rfl rfl rfl rfl fun a f => l_len Tryz.underlying22 f rfl rfl h0_1 fun a f => l_in f rfl rfl rfl b_lss fun a f => l_nil ?_
  rcases cond_some ai with ⟨al, ai⟩ | ⟨al, ai⟩
  ·refine k_true f rfl al ?_
   refine k_skip ?_
   refine k_seq (k_block (k_seq (k_region ?_)))
   refine l_fieldAddr Tryz.underlying27 rfl Tryz.sizeOf22 (by decide) f rfl rfl fun a f => l_boxCell 0 1 m Pl22 f rfl rfl rfl rfl fun a f => l_mv f rfl rfl fun a f => ?_
   obtain ⟨am, an, ai⟩ := bind_some ai
   refine l_at T22 f rfl rfl rfl h0_1 an fun ao ap a aq ar f => l_loadAt m Pl42 f rfl rfl aq fun a f => ?_
   obtain ⟨au, av, ai⟩ := bind_some ai
   refine l_at T42 f rfl rfl rfl ar av fun aw ax a ay az f => ?_
   subst az
   refine l_loadAt m Pl2 f rfl rfl ay fun a f => l_as f rfl rfl fun a f => l_nil (k_seq (k_region ?_))
   refine l_fieldAddr Tryz.underlying27 rfl Tryz.sizeOf22 (by decide) f rfl rfl fun a f => l_boxCell 0 1 m Pl22 f rfl rfl rfl rfl fun a f => l_mv f rfl rfl fun a f => ?_
   obtain ⟨aA, aB, ai⟩ := bind_some ai
   refine l_at T22 f rfl rfl rfl h0_1 aB fun aC aD a aE aF f => l_loadAt m Pl42 f rfl rfl aE fun a f => ?_
   obtain ⟨aG, aH, ai⟩ := bind_some ai
   refine l_at T42 f rfl rfl rfl aF aH fun aI aJ a aK aL f => ?_
   subst aL
   refine l_loadAt m Pl2 f rfl rfl aK fun a f => l_as f rfl rfl fun a f => l_nil (k_seq (k_seq ?_))
   refine k_draw 11 Follows (by kernel_rfl) m ?_
   refine q_fieldAddr (i := 0) 11 Tryz.underlying27 rfl Tryz.sizeOf22 (by decide) rfl (by kernel_rfl) rfl f rfl rfl rfl fun a f => q_boxCell (i := 1) 11 0 Pl22 rfl rfl rfl (by kernel_rfl) rfl f rfl rfl rfl fun a f => q_mv 2 11 rfl (by kernel_rfl) f rfl rfl rfl fun a f => ?_
   obtain ⟨aM, aN, ai⟩ := bind_some ai
   refine q_at (i := 3) 11 T22 h0_0 aN rfl (by kernel_rfl) rfl f rfl rfl rfl rfl fun aO aP a aQ aR f => q_loadAt (i := 4) 11 Pl42 aQ rfl (by kernel_rfl) rfl f rfl rfl rfl fun a f => q_fieldAddr (i := 5) 11 Tryz.underlying27 rfl Tryz.sizeOf22 (by decide) rfl (by kernel_rfl) rfl f rfl rfl rfl fun a f => q_boxCell (i := 6) 11 0 Pl22 rfl rfl rfl (by kernel_rfl) rfl f rfl rfl rfl fun a f => q_mv 7 11 rfl (by kernel_rfl) f rfl rfl rfl fun a f => ?_
   obtain ⟨aS, aT, ai⟩ := bind_some ai
   refine q_at (i := 8) 11 T22 h0_0 aT rfl (by kernel_rfl) rfl f rfl rfl rfl rfl fun aU aV a aW aX f => q_loadAt (i := 9) 11 Pl42 aW rfl (by kernel_rfl) rfl f rfl rfl rfl fun a f => ?_
   obtain ⟨aY, aZ, ai⟩ := bind_some ai
   refine q_call (i := 10) 11 rfl (by kernel_rfl) rfl f rfl rfl rfl Tryz.call126 (fun _ _ w a0 m => Wk.spec_l9Part m (rd1 a0 aR) (rd1 a0 aX) aZ) fun a f => q_end fun a1 w a2 m => ?_
   have h0_0 := rd2 a2 h0_0
   have aQ := At.mono a2 aQ
   have aR := rd1 a2 aR
   have aW := At.mono a2 aW
   have aX := rd1 a2 aX
   have h0_1 := rd2 a2 h0_1
   refine l_nil ?_
   rcases cond_some ai with ⟨a3, ai⟩ | ⟨a3, ai⟩
   ·refine k_true f rfl a3 ?_
    refine k_seq (k_region ?_)
    refine l_mv f rfl rfl fun a f => l_mv f rfl rfl fun a f => l_as f rfl rfl fun a f => l_as f rfl rfl fun a f => l_nil ?_
    refine k_ret ?_
    have m : Mem W a1 w H := Mem.drop (H' := [Itm.box aa 27 [v0_0, v0_1]]) m
    obtain rfl := sj ai
    obtain rfl := aj _ rfl
    obtain rfl := sj hd
    exact ⟨[(.int .i64 aG), (.int .i64 au)], ⟨f.get _ _ rfl, f.get _ _ rfl, trivial⟩, f.defers, _, [], (GLe.trans ak a2), m, rfl, rfl⟩
   ·refine k_false f rfl a3 ?_
    refine k_skip ?_
    refine k_seq ?_
    refine k_draw 11 Follows (by kernel_rfl) m ?_
    refine q_fieldAddr (i := 0) 11 Tryz.underlying27 rfl Tryz.sizeOf22 (by decide) rfl (by kernel_rfl) rfl f rfl rfl rfl fun a f => q_boxCell (i := 1) 11 0 Pl22 rfl rfl rfl (by kernel_rfl) rfl f rfl rfl rfl fun a f => q_mv 2 11 rfl (by kernel_rfl) f rfl rfl rfl fun a f => ?_
    obtain ⟨a4, a5, ai⟩ := bind_some ai
    refine q_at (i := 3) 11 T22 h0_0 a5 rfl (by kernel_rfl) rfl f rfl rfl rfl rfl fun a6 a7 a a8 a9 f => q_loadAt (i := 4) 11 Pl42 a8 rfl (by kernel_rfl) rfl f rfl rfl rfl fun a f => q_fieldAddr (i := 5) 11 Tryz.underlying27 rfl Tryz.sizeOf22 (by decide) rfl (by kernel_rfl) rfl f rfl rfl rfl fun a f => q_boxCell (i := 6) 11 0 Pl22 rfl rfl rfl (by kernel_rfl) rfl f rfl rfl rfl fun a f => q_mv 7 11 rfl (by kernel_rfl) f rfl rfl rfl fun a f => ?_
    obtain ⟨ba, bb, ai⟩ := bind_some ai
    refine q_at (i := 8) 11 T22 h0_0 bb rfl (by kernel_rfl) rfl f rfl rfl rfl rfl fun bc bd a be bf f => q_loadAt (i := 9) 11 Pl42 be rfl (by kernel_rfl) rfl f rfl rfl rfl fun a f => ?_
    obtain ⟨bg, bh, ai⟩ := bind_some ai
    refine q_call (i := 10) 11 rfl (by kernel_rfl) rfl f rfl rfl rfl Tryz.call126 (fun _ _ w bi m => Wk.spec_l9Part m (rd1 bi a9) (rd1 bi bf) bh) fun a f => q_end fun bj w bk m => ?_
    have h0_0 := rd2 bk h0_0
    have a8 := At.mono bk a8
    have a9 := rd1 bk a9
    have be := At.mono bk be
    have bf := rd1 bk bf
    have h0_1 := rd2 bk h0_1
    refine l_nil ?_
    rcases cond_some ai with ⟨bl, ai⟩ | ⟨bl, ai⟩
    ·refine k_true f rfl bl ?_
     refine k_seq (k_region ?_)
     refine l_mv f rfl rfl fun a f => l_mv f rfl rfl fun a f => l_as f rfl rfl fun a f => l_as f rfl rfl fun a f => l_nil ?_
     refine k_ret ?_
     have m : Mem W bj w H := Mem.drop (H' := [Itm.box aa 27 [v0_0, v0_1]]) m
     obtain rfl := sj ai
     obtain rfl := aj _ rfl
     obtain rfl := sj hd
     exact ⟨[(.int .i64 au), (.int .i64 aG)], ⟨f.get _ _ rfl, f.get _ _ rfl, trivial⟩, f.defers, _, [], (GLe.trans ak (GLe.trans a2 bk)), m, rfl, rfl⟩
    ·refine k_false f rfl bl ?_
     refine k_skip ?_
     refine k_region ?_
     refine l_mv f rfl rfl fun a f => l_in f rfl rfl rfl b_add fun a f => l_as f rfl rfl fun a f => l_nil ?_
     obtain rfl := sj ai
     exact ⟨_, rfl, _, rfl, _, (GLe.trans ak (GLe.trans a2 bk)), f.weak ⟨rfl, rfl, trivial⟩, m⟩
  ·refine k_false f rfl al ?_
   refine k_exit rfl ?_
   have m : Mem W ag w H := Mem.drop (H' := [Itm.box aa 27 [v0_0, v0_1]]) m
   obtain rfl := sj ai
   obtain rfl := aj _ rfl
   exact ⟨_, rfl, _, ak, f.weak trivial, m⟩
 ·rintro a w ⟨_, rfl, ad, bm, f, m⟩
  refine k_seq (k_region ?_)
  refine l_as f rfl rfl fun a f => l_as f rfl rfl fun a f => l_nil ?_
  refine k_ret ?_
  obtain rfl := sj hd
  exact ⟨[(.int .i64 (-1)), (.int .i64 (-1))], ⟨f.get _ _ rfl, f.get _ _ rfl, trivial⟩, f.defers, _, [], bm, m, rfl, rfl⟩

theorem Wk.spec_l1Flag {W w : World} {G : GH} {H : List Itm} {x0 : Bool} (m : Mem W G w (H))  {y : Int} (hd : D.spec_l1Flag x0 = some y) :
  Calls Tryz.prog 127 #[(.bool x0)] w (Res W G H (fun _ Ho v => Ho = [] ∧ v = (.int .i64 y))) := by
 refine calls_b (args := [(.bool x0)]) (N := 4) [.tmp 2] Tryz.func127 rfl rfl (Nat.le_of_ble_eq_true rfl) rfl fun a f => ?_
 unfold D.spec_l1Flag at hd
 refine k_seq (k_region ?_)
 refine l_as f rfl rfl fun a f => l_nil (k_seq (k_seq (k_region ?_)))
 refine l_mv f rfl rfl fun a f => l_nil ?_
 rcases cond_some hd with ⟨aa, hd⟩ | ⟨aa, hd⟩
 ·refine k_true f rfl aa ?_
  refine k_seq (k_region ?_)
  refine l_as f rfl rfl fun a f => l_nil ?_
  refine k_ret ?_
  obtain rfl := sj hd
  exact ⟨[(.int .i64 1)], ⟨f.get _ _ rfl, trivial⟩, f.defers, _, [], (GLe.refl _), m, rfl, rfl⟩
 ·refine k_false f rfl aa ?_
  refine k_skip ?_
  refine k_seq (k_region ?_)
  refine l_as f rfl rfl fun a f => l_nil ?_
  refine k_ret ?_
  obtain rfl := sj hd
  exact ⟨[(.int .i64 0)], ⟨f.get _ _ rfl, trivial⟩, f.defers, _, [], (GLe.refl _), m, rfl, rfl⟩

theorem Wk.spec_l9Merge {W w : World} {G : GH} {H : List Itm} {v0_0 : Value} {v0_1 : Value} {x0_0 : (List (List Int))} {x0_1 : (List (List Int))} {x1 : Int} {x2 : Int} (m : Mem W G w (H)) (h0_0 : RSl (RSl (RI .i64)) G v0_0 x0_0) (h0_1 : RSl (RSl (RI .i64)) G v0_1 x0_1) {y : ((List (List Int))) × ((List (List Int)))} (hd : D.spec_l9Merge x0_0 x0_1 x1 x2 = some y) :
  Calls Tryz.prog 65 #[(.agg #[v0_0, v0_1]), (.int .i64 x1), (.int .i64 x2)] w (Res W G H (fun G' Ho v => ∃ r0 : Value, ∃ i0 : Itm, ∃ r2 : Value, ∃ i2 : Itm, Ho = [i0, i2] ∧ v = (.agg #[r0, r2]) ∧ Ow (RSl (RI .i64)) 42 G' i0 r0 y.1 ∧ Ow (RSl (RI .i64)) 42 G' i2 r2 y.2)) := by
 refine calls_b (args := [(.agg #[v0_0, v0_1]), (.int .i64 x1), (.int .i64 x2)]) (N := 83) [.cell 6 27] Tryz.func65 rfl rfl (Nat.le_of_ble_eq_true rfl) rfl fun a f => ?_
 unfold D.spec_l9Merge at hd
 refine k_seq (k_region ?_)
 refine l_box (cs := [v0_0, v0_1]) m f rfl rfl rfl fun aa w a m f => l_alloc (cs := [(.slice none 0 0), (.slice none 0 0)]) Tryz.zeroValue27 m f rfl rfl fun ab w a m f => l_nil (k_seq (k_region ?_))
 have ac : ∀ w, (Instr.build 27 #[]).run Tryz.prog w = .ok (.agg #[(.slice none 0 0), (.slice none 0 0)]) w := by intro w; simp [Instr.build, Instr.fill, cells_int, cells_bool, cells_string, cells_slice, cells_pointer, cells_agg]
 refine l_build f rfl rfl ac fun a f => l_alloc (cs := [(.slice none 0 0), (.slice none 0 0)]) Tryz.zeroValue27 m f rfl rfl fun ad w a m f => l_boxStore 0 0 (ds := [(.slice none 0 0), (.slice none 0 0)]) m Tryz.sizeOf27 f rfl rfl rfl (ones_cons rfl (ones_cons rfl ones_nil)) rfl (Nat.le_of_ble_eq_true rfl) rfl fun w m => l_nil (k_seq (k_seq (k_region ?_)))
 refine l_as f rfl rfl fun a f => l_nil ?_
 obtain ⟨ae, m, af⟩ := Ow.nil (RSl (RI .i64)) 42 m
 obtain ⟨ag, ah, hd⟩ := bind_some hd
 refine k_cut (fun a w => ∃ ai : List (List Int), ai = ag ∧ ∃ (aj : GH) (ak : Value) (al : Itm), GLe G aj ∧ Fr a 83 [(1, (.int .i64 x1)), (2, (.int .i64 x2)), (3, (.pointer (some ⟨aa, 0, none⟩))), (6, (.pointer (some ⟨ab, 0, none⟩))), (7, (.pointer (some ⟨ad, 0, none⟩)))] ∧ Mem W aj w (Itm.box aa 27 [v0_0, v0_1] :: Itm.box ab 27 [(.slice none 0 0), (.slice none 0 0)] :: Itm.box ad 27 [ak, (.slice none 0 0)] :: al :: H) ∧ Ow (RSl (RI .i64)) 42 aj al ak ai) ?_ ?_
 ·refine k_block ?_
  have m := m.front 1 rfl
  have m := m.front 2 rfl
  have m : Mem W G w (Itm.box aa 27 [v0_0, v0_1] :: Itm.box ab 27 [(.slice none 0 0), (.slice none 0 0)] :: Itm.box ad 27 [(.slice none 0 0), (.slice none 0 0)] :: ae :: H) := m.front 3 rfl
  refine k_loop (fun am a w => ∃ an : Int, ∃ ao : List (List Int), (an, ao) = am ∧ ∃ (ap : GH) (aq : Value) (ar : Itm), GLe G ap ∧ Fr a 83 [(1, (.int .i64 x1)), (2, (.int .i64 x2)), (3, (.pointer (some ⟨aa, 0, none⟩))), (6, (.pointer (some ⟨ab, 0, none⟩))), (7, (.pointer (some ⟨ad, 0, none⟩))), (8, (.int .i64 an))] ∧ Mem W ap w (Itm.box aa 27 [v0_0, v0_1] :: Itm.box ab 27 [(.slice none 0 0), (.slice none 0 0)] :: Itm.box ad 27 [aq, (.slice none 0 0)] :: ar :: H) ∧ Ow (RSl (RI .i64)) 42 ap ar aq ao) ah ⟨_, _, rfl, _, (.slice none 0 0), ae, (GLe.refl _), f.weak ⟨rfl, rfl, rfl, rfl, rfl, rfl, trivial⟩, m, af⟩ ?_
  clear ah f m
  rintro am au av aw a w ⟨an, ao, rfl, ap, aq, ar, ax, f, m, ay⟩
  have h0_0 := rd2 ax h0_0
  have h0_1 := rd2 ax h0_1
  refine k_seq (k_seq (k_region ?_))
  refine l_mv f rfl rfl fun a f => l_fieldAddr Tryz.underlying27 rfl Tryz.sizeOf22 (by decide) f rfl rfl fun a f => l_boxCell 0 0 m Pl22 f rfl rfl rfl rfl fun a f => l_len Tryz.underlying22 f rfl rfl h0_0 fun a f => l_in f rfl rfl rfl b_lss fun a f => l_nil ?_
  rcases cond_some av with ⟨az, av⟩ | ⟨az, av⟩
  ·refine k_true f rfl az ?_
   refine k_skip ?_
   refine k_seq (k_block (k_seq (k_region ?_)))
   refine l_mv f rfl rfl fun a f => l_mv f rfl rfl fun a f => l_in f rfl rfl rfl b_neq fun a f => l_nil ?_
   rcases cond_some av with ⟨aA, av⟩ | ⟨aA, av⟩
   ·refine k_true f rfl aA ?_
    refine k_draw 9 Follows (by kernel_rfl) m ?_
    refine q_fieldAddr (i := 0) 9 Tryz.underlying27 rfl Tryz.sizeOf22 (by decide) rfl (by kernel_rfl) rfl f rfl rfl rfl fun a f => q_boxCell (i := 1) 9 2 Pl22 rfl rfl rfl (by kernel_rfl) rfl f rfl rfl rfl fun a f => q_fieldAddr (i := 2) 9 Tryz.underlying27 rfl Tryz.sizeOf22 (by decide) rfl (by kernel_rfl) rfl f rfl rfl rfl fun a f => q_boxCell (i := 3) 9 0 Pl22 rfl rfl rfl (by kernel_rfl) rfl f rfl rfl rfl fun a f => q_mv 4 9 rfl (by kernel_rfl) f rfl rfl rfl fun a f => ?_
    obtain ⟨aB, aC, av⟩ := bind_some av
    refine q_at (i := 5) 9 T22 h0_0 aC rfl (by kernel_rfl) rfl f rfl rfl rfl rfl fun aD aE a aF aG f => q_loadAt (i := 6) 9 Pl42 aF rfl (by kernel_rfl) rfl f rfl rfl rfl fun a f => q_one (i := 7) rfl (by kernel_rfl) rfl fun aH w aI m aJ aJ => ?_
    have h0_0 := rd2 aI h0_0
    have aF := At.mono aI aF
    have aG := rd1 aI aG
    have h0_1 := rd2 aI h0_1
    have ay := Ow.mono (RSl.mono (RI.mono _)) aI ay
    obtain ⟨aK, aL, av⟩ := bind_some av
    refine l_res f rfl rfl Tryz.call69 (Wk.spec_l1Copy m aG aL) fun aM aN aO w aP m aQ a f => ?_
    obtain ⟨aR, aS, rfl, rfl, aT⟩ := aQ
    have h0_0 := rd2 aP h0_0
    have aF := At.mono aP aF
    have aG := rd1 aP aG
    have h0_1 := rd2 aP h0_1
    have ay := Ow.mono (RSl.mono (RI.mono _)) aP ay
    refine l_nil ?_
    refine aJ aN [aS] _ _ aP m ?_
    refine q_one (i := 8) rfl (by kernel_rfl) rfl fun aU w aV m aW aW => ?_
    have h0_0 := rd2 aV h0_0
    have aF := At.mono aV aF
    have aG := rd1 aV aG
    have aT := od1 aV aT
    have h0_1 := rd2 aV h0_1
    have ay := Ow.mono (RSl.mono (RI.mono _)) aV ay
    obtain ⟨aX, aY, m, aZ⟩ := Ow.stamp (RI.mono _) aT m
    have h0_0 := rd2 aY h0_0
    have aF := At.mono aY aF
    have aG := rd1 aY aG
    have h0_1 := rd2 aY h0_1
    have ay := Ow.mono (RSl.mono (RI.mono _)) aY ay
    refine l_slit (R := (RSl (RI .i64))) (xs := ([aK] : List (List Int))) (RSl.one _) m T22 f rfl rfl rfl (by decide) (All2.cons aZ (All2.nil _)) fun a0 a1 w a m a2 f => l_nil ?_
    refine aW aX [a0] _ _ aY m ?_
    refine q_end fun a3 w a4 m => ?_
    have h0_0 := rd2 a4 h0_0
    have aF := At.mono a4 aF
    have aG := rd1 a4 aG
    have aZ := rd1 a4 aZ
    have a2 := Ow.mono (RSl.mono (RI.mono _)) a4 a2
    have h0_1 := rd2 a4 h0_1
    have ay := Ow.mono (RSl.mono (RI.mono _)) a4 ay
    obtain ⟨a5, a6, av⟩ := bind_some av
    refine l_append (RSl.one _) 4 m ay rfl T22 rfl (by decide) f rfl rfl rfl (Ow.src (j := 0) a2 m rfl) a6 fun a7 a8 w a m a9 f => l_fieldAddr Tryz.underlying27 rfl Tryz.sizeOf22 (by decide) f rfl rfl fun a f => l_boxStore 3 0 (ds := [a8]) m Tryz.sizeOf22 f rfl rfl (Ow.cells 4 m a9 rfl) (ones_cons (Ow.one1 4 m a9 rfl) ones_nil) rfl (Nat.le_of_ble_eq_true rfl) rfl fun w m => l_nil (k_region ?_)
    refine l_mv f rfl rfl fun a f => l_in f rfl rfl rfl b_add fun a f => l_as f rfl rfl fun a f => l_nil ?_
    have m := m.front 4 rfl
    have m := m.front 4 rfl
    have m : Mem W a3 w (Itm.box ab 27 [(.slice none 0 0), (.slice none 0 0)] :: Itm.box ad 27 [a8, (.slice none 0 0)] :: a7 :: a0 :: Itm.box aa 27 [v0_0, v0_1] :: H) := m.front 4 rfl
    have m := m.front 4 rfl
    have m : Mem W a3 w (Itm.box aa 27 [v0_0, v0_1] :: Itm.box ab 27 [(.slice none 0 0), (.slice none 0 0)] :: Itm.box ad 27 [a8, (.slice none 0 0)] :: a7 :: H) := m.eraseAt 4
    obtain rfl := sj av
    exact ⟨_, rfl, _, _, rfl, _, a8, a7, (GLe.trans ax (GLe.trans aI (GLe.trans aP (GLe.trans aV (GLe.trans aY a4))))), f.weak ⟨rfl, rfl, rfl, rfl, rfl, rfl, trivial⟩, m, a9⟩
   ·refine k_false f rfl aA ?_
    refine k_skip ?_
    refine k_region ?_
    refine l_mv f rfl rfl fun a f => l_in f rfl rfl rfl b_add fun a f => l_as f rfl rfl fun a f => l_nil ?_
    obtain rfl := sj av
    exact ⟨_, rfl, _, _, rfl, _, aq, ar, ax, f.weak ⟨rfl, rfl, rfl, rfl, rfl, rfl, trivial⟩, m, ay⟩
  ·refine k_false f rfl az ?_
   refine k_exit rfl ?_
   obtain rfl := sj av
   obtain rfl := aw _ rfl
   exact ⟨_, rfl, _, aq, ar, ax, f.weak ⟨rfl, rfl, rfl, rfl, rfl, trivial⟩, m, ay⟩
 ·rintro a w ⟨ai, rfl, aj, ak, al, ba, f, m, bb⟩
  have h0_0 := rd2 ba h0_0
  have h0_1 := rd2 ba h0_1
  refine k_seq (k_seq (k_region ?_))
  refine l_as f rfl rfl fun a f => l_nil ?_
  obtain ⟨bc, m, bd⟩ := Ow.nil (RSl (RI .i64)) 42 m
  obtain ⟨be, bf, hd⟩ := bind_some hd
  refine k_cut (fun a w => ∃ bg : List (List Int), bg = be ∧ ∃ (bh : GH) (bi : Value) (bj : Itm), GLe aj bh ∧ Fr a 83 [(6, (.pointer (some ⟨ab, 0, none⟩))), (7, (.pointer (some ⟨ad, 0, none⟩)))] ∧ Mem W bh w (Itm.box ab 27 [(.slice none 0 0), (.slice none 0 0)] :: Itm.box ad 27 [ak, bi] :: al :: bj :: H) ∧ Ow (RSl (RI .i64)) 42 bh bj bi bg) ?_ ?_
  ·refine k_block ?_
   have m := m.front 4 rfl
   have m := m.front 4 rfl
   have m : Mem W aj w (Itm.box ab 27 [(.slice none 0 0), (.slice none 0 0)] :: Itm.box ad 27 [ak, (.slice none 0 0)] :: al :: bc :: Itm.box aa 27 [v0_0, v0_1] :: H) := m.front 4 rfl
   have m : Mem W aj w (Itm.box aa 27 [v0_0, v0_1] :: Itm.box ab 27 [(.slice none 0 0), (.slice none 0 0)] :: Itm.box ad 27 [ak, (.slice none 0 0)] :: al :: bc :: H) := m.front 4 rfl
   refine k_loop (fun bk a w => ∃ bl : Int, ∃ bm : List (List Int), (bl, bm) = bk ∧ ∃ (bn : GH) (bo : Value) (bp : Itm), GLe aj bn ∧ Fr a 83 [(1, (.int .i64 x1)), (2, (.int .i64 x2)), (3, (.pointer (some ⟨aa, 0, none⟩))), (6, (.pointer (some ⟨ab, 0, none⟩))), (7, (.pointer (some ⟨ad, 0, none⟩))), (9, (.int .i64 bl))] ∧ Mem W bn w (Itm.box aa 27 [v0_0, v0_1] :: Itm.box ab 27 [(.slice none 0 0), (.slice none 0 0)] :: Itm.box ad 27 [ak, bo] :: al :: bp :: H) ∧ Ow (RSl (RI .i64)) 42 bn bp bo bm) bf ⟨_, _, rfl, _, (.slice none 0 0), bc, (GLe.refl _), f.weak ⟨rfl, rfl, rfl, rfl, rfl, rfl, trivial⟩, m, bd⟩ ?_
   clear bf f m
   rintro bk bq br bs a w ⟨bl, bm, rfl, bn, bo, bp, bt, f, m, bu⟩
   have h0_0 := rd2 bt h0_0
   have h0_1 := rd2 bt h0_1
   have bb := Ow.mono (RSl.mono (RI.mono _)) bt bb
   refine k_seq (k_seq (k_region ?_))
   refine l_mv f rfl rfl fun a f => l_fieldAddr Tryz.underlying27 rfl Tryz.sizeOf22 (by decide) f rfl rfl fun a f => l_boxCell 0 1 m Pl22 f rfl rfl rfl rfl fun a f => l_len Tryz.underlying22 f rfl rfl h0_1 fun a f => l_in f rfl rfl rfl b_lss fun a f => l_nil ?_
   rcases cond_some br with ⟨bv, br⟩ | ⟨bv, br⟩
   ·refine k_true f rfl bv ?_
    refine k_skip ?_
    refine k_seq (k_block (k_seq (k_region ?_)))
    refine l_fieldAddr Tryz.underlying27 rfl Tryz.sizeOf22 (by decide) f rfl rfl fun a f => l_boxCell 0 1 m Pl22 f rfl rfl rfl rfl fun a f => l_mv f rfl rfl fun a f => ?_
    obtain ⟨bw, bx, br⟩ := bind_some br
    refine l_at T22 f rfl rfl rfl h0_1 bx fun bz bA a bB bC f => l_loadAt m Pl42 f rfl rfl bB fun a f => ?_
    obtain ⟨bD, bE, br⟩ := bind_some br
    refine l_at T42 f rfl rfl rfl bC bE fun bF bG a bH bI f => ?_
    subst bI
    refine l_loadAt m Pl2 f rfl rfl bH fun a f => l_as f rfl rfl fun a f => l_nil (k_seq (k_region ?_))
    refine l_fieldAddr Tryz.underlying27 rfl Tryz.sizeOf22 (by decide) f rfl rfl fun a f => l_boxCell 0 1 m Pl22 f rfl rfl rfl rfl fun a f => l_mv f rfl rfl fun a f => ?_
    obtain ⟨bJ, bK, br⟩ := bind_some br
    refine l_at T22 f rfl rfl rfl h0_1 bK fun bL bM a bN bO f => l_loadAt m Pl42 f rfl rfl bN fun a f => ?_
    obtain ⟨bP, bQ, br⟩ := bind_some br
    refine l_at T42 f rfl rfl rfl bO bQ fun bR bS a bT bU f => ?_
    subst bU
    refine l_loadAt m Pl2 f rfl rfl bT fun a f => l_as f rfl rfl fun a f => l_nil (k_seq (k_seq (k_region ?_)))
    refine l_mv f rfl rfl fun a f => l_mv f rfl rfl fun a f => l_in f rfl rfl rfl b_eql fun a f => l_nil ?_
    obtain ⟨bV, bW, br⟩ := bind_some br
    refine k_cut (fun a w => ∃ bX : Int, bX = bV ∧ ∃ (bY : GH), GLe bn bY ∧ Fr a 83 [(1, (.int .i64 x1)), (2, (.int .i64 x2)), (3, (.pointer (some ⟨aa, 0, none⟩))), (6, (.pointer (some ⟨ab, 0, none⟩))), (7, (.pointer (some ⟨ad, 0, none⟩))), (9, (.int .i64 bl)), (10, (.int .i64 bX)), (11, (.int .i64 bP))] ∧ Mem W bY w (Itm.box aa 27 [v0_0, v0_1] :: Itm.box ab 27 [(.slice none 0 0), (.slice none 0 0)] :: Itm.box ad 27 [ak, bo] :: al :: bp :: H)) ?_ ?_
    ·rcases cond_some bW with ⟨bZ, bW⟩ | ⟨bZ, bW⟩
     ·refine k_true f rfl bZ ?_
      refine k_region ?_
      refine l_mv f rfl rfl fun a f => l_as f rfl rfl fun a f => l_nil ?_
      obtain rfl := sj bW
      exact ⟨_, rfl, _, (GLe.refl _), f.weak ⟨rfl, rfl, rfl, rfl, rfl, rfl, rfl, rfl, trivial⟩, m⟩
     ·refine k_false f rfl bZ ?_
      refine k_skip ?_
      obtain rfl := sj bW
      exact ⟨_, rfl, _, (GLe.refl _), f.weak ⟨rfl, rfl, rfl, rfl, rfl, rfl, rfl, rfl, trivial⟩, m⟩
    ·rintro a w ⟨bX, rfl, bY, b0, f, m⟩
     have h0_0 := rd2 b0 h0_0
     have h0_1 := rd2 b0 h0_1
     have bb := Ow.mono (RSl.mono (RI.mono _)) b0 bb
     have bu := Ow.mono (RSl.mono (RI.mono _)) b0 bu
     refine k_seq (k_seq (k_region ?_))
     refine l_mv f rfl rfl fun a f => l_mv f rfl rfl fun a f => l_in f rfl rfl rfl b_eql fun a f => l_nil ?_
     obtain ⟨b1, b2, br⟩ := bind_some br
     refine k_cut (fun a w => ∃ b3 : Int, b3 = b1 ∧ ∃ (b4 : GH), GLe bY b4 ∧ Fr a 83 [(1, (.int .i64 x1)), (2, (.int .i64 x2)), (3, (.pointer (some ⟨aa, 0, none⟩))), (6, (.pointer (some ⟨ab, 0, none⟩))), (7, (.pointer (some ⟨ad, 0, none⟩))), (9, (.int .i64 bl)), (10, (.int .i64 bX)), (11, (.int .i64 b3))] ∧ Mem W b4 w (Itm.box aa 27 [v0_0, v0_1] :: Itm.box ab 27 [(.slice none 0 0), (.slice none 0 0)] :: Itm.box ad 27 [ak, bo] :: al :: bp :: H)) ?_ ?_
     ·rcases cond_some b2 with ⟨b5, b2⟩ | ⟨b5, b2⟩
      ·refine k_true f rfl b5 ?_
       refine k_region ?_
       refine l_mv f rfl rfl fun a f => l_as f rfl rfl fun a f => l_nil ?_
       obtain rfl := sj b2
       exact ⟨_, rfl, _, (GLe.refl _), f.weak ⟨rfl, rfl, rfl, rfl, rfl, rfl, rfl, rfl, trivial⟩, m⟩
      ·refine k_false f rfl b5 ?_
       refine k_skip ?_
       obtain rfl := sj b2
       exact ⟨_, rfl, _, (GLe.refl _), f.weak ⟨rfl, rfl, rfl, rfl, rfl, rfl, rfl, rfl, trivial⟩, m⟩
     ·rintro a w ⟨b3, rfl, b4, b6, f, m⟩
      have h0_0 := rd2 b6 h0_0
      have h0_1 := rd2 b6 h0_1
      have bb := Ow.mono (RSl.mono (RI.mono _)) b6 bb
      have bu := Ow.mono (RSl.mono (RI.mono _)) b6 bu
      refine k_seq (k_region ?_)
      refine l_mv f rfl rfl fun a f => l_mv f rfl rfl fun a f => l_in f rfl rfl rfl b_neq fun a f => l_nil ?_
      rcases cond_some br with ⟨b7, br⟩ | ⟨b7, br⟩
      ·refine k_true f rfl b7 ?_
       have m : Mem W b4 w (bp :: Itm.box aa 27 [v0_0, v0_1] :: Itm.box ab 27 [(.slice none 0 0), (.slice none 0 0)] :: Itm.box ad 27 [ak, bo] :: al :: H) := m.front 4 rfl
       obtain ⟨b8, b9, m, ca⟩ := Ow.stamp (RSl.mono (RI.mono _)) bu m
       have h0_0 := rd2 b9 h0_0
       have h0_1 := rd2 b9 h0_1
       have bb := Ow.mono (RSl.mono (RI.mono _)) b9 bb
       refine k_draw 16 Follows (by kernel_rfl) m ?_
       refine q_fieldAddr (i := 0) 16 Tryz.underlying27 rfl Tryz.sizeOf22 (by decide) rfl (by kernel_rfl) rfl f rfl rfl rfl fun a f => q_boxCell (i := 1) 16 2 Pl22 rfl rfl rfl (by kernel_rfl) rfl f rfl rfl rfl fun a f => q_mv 2 16 rfl (by kernel_rfl) f rfl rfl rfl fun a f => q_mv 3 16 rfl (by kernel_rfl) f rfl rfl rfl fun a f => q_mv 4 16 rfl (by kernel_rfl) f rfl rfl rfl fun a f => q_p 5 16 rfl (by kernel_rfl) f rfl rfl rfl (fun _ => r_int (f.eval rfl) (f.eval rfl) b_gtr) fun a f => ?_
       obtain ⟨cb, cc, br⟩ := bind_some br
       refine q_call (i := 6) 16 rfl (by kernel_rfl) rfl f rfl rfl rfl Tryz.call127 (fun _ _ w cd m => Wk.spec_l1Flag m  cc) fun a f => q_p 7 16 rfl (by kernel_rfl) f rfl rfl rfl (fun _ => r_int (f.eval rfl) (f.eval rfl) b_sub) fun a f => q_mv 8 16 rfl (by kernel_rfl) f rfl rfl rfl fun a f => q_mv 9 16 rfl (by kernel_rfl) f rfl rfl rfl fun a f => q_mv 10 16 rfl (by kernel_rfl) f rfl rfl rfl fun a f => q_p 11 16 rfl (by kernel_rfl) f rfl rfl rfl (fun _ => r_int (f.eval rfl) (f.eval rfl) b_gtr) fun a f => ?_
       obtain ⟨ce, cf, br⟩ := bind_some br
       refine q_call (i := 12) 16 rfl (by kernel_rfl) rfl f rfl rfl rfl Tryz.call127 (fun _ _ w cg m => Wk.spec_l1Flag m  cf) fun a f => q_p 13 16 rfl (by kernel_rfl) f rfl rfl rfl (fun _ => r_int (f.eval rfl) (f.eval rfl) b_sub) fun a f => q_one (i := 14) rfl (by kernel_rfl) rfl fun ch w ci m cj cj => ?_
       have ca := rd2 ci ca
       have h0_0 := rd2 ci h0_0
       have h0_1 := rd2 ci h0_1
       have bb := Ow.mono (RSl.mono (RI.mono _)) ci bb
       obtain ⟨ck, cl, br⟩ := bind_some br
       refine l_res f rfl rfl Tryz.call46 (Wk.spec_l9Link m ca cl) fun cm cn co w cp m cq a f => ?_
       obtain ⟨cr, ct, rfl, rfl, cu⟩ := cq
       have ca := rd2 cp ca
       have h0_0 := rd2 cp h0_0
       have h0_1 := rd2 cp h0_1
       have bb := Ow.mono (RSl.mono (RI.mono _)) cp bb
       refine l_nil ?_
       refine cj cn [ct] _ _ cp m ?_
       refine q_fieldAddr (i := 15) 16 Tryz.underlying27 rfl Tryz.sizeOf22 (by decide) rfl (by kernel_rfl) rfl f rfl rfl rfl fun a f => q_end fun cv w cw m => ?_
       have ca := rd2 cw ca
       have cu := Ow.mono (RSl.mono (RI.mono _)) cw cu
       have h0_0 := rd2 cw h0_0
       have h0_1 := rd2 cw h0_1
       have bb := Ow.mono (RSl.mono (RI.mono _)) cw bb
       refine l_boxStore 3 1 (ds := [cr]) m Tryz.sizeOf22 f rfl rfl (Ow.cells 0 m cu rfl) (ones_cons (Ow.one1 0 m cu rfl) ones_nil) rfl (Nat.le_of_ble_eq_true rfl) rfl fun w m => l_nil (k_region ?_)
       refine l_mv f rfl rfl fun a f => l_in f rfl rfl rfl b_add fun a f => l_as f rfl rfl fun a f => l_nil ?_
       have m := m.front 4 rfl
       have m := m.front 4 rfl
       have m : Mem W cv w (Itm.box ab 27 [(.slice none 0 0), (.slice none 0 0)] :: Itm.box ad 27 [ak, cr] :: al :: ct :: Itm.box aa 27 [v0_0, v0_1] :: H) := m.front 4 rfl
       have m : Mem W cv w (Itm.box aa 27 [v0_0, v0_1] :: Itm.box ab 27 [(.slice none 0 0), (.slice none 0 0)] :: Itm.box ad 27 [ak, cr] :: al :: ct :: H) := m.front 4 rfl
       obtain rfl := sj br
       exact ⟨_, rfl, _, _, rfl, _, cr, ct, (GLe.trans bt (GLe.trans b0 (GLe.trans b6 (GLe.trans b9 (GLe.trans ci (GLe.trans cp cw)))))), f.weak ⟨rfl, rfl, rfl, rfl, rfl, rfl, trivial⟩, m, cu⟩
      ·refine k_false f rfl b7 ?_
       refine k_skip ?_
       refine k_region ?_
       refine l_mv f rfl rfl fun a f => l_in f rfl rfl rfl b_add fun a f => l_as f rfl rfl fun a f => l_nil ?_
       obtain rfl := sj br
       exact ⟨_, rfl, _, _, rfl, _, bo, bp, (GLe.trans bt (GLe.trans b0 b6)), f.weak ⟨rfl, rfl, rfl, rfl, rfl, rfl, trivial⟩, m, bu⟩
   ·refine k_false f rfl bv ?_
    refine k_exit rfl ?_
    have m := m.front 4 rfl
    have m := m.front 4 rfl
    have m : Mem W bn w (Itm.box ad 27 [ak, bo] :: al :: bp :: Itm.box aa 27 [v0_0, v0_1] :: Itm.box ab 27 [(.slice none 0 0), (.slice none 0 0)] :: H) := m.front 4 rfl
    have m := m.front 4 rfl
    have m : Mem W bn w (Itm.box ab 27 [(.slice none 0 0), (.slice none 0 0)] :: Itm.box ad 27 [ak, bo] :: al :: bp :: H) := m.eraseAt 4
    obtain rfl := sj br
    obtain rfl := bs _ rfl
    exact ⟨_, rfl, _, bo, bp, bt, f.weak ⟨rfl, rfl, trivial⟩, m, bu⟩
  ·rintro a w ⟨bg, rfl, bh, bi, bj, cx, f, m, cy⟩
   have bb := Ow.mono (RSl.mono (RI.mono _)) cx bb
   refine k_seq (k_region ?_)
   refine l_boxAgg 1 0 (ds := [ak, bi]) m Ag27 f rfl rfl rfl rfl rfl fun a f => l_boxStore 0 0 (ds := [ak, bi]) m Tryz.sizeOf27 f rfl rfl rfl (ones_cons (Ow.one1 2 m bb rfl) (ones_cons (Ow.one1 3 m cy rfl) ones_nil)) rfl (Nat.le_of_ble_eq_true rfl) rfl fun w m => l_nil ?_
   refine k_ret ?_
   have cz := rr_agg (P := Tryz.prog) 0 m Ag27 f (s := 6) rfl rfl rfl
   have m := m.front 3 rfl
   have m := m.front 3 rfl
   have m : Mem W bh w (al :: bj :: Itm.box ab 27 [ak, bi] :: H) := m.eraseAt 3
   have m := m.eraseAt 2
   obtain rfl := sj hd
   exact ⟨[(.agg #[ak, bi])], ⟨cz, trivial⟩, f.defers, _, [al, bj], (GLe.trans ba cx), m, _, _, _, _, rfl, rfl, bb, cy⟩

theorem Wk.spec_TidiedDecomp {W w : World} {G : GH} {H : List Itm} {v0_0 : Value} {v1_0 : Value} {v1_1 : Value} {x0_0 : (List (List Int))} {x1_0 : (List (List Int))} {x1_1 : (List (List Int))} (m : Mem W G w (H)) (h0_0 : RSl (RSl (RI .i64)) G v0_0 x0_0) (h1_0 : RSl (RSl (RI .i64)) G v1_0 x1_0) (h1_1 : RSl (RSl (RI .i64)) G v1_1 x1_1) {y : ((List (List Int))) × ((List (List Int))) × Bool} (hd : D.spec_TidiedDecomp x0_0 x1_0 x1_1 = some y) :
  Calls Tryz.prog 18 #[(.agg #[v0_0]), (.agg #[v1_0, v1_1])] w (Res W G H (fun G' Ho v => ∃ r0 : Value, ∃ i0 : Itm, ∃ r2 : Value, ∃ i2 : Itm, Ho = [i0, i2] ∧ v = .tuple #[(.agg #[r0, r2]), (.bool y.2.2)] ∧ Ow (RSl (RI .i64)) 42 G' i0 r0 y.1 ∧ Ow (RSl (RI .i64)) 42 G' i2 r2 y.2.1)) := by
 refine calls_b (args := [(.agg #[v0_0]), (.agg #[v1_0, v1_1])]) (N := 28) [.cell 4 27, .tmp 5] Tryz.func18 rfl rfl (Nat.le_of_ble_eq_true rfl) rfl fun a f => ?_
 unfold D.spec_TidiedDecomp at hd
 refine k_seq (k_region ?_)
 refine l_box (cs := [v0_0]) m f rfl rfl rfl fun aa w a m f => l_box (cs := [v1_0, v1_1]) m f rfl rfl rfl fun ab w a m f => l_alloc (cs := [(.slice none 0 0), (.slice none 0 0)]) Tryz.zeroValue27 m f rfl rfl fun ac w a m f => l_as f rfl rfl fun a f => l_nil (k_seq (k_seq (k_region ?_)))
 refine l_boxAgg 2 0 (ds := [v0_0]) m Ag30 f rfl rfl rfl rfl rfl fun a f => l_boxAgg 1 0 (ds := [v1_0, v1_1]) m Ag27 f rfl rfl rfl rfl rfl fun a f => ?_
 obtain ⟨ad, ae, hd⟩ := bind_some hd
 refine l_res f rfl rfl Tryz.call29 (Wk.spec_DecompOk m h0_0 h1_0 h1_1 ae) fun af ag ah w ai m aj a f => ?_
 obtain ⟨rfl, rfl⟩ := aj
 have h0_0 := rd2 ai h0_0
 have h1_0 := rd2 ai h1_0
 have h1_1 := rd2 ai h1_1
 refine l_op f rfl rfl rfl (r_not (f.eval rfl)) fun a f => l_nil ?_
 rcases cond_some hd with ⟨ak, hd⟩ | ⟨ak, hd⟩
 ·refine k_true f rfl ak ?_
  refine k_seq (k_region ?_)
  have al : ∀ w, (Instr.build 27 #[]).run Tryz.prog w = .ok (.agg #[(.slice none 0 0), (.slice none 0 0)]) w := by intro w; simp [Instr.build, Instr.fill, cells_int, cells_bool, cells_string, cells_slice, cells_pointer, cells_agg]
  refine l_build f rfl rfl al fun a f => l_boxStore 0 0 (ds := [(.slice none 0 0), (.slice none 0 0)]) m Tryz.sizeOf27 f rfl rfl rfl (ones_cons rfl (ones_cons rfl ones_nil)) rfl (Nat.le_of_ble_eq_true rfl) rfl fun w m => l_as f rfl rfl fun a f => l_nil ?_
  refine k_ret ?_
  obtain ⟨am, m, an⟩ := Ow.nil (RSl (RI .i64)) 42 m
  obtain ⟨ao, m, ap⟩ := Ow.nil (RSl (RI .i64)) 42 m
  have aq := rr_agg (P := Tryz.prog) 2 m Ag27 f (s := 4) rfl rfl rfl
  have m := m.front 1 rfl
  have m := m.eraseAt 4
  have m : Mem W ag w (am :: ao :: Itm.box ac 27 [(.slice none 0 0), (.slice none 0 0)] :: H) := m.eraseAt 3
  have m := m.eraseAt 2
  obtain rfl := sj hd
  exact ⟨[(.agg #[(.slice none 0 0), (.slice none 0 0)]), (.bool false)], ⟨aq, f.get _ _ rfl, trivial⟩, f.defers, _, [am, ao], ai, m, _, _, _, _, rfl, rfl, an, ap⟩
 ·refine k_false f rfl ak ?_
  refine k_skip ?_
  refine k_seq (k_region ?_)
  refine l_boxAgg 1 0 (ds := [v1_0, v1_1]) m Ag27 f rfl rfl rfl rfl rfl fun a f => ?_
  obtain ⟨ar, au, hd⟩ := bind_some hd
  refine l_res f rfl rfl Tryz.call63 (Wk.spec_l9Sorted m h1_0 h1_1 au) fun av aw ax w ay m az a f => ?_
  obtain ⟨aA, aB, aC, aD, rfl, rfl, aE, aF⟩ := az
  have h0_0 := rd2 ay h0_0
  have h1_0 := rd2 ay h1_0
  have h1_1 := rd2 ay h1_1
  refine l_alloc (cs := [(.slice none 0 0), (.slice none 0 0)]) Tryz.zeroValue27 m f rfl rfl fun aG w a m f => l_boxStore 0 0 (ds := [aA, aC]) m Tryz.sizeOf27 f rfl rfl rfl (ones_cons (Ow.one1 1 m aE rfl) (ones_cons (Ow.one1 2 m aF rfl) ones_nil)) rfl (Nat.le_of_ble_eq_true rfl) rfl fun w m => l_nil ?_
  obtain ⟨aH, aI, hd⟩ := bind_some hd
  refine k_block ?_
  have m := m.front 3 rfl
  have m := m.eraseAt 5
  have m : Mem W aw w (Itm.box ac 27 [(.slice none 0 0), (.slice none 0 0)] :: Itm.box aG 27 [aA, aC] :: aB :: aD :: H) := m.eraseAt 4
  refine k_loop (fun aJ a w => ∃ aK : List (List Int), ∃ aL : List (List Int), (aK, aL) = aJ ∧ ∃ (aM : GH) (aN : Value) (aO : Itm) (aP : Value) (aQ : Itm), GLe aw aM ∧ Fr a 28 [(4, (.pointer (some ⟨ac, 0, none⟩))), (6, (.pointer (some ⟨aG, 0, none⟩)))] ∧ Mem W aM w (Itm.box ac 27 [(.slice none 0 0), (.slice none 0 0)] :: Itm.box aG 27 [aN, aP] :: aO :: aQ :: H) ∧ Ow (RSl (RI .i64)) 42 aM aO aN aK ∧ Ow (RSl (RI .i64)) 42 aM aQ aP aL) aI ⟨_, _, rfl, _, aA, aB, aC, aD, (GLe.refl _), f.weak ⟨rfl, rfl, trivial⟩, m, aE, aF⟩ ?_
  clear aI f m
  rintro aJ aR aS aT a w ⟨aK, aL, rfl, aM, aN, aO, aP, aQ, aU, f, m, aV, aW⟩
  refine k_block (k_seq (k_region ?_))
  refine l_boxAgg 1 0 (ds := [aN, aP]) m Ag27 f rfl rfl rfl rfl rfl fun a f => ?_
  obtain ⟨aX, aY, aS⟩ := bind_some aS
  refine l_res f rfl rfl Tryz.call64 (Ow.lendCall (RSl.mono (RI.mono _)) 2 aV m rfl (fun aZ a0 m a1 => (Ow.lendCall (RSl.mono (RI.mono _)) 2 (Ow.mono (RSl.mono (RI.mono _)) a0 aW) m rfl (fun a2 a3 m a4 => Wk.spec_l9Spare m (rd2 a3 a1) a4 aY) (fun _ _ _ _ h => h))) (fun _ _ _ _ h => h)) fun a5 a6 a7 w a8 m a9 a f => ?_
  obtain ⟨rfl, rfl⟩ := a9
  have aV := Ow.mono (RSl.mono (RI.mono _)) a8 aV
  have aW := Ow.mono (RSl.mono (RI.mono _)) a8 aW
  refine l_mv f rfl rfl fun a f => l_op f rfl rfl rfl (r_extract (f.eval rfl) rfl) fun a f => l_op f rfl rfl rfl (r_extract (f.eval rfl) rfl) fun a f => l_as f rfl rfl fun a f => l_as f rfl rfl fun a f => l_nil (k_seq (k_seq (k_region ?_)))
  refine l_mv f rfl rfl fun a f => l_in f rfl rfl rfl b_lss fun a f => l_nil ?_
  rcases cond_some aS with ⟨ba, aS⟩ | ⟨ba, aS⟩
  ·refine k_true f rfl ba ?_
   refine k_seq (k_region ?_)
   refine l_boxAgg 1 0 (ds := [aN, aP]) m Ag27 f rfl rfl rfl rfl rfl fun a f => l_boxStore 0 0 (ds := [aN, aP]) m Tryz.sizeOf27 f rfl rfl rfl (ones_cons (Ow.one1 2 m aV rfl) (ones_cons (Ow.one1 3 m aW rfl) ones_nil)) rfl (Nat.le_of_ble_eq_true rfl) rfl fun w m => l_as f rfl rfl fun a f => l_nil ?_
   refine k_ret ?_
   have bb := rr_agg (P := Tryz.prog) 0 m Ag27 f (s := 4) rfl rfl rfl
   have m := m.front 3 rfl
   have m := m.front 3 rfl
   have m : Mem W a6 w (aO :: aQ :: Itm.box ac 27 [aN, aP] :: H) := m.eraseAt 3
   have m := m.eraseAt 2
   obtain rfl := sj aS
   obtain rfl := aT _ rfl
   obtain rfl := sj hd
   exact ⟨[(.agg #[aN, aP]), (.bool true)], ⟨bb, f.get _ _ rfl, trivial⟩, f.defers, _, [aO, aQ], (GLe.trans ai (GLe.trans ay (GLe.trans aU a8))), m, _, _, _, _, rfl, rfl, aV, aW⟩
  ·refine k_false f rfl ba ?_
   refine k_skip ?_
   refine k_region ?_
   refine l_boxAgg 1 0 (ds := [aN, aP]) m Ag27 f rfl rfl rfl rfl rfl fun a f => l_mv f rfl rfl fun a f => l_mv f rfl rfl fun a f => ?_
   have m : Mem W a6 w (aO :: Itm.box ac 27 [(.slice none 0 0), (.slice none 0 0)] :: Itm.box aG 27 [aN, aP] :: aQ :: H) := m.front 2 rfl
   obtain ⟨bc, bd, m, be⟩ := Ow.stamp (RSl.mono (RI.mono _)) aV m
   have aW := Ow.mono (RSl.mono (RI.mono _)) bd aW
   have m : Mem W bc w (aQ :: Itm.box ac 27 [(.slice none 0 0), (.slice none 0 0)] :: Itm.box aG 27 [aN, aP] :: H) := m.front 2 rfl
   obtain ⟨bf, bg, m, bh⟩ := Ow.stamp (RSl.mono (RI.mono _)) aW m
   have be := rd2 bg be
   obtain ⟨bi, bj, aS⟩ := bind_some aS
   refine l_res f rfl rfl Tryz.call65 (Wk.spec_l9Merge m be bh bj) fun bk bl bm w bn m bo a f => ?_
   obtain ⟨bp, bq, br, bs, rfl, rfl, bt, bu⟩ := bo
   have be := rd2 bn be
   have bh := rd2 bn bh
   refine l_boxStore 3 0 (ds := [bp, br]) m Tryz.sizeOf27 f rfl rfl rfl (ones_cons (Ow.one1 0 m bt rfl) (ones_cons (Ow.one1 1 m bu rfl) ones_nil)) rfl (Nat.le_of_ble_eq_true rfl) rfl fun w m => l_nil ?_
   have m := m.front 3 rfl
   have m : Mem W bl w (Itm.box ac 27 [(.slice none 0 0), (.slice none 0 0)] :: Itm.box aG 27 [bp, br] :: bq :: bs :: H) := m.front 3 rfl
   obtain rfl := sj aS
   exact ⟨_, rfl, _, _, rfl, _, bp, bq, br, bs, (GLe.trans aU (GLe.trans a8 (GLe.trans bd (GLe.trans bg bn)))), f.weak ⟨rfl, rfl, trivial⟩, m, bt, bu⟩

theorem Wk.impl_inRange {W w : World} {G : GH} {H : List Itm} {x0 : Int} {x1 : Int} {x2 : Int} (m : Mem W G w (H))  {y : Bool} (hd : D.impl_inRange x0 x1 x2 = some y) :
  Calls Tryz.prog 146 #[(.int .i64 x0), (.int .i64 x1), (.int .i64 x2)] w (Res W G H (fun _ Ho v => Ho = [] ∧ v = (.bool y))) := by
 refine calls_b (args := [(.int .i64 x0), (.int .i64 x1), (.int .i64 x2)]) (N := 15) [.tmp 6] Tryz.func146 rfl rfl (Nat.le_of_ble_eq_true rfl) rfl fun a f => ?_
 unfold D.impl_inRange at hd
 refine k_seq (k_region ?_)
 refine l_as f rfl rfl fun a f => l_nil (k_seq (k_region ?_))
 refine l_mv f rfl rfl fun a f => l_mv f rfl rfl fun a f => l_in f rfl rfl rfl b_leq fun a f => l_mv f rfl rfl fun a f => ?_
 refine l_cut 4 (fun a w => ∃ aa, GLe G aa ∧ Mem W aa w (H) ∧ Fr a 15 [(0, (.int .i64 x0)), (1, (.int .i64 x1)), (2, (.int .i64 x2)), (7, (.int .i64 x1)), (8, (.int .i64 x0)), (9, (.bool (decide (x1 ≤ x0)))), (10, (.bool (decide (x1 ≤ x0)))), (14, (.bool ((decide (x1 ≤ x0)) && (decide (x0 ≤ x2)))))]) ?_ ?_
 ·rcases Bool.eq_false_or_eq_true (decide (x1 ≤ x0)) with ab | ab
  ·refine l_run f rfl rfl ab ?_
   refine l_mv f rfl rfl fun a f => l_run f rfl rfl ab ?_
   refine l_mv f rfl rfl fun a f => l_run f rfl rfl ab ?_
   refine l_in f rfl rfl rfl b_leq fun a f => l_op f rfl rfl rfl (r_pickT (f.eval rfl) ab (f.eval rfl)) fun a f => ?_
   exact ⟨_, (GLe.refl _), m, f.weak ⟨rfl, rfl, rfl, rfl, rfl, rfl, rfl, by rw [ab]; rfl, trivial⟩⟩
  ·refine l_not' f rfl rfl rfl ab fun a f => ?_
   refine l_not' f rfl rfl rfl ab fun a f => l_not' f rfl rfl rfl ab fun a f => l_op f rfl rfl rfl (r_pickF (f.eval rfl) ab (f.eval rfl)) fun a f => ?_
   exact ⟨_, (GLe.refl _), m, f.weak ⟨rfl, rfl, rfl, rfl, rfl, rfl, rfl, by rw [ab]; rfl, trivial⟩⟩
 ·rintro a w ⟨aa, ac, m, f⟩
  refine l_as f rfl rfl fun a f => l_nil ?_
  refine k_ret ?_
  obtain rfl := sj hd
  exact ⟨[(.bool ((decide (x1 ≤ x0)) && (decide (x0 ≤ x2))))], ⟨f.get _ _ rfl, trivial⟩, f.defers, _, [], ac, m, rfl, rfl⟩

theorem Wk.impl_increasing {W w : World} {G : GH} {H : List Itm} {v0 : Value} {x0 : (List Int)} {x1 : Int} (m : Mem W G w (H)) (h0 : RSl (RI .i64) G v0 x0) {y : Bool} (hd : D.impl_increasing x0 x1 = some y) :
  Calls Tryz.prog 95 #[v0, (.int .i64 x1)] w (Res W G H (fun _ Ho v => Ho = [] ∧ v = (.bool y))) := by
 refine calls_b (args := [v0, (.int .i64 x1)]) (N := 33) [.tmp 4] Tryz.func95 rfl rfl (Nat.le_of_ble_eq_true rfl) rfl fun a f => ?_
 unfold D.impl_increasing at hd
 refine k_seq (k_region ?_)
 refine l_as f rfl rfl fun a f => l_nil (k_seq (k_seq (k_region ?_)))
 refine l_mv f rfl rfl fun a f => l_len Tryz.underlying42 f rfl rfl h0 fun a f => l_mv f rfl rfl fun a f => l_nil ?_
 obtain ⟨aa, ab, hd⟩ := bind_some hd
 refine k_cut (fun a w => ∃ q_181' : Unit, aa = .inl q_181' ∧ ∃ (ac : GH), GLe G ac ∧ Fr a 33 [] ∧ Mem W ac w (H)) ?_ ?_
 ·refine k_block ?_
  refine k_loop (fun ad a w => ∃ ae : Int, ae = ad ∧ ∃ (af : GH), GLe G af ∧ Fr a 33 [(0, v0), (1, (.int .i64 x1)), (7, v0), (8, (.int .i64 (x0.length : Int))), (9, (.int .i64 ae))] ∧ Mem W af w (H)) ab ⟨_, rfl, _, (GLe.refl _), f.weak ⟨rfl, rfl, rfl, rfl, rfl, trivial⟩, m⟩ ?_
  clear ab f m
  rintro ad ag ah ai a w ⟨ae, rfl, af, aj, f, m⟩
  have h0 := rd1 aj h0
  refine k_seq (k_region ?_)
  refine l_in f rfl rfl rfl b_lss fun a f => l_nil (k_seq ?_)
  rcases cond_some ah with ⟨ak, ah⟩ | ⟨ak, ah⟩
  ·refine k_true f rfl ak ?_
   refine k_skip ?_
   refine k_seq (k_block (k_seq (k_region ?_)))
   refine l_mv f rfl rfl fun a f => ?_
   obtain ⟨al, am, ah⟩ := bind_some ah
   refine l_at T42 f rfl rfl rfl h0 am fun an ao a ap aq f => ?_
   subst aq
   refine l_loadAt m Pl2 f rfl rfl ap fun a f => l_as f rfl rfl fun a f => l_as f rfl rfl fun a f => l_nil (k_seq (k_region ?_))
   refine l_mv f rfl rfl fun a f => l_mv f rfl rfl fun a f => l_in f rfl rfl rfl b_sub fun a f => ?_
   obtain ⟨ar, au, ah⟩ := bind_some ah
   refine l_res f rfl rfl Tryz.call146 (Wk.impl_inRange m  au) fun av aw ax w ay m az a f => ?_
   obtain ⟨rfl, rfl⟩ := az
   have h0 := rd1 ay h0
   refine l_op f rfl rfl rfl (r_not (f.eval rfl)) fun a f => l_mv f rfl rfl fun a f => ?_
   obtain ⟨aA, aB, ah⟩ := bind_some ah
   refine l_cut 12 (fun a w => ∃ aC, GLe aw aC ∧ Mem W aC w (H) ∧ Fr a 33 [(0, v0), (1, (.int .i64 x1)), (5, (.int .i64 ae)), (6, (.int .i64 al)), (7, v0), (8, (.int .i64 (x0.length : Int))), (9, (.int .i64 ae)), (14, (.int .i64 al)), (15, (.int .i64 x1)), (16, (.int .i64 (IntKind.i64.wrap (x1 - 1)))), (17, (.bool ar)), (18, (.bool (!ar))), (19, (.bool (!ar))), (31, (.bool aA))]) ?_ ?_
   ·rcases cond_some aB with ⟨aD, aB⟩ | ⟨aD, aB⟩
    ·refine l_not' f rfl rfl rfl aD fun a f => ?_
     refine l_not' f rfl rfl rfl aD fun a f => l_not' f rfl rfl rfl aD fun a f => l_notU f rfl rfl rfl fun a f => l_notU f rfl rfl rfl fun a f => l_notU f rfl rfl rfl fun a f => l_notU f rfl rfl rfl fun a f => l_notU f rfl rfl rfl fun a f => l_notU f rfl rfl rfl fun a f => l_notU f rfl rfl rfl fun a f => l_not' f rfl rfl rfl aD fun a f => l_op f rfl rfl rfl (r_pickT (f.eval rfl) aD (f.eval rfl)) fun a f => ?_
     obtain rfl := sj aB
     exact ⟨_, (GLe.refl _), m, f.weak ⟨rfl, rfl, rfl, rfl, rfl, rfl, rfl, rfl, rfl, rfl, rfl, rfl, rfl, rfl, trivial⟩⟩
    ·refine l_run f rfl rfl aD ?_
     refine l_mv f rfl rfl fun a f => l_run f rfl rfl aD ?_
     refine l_in f rfl rfl rfl b_gtr fun a f => l_run f rfl rfl aD ?_
     refine l_mv f rfl rfl fun a f => ?_
     obtain ⟨aE, aF, aB⟩ := bind_some aB
     refine l_cut 8 (fun a w => ∃ aG, GLe aw aG ∧ Mem W aG w (H) ∧ Fr a 33 [(0, v0), (1, (.int .i64 x1)), (5, (.int .i64 ae)), (6, (.int .i64 al)), (7, v0), (8, (.int .i64 (x0.length : Int))), (9, (.int .i64 ae)), (14, (.int .i64 al)), (15, (.int .i64 x1)), (16, (.int .i64 (IntKind.i64.wrap (x1 - 1)))), (17, (.bool ar)), (18, (.bool (!ar))), (19, (.bool (!ar))), (20, (.int .i64 ae)), (21, (.bool (decide ((0 : Int) < ae)))), (22, (.bool (decide ((0 : Int) < ae)))), (30, (.bool aE))]) ?_ ?_
     ·rcases cond_some aF with ⟨aH, aF⟩ | ⟨aH, aF⟩
      ·refine l_run f rfl rfl aH ?_
       refine l_mv f rfl rfl fun a f => l_run f rfl rfl aH ?_
       refine l_mv f rfl rfl fun a f => l_run f rfl rfl aH ?_
       refine l_in f rfl rfl rfl b_sub fun a f => l_run f rfl rfl aH ?_
       obtain ⟨aI, aJ, aF⟩ := bind_some aF
       refine l_at T42 f rfl rfl rfl h0 aJ fun aK aL a aM aN f => ?_
       subst aN
       refine l_run f rfl rfl aH ?_
       refine l_loadAt m Pl2 f rfl rfl aM fun a f => l_run f rfl rfl aH ?_
       refine l_mv f rfl rfl fun a f => l_run f rfl rfl aH ?_
       refine l_in f rfl rfl rfl b_geq fun a f => l_run f rfl rfl aD ?_
       refine l_op f rfl rfl rfl (r_pickT (f.eval rfl) aH (f.eval rfl)) fun a f => ?_
       obtain rfl := sj aF
       exact ⟨_, (GLe.refl _), m, f.weak ⟨rfl, rfl, rfl, rfl, rfl, rfl, rfl, rfl, rfl, rfl, rfl, rfl, rfl, rfl, rfl, rfl, rfl, trivial⟩⟩
      ·refine l_not' f rfl rfl rfl aH fun a f => ?_
       refine l_not' f rfl rfl rfl aH fun a f => l_not' f rfl rfl rfl aH fun a f => l_not' f rfl rfl rfl aH fun a f => l_not' f rfl rfl rfl aH fun a f => l_not' f rfl rfl rfl aH fun a f => l_not' f rfl rfl rfl aH fun a f => l_run f rfl rfl aD ?_
       refine l_op f rfl rfl rfl (r_pickF (f.eval rfl) aH (f.eval rfl)) fun a f => ?_
       obtain rfl := sj aF
       exact ⟨_, (GLe.refl _), m, f.weak ⟨rfl, rfl, rfl, rfl, rfl, rfl, rfl, rfl, rfl, rfl, rfl, rfl, rfl, rfl, rfl, rfl, rfl, trivial⟩⟩
     ·rintro a w ⟨aG, aO, m, f⟩
      have h0 := rd1 aO h0
      refine l_op f rfl rfl rfl (r_pickF (f.eval rfl) aD (f.eval rfl)) fun a f => ?_
      obtain rfl := sj aB
      exact ⟨_, aO, m, f.weak ⟨rfl, rfl, rfl, rfl, rfl, rfl, rfl, rfl, rfl, rfl, rfl, rfl, rfl, rfl, trivial⟩⟩
   ·rintro a w ⟨aC, aP, m, f⟩
    have h0 := rd1 aP h0
    refine l_nil ?_
    rcases cond_some ah with ⟨aQ, ah⟩ | ⟨aQ, ah⟩
    ·refine k_true f rfl aQ ?_
     refine k_seq (k_region ?_)
     refine l_as f rfl rfl fun a f => l_nil ?_
     refine k_ret ?_
     obtain rfl := sj ah
     obtain rfl := ai _ rfl
     obtain rfl := sj hd
     exact ⟨[(.bool false)], ⟨f.get _ _ rfl, trivial⟩, f.defers, _, [], (GLe.trans aj (GLe.trans ay aP)), m, rfl, rfl⟩
    ·refine k_false f rfl aQ ?_
     refine k_skip ?_
     refine k_region ?_
     refine l_in f rfl rfl rfl b_add fun a f => l_mv f rfl rfl fun a f => l_nil ?_
     obtain rfl := sj ah
     exact ⟨_, rfl, _, rfl, _, (GLe.trans aj (GLe.trans ay aP)), f.weak ⟨rfl, rfl, rfl, rfl, rfl, trivial⟩, m⟩
  ·refine k_false f rfl ak ?_
   refine k_exit rfl ?_
   obtain rfl := sj ah
   obtain rfl := ai _ rfl
   exact ⟨_, rfl, _, aj, f.weak trivial, m⟩
 ·rintro a w ⟨_, rfl, ac, aR, f, m⟩
  refine k_seq (k_region ?_)
  refine l_as f rfl rfl fun a f => l_nil ?_
  refine k_ret ?_
  obtain rfl := sj hd
  exact ⟨[(.bool true)], ⟨f.get _ _ rfl, trivial⟩, f.defers, _, [], aR, m, rfl, rfl⟩

theorem Wk.impl_GraphOk {W w : World} {G : GH} {H : List Itm} {v0_0 : Value} {x0_0 : (List (List Int))} (m : Mem W G w (H)) (h0_0 : RSl (RSl (RI .i64)) G v0_0 x0_0) {y : Bool} (hd : D.impl_GraphOk x0_0 = some y) :
  Calls Tryz.prog 93 #[(.agg #[v0_0])] w (Res W G H (fun _ Ho v => Ho = [] ∧ v = (.bool y))) := by
 refine calls_b (args := [(.agg #[v0_0])]) (N := 61) [.tmp 2] Tryz.func93 rfl rfl (Nat.le_of_ble_eq_true rfl) rfl fun a f => ?_
 unfold D.impl_GraphOk at hd
 refine k_seq (k_region ?_)
 refine l_box (cs := [v0_0]) m f rfl rfl rfl fun aa w a m f => l_as f rfl rfl fun a f => l_nil (k_seq (k_region ?_))
 refine l_fieldAddr Tryz.underlying30 rfl Tryz.sizeOf22 (by decide) f rfl rfl fun a f => l_boxCell 0 0 m Pl22 f rfl rfl rfl rfl fun a f => l_len Tryz.underlying22 f rfl rfl h0_0 fun a f => l_as f rfl rfl fun a f => l_nil (k_seq (k_seq (k_region ?_)))
 refine l_mv f rfl rfl fun a f => l_in f rfl rfl rfl b_lss fun a f => l_mv f rfl rfl fun a f => ?_
 refine l_cut 3 (fun a w => ∃ ab, GLe G ab ∧ Mem W ab w (Itm.box aa 30 [v0_0] :: H) ∧ Fr a 61 [(0, (.agg #[v0_0])), (1, (.pointer (some ⟨aa, 0, none⟩))), (3, (.int .i64 (x0_0.length : Int))), (13, (.int .i64 (x0_0.length : Int))), (14, (.bool (decide ((x0_0.length : Int) < 1)))), (15, (.bool (decide ((x0_0.length : Int) < 1)))), (18, (.bool ((decide ((x0_0.length : Int) < 1)) || (decide ((16 : Int) < (x0_0.length : Int))))))]) ?_ ?_
 ·rcases Bool.eq_false_or_eq_true (decide ((x0_0.length : Int) < 1)) with ac | ac
  ·refine l_not' f rfl rfl rfl ac fun a f => ?_
   refine l_not' f rfl rfl rfl ac fun a f => l_op f rfl rfl rfl (r_pickT (f.eval rfl) ac (f.eval rfl)) fun a f => ?_
   exact ⟨_, (GLe.refl _), m, f.weak ⟨rfl, rfl, rfl, rfl, rfl, rfl, by rw [ac]; rfl, trivial⟩⟩
  ·refine l_run f rfl rfl ac ?_
   refine l_mv f rfl rfl fun a f => l_run f rfl rfl ac ?_
   refine l_in f rfl rfl rfl b_gtr fun a f => l_op f rfl rfl rfl (r_pickF (f.eval rfl) ac (f.eval rfl)) fun a f => ?_
   exact ⟨_, (GLe.refl _), m, f.weak ⟨rfl, rfl, rfl, rfl, rfl, rfl, by rw [ac]; rfl, trivial⟩⟩
 ·rintro a w ⟨ab, ad, m, f⟩
  have h0_0 := rd2 ad h0_0
  refine l_nil ?_
  rcases cond_some hd with ⟨ae, hd⟩ | ⟨ae, hd⟩
  ·refine k_true f rfl ae ?_
   refine k_seq (k_region ?_)
   refine l_as f rfl rfl fun a f => l_nil ?_
   refine k_ret ?_
   have m : Mem W ab w H := Mem.drop (H' := [Itm.box aa 30 [v0_0]]) m
   obtain rfl := sj hd
   exact ⟨[(.bool false)], ⟨f.get _ _ rfl, trivial⟩, f.defers, _, [], ad, m, rfl, rfl⟩
  ·refine k_false f rfl ae ?_
   refine k_skip ?_
   refine k_seq (k_seq (k_region ?_))
   refine l_fieldAddr Tryz.underlying30 rfl Tryz.sizeOf22 (by decide) f rfl rfl fun a f => l_boxCell 0 0 m Pl22 f rfl rfl rfl rfl fun a f => l_len Tryz.underlying22 f rfl rfl h0_0 fun a f => l_mv f rfl rfl fun a f => l_nil ?_
   obtain ⟨af, ag, hd⟩ := bind_some hd
   refine k_cut (fun a w => ∃ q_91' : Unit, af = .inl q_91' ∧ ∃ (ah : GH), GLe ab ah ∧ Fr a 61 [(1, (.pointer (some ⟨aa, 0, none⟩)))] ∧ Mem W ah w (Itm.box aa 30 [v0_0] :: H)) ?_ ?_
   ·refine k_block ?_
    refine k_loop (fun ai a w => ∃ aj : Int, aj = ai ∧ ∃ (ak : GH), GLe ab ak ∧ Fr a 61 [(1, (.pointer (some ⟨aa, 0, none⟩))), (3, (.int .i64 (x0_0.length : Int))), (20, v0_0), (21, (.int .i64 (x0_0.length : Int))), (22, (.int .i64 aj))] ∧ Mem W ak w (Itm.box aa 30 [v0_0] :: H)) ag ⟨_, rfl, _, (GLe.refl _), f.weak ⟨rfl, rfl, rfl, rfl, rfl, trivial⟩, m⟩ ?_
    clear ag f m
    rintro ai al am an a w ⟨aj, rfl, ak, ao, f, m⟩
    have h0_0 := rd2 ao h0_0
    refine k_seq (k_region ?_)
    refine l_in f rfl rfl rfl b_lss fun a f => l_nil (k_seq ?_)
    rcases cond_some am with ⟨ap, am⟩ | ⟨ap, am⟩
    ·refine k_true f rfl ap ?_
     refine k_skip ?_
     refine k_seq (k_block (k_seq (k_region ?_)))
     refine l_mv f rfl rfl fun a f => ?_
     obtain ⟨aq, ar, am⟩ := bind_some am
     refine l_at T22 f rfl rfl rfl h0_0 ar fun au av a aw ax f => l_loadAt m Pl42 f rfl rfl aw fun a f => l_as f rfl rfl fun a f => l_as f rfl rfl fun a f => l_nil (k_seq (k_region ?_))
     refine l_mv f rfl rfl fun a f => l_mv f rfl rfl fun a f => ?_
     obtain ⟨ay, az, am⟩ := bind_some am
     refine l_res f rfl rfl Tryz.call95 (Wk.impl_increasing m ax az) fun aA aB aC w aD m aE a f => ?_
     obtain ⟨rfl, rfl⟩ := aE
     have ax := rd1 aD ax
     have h0_0 := rd2 aD h0_0
     refine l_op f rfl rfl rfl (r_not (f.eval rfl)) fun a f => l_mv f rfl rfl fun a f => ?_
     obtain ⟨aF, aG, am⟩ := bind_some am
     refine l_cut 4 (fun a w => ∃ aH, GLe aB aH ∧ Mem W aH w (Itm.box aa 30 [v0_0] :: H) ∧ Fr a 61 [(1, (.pointer (some ⟨aa, 0, none⟩))), (3, (.int .i64 (x0_0.length : Int))), (4, (.int .i64 aj)), (5, av), (20, v0_0), (21, (.int .i64 (x0_0.length : Int))), (22, (.int .i64 aj)), (27, av), (28, (.int .i64 (x0_0.length : Int))), (29, (.bool ay)), (30, (.bool (!ay))), (31, (.bool (!ay))), (35, (.bool aF))]) ?_ ?_
     ·rcases cond_some aG with ⟨aI, aG⟩ | ⟨aI, aG⟩
      ·refine l_not' f rfl rfl rfl aI fun a f => ?_
       refine l_not' f rfl rfl rfl aI fun a f => l_not' f rfl rfl rfl aI fun a f => l_op f rfl rfl rfl (r_pickT (f.eval rfl) aI (f.eval rfl)) fun a f => ?_
       obtain rfl := sj aG
       exact ⟨_, (GLe.refl _), m, f.weak ⟨rfl, rfl, rfl, rfl, rfl, rfl, rfl, rfl, rfl, rfl, rfl, rfl, rfl, trivial⟩⟩
      ·refine l_run f rfl rfl aI ?_
       refine l_mv f rfl rfl fun a f => l_run f rfl rfl aI ?_
       refine l_mv f rfl rfl fun a f => l_run f rfl rfl aI ?_
       obtain ⟨aJ, aK, aG⟩ := bind_some aG
       refine l_res f rfl rfl Tryz.call109 (Wk.slices_Contains_int64_int64 m ax aK) fun aL aM aN w aO m aP a f => ?_
       obtain ⟨rfl, rfl⟩ := aP
       have ax := rd1 aO ax
       have h0_0 := rd2 aO h0_0
       refine l_op f rfl rfl rfl (r_pickF (f.eval rfl) aI (f.eval rfl)) fun a f => ?_
       obtain rfl := sj aG
       exact ⟨_, aO, m, f.weak ⟨rfl, rfl, rfl, rfl, rfl, rfl, rfl, rfl, rfl, rfl, rfl, rfl, rfl, trivial⟩⟩
     ·rintro a w ⟨aH, aQ, m, f⟩
      have ax := rd1 aQ ax
      have h0_0 := rd2 aQ h0_0
      refine l_nil ?_
      rcases cond_some am with ⟨aR, am⟩ | ⟨aR, am⟩
      ·refine k_true f rfl aR ?_
       refine k_seq (k_region ?_)
       refine l_as f rfl rfl fun a f => l_nil ?_
       refine k_ret ?_
       have m : Mem W aH w H := Mem.drop (H' := [Itm.box aa 30 [v0_0]]) m
       obtain rfl := sj am
       obtain rfl := an _ rfl
       obtain rfl := sj hd
       exact ⟨[(.bool false)], ⟨f.get _ _ rfl, trivial⟩, f.defers, _, [], (GLe.trans ad (GLe.trans ao (GLe.trans aD aQ))), m, rfl, rfl⟩
      ·refine k_false f rfl aR ?_
       refine k_skip ?_
       refine k_region ?_
       refine l_in f rfl rfl rfl b_add fun a f => l_mv f rfl rfl fun a f => l_nil ?_
       obtain rfl := sj am
       exact ⟨_, rfl, _, rfl, _, (GLe.trans ao (GLe.trans aD aQ)), f.weak ⟨rfl, rfl, rfl, rfl, rfl, trivial⟩, m⟩
    ·refine k_false f rfl ap ?_
     refine k_exit rfl ?_
     obtain rfl := sj am
     obtain rfl := an _ rfl
     exact ⟨_, rfl, _, ao, f.weak ⟨rfl, trivial⟩, m⟩
   ·rintro a w ⟨_, rfl, ah, aS, f, m⟩
    have h0_0 := rd2 aS h0_0
    refine k_seq (k_seq (k_region ?_))
    refine l_fieldAddr Tryz.underlying30 rfl Tryz.sizeOf22 (by decide) f rfl rfl fun a f => l_boxCell 0 0 m Pl22 f rfl rfl rfl rfl fun a f => l_len Tryz.underlying22 f rfl rfl h0_0 fun a f => l_mv f rfl rfl fun a f => l_nil ?_
    obtain ⟨aT, aU, hd⟩ := bind_some hd
    refine k_cut (fun a w => ∃ q_394' : Unit, aT = .inl q_394' ∧ ∃ (aV : GH), GLe ah aV ∧ Fr a 61 [] ∧ Mem W aV w (H)) ?_ ?_
    ·refine k_block ?_
     refine k_loop (fun aW a w => ∃ aX : Int, aX = aW ∧ ∃ (aY : GH), GLe ah aY ∧ Fr a 61 [(1, (.pointer (some ⟨aa, 0, none⟩))), (38, v0_0), (39, (.int .i64 (x0_0.length : Int))), (40, (.int .i64 aX))] ∧ Mem W aY w (Itm.box aa 30 [v0_0] :: H)) aU ⟨_, rfl, _, (GLe.refl _), f.weak ⟨rfl, rfl, rfl, rfl, trivial⟩, m⟩ ?_
     clear aU f m
     rintro aW aZ a0 a1 a w ⟨aX, rfl, aY, a2, f, m⟩
     have h0_0 := rd2 a2 h0_0
     refine k_seq (k_region ?_)
     refine l_in f rfl rfl rfl b_lss fun a f => l_nil (k_seq ?_)
     rcases cond_some a0 with ⟨a3, a0⟩ | ⟨a3, a0⟩
     ·refine k_true f rfl a3 ?_
      refine k_skip ?_
      refine k_seq (k_block (k_seq (k_region ?_)))
      refine l_mv f rfl rfl fun a f => ?_
      obtain ⟨a4, a5, a0⟩ := bind_some a0
      refine l_at T22 f rfl rfl rfl h0_0 a5 fun a6 a7 a a8 a9 f => l_loadAt m Pl42 f rfl rfl a8 fun a f => l_as f rfl rfl fun a f => l_as f rfl rfl fun a f => l_nil (k_seq (k_region ?_))
      refine l_mv f rfl rfl fun a f => l_len Tryz.underlying42 f rfl rfl a9 fun a f => l_mv f rfl rfl fun a f => l_nil ?_
      obtain ⟨ba, bb, a0⟩ := bind_some a0
      refine k_cut (fun a w => ∃ q_560' : Unit, ba = .inl q_560' ∧ ∃ (bc : GH), GLe aY bc ∧ Fr a 61 [(1, (.pointer (some ⟨aa, 0, none⟩))), (38, v0_0), (39, (.int .i64 (x0_0.length : Int))), (40, (.int .i64 aX))] ∧ Mem W bc w (Itm.box aa 30 [v0_0] :: H)) ?_ ?_
      ·refine k_block ?_
       refine k_loop (fun bd a w => ∃ be : Int, be = bd ∧ ∃ (bf : GH), GLe aY bf ∧ Fr a 61 [(1, (.pointer (some ⟨aa, 0, none⟩))), (6, (.int .i64 aX)), (38, v0_0), (39, (.int .i64 (x0_0.length : Int))), (40, (.int .i64 aX)), (45, a7), (46, (.int .i64 (a4.length : Int))), (47, (.int .i64 be))] ∧ Mem W bf w (Itm.box aa 30 [v0_0] :: H)) bb ⟨_, rfl, _, (GLe.refl _), f.weak ⟨rfl, rfl, rfl, rfl, rfl, rfl, rfl, rfl, trivial⟩, m⟩ ?_
       clear bb f m
       rintro bd bg bh bi a w ⟨be, rfl, bf, bj, f, m⟩
       have h0_0 := rd2 bj h0_0
       have a9 := rd1 bj a9
       refine k_seq (k_region ?_)
       refine l_in f rfl rfl rfl b_lss fun a f => l_nil (k_seq ?_)
       rcases cond_some bh with ⟨bk, bh⟩ | ⟨bk, bh⟩
       ·refine k_true f rfl bk ?_
        refine k_skip ?_
        refine k_seq (k_block (k_seq (k_region ?_)))
        obtain ⟨bl, bm, bh⟩ := bind_some bh
        refine l_at T42 f rfl rfl rfl a9 bm fun bn bo a bp bq f => ?_
        subst bq
        refine l_loadAt m Pl2 f rfl rfl bp fun a f => l_as f rfl rfl fun a f => l_nil (k_seq (k_region ?_))
        refine l_fieldAddr Tryz.underlying30 rfl Tryz.sizeOf22 (by decide) f rfl rfl fun a f => l_boxCell 0 0 m Pl22 f rfl rfl rfl rfl fun a f => l_mv f rfl rfl fun a f => ?_
        obtain ⟨br, bs, bh⟩ := bind_some bh
        refine l_at T22 f rfl rfl rfl h0_0 bs fun bt bu a bv bw f => l_loadAt m Pl42 f rfl rfl bv fun a f => l_mv f rfl rfl fun a f => ?_
        obtain ⟨bx, bz, bh⟩ := bind_some bh
        refine l_res f rfl rfl Tryz.call109 (Wk.slices_Contains_int64_int64 m bw bz) fun bA bB bC w bD m bE a f => ?_
        obtain ⟨rfl, rfl⟩ := bE
        have h0_0 := rd2 bD h0_0
        have a9 := rd1 bD a9
        have bv := At.mono bD bv
        have bw := rd1 bD bw
        refine l_op f rfl rfl rfl (r_not (f.eval rfl)) fun a f => l_nil ?_
        rcases cond_some bh with ⟨bF, bh⟩ | ⟨bF, bh⟩
        ·refine k_true f rfl bF ?_
         refine k_seq (k_region ?_)
         refine l_as f rfl rfl fun a f => l_nil ?_
         refine k_ret ?_
         have m : Mem W bB w H := Mem.drop (H' := [Itm.box aa 30 [v0_0]]) m
         obtain rfl := sj bh
         obtain rfl := bi _ rfl
         obtain rfl := sj a0
         obtain rfl := a1 _ rfl
         obtain rfl := sj hd
         exact ⟨[(.bool false)], ⟨f.get _ _ rfl, trivial⟩, f.defers, _, [], (GLe.trans ad (GLe.trans aS (GLe.trans a2 (GLe.trans bj bD)))), m, rfl, rfl⟩
        ·refine k_false f rfl bF ?_
         refine k_skip ?_
         refine k_region ?_
         refine l_in f rfl rfl rfl b_add fun a f => l_mv f rfl rfl fun a f => l_nil ?_
         obtain rfl := sj bh
         exact ⟨_, rfl, _, rfl, _, (GLe.trans bj bD), f.weak ⟨rfl, rfl, rfl, rfl, rfl, rfl, rfl, rfl, trivial⟩, m⟩
       ·refine k_false f rfl bk ?_
        refine k_exit rfl ?_
        obtain rfl := sj bh
        obtain rfl := bi _ rfl
        exact ⟨_, rfl, _, bj, f.weak ⟨rfl, rfl, rfl, rfl, trivial⟩, m⟩
      ·rintro a w ⟨_, rfl, bc, bG, f, m⟩
       have h0_0 := rd2 bG h0_0
       refine k_region ?_
       refine l_in f rfl rfl rfl b_add fun a f => l_mv f rfl rfl fun a f => l_nil ?_
       obtain rfl := sj a0
       exact ⟨_, rfl, _, rfl, _, (GLe.trans a2 bG), f.weak ⟨rfl, rfl, rfl, rfl, trivial⟩, m⟩
     ·refine k_false f rfl a3 ?_
      refine k_exit rfl ?_
      have m : Mem W aY w H := Mem.drop (H' := [Itm.box aa 30 [v0_0]]) m
      obtain rfl := sj a0
      obtain rfl := a1 _ rfl
      exact ⟨_, rfl, _, a2, f.weak trivial, m⟩
    ·rintro a w ⟨_, rfl, aV, bH, f, m⟩
     refine k_seq (k_region ?_)
     refine l_as f rfl rfl fun a f => l_nil ?_
     refine k_ret ?_
     obtain rfl := sj hd
     exact ⟨[(.bool true)], ⟨f.get _ _ rfl, trivial⟩, f.defers, _, [], (GLe.trans ad (GLe.trans aS bH)), m, rfl, rfl⟩

theorem Wk.impl_goodLinks_1 {W w : World} {G : GH} {H : List Itm} {v0 : Value} {b1 : Nat} {x0 : (List Int)} {x1_0 : Int} (m : Mem W G w (Itm.box b1 3 [(.int .i64 x1_0)] :: H)) (h0 : RSl (RI .i64) G v0 x0) {y : Bool} (hd : D.impl_goodLinks_1 x0 x1_0 = some y) :
  Calls Tryz.prog 145 #[v0, (.pointer (some ⟨b1, 0, none⟩))] w (Res W G H (fun _ Ho v => Ho = [Itm.box b1 3 [(.int .i64 x1_0)]] ∧ v = (.bool y))) := by
 refine calls_b (args := [v0, (.pointer (some ⟨b1, 0, none⟩))]) (N := 13) [.tmp 3] Tryz.func145 rfl rfl (Nat.le_of_ble_eq_true rfl) rfl fun a f => ?_
 unfold D.impl_goodLinks_1 at hd
 refine k_seq (k_region ?_)
 refine l_as f rfl rfl fun a f => l_nil (k_seq (k_region ?_))
 refine l_mv f rfl rfl fun a f => l_len Tryz.underlying42 f rfl rfl h0 fun a f => l_in f rfl rfl rfl b_neq fun a f => l_mv f rfl rfl fun a f => ?_
 obtain ⟨aa, ab, hd⟩ := bind_some hd
 refine l_cut 5 (fun a w => ∃ ac, GLe G ac ∧ Mem W ac w (Itm.box b1 3 [(.int .i64 x1_0)] :: H) ∧ Fr a 13 [(0, v0), (1, (.pointer (some ⟨b1, 0, none⟩))), (4, v0), (5, (.int .i64 (x0.length : Int))), (6, (.bool ((x0.length : Int) != 2))), (7, (.bool ((x0.length : Int) != 2))), (12, (.bool aa))]) ?_ ?_
 ·rcases cond_some ab with ⟨ad, ab⟩ | ⟨ad, ab⟩
  ·refine l_not' f rfl rfl rfl ad fun a f => ?_
   refine l_not' f rfl rfl rfl ad fun a f => l_not' f rfl rfl rfl ad fun a f => l_not' f rfl rfl rfl ad fun a f => l_op f rfl rfl rfl (r_pickT (f.eval rfl) ad (f.eval rfl)) fun a f => ?_
   obtain rfl := sj ab
   exact ⟨_, (GLe.refl _), m, f.weak ⟨rfl, rfl, rfl, rfl, rfl, rfl, rfl, trivial⟩⟩
  ·refine l_run f rfl rfl ad ?_
   refine l_mv f rfl rfl fun a f => l_run f rfl rfl ad ?_
   refine l_boxCell 0 0 m Pl3 f rfl rfl rfl rfl fun a f => l_run f rfl rfl ad ?_
   obtain ⟨ae, af, ab⟩ := bind_some ab
   refine l_res f rfl rfl Tryz.call95 (Wk.impl_increasing m h0 af) fun ag ah ai w aj m ak a f => ?_
   obtain ⟨rfl, rfl⟩ := ak
   have h0 := rd1 aj h0
   refine l_run f rfl rfl ad ?_
   refine l_op f rfl rfl rfl (r_not (f.eval rfl)) fun a f => l_op f rfl rfl rfl (r_pickF (f.eval rfl) ad (f.eval rfl)) fun a f => ?_
   obtain rfl := sj ab
   exact ⟨_, aj, m, f.weak ⟨rfl, rfl, rfl, rfl, rfl, rfl, rfl, trivial⟩⟩
 ·rintro a w ⟨ac, al, m, f⟩
  have h0 := rd1 al h0
  refine l_as f rfl rfl fun a f => l_nil ?_
  refine k_ret ?_
  obtain rfl := sj hd
  exact ⟨[(.bool aa)], ⟨f.get _ _ rfl, trivial⟩, f.defers, _, [Itm.box b1 3 [(.int .i64 x1_0)]], al, m, rfl, rfl⟩

theorem Wk.slices_IndexFunc_int64_int64__impl_goodLinks_1 {W w : World} {G : GH} {H : List Itm} {v0 : Value} {b1c0 : Nat} {x0 : (List (List Int))} {x1c0_0 : Int} (m : Mem W G w (Itm.box b1c0 3 [(.int .i64 x1c0_0)] :: H)) (h0 : RSl (RSl (RI .i64)) G v0 x0) {y : Int} (hd : D.slices_IndexFunc_int64_int64__impl_goodLinks_1 x0 x1c0_0 = some y) :
  Calls Tryz.prog 178 #[v0, (.func (.func 145) #[] #[(.pointer (some ⟨b1c0, 0, none⟩))])] w (Res W G H (fun _ Ho v => Ho = [Itm.box b1c0 3 [(.int .i64 x1c0_0)]] ∧ v = (.int .i64 y))) := by
 refine calls_b (args := [v0, (.func (.func 145) #[] #[(.pointer (some ⟨b1c0, 0, none⟩))])]) (N := 19) [.tmp 4] Tryz.func178 rfl rfl (Nat.le_of_ble_eq_true rfl) rfl fun a f => ?_
 unfold D.slices_IndexFunc_int64_int64__impl_goodLinks_1 at hd
 refine k_seq (k_region ?_)
 refine l_as f rfl rfl fun a f => l_nil (k_seq (k_seq (k_region ?_)))
 refine l_mv f rfl rfl fun a f => l_len Tryz.underlying22 f rfl rfl h0 fun a f => l_mv f rfl rfl fun a f => l_nil ?_
 obtain ⟨aa, ab, hd⟩ := bind_some hd
 refine k_cut (fun a w => ∃ q_33' : Unit, aa = .inl q_33' ∧ ∃ (ac : GH), GLe G ac ∧ Fr a 19 [] ∧ Mem W ac w (Itm.box b1c0 3 [(.int .i64 x1c0_0)] :: H)) ?_ ?_
 ·refine k_block ?_
  refine k_loop (fun ad a w => ∃ ae : Int, ae = ad ∧ ∃ (af : GH), GLe G af ∧ Fr a 19 [(0, v0), (1, (.func (.func 145) #[] #[(.pointer (some ⟨b1c0, 0, none⟩))])), (7, (.int .i64 (x0.length : Int))), (8, (.int .i64 ae))] ∧ Mem W af w (Itm.box b1c0 3 [(.int .i64 x1c0_0)] :: H)) ab ⟨_, rfl, _, (GLe.refl _), f.weak ⟨rfl, rfl, rfl, rfl, trivial⟩, m⟩ ?_
  clear ab f m
  rintro ad ag ah ai a w ⟨ae, rfl, af, aj, f, m⟩
  have h0 := rd2 aj h0
  refine k_seq (k_region ?_)
  refine l_in f rfl rfl rfl b_lss fun a f => l_nil (k_seq ?_)
  rcases cond_some ah with ⟨ak, ah⟩ | ⟨ak, ah⟩
  ·refine k_true f rfl ak ?_
   refine k_skip ?_
   refine k_seq (k_block (k_seq (k_region ?_)))
   refine l_mv f rfl rfl fun a f => l_as f rfl rfl fun a f => l_nil (k_seq (k_region ?_))
   refine l_mv f rfl rfl fun a f => l_mv f rfl rfl fun a f => l_mv f rfl rfl fun a f => ?_
   obtain ⟨al, am, ah⟩ := bind_some ah
   refine l_at T22 f rfl rfl rfl h0 am fun an ao a ap aq f => l_loadAt m Pl42 f rfl rfl ap fun a f => ?_
   obtain ⟨ar, au, ah⟩ := bind_some ah
   refine l_resv0 f rfl rfl rfl Tryz.call145 (Wk.impl_goodLinks_1 m aq au) fun av aw ax w ay m az a f => ?_
   obtain ⟨rfl, rfl⟩ := az
   have h0 := rd2 ay h0
   have ap := At.mono ay ap
   have aq := rd1 ay aq
   refine l_nil ?_
   rcases cond_some ah with ⟨aA, ah⟩ | ⟨aA, ah⟩
   ·refine k_true f rfl aA ?_
    refine k_seq (k_region ?_)
    refine l_mv f rfl rfl fun a f => l_as f rfl rfl fun a f => l_nil ?_
    refine k_ret ?_
    obtain rfl := sj ah
    obtain rfl := ai _ rfl
    obtain rfl := sj hd
    exact ⟨[(.int .i64 ae)], ⟨f.get _ _ rfl, trivial⟩, f.defers, _, [Itm.box b1c0 3 [(.int .i64 x1c0_0)]], (GLe.trans aj ay), m, rfl, rfl⟩
   ·refine k_false f rfl aA ?_
    refine k_skip ?_
    refine k_region ?_
    refine l_in f rfl rfl rfl b_add fun a f => l_mv f rfl rfl fun a f => l_nil ?_
    obtain rfl := sj ah
    exact ⟨_, rfl, _, rfl, _, (GLe.trans aj ay), f.weak ⟨rfl, rfl, rfl, rfl, trivial⟩, m⟩
  ·refine k_false f rfl ak ?_
   refine k_exit rfl ?_
   obtain rfl := sj ah
   obtain rfl := ai _ rfl
   exact ⟨_, rfl, _, aj, f.weak trivial, m⟩
 ·rintro a w ⟨_, rfl, ac, aB, f, m⟩
  refine k_seq (k_region ?_)
  refine l_as f rfl rfl fun a f => l_nil ?_
  refine k_ret ?_
  obtain rfl := sj hd
  exact ⟨[(.int .i64 (-1))], ⟨f.get _ _ rfl, trivial⟩, f.defers, _, [Itm.box b1c0 3 [(.int .i64 x1c0_0)]], aB, m, rfl, rfl⟩

theorem Wk.slices_ContainsFunc_int64_int64__impl_goodLinks_1 {W w : World} {G : GH} {H : List Itm} {v0 : Value} {b1c0 : Nat} {x0 : (List (List Int))} {x1c0_0 : Int} (m : Mem W G w (Itm.box b1c0 3 [(.int .i64 x1c0_0)] :: H)) (h0 : RSl (RSl (RI .i64)) G v0 x0) {y : Bool} (hd : D.slices_ContainsFunc_int64_int64__impl_goodLinks_1 x0 x1c0_0 = some y) :
  Calls Tryz.prog 144 #[v0, (.func (.func 145) #[] #[(.pointer (some ⟨b1c0, 0, none⟩))])] w (Res W G H (fun _ Ho v => Ho = [Itm.box b1c0 3 [(.int .i64 x1c0_0)]] ∧ v = (.bool y))) := by
 refine calls_b (args := [v0, (.func (.func 145) #[] #[(.pointer (some ⟨b1c0, 0, none⟩))])]) (N := 9) [.tmp 4] Tryz.func144 rfl rfl (Nat.le_of_ble_eq_true rfl) rfl fun a f => ?_
 unfold D.slices_ContainsFunc_int64_int64__impl_goodLinks_1 at hd
 refine k_seq (k_region ?_)
 refine l_as f rfl rfl fun a f => l_nil (k_seq (k_region ?_))
 refine l_mv f rfl rfl fun a f => l_mv f rfl rfl fun a f => ?_
 obtain ⟨aa, ab, hd⟩ := bind_some hd
 refine l_res f rfl rfl Tryz.call178 (Wk.slices_IndexFunc_int64_int64__impl_goodLinks_1 m h0 ab) fun ac ad ae w af m ag a f => ?_
 obtain ⟨rfl, rfl⟩ := ag
 have h0 := rd2 af h0
 refine l_in f rfl rfl rfl b_geq fun a f => l_as f rfl rfl fun a f => l_nil ?_
 refine k_ret ?_
 obtain rfl := sj hd
 exact ⟨[(.bool (decide ((0 : Int) ≤ aa)))], ⟨f.get _ _ rfl, trivial⟩, f.defers, _, [Itm.box b1c0 3 [(.int .i64 x1c0_0)]], af, m, rfl, rfl⟩

theorem Wk.impl_goodLinks {W w : World} {G : GH} {H : List Itm} {v0 : Value} {x0 : (List (List Int))} {x1 : Int} (m : Mem W G w (H)) (h0 : RSl (RSl (RI .i64)) G v0 x0) {y : Bool} (hd : D.impl_goodLinks x0 x1 = some y) :
  Calls Tryz.prog 94 #[v0, (.int .i64 x1)] w (Res W G H (fun _ Ho v => Ho = [] ∧ v = (.bool y))) := by
 refine calls_b (args := [v0, (.int .i64 x1)]) (N := 9) [.tmp 4] Tryz.func94 rfl rfl (Nat.le_of_ble_eq_true rfl) rfl fun a f => ?_
 unfold D.impl_goodLinks at hd
 refine k_seq (k_region ?_)
 refine l_box (cs := [(.int .i64 x1)]) m f rfl rfl rfl fun aa w a m f => l_as f rfl rfl fun a f => l_nil (k_seq (k_region ?_))
 refine l_mv f rfl rfl fun a f => l_makeFunc f rfl rfl rfl fun a f => ?_
 obtain ⟨ab, ac, hd⟩ := bind_some hd
 refine l_res f rfl rfl Tryz.call144 (Wk.slices_ContainsFunc_int64_int64__impl_goodLinks_1 m h0 ac) fun ad ae af w ag m ah a f => ?_
 obtain ⟨rfl, rfl⟩ := ah
 have h0 := rd2 ag h0
 refine l_op f rfl rfl rfl (r_not (f.eval rfl)) fun a f => l_as f rfl rfl fun a f => l_nil ?_
 refine k_ret ?_
 have m : Mem W ae w H := Mem.drop (H' := [Itm.box aa 3 [(.int .i64 x1)]]) m
 obtain rfl := sj hd
 exact ⟨[(.bool (!ab))], ⟨f.get _ _ rfl, trivial⟩, f.defers, _, [], ag, m, rfl, rfl⟩

theorem Wk.impl_one {W w : World} {G : GH} {H : List Itm} {x0 : Int} (m : Mem W G w (H))  {y : Int} (hd : D.impl_one x0 = some y) :
  Calls Tryz.prog 100 #[(.int .i64 x0)] w (Res W G H (fun _ Ho v => Ho = [] ∧ v = (.int .u32 y))) := by
 refine calls_b (args := [(.int .i64 x0)]) (N := 5) [.tmp 2] Tryz.func100 rfl rfl (Nat.le_of_ble_eq_true rfl) rfl fun a f => ?_
 unfold D.impl_one at hd
 refine k_seq (k_region ?_)
 refine l_as f rfl rfl fun a f => l_nil (k_seq (k_region ?_))
 refine l_mv f rfl rfl fun a f => ?_
 obtain ⟨aa, hd⟩ := cond_none hd
 refine l_op f rfl rfl rfl (r_shl (f.eval rfl) (f.eval rfl) aa) fun a f => l_as f rfl rfl fun a f => l_nil ?_
 refine k_ret ?_
 obtain rfl := sj hd
 exact ⟨[(.int .u32 (ishl .u32 1 x0))], ⟨f.get _ _ rfl, trivial⟩, f.defers, _, [], (GLe.refl _), m, rfl, rfl⟩

theorem Wk.impl_nets_join {W w : World} {G : GH} {H : List Itm} {v0 : Value} {it0 : Itm} {x0 : (List Int)} {x1 : Int} {x2 : Int} (m : Mem W G w (it0 :: H)) (o0 : Ow (RI .u32) 76 G it0 v0 x0) {y : ((List Int))} (hd : D.impl_nets_join x0 x1 x2 = some y) :
  Calls Tryz.prog 55 #[v0, (.int .i64 x1), (.int .i64 x2)] w (Res W G H (fun G' Ho _ => ∃ i0 : Itm, Ho = [i0] ∧ Ow (RI .u32) 76 G' i0 v0 y)) := by
 refine calls_b (args := [v0, (.int .i64 x1), (.int .i64 x2)]) (N := 22) [] Tryz.func55 rfl rfl (Nat.le_of_ble_eq_true rfl) rfl fun a f => ?_
 unfold D.impl_nets_join at hd
 refine k_seq ?_
 refine k_draw 8 Follows (by kernel_rfl) m ?_
 refine q_mv 0 8 rfl (by kernel_rfl) f rfl rfl rfl fun a f => q_mv 1 8 rfl (by kernel_rfl) f rfl rfl rfl fun a f => ?_
 obtain ⟨aa, ab, hd⟩ := bind_some hd
 refine q_own_at (i := 2) 8 0 m o0 rfl T73 ab rfl (by kernel_rfl) rfl f rfl rfl rfl rfl fun ac a ad f => q_own_load (i := 3) 8 0 o0 rfl Pl76 ad ab rfl (by kernel_rfl) rfl f rfl rfl rfl fun ae a af f => ?_
 subst af
 refine q_mv 4 8 rfl (by kernel_rfl) f rfl rfl rfl fun a f => ?_
 obtain ⟨ag, ah, hd⟩ := bind_some hd
 refine q_call (i := 5) 8 rfl (by kernel_rfl) rfl f rfl rfl rfl Tryz.call100 (fun _ _ w ai m => Wk.impl_one m  ah) fun a f => q_p 6 8 rfl (by kernel_rfl) f rfl rfl rfl (fun _ => r_int (f.eval rfl) (f.eval rfl) b_or) fun a f => ?_
 obtain ⟨aj, ak, hd⟩ := bind_some hd
 refine q_own_at (i := 7) 8 0 m o0 rfl T73 ak rfl (by kernel_rfl) rfl f rfl rfl rfl rfl fun al a am f => q_end fun an w ao m => ?_
 have o0 := od1 ao o0
 refine l_own_store 0 m o0 rfl Tryz.sizeOf76 f rfl rfl am ak rfl rfl rfl fun ap w m aq => l_nil ?_
 refine k_draw 8 Follows (by kernel_rfl) m ?_
 refine q_mv 0 8 rfl (by kernel_rfl) f rfl rfl rfl fun a f => q_mv 1 8 rfl (by kernel_rfl) f rfl rfl rfl fun a f => ?_
 obtain ⟨ar, au, hd⟩ := bind_some hd
 refine q_own_at (i := 2) 8 0 m aq rfl T73 au rfl (by kernel_rfl) rfl f rfl rfl rfl rfl fun av a aw f => q_own_load (i := 3) 8 0 aq rfl Pl76 aw au rfl (by kernel_rfl) rfl f rfl rfl rfl fun ax a ay f => ?_
 subst ay
 refine q_mv 4 8 rfl (by kernel_rfl) f rfl rfl rfl fun a f => ?_
 obtain ⟨az, aA, hd⟩ := bind_some hd
 refine q_call (i := 5) 8 rfl (by kernel_rfl) rfl f rfl rfl rfl Tryz.call100 (fun _ _ w aB m => Wk.impl_one m  aA) fun a f => q_p 6 8 rfl (by kernel_rfl) f rfl rfl rfl (fun _ => r_int (f.eval rfl) (f.eval rfl) b_or) fun a f => ?_
 obtain ⟨aC, aD, hd⟩ := bind_some hd
 refine q_own_at (i := 7) 8 0 m aq rfl T73 aD rfl (by kernel_rfl) rfl f rfl rfl rfl rfl fun aE a aF f => q_end fun aG w aH m => ?_
 have aq := od1 aH aq
 refine l_own_store 0 m aq rfl Tryz.sizeOf76 f rfl rfl aF aD rfl rfl rfl fun aI w m aJ => l_nil ?_
 obtain rfl := sj hd
 exact ⟨[], trivial, f.defers, _, [aI], (GLe.trans ao aH), m, _, rfl, aJ⟩

theorem Wk.impl_linkNets {W w : World} {G : GH} {H : List Itm} {v0_0 : Value} {v0_1 : Value} {x0_0 : (List (List Int))} {x0_1 : (List (List Int))} (m : Mem W G w (H)) (h0_0 : RSl (RSl (RI .i64)) G v0_0 x0_0) (h0_1 : RSl (RSl (RI .i64)) G v0_1 x0_1) {y : ((List Int))} (hd : D.impl_linkNets x0_0 x0_1 = some y) :
  Calls Tryz.prog 96 #[(.agg #[v0_0, v0_1])] w (Res W G H (fun G' Ho v => ∃ r0 : Value, ∃ i0 : Itm, Ho = [i0] ∧ r0 = v ∧ Ow (RI .u32) 76 G' i0 r0 y)) := by
 refine calls_b (args := [(.agg #[v0_0, v0_1])]) (N := 27) [.tmp 2] Tryz.func96 rfl rfl (Nat.le_of_ble_eq_true rfl) rfl fun a f => ?_
 unfold D.impl_linkNets at hd
 refine k_seq (k_region ?_)
 refine l_box (cs := [v0_0, v0_1]) m f rfl rfl rfl fun aa w a m f => l_as f rfl rfl fun a f => l_nil (k_seq (k_region ?_))
 refine l_fieldAddr Tryz.underlying27 rfl Tryz.sizeOf22 (by decide) f rfl rfl fun a f => l_boxCell 0 0 m Pl22 f rfl rfl rfl rfl fun a f => l_len Tryz.underlying22 f rfl rfl h0_0 fun a f => ?_
 obtain ⟨ab, ac, hd⟩ := bind_some hd
 refine l_make (R := (RI .u32)) m T73 rfl (by decide) rfl f rfl rfl rfl ac fun ad ae w a m af f => l_as f rfl rfl fun a f => l_nil (k_seq (k_seq (k_region ?_)))
 refine l_fieldAddr Tryz.underlying27 rfl Tryz.sizeOf22 (by decide) f rfl rfl fun a f => l_boxCell 1 1 m Pl22 f rfl rfl rfl rfl fun a f => l_len Tryz.underlying22 f rfl rfl h0_1 fun a f => l_mv f rfl rfl fun a f => l_nil ?_
 obtain ⟨ag, ah, hd⟩ := bind_some hd
 refine k_cut (fun a w => ∃ ai : List Int, ai = ag ∧ ∃ (aj : GH) (ak : Itm), GLe G aj ∧ Fr a 27 [(3, ae)] ∧ Mem W aj w (ak :: H) ∧ Ow (RI .u32) 76 aj ak ae ai) ?_ ?_
 ·refine k_block ?_
  have m := m.eraseAt 1
  refine k_loop (fun al a w => ∃ am : List Int, ∃ an : Int, (am, an) = al ∧ ∃ (ao : GH) (ap : Itm), GLe G ao ∧ Fr a 27 [(3, ae), (11, v0_1), (12, (.int .i64 (x0_1.length : Int))), (13, (.int .i64 an))] ∧ Mem W ao w (ap :: H) ∧ Ow (RI .u32) 76 ao ap ae am) ah ⟨_, _, rfl, _, ad, (GLe.refl _), f.weak ⟨rfl, rfl, rfl, rfl, trivial⟩, m, af⟩ ?_
  clear ah f m
  rintro al aq ar au a w ⟨am, an, rfl, ao, ap, av, f, m, aw⟩
  have h0_1 := rd2 av h0_1
  refine k_seq (k_region ?_)
  refine l_in f rfl rfl rfl b_lss fun a f => l_nil (k_seq ?_)
  rcases cond_some ar with ⟨ax, ar⟩ | ⟨ax, ar⟩
  ·refine k_true f rfl ax ?_
   refine k_skip ?_
   refine k_seq (k_block (k_seq (k_region ?_)))
   obtain ⟨ay, az, ar⟩ := bind_some ar
   refine l_at T22 f rfl rfl rfl h0_1 az fun aA aB a aC aD f => l_loadAt m Pl42 f rfl rfl aC fun a f => l_as f rfl rfl fun a f => l_nil ?_
   refine k_draw 7 Follows (by kernel_rfl) m ?_
   refine q_mv 0 7 rfl (by kernel_rfl) f rfl rfl rfl fun a f => q_mv 1 7 rfl (by kernel_rfl) f rfl rfl rfl fun a f => ?_
   obtain ⟨aE, aF, ar⟩ := bind_some ar
   refine q_at (i := 2) 7 T42 aD aF rfl (by kernel_rfl) rfl f rfl rfl rfl rfl fun aG aH a aI aJ f => ?_
   subst aJ
   refine q_loadAt (i := 3) 7 Pl2 aI rfl (by kernel_rfl) rfl f rfl rfl rfl fun a f => q_mv 4 7 rfl (by kernel_rfl) f rfl rfl rfl fun a f => ?_
   obtain ⟨aK, aL, ar⟩ := bind_some ar
   refine q_at (i := 5) 7 T42 aD aL rfl (by kernel_rfl) rfl f rfl rfl rfl rfl fun aM aN a aO aP f => ?_
   subst aP
   refine q_loadAt (i := 6) 7 Pl2 aO rfl (by kernel_rfl) rfl f rfl rfl rfl fun a f => q_end fun aQ w aR m => ?_
   have aD := rd1 aR aD
   have h0_1 := rd2 aR h0_1
   have aI := At.mono aR aI
   have aO := At.mono aR aO
   have aw := od1 aR aw
   obtain ⟨aS, aT, ar⟩ := bind_some ar
   refine l_res f rfl rfl Tryz.call55 (Wk.impl_nets_join m aw aT) fun aU aV aW w aX m aY a f => ?_
   obtain ⟨aZ, rfl, a0⟩ := aY
   have aD := rd1 aX aD
   have h0_1 := rd2 aX h0_1
   have aI := At.mono aX aI
   have aO := At.mono aX aO
   refine l_nil (k_region ?_)
   refine l_in f rfl rfl rfl b_add fun a f => l_mv f rfl rfl fun a f => l_nil ?_
   obtain rfl := sj ar
   exact ⟨_, rfl, _, _, rfl, _, aZ, (GLe.trans av (GLe.trans aR aX)), f.weak ⟨rfl, rfl, rfl, rfl, trivial⟩, m, a0⟩
  ·refine k_false f rfl ax ?_
   refine k_exit rfl ?_
   obtain rfl := sj ar
   obtain rfl := au _ rfl
   exact ⟨_, rfl, _, ap, av, f.weak ⟨rfl, trivial⟩, m, aw⟩
 ·rintro a w ⟨ai, rfl, aj, ak, a1, f, m, a2⟩
  refine k_seq (k_region ?_)
  refine l_mv f rfl rfl fun a f => l_as f rfl rfl fun a f => l_nil ?_
  refine k_ret ?_
  obtain rfl := sj hd
  exact ⟨[ae], ⟨f.get _ _ rfl, trivial⟩, f.defers, _, [ak], a1, m, _, _, rfl, rfl, a2⟩

theorem Wk.impl_maskOf {W w : World} {G : GH} {H : List Itm} {v0 : Value} {x0 : (List Int)} (m : Mem W G w (H)) (h0 : RSl (RI .i64) G v0 x0) {y : Int} (hd : D.impl_maskOf x0 = some y) :
  Calls Tryz.prog 118 #[v0] w (Res W G H (fun _ Ho v => Ho = [] ∧ v = (.int .u32 y))) := by
 refine calls_b (args := [v0]) (N := 18) [.tmp 2] Tryz.func118 rfl rfl (Nat.le_of_ble_eq_true rfl) rfl fun a f => ?_
 unfold D.impl_maskOf at hd
 refine k_seq (k_region ?_)
 refine l_as f rfl rfl fun a f => l_nil (k_seq (k_region ?_))
 refine l_as f rfl rfl fun a f => l_nil (k_seq (k_seq (k_region ?_)))
 refine l_mv f rfl rfl fun a f => l_len Tryz.underlying42 f rfl rfl h0 fun a f => l_mv f rfl rfl fun a f => l_nil ?_
 obtain ⟨aa, ab, hd⟩ := bind_some hd
 refine k_cut (fun a w => ∃ ac : Int, ac = aa ∧ ∃ (ad : GH), GLe G ad ∧ Fr a 18 [(3, (.int .u32 ac))] ∧ Mem W ad w (H)) ?_ ?_
 ·refine k_block ?_
  refine k_loop (fun ae a w => ∃ af : Int, ∃ ag : Int, (af, ag) = ae ∧ ∃ (ah : GH), GLe G ah ∧ Fr a 18 [(3, (.int .u32 af)), (6, v0), (7, (.int .i64 (x0.length : Int))), (8, (.int .i64 ag))] ∧ Mem W ah w (H)) ab ⟨_, _, rfl, _, (GLe.refl _), f.weak ⟨rfl, rfl, rfl, rfl, trivial⟩, m⟩ ?_
  clear ab f m
  rintro ae ai aj ak a w ⟨af, ag, rfl, ah, al, f, m⟩
  have h0 := rd1 al h0
  refine k_seq (k_region ?_)
  refine l_in f rfl rfl rfl b_lss fun a f => l_nil (k_seq ?_)
  rcases cond_some aj with ⟨am, aj⟩ | ⟨am, aj⟩
  ·refine k_true f rfl am ?_
   refine k_skip ?_
   refine k_seq (k_block (k_seq (k_region ?_)))
   obtain ⟨an, ao, aj⟩ := bind_some aj
   refine l_at T42 f rfl rfl rfl h0 ao fun ap aq a ar au f => ?_
   subst au
   refine l_loadAt m Pl2 f rfl rfl ar fun a f => l_as f rfl rfl fun a f => l_nil (k_region ?_)
   refine l_mv f rfl rfl fun a f => l_mv f rfl rfl fun a f => ?_
   obtain ⟨av, aw, aj⟩ := bind_some aj
   refine l_res f rfl rfl Tryz.call100 (Wk.impl_one m  aw) fun ax ay az w aA m aB a f => ?_
   obtain ⟨rfl, rfl⟩ := aB
   have h0 := rd1 aA h0
   refine l_in f rfl rfl rfl b_or fun a f => l_as f rfl rfl fun a f => l_nil (k_region ?_)
   refine l_in f rfl rfl rfl b_add fun a f => l_mv f rfl rfl fun a f => l_nil ?_
   obtain rfl := sj aj
   exact ⟨_, rfl, _, _, rfl, _, (GLe.trans al aA), f.weak ⟨rfl, rfl, rfl, rfl, trivial⟩, m⟩
  ·refine k_false f rfl am ?_
   refine k_exit rfl ?_
   obtain rfl := sj aj
   obtain rfl := ak _ rfl
   exact ⟨_, rfl, _, al, f.weak ⟨rfl, trivial⟩, m⟩
 ·rintro a w ⟨ac, rfl, ad, aC, f, m⟩
  refine k_seq (k_region ?_)
  refine l_mv f rfl rfl fun a f => l_as f rfl rfl fun a f => l_nil ?_
  refine k_ret ?_
  obtain rfl := sj hd
  exact ⟨[(.int .u32 ac)], ⟨f.get _ _ rfl, trivial⟩, f.defers, _, [], aC, m, rfl, rfl⟩

end Go.Proofs.YtebbefpdncgoiaaGreatDoor
