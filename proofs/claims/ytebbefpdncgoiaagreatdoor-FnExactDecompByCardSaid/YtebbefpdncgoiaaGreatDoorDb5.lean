/- Parts of the proof: LBW. -/
import Derived.Test.YtebbefpdncgoiaaGreatDoorDb4
import Derived.Test.YtebbefpdncgoiaaGreatDoorProg
import Derived.KernelRfl
set_option linter.unusedVariables false
set_option linter.unusedSimpArgs false
set_option linter.unusedSectionVars false
set_option maxRecDepth 100000
namespace Go.Proofs.YtebbefpdncgoiaaGreatDoor
open Go Go.Sx
theorem Pl42 : Plain Tryz.prog 42 := Tryz.isAgg42
theorem T22 : SlT Tryz.prog 22 42 1 24 (.slice none 0 0) := ⟨Tryz.underlying22, Tryz.t42, by kernel_rfl, by kernel_rfl, by kernel_rfl, by kernel_rfl⟩
theorem Pl22 : Plain Tryz.prog 22 := Tryz.isAgg22
theorem Ag30 : Agg Tryz.prog 30 1 := ⟨Tryz.isAgg30, Tryz.sizeOf30⟩
theorem Pl4 : Plain Tryz.prog 4 := Tryz.isAgg4
theorem T142 : SlT Tryz.prog 142 4 1 1 (.bool false) := ⟨Tryz.underlying142, Tryz.t4, by kernel_rfl, by kernel_rfl, by kernel_rfl, by kernel_rfl⟩

theorem Wk.laws_szInt64S {W w : World} {G : GH} {H : List Itm} {v0 : Value} {x0 : (List Int)} {x1 : Int} (m : Mem W G w (H)) (h0 : RSl (RI .i64) G v0 x0) {y : Int} (hd : D.laws_szInt64S x0 x1 = some y) :
  Calls Tryz.prog 110 #[v0, (.int .i64 x1)] w (Res W G H (fun _ Ho v => Ho = [] ∧ v = (.int .i64 y))) := by
 refine calls_b (args := [v0, (.int .i64 x1)]) (N := 12) [.tmp 4] Tryz.func110 rfl rfl (Nat.le_of_ble_eq_true rfl) rfl fun a f => ?_
 unfold D.laws_szInt64S at hd
 refine k_seq (k_region ?_)
 refine l_as f rfl rfl fun a f => l_nil (k_seq (k_region ?_))
 refine l_mv f rfl rfl fun a f => l_mv f rfl rfl fun a f => l_len Tryz.underlying42 f rfl rfl h0 fun a f => l_in f rfl rfl rfl b_sub fun a f => l_as f rfl rfl fun a f => l_nil (k_seq (k_seq (k_region ?_)))
 refine l_mv f rfl rfl fun a f => l_in f rfl rfl rfl b_lss fun a f => l_nil ?_
 rcases cond_some hd with ⟨aa, hd⟩ | ⟨aa, hd⟩
 ·refine k_true f rfl aa ?_
  refine k_seq (k_region ?_)
  refine l_as f rfl rfl fun a f => l_nil ?_
  refine k_ret ?_
  obtain rfl := sj hd
  exact ⟨[(.int .i64 (-1))], ⟨f.get _ _ rfl, trivial⟩, f.defers, _, [], (GLe.refl _), m, rfl, rfl⟩
 ·refine k_false f rfl aa ?_
  refine k_skip ?_
  refine k_seq (k_region ?_)
  refine l_mv f rfl rfl fun a f => l_as f rfl rfl fun a f => l_nil ?_
  refine k_ret ?_
  obtain rfl := sj hd
  exact ⟨[(.int .i64 (IntKind.i64.wrap (x1 - (x0.length : Int))))], ⟨f.get _ _ rfl, trivial⟩, f.defers, _, [], (GLe.refl _), m, rfl, rfl⟩

theorem Wk.laws_szInt64SS {W w : World} {G : GH} {H : List Itm} {v0 : Value} {x0 : (List (List Int))} {x1 : Int} (m : Mem W G w (H)) (h0 : RSl (RSl (RI .i64)) G v0 x0) {y : Int} (hd : D.laws_szInt64SS x0 x1 = some y) :
  Calls Tryz.prog 43 #[v0, (.int .i64 x1)] w (Res W G H (fun _ Ho v => Ho = [] ∧ v = (.int .i64 y))) := by
 refine calls_b (args := [v0, (.int .i64 x1)]) (N := 27) [.tmp 4] Tryz.func43 rfl rfl (Nat.le_of_ble_eq_true rfl) rfl fun a f => ?_
 unfold D.laws_szInt64SS at hd
 refine k_seq (k_region ?_)
 refine l_as f rfl rfl fun a f => l_nil (k_seq (k_region ?_))
 refine l_mv f rfl rfl fun a f => l_mv f rfl rfl fun a f => l_len Tryz.underlying22 f rfl rfl h0 fun a f => l_in f rfl rfl rfl b_sub fun a f => l_as f rfl rfl fun a f => l_nil (k_seq (k_seq (k_region ?_)))
 refine l_mv f rfl rfl fun a f => l_in f rfl rfl rfl b_lss fun a f => l_nil ?_
 rcases cond_some hd with ⟨aa, hd⟩ | ⟨aa, hd⟩
 ·refine k_true f rfl aa ?_
  refine k_seq (k_region ?_)
  refine l_as f rfl rfl fun a f => l_nil ?_
  refine k_ret ?_
  obtain rfl := sj hd
  exact ⟨[(.int .i64 (-1))], ⟨f.get _ _ rfl, trivial⟩, f.defers, _, [], (GLe.refl _), m, rfl, rfl⟩
 ·refine k_false f rfl aa ?_
  refine k_skip ?_
  refine k_seq (k_seq (k_region ?_))
  refine l_as f rfl rfl fun a f => l_nil ?_
  obtain ⟨ab, ac, hd⟩ := bind_some hd
  refine k_cut (fun a w => ∃ q_35' : Int, ab = .inl q_35' ∧ ∃ ad : Int, ad = q_35' ∧ ∃ (ae : GH), GLe G ae ∧ Fr a 27 [(1, (.int .i64 ad))] ∧ Mem W ae w (H)) ?_ ?_
  ·refine k_block ?_
   refine k_loop (fun af a w => ∃ ag : Int, ∃ ah : Int, (ag, ah) = af ∧ ∃ (ai : GH), GLe G ai ∧ Fr a 27 [(0, v0), (1, (.int .i64 ag)), (5, (.int .i64 ah))] ∧ Mem W ai w (H)) ac ⟨_, _, rfl, _, (GLe.refl _), f.weak ⟨rfl, rfl, rfl, trivial⟩, m⟩ ?_
   clear ac f m
   rintro af aj ak al a w ⟨ag, ah, rfl, ai, am, f, m⟩
   have h0 := rd2 am h0
   refine k_seq (k_seq (k_region ?_))
   refine l_mv f rfl rfl fun a f => l_mv f rfl rfl fun a f => l_len Tryz.underlying22 f rfl rfl h0 fun a f => l_in f rfl rfl rfl b_lss fun a f => l_nil ?_
   rcases cond_some ak with ⟨an, ak⟩ | ⟨an, ak⟩
   ·refine k_true f rfl an ?_
    refine k_skip ?_
    refine k_seq (k_block (k_seq (k_region ?_)))
    refine l_mv f rfl rfl fun a f => l_mv f rfl rfl fun a f => ?_
    obtain ⟨ao, ap, ak⟩ := bind_some ak
    refine l_at T22 f rfl rfl rfl h0 ap fun aq ar a au av f => l_loadAt m Pl42 f rfl rfl au fun a f => l_mv f rfl rfl fun a f => ?_
    obtain ⟨aw, ax, ak⟩ := bind_some ak
    refine l_res f rfl rfl Tryz.call110 (Wk.laws_szInt64S m av ax) fun ay az aA w aB m aC a f => ?_
    obtain ⟨rfl, rfl⟩ := aC
    have h0 := rd2 aB h0
    have au := At.mono aB au
    have av := rd1 aB av
    refine l_as f rfl rfl fun a f => l_nil (k_seq (k_region ?_))
    refine l_mv f rfl rfl fun a f => l_in f rfl rfl rfl b_lss fun a f => l_nil ?_
    rcases cond_some ak with ⟨aD, ak⟩ | ⟨aD, ak⟩
    ·refine k_true f rfl aD ?_
     refine k_seq (k_region ?_)
     refine l_as f rfl rfl fun a f => l_nil ?_
     refine k_ret ?_
     obtain rfl := sj ak
     obtain rfl := al _ rfl
     obtain rfl := sj hd
     exact ⟨[(.int .i64 (-1))], ⟨f.get _ _ rfl, trivial⟩, f.defers, _, [], (GLe.trans am aB), m, rfl, rfl⟩
    ·refine k_false f rfl aD ?_
     refine k_skip ?_
     refine k_region ?_
     refine l_mv f rfl rfl fun a f => l_in f rfl rfl rfl b_add fun a f => l_as f rfl rfl fun a f => l_nil ?_
     obtain rfl := sj ak
     exact ⟨_, rfl, _, _, rfl, _, (GLe.trans am aB), f.weak ⟨rfl, rfl, rfl, trivial⟩, m⟩
   ·refine k_false f rfl an ?_
    refine k_exit rfl ?_
    obtain rfl := sj ak
    obtain rfl := al _ rfl
    exact ⟨_, rfl, _, rfl, _, am, f.weak ⟨rfl, trivial⟩, m⟩
  ·rintro a w ⟨_, rfl, ad, rfl, ae, aE, f, m⟩
   refine k_seq (k_region ?_)
   refine l_mv f rfl rfl fun a f => l_as f rfl rfl fun a f => l_nil ?_
   refine k_ret ?_
   obtain rfl := sj hd
   exact ⟨[(.int .i64 ad)], ⟨f.get _ _ rfl, trivial⟩, f.defers, _, [], aE, m, rfl, rfl⟩

theorem Wk.laws_szGraph {W w : World} {G : GH} {H : List Itm} {v0_0 : Value} {x0_0 : (List (List Int))} {x1 : Int} (m : Mem W G w (H)) (h0_0 : RSl (RSl (RI .i64)) G v0_0 x0_0) {y : Int} (hd : D.laws_szGraph x0_0 x1 = some y) :
  Calls Tryz.prog 8 #[(.agg #[v0_0]), (.int .i64 x1)] w (Res W G H (fun _ Ho v => Ho = [] ∧ v = (.int .i64 y))) := by
 refine calls_b (args := [(.agg #[v0_0]), (.int .i64 x1)]) (N := 12) [.tmp 4] Tryz.func8 rfl rfl (Nat.le_of_ble_eq_true rfl) rfl fun a f => ?_
 unfold D.laws_szGraph at hd
 refine k_seq (k_region ?_)
 refine l_box (cs := [v0_0]) m f rfl rfl rfl fun aa w a m f => l_as f rfl rfl fun a f => l_nil (k_seq (k_region ?_))
 refine l_fieldAddr Tryz.underlying24 rfl Tryz.sizeOf22 (by decide) f rfl rfl fun a f => l_boxCell 0 0 m Pl22 f rfl rfl rfl rfl fun a f => l_mv f rfl rfl fun a f => ?_
 obtain ⟨ab, ac, hd⟩ := bind_some hd
 refine l_res f rfl rfl Tryz.call43 (Wk.laws_szInt64SS m h0_0 ac) fun ad ae af w ag m ah a f => ?_
 obtain ⟨rfl, rfl⟩ := ah
 have h0_0 := rd2 ag h0_0
 refine l_as f rfl rfl fun a f => l_nil (k_seq (k_seq (k_region ?_)))
 refine l_mv f rfl rfl fun a f => l_in f rfl rfl rfl b_lss fun a f => l_nil ?_
 rcases cond_some hd with ⟨ai, hd⟩ | ⟨ai, hd⟩
 ·refine k_true f rfl ai ?_
  refine k_seq (k_region ?_)
  refine l_as f rfl rfl fun a f => l_nil ?_
  refine k_ret ?_
  have m : Mem W ae w H := Mem.drop (H' := [Itm.box aa 24 [v0_0]]) m
  obtain rfl := sj hd
  exact ⟨[(.int .i64 (-1))], ⟨f.get _ _ rfl, trivial⟩, f.defers, _, [], ag, m, rfl, rfl⟩
 ·refine k_false f rfl ai ?_
  refine k_skip ?_
  refine k_seq (k_region ?_)
  refine l_mv f rfl rfl fun a f => l_as f rfl rfl fun a f => l_nil ?_
  refine k_ret ?_
  have m : Mem W ae w H := Mem.drop (H' := [Itm.box aa 24 [v0_0]]) m
  obtain rfl := sj hd
  exact ⟨[(.int .i64 ab)], ⟨f.get _ _ rfl, trivial⟩, f.defers, _, [], ag, m, rfl, rfl⟩

theorem Wk.laws_toInt64S {W w : World} {G : GH} {H : List Itm} {v0 : Value} {x0 : (List Int)} (m : Mem W G w (H)) (h0 : RSl (RI .i64) G v0 x0) {y : ((List Int))} (hd : D.laws_toInt64S x0 = some y) :
  Calls Tryz.prog 22 #[v0] w (Res W G H (fun G' Ho v => ∃ r0 : Value, ∃ i0 : Itm, Ho = [i0] ∧ r0 = v ∧ Ow (RI .i64) 2 G' i0 r0 y)) := by
 refine calls_b (args := [v0]) (N := 22) [.tmp 2] Tryz.func22 rfl rfl (Nat.le_of_ble_eq_true rfl) rfl fun a f => ?_
 unfold D.laws_toInt64S at hd
 refine k_seq (k_region ?_)
 refine l_as f rfl rfl fun a f => l_nil (k_seq (k_region ?_))
 refine l_mv f rfl rfl fun a f => l_len Tryz.underlying42 f rfl rfl h0 fun a f => ?_
 obtain ⟨aa, ab, hd⟩ := bind_some hd
 refine l_make (R := (RI .i64)) m T42 rfl (by decide) rfl f rfl rfl rfl ab fun ac ad w a m ae f => l_as f rfl rfl fun a f => l_nil (k_seq (k_seq (k_region ?_)))
 refine l_as f rfl rfl fun a f => l_nil ?_
 obtain ⟨af, ag, hd⟩ := bind_some hd
 refine k_cut (fun a w => ∃ ah : List Int, ah = af ∧ ∃ (ai : GH) (aj : Itm), GLe G ai ∧ Fr a 22 [(3, ad)] ∧ Mem W ai w (aj :: H) ∧ Ow (RI .i64) 2 ai aj ad ah) ?_ ?_
 ·refine k_block ?_
  refine k_loop (fun ak a w => ∃ al : List Int, ∃ am : Int, (al, am) = ak ∧ ∃ (an : GH) (ao : Itm), GLe G an ∧ Fr a 22 [(0, v0), (3, ad), (4, (.int .i64 am))] ∧ Mem W an w (ao :: H) ∧ Ow (RI .i64) 2 an ao ad al) ag ⟨_, _, rfl, _, ac, (GLe.refl _), f.weak ⟨rfl, rfl, rfl, trivial⟩, m, ae⟩ ?_
  clear ag f m
  rintro ak ap aq ar a w ⟨al, am, rfl, an, ao, au, f, m, av⟩
  have h0 := rd1 au h0
  refine k_seq (k_seq (k_region ?_))
  refine l_mv f rfl rfl fun a f => l_mv f rfl rfl fun a f => l_len Tryz.underlying42 f rfl rfl h0 fun a f => l_in f rfl rfl rfl b_lss fun a f => l_nil ?_
  rcases cond_some aq with ⟨aw, aq⟩ | ⟨aw, aq⟩
  ·refine k_true f rfl aw ?_
   refine k_skip ?_
   refine k_seq (k_block (k_region ?_))
   refine l_mv f rfl rfl fun a f => l_mv f rfl rfl fun a f => l_mv f rfl rfl fun a f => l_mv f rfl rfl fun a f => ?_
   obtain ⟨ax, ay, aq⟩ := bind_some aq
   refine l_at T42 f rfl rfl rfl h0 ay fun az aA a aB aC f => ?_
   subst aC
   refine l_loadAt m Pl2 f rfl rfl aB fun a f => ?_
   obtain ⟨aD, aE, aq⟩ := bind_some aq
   refine l_own_at 0 m av rfl T42 f rfl rfl rfl aE fun aF a aG f => l_own_store 0 m av rfl Tryz.sizeOf2 f rfl rfl aG aE rfl rfl rfl fun aH w m aI => l_nil (k_region ?_)
   refine l_mv f rfl rfl fun a f => l_in f rfl rfl rfl b_add fun a f => l_as f rfl rfl fun a f => l_nil ?_
   obtain rfl := sj aq
   exact ⟨_, rfl, _, _, rfl, _, aH, au, f.weak ⟨rfl, rfl, rfl, trivial⟩, m, aI⟩
  ·refine k_false f rfl aw ?_
   refine k_exit rfl ?_
   obtain rfl := sj aq
   obtain rfl := ar _ rfl
   exact ⟨_, rfl, _, ao, au, f.weak ⟨rfl, trivial⟩, m, av⟩
 ·rintro a w ⟨ah, rfl, ai, aj, aJ, f, m, aK⟩
  refine k_seq (k_region ?_)
  refine l_mv f rfl rfl fun a f => l_as f rfl rfl fun a f => l_nil ?_
  refine k_ret ?_
  obtain rfl := sj hd
  exact ⟨[ad], ⟨f.get _ _ rfl, trivial⟩, f.defers, _, [aj], aJ, m, _, _, rfl, rfl, aK⟩

theorem Wk.laws_toInt64SS {W w : World} {G : GH} {H : List Itm} {v0 : Value} {x0 : (List (List Int))} (m : Mem W G w (H)) (h0 : RSl (RSl (RI .i64)) G v0 x0) {y : ((List (List Int)))} (hd : D.laws_toInt64SS x0 = some y) :
  Calls Tryz.prog 47 #[v0] w (Res W G H (fun G' Ho v => ∃ r0 : Value, ∃ i0 : Itm, Ho = [i0] ∧ r0 = v ∧ Ow2 (RI .i64) 42 2 G' i0 r0 y)) := by
 refine calls_b (args := [v0]) (N := 23) [.tmp 2] Tryz.func47 rfl rfl (Nat.le_of_ble_eq_true rfl) rfl fun a f => ?_
 unfold D.laws_toInt64SS at hd
 refine k_seq (k_region ?_)
 refine l_as f rfl rfl fun a f => l_nil (k_seq (k_region ?_))
 refine l_mv f rfl rfl fun a f => l_len Tryz.underlying22 f rfl rfl h0 fun a f => ?_
 obtain ⟨aa, ab, hd⟩ := bind_some hd
 refine l_make2 (R := (RI .i64)) (t2 := 2) m T22 (by decide) f rfl rfl rfl ab fun ac ad w a m ae f => l_as f rfl rfl fun a f => l_nil (k_seq (k_seq (k_region ?_)))
 refine l_as f rfl rfl fun a f => l_nil ?_
 obtain ⟨af, ag, hd⟩ := bind_some hd
 refine k_cut (fun a w => ∃ ah : List (List Int), ah = af ∧ ∃ (ai : GH) (aj : Itm), GLe G ai ∧ Fr a 23 [(3, ad)] ∧ Mem W ai w (aj :: H) ∧ Ow2 (RI .i64) 42 2 ai aj ad ah) ?_ ?_
 ·refine k_block ?_
  refine k_loop (fun ak a w => ∃ al : List (List Int), ∃ am : Int, (al, am) = ak ∧ ∃ (an : GH) (ao : Itm), GLe G an ∧ Fr a 23 [(0, v0), (3, ad), (4, (.int .i64 am))] ∧ Mem W an w (ao :: H) ∧ Ow2 (RI .i64) 42 2 an ao ad al) ag ⟨_, _, rfl, _, ac, (GLe.refl _), f.weak ⟨rfl, rfl, rfl, trivial⟩, m, ae⟩ ?_
  clear ag f m
  rintro ak ap aq ar a w ⟨al, am, rfl, an, ao, au, f, m, av⟩
  have h0 := rd2 au h0
  refine k_seq (k_seq (k_region ?_))
  refine l_mv f rfl rfl fun a f => l_mv f rfl rfl fun a f => l_len Tryz.underlying22 f rfl rfl h0 fun a f => l_in f rfl rfl rfl b_lss fun a f => l_nil ?_
  rcases cond_some aq with ⟨aw, aq⟩ | ⟨aw, aq⟩
  ·refine k_true f rfl aw ?_
   refine k_skip ?_
   refine k_seq (k_block (k_region ?_))
   refine l_mv f rfl rfl fun a f => l_mv f rfl rfl fun a f => l_mv f rfl rfl fun a f => l_mv f rfl rfl fun a f => ?_
   obtain ⟨ax, ay, aq⟩ := bind_some aq
   refine l_at T22 f rfl rfl rfl h0 ay fun az aA a aB aC f => l_loadAt m Pl42 f rfl rfl aB fun a f => ?_
   obtain ⟨aD, aE, aq⟩ := bind_some aq
   refine l_res f rfl rfl Tryz.call22 (Wk.laws_toInt64S m aC aE) fun aF aG aH w aI m aJ a f => ?_
   obtain ⟨aK, aL, rfl, rfl, aM⟩ := aJ
   have h0 := rd2 aI h0
   have aB := At.mono aI aB
   have aC := rd1 aI aC
   have av := Ow2.mono (RI.mono _) aI av
   obtain ⟨aN, aO, aq⟩ := bind_some aq
   refine l_own2_at 1 m av rfl T22 f rfl rfl rfl aO fun aP a aQ f => ?_
   have m := m.front 1 rfl
   refine l_own2_store m av aM Tryz.sizeOf42 f rfl rfl aQ aO fun aR w m aS => l_nil (k_region ?_)
   refine l_mv f rfl rfl fun a f => l_in f rfl rfl rfl b_add fun a f => l_as f rfl rfl fun a f => l_nil ?_
   obtain rfl := sj aq
   exact ⟨_, rfl, _, _, rfl, _, aR, (GLe.trans au aI), f.weak ⟨rfl, rfl, rfl, trivial⟩, m, aS⟩
  ·refine k_false f rfl aw ?_
   refine k_exit rfl ?_
   obtain rfl := sj aq
   obtain rfl := ar _ rfl
   exact ⟨_, rfl, _, ao, au, f.weak ⟨rfl, trivial⟩, m, av⟩
 ·rintro a w ⟨ah, rfl, ai, aj, aT, f, m, aU⟩
  refine k_seq (k_region ?_)
  refine l_mv f rfl rfl fun a f => l_as f rfl rfl fun a f => l_nil ?_
  refine k_ret ?_
  obtain rfl := sj hd
  exact ⟨[ad], ⟨f.get _ _ rfl, trivial⟩, f.defers, _, [aj], aT, m, _, _, rfl, rfl, aU⟩

theorem Wk.laws_toGraph {W w : World} {G : GH} {H : List Itm} {v0_0 : Value} {x0_0 : (List (List Int))} (m : Mem W G w (H)) (h0_0 : RSl (RSl (RI .i64)) G v0_0 x0_0) {y : ((List (List Int)))} (hd : D.laws_toGraph x0_0 = some y) :
  Calls Tryz.prog 10 #[(.agg #[v0_0])] w (Res W G H (fun G' Ho v => ∃ r0 : Value, ∃ i0 : Itm, Ho = [i0] ∧ v = (.agg #[r0]) ∧ Ow2 (RI .i64) 42 2 G' i0 r0 y)) := by
 refine calls_b (args := [(.agg #[v0_0])]) (N := 9) [.cell 2 30] Tryz.func10 rfl rfl (Nat.le_of_ble_eq_true rfl) rfl fun a f => ?_
 unfold D.laws_toGraph at hd
 refine k_seq (k_region ?_)
 refine l_box (cs := [v0_0]) m f rfl rfl rfl fun aa w a m f => l_alloc (cs := [(.slice none 0 0)]) Tryz.zeroValue30 m f rfl rfl fun ab w a m f => l_nil (k_seq (k_region ?_))
 refine l_alloc (cs := [(.slice none 0 0)]) Tryz.zeroValue30 m f rfl rfl fun ac w a m f => l_nil (k_seq (k_region ?_))
 refine l_fieldAddr Tryz.underlying24 rfl Tryz.sizeOf22 (by decide) f rfl rfl fun a f => l_boxCell 2 0 m Pl22 f rfl rfl rfl rfl fun a f => ?_
 obtain ⟨ad, ae, hd⟩ := bind_some hd
 refine l_res f rfl rfl Tryz.call47 (Wk.laws_toInt64SS m h0_0 ae) fun af ag ah w ai m aj a f => ?_
 obtain ⟨ak, al, rfl, rfl, am⟩ := aj
 have h0_0 := rd2 ai h0_0
 refine l_fieldAddr Tryz.underlying30 rfl Tryz.sizeOf22 (by decide) f rfl rfl fun a f => l_boxStore 1 0 (ds := [ak]) m Tryz.sizeOf22 f rfl rfl (Ow2.cells 0 m am rfl) (ones_cons (Ow2.one1 0 m am rfl) ones_nil) rfl (Nat.le_of_ble_eq_true rfl) rfl fun w m => l_nil (k_seq (k_region ?_))
 refine l_boxAgg 1 0 (ds := [ak]) m Ag30 f rfl rfl rfl rfl rfl fun a f => l_boxStore 2 0 (ds := [ak]) m Tryz.sizeOf30 f rfl rfl rfl (ones_cons (Ow2.one1 0 m am rfl) ones_nil) rfl (Nat.le_of_ble_eq_true rfl) rfl fun w m => l_nil ?_
 refine k_ret ?_
 have an := rr_agg (P := Tryz.prog) 2 m Ag30 f (s := 2) rfl rfl rfl
 have m := m.eraseAt 3
 have m := m.eraseAt 2
 have m := m.eraseAt 1
 obtain rfl := sj hd
 exact ⟨[(.agg #[ak])], ⟨an, trivial⟩, f.defers, _, [al], ai, m, _, _, rfl, rfl, am⟩

theorem Wk.spec_l1Size {W w : World} {G : GH} {H : List Itm} {v0_0 : Value} {x0_0 : (List (List Int))} (m : Mem W G w (H)) (h0_0 : RSl (RSl (RI .i64)) G v0_0 x0_0) {y : Int} (hd : D.spec_l1Size x0_0 = some y) :
  Calls Tryz.prog 80 #[(.agg #[v0_0])] w (Res W G H (fun _ Ho v => Ho = [] ∧ v = (.int .i64 y))) := by
 refine calls_b (args := [(.agg #[v0_0])]) (N := 6) [.tmp 2] Tryz.func80 rfl rfl (Nat.le_of_ble_eq_true rfl) rfl fun a f => ?_
 unfold D.spec_l1Size at hd
 refine k_seq (k_region ?_)
 refine l_box (cs := [v0_0]) m f rfl rfl rfl fun aa w a m f => l_as f rfl rfl fun a f => l_nil (k_seq (k_region ?_))
 refine l_fieldAddr Tryz.underlying30 rfl Tryz.sizeOf22 (by decide) f rfl rfl fun a f => l_boxCell 0 0 m Pl22 f rfl rfl rfl rfl fun a f => l_len Tryz.underlying22 f rfl rfl h0_0 fun a f => l_as f rfl rfl fun a f => l_nil ?_
 refine k_ret ?_
 have m : Mem W G w H := Mem.drop (H' := [Itm.box aa 30 [v0_0]]) m
 obtain rfl := sj hd
 exact ⟨[(.int .i64 (x0_0.length : Int))], ⟨f.get _ _ rfl, trivial⟩, f.defers, _, [], (GLe.refl _), m, rfl, rfl⟩

theorem Wk.spec_l1In {W w : World} {G : GH} {H : List Itm} {x0 : Int} {x1 : Int} {x2 : Int} (m : Mem W G w (H))  {y : Bool} (hd : D.spec_l1In x0 x1 x2 = some y) :
  Calls Tryz.prog 141 #[(.int .i64 x0), (.int .i64 x1), (.int .i64 x2)] w (Res W G H (fun _ Ho v => Ho = [] ∧ v = (.bool y))) := by
 refine calls_b (args := [(.int .i64 x0), (.int .i64 x1), (.int .i64 x2)]) (N := 15) [.tmp 6] Tryz.func141 rfl rfl (Nat.le_of_ble_eq_true rfl) rfl fun a f => ?_
 unfold D.spec_l1In at hd
 refine k_seq (k_region ?_)
 refine l_as f rfl rfl fun a f => l_nil (k_seq (k_region ?_))
 refine l_mv f rfl rfl fun a f => l_mv f rfl rfl fun a f => l_in f rfl rfl rfl b_geq fun a f => l_mv f rfl rfl fun a f => ?_
 refine l_cut 4 (fun a w => ∃ aa, GLe G aa ∧ Mem W aa w (H) ∧ Fr a 15 [(0, (.int .i64 x0)), (1, (.int .i64 x1)), (2, (.int .i64 x2)), (7, (.int .i64 x0)), (8, (.int .i64 x1)), (9, (.bool (decide (x1 ≤ x0)))), (10, (.bool (decide (x1 ≤ x0)))), (14, (.bool ((decide (x1 ≤ x0)) && (decide (x0 ≤ x2)))))]) ?_ ?_
 ·rcases Bool.eq_false_or_eq_true (decide (x1 ≤ x0)) with ab | ab
  ·refine l_run f rfl rfl ab ?_
   refine l_mv f rfl rfl fun a f => l_run f rfl rfl ab ?_
   refine l_mv f rfl rfl fun a f => l_run f rfl rfl ab ?_
   refine l_in f rfl rfl rfl b_leq fun a f => l_op f rfl rfl rfl (r_pickT (f.eval rfl) ab (f.eval rfl)) fun a f => ?_
   exact ⟨_, (GLe.refl _), m, f.weak ⟨rfl, rfl, rfl, rfl, rfl, rfl, rfl, by rw [ab]; rfl, trivial⟩⟩
  ·refine l_not' f rfl rfl rfl ab fun a f => ?_
   refine l_not' f rfl rfl rfl ab fun a f => l_not' f rfl rfl rfl ab fun a f => l_op f rfl rfl rfl (r_pickF (f.eval rfl) ab (f.eval rfl)) fun a f => ?_
   exact ⟨_, (GLe.refl _), m, f.weak ⟨rfl, rfl, rfl, rfl, rfl, rfl, rfl, by rw [ab]; rfl, trivial⟩⟩
 ·rintro a w ⟨aa, ac, m, f⟩
  refine l_as f rfl rfl fun a f => l_nil ?_
  refine k_ret ?_
  obtain rfl := sj hd
  exact ⟨[(.bool ((decide (x1 ≤ x0)) && (decide (x0 ≤ x2))))], ⟨f.get _ _ rfl, trivial⟩, f.defers, _, [], ac, m, rfl, rfl⟩

theorem Wk.spec_l1Set {W w : World} {G : GH} {H : List Itm} {v0 : Value} {x0 : (List Int)} {x1 : Int} (m : Mem W G w (H)) (h0 : RSl (RI .i64) G v0 x0) {y : Bool} (hd : D.spec_l1Set x0 x1 = some y) :
  Calls Tryz.prog 79 #[v0, (.int .i64 x1)] w (Res W G H (fun _ Ho v => Ho = [] ∧ v = (.bool y))) := by
 refine calls_b (args := [v0, (.int .i64 x1)]) (N := 40) [.tmp 4] Tryz.func79 rfl rfl (Nat.le_of_ble_eq_true rfl) rfl fun a f => ?_
 unfold D.spec_l1Set at hd
 refine k_seq (k_region ?_)
 refine l_as f rfl rfl fun a f => l_nil (k_seq (k_seq (k_region ?_)))
 refine l_mv f rfl rfl fun a f => l_len Tryz.underlying42 f rfl rfl h0 fun a f => l_mv f rfl rfl fun a f => l_in f rfl rfl rfl b_gtr fun a f => l_nil ?_
 rcases cond_some hd with ⟨aa, hd⟩ | ⟨aa, hd⟩
 ·refine k_true f rfl aa ?_
  refine k_seq (k_region ?_)
  refine l_as f rfl rfl fun a f => l_nil ?_
  refine k_ret ?_
  obtain rfl := sj hd
  exact ⟨[(.bool false)], ⟨f.get _ _ rfl, trivial⟩, f.defers, _, [], (GLe.refl _), m, rfl, rfl⟩
 ·refine k_false f rfl aa ?_
  refine k_skip ?_
  refine k_seq (k_seq (k_region ?_))
  refine l_as f rfl rfl fun a f => l_nil ?_
  obtain ⟨ab, ac, hd⟩ := bind_some hd
  refine k_cut (fun a w => ∃ q_150' : Unit, ab = .inl q_150' ∧ ∃ (ad : GH), GLe G ad ∧ Fr a 40 [] ∧ Mem W ad w (H)) ?_ ?_
  ·refine k_block ?_
   refine k_loop (fun ae a w => ∃ af : Int, af = ae ∧ ∃ (ag : GH), GLe G ag ∧ Fr a 40 [(0, v0), (1, (.int .i64 x1)), (5, (.int .i64 af))] ∧ Mem W ag w (H)) ac ⟨_, rfl, _, (GLe.refl _), f.weak ⟨rfl, rfl, rfl, trivial⟩, m⟩ ?_
   clear ac f m
   rintro ae ah ai aj a w ⟨af, rfl, ag, ak, f, m⟩
   have h0 := rd1 ak h0
   refine k_seq (k_seq (k_region ?_))
   refine l_mv f rfl rfl fun a f => l_mv f rfl rfl fun a f => l_len Tryz.underlying42 f rfl rfl h0 fun a f => l_in f rfl rfl rfl b_lss fun a f => l_nil ?_
   rcases cond_some ai with ⟨al, ai⟩ | ⟨al, ai⟩
   ·refine k_true f rfl al ?_
    refine k_skip ?_
    refine k_seq (k_block (k_seq ?_))
    refine k_draw 24 Follows (by kernel_rfl) m ?_
    refine q_mv 0 24 rfl (by kernel_rfl) f rfl rfl rfl fun a f => q_mv 1 24 rfl (by kernel_rfl) f rfl rfl rfl fun a f => ?_
    obtain ⟨am, an, ai⟩ := bind_some ai
    refine q_at (i := 2) 24 T42 h0 an rfl (by kernel_rfl) rfl f rfl rfl rfl rfl fun ao ap a aq ar f => ?_
    subst ar
    refine q_loadAt (i := 3) 24 Pl2 aq rfl (by kernel_rfl) rfl f rfl rfl rfl fun a f => q_mv 4 24 rfl (by kernel_rfl) f rfl rfl rfl fun a f => q_p 5 24 rfl (by kernel_rfl) f rfl rfl rfl (fun _ => r_int (f.eval rfl) (f.eval rfl) b_sub) fun a f => ?_
    obtain ⟨au, av, ai⟩ := bind_some ai
    refine q_call (i := 6) 24 rfl (by kernel_rfl) rfl f rfl rfl rfl Tryz.call141 (fun _ _ w aw m => Wk.spec_l1In m  av) fun a f => q_p 7 24 rfl (by kernel_rfl) f rfl rfl rfl (fun _ => r_not (f.eval rfl)) fun a f => q_mv 8 24 rfl (by kernel_rfl) f rfl rfl rfl fun a f => ?_
    obtain ⟨ax, ay, ai⟩ := bind_some ai
    refine q_cut (fuel' := 0) (listed' := #[true, true, true, true, true, true, true, true, true, true, true, true, true, true, true, true, true, true, true, true, true, true, true, true]) (fun a => Fr a 40 [(0, v0), (1, (.int .i64 x1)), (5, (.int .i64 af)), (13, (.bool (decide (af < (x0.length : Int))))), (16, v0), (17, (.int .i64 af)), (18, ao), (19, (.int .i64 am)), (20, (.int .i64 x1)), (21, (.int .i64 (IntKind.i64.wrap (x1 - 1)))), (22, (.bool au)), (23, (.bool (!au))), (24, (.bool (!au))), (39, (.bool ax))]) ?_ ?_
    ·intro a f
     refine q_end fun az w aA m => ?_
     have h0 := rd1 aA h0
     have aq := At.mono aA aq
     refine l_nil ?_
     rcases cond_some ai with ⟨aB, ai⟩ | ⟨aB, ai⟩
     ·refine k_true f rfl aB ?_
      refine k_seq (k_region ?_)
      refine l_as f rfl rfl fun a f => l_nil ?_
      refine k_ret ?_
      obtain rfl := sj ai
      obtain rfl := aj _ rfl
      obtain rfl := sj hd
      exact ⟨[(.bool false)], ⟨f.get _ _ rfl, trivial⟩, f.defers, _, [], (GLe.trans ak aA), m, rfl, rfl⟩
     ·refine k_false f rfl aB ?_
      refine k_skip ?_
      refine k_region ?_
      refine l_mv f rfl rfl fun a f => l_in f rfl rfl rfl b_add fun a f => l_as f rfl rfl fun a f => l_nil ?_
      obtain rfl := sj ai
      exact ⟨_, rfl, _, rfl, _, (GLe.trans ak aA), f.weak ⟨rfl, rfl, rfl, trivial⟩, m⟩
    ·intro aC
     rcases cond_some ay with ⟨aD, ay⟩ | ⟨aD, ay⟩
     ·refine q_ng 9 24 rfl (by kernel_rfl) f rfl rfl aD rfl fun a f => ?_
      refine q_ng 10 24 rfl (by kernel_rfl) f rfl rfl aD rfl fun a f => q_ng 11 24 rfl (by kernel_rfl) f rfl rfl aD rfl fun a f => q_nu 12 24 rfl (by kernel_rfl) f rfl rfl rfl fun a f => q_nu 13 24 rfl (by kernel_rfl) f rfl rfl rfl fun a f => q_nu 14 24 rfl (by kernel_rfl) f rfl rfl rfl fun a f => q_nu 15 24 rfl (by kernel_rfl) f rfl rfl rfl fun a f => q_nu 16 24 rfl (by kernel_rfl) f rfl rfl rfl fun a f => q_nu 17 24 rfl (by kernel_rfl) f rfl rfl rfl fun a f => q_nu 18 24 rfl (by kernel_rfl) f rfl rfl rfl fun a f => q_nu 19 24 rfl (by kernel_rfl) f rfl rfl rfl fun a f => q_nu 20 24 rfl (by kernel_rfl) f rfl rfl rfl fun a f => q_nu 21 24 rfl (by kernel_rfl) f rfl rfl rfl fun a f => q_ng 22 24 rfl (by kernel_rfl) f rfl rfl aD rfl fun a f => q_p 23 24 rfl (by kernel_rfl) f rfl rfl rfl (fun _ => r_pickT (f.eval rfl) aD (f.eval rfl)) fun a f => ?_
      obtain rfl := sj ay
      exact aC _ (f.weak ⟨rfl, rfl, rfl, rfl, rfl, rfl, rfl, rfl, rfl, rfl, rfl, rfl, rfl, rfl, trivial⟩)
     ·refine q_mv 9 24 rfl (by kernel_rfl) f (wanted_of f rfl rfl rfl aD) rfl rfl fun a f => ?_
      refine q_p 10 24 rfl (by kernel_rfl) f (wanted_of f rfl rfl rfl aD) rfl rfl (fun _ => r_int (f.eval rfl) (f.eval rfl) b_gtr) fun a f => q_mv 11 24 rfl (by kernel_rfl) f (wanted_of f rfl rfl rfl aD) rfl rfl fun a f => ?_
      obtain ⟨aE, aF, ay⟩ := bind_some ay
      refine q_cut (fuel' := 1) (listed' := #[true, true, true, true, true, true, true, true, true, true, true, true, true, true, true, true, true, true, true, true, true, true, true, false]) (fun a => Fr a 40 [(0, v0), (1, (.int .i64 x1)), (5, (.int .i64 af)), (13, (.bool (decide (af < (x0.length : Int))))), (16, v0), (17, (.int .i64 af)), (18, ao), (19, (.int .i64 am)), (20, (.int .i64 x1)), (21, (.int .i64 (IntKind.i64.wrap (x1 - 1)))), (22, (.bool au)), (23, (.bool (!au))), (24, (.bool (!au))), (25, (.int .i64 af)), (26, (.bool (decide ((0 : Int) < af)))), (27, (.bool (decide ((0 : Int) < af)))), (38, (.bool aE))]) ?_ ?_
      ·intro a f
       refine q_p 23 24 rfl (by kernel_rfl) f rfl rfl rfl (fun _ => r_pickF (f.eval rfl) aD (f.eval rfl)) fun a f => ?_
       obtain rfl := sj ay
       exact aC _ (f.weak ⟨rfl, rfl, rfl, rfl, rfl, rfl, rfl, rfl, rfl, rfl, rfl, rfl, rfl, rfl, trivial⟩)
      ·intro aG
       rcases cond_some aF with ⟨aH, aF⟩ | ⟨aH, aF⟩
       ·refine q_mv 12 24 rfl (by kernel_rfl) f (wanted_of f rfl rfl rfl aH) rfl rfl fun a f => ?_
        refine q_mv 13 24 rfl (by kernel_rfl) f (wanted_of f rfl rfl rfl aH) rfl rfl fun a f => ?_
        obtain ⟨aI, aJ, aF⟩ := bind_some aF
        refine q_at (i := 14) 24 T42 h0 aJ rfl (by kernel_rfl) rfl f (wanted_of f rfl rfl rfl aH) rfl rfl rfl fun aK aL a aM aN f => ?_
        subst aN
        refine q_loadAt (i := 15) 24 Pl2 aM rfl (by kernel_rfl) rfl f (wanted_of f rfl rfl rfl aH) rfl rfl fun a f => q_mv 16 24 rfl (by kernel_rfl) f (wanted_of f rfl rfl rfl aH) rfl rfl fun a f => q_mv 17 24 rfl (by kernel_rfl) f (wanted_of f rfl rfl rfl aH) rfl rfl fun a f => q_p 18 24 rfl (by kernel_rfl) f (wanted_of f rfl rfl rfl aH) rfl rfl (fun _ => r_int (f.eval rfl) (f.eval rfl) b_sub) fun a f => ?_
        obtain ⟨aO, aP, aF⟩ := bind_some aF
        refine q_at (i := 19) 24 T42 h0 aP rfl (by kernel_rfl) rfl f (wanted_of f rfl rfl rfl aH) rfl rfl rfl fun aQ aR a aS aT f => ?_
        subst aT
        refine q_loadAt (i := 20) 24 Pl2 aS rfl (by kernel_rfl) rfl f (wanted_of f rfl rfl rfl aH) rfl rfl fun a f => q_p 21 24 rfl (by kernel_rfl) f (wanted_of f rfl rfl rfl aH) rfl rfl (fun _ => r_int (f.eval rfl) (f.eval rfl) b_leq) fun a f => q_p 22 24 rfl (by kernel_rfl) f (wanted_of f rfl rfl rfl aD) rfl rfl (fun _ => r_pickT (f.eval rfl) aH (f.eval rfl)) fun a f => ?_
        obtain rfl := sj aF
        exact aG _ (f.weak ⟨rfl, rfl, rfl, rfl, rfl, rfl, rfl, rfl, rfl, rfl, rfl, rfl, rfl, rfl, rfl, rfl, rfl, trivial⟩)
       ·refine q_ng 12 24 rfl (by kernel_rfl) f rfl rfl aH rfl fun a f => ?_
        refine q_ng 13 24 rfl (by kernel_rfl) f rfl rfl aH rfl fun a f => q_ng 14 24 rfl (by kernel_rfl) f rfl rfl aH rfl fun a f => q_ng 15 24 rfl (by kernel_rfl) f rfl rfl aH rfl fun a f => q_ng 16 24 rfl (by kernel_rfl) f rfl rfl aH rfl fun a f => q_ng 17 24 rfl (by kernel_rfl) f rfl rfl aH rfl fun a f => q_ng 18 24 rfl (by kernel_rfl) f rfl rfl aH rfl fun a f => q_ng 19 24 rfl (by kernel_rfl) f rfl rfl aH rfl fun a f => q_ng 20 24 rfl (by kernel_rfl) f rfl rfl aH rfl fun a f => q_ng 21 24 rfl (by kernel_rfl) f rfl rfl aH rfl fun a f => q_p 22 24 rfl (by kernel_rfl) f (wanted_of f rfl rfl rfl aD) rfl rfl (fun _ => r_pickF (f.eval rfl) aH (f.eval rfl)) fun a f => ?_
        obtain rfl := sj aF
        exact aG _ (f.weak ⟨rfl, rfl, rfl, rfl, rfl, rfl, rfl, rfl, rfl, rfl, rfl, rfl, rfl, rfl, rfl, rfl, rfl, trivial⟩)
   ·refine k_false f rfl al ?_
    refine k_exit rfl ?_
    obtain rfl := sj ai
    obtain rfl := aj _ rfl
    exact ⟨_, rfl, _, ak, f.weak trivial, m⟩
  ·rintro a w ⟨_, rfl, ad, aU, f, m⟩
   refine k_seq (k_region ?_)
   refine l_as f rfl rfl fun a f => l_nil ?_
   refine k_ret ?_
   obtain rfl := sj hd
   exact ⟨[(.bool true)], ⟨f.get _ _ rfl, trivial⟩, f.defers, _, [], aU, m, rfl, rfl⟩

theorem Wk.spec_l1Has {W w : World} {G : GH} {H : List Itm} {v0 : Value} {x0 : (List Int)} {x1 : Int} (m : Mem W G w (H)) (h0 : RSl (RI .i64) G v0 x0) {y : Bool} (hd : D.spec_l1Has x0 x1 = some y) :
  Calls Tryz.prog 70 #[v0, (.int .i64 x1)] w (Res W G H (fun _ Ho v => Ho = [] ∧ v = (.bool y))) := by
 refine calls_b (args := [v0, (.int .i64 x1)]) (N := 18) [.tmp 4] Tryz.func70 rfl rfl (Nat.le_of_ble_eq_true rfl) rfl fun a f => ?_
 unfold D.spec_l1Has at hd
 refine k_seq (k_region ?_)
 refine l_as f rfl rfl fun a f => l_nil (k_seq (k_seq (k_region ?_)))
 refine l_as f rfl rfl fun a f => l_nil ?_
 obtain ⟨aa, ab, hd⟩ := bind_some hd
 refine k_cut (fun a w => ∃ q_19' : Unit, aa = .inl q_19' ∧ ∃ (ac : GH), GLe G ac ∧ Fr a 18 [] ∧ Mem W ac w (H)) ?_ ?_
 ·refine k_block ?_
  refine k_loop (fun ad a w => ∃ ae : Int, ae = ad ∧ ∃ (af : GH), GLe G af ∧ Fr a 18 [(0, v0), (1, (.int .i64 x1)), (5, (.int .i64 ae))] ∧ Mem W af w (H)) ab ⟨_, rfl, _, (GLe.refl _), f.weak ⟨rfl, rfl, rfl, trivial⟩, m⟩ ?_
  clear ab f m
  rintro ad ag ah ai a w ⟨ae, rfl, af, aj, f, m⟩
  have h0 := rd1 aj h0
  refine k_seq (k_seq (k_region ?_))
  refine l_mv f rfl rfl fun a f => l_mv f rfl rfl fun a f => l_len Tryz.underlying42 f rfl rfl h0 fun a f => l_in f rfl rfl rfl b_lss fun a f => l_nil ?_
  rcases cond_some ah with ⟨ak, ah⟩ | ⟨ak, ah⟩
  ·refine k_true f rfl ak ?_
   refine k_skip ?_
   refine k_seq (k_block (k_seq (k_region ?_)))
   refine l_mv f rfl rfl fun a f => l_mv f rfl rfl fun a f => ?_
   obtain ⟨al, am, ah⟩ := bind_some ah
   refine l_at T42 f rfl rfl rfl h0 am fun an ao a ap aq f => ?_
   subst aq
   refine l_loadAt m Pl2 f rfl rfl ap fun a f => l_mv f rfl rfl fun a f => l_in f rfl rfl rfl b_eql fun a f => l_nil ?_
   rcases cond_some ah with ⟨ar, ah⟩ | ⟨ar, ah⟩
   ·refine k_true f rfl ar ?_
    refine k_seq (k_region ?_)
    refine l_as f rfl rfl fun a f => l_nil ?_
    refine k_ret ?_
    obtain rfl := sj ah
    obtain rfl := ai _ rfl
    obtain rfl := sj hd
    exact ⟨[(.bool true)], ⟨f.get _ _ rfl, trivial⟩, f.defers, _, [], aj, m, rfl, rfl⟩
   ·refine k_false f rfl ar ?_
    refine k_skip ?_
    refine k_region ?_
    refine l_mv f rfl rfl fun a f => l_in f rfl rfl rfl b_add fun a f => l_as f rfl rfl fun a f => l_nil ?_
    obtain rfl := sj ah
    exact ⟨_, rfl, _, rfl, _, aj, f.weak ⟨rfl, rfl, rfl, trivial⟩, m⟩
  ·refine k_false f rfl ak ?_
   refine k_exit rfl ?_
   obtain rfl := sj ah
   obtain rfl := ai _ rfl
   exact ⟨_, rfl, _, aj, f.weak trivial, m⟩
 ·rintro a w ⟨_, rfl, ac, au, f, m⟩
  refine k_seq (k_region ?_)
  refine l_as f rfl rfl fun a f => l_nil ?_
  refine k_ret ?_
  obtain rfl := sj hd
  exact ⟨[(.bool false)], ⟨f.get _ _ rfl, trivial⟩, f.defers, _, [], au, m, rfl, rfl⟩

theorem Wk.spec_GraphOk {W w : World} {G : GH} {H : List Itm} {v0_0 : Value} {x0_0 : (List (List Int))} (m : Mem W G w (H)) (h0_0 : RSl (RSl (RI .i64)) G v0_0 x0_0) {y : Bool} (hd : D.spec_GraphOk x0_0 = some y) :
  Calls Tryz.prog 77 #[(.agg #[v0_0])] w (Res W G H (fun _ Ho v => Ho = [] ∧ v = (.bool y))) := by
 refine calls_b (args := [(.agg #[v0_0])]) (N := 64) [.tmp 2] Tryz.func77 rfl rfl (Nat.le_of_ble_eq_true rfl) rfl fun a f => ?_
 unfold D.spec_GraphOk at hd
 refine k_seq (k_region ?_)
 refine l_box (cs := [v0_0]) m f rfl rfl rfl fun aa w a m f => l_as f rfl rfl fun a f => l_nil (k_seq (k_region ?_))
 refine l_boxAgg 0 0 (ds := [v0_0]) m Ag30 f rfl rfl rfl rfl rfl fun a f => ?_
 obtain ⟨ab, ac, hd⟩ := bind_some hd
 refine l_res f rfl rfl Tryz.call80 (Wk.spec_l1Size m h0_0 ac) fun ad ae af w ag m ah a f => ?_
 obtain ⟨rfl, rfl⟩ := ah
 have h0_0 := rd2 ag h0_0
 refine l_as f rfl rfl fun a f => l_nil (k_seq (k_seq (k_region ?_)))
 refine l_mv f rfl rfl fun a f => ?_
 obtain ⟨ai, aj, hd⟩ := bind_some hd
 refine l_res f rfl rfl Tryz.call141 (Wk.spec_l1In m  aj) fun ak al am w an m ao a f => ?_
 obtain ⟨rfl, rfl⟩ := ao
 have h0_0 := rd2 an h0_0
 refine l_op f rfl rfl rfl (r_not (f.eval rfl)) fun a f => l_nil ?_
 rcases cond_some hd with ⟨ap, hd⟩ | ⟨ap, hd⟩
 ·refine k_true f rfl ap ?_
  refine k_seq (k_region ?_)
  refine l_as f rfl rfl fun a f => l_nil ?_
  refine k_ret ?_
  have m : Mem W al w H := Mem.drop (H' := [Itm.box aa 30 [v0_0]]) m
  obtain rfl := sj hd
  exact ⟨[(.bool false)], ⟨f.get _ _ rfl, trivial⟩, f.defers, _, [], (GLe.trans ag an), m, rfl, rfl⟩
 ·refine k_false f rfl ap ?_
  refine k_skip ?_
  refine k_seq (k_seq (k_region ?_))
  refine l_as f rfl rfl fun a f => l_nil ?_
  obtain ⟨aq, ar, hd⟩ := bind_some hd
  refine k_cut (fun a w => ∃ q_138' : Unit, aq = .inl q_138' ∧ ∃ (au : GH), GLe al au ∧ Fr a 64 [(1, (.pointer (some ⟨aa, 0, none⟩))), (3, (.int .i64 ab))] ∧ Mem W au w (Itm.box aa 30 [v0_0] :: H)) ?_ ?_
  ·refine k_block ?_
   refine k_loop (fun av a w => ∃ aw : Int, aw = av ∧ ∃ (ax : GH), GLe al ax ∧ Fr a 64 [(1, (.pointer (some ⟨aa, 0, none⟩))), (3, (.int .i64 ab)), (4, (.int .i64 aw))] ∧ Mem W ax w (Itm.box aa 30 [v0_0] :: H)) ar ⟨_, rfl, _, (GLe.refl _), f.weak ⟨rfl, rfl, rfl, trivial⟩, m⟩ ?_
   clear ar f m
   rintro av ay az aA a w ⟨aw, rfl, ax, aB, f, m⟩
   have h0_0 := rd2 aB h0_0
   refine k_seq (k_seq (k_region ?_))
   refine l_mv f rfl rfl fun a f => l_mv f rfl rfl fun a f => l_in f rfl rfl rfl b_lss fun a f => l_nil ?_
   rcases cond_some az with ⟨aC, az⟩ | ⟨aC, az⟩
   ·refine k_true f rfl aC ?_
    refine k_skip ?_
    refine k_seq (k_block (k_seq (k_region ?_)))
    refine l_fieldAddr Tryz.underlying30 rfl Tryz.sizeOf22 (by decide) f rfl rfl fun a f => l_boxCell 0 0 m Pl22 f rfl rfl rfl rfl fun a f => l_mv f rfl rfl fun a f => ?_
    obtain ⟨aD, aE, az⟩ := bind_some az
    refine l_at T22 f rfl rfl rfl h0_0 aE fun aF aG a aH aI f => l_loadAt m Pl42 f rfl rfl aH fun a f => l_mv f rfl rfl fun a f => ?_
    obtain ⟨aJ, aK, az⟩ := bind_some az
    refine l_res f rfl rfl Tryz.call79 (Wk.spec_l1Set m aI aK) fun aL aM aN w aO m aP a f => ?_
    obtain ⟨rfl, rfl⟩ := aP
    have h0_0 := rd2 aO h0_0
    have aH := At.mono aO aH
    have aI := rd1 aO aI
    refine l_op f rfl rfl rfl (r_not (f.eval rfl)) fun a f => l_mv f rfl rfl fun a f => ?_
    obtain ⟨aQ, aR, az⟩ := bind_some az
    refine l_cut 8 (fun a w => ∃ aS, GLe aM aS ∧ Mem W aS w (Itm.box aa 30 [v0_0] :: H) ∧ Fr a 64 [(1, (.pointer (some ⟨aa, 0, none⟩))), (3, (.int .i64 ab)), (4, (.int .i64 aw)), (14, (.bool (decide (aw < ab)))), (17, (.pointer (some ⟨aa, 0, none⟩))), (18, v0_0), (19, (.int .i64 aw)), (20, aF), (21, aG), (22, (.int .i64 ab)), (23, (.bool aJ)), (24, (.bool (!aJ))), (25, (.bool (!aJ))), (33, (.bool aQ))]) ?_ ?_
    ·rcases cond_some aR with ⟨aT, aR⟩ | ⟨aT, aR⟩
     ·refine l_not' f rfl rfl rfl aT fun a f => ?_
      refine l_not' f rfl rfl rfl aT fun a f => l_not' f rfl rfl rfl aT fun a f => l_not' f rfl rfl rfl aT fun a f => l_not' f rfl rfl rfl aT fun a f => l_not' f rfl rfl rfl aT fun a f => l_not' f rfl rfl rfl aT fun a f => l_op f rfl rfl rfl (r_pickT (f.eval rfl) aT (f.eval rfl)) fun a f => ?_
      obtain rfl := sj aR
      exact ⟨_, (GLe.refl _), m, f.weak ⟨rfl, rfl, rfl, rfl, rfl, rfl, rfl, rfl, rfl, rfl, rfl, rfl, rfl, rfl, trivial⟩⟩
     ·refine l_run f rfl rfl aT ?_
      refine l_fieldAddr Tryz.underlying30 rfl Tryz.sizeOf22 (by decide) f rfl rfl fun a f => l_run f rfl rfl aT ?_
      refine l_boxCell 0 0 m Pl22 f rfl rfl rfl rfl fun a f => l_run f rfl rfl aT ?_
      refine l_mv f rfl rfl fun a f => l_run f rfl rfl aT ?_
      obtain ⟨aU, aV, aR⟩ := bind_some aR
      refine l_at T22 f rfl rfl rfl h0_0 aV fun aW aX a aY aZ f => l_run f rfl rfl aT ?_
      refine l_loadAt m Pl42 f rfl rfl aY fun a f => l_run f rfl rfl aT ?_
      refine l_mv f rfl rfl fun a f => l_run f rfl rfl aT ?_
      obtain ⟨a0, a1, aR⟩ := bind_some aR
      refine l_res f rfl rfl Tryz.call70 (Wk.spec_l1Has m aZ a1) fun a2 a3 a4 w a5 m a6 a f => ?_
      obtain ⟨rfl, rfl⟩ := a6
      have h0_0 := rd2 a5 h0_0
      have aH := At.mono a5 aH
      have aI := rd1 a5 aI
      have aY := At.mono a5 aY
      have aZ := rd1 a5 aZ
      refine l_op f rfl rfl rfl (r_pickF (f.eval rfl) aT (f.eval rfl)) fun a f => ?_
      obtain rfl := sj aR
      exact ⟨_, a5, m, f.weak ⟨rfl, rfl, rfl, rfl, rfl, rfl, rfl, rfl, rfl, rfl, rfl, rfl, rfl, rfl, trivial⟩⟩
    ·rintro a w ⟨aS, a7, m, f⟩
     have h0_0 := rd2 a7 h0_0
     have aH := At.mono a7 aH
     have aI := rd1 a7 aI
     refine l_nil ?_
     rcases cond_some az with ⟨a8, az⟩ | ⟨a8, az⟩
     ·refine k_true f rfl a8 ?_
      refine k_seq (k_region ?_)
      refine l_as f rfl rfl fun a f => l_nil ?_
      refine k_ret ?_
      have m : Mem W aS w H := Mem.drop (H' := [Itm.box aa 30 [v0_0]]) m
      obtain rfl := sj az
      obtain rfl := aA _ rfl
      obtain rfl := sj hd
      exact ⟨[(.bool false)], ⟨f.get _ _ rfl, trivial⟩, f.defers, _, [], (GLe.trans ag (GLe.trans an (GLe.trans aB (GLe.trans aO a7)))), m, rfl, rfl⟩
     ·refine k_false f rfl a8 ?_
      refine k_skip ?_
      refine k_region ?_
      refine l_mv f rfl rfl fun a f => l_in f rfl rfl rfl b_add fun a f => l_as f rfl rfl fun a f => l_nil ?_
      obtain rfl := sj az
      exact ⟨_, rfl, _, rfl, _, (GLe.trans aB (GLe.trans aO a7)), f.weak ⟨rfl, rfl, rfl, trivial⟩, m⟩
   ·refine k_false f rfl aC ?_
    refine k_exit rfl ?_
    obtain rfl := sj az
    obtain rfl := aA _ rfl
    exact ⟨_, rfl, _, aB, f.weak ⟨rfl, rfl, trivial⟩, m⟩
  ·rintro a w ⟨_, rfl, au, a9, f, m⟩
   have h0_0 := rd2 a9 h0_0
   refine k_seq (k_seq (k_region ?_))
   refine l_as f rfl rfl fun a f => l_nil ?_
   obtain ⟨ba, bb, hd⟩ := bind_some hd
   refine k_cut (fun a w => ∃ q_545' : Unit, ba = .inl q_545' ∧ ∃ (bc : GH), GLe au bc ∧ Fr a 64 [] ∧ Mem W bc w (H)) ?_ ?_
   ·refine k_block ?_
    refine k_loop (fun bd a w => ∃ be : Int, be = bd ∧ ∃ (bf : GH), GLe au bf ∧ Fr a 64 [(1, (.pointer (some ⟨aa, 0, none⟩))), (3, (.int .i64 ab)), (5, (.int .i64 be))] ∧ Mem W bf w (Itm.box aa 30 [v0_0] :: H)) bb ⟨_, rfl, _, (GLe.refl _), f.weak ⟨rfl, rfl, rfl, trivial⟩, m⟩ ?_
    clear bb f m
    rintro bd bg bh bi a w ⟨be, rfl, bf, bj, f, m⟩
    have h0_0 := rd2 bj h0_0
    refine k_seq (k_seq (k_region ?_))
    refine l_mv f rfl rfl fun a f => l_mv f rfl rfl fun a f => l_in f rfl rfl rfl b_lss fun a f => l_nil ?_
    rcases cond_some bh with ⟨bk, bh⟩ | ⟨bk, bh⟩
    ·refine k_true f rfl bk ?_
     refine k_skip ?_
     refine k_seq (k_block (k_seq (k_region ?_)))
     refine l_as f rfl rfl fun a f => l_nil ?_
     obtain ⟨bl, bm, bh⟩ := bind_some bh
     refine k_cut (fun a w => ∃ q_759' : Unit, bl = .inl q_759' ∧ ∃ (bn : GH), GLe bf bn ∧ Fr a 64 [(1, (.pointer (some ⟨aa, 0, none⟩))), (3, (.int .i64 ab)), (5, (.int .i64 be))] ∧ Mem W bn w (Itm.box aa 30 [v0_0] :: H)) ?_ ?_
     ·refine k_block ?_
      refine k_loop (fun bo a w => ∃ bp : Int, bp = bo ∧ ∃ (bq : GH), GLe bf bq ∧ Fr a 64 [(1, (.pointer (some ⟨aa, 0, none⟩))), (3, (.int .i64 ab)), (5, (.int .i64 be)), (6, (.int .i64 bp))] ∧ Mem W bq w (Itm.box aa 30 [v0_0] :: H)) bm ⟨_, rfl, _, (GLe.refl _), f.weak ⟨rfl, rfl, rfl, rfl, trivial⟩, m⟩ ?_
      clear bm f m
      rintro bo br bs bt a w ⟨bp, rfl, bq, bu, f, m⟩
      have h0_0 := rd2 bu h0_0
      refine k_seq (k_seq (k_region ?_))
      refine l_mv f rfl rfl fun a f => l_fieldAddr Tryz.underlying30 rfl Tryz.sizeOf22 (by decide) f rfl rfl fun a f => l_boxCell 0 0 m Pl22 f rfl rfl rfl rfl fun a f => l_mv f rfl rfl fun a f => ?_
      obtain ⟨bv, bw, bs⟩ := bind_some bs
      refine l_at T22 f rfl rfl rfl h0_0 bw fun bx bz a bA bB f => l_loadAt m Pl42 f rfl rfl bA fun a f => l_len Tryz.underlying42 f rfl rfl bB fun a f => l_in f rfl rfl rfl b_lss fun a f => l_nil ?_
      rcases cond_some bs with ⟨bC, bs⟩ | ⟨bC, bs⟩
      ·refine k_true f rfl bC ?_
       refine k_skip ?_
       refine k_seq (k_block (k_seq ?_))
       refine k_draw 15 Follows (by kernel_rfl) m ?_
       refine q_fieldAddr (i := 0) 15 Tryz.underlying30 rfl Tryz.sizeOf22 (by decide) rfl (by kernel_rfl) rfl f rfl rfl rfl fun a f => q_boxCell (i := 1) 15 0 Pl22 rfl rfl rfl (by kernel_rfl) rfl f rfl rfl rfl fun a f => q_fieldAddr (i := 2) 15 Tryz.underlying30 rfl Tryz.sizeOf22 (by decide) rfl (by kernel_rfl) rfl f rfl rfl rfl fun a f => q_boxCell (i := 3) 15 0 Pl22 rfl rfl rfl (by kernel_rfl) rfl f rfl rfl rfl fun a f => q_mv 4 15 rfl (by kernel_rfl) f rfl rfl rfl fun a f => ?_
       obtain ⟨bD, bE, bs⟩ := bind_some bs
       refine q_at (i := 5) 15 T22 h0_0 bE rfl (by kernel_rfl) rfl f rfl rfl rfl rfl fun bF bG a bH bI f => q_loadAt (i := 6) 15 Pl42 bH rfl (by kernel_rfl) rfl f rfl rfl rfl fun a f => q_mv 7 15 rfl (by kernel_rfl) f rfl rfl rfl fun a f => ?_
       obtain ⟨bJ, bK, bs⟩ := bind_some bs
       refine q_at (i := 8) 15 T42 bI bK rfl (by kernel_rfl) rfl f rfl rfl rfl rfl fun bL bM a bN bO f => ?_
       subst bO
       refine q_loadAt (i := 9) 15 Pl2 bN rfl (by kernel_rfl) rfl f rfl rfl rfl fun a f => ?_
       obtain ⟨bP, bQ, bs⟩ := bind_some bs
       refine q_at (i := 10) 15 T22 h0_0 bQ rfl (by kernel_rfl) rfl f rfl rfl rfl rfl fun bR bS a bT bU f => q_loadAt (i := 11) 15 Pl42 bT rfl (by kernel_rfl) rfl f rfl rfl rfl fun a f => q_mv 12 15 rfl (by kernel_rfl) f rfl rfl rfl fun a f => ?_
       obtain ⟨bV, bW, bs⟩ := bind_some bs
       refine q_call (i := 13) 15 rfl (by kernel_rfl) rfl f rfl rfl rfl Tryz.call70 (fun _ _ w bX m => Wk.spec_l1Has m (rd1 bX bU) bW) fun a f => q_p 14 15 rfl (by kernel_rfl) f rfl rfl rfl (fun _ => r_not (f.eval rfl)) fun a f => q_end fun bY w bZ m => ?_
       have h0_0 := rd2 bZ h0_0
       have bH := At.mono bZ bH
       have bI := rd1 bZ bI
       have bN := At.mono bZ bN
       have bT := At.mono bZ bT
       have bU := rd1 bZ bU
       refine l_nil ?_
       rcases cond_some bs with ⟨b0, bs⟩ | ⟨b0, bs⟩
       ·refine k_true f rfl b0 ?_
        refine k_seq (k_region ?_)
        refine l_as f rfl rfl fun a f => l_nil ?_
        refine k_ret ?_
        have m : Mem W bY w H := Mem.drop (H' := [Itm.box aa 30 [v0_0]]) m
        obtain rfl := sj bs
        obtain rfl := bt _ rfl
        obtain rfl := sj bh
        obtain rfl := bi _ rfl
        obtain rfl := sj hd
        exact ⟨[(.bool false)], ⟨f.get _ _ rfl, trivial⟩, f.defers, _, [], (GLe.trans ag (GLe.trans an (GLe.trans a9 (GLe.trans bj (GLe.trans bu bZ))))), m, rfl, rfl⟩
       ·refine k_false f rfl b0 ?_
        refine k_skip ?_
        refine k_region ?_
        refine l_mv f rfl rfl fun a f => l_in f rfl rfl rfl b_add fun a f => l_as f rfl rfl fun a f => l_nil ?_
        obtain rfl := sj bs
        exact ⟨_, rfl, _, rfl, _, (GLe.trans bu bZ), f.weak ⟨rfl, rfl, rfl, rfl, trivial⟩, m⟩
      ·refine k_false f rfl bC ?_
       refine k_exit rfl ?_
       obtain rfl := sj bs
       obtain rfl := bt _ rfl
       exact ⟨_, rfl, _, bu, f.weak ⟨rfl, rfl, rfl, trivial⟩, m⟩
     ·rintro a w ⟨_, rfl, bn, b1, f, m⟩
      have h0_0 := rd2 b1 h0_0
      refine k_region ?_
      refine l_mv f rfl rfl fun a f => l_in f rfl rfl rfl b_add fun a f => l_as f rfl rfl fun a f => l_nil ?_
      obtain rfl := sj bh
      exact ⟨_, rfl, _, rfl, _, (GLe.trans bj b1), f.weak ⟨rfl, rfl, rfl, trivial⟩, m⟩
    ·refine k_false f rfl bk ?_
     refine k_exit rfl ?_
     have m : Mem W bf w H := Mem.drop (H' := [Itm.box aa 30 [v0_0]]) m
     obtain rfl := sj bh
     obtain rfl := bi _ rfl
     exact ⟨_, rfl, _, bj, f.weak trivial, m⟩
   ·rintro a w ⟨_, rfl, bc, b2, f, m⟩
    refine k_seq (k_region ?_)
    refine l_as f rfl rfl fun a f => l_nil ?_
    refine k_ret ?_
    obtain rfl := sj hd
    exact ⟨[(.bool true)], ⟨f.get _ _ rfl, trivial⟩, f.defers, _, [], (GLe.trans ag (GLe.trans an (GLe.trans a9 b2))), m, rfl, rfl⟩

theorem Wk.spec_l1There {W w : World} {G : GH} {H : List Itm} {v0_0 : Value} {x0_0 : (List (List Int))} {x1 : Int} (m : Mem W G w (H)) (h0_0 : RSl (RSl (RI .i64)) G v0_0 x0_0) {y : Bool} (hd : D.spec_l1There x0_0 x1 = some y) :
  Calls Tryz.prog 149 #[(.agg #[v0_0]), (.int .i64 x1)] w (Res W G H (fun _ Ho v => Ho = [] ∧ v = (.bool y))) := by
 refine calls_b (args := [(.agg #[v0_0]), (.int .i64 x1)]) (N := 10) [.tmp 4] Tryz.func149 rfl rfl (Nat.le_of_ble_eq_true rfl) rfl fun a f => ?_
 unfold D.spec_l1There at hd
 refine k_seq (k_region ?_)
 refine l_box (cs := [v0_0]) m f rfl rfl rfl fun aa w a m f => l_as f rfl rfl fun a f => l_nil (k_seq (k_region ?_))
 refine l_mv f rfl rfl fun a f => l_boxAgg 0 0 (ds := [v0_0]) m Ag30 f rfl rfl rfl rfl rfl fun a f => ?_
 obtain ⟨ab, ac, hd⟩ := bind_some hd
 refine l_res f rfl rfl Tryz.call80 (Wk.spec_l1Size m h0_0 ac) fun ad ae af w ag m ah a f => ?_
 obtain ⟨rfl, rfl⟩ := ah
 have h0_0 := rd2 ag h0_0
 refine l_in f rfl rfl rfl b_sub fun a f => ?_
 obtain ⟨ai, aj, hd⟩ := bind_some hd
 refine l_res f rfl rfl Tryz.call141 (Wk.spec_l1In m  aj) fun ak al am w an m ao a f => ?_
 obtain ⟨rfl, rfl⟩ := ao
 have h0_0 := rd2 an h0_0
 refine l_as f rfl rfl fun a f => l_nil ?_
 refine k_ret ?_
 have m : Mem W al w H := Mem.drop (H' := [Itm.box aa 30 [v0_0]]) m
 obtain rfl := sj hd
 exact ⟨[(.bool ai)], ⟨f.get _ _ rfl, trivial⟩, f.defers, _, [], (GLe.trans ag an), m, rfl, rfl⟩

theorem Wk.spec_l1Order {W w : World} {G : GH} {H : List Itm} {v0_0 : Value} {v1 : Value} {x0_0 : (List (List Int))} {x1 : (List Int)} (m : Mem W G w (H)) (h0_0 : RSl (RSl (RI .i64)) G v0_0 x0_0) (h1 : RSl (RI .i64) G v1 x1) {y : Bool} (hd : D.spec_l1Order x0_0 x1 = some y) :
  Calls Tryz.prog 108 #[(.agg #[v0_0]), v1] w (Res W G H (fun _ Ho v => Ho = [] ∧ v = (.bool y))) := by
 refine calls_b (args := [(.agg #[v0_0]), v1]) (N := 34) [.tmp 4] Tryz.func108 rfl rfl (Nat.le_of_ble_eq_true rfl) rfl fun a f => ?_
 unfold D.spec_l1Order at hd
 refine k_seq (k_region ?_)
 refine l_box (cs := [v0_0]) m f rfl rfl rfl fun aa w a m f => l_as f rfl rfl fun a f => l_nil (k_seq (k_seq (k_region ?_)))
 refine l_mv f rfl rfl fun a f => l_len Tryz.underlying42 f rfl rfl h1 fun a f => l_boxAgg 0 0 (ds := [v0_0]) m Ag30 f rfl rfl rfl rfl rfl fun a f => ?_
 obtain ⟨ab, ac, hd⟩ := bind_some hd
 refine l_res f rfl rfl Tryz.call80 (Wk.spec_l1Size m h0_0 ac) fun ad ae af w ag m ah a f => ?_
 obtain ⟨rfl, rfl⟩ := ah
 have h0_0 := rd2 ag h0_0
 have h1 := rd1 ag h1
 refine l_in f rfl rfl rfl b_neq fun a f => l_nil ?_
 rcases cond_some hd with ⟨ai, hd⟩ | ⟨ai, hd⟩
 ·refine k_true f rfl ai ?_
  refine k_seq (k_region ?_)
  refine l_as f rfl rfl fun a f => l_nil ?_
  refine k_ret ?_
  have m : Mem W ae w H := Mem.drop (H' := [Itm.box aa 30 [v0_0]]) m
  obtain rfl := sj hd
  exact ⟨[(.bool false)], ⟨f.get _ _ rfl, trivial⟩, f.defers, _, [], ag, m, rfl, rfl⟩
 ·refine k_false f rfl ai ?_
  refine k_skip ?_
  refine k_seq (k_seq (k_region ?_))
  refine l_as f rfl rfl fun a f => l_nil ?_
  obtain ⟨aj, ak, hd⟩ := bind_some hd
  refine k_cut (fun a w => ∃ q_99' : Unit, aj = .inl q_99' ∧ ∃ (al : GH), GLe ae al ∧ Fr a 34 [] ∧ Mem W al w (H)) ?_ ?_
  ·refine k_block ?_
   refine k_loop (fun am a w => ∃ an : Int, an = am ∧ ∃ (ao : GH), GLe ae ao ∧ Fr a 34 [(1, v1), (2, (.pointer (some ⟨aa, 0, none⟩))), (5, (.int .i64 an))] ∧ Mem W ao w (Itm.box aa 30 [v0_0] :: H)) ak ⟨_, rfl, _, (GLe.refl _), f.weak ⟨rfl, rfl, rfl, trivial⟩, m⟩ ?_
   clear ak f m
   rintro am ap aq ar a w ⟨an, rfl, ao, au, f, m⟩
   have h1 := rd1 au h1
   have h0_0 := rd2 au h0_0
   refine k_seq (k_seq (k_region ?_))
   refine l_mv f rfl rfl fun a f => l_mv f rfl rfl fun a f => l_len Tryz.underlying42 f rfl rfl h1 fun a f => l_in f rfl rfl rfl b_lss fun a f => l_nil ?_
   rcases cond_some aq with ⟨av, aq⟩ | ⟨av, aq⟩
   ·refine k_true f rfl av ?_
    refine k_skip ?_
    refine k_seq (k_block (k_seq ?_))
    refine k_draw 17 Follows (by kernel_rfl) m ?_
    refine q_boxAgg (i := 0) (ds := [v0_0]) 17 0 Ag30 rfl rfl rfl rfl (by kernel_rfl) rfl f rfl rfl rfl fun a f => q_mv 1 17 rfl (by kernel_rfl) f rfl rfl rfl fun a f => q_mv 2 17 rfl (by kernel_rfl) f rfl rfl rfl fun a f => ?_
    obtain ⟨aw, ax, aq⟩ := bind_some aq
    refine q_at (i := 3) 17 T42 h1 ax rfl (by kernel_rfl) rfl f rfl rfl rfl rfl fun ay az a aA aB f => ?_
    subst aB
    refine q_loadAt (i := 4) 17 Pl2 aA rfl (by kernel_rfl) rfl f rfl rfl rfl fun a f => ?_
    obtain ⟨aC, aD, aq⟩ := bind_some aq
    refine q_call (i := 5) 17 rfl (by kernel_rfl) rfl f rfl rfl rfl Tryz.call149 (fun _ _ w aE m => Wk.spec_l1There m (rd2 aE h0_0) aD) fun a f => q_p 6 17 rfl (by kernel_rfl) f rfl rfl rfl (fun _ => r_not (f.eval rfl)) fun a f => q_mv 7 17 rfl (by kernel_rfl) f rfl rfl rfl fun a f => ?_
    obtain ⟨aF, aG, aq⟩ := bind_some aq
    refine q_cut (fuel' := 0) (listed' := #[true, true, true, true, true, true, true, true, true, true, true, true, true, true, true, true, true]) (fun a => Fr a 34 [(1, v1), (2, (.pointer (some ⟨aa, 0, none⟩))), (5, (.int .i64 an)), (14, (.bool (decide (an < (x1.length : Int))))), (17, (.agg #[v0_0])), (18, v1), (19, (.int .i64 an)), (20, ay), (21, (.int .i64 aw)), (22, (.bool aC)), (23, (.bool (!aC))), (24, (.bool (!aC))), (33, (.bool aF))]) ?_ ?_
    ·intro a f
     refine q_end fun aH w aI m => ?_
     have h1 := rd1 aI h1
     have h0_0 := rd2 aI h0_0
     have aA := At.mono aI aA
     refine l_nil ?_
     rcases cond_some aq with ⟨aJ, aq⟩ | ⟨aJ, aq⟩
     ·refine k_true f rfl aJ ?_
      refine k_seq (k_region ?_)
      refine l_as f rfl rfl fun a f => l_nil ?_
      refine k_ret ?_
      have m : Mem W aH w H := Mem.drop (H' := [Itm.box aa 30 [v0_0]]) m
      obtain rfl := sj aq
      obtain rfl := ar _ rfl
      obtain rfl := sj hd
      exact ⟨[(.bool false)], ⟨f.get _ _ rfl, trivial⟩, f.defers, _, [], (GLe.trans ag (GLe.trans au aI)), m, rfl, rfl⟩
     ·refine k_false f rfl aJ ?_
      refine k_skip ?_
      refine k_region ?_
      refine l_mv f rfl rfl fun a f => l_in f rfl rfl rfl b_add fun a f => l_as f rfl rfl fun a f => l_nil ?_
      obtain rfl := sj aq
      exact ⟨_, rfl, _, rfl, _, (GLe.trans au aI), f.weak ⟨rfl, rfl, rfl, trivial⟩, m⟩
    ·intro aK
     rcases cond_some aG with ⟨aL, aG⟩ | ⟨aL, aG⟩
     ·refine q_ng 8 17 rfl (by kernel_rfl) f rfl rfl aL rfl fun a f => ?_
      refine q_ng 9 17 rfl (by kernel_rfl) f rfl rfl aL rfl fun a f => q_ng 10 17 rfl (by kernel_rfl) f rfl rfl aL rfl fun a f => q_ng 11 17 rfl (by kernel_rfl) f rfl rfl aL rfl fun a f => q_ng 12 17 rfl (by kernel_rfl) f rfl rfl aL rfl fun a f => q_ng 13 17 rfl (by kernel_rfl) f rfl rfl aL rfl fun a f => q_ng 14 17 rfl (by kernel_rfl) f rfl rfl aL rfl fun a f => q_ng 15 17 rfl (by kernel_rfl) f rfl rfl aL rfl fun a f => q_p 16 17 rfl (by kernel_rfl) f rfl rfl rfl (fun _ => r_pickT (f.eval rfl) aL (f.eval rfl)) fun a f => ?_
      obtain rfl := sj aG
      exact aK _ (f.weak ⟨rfl, rfl, rfl, rfl, rfl, rfl, rfl, rfl, rfl, rfl, rfl, rfl, rfl, trivial⟩)
     ·refine q_mv 8 17 rfl (by kernel_rfl) f (wanted_of f rfl rfl rfl aL) rfl rfl fun a f => ?_
      refine q_mv 9 17 rfl (by kernel_rfl) f (wanted_of f rfl rfl rfl aL) rfl rfl fun a f => ?_
      obtain ⟨aM, aN, aG⟩ := bind_some aG
      refine q_slice (i := 10) 17 T42 h1 aN rfl (by kernel_rfl) rfl f (wanted_of f rfl rfl rfl aL) rfl rfl (.inl ⟨rfl, rfl⟩) (.inr ⟨_, _, rfl, rfl⟩) fun aO a aP f => q_mv 11 17 rfl (by kernel_rfl) f (wanted_of f rfl rfl rfl aL) rfl rfl fun a f => q_mv 12 17 rfl (by kernel_rfl) f (wanted_of f rfl rfl rfl aL) rfl rfl fun a f => ?_
      obtain ⟨aQ, aR, aG⟩ := bind_some aG
      refine q_at (i := 13) 17 T42 h1 aR rfl (by kernel_rfl) rfl f (wanted_of f rfl rfl rfl aL) rfl rfl rfl fun aS aT a aU aV f => ?_
      subst aV
      refine q_loadAt (i := 14) 17 Pl2 aU rfl (by kernel_rfl) rfl f (wanted_of f rfl rfl rfl aL) rfl rfl fun a f => ?_
      obtain ⟨aW, aX, aG⟩ := bind_some aG
      refine q_call (i := 15) 17 rfl (by kernel_rfl) rfl f (wanted_of f rfl rfl rfl aL) rfl rfl Tryz.call70 (fun _ _ w aY m => Wk.spec_l1Has m (rd1 aY aP) aX) fun a f => q_p 16 17 rfl (by kernel_rfl) f rfl rfl rfl (fun _ => r_pickF (f.eval rfl) aL (f.eval rfl)) fun a f => ?_
      obtain rfl := sj aG
      exact aK _ (f.weak ⟨rfl, rfl, rfl, rfl, rfl, rfl, rfl, rfl, rfl, rfl, rfl, rfl, rfl, trivial⟩)
   ·refine k_false f rfl av ?_
    refine k_exit rfl ?_
    have m : Mem W ao w H := Mem.drop (H' := [Itm.box aa 30 [v0_0]]) m
    obtain rfl := sj aq
    obtain rfl := ar _ rfl
    exact ⟨_, rfl, _, au, f.weak trivial, m⟩
  ·rintro a w ⟨_, rfl, al, aZ, f, m⟩
   refine k_seq (k_region ?_)
   refine l_as f rfl rfl fun a f => l_nil ?_
   refine k_ret ?_
   obtain rfl := sj hd
   exact ⟨[(.bool true)], ⟨f.get _ _ rfl, trivial⟩, f.defers, _, [], (GLe.trans ag aZ), m, rfl, rfl⟩

theorem Wk.spec_OrderOk {W w : World} {G : GH} {H : List Itm} {v0_0 : Value} {v1 : Value} {x0_0 : (List (List Int))} {x1 : (List Int)} (m : Mem W G w (H)) (h0_0 : RSl (RSl (RI .i64)) G v0_0 x0_0) (h1 : RSl (RI .i64) G v1 x1) {y : Bool} (hd : D.spec_OrderOk x0_0 x1 = some y) :
  Calls Tryz.prog 41 #[(.agg #[v0_0]), v1] w (Res W G H (fun _ Ho v => Ho = [] ∧ v = (.bool y))) := by
 refine calls_b (args := [(.agg #[v0_0]), v1]) (N := 12) [.tmp 4] Tryz.func41 rfl rfl (Nat.le_of_ble_eq_true rfl) rfl fun a f => ?_
 unfold D.spec_OrderOk at hd
 refine k_seq (k_region ?_)
 refine l_box (cs := [v0_0]) m f rfl rfl rfl fun aa w a m f => l_as f rfl rfl fun a f => l_nil (k_seq (k_region ?_))
 refine l_boxAgg 0 0 (ds := [v0_0]) m Ag30 f rfl rfl rfl rfl rfl fun a f => ?_
 obtain ⟨ab, ac, hd⟩ := bind_some hd
 refine l_res f rfl rfl Tryz.call77 (Wk.spec_GraphOk m h0_0 ac) fun ad ae af w ag m ah a f => ?_
 obtain ⟨rfl, rfl⟩ := ah
 have h0_0 := rd2 ag h0_0
 have h1 := rd1 ag h1
 refine l_mv f rfl rfl fun a f => ?_
 obtain ⟨ai, aj, hd⟩ := bind_some hd
 refine l_cut 4 (fun a w => ∃ ak, GLe ae ak ∧ Mem W ak w (Itm.box aa 30 [v0_0] :: H) ∧ Fr a 12 [(0, (.agg #[v0_0])), (1, v1), (2, (.pointer (some ⟨aa, 0, none⟩))), (5, (.agg #[v0_0])), (6, (.bool ab)), (7, (.bool ab)), (11, (.bool ai))]) ?_ ?_
 ·rcases cond_some aj with ⟨al, aj⟩ | ⟨al, aj⟩
  ·refine l_run f rfl rfl al ?_
   refine l_boxAgg 0 0 (ds := [v0_0]) m Ag30 f rfl rfl rfl rfl rfl fun a f => l_run f rfl rfl al ?_
   refine l_mv f rfl rfl fun a f => l_run f rfl rfl al ?_
   obtain ⟨am, an, aj⟩ := bind_some aj
   refine l_res f rfl rfl Tryz.call108 (Wk.spec_l1Order m h0_0 h1 an) fun ao ap aq w ar m au a f => ?_
   obtain ⟨rfl, rfl⟩ := au
   have h0_0 := rd2 ar h0_0
   have h1 := rd1 ar h1
   refine l_op f rfl rfl rfl (r_pickT (f.eval rfl) al (f.eval rfl)) fun a f => ?_
   obtain rfl := sj aj
   exact ⟨_, ar, m, f.weak ⟨rfl, rfl, rfl, rfl, rfl, rfl, rfl, trivial⟩⟩
  ·refine l_not' f rfl rfl rfl al fun a f => ?_
   refine l_not' f rfl rfl rfl al fun a f => l_not' f rfl rfl rfl al fun a f => l_op f rfl rfl rfl (r_pickF (f.eval rfl) al (f.eval rfl)) fun a f => ?_
   obtain rfl := sj aj
   exact ⟨_, (GLe.refl _), m, f.weak ⟨rfl, rfl, rfl, rfl, rfl, rfl, rfl, trivial⟩⟩
 ·rintro a w ⟨ak, av, m, f⟩
  have h0_0 := rd2 av h0_0
  have h1 := rd1 av h1
  refine l_as f rfl rfl fun a f => l_nil ?_
  refine k_ret ?_
  have m : Mem W ak w H := Mem.drop (H' := [Itm.box aa 30 [v0_0]]) m
  obtain rfl := sj hd
  exact ⟨[(.bool ai)], ⟨f.get _ _ rfl, trivial⟩, f.defers, _, [], (GLe.trans ag av), m, rfl, rfl⟩

theorem Wk.spec_l1Copy {W w : World} {G : GH} {H : List Itm} {v0 : Value} {x0 : (List Int)} (m : Mem W G w (H)) (h0 : RSl (RI .i64) G v0 x0) {y : ((List Int))} (hd : D.spec_l1Copy x0 = some y) :
  Calls Tryz.prog 69 #[v0] w (Res W G H (fun G' Ho v => ∃ r0 : Value, ∃ i0 : Itm, Ho = [i0] ∧ r0 = v ∧ Ow (RI .i64) 2 G' i0 r0 y)) := by
 refine calls_b (args := [v0]) (N := 6) [.tmp 2] Tryz.func69 rfl rfl (Nat.le_of_ble_eq_true rfl) rfl fun a f => ?_
 unfold D.spec_l1Copy at hd
 refine k_seq (k_region ?_)
 refine l_as f rfl rfl fun a f => l_nil (k_seq (k_region ?_))
 refine l_slit (R := (RI .i64)) (xs := ([] : List Int)) (RI.one _) m T42 f rfl rfl rfl (by decide) (All2.nil _) fun aa ab w a m ac f => l_mv f rfl rfl fun a f => ?_
 obtain ⟨ad, ae, hd⟩ := bind_some hd
 refine l_append (RI.one _) 0 m ac rfl T42 rfl (by decide) f rfl rfl rfl (h0.src m) ae fun af ag w a m ah f => l_as f rfl rfl fun a f => l_nil ?_
 refine k_ret ?_
 obtain rfl := sj hd
 exact ⟨[ag], ⟨f.get _ _ rfl, trivial⟩, f.defers, _, [af], (GLe.refl _), m, _, _, rfl, rfl, ah⟩

theorem Wk.spec_l1CopyGraph {W w : World} {G : GH} {H : List Itm} {v0_0 : Value} {x0_0 : (List (List Int))} (m : Mem W G w (H)) (h0_0 : RSl (RSl (RI .i64)) G v0_0 x0_0) {y : ((List (List Int)))} (hd : D.spec_l1CopyGraph x0_0 = some y) :
  Calls Tryz.prog 168 #[(.agg #[v0_0])] w (Res W G H (fun G' Ho v => ∃ r0 : Value, ∃ i0 : Itm, Ho = [i0] ∧ v = (.agg #[r0]) ∧ Ow (RSl (RI .i64)) 42 G' i0 r0 y)) := by
 refine calls_b (args := [(.agg #[v0_0])]) (N := 25) [.cell 2 30] Tryz.func168 rfl rfl (Nat.le_of_ble_eq_true rfl) rfl fun a f => ?_
 unfold D.spec_l1CopyGraph at hd
 refine k_seq (k_region ?_)
 refine l_box (cs := [v0_0]) m f rfl rfl rfl fun aa w a m f => l_alloc (cs := [(.slice none 0 0)]) Tryz.zeroValue30 m f rfl rfl fun ab w a m f => l_nil (k_seq (k_region ?_))
 have ac : ∀ w, (Instr.build 30 #[]).run Tryz.prog w = .ok (.agg #[(.slice none 0 0)]) w := by intro w; simp [Instr.build, Instr.fill, cells_int, cells_bool, cells_string, cells_slice, cells_pointer, cells_agg]
 refine l_build f rfl rfl ac fun a f => l_alloc (cs := [(.slice none 0 0)]) Tryz.zeroValue30 m f rfl rfl fun ad w a m f => l_boxStore 0 0 (ds := [(.slice none 0 0)]) m Tryz.sizeOf30 f rfl rfl rfl (ones_cons rfl ones_nil) rfl (Nat.le_of_ble_eq_true rfl) rfl fun w m => l_nil (k_seq (k_seq (k_region ?_)))
 refine l_as f rfl rfl fun a f => l_nil ?_
 obtain ⟨ae, m, af⟩ := Ow.nil (RSl (RI .i64)) 42 m
 obtain ⟨ag, ah, hd⟩ := bind_some hd
 refine k_cut (fun a w => ∃ ai : List (List Int), ai = ag ∧ ∃ (aj : GH) (ak : Value) (al : Itm), GLe G aj ∧ Fr a 25 [(2, (.pointer (some ⟨ab, 0, none⟩))), (3, (.pointer (some ⟨ad, 0, none⟩)))] ∧ Mem W aj w (Itm.box ab 30 [(.slice none 0 0)] :: Itm.box ad 30 [ak] :: al :: H) ∧ Ow (RSl (RI .i64)) 42 aj al ak ai) ?_ ?_
 ·refine k_block ?_
  have m := m.front 1 rfl
  have m := m.front 2 rfl
  have m : Mem W G w (Itm.box aa 30 [v0_0] :: Itm.box ab 30 [(.slice none 0 0)] :: Itm.box ad 30 [(.slice none 0 0)] :: ae :: H) := m.front 3 rfl
  refine k_loop (fun am a w => ∃ an : Int, ∃ ao : List (List Int), (an, ao) = am ∧ ∃ (ap : GH) (aq : Value) (ar : Itm), GLe G ap ∧ Fr a 25 [(1, (.pointer (some ⟨aa, 0, none⟩))), (2, (.pointer (some ⟨ab, 0, none⟩))), (3, (.pointer (some ⟨ad, 0, none⟩))), (4, (.int .i64 an))] ∧ Mem W ap w (Itm.box aa 30 [v0_0] :: Itm.box ab 30 [(.slice none 0 0)] :: Itm.box ad 30 [aq] :: ar :: H) ∧ Ow (RSl (RI .i64)) 42 ap ar aq ao) ah ⟨_, _, rfl, _, (.slice none 0 0), ae, (GLe.refl _), f.weak ⟨rfl, rfl, rfl, rfl, trivial⟩, m, af⟩ ?_
  clear ah f m
  rintro am au av aw a w ⟨an, ao, rfl, ap, aq, ar, ax, f, m, ay⟩
  have h0_0 := rd2 ax h0_0
  refine k_seq (k_seq (k_region ?_))
  refine l_mv f rfl rfl fun a f => l_fieldAddr Tryz.underlying30 rfl Tryz.sizeOf22 (by decide) f rfl rfl fun a f => l_boxCell 0 0 m Pl22 f rfl rfl rfl rfl fun a f => l_len Tryz.underlying22 f rfl rfl h0_0 fun a f => l_in f rfl rfl rfl b_lss fun a f => l_nil ?_
  rcases cond_some av with ⟨az, av⟩ | ⟨az, av⟩
  ·refine k_true f rfl az ?_
   refine k_skip ?_
   refine k_seq (k_block ?_)
   refine k_draw 9 Follows (by kernel_rfl) m ?_
   refine q_fieldAddr (i := 0) 9 Tryz.underlying30 rfl Tryz.sizeOf22 (by decide) rfl (by kernel_rfl) rfl f rfl rfl rfl fun a f => q_boxCell (i := 1) 9 2 Pl22 rfl rfl rfl (by kernel_rfl) rfl f rfl rfl rfl fun a f => q_fieldAddr (i := 2) 9 Tryz.underlying30 rfl Tryz.sizeOf22 (by decide) rfl (by kernel_rfl) rfl f rfl rfl rfl fun a f => q_boxCell (i := 3) 9 0 Pl22 rfl rfl rfl (by kernel_rfl) rfl f rfl rfl rfl fun a f => q_mv 4 9 rfl (by kernel_rfl) f rfl rfl rfl fun a f => ?_
   obtain ⟨aA, aB, av⟩ := bind_some av
   refine q_at (i := 5) 9 T22 h0_0 aB rfl (by kernel_rfl) rfl f rfl rfl rfl rfl fun aC aD a aE aF f => q_loadAt (i := 6) 9 Pl42 aE rfl (by kernel_rfl) rfl f rfl rfl rfl fun a f => q_one (i := 7) rfl (by kernel_rfl) rfl fun aG w aH m aI aI => ?_
   have h0_0 := rd2 aH h0_0
   have aE := At.mono aH aE
   have aF := rd1 aH aF
   have ay := Ow.mono (RSl.mono (RI.mono _)) aH ay
   obtain ⟨aJ, aK, av⟩ := bind_some av
   refine l_res f rfl rfl Tryz.call69 (Wk.spec_l1Copy m aF aK) fun aL aM aN w aO m aP a f => ?_
   obtain ⟨aQ, aR, rfl, rfl, aS⟩ := aP
   have h0_0 := rd2 aO h0_0
   have aE := At.mono aO aE
   have aF := rd1 aO aF
   have ay := Ow.mono (RSl.mono (RI.mono _)) aO ay
   refine l_nil ?_
   refine aI aM [aR] _ _ aO m ?_
   refine q_one (i := 8) rfl (by kernel_rfl) rfl fun aT w aU m aV aV => ?_
   have h0_0 := rd2 aU h0_0
   have aE := At.mono aU aE
   have aF := rd1 aU aF
   have aS := od1 aU aS
   have ay := Ow.mono (RSl.mono (RI.mono _)) aU ay
   obtain ⟨aW, aX, m, aY⟩ := Ow.stamp (RI.mono _) aS m
   have h0_0 := rd2 aX h0_0
   have aE := At.mono aX aE
   have aF := rd1 aX aF
   have ay := Ow.mono (RSl.mono (RI.mono _)) aX ay
   refine l_slit (R := (RSl (RI .i64))) (xs := ([aJ] : List (List Int))) (RSl.one _) m T22 f rfl rfl rfl (by decide) (All2.cons aY (All2.nil _)) fun aZ a0 w a m a1 f => l_nil ?_
   refine aV aW [aZ] _ _ aX m ?_
   refine q_end fun a2 w a3 m => ?_
   have h0_0 := rd2 a3 h0_0
   have aE := At.mono a3 aE
   have aF := rd1 a3 aF
   have aY := rd1 a3 aY
   have a1 := Ow.mono (RSl.mono (RI.mono _)) a3 a1
   have ay := Ow.mono (RSl.mono (RI.mono _)) a3 ay
   obtain ⟨a4, a5, av⟩ := bind_some av
   refine l_append (RSl.one _) 4 m ay rfl T22 rfl (by decide) f rfl rfl rfl (Ow.src (j := 0) a1 m rfl) a5 fun a6 a7 w a m a8 f => l_fieldAddr Tryz.underlying30 rfl Tryz.sizeOf22 (by decide) f rfl rfl fun a f => l_boxStore 3 0 (ds := [a7]) m Tryz.sizeOf22 f rfl rfl (Ow.cells 4 m a8 rfl) (ones_cons (Ow.one1 4 m a8 rfl) ones_nil) rfl (Nat.le_of_ble_eq_true rfl) rfl fun w m => l_nil (k_region ?_)
   refine l_mv f rfl rfl fun a f => l_in f rfl rfl rfl b_add fun a f => l_as f rfl rfl fun a f => l_nil ?_
   have m := m.front 4 rfl
   have m := m.front 4 rfl
   have m : Mem W a2 w (Itm.box ab 30 [(.slice none 0 0)] :: Itm.box ad 30 [a7] :: a6 :: aZ :: Itm.box aa 30 [v0_0] :: H) := m.front 4 rfl
   have m := m.front 4 rfl
   have m : Mem W a2 w (Itm.box aa 30 [v0_0] :: Itm.box ab 30 [(.slice none 0 0)] :: Itm.box ad 30 [a7] :: a6 :: H) := m.eraseAt 4
   obtain rfl := sj av
   exact ⟨_, rfl, _, _, rfl, _, a7, a6, (GLe.trans ax (GLe.trans aH (GLe.trans aO (GLe.trans aU (GLe.trans aX a3))))), f.weak ⟨rfl, rfl, rfl, rfl, trivial⟩, m, a8⟩
  ·refine k_false f rfl az ?_
   refine k_exit rfl ?_
   have m := m.front 3 rfl
   have m := m.front 3 rfl
   have m : Mem W ap w (Itm.box ab 30 [(.slice none 0 0)] :: Itm.box ad 30 [aq] :: ar :: Itm.box aa 30 [v0_0] :: H) := m.front 3 rfl
   have m := m.eraseAt 3
   obtain rfl := sj av
   obtain rfl := aw _ rfl
   exact ⟨_, rfl, _, aq, ar, ax, f.weak ⟨rfl, rfl, trivial⟩, m, ay⟩
 ·rintro a w ⟨ai, rfl, aj, ak, al, a9, f, m, ba⟩
  refine k_seq (k_region ?_)
  refine l_boxAgg 1 0 (ds := [ak]) m Ag30 f rfl rfl rfl rfl rfl fun a f => l_boxStore 0 0 (ds := [ak]) m Tryz.sizeOf30 f rfl rfl rfl (ones_cons (Ow.one1 2 m ba rfl) ones_nil) rfl (Nat.le_of_ble_eq_true rfl) rfl fun w m => l_nil ?_
  refine k_ret ?_
  have bb := rr_agg (P := Tryz.prog) 0 m Ag30 f (s := 2) rfl rfl rfl
  have m := m.front 2 rfl
  have m := m.eraseAt 2
  have m := m.eraseAt 1
  obtain rfl := sj hd
  exact ⟨[(.agg #[ak])], ⟨bb, trivial⟩, f.defers, _, [al], a9, m, _, _, rfl, rfl, ba⟩

theorem Wk.spec_l7Left {W w : World} {G : GH} {H : List Itm} {v0_0 : Value} {v2 : Value} {x0_0 : (List (List Int))} {x1 : Int} {x2 : (List Bool)} (m : Mem W G w (H)) (h0_0 : RSl (RSl (RI .i64)) G v0_0 x0_0) (h2 : RSl RB G v2 x2) {y : ((List Int))} (hd : D.spec_l7Left x0_0 x1 x2 = some y) :
  Calls Tryz.prog 132 #[(.agg #[v0_0]), (.int .i64 x1), v2] w (Res W G H (fun G' Ho v => ∃ r0 : Value, ∃ i0 : Itm, Ho = [i0] ∧ r0 = v ∧ Ow (RI .i64) 2 G' i0 r0 y)) := by
 refine calls_b (args := [(.agg #[v0_0]), (.int .i64 x1), v2]) (N := 44) [.tmp 6] Tryz.func132 rfl rfl (Nat.le_of_ble_eq_true rfl) rfl fun a f => ?_
 unfold D.spec_l7Left at hd
 refine k_seq (k_region ?_)
 refine l_box (cs := [v0_0]) m f rfl rfl rfl fun aa w a m f => l_as f rfl rfl fun a f => l_nil (k_seq (k_region ?_))
 refine l_slit (R := (RI .i64)) (xs := ([] : List Int)) (RI.one _) m T42 f rfl rfl rfl (by decide) (All2.nil _) fun ab ac w a m ad f => l_as f rfl rfl fun a f => l_nil (k_seq (k_seq (k_region ?_)))
 refine l_as f rfl rfl fun a f => l_nil ?_
 obtain ⟨ae, af, hd⟩ := bind_some hd
 refine k_cut (fun a w => ∃ ag : List Int, ag = ae ∧ ∃ (ah : GH) (ai : Value) (aj : Itm), GLe G ah ∧ Fr a 44 [(7, ai)] ∧ Mem W ah w (aj :: H) ∧ Ow (RI .i64) 2 ah aj ai ag) ?_ ?_
 ·refine k_block ?_
  have m := m.front 1 rfl
  refine k_loop (fun ak a w => ∃ al : List Int, ∃ am : Int, (al, am) = ak ∧ ∃ (an : GH) (ao : Value) (ap : Itm), GLe G an ∧ Fr a 44 [(1, (.int .i64 x1)), (2, v2), (3, (.pointer (some ⟨aa, 0, none⟩))), (7, ao), (8, (.int .i64 am))] ∧ Mem W an w (Itm.box aa 30 [v0_0] :: ap :: H) ∧ Ow (RI .i64) 2 an ap ao al) af ⟨_, _, rfl, _, ac, ab, (GLe.refl _), f.weak ⟨rfl, rfl, rfl, rfl, rfl, trivial⟩, m, ad⟩ ?_
  clear af f m
  rintro ak aq ar au a w ⟨al, am, rfl, an, ao, ap, av, f, m, aw⟩
  have h2 := RSl.mono RB.mono _ _ _ _ av h2
  have h0_0 := rd2 av h0_0
  refine k_seq (k_seq (k_region ?_))
  refine l_mv f rfl rfl fun a f => l_fieldAddr Tryz.underlying30 rfl Tryz.sizeOf22 (by decide) f rfl rfl fun a f => l_boxCell 0 0 m Pl22 f rfl rfl rfl rfl fun a f => l_mv f rfl rfl fun a f => ?_
  obtain ⟨ax, ay, ar⟩ := bind_some ar
  refine l_at T22 f rfl rfl rfl h0_0 ay fun az aA a aB aC f => l_loadAt m Pl42 f rfl rfl aB fun a f => l_len Tryz.underlying42 f rfl rfl aC fun a f => l_in f rfl rfl rfl b_lss fun a f => l_nil ?_
  rcases cond_some ar with ⟨aD, ar⟩ | ⟨aD, ar⟩
  ·refine k_true f rfl aD ?_
   refine k_skip ?_
   refine k_seq (k_block (k_seq (k_region ?_)))
   refine l_mv f rfl rfl fun a f => l_fieldAddr Tryz.underlying30 rfl Tryz.sizeOf22 (by decide) f rfl rfl fun a f => l_boxCell 0 0 m Pl22 f rfl rfl rfl rfl fun a f => l_mv f rfl rfl fun a f => ?_
   obtain ⟨aE, aF, ar⟩ := bind_some ar
   refine l_at T22 f rfl rfl rfl h0_0 aF fun aG aH a aI aJ f => l_loadAt m Pl42 f rfl rfl aI fun a f => l_mv f rfl rfl fun a f => ?_
   obtain ⟨aK, aL, ar⟩ := bind_some ar
   refine l_at T42 f rfl rfl rfl aJ aL fun aM aN a aO aP f => ?_
   subst aP
   refine l_loadAt m Pl2 f rfl rfl aO fun a f => ?_
   obtain ⟨aQ, aR, ar⟩ := bind_some ar
   refine l_at T142 f rfl rfl rfl h2 aR fun aS aT a aU aV f => ?_
   subst aV
   refine l_loadAt m Pl4 f rfl rfl aU fun a f => l_op f rfl rfl rfl (r_not (f.eval rfl)) fun a f => l_nil ?_
   rcases cond_some ar with ⟨aW, ar⟩ | ⟨aW, ar⟩
   ·refine k_true f rfl aW ?_
    refine k_region ?_
    refine l_mv f rfl rfl fun a f => l_fieldAddr Tryz.underlying30 rfl Tryz.sizeOf22 (by decide) f rfl rfl fun a f => l_boxCell 0 0 m Pl22 f rfl rfl rfl rfl fun a f => l_mv f rfl rfl fun a f => ?_
    obtain ⟨aX, aY, ar⟩ := bind_some ar
    refine l_at T22 f rfl rfl rfl h0_0 aY fun aZ a0 a a1 a2 f => l_loadAt m Pl42 f rfl rfl a1 fun a f => l_mv f rfl rfl fun a f => ?_
    obtain ⟨a3, a4, ar⟩ := bind_some ar
    refine l_at T42 f rfl rfl rfl a2 a4 fun a5 a6 a a7 a8 f => ?_
    subst a8
    refine l_loadAt m Pl2 f rfl rfl a7 fun a f => l_slit (R := (RI .i64)) (xs := ([a3] : List Int)) (RI.one _) m T42 f rfl rfl rfl (by decide) (All2.cons rfl (All2.nil _)) fun a9 ba w a m bb f => ?_
    obtain ⟨bc, bd, ar⟩ := bind_some ar
    refine l_append (RI.one _) 2 m aw rfl T42 rfl (by decide) f rfl rfl rfl (Ow.src (j := 0) bb m rfl) bd fun be bf w a m bg f => l_as f rfl rfl fun a f => l_nil (k_region ?_)
    refine l_mv f rfl rfl fun a f => l_in f rfl rfl rfl b_add fun a f => l_as f rfl rfl fun a f => l_nil ?_
    have m := m.front 2 rfl
    have m := m.front 2 rfl
    have m := m.eraseAt 2
    obtain rfl := sj ar
    exact ⟨_, rfl, _, _, rfl, _, bf, be, av, f.weak ⟨rfl, rfl, rfl, rfl, rfl, trivial⟩, m, bg⟩
   ·refine k_false f rfl aW ?_
    refine k_skip ?_
    refine k_region ?_
    refine l_mv f rfl rfl fun a f => l_in f rfl rfl rfl b_add fun a f => l_as f rfl rfl fun a f => l_nil ?_
    obtain rfl := sj ar
    exact ⟨_, rfl, _, _, rfl, _, ao, ap, av, f.weak ⟨rfl, rfl, rfl, rfl, rfl, trivial⟩, m, aw⟩
  ·refine k_false f rfl aD ?_
   refine k_exit rfl ?_
   have m := m.front 1 rfl
   have m := m.eraseAt 1
   obtain rfl := sj ar
   obtain rfl := au _ rfl
   exact ⟨_, rfl, _, ao, ap, av, f.weak ⟨rfl, trivial⟩, m, aw⟩
 ·rintro a w ⟨ag, rfl, ah, ai, aj, bh, f, m, bi⟩
  refine k_seq (k_region ?_)
  refine l_mv f rfl rfl fun a f => l_as f rfl rfl fun a f => l_nil ?_
  refine k_ret ?_
  obtain rfl := sj hd
  exact ⟨[ai], ⟨f.get _ _ rfl, trivial⟩, f.defers, _, [aj], bh, m, _, _, rfl, rfl, bi⟩

theorem Wk.spec_l1Into {W w : World} {G : GH} {H : List Itm} {v0 : Value} {x0 : (List Int)} {x1 : Int} (m : Mem W G w (H)) (h0 : RSl (RI .i64) G v0 x0) {y : ((List Int))} (hd : D.spec_l1Into x0 x1 = some y) :
  Calls Tryz.prog 68 #[v0, (.int .i64 x1)] w (Res W G H (fun G' Ho v => ∃ r0 : Value, Ho = [] ∧ r0 = v ∧ RSl (RI .i64) G' r0 y)) := by
 refine calls_b (args := [v0, (.int .i64 x1)]) (N := 46) [.tmp 4] Tryz.func68 rfl rfl (Nat.le_of_ble_eq_true rfl) rfl fun a f => ?_
 unfold D.spec_l1Into at hd
 refine k_seq (k_region ?_)
 refine l_as f rfl rfl fun a f => l_nil (k_seq (k_region ?_))
 refine l_as f rfl rfl fun a f => l_nil (k_seq ?_)
 obtain ⟨aa, ab, hd⟩ := bind_some hd
 refine k_cut (fun a w => ∃ ac : Int, ac = aa ∧ ∃ (ad : GH), GLe G ad ∧ Fr a 46 [(0, v0), (1, (.int .i64 x1)), (5, (.int .i64 ac))] ∧ Mem W ad w (H)) ?_ ?_
 ·refine k_block ?_
  refine k_loop (fun ae a w => ∃ af : Int, af = ae ∧ ∃ (ag : GH), GLe G ag ∧ Fr a 46 [(0, v0), (1, (.int .i64 x1)), (5, (.int .i64 af))] ∧ Mem W ag w (H)) ab ⟨_, rfl, _, (GLe.refl _), f.weak ⟨rfl, rfl, rfl, trivial⟩, m⟩ ?_
  clear ab f m
  rintro ae ah ai aj a w ⟨af, rfl, ag, ak, f, m⟩
  have h0 := rd1 ak h0
  refine k_seq (k_seq (k_region ?_))
  refine l_mv f rfl rfl fun a f => l_mv f rfl rfl fun a f => l_len Tryz.underlying42 f rfl rfl h0 fun a f => l_in f rfl rfl rfl b_lss fun a f => l_mv f rfl rfl fun a f => ?_
  obtain ⟨al, am, ai⟩ := bind_some ai
  refine l_cut 7 (fun a w => ∃ an, GLe ag an ∧ Mem W an w (H) ∧ Fr a 46 [(0, v0), (1, (.int .i64 x1)), (5, (.int .i64 af)), (7, (.int .i64 af)), (8, v0), (9, (.int .i64 (x0.length : Int))), (10, (.bool (decide (af < (x0.length : Int))))), (11, (.bool (decide (af < (x0.length : Int))))), (18, (.bool al))]) ?_ ?_
  ·rcases cond_some am with ⟨ao, am⟩ | ⟨ao, am⟩
   ·refine l_run f rfl rfl ao ?_
    refine l_mv f rfl rfl fun a f => l_run f rfl rfl ao ?_
    refine l_mv f rfl rfl fun a f => l_run f rfl rfl ao ?_
    obtain ⟨ap, aq, am⟩ := bind_some am
    refine l_at T42 f rfl rfl rfl h0 aq fun ar au a av aw f => ?_
    subst aw
    refine l_run f rfl rfl ao ?_
    refine l_loadAt m Pl2 f rfl rfl av fun a f => l_run f rfl rfl ao ?_
    refine l_mv f rfl rfl fun a f => l_run f rfl rfl ao ?_
    refine l_in f rfl rfl rfl b_lss fun a f => l_op f rfl rfl rfl (r_pickT (f.eval rfl) ao (f.eval rfl)) fun a f => ?_
    obtain rfl := sj am
    exact ⟨_, (GLe.refl _), m, f.weak ⟨rfl, rfl, rfl, rfl, rfl, rfl, rfl, rfl, rfl, trivial⟩⟩
   ·refine l_not' f rfl rfl rfl ao fun a f => ?_
    refine l_not' f rfl rfl rfl ao fun a f => l_not' f rfl rfl rfl ao fun a f => l_not' f rfl rfl rfl ao fun a f => l_not' f rfl rfl rfl ao fun a f => l_not' f rfl rfl rfl ao fun a f => l_op f rfl rfl rfl (r_pickF (f.eval rfl) ao (f.eval rfl)) fun a f => ?_
    obtain rfl := sj am
    exact ⟨_, (GLe.refl _), m, f.weak ⟨rfl, rfl, rfl, rfl, rfl, rfl, rfl, rfl, rfl, trivial⟩⟩
  ·rintro a w ⟨an, ax, m, f⟩
   have h0 := rd1 ax h0
   refine l_nil ?_
   rcases cond_some ai with ⟨ay, ai⟩ | ⟨ay, ai⟩
   ·refine k_true f rfl ay ?_
    refine k_skip ?_
    refine k_block (k_region ?_)
    refine l_mv f rfl rfl fun a f => l_in f rfl rfl rfl b_add fun a f => l_as f rfl rfl fun a f => l_nil ?_
    obtain rfl := sj ai
    exact ⟨_, rfl, _, rfl, _, (GLe.trans ak ax), f.weak ⟨rfl, rfl, rfl, trivial⟩, m⟩
   ·refine k_false f rfl ay ?_
    refine k_exit rfl ?_
    obtain rfl := sj ai
    obtain rfl := aj _ rfl
    exact ⟨_, rfl, _, (GLe.trans ak ax), f.weak ⟨rfl, rfl, rfl, trivial⟩, m⟩
 ·rintro a w ⟨ac, rfl, ad, az, f, m⟩
  have h0 := rd1 az h0
  refine k_seq (k_seq (k_region ?_))
  refine l_mv f rfl rfl fun a f => l_mv f rfl rfl fun a f => l_len Tryz.underlying42 f rfl rfl h0 fun a f => l_in f rfl rfl rfl b_lss fun a f => l_mv f rfl rfl fun a f => ?_
  obtain ⟨aA, aB, hd⟩ := bind_some hd
  refine l_cut 7 (fun a w => ∃ aC, GLe ad aC ∧ Mem W aC w (H) ∧ Fr a 46 [(0, v0), (1, (.int .i64 x1)), (5, (.int .i64 ac)), (21, (.int .i64 ac)), (22, v0), (23, (.int .i64 (x0.length : Int))), (24, (.bool (decide (ac < (x0.length : Int))))), (25, (.bool (decide (ac < (x0.length : Int))))), (32, (.bool aA))]) ?_ ?_
  ·rcases cond_some aB with ⟨aD, aB⟩ | ⟨aD, aB⟩
   ·refine l_run f rfl rfl aD ?_
    refine l_mv f rfl rfl fun a f => l_run f rfl rfl aD ?_
    refine l_mv f rfl rfl fun a f => l_run f rfl rfl aD ?_
    obtain ⟨aE, aF, aB⟩ := bind_some aB
    refine l_at T42 f rfl rfl rfl h0 aF fun aG aH a aI aJ f => ?_
    subst aJ
    refine l_run f rfl rfl aD ?_
    refine l_loadAt m Pl2 f rfl rfl aI fun a f => l_run f rfl rfl aD ?_
    refine l_mv f rfl rfl fun a f => l_run f rfl rfl aD ?_
    refine l_in f rfl rfl rfl b_eql fun a f => l_op f rfl rfl rfl (r_pickT (f.eval rfl) aD (f.eval rfl)) fun a f => ?_
    obtain rfl := sj aB
    exact ⟨_, (GLe.refl _), m, f.weak ⟨rfl, rfl, rfl, rfl, rfl, rfl, rfl, rfl, rfl, trivial⟩⟩
   ·refine l_not' f rfl rfl rfl aD fun a f => ?_
    refine l_not' f rfl rfl rfl aD fun a f => l_not' f rfl rfl rfl aD fun a f => l_not' f rfl rfl rfl aD fun a f => l_not' f rfl rfl rfl aD fun a f => l_not' f rfl rfl rfl aD fun a f => l_op f rfl rfl rfl (r_pickF (f.eval rfl) aD (f.eval rfl)) fun a f => ?_
    obtain rfl := sj aB
    exact ⟨_, (GLe.refl _), m, f.weak ⟨rfl, rfl, rfl, rfl, rfl, rfl, rfl, rfl, rfl, trivial⟩⟩
  ·rintro a w ⟨aC, aK, m, f⟩
   have h0 := rd1 aK h0
   refine l_nil ?_
   rcases cond_some hd with ⟨aL, hd⟩ | ⟨aL, hd⟩
   ·refine k_true f rfl aL ?_
    refine k_seq (k_region ?_)
    refine l_mv f rfl rfl fun a f => l_as f rfl rfl fun a f => l_nil ?_
    refine k_ret ?_
    obtain rfl := sj hd
    exact ⟨[v0], ⟨f.get _ _ rfl, trivial⟩, f.defers, _, [], (GLe.trans az aK), m, _, rfl, rfl, h0⟩
   ·refine k_false f rfl aL ?_
    refine k_skip ?_
    refine k_seq (k_region ?_)
    refine l_mv f rfl rfl fun a f => l_mv f rfl rfl fun a f => ?_
    obtain ⟨aM, aN, hd⟩ := bind_some hd
    refine l_slice T42 f rfl rfl h0 (.inl ⟨rfl, rfl⟩) (.inr ⟨_, _, rfl, rfl⟩) aN fun aO a aP f => ?_
    obtain ⟨aQ, aR, hd⟩ := bind_some hd
    refine l_res f rfl rfl Tryz.call69 (Wk.spec_l1Copy m aP aR) fun aS aT aU w aV m aW a f => ?_
    obtain ⟨aX, aY, rfl, rfl, aZ⟩ := aW
    have h0 := rd1 aV h0
    have aP := rd1 aV aP
    refine l_mv f rfl rfl fun a f => l_slit (R := (RI .i64)) (xs := ([x1] : List Int)) (RI.one _) m T42 f rfl rfl rfl (by decide) (All2.cons rfl (All2.nil _)) fun a0 a1 w a m a2 f => ?_
    obtain ⟨a3, a4, hd⟩ := bind_some hd
    refine l_append (RI.one _) 1 m aZ rfl T42 rfl (by decide) f rfl rfl rfl (Ow.src (j := 0) a2 m rfl) a4 fun a5 a6 w a m a7 f => l_as f rfl rfl fun a f => l_nil (k_seq (k_region ?_))
    refine l_mv f rfl rfl fun a f => l_mv f rfl rfl fun a f => l_mv f rfl rfl fun a f => ?_
    obtain ⟨a8, a9, hd⟩ := bind_some hd
    refine l_slice T42 f rfl rfl h0 (.inr ⟨_, _, rfl, rfl⟩) (.inl ⟨rfl, rfl⟩) a9 fun ba a bb f => ?_
    obtain ⟨bc, bd, hd⟩ := bind_some hd
    refine l_append (RI.one _) 1 m a7 rfl T42 rfl (by decide) f rfl rfl rfl (bb.src m) bd fun be bf w a m bg f => l_as f rfl rfl fun a f => l_nil ?_
    refine k_ret ?_
    have m := m.front 1 rfl
    obtain ⟨bh, bi, m, bj⟩ := Ow.stamp (RI.mono _) bg m
    have h0 := rd1 bi h0
    have a2 := od1 bi a2
    have m : Mem W bh w H := Mem.drop (H' := [a0]) m
    obtain rfl := sj hd
    exact ⟨[bf], ⟨f.get _ _ rfl, trivial⟩, f.defers, _, [], (GLe.trans az (GLe.trans aK (GLe.trans aV bi))), m, _, rfl, rfl, bj⟩

theorem Wk.spec_l1Link {W w : World} {G : GH} {H : List Itm} {v0_0 : Value} {it0_0 : Itm} {x0_0 : (List (List Int))} {x1 : Int} {x2 : Int} (m : Mem W G w (it0_0 :: H)) (o0_0 : Ow (RSl (RI .i64)) 42 G it0_0 v0_0 x0_0) {y : ((List (List Int)))} (hd : D.spec_l1Link x0_0 x1 x2 = some y) :
  Calls Tryz.prog 143 #[(.agg #[v0_0]), (.int .i64 x1), (.int .i64 x2)] w (Res W G H (fun G' Ho v => ∃ i0 : Itm, Ho = [i0] ∧ v = (.agg #[v0_0]) ∧ Ow (RSl (RI .i64)) 42 G' i0 v0_0 y)) := by
 refine calls_b (args := [(.agg #[v0_0]), (.int .i64 x1), (.int .i64 x2)]) (N := 30) [.cell 6 30] Tryz.func143 rfl rfl (Nat.le_of_ble_eq_true rfl) rfl fun a f => ?_
 unfold D.spec_l1Link at hd
 refine k_seq (k_region ?_)
 refine l_box (cs := [v0_0]) m f rfl rfl rfl fun aa w a m f => l_alloc (cs := [(.slice none 0 0)]) Tryz.zeroValue30 m f rfl rfl fun ab w a m f => l_nil (k_seq ?_)
 refine k_draw 11 Follows (by kernel_rfl) m ?_
 refine q_fieldAddr (i := 0) 11 Tryz.underlying30 rfl Tryz.sizeOf22 (by decide) rfl (by kernel_rfl) rfl f rfl rfl rfl fun a f => q_boxCell (i := 1) 11 1 Pl22 rfl rfl rfl (by kernel_rfl) rfl f rfl rfl rfl fun a f => q_mv 2 11 rfl (by kernel_rfl) f rfl rfl rfl fun a f => q_fieldAddr (i := 3) 11 Tryz.underlying30 rfl Tryz.sizeOf22 (by decide) rfl (by kernel_rfl) rfl f rfl rfl rfl fun a f => q_boxCell (i := 4) 11 1 Pl22 rfl rfl rfl (by kernel_rfl) rfl f rfl rfl rfl fun a f => q_mv 5 11 rfl (by kernel_rfl) f rfl rfl rfl fun a f => ?_
 obtain ⟨ac, ad, hd⟩ := bind_some hd
 refine q_own_at (i := 6) 11 2 m o0_0 rfl T22 ad rfl (by kernel_rfl) rfl f rfl rfl rfl rfl fun ae a af f => q_own_load (i := 7) 11 2 o0_0 rfl Pl42 af ad rfl (by kernel_rfl) rfl f rfl rfl rfl fun ag a ah f => q_mv 8 11 rfl (by kernel_rfl) f rfl rfl rfl fun a f => q_one (i := 9) rfl (by kernel_rfl) rfl fun ai w aj m ak ak => ?_
 have ah := rd1 aj ah
 have o0_0 := Ow.mono (RSl.mono (RI.mono _)) aj o0_0
 obtain ⟨al, am, hd⟩ := bind_some hd
 refine l_res f rfl rfl Tryz.call68 (Wk.spec_l1Into m ah am) fun an ao ap w aq m ar a f => ?_
 obtain ⟨au, rfl, rfl, av⟩ := ar
 have ah := rd1 aq ah
 have o0_0 := Ow.mono (RSl.mono (RI.mono _)) aq o0_0
 refine l_nil ?_
 refine ak ao [] _ _ aq m ?_
 obtain ⟨aw, ax, hd⟩ := bind_some hd
 refine q_own_at (i := 10) 11 2 m o0_0 rfl T22 ax rfl (by kernel_rfl) rfl f rfl rfl rfl rfl fun ay a az f => q_end fun aA w aB m => ?_
 have ah := rd1 aB ah
 have av := rd1 aB av
 have o0_0 := Ow.mono (RSl.mono (RI.mono _)) aB o0_0
 refine l_own_store 2 m o0_0 rfl Tryz.sizeOf42 f rfl rfl az ax av.cells av.one1 av fun aC w m aD => l_nil (k_seq ?_)
 refine k_draw 11 Follows (by kernel_rfl) m ?_
 refine q_fieldAddr (i := 0) 11 Tryz.underlying30 rfl Tryz.sizeOf22 (by decide) rfl (by kernel_rfl) rfl f rfl rfl rfl fun a f => q_boxCell (i := 1) 11 1 Pl22 rfl rfl rfl (by kernel_rfl) rfl f rfl rfl rfl fun a f => q_mv 2 11 rfl (by kernel_rfl) f rfl rfl rfl fun a f => q_fieldAddr (i := 3) 11 Tryz.underlying30 rfl Tryz.sizeOf22 (by decide) rfl (by kernel_rfl) rfl f rfl rfl rfl fun a f => q_boxCell (i := 4) 11 1 Pl22 rfl rfl rfl (by kernel_rfl) rfl f rfl rfl rfl fun a f => q_mv 5 11 rfl (by kernel_rfl) f rfl rfl rfl fun a f => ?_
 obtain ⟨aE, aF, hd⟩ := bind_some hd
 refine q_own_at (i := 6) 11 2 m aD rfl T22 aF rfl (by kernel_rfl) rfl f rfl rfl rfl rfl fun aG a aH f => q_own_load (i := 7) 11 2 aD rfl Pl42 aH aF rfl (by kernel_rfl) rfl f rfl rfl rfl fun aI a aJ f => q_mv 8 11 rfl (by kernel_rfl) f rfl rfl rfl fun a f => q_one (i := 9) rfl (by kernel_rfl) rfl fun aK w aL m aM aM => ?_
 have aJ := rd1 aL aJ
 have aD := Ow.mono (RSl.mono (RI.mono _)) aL aD
 obtain ⟨aN, aO, hd⟩ := bind_some hd
 refine l_res f rfl rfl Tryz.call68 (Wk.spec_l1Into m aJ aO) fun aP aQ aR w aS m aT a f => ?_
 obtain ⟨aU, rfl, rfl, aV⟩ := aT
 have aJ := rd1 aS aJ
 have aD := Ow.mono (RSl.mono (RI.mono _)) aS aD
 refine l_nil ?_
 refine aM aQ [] _ _ aS m ?_
 obtain ⟨aW, aX, hd⟩ := bind_some hd
 refine q_own_at (i := 10) 11 2 m aD rfl T22 aX rfl (by kernel_rfl) rfl f rfl rfl rfl rfl fun aY a aZ f => q_end fun a0 w a1 m => ?_
 have aJ := rd1 a1 aJ
 have aV := rd1 a1 aV
 have aD := Ow.mono (RSl.mono (RI.mono _)) a1 aD
 refine l_own_store 2 m aD rfl Tryz.sizeOf42 f rfl rfl aZ aX aV.cells aV.one1 aV fun a2 w m a3 => l_nil (k_seq (k_region ?_))
 refine l_boxAgg 1 0 (ds := [v0_0]) m Ag30 f rfl rfl rfl rfl rfl fun a f => l_boxStore 0 0 (ds := [v0_0]) m Tryz.sizeOf30 f rfl rfl rfl (ones_cons (Ow.one1 2 m a3 rfl) ones_nil) rfl (Nat.le_of_ble_eq_true rfl) rfl fun w m => l_nil ?_
 refine k_ret ?_
 have a4 := rr_agg (P := Tryz.prog) 0 m Ag30 f (s := 6) rfl rfl rfl
 have m := m.front 2 rfl
 have m := m.eraseAt 2
 have m := m.eraseAt 1
 obtain rfl := sj hd
 exact ⟨[(.agg #[v0_0])], ⟨a4, trivial⟩, f.defers, _, [a2], (GLe.trans aj (GLe.trans aq (GLe.trans aB (GLe.trans aL (GLe.trans aS a1))))), m, _, rfl, rfl, a3⟩

theorem Wk.spec_l7Clique {W w : World} {G : GH} {H : List Itm} {v0_0 : Value} {it0_0 : Itm} {v1 : Value} {x0_0 : (List (List Int))} {x1 : (List Int)} (m : Mem W G w (it0_0 :: H)) (o0_0 : Ow (RSl (RI .i64)) 42 G it0_0 v0_0 x0_0) (h1 : RSl (RI .i64) G v1 x1) {y : ((List (List Int)))} (hd : D.spec_l7Clique x0_0 x1 = some y) :
  Calls Tryz.prog 169 #[(.agg #[v0_0]), v1] w (Res W G H (fun G' Ho v => ∃ i0 : Itm, Ho = [i0] ∧ v = (.agg #[v0_0]) ∧ Ow (RSl (RI .i64)) 42 G' i0 v0_0 y)) := by
 refine calls_b (args := [(.agg #[v0_0]), v1]) (N := 29) [.cell 4 30] Tryz.func169 rfl rfl (Nat.le_of_ble_eq_true rfl) rfl fun a f => ?_
 unfold D.spec_l7Clique at hd
 refine k_seq (k_region ?_)
 refine l_box (cs := [v0_0]) m f rfl rfl rfl fun aa w a m f => l_alloc (cs := [(.slice none 0 0)]) Tryz.zeroValue30 m f rfl rfl fun ab w a m f => l_nil (k_seq (k_seq (k_region ?_)))
 refine l_as f rfl rfl fun a f => l_nil ?_
 obtain ⟨ac, ad, hd⟩ := bind_some hd
 refine k_cut (fun a w => ∃ ae : List (List Int), ae = ac ∧ ∃ (af : GH) (ag : Itm), GLe G af ∧ Fr a 29 [(2, (.pointer (some ⟨aa, 0, none⟩))), (4, (.pointer (some ⟨ab, 0, none⟩)))] ∧ Mem W af w (Itm.box aa 30 [v0_0] :: Itm.box ab 30 [(.slice none 0 0)] :: ag :: H) ∧ Ow (RSl (RI .i64)) 42 af ag v0_0 ae) ?_ ?_
 ·refine k_block ?_
  have m := m.front 1 rfl
  refine k_loop (fun ah a w => ∃ ai : List (List Int), ∃ aj : Int, (ai, aj) = ah ∧ ∃ (ak : GH) (al : Itm), GLe G ak ∧ Fr a 29 [(1, v1), (2, (.pointer (some ⟨aa, 0, none⟩))), (4, (.pointer (some ⟨ab, 0, none⟩))), (5, (.int .i64 aj))] ∧ Mem W ak w (Itm.box aa 30 [v0_0] :: Itm.box ab 30 [(.slice none 0 0)] :: al :: H) ∧ Ow (RSl (RI .i64)) 42 ak al v0_0 ai) ad ⟨_, _, rfl, _, it0_0, (GLe.refl _), f.weak ⟨rfl, rfl, rfl, rfl, trivial⟩, m, o0_0⟩ ?_
  clear ad f m
  rintro ah am an ao a w ⟨ai, aj, rfl, ak, al, ap, f, m, aq⟩
  have h1 := rd1 ap h1
  refine k_seq (k_seq (k_region ?_))
  refine l_mv f rfl rfl fun a f => l_mv f rfl rfl fun a f => l_len Tryz.underlying42 f rfl rfl h1 fun a f => l_in f rfl rfl rfl b_lss fun a f => l_nil ?_
  rcases cond_some an with ⟨ar, an⟩ | ⟨ar, an⟩
  ·refine k_true f rfl ar ?_
   refine k_skip ?_
   refine k_seq (k_block (k_seq (k_region ?_)))
   refine l_as f rfl rfl fun a f => l_nil ?_
   obtain ⟨au, av, an⟩ := bind_some an
   refine k_cut (fun a w => ∃ aw : List (List Int), aw = au ∧ ∃ (ax : GH) (ay : Itm), GLe ak ax ∧ Fr a 29 [(1, v1), (2, (.pointer (some ⟨aa, 0, none⟩))), (4, (.pointer (some ⟨ab, 0, none⟩))), (5, (.int .i64 aj))] ∧ Mem W ax w (Itm.box aa 30 [v0_0] :: Itm.box ab 30 [(.slice none 0 0)] :: ay :: H) ∧ Ow (RSl (RI .i64)) 42 ax ay v0_0 aw) ?_ ?_
   ·refine k_block ?_
    refine k_loop (fun az a w => ∃ aA : List (List Int), ∃ aB : Int, (aA, aB) = az ∧ ∃ (aC : GH) (aD : Itm), GLe ak aC ∧ Fr a 29 [(1, v1), (2, (.pointer (some ⟨aa, 0, none⟩))), (4, (.pointer (some ⟨ab, 0, none⟩))), (5, (.int .i64 aj)), (6, (.int .i64 aB))] ∧ Mem W aC w (Itm.box aa 30 [v0_0] :: Itm.box ab 30 [(.slice none 0 0)] :: aD :: H) ∧ Ow (RSl (RI .i64)) 42 aC aD v0_0 aA) av ⟨_, _, rfl, _, al, (GLe.refl _), f.weak ⟨rfl, rfl, rfl, rfl, rfl, trivial⟩, m, aq⟩ ?_
    clear av f m
    rintro az aE aF aG a w ⟨aA, aB, rfl, aC, aD, aH, f, m, aI⟩
    have h1 := rd1 aH h1
    refine k_seq (k_seq (k_region ?_))
    refine l_mv f rfl rfl fun a f => l_mv f rfl rfl fun a f => l_in f rfl rfl rfl b_lss fun a f => l_nil ?_
    rcases cond_some aF with ⟨aJ, aF⟩ | ⟨aJ, aF⟩
    ·refine k_true f rfl aJ ?_
     refine k_skip ?_
     refine k_seq (k_block ?_)
     refine k_draw 9 Follows (by kernel_rfl) m ?_
     refine q_boxAgg (i := 0) (ds := [v0_0]) 9 0 Ag30 rfl rfl rfl rfl (by kernel_rfl) rfl f rfl rfl rfl fun a f => q_mv 1 9 rfl (by kernel_rfl) f rfl rfl rfl fun a f => q_mv 2 9 rfl (by kernel_rfl) f rfl rfl rfl fun a f => ?_
     obtain ⟨aK, aL, aF⟩ := bind_some aF
     refine q_at (i := 3) 9 T42 h1 aL rfl (by kernel_rfl) rfl f rfl rfl rfl rfl fun aM aN a aO aP f => ?_
     subst aP
     refine q_loadAt (i := 4) 9 Pl2 aO rfl (by kernel_rfl) rfl f rfl rfl rfl fun a f => q_mv 5 9 rfl (by kernel_rfl) f rfl rfl rfl fun a f => q_mv 6 9 rfl (by kernel_rfl) f rfl rfl rfl fun a f => ?_
     obtain ⟨aQ, aR, aF⟩ := bind_some aF
     refine q_at (i := 7) 9 T42 h1 aR rfl (by kernel_rfl) rfl f rfl rfl rfl rfl fun aS aT a aU aV f => ?_
     subst aV
     refine q_loadAt (i := 8) 9 Pl2 aU rfl (by kernel_rfl) rfl f rfl rfl rfl fun a f => q_end fun aW w aX m => ?_
     have h1 := rd1 aX h1
     have aO := At.mono aX aO
     have aU := At.mono aX aU
     have aI := Ow.mono (RSl.mono (RI.mono _)) aX aI
     have m := m.front 2 rfl
     obtain ⟨aY, aZ, aF⟩ := bind_some aF
     refine l_res f rfl rfl Tryz.call143 (Wk.spec_l1Link m aI aZ) fun a0 a1 a2 w a3 m a4 a f => ?_
     obtain ⟨a5, rfl, rfl, a6⟩ := a4
     have h1 := rd1 a3 h1
     have aO := At.mono a3 aO
     have aU := At.mono a3 aU
     refine l_boxStore 1 0 (ds := [v0_0]) m Tryz.sizeOf30 f rfl rfl rfl (ones_cons (Ow.one1 0 m a6 rfl) ones_nil) rfl (Nat.le_of_ble_eq_true rfl) rfl fun w m => l_nil (k_region ?_)
     refine l_mv f rfl rfl fun a f => l_in f rfl rfl rfl b_add fun a f => l_as f rfl rfl fun a f => l_nil ?_
     have m := m.front 2 rfl
     have m := m.front 2 rfl
     obtain rfl := sj aF
     exact ⟨_, rfl, _, _, rfl, _, a5, (GLe.trans aH (GLe.trans aX a3)), f.weak ⟨rfl, rfl, rfl, rfl, rfl, trivial⟩, m, a6⟩
    ·refine k_false f rfl aJ ?_
     refine k_exit rfl ?_
     obtain rfl := sj aF
     obtain rfl := aG _ rfl
     exact ⟨_, rfl, _, aD, aH, f.weak ⟨rfl, rfl, rfl, rfl, trivial⟩, m, aI⟩
   ·rintro a w ⟨aw, rfl, ax, ay, a7, f, m, a8⟩
    have h1 := rd1 a7 h1
    refine k_region ?_
    refine l_mv f rfl rfl fun a f => l_in f rfl rfl rfl b_add fun a f => l_as f rfl rfl fun a f => l_nil ?_
    obtain rfl := sj an
    exact ⟨_, rfl, _, _, rfl, _, ay, (GLe.trans ap a7), f.weak ⟨rfl, rfl, rfl, rfl, trivial⟩, m, a8⟩
  ·refine k_false f rfl ar ?_
   refine k_exit rfl ?_
   obtain rfl := sj an
   obtain rfl := ao _ rfl
   exact ⟨_, rfl, _, al, ap, f.weak ⟨rfl, rfl, trivial⟩, m, aq⟩
 ·rintro a w ⟨ae, rfl, af, ag, a9, f, m, ba⟩
  refine k_seq (k_region ?_)
  refine l_boxAgg 0 0 (ds := [v0_0]) m Ag30 f rfl rfl rfl rfl rfl fun a f => l_boxStore 1 0 (ds := [v0_0]) m Tryz.sizeOf30 f rfl rfl rfl (ones_cons (Ow.one1 2 m ba rfl) ones_nil) rfl (Nat.le_of_ble_eq_true rfl) rfl fun w m => l_nil ?_
  refine k_ret ?_
  have bb := rr_agg (P := Tryz.prog) 1 m Ag30 f (s := 4) rfl rfl rfl
  have m := m.front 2 rfl
  have m := m.eraseAt 2
  have m := m.eraseAt 1
  obtain rfl := sj hd
  exact ⟨[(.agg #[v0_0])], ⟨bb, trivial⟩, f.defers, _, [ag], a9, m, _, rfl, rfl, ba⟩

theorem Wk.spec_l7Fill {W w : World} {G : GH} {H : List Itm} {v0_0 : Value} {v1 : Value} {x0_0 : (List (List Int))} {x1 : (List Int)} (m : Mem W G w (H)) (h0_0 : RSl (RSl (RI .i64)) G v0_0 x0_0) (h1 : RSl (RI .i64) G v1 x1) {y : ((List (List Int)))} (hd : D.spec_l7Fill x0_0 x1 = some y) :
  Calls Tryz.prog 131 #[(.agg #[v0_0]), v1] w (Res W G H (fun G' Ho v => ∃ r0 : Value, ∃ i0 : Itm, Ho = [i0] ∧ v = (.agg #[r0]) ∧ Ow (RSl (RI .i64)) 42 G' i0 r0 y)) := by
 refine calls_b (args := [(.agg #[v0_0]), v1]) (N := 35) [.cell 4 30] Tryz.func131 rfl rfl (Nat.le_of_ble_eq_true rfl) rfl fun a f => ?_
 unfold D.spec_l7Fill at hd
 refine k_seq (k_region ?_)
 refine l_box (cs := [v0_0]) m f rfl rfl rfl fun aa w a m f => l_alloc (cs := [(.slice none 0 0)]) Tryz.zeroValue30 m f rfl rfl fun ab w a m f => l_nil (k_seq (k_region ?_))
 refine l_boxAgg 1 0 (ds := [v0_0]) m Ag30 f rfl rfl rfl rfl rfl fun a f => ?_
 obtain ⟨ac, ad, hd⟩ := bind_some hd
 refine l_res f rfl rfl Tryz.call168 (Wk.spec_l1CopyGraph m h0_0 ad) fun ae af ag w ah m ai a f => ?_
 obtain ⟨aj, ak, rfl, rfl, al⟩ := ai
 have h0_0 := rd2 ah h0_0
 have h1 := rd1 ah h1
 refine l_alloc (cs := [(.slice none 0 0)]) Tryz.zeroValue30 m f rfl rfl fun am w a m f => l_boxStore 0 0 (ds := [aj]) m Tryz.sizeOf30 f rfl rfl rfl (ones_cons (Ow.one1 1 m al rfl) ones_nil) rfl (Nat.le_of_ble_eq_true rfl) rfl fun w m => l_nil (k_seq (k_region ?_))
 refine l_boxAgg 3 0 (ds := [v0_0]) m Ag30 f rfl rfl rfl rfl rfl fun a f => ?_
 obtain ⟨an, ao, hd⟩ := bind_some hd
 refine l_res f rfl rfl Tryz.call80 (Wk.spec_l1Size m h0_0 ao) fun ap aq ar w au m av a f => ?_
 obtain ⟨rfl, rfl⟩ := av
 have h0_0 := rd2 au h0_0
 have h1 := rd1 au h1
 have al := Ow.mono (RSl.mono (RI.mono _)) au al
 obtain ⟨aw, ax, hd⟩ := bind_some hd
 refine l_make (R := RB) m T142 rfl (by decide) rfl f rfl rfl rfl ax fun ay az w a m aA f => l_as f rfl rfl fun a f => l_nil (k_seq (k_seq (k_region ?_)))
 refine l_as f rfl rfl fun a f => l_nil ?_
 obtain ⟨aB, aC, hd⟩ := bind_some hd
 refine k_cut (fun a w => ∃ aD : List (List Int), aD = aB ∧ ∃ (aE : GH) (aF : Itm), GLe aq aE ∧ Fr a 35 [(4, (.pointer (some ⟨ab, 0, none⟩))), (5, (.pointer (some ⟨am, 0, none⟩)))] ∧ Mem W aE w (Itm.box ab 30 [(.slice none 0 0)] :: Itm.box am 30 [aj] :: aF :: H) ∧ Ow (RSl (RI .i64)) 42 aE aF aj aD) ?_ ?_
 ·refine k_block ?_
  have m := m.front 1 rfl
  have m := m.front 3 rfl
  have m := m.eraseAt 4
  refine k_loop (fun aG a w => ∃ aH : List Bool, ∃ aI : Int, ∃ aJ : List (List Int), (aH, aI, aJ) = aG ∧ ∃ (aK : GH) (aL : Itm) (aM : Itm), GLe aq aK ∧ Fr a 35 [(1, v1), (4, (.pointer (some ⟨ab, 0, none⟩))), (5, (.pointer (some ⟨am, 0, none⟩))), (6, az), (7, (.int .i64 aI))] ∧ Mem W aK w (Itm.box ab 30 [(.slice none 0 0)] :: Itm.box am 30 [aj] :: aL :: aM :: H) ∧ Ow RB 4 aK aL az aH ∧ Ow (RSl (RI .i64)) 42 aK aM aj aJ) aC ⟨_, _, _, rfl, _, ay, ak, (GLe.refl _), f.weak ⟨rfl, rfl, rfl, rfl, rfl, trivial⟩, m, aA, al⟩ ?_
  clear aC f m
  rintro aG aN aO aP a w ⟨aH, aI, aJ, rfl, aK, aL, aM, aQ, f, m, aR, aS⟩
  have h1 := rd1 aQ h1
  refine k_seq (k_seq (k_region ?_))
  refine l_mv f rfl rfl fun a f => l_mv f rfl rfl fun a f => l_len Tryz.underlying42 f rfl rfl h1 fun a f => l_in f rfl rfl rfl b_lss fun a f => l_nil ?_
  rcases cond_some aO with ⟨aT, aO⟩ | ⟨aT, aO⟩
  ·refine k_true f rfl aT ?_
   refine k_skip ?_
   refine k_seq (k_block (k_seq (k_region ?_)))
   refine l_mv f rfl rfl fun a f => l_mv f rfl rfl fun a f => l_mv f rfl rfl fun a f => ?_
   obtain ⟨aU, aV, aO⟩ := bind_some aO
   refine l_at T42 f rfl rfl rfl h1 aV fun aW aX a aY aZ f => ?_
   subst aZ
   refine l_loadAt m Pl2 f rfl rfl aY fun a f => ?_
   obtain ⟨a2, a3, aO⟩ := bind_some aO
   refine l_own_at 2 m aR rfl T142 f rfl rfl rfl a3 fun a4 a a5 f => l_own_store 2 m aR rfl Tryz.sizeOf4 f rfl rfl a5 a3 rfl rfl rfl fun a6 w m a7 => l_nil ?_
   refine k_draw 8 Follows (by kernel_rfl) m ?_
   refine q_boxAgg (i := 0) (ds := [aj]) 8 1 Ag30 rfl rfl rfl rfl (by kernel_rfl) rfl f rfl rfl rfl fun a f => q_boxAgg (i := 1) (ds := [aj]) 8 1 Ag30 rfl rfl rfl rfl (by kernel_rfl) rfl f rfl rfl rfl fun a f => q_mv 2 8 rfl (by kernel_rfl) f rfl rfl rfl fun a f => q_mv 3 8 rfl (by kernel_rfl) f rfl rfl rfl fun a f => ?_
   obtain ⟨a8, a9, aO⟩ := bind_some aO
   refine q_at (i := 4) 8 T42 h1 a9 rfl (by kernel_rfl) rfl f rfl rfl rfl rfl fun ba bb a bc bd f => ?_
   subst bd
   refine q_loadAt (i := 5) 8 Pl2 bc rfl (by kernel_rfl) rfl f rfl rfl rfl fun a f => q_mv 6 8 rfl (by kernel_rfl) f rfl rfl rfl fun a f => q_one (i := 7) rfl (by kernel_rfl) rfl fun be w bf m bg bg => ?_
   have h1 := rd1 bf h1
   have bc := At.mono bf bc
   have a7 := Ow.mono RB.mono bf a7
   have aS := Ow.mono (RSl.mono (RI.mono _)) bf aS
   obtain ⟨bh, bi, aO⟩ := bind_some aO
   refine l_res f rfl rfl Tryz.call132 (Ow.lendCall (RSl.mono (RI.mono _)) 3 aS m rfl (fun bj bk m bl => (Ow.lendCall RB.mono 2 (Ow.mono RB.mono bk a7) m rfl (fun bm bn m bo => Wk.spec_l7Left m (rd2 bn bl) bo bi) (fun _ G' _ _ ⟨a0, a1, e1, e2, o0⟩ => ⟨a0, a1, e1, e2, Ow.free (RI.free _) G' o0⟩))) (fun _ G' _ _ ⟨a0, a1, e1, e2, o0⟩ => ⟨a0, a1, e1, e2, Ow.free (RI.free _) G' o0⟩)) fun bp bq br w bs m bt a f => ?_
   obtain ⟨bu, bv, rfl, rfl, bw⟩ := bt
   have h1 := rd1 bs h1
   have bc := At.mono bs bc
   have a7 := Ow.mono RB.mono bs a7
   have aS := Ow.mono (RSl.mono (RI.mono _)) bs aS
   refine l_nil ?_
   refine bg bq [bv] _ _ bs m ?_
   refine q_end fun bx w bz m => ?_
   have h1 := rd1 bz h1
   have bc := At.mono bz bc
   have bw := od1 bz bw
   have a7 := Ow.mono RB.mono bz a7
   have aS := Ow.mono (RSl.mono (RI.mono _)) bz aS
   obtain ⟨bA, bB, m, bC⟩ := Ow.stamp (RI.mono _) bw m
   have h1 := rd1 bB h1
   have bc := At.mono bB bc
   have a7 := Ow.mono RB.mono bB a7
   have aS := Ow.mono (RSl.mono (RI.mono _)) bB aS
   have m : Mem W bA w (aM :: Itm.box ab 30 [(.slice none 0 0)] :: Itm.box am 30 [aj] :: a6 :: H) := m.front 3 rfl
   obtain ⟨bD, bE, aO⟩ := bind_some aO
   refine l_res f rfl rfl Tryz.call169 (Wk.spec_l7Clique m aS bC bE) fun bF bG bH w bI m bJ a f => ?_
   obtain ⟨bK, rfl, rfl, bL⟩ := bJ
   have h1 := rd1 bI h1
   have bc := At.mono bI bc
   have bC := rd1 bI bC
   have a7 := Ow.mono RB.mono bI a7
   refine l_boxStore 2 0 (ds := [aj]) m Tryz.sizeOf30 f rfl rfl rfl (ones_cons (Ow.one1 0 m bL rfl) ones_nil) rfl (Nat.le_of_ble_eq_true rfl) rfl fun w m => l_nil (k_region ?_)
   refine l_mv f rfl rfl fun a f => l_in f rfl rfl rfl b_add fun a f => l_as f rfl rfl fun a f => l_nil ?_
   have m := m.front 3 rfl
   have m := m.front 3 rfl
   have m : Mem W bG w (Itm.box ab 30 [(.slice none 0 0)] :: Itm.box am 30 [aj] :: a6 :: bK :: H) := m.front 3 rfl
   obtain rfl := sj aO
   exact ⟨_, rfl, _, _, _, rfl, _, a6, bK, (GLe.trans aQ (GLe.trans bf (GLe.trans bs (GLe.trans bz (GLe.trans bB bI))))), f.weak ⟨rfl, rfl, rfl, rfl, rfl, trivial⟩, m, a7, bL⟩
  ·refine k_false f rfl aT ?_
   refine k_exit rfl ?_
   have m := m.front 3 rfl
   have m := m.front 2 rfl
   have m : Mem W aK w (Itm.box ab 30 [(.slice none 0 0)] :: Itm.box am 30 [aj] :: aM :: aL :: H) := m.front 2 rfl
   have m := m.eraseAt 3
   obtain rfl := sj aO
   obtain rfl := aP _ rfl
   exact ⟨_, rfl, _, aM, aQ, f.weak ⟨rfl, rfl, trivial⟩, m, aS⟩
 ·rintro a w ⟨aD, rfl, aE, aF, bM, f, m, bN⟩
  refine k_seq (k_region ?_)
  refine l_boxAgg 1 0 (ds := [aj]) m Ag30 f rfl rfl rfl rfl rfl fun a f => l_boxStore 0 0 (ds := [aj]) m Tryz.sizeOf30 f rfl rfl rfl (ones_cons (Ow.one1 2 m bN rfl) ones_nil) rfl (Nat.le_of_ble_eq_true rfl) rfl fun w m => l_nil ?_
  refine k_ret ?_
  have bO := rr_agg (P := Tryz.prog) 0 m Ag30 f (s := 4) rfl rfl rfl
  have m := m.front 2 rfl
  have m := m.eraseAt 2
  have m := m.eraseAt 1
  obtain rfl := sj hd
  exact ⟨[(.agg #[aj])], ⟨bO, trivial⟩, f.defers, _, [aF], (GLe.trans ah (GLe.trans au bM)), m, _, _, rfl, rfl, bN⟩

theorem Wk.spec_l7Later {W w : World} {G : GH} {H : List Itm} {v0_0 : Value} {v1 : Value} {x0_0 : (List (List Int))} {x1 : (List Int)} (m : Mem W G w (H)) (h0_0 : RSl (RSl (RI .i64)) G v0_0 x0_0) (h1 : RSl (RI .i64) G v1 x1) {y : ((List (List Int)))} (hd : D.spec_l7Later x0_0 x1 = some y) :
  Calls Tryz.prog 67 #[(.agg #[v0_0]), v1] w (Res W G H (fun G' Ho v => ∃ r0 : Value, ∃ i0 : Itm, Ho = [i0] ∧ r0 = v ∧ Ow (RSl (RI .i64)) 42 G' i0 r0 y)) := by
 refine calls_b (args := [(.agg #[v0_0]), v1]) (N := 44) [.tmp 4] Tryz.func67 rfl rfl (Nat.le_of_ble_eq_true rfl) rfl fun a f => ?_
 unfold D.spec_l7Later at hd
 refine k_seq (k_region ?_)
 refine l_box (cs := [v0_0]) m f rfl rfl rfl fun aa w a m f => l_as f rfl rfl fun a f => l_nil (k_seq (k_region ?_))
 refine l_boxAgg 0 0 (ds := [v0_0]) m Ag30 f rfl rfl rfl rfl rfl fun a f => l_mv f rfl rfl fun a f => ?_
 obtain ⟨ab, ac, hd⟩ := bind_some hd
 refine l_res f rfl rfl Tryz.call131 (Wk.spec_l7Fill m h0_0 h1 ac) fun ad ae af w ag m ah a f => ?_
 obtain ⟨ai, aj, rfl, rfl, ak⟩ := ah
 have h0_0 := rd2 ag h0_0
 have h1 := rd1 ag h1
 refine l_alloc (cs := [(.slice none 0 0)]) Tryz.zeroValue30 m f rfl rfl fun al w a m f => l_boxStore 0 0 (ds := [ai]) m Tryz.sizeOf30 f rfl rfl rfl (ones_cons (Ow.one1 1 m ak rfl) ones_nil) rfl (Nat.le_of_ble_eq_true rfl) rfl fun w m => l_nil (k_seq (k_region ?_))
 refine l_boxAgg 2 0 (ds := [v0_0]) m Ag30 f rfl rfl rfl rfl rfl fun a f => ?_
 obtain ⟨am, an, hd⟩ := bind_some hd
 refine l_res f rfl rfl Tryz.call80 (Wk.spec_l1Size m h0_0 an) fun ao ap aq w ar m au a f => ?_
 obtain ⟨rfl, rfl⟩ := au
 have h0_0 := rd2 ar h0_0
 have h1 := rd1 ar h1
 have ak := Ow.mono (RSl.mono (RI.mono _)) ar ak
 obtain ⟨av, aw, hd⟩ := bind_some hd
 refine l_make (R := RB) m T142 rfl (by decide) rfl f rfl rfl rfl aw fun ax ay w a m az f => l_as f rfl rfl fun a f => l_nil (k_seq (k_region ?_))
 refine l_boxAgg 3 0 (ds := [v0_0]) m Ag30 f rfl rfl rfl rfl rfl fun a f => ?_
 obtain ⟨aA, aB, hd⟩ := bind_some hd
 refine l_res f rfl rfl Tryz.call80 (Wk.spec_l1Size m h0_0 aB) fun aC aD aE w aF m aG a f => ?_
 obtain ⟨rfl, rfl⟩ := aG
 have h0_0 := rd2 aF h0_0
 have h1 := rd1 aF h1
 have az := Ow.mono RB.mono aF az
 have ak := Ow.mono (RSl.mono (RI.mono _)) aF ak
 obtain ⟨aH, aI, hd⟩ := bind_some hd
 refine l_make (R := (RSl (RI .i64))) m T22 rfl (by decide) (RSl.nil (RI .i64) aD) f rfl rfl rfl aI fun aJ aK w a m aL f => l_as f rfl rfl fun a f => l_nil (k_seq (k_seq (k_region ?_)))
 refine l_as f rfl rfl fun a f => l_nil ?_
 obtain ⟨aM, aN, hd⟩ := bind_some hd
 refine k_cut (fun a w => ∃ aO : List (List Int), aO = aM ∧ ∃ (aP : GH) (aQ : Itm), GLe aD aP ∧ Fr a 44 [(7, aK)] ∧ Mem W aP w (aQ :: H) ∧ Ow (RSl (RI .i64)) 42 aP aQ aK aO) ?_ ?_
 ·refine k_block ?_
  have m := m.front 1 rfl
  have m := m.front 2 rfl
  have m := m.eraseAt 4
  refine k_loop (fun aR a w => ∃ aS : List Bool, ∃ aT : List (List Int), ∃ aU : Int, (aS, aT, aU) = aR ∧ ∃ (aV : GH) (aW : Itm) (aX : Itm), GLe aD aV ∧ Fr a 44 [(1, v1), (5, (.pointer (some ⟨al, 0, none⟩))), (6, ay), (7, aK), (8, (.int .i64 aU))] ∧ Mem W aV w (Itm.box al 30 [ai] :: aW :: aX :: aj :: H) ∧ Ow RB 4 aV aW ay aS ∧ Ow (RSl (RI .i64)) 42 aV aX aK aT) aN ⟨_, _, _, rfl, _, ax, aJ, (GLe.refl _), f.weak ⟨rfl, rfl, rfl, rfl, rfl, trivial⟩, m, az, aL⟩ ?_
  clear aN f m
  rintro aR aY aZ a2 a w ⟨aS, aT, aU, rfl, aV, aW, aX, a3, f, m, a4, a5⟩
  have h1 := rd1 a3 h1
  have ak := Ow.mono (RSl.mono (RI.mono _)) a3 ak
  refine k_seq (k_seq (k_region ?_))
  refine l_mv f rfl rfl fun a f => l_mv f rfl rfl fun a f => l_len Tryz.underlying42 f rfl rfl h1 fun a f => l_in f rfl rfl rfl b_lss fun a f => l_nil ?_
  rcases cond_some aZ with ⟨a6, aZ⟩ | ⟨a6, aZ⟩
  ·refine k_true f rfl a6 ?_
   refine k_skip ?_
   refine k_seq (k_block (k_seq (k_region ?_)))
   refine l_mv f rfl rfl fun a f => l_mv f rfl rfl fun a f => l_mv f rfl rfl fun a f => ?_
   obtain ⟨a7, a8, aZ⟩ := bind_some aZ
   refine l_at T42 f rfl rfl rfl h1 a8 fun a9 ba a bb bc f => ?_
   subst bc
   refine l_loadAt m Pl2 f rfl rfl bb fun a f => ?_
   obtain ⟨bd, be, aZ⟩ := bind_some aZ
   refine l_own_at 1 m a4 rfl T142 f rfl rfl rfl be fun bf a bg f => l_own_store 1 m a4 rfl Tryz.sizeOf4 f rfl rfl bg be rfl rfl rfl fun bh w m bi => l_nil ?_
   refine k_draw 13 Follows (by kernel_rfl) m ?_
   refine q_mv 0 13 rfl (by kernel_rfl) f rfl rfl rfl fun a f => q_mv 1 13 rfl (by kernel_rfl) f rfl rfl rfl fun a f => q_mv 2 13 rfl (by kernel_rfl) f rfl rfl rfl fun a f => ?_
   obtain ⟨bj, bk, aZ⟩ := bind_some aZ
   refine q_at (i := 3) 13 T42 h1 bk rfl (by kernel_rfl) rfl f rfl rfl rfl rfl fun bl bm a bn bo f => ?_
   subst bo
   refine q_loadAt (i := 4) 13 Pl2 bn rfl (by kernel_rfl) rfl f rfl rfl rfl fun a f => q_boxAgg (i := 5) (ds := [ai]) 13 0 Ag30 rfl rfl rfl rfl (by kernel_rfl) rfl f rfl rfl rfl fun a f => q_mv 6 13 rfl (by kernel_rfl) f rfl rfl rfl fun a f => q_mv 7 13 rfl (by kernel_rfl) f rfl rfl rfl fun a f => ?_
   obtain ⟨bp, bq, aZ⟩ := bind_some aZ
   refine q_at (i := 8) 13 T42 h1 bq rfl (by kernel_rfl) rfl f rfl rfl rfl rfl fun br bs a bt bu f => ?_
   subst bu
   refine q_loadAt (i := 9) 13 Pl2 bt rfl (by kernel_rfl) rfl f rfl rfl rfl fun a f => q_mv 10 13 rfl (by kernel_rfl) f rfl rfl rfl fun a f => q_one (i := 11) rfl (by kernel_rfl) rfl fun bv w bw m bx bx => ?_
   have h1 := rd1 bw h1
   have bn := At.mono bw bn
   have bt := At.mono bw bt
   have bi := Ow.mono RB.mono bw bi
   have a5 := Ow.mono (RSl.mono (RI.mono _)) bw a5
   have ak := Ow.mono (RSl.mono (RI.mono _)) bw ak
   obtain ⟨bz, bA, aZ⟩ := bind_some aZ
   refine l_res f rfl rfl Tryz.call132 (Ow.lendCall (RSl.mono (RI.mono _)) 3 ak m rfl (fun bB bC m bD => (Ow.lendCall RB.mono 1 (Ow.mono RB.mono bC bi) m rfl (fun bE bF m bG => Wk.spec_l7Left m (rd2 bF bD) bG bA) (fun _ G' _ _ ⟨a0, a1, e1, e2, o0⟩ => ⟨a0, a1, e1, e2, Ow.free (RI.free _) G' o0⟩))) (fun _ G' _ _ ⟨a0, a1, e1, e2, o0⟩ => ⟨a0, a1, e1, e2, Ow.free (RI.free _) G' o0⟩)) fun bH bI bJ w bK m bL a f => ?_
   obtain ⟨bM, bN, rfl, rfl, bO⟩ := bL
   have h1 := rd1 bK h1
   have bn := At.mono bK bn
   have bt := At.mono bK bt
   have bi := Ow.mono RB.mono bK bi
   have a5 := Ow.mono (RSl.mono (RI.mono _)) bK a5
   have ak := Ow.mono (RSl.mono (RI.mono _)) bK ak
   refine l_nil ?_
   refine bx bI [bN] _ _ bK m ?_
   obtain ⟨bP, bQ, aZ⟩ := bind_some aZ
   refine q_own_at (i := 12) 13 3 m a5 rfl T22 bQ rfl (by kernel_rfl) rfl f rfl rfl rfl rfl fun bR a bS f => q_end fun bT w bU m => ?_
   have h1 := rd1 bU h1
   have bn := At.mono bU bn
   have bt := At.mono bU bt
   have bO := od1 bU bO
   have bi := Ow.mono RB.mono bU bi
   have a5 := Ow.mono (RSl.mono (RI.mono _)) bU a5
   have ak := Ow.mono (RSl.mono (RI.mono _)) bU ak
   obtain ⟨bV, bW, m, bX⟩ := Ow.stamp (RI.mono _) bO m
   have h1 := rd1 bW h1
   have bn := At.mono bW bn
   have bt := At.mono bW bt
   have bi := Ow.mono RB.mono bW bi
   have a5 := Ow.mono (RSl.mono (RI.mono _)) bW a5
   have ak := Ow.mono (RSl.mono (RI.mono _)) bW ak
   refine l_own_store 2 m a5 rfl Tryz.sizeOf42 f rfl rfl bS bQ bX.cells bX.one1 bX fun bY w m bZ => l_nil (k_region ?_)
   refine l_mv f rfl rfl fun a f => l_in f rfl rfl rfl b_add fun a f => l_as f rfl rfl fun a f => l_nil ?_
   obtain rfl := sj aZ
   exact ⟨_, rfl, _, _, _, rfl, _, bh, bY, (GLe.trans a3 (GLe.trans bw (GLe.trans bK (GLe.trans bU bW)))), f.weak ⟨rfl, rfl, rfl, rfl, rfl, trivial⟩, m, bi, bZ⟩
  ·refine k_false f rfl a6 ?_
   refine k_exit rfl ?_
   have m := m.front 2 rfl
   have m := m.front 3 rfl
   have m : Mem W aV w (aW :: aj :: aX :: Itm.box al 30 [ai] :: H) := m.front 3 rfl
   have m := m.front 2 rfl
   have m := m.eraseAt 3
   have m : Mem W aV w (aX :: aW :: H) := m.eraseAt 2
   have m := m.eraseAt 1
   obtain rfl := sj aZ
   obtain rfl := a2 _ rfl
   exact ⟨_, rfl, _, aX, a3, f.weak ⟨rfl, trivial⟩, m, a5⟩
 ·rintro a w ⟨aO, rfl, aP, aQ, b0, f, m, b1⟩
  refine k_seq (k_region ?_)
  refine l_mv f rfl rfl fun a f => l_as f rfl rfl fun a f => l_nil ?_
  refine k_ret ?_
  obtain rfl := sj hd
  exact ⟨[aK], ⟨f.get _ _ rfl, trivial⟩, f.defers, _, [aQ], (GLe.trans ag (GLe.trans ar (GLe.trans aF b0))), m, _, _, rfl, rfl, b1⟩

end Go.Proofs.YtebbefpdncgoiaaGreatDoor
