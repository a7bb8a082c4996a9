/- Parts of the proof: MDW. -/
import Derived.Test.YtebbefpdncgoiaaGreatDoorTd4
import Derived.Test.YtebbefpdncgoiaaGreatDoorProg
import Derived.KernelRfl
set_option linter.unusedVariables false
set_option linter.unusedSimpArgs false
set_option linter.unusedSectionVars false
set_option maxRecDepth 100000
namespace Go.Proofs.YtebbefpdncgoiaaGreatDoor
open Go Go.Sx


theorem Wk.impl_bagMasks {W w : World} {G : GH} {H : List Itm} {v0 : Value} {x0 : (List (List Int))} (m : Mem W G w (H)) (h0 : RSl (RSl (RI .i64)) G v0 x0) {y : ((List Int))} (hd : D.impl_bagMasks x0 = some y) :
  Calls Tryz.prog 97 #[v0] w (Res W G H (fun G' Ho v => ∃ r0 : Value, ∃ i0 : Itm, Ho = [i0] ∧ r0 = v ∧ Ow (RI .u32) 76 G' i0 r0 y)) := by
 refine calls_b (args := [v0]) (N := 20) [.tmp 2] Tryz.func97 rfl rfl (Nat.le_of_ble_eq_true rfl) rfl fun a f => ?_
 unfold D.impl_bagMasks at hd
 refine k_seq (k_region ?_)
 refine l_as f rfl rfl fun a f => l_nil (k_seq (k_region ?_))
 refine l_slit (R := (RI .u32)) (xs := ([] : List Int)) (RI.one _) m T71 f rfl rfl rfl (by decide) (All2.nil _) fun aa ab w a m ac f => l_as f rfl rfl fun a f => l_nil (k_seq (k_seq (k_region ?_)))
 refine l_mv f rfl rfl fun a f => l_len Tryz.underlying22 f rfl rfl h0 fun a f => l_mv f rfl rfl fun a f => l_nil ?_
 obtain ⟨ad, ae, hd⟩ := bind_some hd
 refine k_cut (fun a w => ∃ af : List Int, af = ad ∧ ∃ (ag : GH) (ah : Value) (ai : Itm), GLe G ag ∧ Fr a 20 [(3, ah)] ∧ Mem W ag w (ai :: H) ∧ Ow (RI .u32) 76 ag ai ah af) ?_ ?_
 ·refine k_block ?_
  refine k_loop (fun aj a w => ∃ ak : List Int, ∃ al : Int, (ak, al) = aj ∧ ∃ (am : GH) (an : Value) (ao : Itm), GLe G am ∧ Fr a 20 [(3, an), (7, v0), (8, (.int .i64 (x0.length : Int))), (9, (.int .i64 al))] ∧ Mem W am w (ao :: H) ∧ Ow (RI .u32) 76 am ao an ak) ae ⟨_, _, rfl, _, ab, aa, (GLe.refl _), f.weak ⟨rfl, rfl, rfl, rfl, trivial⟩, m, ac⟩ ?_
  clear ae f m
  rintro aj ap aq ar a w ⟨ak, al, rfl, am, an, ao, au, f, m, av⟩
  have h0 := rd2 au h0
  refine k_seq (k_region ?_)
  refine l_in f rfl rfl rfl b_lss fun a f => l_nil (k_seq ?_)
  rcases cond_some aq with ⟨aw, aq⟩ | ⟨aw, aq⟩
  ·refine k_true f rfl aw ?_
   refine k_skip ?_
   refine k_seq (k_block (k_seq (k_region ?_)))
   obtain ⟨ax, ay, aq⟩ := bind_some aq
   refine l_at T22 f rfl rfl rfl h0 ay fun az aA a aB aC f => l_loadAt m Pl42 f rfl rfl aB fun a f => l_as f rfl rfl fun a f => l_nil (k_region ?_)
   refine l_mv f rfl rfl fun a f => l_mv f rfl rfl fun a f => ?_
   obtain ⟨aD, aE, aq⟩ := bind_some aq
   refine l_res f rfl rfl Tryz.call118 (Wk.impl_maskOf m aC aE) fun aF aG aH w aI m aJ a f => ?_
   obtain ⟨rfl, rfl⟩ := aJ
   have aC := rd1 aI aC
   have h0 := rd2 aI h0
   have av := od1 aI av
   refine l_slit (R := (RI .u32)) (xs := ([aD] : List Int)) (RI.one _) m T71 f rfl rfl rfl (by decide) (All2.cons rfl (All2.nil _)) fun aK aL w a m aM f => ?_
   obtain ⟨aN, aO, aq⟩ := bind_some aq
   refine l_append (RI.one _) 1 m av rfl T71 rfl (by decide) f rfl rfl rfl (Ow.src (j := 0) aM m rfl) aO fun aP aQ w a m aR f => l_as f rfl rfl fun a f => l_nil (k_region ?_)
   refine l_in f rfl rfl rfl b_add fun a f => l_mv f rfl rfl fun a f => l_nil ?_
   have m := m.front 1 rfl
   have m := m.eraseAt 1
   obtain rfl := sj aq
   exact ⟨_, rfl, _, _, rfl, _, aQ, aP, (GLe.trans au aI), f.weak ⟨rfl, rfl, rfl, rfl, trivial⟩, m, aR⟩
  ·refine k_false f rfl aw ?_
   refine k_exit rfl ?_
   obtain rfl := sj aq
   obtain rfl := ar _ rfl
   exact ⟨_, rfl, _, an, ao, au, f.weak ⟨rfl, trivial⟩, m, av⟩
 ·rintro a w ⟨af, rfl, ag, ah, ai, aS, f, m, aT⟩
  refine k_seq (k_region ?_)
  refine l_mv f rfl rfl fun a f => l_as f rfl rfl fun a f => l_nil ?_
  refine k_ret ?_
  obtain rfl := sj hd
  exact ⟨[ah], ⟨f.get _ _ rfl, trivial⟩, f.defers, _, [ai], aS, m, _, _, rfl, rfl, aT⟩

theorem Wk.impl_firstOf {W w : World} {G : GH} {H : List Itm} {x0 : Int} (m : Mem W G w (H))  {y : Int} (hd : D.impl_firstOf x0 = some y) :
  Calls Tryz.prog 120 #[(.int .i64 x0)] w (Res W G H (fun _ Ho v => Ho = [] ∧ v = (.int .u32 y))) := by
 refine calls_b (args := [(.int .i64 x0)]) (N := 6) [.tmp 2] Tryz.func120 rfl rfl (Nat.le_of_ble_eq_true rfl) rfl fun a f => ?_
 unfold D.impl_firstOf at hd
 refine k_seq (k_region ?_)
 refine l_as f rfl rfl fun a f => l_nil (k_seq (k_region ?_))
 refine l_mv f rfl rfl fun a f => ?_
 obtain ⟨aa, hd⟩ := cond_none hd
 refine l_op f rfl rfl rfl (r_shl (f.eval rfl) (f.eval rfl) aa) fun a f => l_in f rfl rfl rfl b_sub fun a f => l_as f rfl rfl fun a f => l_nil ?_
 refine k_ret ?_
 obtain rfl := sj hd
 exact ⟨[(.int .u32 (IntKind.u32.wrap ((ishl .u32 1 x0) - 1)))], ⟨f.get _ _ rfl, trivial⟩, f.defers, _, [], (GLe.refl _), m, rfl, rfl⟩

theorem Wk.impl_nets_all {W w : World} {G : GH} {H : List Itm} {v0 : Value} {x0 : (List Int)} (m : Mem W G w (H)) (h0 : RSl (RI .u32) G v0 x0) {y : Int} (hd : D.impl_nets_all x0 = some y) :
  Calls Tryz.prog 53 #[v0] w (Res W G H (fun _ Ho v => Ho = [] ∧ v = (.int .u32 y))) := by
 refine calls_b (args := [v0]) (N := 6) [.tmp 2] Tryz.func53 rfl rfl (Nat.le_of_ble_eq_true rfl) rfl fun a f => ?_
 unfold D.impl_nets_all at hd
 refine k_seq (k_region ?_)
 refine l_as f rfl rfl fun a f => l_nil (k_seq (k_region ?_))
 refine l_mv f rfl rfl fun a f => l_len Tryz.underlying73 f rfl rfl h0 fun a f => ?_
 obtain ⟨aa, ab, hd⟩ := bind_some hd
 refine l_res f rfl rfl Tryz.call120 (Wk.impl_firstOf m  ab) fun ac ad ae w af m ag a f => ?_
 obtain ⟨rfl, rfl⟩ := ag
 have h0 := rd1 af h0
 refine l_as f rfl rfl fun a f => l_nil ?_
 refine k_ret ?_
 obtain rfl := sj hd
 exact ⟨[(.int .u32 aa)], ⟨f.get _ _ rfl, trivial⟩, f.defers, _, [], af, m, rfl, rfl⟩

theorem Wk.impl_vset_least {W w : World} {G : GH} {H : List Itm} {x0 : Int} (hW : TabW W) (m : Mem W G w (H))  {y : Int} (hd : D.impl_vset_least x0 = some y) :
  Calls Tryz.prog 147 #[(.int .u32 x0)] w (Res W G H (fun _ Ho v => Ho = [] ∧ v = (.int .i64 y))) := by
 refine calls_b (args := [(.int .u32 x0)]) (N := 5) [.tmp 2] Tryz.func147 rfl rfl (Nat.le_of_ble_eq_true rfl) rfl fun a f => ?_
 unfold D.impl_vset_least at hd
 refine k_seq (k_region ?_)
 refine l_as f rfl rfl fun a f => l_nil (k_seq (k_region ?_))
 refine l_mv f rfl rfl fun a f => ?_
 obtain ⟨aa, ab, hd⟩ := bind_some hd
 refine l_res f rfl rfl Tryz.call179 (Wk.math_bits_TrailingZeros32 hW m  ab) fun ac ad ae w af m ag a f => ?_
 obtain ⟨rfl, rfl⟩ := ag
 refine l_as f rfl rfl fun a f => l_nil ?_
 refine k_ret ?_
 obtain rfl := sj hd
 exact ⟨[(.int .i64 aa)], ⟨f.get _ _ rfl, trivial⟩, f.defers, _, [], af, m, rfl, rfl⟩

theorem Wk.impl_vset_list {W w : World} {G : GH} {H : List Itm} {x0 : Int} (hW : TabW W) (m : Mem W G w (H))  {y : ((List Int))} (hd : D.impl_vset_list x0 = some y) :
  Calls Tryz.prog 103 #[(.int .u32 x0)] w (Res W G H (fun G' Ho v => ∃ r0 : Value, ∃ i0 : Itm, Ho = [i0] ∧ r0 = v ∧ Ow (RI .i64) 3 G' i0 r0 y)) := by
 refine calls_b (args := [(.int .u32 x0)]) (N := 17) [.tmp 2] Tryz.func103 rfl rfl (Nat.le_of_ble_eq_true rfl) rfl fun a f => ?_
 unfold D.impl_vset_list at hd
 refine k_seq (k_region ?_)
 refine l_as f rfl rfl fun a f => l_nil (k_seq (k_region ?_))
 refine l_slit (R := (RI .i64)) (xs := ([] : List Int)) (RI.one _) m T94 f rfl rfl rfl (by decide) (All2.nil _) fun aa ab w a m ac f => l_as f rfl rfl fun a f => l_nil (k_seq ?_)
 obtain ⟨ad, ae, hd⟩ := bind_some hd
 refine k_cut (fun a w => ∃ af : List Int, af = ad ∧ ∃ (ag : GH) (ah : Value) (ai : Itm), GLe G ag ∧ Fr a 17 [(3, ah)] ∧ Mem W ag w (ai :: H) ∧ Ow (RI .i64) 3 ag ai ah af) ?_ ?_
 ·refine k_block ?_
  refine k_loop (fun aj a w => ∃ ak : Int, ∃ al : List Int, (ak, al) = aj ∧ ∃ (am : GH) (an : Value) (ao : Itm), GLe G am ∧ Fr a 17 [(0, (.int .u32 ak)), (3, an)] ∧ Mem W am w (ao :: H) ∧ Ow (RI .i64) 3 am ao an al) ae ⟨_, _, rfl, _, ab, aa, (GLe.refl _), f.weak ⟨rfl, rfl, trivial⟩, m, ac⟩ ?_
  clear ae f m
  rintro aj ap aq ar a w ⟨ak, al, rfl, am, an, ao, au, f, m, av⟩
  refine k_seq (k_seq (k_region ?_))
  refine l_mv f rfl rfl fun a f => l_in f rfl rfl rfl b_neq fun a f => l_nil ?_
  rcases cond_some aq with ⟨aw, aq⟩ | ⟨aw, aq⟩
  ·refine k_true f rfl aw ?_
   refine k_skip ?_
   refine k_seq (k_block (k_region ?_))
   refine l_mv f rfl rfl fun a f => l_mv f rfl rfl fun a f => ?_
   obtain ⟨ax, ay, aq⟩ := bind_some aq
   refine l_res f rfl rfl Tryz.call147 (Wk.impl_vset_least hW m  ay) fun az aA aB w aC m aD a f => ?_
   obtain ⟨rfl, rfl⟩ := aD
   have av := od1 aC av
   refine l_slit (R := (RI .i64)) (xs := ([ax] : List Int)) (RI.one _) m T94 f rfl rfl rfl (by decide) (All2.cons rfl (All2.nil _)) fun aE aF w a m aG f => ?_
   obtain ⟨aH, aI, aq⟩ := bind_some aq
   refine l_append (RI.one _) 1 m av rfl T94 rfl (by decide) f rfl rfl rfl (Ow.src (j := 0) aG m rfl) aI fun aJ aK w a m aL f => l_as f rfl rfl fun a f => l_nil (k_region ?_)
   refine l_mv f rfl rfl fun a f => l_mv f rfl rfl fun a f => l_in f rfl rfl rfl b_sub fun a f => l_in f rfl rfl rfl b_and fun a f => l_as f rfl rfl fun a f => l_nil ?_
   have m := m.front 1 rfl
   have m := m.eraseAt 1
   obtain rfl := sj aq
   exact ⟨_, rfl, _, _, rfl, _, aK, aJ, (GLe.trans au aC), f.weak ⟨rfl, rfl, trivial⟩, m, aL⟩
  ·refine k_false f rfl aw ?_
   refine k_exit rfl ?_
   obtain rfl := sj aq
   obtain rfl := ar _ rfl
   exact ⟨_, rfl, _, an, ao, au, f.weak ⟨rfl, trivial⟩, m, av⟩
 ·rintro a w ⟨af, rfl, ag, ah, ai, aM, f, m, aN⟩
  refine k_seq (k_region ?_)
  refine l_mv f rfl rfl fun a f => l_as f rfl rfl fun a f => l_nil ?_
  refine k_ret ?_
  obtain rfl := sj hd
  exact ⟨[ah], ⟨f.get _ _ rfl, trivial⟩, f.defers, _, [ai], aM, m, _, _, rfl, rfl, aN⟩

theorem Wk.impl_reach {W w : World} {G : GH} {H : List Itm} {v0 : Value} {x0 : (List Int)} {x1 : Int} {x2 : Int} (hW : TabW W) (m : Mem W G w (H)) (h0 : RSl (RI .u32) G v0 x0) {y : Int} (hd : D.impl_reach x0 x1 x2 = some y) :
  Calls Tryz.prog 52 #[v0, (.int .i64 x1), (.int .u32 x2)] w (Res W G H (fun _ Ho v => Ho = [] ∧ v = (.int .u32 y))) := by
 refine calls_b (args := [v0, (.int .i64 x1), (.int .u32 x2)]) (N := 35) [.tmp 6] Tryz.func52 rfl rfl (Nat.le_of_ble_eq_true rfl) rfl fun a f => ?_
 unfold D.impl_reach at hd
 refine k_seq (k_region ?_)
 refine l_as f rfl rfl fun a f => l_nil (k_seq (k_region ?_))
 refine l_mv f rfl rfl fun a f => ?_
 obtain ⟨aa, ab, hd⟩ := bind_some hd
 refine l_res f rfl rfl Tryz.call100 (Wk.impl_one m  ab) fun ac ad ae w af m ag a f => ?_
 obtain ⟨rfl, rfl⟩ := ag
 have h0 := rd1 af h0
 refine l_as f rfl rfl fun a f => l_nil ?_
 obtain ⟨ah, ai, hd⟩ := bind_some hd
 refine k_block ?_
 refine k_loop (fun aj a w => ∃ ak : Int, ak = aj ∧ ∃ (al : GH), GLe ad al ∧ Fr a 35 [(0, v0), (2, (.int .u32 x2)), (7, (.int .u32 ak))] ∧ Mem W al w (H)) ai ⟨_, rfl, _, (GLe.refl _), f.weak ⟨rfl, rfl, rfl, trivial⟩, m⟩ ?_
 clear ai f m
 rintro aj am an ao a w ⟨ak, rfl, al, ap, f, m⟩
 have h0 := rd1 ap h0
 refine k_block (k_seq (k_region ?_))
 refine l_mv f rfl rfl fun a f => l_as f rfl rfl fun a f => l_nil (k_seq (k_seq (k_region ?_)))
 refine l_mv f rfl rfl fun a f => ?_
 obtain ⟨aq, ar, an⟩ := bind_some an
 refine l_res f rfl rfl Tryz.call103 (Wk.impl_vset_list hW m  ar) fun au av aw w ax m ay a f => ?_
 obtain ⟨az, aA, rfl, rfl, aB⟩ := ay
 have h0 := rd1 ax h0
 refine l_own_len 0 m aB rfl Tryz.underlying94 f rfl rfl fun a f => l_mv f rfl rfl fun a f => l_nil ?_
 obtain ⟨aC, aD, an⟩ := bind_some an
 refine k_cut (fun a w => ∃ aE : Int, aE = aC ∧ ∃ (aF : GH), GLe av aF ∧ Fr a 35 [(0, v0), (2, (.int .u32 x2)), (7, (.int .u32 ak)), (8, (.int .u32 aE))] ∧ Mem W aF w (H)) ?_ ?_
 ·refine k_block ?_
  refine k_loop (fun aG a w => ∃ aH : Int, ∃ aI : Int, (aH, aI) = aG ∧ ∃ (aJ : GH), GLe av aJ ∧ Fr a 35 [(0, v0), (2, (.int .u32 x2)), (7, (.int .u32 ak)), (8, (.int .u32 aH)), (15, az), (16, (.int .i64 (aq.length : Int))), (17, (.int .i64 aI))] ∧ Mem W aJ w (aA :: H)) aD ⟨_, _, rfl, _, (GLe.refl _), f.weak ⟨rfl, rfl, rfl, rfl, rfl, rfl, rfl, trivial⟩, m⟩ ?_
  clear aD f m
  rintro aG aK aL aM a w ⟨aH, aI, rfl, aJ, aN, f, m⟩
  have h0 := rd1 aN h0
  have aB := od1 aN aB
  refine k_seq (k_region ?_)
  refine l_in f rfl rfl rfl b_lss fun a f => l_nil (k_seq ?_)
  rcases cond_some aL with ⟨aO, aL⟩ | ⟨aO, aL⟩
  ·refine k_true f rfl aO ?_
   refine k_skip ?_
   refine k_seq (k_block (k_seq (k_region ?_)))
   obtain ⟨aP, aQ, aL⟩ := bind_some aL
   refine l_own_at 0 m aB rfl T94 f rfl rfl rfl aQ fun aR a aS f => l_own_load 0 m aB rfl Pl3 f rfl rfl aS aQ fun aT a aU f => ?_
   subst aU
   refine l_as f rfl rfl fun a f => l_nil (k_region ?_)
   refine l_mv f rfl rfl fun a f => l_mv f rfl rfl fun a f => l_mv f rfl rfl fun a f => ?_
   obtain ⟨aV, aW, aL⟩ := bind_some aL
   refine l_at T73 f rfl rfl rfl h0 aW fun aX aY a aZ a0 f => ?_
   subst a0
   refine l_loadAt m Pl76 f rfl rfl aZ fun a f => l_mv f rfl rfl fun a f => l_in f rfl rfl rfl b_and fun a f => l_in f rfl rfl rfl b_or fun a f => l_as f rfl rfl fun a f => l_nil (k_region ?_)
   refine l_in f rfl rfl rfl b_add fun a f => l_mv f rfl rfl fun a f => l_nil ?_
   obtain rfl := sj aL
   exact ⟨_, rfl, _, _, rfl, _, aN, f.weak ⟨rfl, rfl, rfl, rfl, rfl, rfl, rfl, trivial⟩, m⟩
  ·refine k_false f rfl aO ?_
   refine k_exit rfl ?_
   have m : Mem W aJ w H := Mem.drop (H' := [aA]) m
   obtain rfl := sj aL
   obtain rfl := aM _ rfl
   exact ⟨_, rfl, _, aN, f.weak ⟨rfl, rfl, rfl, rfl, trivial⟩, m⟩
 ·rintro a w ⟨aE, rfl, aF, a1, f, m⟩
  have h0 := rd1 a1 h0
  refine k_seq (k_seq (k_region ?_))
  refine l_mv f rfl rfl fun a f => l_mv f rfl rfl fun a f => l_in f rfl rfl rfl b_eql fun a f => l_nil ?_
  rcases cond_some an with ⟨a2, an⟩ | ⟨a2, an⟩
  ·refine k_true f rfl a2 ?_
   refine k_seq (k_region ?_)
   refine l_mv f rfl rfl fun a f => l_as f rfl rfl fun a f => l_nil ?_
   refine k_ret ?_
   obtain rfl := sj an
   obtain rfl := ao _ rfl
   obtain rfl := sj hd
   exact ⟨[(.int .u32 ak)], ⟨f.get _ _ rfl, trivial⟩, f.defers, _, [], (GLe.trans af (GLe.trans ap (GLe.trans ax a1))), m, rfl, rfl⟩
  ·refine k_false f rfl a2 ?_
   refine k_skip ?_
   refine k_region ?_
   refine l_mv f rfl rfl fun a f => l_as f rfl rfl fun a f => l_nil ?_
   obtain rfl := sj an
   exact ⟨_, rfl, _, rfl, _, (GLe.trans ap (GLe.trans ax a1)), f.weak ⟨rfl, rfl, rfl, trivial⟩, m⟩

theorem Wk.impl_connected {W w : World} {G : GH} {H : List Itm} {v0 : Value} {x0 : (List Int)} {x1 : Int} (hW : TabW W) (m : Mem W G w (H)) (h0 : RSl (RI .u32) G v0 x0) {y : Bool} (hd : D.impl_connected x0 x1 = some y) :
  Calls Tryz.prog 98 #[v0, (.int .u32 x1)] w (Res W G H (fun _ Ho v => Ho = [] ∧ v = (.bool y))) := by
 refine calls_b (args := [v0, (.int .u32 x1)]) (N := 16) [.tmp 4] Tryz.func98 rfl rfl (Nat.le_of_ble_eq_true rfl) rfl fun a f => ?_
 unfold D.impl_connected at hd
 refine k_seq (k_region ?_)
 refine l_as f rfl rfl fun a f => l_nil (k_seq (k_region ?_))
 refine l_mv f rfl rfl fun a f => l_in f rfl rfl rfl b_neq fun a f => l_mv f rfl rfl fun a f => ?_
 obtain ⟨aa, ab, hd⟩ := bind_some hd
 refine l_cut 8 (fun a w => ∃ ac, GLe G ac ∧ Mem W ac w (H) ∧ Fr a 16 [(0, v0), (1, (.int .u32 x1)), (5, (.int .u32 x1)), (6, (.bool (x1 != 0))), (7, (.bool (x1 != 0))), (15, (.bool aa))]) ?_ ?_
 ·rcases cond_some ab with ⟨ad, ab⟩ | ⟨ad, ab⟩
  ·refine l_run f rfl rfl ad ?_
   refine l_mv f rfl rfl fun a f => l_run f rfl rfl ad ?_
   refine l_mv f rfl rfl fun a f => l_run f rfl rfl ad ?_
   obtain ⟨ae, af, ab⟩ := bind_some ab
   refine l_res f rfl rfl Tryz.call147 (Wk.impl_vset_least hW m  af) fun ag ah ai w aj m ak a f => ?_
   obtain ⟨rfl, rfl⟩ := ak
   have h0 := rd1 aj h0
   refine l_run f rfl rfl ad ?_
   refine l_mv f rfl rfl fun a f => l_run f rfl rfl ad ?_
   obtain ⟨al, am, ab⟩ := bind_some ab
   refine l_res f rfl rfl Tryz.call52 (Wk.impl_reach hW m h0 am) fun an ao ap w aq m ar a f => ?_
   obtain ⟨rfl, rfl⟩ := ar
   have h0 := rd1 aq h0
   refine l_run f rfl rfl ad ?_
   refine l_mv f rfl rfl fun a f => l_run f rfl rfl ad ?_
   refine l_in f rfl rfl rfl b_eql fun a f => l_op f rfl rfl rfl (r_pickT (f.eval rfl) ad (f.eval rfl)) fun a f => ?_
   obtain rfl := sj ab
   exact ⟨_, (GLe.trans aj aq), m, f.weak ⟨rfl, rfl, rfl, rfl, rfl, rfl, trivial⟩⟩
  ·refine l_not' f rfl rfl rfl ad fun a f => ?_
   refine l_not' f rfl rfl rfl ad fun a f => l_not' f rfl rfl rfl ad fun a f => l_not' f rfl rfl rfl ad fun a f => l_not' f rfl rfl rfl ad fun a f => l_not' f rfl rfl rfl ad fun a f => l_not' f rfl rfl rfl ad fun a f => l_op f rfl rfl rfl (r_pickF (f.eval rfl) ad (f.eval rfl)) fun a f => ?_
   obtain rfl := sj ab
   exact ⟨_, (GLe.refl _), m, f.weak ⟨rfl, rfl, rfl, rfl, rfl, rfl, trivial⟩⟩
 ·rintro a w ⟨ac, au, m, f⟩
  have h0 := rd1 au h0
  refine l_as f rfl rfl fun a f => l_nil ?_
  refine k_ret ?_
  obtain rfl := sj hd
  exact ⟨[(.bool aa)], ⟨f.get _ _ rfl, trivial⟩, f.defers, _, [], au, m, rfl, rfl⟩

theorem Wk.impl_netsOf {W w : World} {G : GH} {H : List Itm} {v0_0 : Value} {x0_0 : (List (List Int))} (m : Mem W G w (H)) (h0_0 : RSl (RSl (RI .i64)) G v0_0 x0_0) {y : ((List Int))} (hd : D.impl_netsOf x0_0 = some y) :
  Calls Tryz.prog 50 #[(.agg #[v0_0])] w (Res W G H (fun G' Ho v => ∃ r0 : Value, ∃ i0 : Itm, Ho = [i0] ∧ r0 = v ∧ Ow (RI .u32) 76 G' i0 r0 y)) := by
 refine calls_b (args := [(.agg #[v0_0])]) (N := 21) [.tmp 2] Tryz.func50 rfl rfl (Nat.le_of_ble_eq_true rfl) rfl fun a f => ?_
 unfold D.impl_netsOf at hd
 refine k_seq (k_region ?_)
 refine l_box (cs := [v0_0]) m f rfl rfl rfl fun aa w a m f => l_as f rfl rfl fun a f => l_nil (k_seq (k_region ?_))
 refine l_slit (R := (RI .u32)) (xs := ([] : List Int)) (RI.one _) m T73 f rfl rfl rfl (by decide) (All2.nil _) fun ab ac w a m ad f => l_as f rfl rfl fun a f => l_nil (k_seq (k_seq (k_region ?_)))
 refine l_fieldAddr Tryz.underlying30 rfl Tryz.sizeOf22 (by decide) f rfl rfl fun a f => l_boxCell 1 0 m Pl22 f rfl rfl rfl rfl fun a f => l_len Tryz.underlying22 f rfl rfl h0_0 fun a f => l_mv f rfl rfl fun a f => l_nil ?_
 obtain ⟨ae, af, hd⟩ := bind_some hd
 refine k_cut (fun a w => ∃ ag : List Int, ag = ae ∧ ∃ (ah : GH) (ai : Value) (aj : Itm), GLe G ah ∧ Fr a 21 [(3, ai)] ∧ Mem W ah w (aj :: H) ∧ Ow (RI .u32) 76 ah aj ai ag) ?_ ?_
 ·refine k_block ?_
  have m := m.eraseAt 1
  refine k_loop (fun ak a w => ∃ al : List Int, ∃ am : Int, (al, am) = ak ∧ ∃ (an : GH) (ao : Value) (ap : Itm), GLe G an ∧ Fr a 21 [(3, ao), (8, v0_0), (9, (.int .i64 (x0_0.length : Int))), (10, (.int .i64 am))] ∧ Mem W an w (ap :: H) ∧ Ow (RI .u32) 76 an ap ao al) af ⟨_, _, rfl, _, ac, ab, (GLe.refl _), f.weak ⟨rfl, rfl, rfl, rfl, trivial⟩, m, ad⟩ ?_
  clear af f m
  rintro ak aq ar au a w ⟨al, am, rfl, an, ao, ap, av, f, m, aw⟩
  have h0_0 := rd2 av h0_0
  refine k_seq (k_region ?_)
  refine l_in f rfl rfl rfl b_lss fun a f => l_nil (k_seq ?_)
  rcases cond_some ar with ⟨ax, ar⟩ | ⟨ax, ar⟩
  ·refine k_true f rfl ax ?_
   refine k_skip ?_
   refine k_seq (k_block (k_seq (k_region ?_)))
   obtain ⟨ay, az, ar⟩ := bind_some ar
   refine l_at T22 f rfl rfl rfl h0_0 az fun aA aB a aC aD f => l_loadAt m Pl42 f rfl rfl aC fun a f => l_as f rfl rfl fun a f => l_nil (k_region ?_)
   refine l_mv f rfl rfl fun a f => l_mv f rfl rfl fun a f => ?_
   obtain ⟨aE, aF, ar⟩ := bind_some ar
   refine l_res f rfl rfl Tryz.call118 (Wk.impl_maskOf m aD aF) fun aG aH aI w aJ m aK a f => ?_
   obtain ⟨rfl, rfl⟩ := aK
   have aD := rd1 aJ aD
   have h0_0 := rd2 aJ h0_0
   have aw := od1 aJ aw
   refine l_slit (R := (RI .u32)) (xs := ([aE] : List Int)) (RI.one _) m T73 f rfl rfl rfl (by decide) (All2.cons rfl (All2.nil _)) fun aL aM w a m aN f => ?_
   obtain ⟨aO, aP, ar⟩ := bind_some ar
   refine l_append (RI.one _) 1 m aw rfl T73 rfl (by decide) f rfl rfl rfl (Ow.src (j := 0) aN m rfl) aP fun aQ aR w a m aS f => l_as f rfl rfl fun a f => l_nil (k_region ?_)
   refine l_in f rfl rfl rfl b_add fun a f => l_mv f rfl rfl fun a f => l_nil ?_
   have m := m.front 1 rfl
   have m := m.eraseAt 1
   obtain rfl := sj ar
   exact ⟨_, rfl, _, _, rfl, _, aR, aQ, (GLe.trans av aJ), f.weak ⟨rfl, rfl, rfl, rfl, trivial⟩, m, aS⟩
  ·refine k_false f rfl ax ?_
   refine k_exit rfl ?_
   obtain rfl := sj ar
   obtain rfl := au _ rfl
   exact ⟨_, rfl, _, ao, ap, av, f.weak ⟨rfl, trivial⟩, m, aw⟩
 ·rintro a w ⟨ag, rfl, ah, ai, aj, aT, f, m, aU⟩
  refine k_seq (k_region ?_)
  refine l_mv f rfl rfl fun a f => l_as f rfl rfl fun a f => l_nil ?_
  refine k_ret ?_
  obtain rfl := sj hd
  exact ⟨[ai], ⟨f.get _ _ rfl, trivial⟩, f.defers, _, [aj], aT, m, _, _, rfl, rfl, aU⟩

theorem Wk.impl_vset_has {W w : World} {G : GH} {H : List Itm} {x0 : Int} {x1 : Int} (m : Mem W G w (H))  {y : Bool} (hd : D.impl_vset_has x0 x1 = some y) :
  Calls Tryz.prog 54 #[(.int .u32 x0), (.int .i64 x1)] w (Res W G H (fun _ Ho v => Ho = [] ∧ v = (.bool y))) := by
 refine calls_b (args := [(.int .u32 x0), (.int .i64 x1)]) (N := 10) [.tmp 4] Tryz.func54 rfl rfl (Nat.le_of_ble_eq_true rfl) rfl fun a f => ?_
 unfold D.impl_vset_has at hd
 refine k_seq (k_region ?_)
 refine l_as f rfl rfl fun a f => l_nil (k_seq (k_region ?_))
 refine l_mv f rfl rfl fun a f => l_mv f rfl rfl fun a f => ?_
 obtain ⟨aa, hd⟩ := cond_none hd
 refine l_op f rfl rfl rfl (r_shr (f.eval rfl) (f.eval rfl) aa) fun a f => l_in f rfl rfl rfl b_and fun a f => l_in f rfl rfl rfl b_eql fun a f => l_as f rfl rfl fun a f => l_nil ?_
 refine k_ret ?_
 obtain rfl := sj hd
 exact ⟨[(.bool ((iand .u32 (ishr .u32 x0 x1) 1) == 1))], ⟨f.get _ _ rfl, trivial⟩, f.defers, _, [], (GLe.refl _), m, rfl, rfl⟩

theorem Wk.impl_coversEdges {W w : World} {G : GH} {H : List Itm} {v0 : Value} {v1 : Value} {x0 : (List Int)} {x1 : (List Int)} (m : Mem W G w (H)) (h0 : RSl (RI .u32) G v0 x0) (h1 : RSl (RI .u32) G v1 x1) {y : Bool} (hd : D.impl_coversEdges x0 x1 = some y) :
  Calls Tryz.prog 99 #[v0, v1] w (Res W G H (fun _ Ho v => Ho = [] ∧ v = (.bool y))) := by
 refine calls_b (args := [v0, v1]) (N := 41) [.tmp 4] Tryz.func99 rfl rfl (Nat.le_of_ble_eq_true rfl) rfl fun a f => ?_
 unfold D.impl_coversEdges at hd
 refine k_seq (k_region ?_)
 refine l_as f rfl rfl fun a f => l_nil (k_seq (k_seq (k_region ?_)))
 refine l_mv f rfl rfl fun a f => l_len Tryz.underlying73 f rfl rfl h0 fun a f => l_mv f rfl rfl fun a f => l_nil ?_
 obtain ⟨aa, ab, hd⟩ := bind_some hd
 refine k_cut (fun a w => ∃ q_191' : Unit, aa = .inl q_191' ∧ ∃ (ac : GH), GLe G ac ∧ Fr a 41 [] ∧ Mem W ac w (H)) ?_ ?_
 ·refine k_block ?_
  refine k_loop (fun ad a w => ∃ ae : Int, ae = ad ∧ ∃ (af : GH), GLe G af ∧ Fr a 41 [(1, v1), (10, v0), (11, (.int .i64 (x0.length : Int))), (12, (.int .i64 ae))] ∧ Mem W af w (H)) ab ⟨_, rfl, _, (GLe.refl _), f.weak ⟨rfl, rfl, rfl, rfl, trivial⟩, m⟩ ?_
  clear ab f m
  rintro ad ag ah ai a w ⟨ae, rfl, af, aj, f, m⟩
  have h1 := rd1 aj h1
  have h0 := rd1 aj h0
  refine k_seq (k_region ?_)
  refine l_in f rfl rfl rfl b_lss fun a f => l_nil (k_seq ?_)
  rcases cond_some ah with ⟨ak, ah⟩ | ⟨ak, ah⟩
  ·refine k_true f rfl ak ?_
   refine k_skip ?_
   refine k_seq (k_block (k_seq (k_region ?_)))
   refine l_mv f rfl rfl fun a f => ?_
   obtain ⟨al, am, ah⟩ := bind_some ah
   refine l_at T73 f rfl rfl rfl h0 am fun an ao a ap aq f => ?_
   subst aq
   refine l_loadAt m Pl76 f rfl rfl ap fun a f => l_as f rfl rfl fun a f => l_as f rfl rfl fun a f => l_nil (k_seq (k_region ?_))
   refine l_as f rfl rfl fun a f => l_nil (k_seq (k_seq (k_region ?_)))
   refine l_mv f rfl rfl fun a f => l_len Tryz.underlying71 f rfl rfl h1 fun a f => l_mv f rfl rfl fun a f => l_nil ?_
   obtain ⟨ar, au, ah⟩ := bind_some ah
   refine k_cut (fun a w => ∃ av : Int, av = ar ∧ ∃ (aw : GH), GLe af aw ∧ Fr a 41 [(1, v1), (5, (.int .i64 ae)), (6, (.int .u32 al)), (7, (.int .u32 av)), (10, v0), (11, (.int .i64 (x0.length : Int))), (12, (.int .i64 ae))] ∧ Mem W aw w (H)) ?_ ?_
   ·refine k_block ?_
    refine k_loop (fun ax a w => ∃ ay : Int, ∃ az : Int, (ay, az) = ax ∧ ∃ (aA : GH), GLe af aA ∧ Fr a 41 [(1, v1), (5, (.int .i64 ae)), (6, (.int .u32 al)), (7, (.int .u32 ay)), (10, v0), (11, (.int .i64 (x0.length : Int))), (12, (.int .i64 ae)), (17, v1), (18, (.int .i64 (x1.length : Int))), (19, (.int .i64 az))] ∧ Mem W aA w (H)) au ⟨_, _, rfl, _, (GLe.refl _), f.weak ⟨rfl, rfl, rfl, rfl, rfl, rfl, rfl, rfl, rfl, rfl, trivial⟩, m⟩ ?_
    clear au f m
    rintro ax aB aC aD a w ⟨ay, az, rfl, aA, aE, f, m⟩
    have h1 := rd1 aE h1
    have h0 := rd1 aE h0
    refine k_seq (k_region ?_)
    refine l_in f rfl rfl rfl b_lss fun a f => l_nil (k_seq ?_)
    rcases cond_some aC with ⟨aF, aC⟩ | ⟨aF, aC⟩
    ·refine k_true f rfl aF ?_
     refine k_skip ?_
     refine k_seq (k_block (k_seq (k_region ?_)))
     obtain ⟨aG, aH, aC⟩ := bind_some aC
     refine l_at T71 f rfl rfl rfl h1 aH fun aI aJ a aK aL f => ?_
     subst aL
     refine l_loadAt m Pl76 f rfl rfl aK fun a f => l_as f rfl rfl fun a f => l_nil (k_seq (k_region ?_))
     refine l_mv f rfl rfl fun a f => l_mv f rfl rfl fun a f => ?_
     obtain ⟨aM, aN, aC⟩ := bind_some aC
     refine l_res f rfl rfl Tryz.call54 (Wk.impl_vset_has m  aN) fun aO aP aQ w aR m aS a f => ?_
     obtain ⟨rfl, rfl⟩ := aS
     have h1 := rd1 aR h1
     have h0 := rd1 aR h0
     refine l_nil ?_
     rcases cond_some aC with ⟨aT, aC⟩ | ⟨aT, aC⟩
     ·refine k_true f rfl aT ?_
      refine k_region ?_
      refine l_mv f rfl rfl fun a f => l_mv f rfl rfl fun a f => l_in f rfl rfl rfl b_or fun a f => l_as f rfl rfl fun a f => l_nil (k_region ?_)
      refine l_in f rfl rfl rfl b_add fun a f => l_mv f rfl rfl fun a f => l_nil ?_
      obtain rfl := sj aC
      exact ⟨_, rfl, _, _, rfl, _, (GLe.trans aE aR), f.weak ⟨rfl, rfl, rfl, rfl, rfl, rfl, rfl, rfl, rfl, rfl, trivial⟩, m⟩
     ·refine k_false f rfl aT ?_
      refine k_skip ?_
      refine k_region ?_
      refine l_in f rfl rfl rfl b_add fun a f => l_mv f rfl rfl fun a f => l_nil ?_
      obtain rfl := sj aC
      exact ⟨_, rfl, _, _, rfl, _, (GLe.trans aE aR), f.weak ⟨rfl, rfl, rfl, rfl, rfl, rfl, rfl, rfl, rfl, rfl, trivial⟩, m⟩
    ·refine k_false f rfl aF ?_
     refine k_exit rfl ?_
     obtain rfl := sj aC
     obtain rfl := aD _ rfl
     exact ⟨_, rfl, _, aE, f.weak ⟨rfl, rfl, rfl, rfl, rfl, rfl, rfl, trivial⟩, m⟩
   ·rintro a w ⟨av, rfl, aw, aU, f, m⟩
    have h1 := rd1 aU h1
    have h0 := rd1 aU h0
    refine k_seq (k_region ?_)
    refine l_mv f rfl rfl fun a f => l_mv f rfl rfl fun a f => ?_
    obtain ⟨aV, aW, ah⟩ := bind_some ah
    refine l_res f rfl rfl Tryz.call54 (Wk.impl_vset_has m  aW) fun aX aY aZ w a0 m a1 a f => ?_
    obtain ⟨rfl, rfl⟩ := a1
    have h1 := rd1 a0 h1
    have h0 := rd1 a0 h0
    refine l_op f rfl rfl rfl (r_not (f.eval rfl)) fun a f => l_mv f rfl rfl fun a f => ?_
    refine l_cut 5 (fun a w => ∃ a2, GLe aY a2 ∧ Mem W a2 w (H) ∧ Fr a 41 [(1, v1), (5, (.int .i64 ae)), (6, (.int .u32 al)), (7, (.int .u32 av)), (10, v0), (11, (.int .i64 (x0.length : Int))), (12, (.int .i64 ae)), (30, (.int .u32 av)), (31, (.int .i64 ae)), (32, (.bool aV)), (33, (.bool (!aV))), (34, (.bool (!aV))), (39, (.bool ((!aV) || ((iandNot .u32 al av) != 0))))]) ?_ ?_
    ·rcases Bool.eq_false_or_eq_true (!aV) with a3 | a3
     ·refine l_not' f rfl rfl rfl a3 fun a f => ?_
      refine l_not' f rfl rfl rfl a3 fun a f => l_not' f rfl rfl rfl a3 fun a f => l_not' f rfl rfl rfl a3 fun a f => l_op f rfl rfl rfl (r_pickT (f.eval rfl) a3 (f.eval rfl)) fun a f => ?_
      exact ⟨_, (GLe.refl _), m, f.weak ⟨rfl, rfl, rfl, rfl, rfl, rfl, rfl, rfl, rfl, rfl, rfl, rfl, by rw [a3]; rfl, trivial⟩⟩
     ·refine l_run f rfl rfl a3 ?_
      refine l_mv f rfl rfl fun a f => l_run f rfl rfl a3 ?_
      refine l_mv f rfl rfl fun a f => l_run f rfl rfl a3 ?_
      refine l_in f rfl rfl rfl b_andNot fun a f => l_run f rfl rfl a3 ?_
      refine l_in f rfl rfl rfl b_neq fun a f => l_op f rfl rfl rfl (r_pickF (f.eval rfl) a3 (f.eval rfl)) fun a f => ?_
      exact ⟨_, (GLe.refl _), m, f.weak ⟨rfl, rfl, rfl, rfl, rfl, rfl, rfl, rfl, rfl, rfl, rfl, rfl, by rw [a3]; rfl, trivial⟩⟩
    ·rintro a w ⟨a2, a4, m, f⟩
     have h1 := rd1 a4 h1
     have h0 := rd1 a4 h0
     refine l_nil ?_
     rcases cond_some ah with ⟨a5, ah⟩ | ⟨a5, ah⟩
     ·refine k_true f rfl a5 ?_
      refine k_seq (k_region ?_)
      refine l_as f rfl rfl fun a f => l_nil ?_
      refine k_ret ?_
      obtain rfl := sj ah
      obtain rfl := ai _ rfl
      obtain rfl := sj hd
      exact ⟨[(.bool false)], ⟨f.get _ _ rfl, trivial⟩, f.defers, _, [], (GLe.trans aj (GLe.trans aU (GLe.trans a0 a4))), m, rfl, rfl⟩
     ·refine k_false f rfl a5 ?_
      refine k_skip ?_
      refine k_region ?_
      refine l_in f rfl rfl rfl b_add fun a f => l_mv f rfl rfl fun a f => l_nil ?_
      obtain rfl := sj ah
      exact ⟨_, rfl, _, rfl, _, (GLe.trans aj (GLe.trans aU (GLe.trans a0 a4))), f.weak ⟨rfl, rfl, rfl, rfl, trivial⟩, m⟩
  ·refine k_false f rfl ak ?_
   refine k_exit rfl ?_
   obtain rfl := sj ah
   obtain rfl := ai _ rfl
   exact ⟨_, rfl, _, aj, f.weak trivial, m⟩
 ·rintro a w ⟨_, rfl, ac, a6, f, m⟩
  refine k_seq (k_region ?_)
  refine l_as f rfl rfl fun a f => l_nil ?_
  refine k_ret ?_
  obtain rfl := sj hd
  exact ⟨[(.bool true)], ⟨f.get _ _ rfl, trivial⟩, f.defers, _, [], a6, m, rfl, rfl⟩

theorem Wk.impl_DecompOk {W w : World} {G : GH} {H : List Itm} {v0_0 : Value} {v1_0 : Value} {v1_1 : Value} {x0_0 : (List (List Int))} {x1_0 : (List (List Int))} {x1_1 : (List (List Int))} (hW : TabW W) (m : Mem W G w (H)) (h0_0 : RSl (RSl (RI .i64)) G v0_0 x0_0) (h1_0 : RSl (RSl (RI .i64)) G v1_0 x1_0) (h1_1 : RSl (RSl (RI .i64)) G v1_1 x1_1) {y : Bool} (hd : D.impl_DecompOk x0_0 x1_0 x1_1 = some y) :
  Calls Tryz.prog 37 #[(.agg #[v0_0]), (.agg #[v1_0, v1_1])] w (Res W G H (fun _ Ho v => Ho = [] ∧ v = (.bool y))) := by
 refine calls_b (args := [(.agg #[v0_0]), (.agg #[v1_0, v1_1])]) (N := 100) [.tmp 4] Tryz.func37 rfl rfl (Nat.le_of_ble_eq_true rfl) rfl fun a f => ?_
 unfold D.impl_DecompOk at hd
 refine k_seq (k_region ?_)
 refine l_box (cs := [v0_0]) m f rfl rfl rfl fun aa w a m f => l_box (cs := [v1_0, v1_1]) m f rfl rfl rfl fun ab w a m f => l_as f rfl rfl fun a f => l_nil (k_seq (k_region ?_))
 refine l_fieldAddr Tryz.underlying27 rfl Tryz.sizeOf22 (by decide) f rfl rfl fun a f => l_boxCell 0 0 m Pl22 f rfl rfl rfl rfl fun a f => l_len Tryz.underlying22 f rfl rfl h1_0 fun a f => l_as f rfl rfl fun a f => l_nil (k_seq (k_seq (k_region ?_)))
 refine l_boxAgg 1 0 (ds := [v0_0]) m Ag30 f rfl rfl rfl rfl rfl fun a f => ?_
 obtain ⟨ac, ad, hd⟩ := bind_some hd
 refine l_res f rfl rfl Tryz.call93 (Wk.impl_GraphOk m h0_0 ad) fun ae af ag w ah m ai a f => ?_
 obtain ⟨rfl, rfl⟩ := ai
 have h0_0 := rd2 ah h0_0
 have h1_0 := rd2 ah h1_0
 have h1_1 := rd2 ah h1_1
 refine l_op f rfl rfl rfl (r_not (f.eval rfl)) fun a f => l_mv f rfl rfl fun a f => ?_
 refine l_cut 3 (fun a w => ∃ aj, GLe af aj ∧ Mem W aj w (Itm.box ab 27 [v1_0, v1_1] :: Itm.box aa 30 [v0_0] :: H) ∧ Fr a 100 [(0, (.agg #[v0_0])), (1, (.agg #[v1_0, v1_1])), (2, (.pointer (some ⟨aa, 0, none⟩))), (3, (.pointer (some ⟨ab, 0, none⟩))), (5, (.int .i64 (x1_0.length : Int))), (17, (.agg #[v0_0])), (18, (.bool ac)), (19, (.bool (!ac))), (20, (.bool (!ac))), (23, (.bool ((!ac) || (decide ((x1_0.length : Int) < 1)))))]) ?_ ?_
 ·rcases Bool.eq_false_or_eq_true (!ac) with ak | ak
  ·refine l_not' f rfl rfl rfl ak fun a f => ?_
   refine l_not' f rfl rfl rfl ak fun a f => l_op f rfl rfl rfl (r_pickT (f.eval rfl) ak (f.eval rfl)) fun a f => ?_
   exact ⟨_, (GLe.refl _), m, f.weak ⟨rfl, rfl, rfl, rfl, rfl, rfl, rfl, rfl, rfl, by rw [ak]; rfl, trivial⟩⟩
  ·refine l_run f rfl rfl ak ?_
   refine l_mv f rfl rfl fun a f => l_run f rfl rfl ak ?_
   refine l_in f rfl rfl rfl b_lss fun a f => l_op f rfl rfl rfl (r_pickF (f.eval rfl) ak (f.eval rfl)) fun a f => ?_
   exact ⟨_, (GLe.refl _), m, f.weak ⟨rfl, rfl, rfl, rfl, rfl, rfl, rfl, rfl, rfl, by rw [ak]; rfl, trivial⟩⟩
 ·rintro a w ⟨aj, al, m, f⟩
  have h0_0 := rd2 al h0_0
  have h1_0 := rd2 al h1_0
  have h1_1 := rd2 al h1_1
  refine l_mv f rfl rfl fun a f => ?_
  refine l_cut 3 (fun a w => ∃ am, GLe aj am ∧ Mem W am w (Itm.box ab 27 [v1_0, v1_1] :: Itm.box aa 30 [v0_0] :: H) ∧ Fr a 100 [(0, (.agg #[v0_0])), (1, (.agg #[v1_0, v1_1])), (2, (.pointer (some ⟨aa, 0, none⟩))), (3, (.pointer (some ⟨ab, 0, none⟩))), (5, (.int .i64 (x1_0.length : Int))), (17, (.agg #[v0_0])), (18, (.bool ac)), (19, (.bool (!ac))), (20, (.bool (!ac))), (23, (.bool ((!ac) || (decide ((x1_0.length : Int) < 1))))), (24, (.bool ((!ac) || (decide ((x1_0.length : Int) < 1))))), (27, (.bool (((!ac) || (decide ((x1_0.length : Int) < 1))) || (decide ((16 : Int) < (x1_0.length : Int))))))]) ?_ ?_
  ·rcases Bool.eq_false_or_eq_true ((!ac) || (decide ((x1_0.length : Int) < 1))) with an | an
   ·refine l_not' f rfl rfl rfl an fun a f => ?_
    refine l_not' f rfl rfl rfl an fun a f => l_op f rfl rfl rfl (r_pickT (f.eval rfl) an (f.eval rfl)) fun a f => ?_
    exact ⟨_, (GLe.refl _), m, f.weak ⟨rfl, rfl, rfl, rfl, rfl, rfl, rfl, rfl, rfl, rfl, rfl, by rw [an]; rfl, trivial⟩⟩
   ·refine l_run f rfl rfl an ?_
    refine l_mv f rfl rfl fun a f => l_run f rfl rfl an ?_
    refine l_in f rfl rfl rfl b_gtr fun a f => l_op f rfl rfl rfl (r_pickF (f.eval rfl) an (f.eval rfl)) fun a f => ?_
    exact ⟨_, (GLe.refl _), m, f.weak ⟨rfl, rfl, rfl, rfl, rfl, rfl, rfl, rfl, rfl, rfl, rfl, by rw [an]; rfl, trivial⟩⟩
  ·rintro a w ⟨am, ao, m, f⟩
   have h0_0 := rd2 ao h0_0
   have h1_0 := rd2 ao h1_0
   have h1_1 := rd2 ao h1_1
   refine l_mv f rfl rfl fun a f => ?_
   refine l_cut 7 (fun a w => ∃ ap, GLe am ap ∧ Mem W ap w (Itm.box ab 27 [v1_0, v1_1] :: Itm.box aa 30 [v0_0] :: H) ∧ Fr a 100 [(0, (.agg #[v0_0])), (1, (.agg #[v1_0, v1_1])), (2, (.pointer (some ⟨aa, 0, none⟩))), (3, (.pointer (some ⟨ab, 0, none⟩))), (5, (.int .i64 (x1_0.length : Int))), (17, (.agg #[v0_0])), (18, (.bool ac)), (19, (.bool (!ac))), (20, (.bool (!ac))), (23, (.bool ((!ac) || (decide ((x1_0.length : Int) < 1))))), (24, (.bool ((!ac) || (decide ((x1_0.length : Int) < 1))))), (27, (.bool (((!ac) || (decide ((x1_0.length : Int) < 1))) || (decide ((16 : Int) < (x1_0.length : Int)))))), (28, (.bool (((!ac) || (decide ((x1_0.length : Int) < 1))) || (decide ((16 : Int) < (x1_0.length : Int)))))), (35, (.bool ((((!ac) || (decide ((x1_0.length : Int) < 1))) || (decide ((16 : Int) < (x1_0.length : Int)))) || ((x1_1.length : Int) != (IntKind.i64.wrap ((x1_0.length : Int) - 1))))))]) ?_ ?_
   ·rcases Bool.eq_false_or_eq_true (((!ac) || (decide ((x1_0.length : Int) < 1))) || (decide ((16 : Int) < (x1_0.length : Int)))) with aq | aq
    ·refine l_not' f rfl rfl rfl aq fun a f => ?_
     refine l_not' f rfl rfl rfl aq fun a f => l_not' f rfl rfl rfl aq fun a f => l_not' f rfl rfl rfl aq fun a f => l_not' f rfl rfl rfl aq fun a f => l_not' f rfl rfl rfl aq fun a f => l_op f rfl rfl rfl (r_pickT (f.eval rfl) aq (f.eval rfl)) fun a f => ?_
     exact ⟨_, (GLe.refl _), m, f.weak ⟨rfl, rfl, rfl, rfl, rfl, rfl, rfl, rfl, rfl, rfl, rfl, rfl, rfl, by rw [aq]; rfl, trivial⟩⟩
    ·refine l_run f rfl rfl aq ?_
     refine l_fieldAddr Tryz.underlying27 rfl Tryz.sizeOf22 (by decide) f rfl rfl fun a f => l_run f rfl rfl aq ?_
     refine l_boxCell 0 1 m Pl22 f rfl rfl rfl rfl fun a f => l_run f rfl rfl aq ?_
     refine l_len Tryz.underlying22 f rfl rfl h1_1 fun a f => l_run f rfl rfl aq ?_
     refine l_mv f rfl rfl fun a f => l_run f rfl rfl aq ?_
     refine l_in f rfl rfl rfl b_sub fun a f => l_run f rfl rfl aq ?_
     refine l_in f rfl rfl rfl b_neq fun a f => l_op f rfl rfl rfl (r_pickF (f.eval rfl) aq (f.eval rfl)) fun a f => ?_
     exact ⟨_, (GLe.refl _), m, f.weak ⟨rfl, rfl, rfl, rfl, rfl, rfl, rfl, rfl, rfl, rfl, rfl, rfl, rfl, by rw [aq]; rfl, trivial⟩⟩
   ·rintro a w ⟨ap, ar, m, f⟩
    have h0_0 := rd2 ar h0_0
    have h1_0 := rd2 ar h1_0
    have h1_1 := rd2 ar h1_1
    refine l_mv f rfl rfl fun a f => ?_
    obtain ⟨au, av, hd⟩ := bind_some hd
    refine l_cut 6 (fun a w => ∃ aw, GLe ap aw ∧ Mem W aw w (Itm.box ab 27 [v1_0, v1_1] :: Itm.box aa 30 [v0_0] :: H) ∧ Fr a 100 [(0, (.agg #[v0_0])), (1, (.agg #[v1_0, v1_1])), (2, (.pointer (some ⟨aa, 0, none⟩))), (3, (.pointer (some ⟨ab, 0, none⟩))), (5, (.int .i64 (x1_0.length : Int))), (17, (.agg #[v0_0])), (18, (.bool ac)), (19, (.bool (!ac))), (20, (.bool (!ac))), (23, (.bool ((!ac) || (decide ((x1_0.length : Int) < 1))))), (24, (.bool ((!ac) || (decide ((x1_0.length : Int) < 1))))), (27, (.bool (((!ac) || (decide ((x1_0.length : Int) < 1))) || (decide ((16 : Int) < (x1_0.length : Int)))))), (28, (.bool (((!ac) || (decide ((x1_0.length : Int) < 1))) || (decide ((16 : Int) < (x1_0.length : Int)))))), (35, (.bool ((((!ac) || (decide ((x1_0.length : Int) < 1))) || (decide ((16 : Int) < (x1_0.length : Int)))) || ((x1_1.length : Int) != (IntKind.i64.wrap ((x1_0.length : Int) - 1)))))), (36, (.bool ((((!ac) || (decide ((x1_0.length : Int) < 1))) || (decide ((16 : Int) < (x1_0.length : Int)))) || ((x1_1.length : Int) != (IntKind.i64.wrap ((x1_0.length : Int) - 1)))))), (42, (.bool au))]) ?_ ?_
    ·rcases cond_some av with ⟨ax, av⟩ | ⟨ax, av⟩
     ·refine l_not' f rfl rfl rfl ax fun a f => ?_
      refine l_not' f rfl rfl rfl ax fun a f => l_not' f rfl rfl rfl ax fun a f => l_not' f rfl rfl rfl ax fun a f => l_not' f rfl rfl rfl ax fun a f => l_op f rfl rfl rfl (r_pickT (f.eval rfl) ax (f.eval rfl)) fun a f => ?_
      obtain rfl := sj av
      exact ⟨_, (GLe.refl _), m, f.weak ⟨rfl, rfl, rfl, rfl, rfl, rfl, rfl, rfl, rfl, rfl, rfl, rfl, rfl, rfl, rfl, rfl, trivial⟩⟩
     ·refine l_run f rfl rfl ax ?_
      refine l_fieldAddr Tryz.underlying27 rfl Tryz.sizeOf22 (by decide) f rfl rfl fun a f => l_run f rfl rfl ax ?_
      refine l_boxCell 0 1 m Pl22 f rfl rfl rfl rfl fun a f => l_run f rfl rfl ax ?_
      refine l_mv f rfl rfl fun a f => l_run f rfl rfl ax ?_
      obtain ⟨ay, az, av⟩ := bind_some av
      refine l_res f rfl rfl Tryz.call94 (Wk.impl_goodLinks m h1_1 az) fun aA aB aC w aD m aE a f => ?_
      obtain ⟨rfl, rfl⟩ := aE
      have h0_0 := rd2 aD h0_0
      have h1_0 := rd2 aD h1_0
      have h1_1 := rd2 aD h1_1
      refine l_run f rfl rfl ax ?_
      refine l_op f rfl rfl rfl (r_not (f.eval rfl)) fun a f => l_op f rfl rfl rfl (r_pickF (f.eval rfl) ax (f.eval rfl)) fun a f => ?_
      obtain rfl := sj av
      exact ⟨_, aD, m, f.weak ⟨rfl, rfl, rfl, rfl, rfl, rfl, rfl, rfl, rfl, rfl, rfl, rfl, rfl, rfl, rfl, rfl, trivial⟩⟩
    ·rintro a w ⟨aw, aF, m, f⟩
     have h0_0 := rd2 aF h0_0
     have h1_0 := rd2 aF h1_0
     have h1_1 := rd2 aF h1_1
     refine l_nil ?_
     rcases cond_some hd with ⟨aG, hd⟩ | ⟨aG, hd⟩
     ·refine k_true f rfl aG ?_
      refine k_seq (k_region ?_)
      refine l_as f rfl rfl fun a f => l_nil ?_
      refine k_ret ?_
      have m : Mem W aw w H := Mem.drop (H' := [Itm.box ab 27 [v1_0, v1_1], Itm.box aa 30 [v0_0]]) m
      obtain rfl := sj hd
      exact ⟨[(.bool false)], ⟨f.get _ _ rfl, trivial⟩, f.defers, _, [], (GLe.trans ah (GLe.trans al (GLe.trans ao (GLe.trans ar aF)))), m, rfl, rfl⟩
     ·refine k_false f rfl aG ?_
      refine k_skip ?_
      refine k_seq (k_seq (k_region ?_))
      refine l_fieldAddr Tryz.underlying27 rfl Tryz.sizeOf22 (by decide) f rfl rfl fun a f => l_boxCell 0 0 m Pl22 f rfl rfl rfl rfl fun a f => l_len Tryz.underlying22 f rfl rfl h1_0 fun a f => l_mv f rfl rfl fun a f => l_nil ?_
      obtain ⟨aH, aI, hd⟩ := bind_some hd
      refine k_cut (fun a w => ∃ q_80' : Unit, aH = .inl q_80' ∧ ∃ (aJ : GH), GLe aw aJ ∧ Fr a 100 [(2, (.pointer (some ⟨aa, 0, none⟩))), (3, (.pointer (some ⟨ab, 0, none⟩)))] ∧ Mem W aJ w (Itm.box aa 30 [v0_0] :: Itm.box ab 27 [v1_0, v1_1] :: H)) ?_ ?_
      ·refine k_block ?_
       have m := m.front 1 rfl
       refine k_loop (fun aK a w => ∃ aL : Int, aL = aK ∧ ∃ (aM : GH), GLe aw aM ∧ Fr a 100 [(2, (.pointer (some ⟨aa, 0, none⟩))), (3, (.pointer (some ⟨ab, 0, none⟩))), (44, v1_0), (45, (.int .i64 (x1_0.length : Int))), (46, (.int .i64 aL))] ∧ Mem W aM w (Itm.box aa 30 [v0_0] :: Itm.box ab 27 [v1_0, v1_1] :: H)) aI ⟨_, rfl, _, (GLe.refl _), f.weak ⟨rfl, rfl, rfl, rfl, rfl, trivial⟩, m⟩ ?_
       clear aI f m
       rintro aK aN aO aP a w ⟨aL, rfl, aM, aQ, f, m⟩
       have h1_0 := rd2 aQ h1_0
       have h0_0 := rd2 aQ h0_0
       have h1_1 := rd2 aQ h1_1
       refine k_seq (k_region ?_)
       refine l_in f rfl rfl rfl b_lss fun a f => l_nil (k_seq ?_)
       rcases cond_some aO with ⟨aR, aO⟩ | ⟨aR, aO⟩
       ·refine k_true f rfl aR ?_
        refine k_skip ?_
        refine k_seq (k_block (k_seq (k_region ?_)))
        obtain ⟨aS, aT, aO⟩ := bind_some aO
        refine l_at T22 f rfl rfl rfl h1_0 aT fun aU aV a aW aX f => l_loadAt m Pl42 f rfl rfl aW fun a f => l_as f rfl rfl fun a f => l_nil (k_seq (k_region ?_))
        refine l_mv f rfl rfl fun a f => l_fieldAddr Tryz.underlying30 rfl Tryz.sizeOf22 (by decide) f rfl rfl fun a f => l_boxCell 0 0 m Pl22 f rfl rfl rfl rfl fun a f => l_len Tryz.underlying22 f rfl rfl h0_0 fun a f => ?_
        obtain ⟨aY, aZ, aO⟩ := bind_some aO
        refine l_res f rfl rfl Tryz.call95 (Wk.impl_increasing m aX aZ) fun a0 a1 a2 w a3 m a4 a f => ?_
        obtain ⟨rfl, rfl⟩ := a4
        have aX := rd1 a3 aX
        have h1_0 := rd2 a3 h1_0
        have h0_0 := rd2 a3 h0_0
        have h1_1 := rd2 a3 h1_1
        refine l_op f rfl rfl rfl (r_not (f.eval rfl)) fun a f => l_nil ?_
        rcases cond_some aO with ⟨a5, aO⟩ | ⟨a5, aO⟩
        ·refine k_true f rfl a5 ?_
         refine k_seq (k_region ?_)
         refine l_as f rfl rfl fun a f => l_nil ?_
         refine k_ret ?_
         have m : Mem W a1 w H := Mem.drop (H' := [Itm.box aa 30 [v0_0], Itm.box ab 27 [v1_0, v1_1]]) m
         obtain rfl := sj aO
         obtain rfl := aP _ rfl
         obtain rfl := sj hd
         exact ⟨[(.bool false)], ⟨f.get _ _ rfl, trivial⟩, f.defers, _, [], (GLe.trans ah (GLe.trans al (GLe.trans ao (GLe.trans ar (GLe.trans aF (GLe.trans aQ a3)))))), m, rfl, rfl⟩
        ·refine k_false f rfl a5 ?_
         refine k_skip ?_
         refine k_region ?_
         refine l_in f rfl rfl rfl b_add fun a f => l_mv f rfl rfl fun a f => l_nil ?_
         obtain rfl := sj aO
         exact ⟨_, rfl, _, rfl, _, (GLe.trans aQ a3), f.weak ⟨rfl, rfl, rfl, rfl, rfl, trivial⟩, m⟩
       ·refine k_false f rfl aR ?_
        refine k_exit rfl ?_
        obtain rfl := sj aO
        obtain rfl := aP _ rfl
        exact ⟨_, rfl, _, aQ, f.weak ⟨rfl, rfl, trivial⟩, m⟩
      ·rintro a w ⟨_, rfl, aJ, a6, f, m⟩
       have h0_0 := rd2 a6 h0_0
       have h1_0 := rd2 a6 h1_0
       have h1_1 := rd2 a6 h1_1
       refine k_seq ?_
       refine k_draw 7 Follows (by kernel_rfl) m ?_
       refine q_boxAgg (i := 0) (ds := [v1_0, v1_1]) 7 1 Ag27 rfl rfl rfl rfl (by kernel_rfl) rfl f rfl rfl rfl fun a f => q_fieldAddr (i := 2) 7 Tryz.underlying27 rfl Tryz.sizeOf22 (by decide) rfl (by kernel_rfl) rfl f rfl rfl rfl fun a f => q_boxCell (i := 3) 7 1 Pl22 rfl rfl rfl (by kernel_rfl) rfl f rfl rfl rfl fun a f => q_one (i := 1) rfl (by kernel_rfl) rfl fun a7 w a8 m a9 a9 => ?_
       have h1_0 := rd2 a8 h1_0
       have h1_1 := rd2 a8 h1_1
       have h0_0 := rd2 a8 h0_0
       obtain ⟨ba, bb, hd⟩ := bind_some hd
       refine l_res f rfl rfl Tryz.call96 (Wk.impl_linkNets m h1_0 h1_1 bb) fun bc bd be w bf m bg a f => ?_
       obtain ⟨bh, bi, rfl, rfl, bj⟩ := bg
       have h1_0 := rd2 bf h1_0
       have h1_1 := rd2 bf h1_1
       have h0_0 := rd2 bf h0_0
       refine l_nil ?_
       refine a9 bd [bi] _ _ bf m ?_
       refine q_one (i := 4) rfl (by kernel_rfl) rfl fun bk w bl m bm bm => ?_
       have h1_0 := rd2 bl h1_0
       have h1_1 := rd2 bl h1_1
       have bj := od1 bl bj
       have h0_0 := rd2 bl h0_0
       obtain ⟨bn, bo, hd⟩ := bind_some hd
       refine l_res f rfl rfl Tryz.call97 (Wk.impl_bagMasks m h1_0 bo) fun bp bq br w bs m bt a f => ?_
       obtain ⟨bu, bv, rfl, rfl, bw⟩ := bt
       have h1_0 := rd2 bs h1_0
       have h1_1 := rd2 bs h1_1
       have bj := od1 bs bj
       have h0_0 := rd2 bs h0_0
       refine l_nil ?_
       refine bm bq [bv, bi] _ _ bs m ?_
       refine q_p 5 7 rfl (by kernel_rfl) f rfl rfl rfl (fun _ => r_assign (f.eval rfl)) fun a f => q_p 6 7 rfl (by kernel_rfl) f rfl rfl rfl (fun _ => r_assign (f.eval rfl)) fun a f => q_end fun bx w bz m => ?_
       have h1_0 := rd2 bz h1_0
       have h1_1 := rd2 bz h1_1
       have bw := od1 bz bw
       have bj := od1 bz bj
       have h0_0 := rd2 bz h0_0
       refine l_nil (k_seq (k_seq (k_region ?_)))
       refine l_mv f rfl rfl fun a f => l_mv f rfl rfl fun a f => ?_
       obtain ⟨bA, bB, hd⟩ := bind_some hd
       refine l_res f rfl rfl Tryz.call53 (Ow.lendCall (RI.mono _) 1 bj m rfl (fun bC bD m bE => Wk.impl_nets_all m bE bB) (fun _ _ _ _ h => h)) fun bF bG bH w bI m bJ a f => ?_
       obtain ⟨rfl, rfl⟩ := bJ
       have bw := od1 bI bw
       have bj := od1 bI bj
       have h0_0 := rd2 bI h0_0
       have h1_0 := rd2 bI h1_0
       have h1_1 := rd2 bI h1_1
       obtain ⟨bK, bL, hd⟩ := bind_some hd
       refine l_res f rfl rfl Tryz.call98 (Ow.lendCall (RI.mono _) 1 bj m rfl (fun bM bN m bO => Wk.impl_connected hW m bO bL) (fun _ _ _ _ h => h)) fun bP bQ bR w bS m bT a f => ?_
       obtain ⟨rfl, rfl⟩ := bT
       have bw := od1 bS bw
       have bj := od1 bS bj
       have h0_0 := rd2 bS h0_0
       have h1_0 := rd2 bS h1_0
       have h1_1 := rd2 bS h1_1
       refine l_op f rfl rfl rfl (r_not (f.eval rfl)) fun a f => l_mv f rfl rfl fun a f => ?_
       obtain ⟨bU, bV, hd⟩ := bind_some hd
       refine l_cut 6 (fun a w => ∃ bW, GLe bQ bW ∧ Mem W bW w (bv :: bi :: Itm.box aa 30 [v0_0] :: Itm.box ab 27 [v1_0, v1_1] :: H) ∧ Fr a 100 [(2, (.pointer (some ⟨aa, 0, none⟩))), (3, (.pointer (some ⟨ab, 0, none⟩))), (8, bh), (9, bu), (62, bh), (63, bh), (64, (.int .u32 bA)), (65, (.bool bK)), (66, (.bool (!bK))), (67, (.bool (!bK))), (73, (.bool bU))]) ?_ ?_
       ·rcases cond_some bV with ⟨bX, bV⟩ | ⟨bX, bV⟩
        ·refine l_not' f rfl rfl rfl bX fun a f => ?_
         refine l_not' f rfl rfl rfl bX fun a f => l_not' f rfl rfl rfl bX fun a f => l_not' f rfl rfl rfl bX fun a f => l_not' f rfl rfl rfl bX fun a f => l_op f rfl rfl rfl (r_pickT (f.eval rfl) bX (f.eval rfl)) fun a f => ?_
         obtain rfl := sj bV
         exact ⟨_, (GLe.refl _), m, f.weak ⟨rfl, rfl, rfl, rfl, rfl, rfl, rfl, rfl, rfl, rfl, rfl, trivial⟩⟩
        ·refine l_run f rfl rfl bX ?_
         refine l_boxAgg 2 0 (ds := [v0_0]) m Ag30 f rfl rfl rfl rfl rfl fun a f => l_run f rfl rfl bX ?_
         obtain ⟨bY, bZ, bV⟩ := bind_some bV
         refine l_res f rfl rfl Tryz.call50 (Wk.impl_netsOf m h0_0 bZ) fun b0 b1 b2 w b3 m b4 a f => ?_
         obtain ⟨b5, b6, rfl, rfl, b7⟩ := b4
         have h0_0 := rd2 b3 h0_0
         have bw := od1 b3 bw
         have bj := od1 b3 bj
         have h1_0 := rd2 b3 h1_0
         have h1_1 := rd2 b3 h1_1
         refine l_run f rfl rfl bX ?_
         refine l_mv f rfl rfl fun a f => l_run f rfl rfl bX ?_
         obtain ⟨b8, b9, bV⟩ := bind_some bV
         refine l_res f rfl rfl Tryz.call99 (Ow.lendCall (RI.mono _) 0 b7 m rfl (fun ca cb m cc => (Ow.lendCall (RI.mono _) 0 (od1 cb bw) m rfl (fun cd ce m cf => Wk.impl_coversEdges m (rd1 ce cc) cf b9) (fun _ _ _ _ h => h))) (fun _ _ _ _ h => h)) fun cg ch ci w cj m ck a f => ?_
         obtain ⟨rfl, rfl⟩ := ck
         have h0_0 := rd2 cj h0_0
         have b7 := od1 cj b7
         have bw := od1 cj bw
         have bj := od1 cj bj
         have h1_0 := rd2 cj h1_0
         have h1_1 := rd2 cj h1_1
         refine l_run f rfl rfl bX ?_
         refine l_op f rfl rfl rfl (r_not (f.eval rfl)) fun a f => l_op f rfl rfl rfl (r_pickF (f.eval rfl) bX (f.eval rfl)) fun a f => ?_
         obtain rfl := sj bV
         have m := m.front 4 rfl
         have m := m.front 4 rfl
         have m : Mem W ch w (bi :: Itm.box aa 30 [v0_0] :: Itm.box ab 27 [v1_0, v1_1] :: b6 :: bv :: H) := m.front 4 rfl
         have m := m.front 4 rfl
         have m : Mem W ch w (bv :: bi :: Itm.box aa 30 [v0_0] :: Itm.box ab 27 [v1_0, v1_1] :: H) := m.eraseAt 4
         exact ⟨_, (GLe.trans b3 cj), m, f.weak ⟨rfl, rfl, rfl, rfl, rfl, rfl, rfl, rfl, rfl, rfl, rfl, trivial⟩⟩
       ·rintro a w ⟨bW, cl, m, f⟩
        have bw := od1 cl bw
        have bj := od1 cl bj
        have h0_0 := rd2 cl h0_0
        have h1_0 := rd2 cl h1_0
        have h1_1 := rd2 cl h1_1
        refine l_nil ?_
        rcases cond_some hd with ⟨cm, hd⟩ | ⟨cm, hd⟩
        ·refine k_true f rfl cm ?_
         refine k_seq (k_region ?_)
         refine l_as f rfl rfl fun a f => l_nil ?_
         refine k_ret ?_
         have m : Mem W bW w H := Mem.drop (H' := [bv, bi, Itm.box aa 30 [v0_0], Itm.box ab 27 [v1_0, v1_1]]) m
         obtain rfl := sj hd
         exact ⟨[(.bool false)], ⟨f.get _ _ rfl, trivial⟩, f.defers, _, [], (GLe.trans ah (GLe.trans al (GLe.trans ao (GLe.trans ar (GLe.trans aF (GLe.trans a6 (GLe.trans a8 (GLe.trans bf (GLe.trans bl (GLe.trans bs (GLe.trans bz (GLe.trans bI (GLe.trans bS cl))))))))))))), m, rfl, rfl⟩
        ·refine k_false f rfl cm ?_
         refine k_skip ?_
         refine k_seq (k_seq (k_region ?_))
         refine l_fieldAddr Tryz.underlying30 rfl Tryz.sizeOf22 (by decide) f rfl rfl fun a f => l_boxCell 2 0 m Pl22 f rfl rfl rfl rfl fun a f => l_len Tryz.underlying22 f rfl rfl h0_0 fun a f => l_mv f rfl rfl fun a f => l_nil ?_
         obtain ⟨cn, co, hd⟩ := bind_some hd
         refine k_cut (fun a w => ∃ q_483' : Unit, cn = .inl q_483' ∧ ∃ (cp : GH), GLe bW cp ∧ Fr a 100 [] ∧ Mem W cp w (H)) ?_ ?_
         ·refine k_block ?_
          have m := m.front 1 rfl
          have m := m.eraseAt 3
          have m := m.eraseAt 2
          refine k_loop (fun cq a w => ∃ cr : Int, cr = cq ∧ ∃ (ct : GH), GLe bW ct ∧ Fr a 100 [(8, bh), (9, bu), (76, (.int .i64 (x0_0.length : Int))), (77, (.int .i64 cr))] ∧ Mem W ct w (bi :: bv :: H)) co ⟨_, rfl, _, (GLe.refl _), f.weak ⟨rfl, rfl, rfl, rfl, trivial⟩, m⟩ ?_
          clear co f m
          rintro cq cu cv cw a w ⟨cr, rfl, ct, cx, f, m⟩
          have bj := od1 cx bj
          have bw := od1 cx bw
          refine k_seq (k_region ?_)
          refine l_in f rfl rfl rfl b_lss fun a f => l_nil (k_seq ?_)
          rcases cond_some cv with ⟨cy, cv⟩ | ⟨cy, cv⟩
          ·refine k_true f rfl cy ?_
           refine k_skip ?_
           refine k_seq (k_block (k_seq (k_region ?_)))
           refine l_mv f rfl rfl fun a f => l_as f rfl rfl fun a f => l_nil (k_seq (k_region ?_))
           refine l_as f rfl rfl fun a f => l_nil (k_seq (k_seq (k_region ?_)))
           refine l_mv f rfl rfl fun a f => l_own_len 1 m bw rfl Tryz.underlying71 f rfl rfl fun a f => l_mv f rfl rfl fun a f => l_nil ?_
           obtain ⟨cz, cA, cv⟩ := bind_some cv
           refine k_cut (fun a w => ∃ cB : Int, cB = cz ∧ ∃ (cC : GH), GLe ct cC ∧ Fr a 100 [(8, bh), (9, bu), (11, (.int .u32 cB)), (76, (.int .i64 (x0_0.length : Int))), (77, (.int .i64 cr))] ∧ Mem W cC w (bi :: bv :: H)) ?_ ?_
           ·refine k_block ?_
            refine k_loop (fun cD a w => ∃ cE : Int, ∃ cF : Int, (cE, cF) = cD ∧ ∃ (cG : GH), GLe ct cG ∧ Fr a 100 [(8, bh), (9, bu), (10, (.int .i64 cr)), (11, (.int .u32 cE)), (76, (.int .i64 (x0_0.length : Int))), (77, (.int .i64 cr)), (80, bu), (81, (.int .i64 (bn.length : Int))), (82, (.int .i64 cF))] ∧ Mem W cG w (bi :: bv :: H)) cA ⟨_, _, rfl, _, (GLe.refl _), f.weak ⟨rfl, rfl, rfl, rfl, rfl, rfl, rfl, rfl, rfl, trivial⟩, m⟩ ?_
            clear cA f m
            rintro cD cH cI cJ a w ⟨cE, cF, rfl, cG, cK, f, m⟩
            have bj := od1 cK bj
            have bw := od1 cK bw
            refine k_seq (k_region ?_)
            refine l_in f rfl rfl rfl b_lss fun a f => l_nil (k_seq ?_)
            rcases cond_some cI with ⟨cL, cI⟩ | ⟨cL, cI⟩
            ·refine k_true f rfl cL ?_
             refine k_skip ?_
             refine k_seq (k_block (k_seq (k_region ?_)))
             refine l_mv f rfl rfl fun a f => ?_
             obtain ⟨cM, cN, cI⟩ := bind_some cI
             refine l_own_at 1 m bw rfl T71 f rfl rfl rfl cN fun cO a cP f => l_own_load 1 m bw rfl Pl76 f rfl rfl cP cN fun cQ a cR f => ?_
             subst cR
             refine l_as f rfl rfl fun a f => l_as f rfl rfl fun a f => l_nil (k_seq (k_region ?_))
             refine l_mv f rfl rfl fun a f => l_mv f rfl rfl fun a f => ?_
             obtain ⟨cS, cT, cI⟩ := bind_some cI
             refine l_res f rfl rfl Tryz.call54 (Wk.impl_vset_has m  cT) fun cU cV cW w cX m cY a f => ?_
             obtain ⟨rfl, rfl⟩ := cY
             have bj := od1 cX bj
             have bw := od1 cX bw
             refine l_nil ?_
             rcases cond_some cI with ⟨cZ, cI⟩ | ⟨cZ, cI⟩
             ·refine k_true f rfl cZ ?_
              refine k_region ?_
              refine l_mv f rfl rfl fun a f => l_mv f rfl rfl fun a f => ?_
              obtain ⟨c0, c1, cI⟩ := bind_some cI
              refine l_res f rfl rfl Tryz.call100 (Wk.impl_one m  c1) fun c2 c3 c4 w c5 m c6 a f => ?_
              obtain ⟨rfl, rfl⟩ := c6
              have bj := od1 c5 bj
              have bw := od1 c5 bw
              refine l_in f rfl rfl rfl b_or fun a f => l_as f rfl rfl fun a f => l_nil (k_region ?_)
              refine l_in f rfl rfl rfl b_add fun a f => l_mv f rfl rfl fun a f => l_nil ?_
              obtain rfl := sj cI
              exact ⟨_, rfl, _, _, rfl, _, (GLe.trans cK (GLe.trans cX c5)), f.weak ⟨rfl, rfl, rfl, rfl, rfl, rfl, rfl, rfl, rfl, trivial⟩, m⟩
             ·refine k_false f rfl cZ ?_
              refine k_skip ?_
              refine k_region ?_
              refine l_in f rfl rfl rfl b_add fun a f => l_mv f rfl rfl fun a f => l_nil ?_
              obtain rfl := sj cI
              exact ⟨_, rfl, _, _, rfl, _, (GLe.trans cK cX), f.weak ⟨rfl, rfl, rfl, rfl, rfl, rfl, rfl, rfl, rfl, trivial⟩, m⟩
            ·refine k_false f rfl cL ?_
             refine k_exit rfl ?_
             obtain rfl := sj cI
             obtain rfl := cJ _ rfl
             exact ⟨_, rfl, _, cK, f.weak ⟨rfl, rfl, rfl, rfl, rfl, trivial⟩, m⟩
           ·rintro a w ⟨cB, rfl, cC, c7, f, m⟩
            have bj := od1 c7 bj
            have bw := od1 c7 bw
            refine k_seq (k_region ?_)
            refine l_mv f rfl rfl fun a f => l_mv f rfl rfl fun a f => ?_
            obtain ⟨c8, c9, cv⟩ := bind_some cv
            refine l_res f rfl rfl Tryz.call98 (Ow.lendCall (RI.mono _) 0 bj m rfl (fun da db m dc => Wk.impl_connected hW m dc c9) (fun _ _ _ _ h => h)) fun dd de df w dg m dh a f => ?_
            obtain ⟨rfl, rfl⟩ := dh
            have bj := od1 dg bj
            have bw := od1 dg bw
            refine l_op f rfl rfl rfl (r_not (f.eval rfl)) fun a f => l_nil ?_
            rcases cond_some cv with ⟨di, cv⟩ | ⟨di, cv⟩
            ·refine k_true f rfl di ?_
             refine k_seq (k_region ?_)
             refine l_as f rfl rfl fun a f => l_nil ?_
             refine k_ret ?_
             have m : Mem W de w H := Mem.drop (H' := [bi, bv]) m
             obtain rfl := sj cv
             obtain rfl := cw _ rfl
             obtain rfl := sj hd
             exact ⟨[(.bool false)], ⟨f.get _ _ rfl, trivial⟩, f.defers, _, [], (GLe.trans ah (GLe.trans al (GLe.trans ao (GLe.trans ar (GLe.trans aF (GLe.trans a6 (GLe.trans a8 (GLe.trans bf (GLe.trans bl (GLe.trans bs (GLe.trans bz (GLe.trans bI (GLe.trans bS (GLe.trans cl (GLe.trans cx (GLe.trans c7 dg)))))))))))))))), m, rfl, rfl⟩
            ·refine k_false f rfl di ?_
             refine k_skip ?_
             refine k_region ?_
             refine l_in f rfl rfl rfl b_add fun a f => l_mv f rfl rfl fun a f => l_nil ?_
             obtain rfl := sj cv
             exact ⟨_, rfl, _, rfl, _, (GLe.trans cx (GLe.trans c7 dg)), f.weak ⟨rfl, rfl, rfl, rfl, trivial⟩, m⟩
          ·refine k_false f rfl cy ?_
           refine k_exit rfl ?_
           have m : Mem W ct w H := Mem.drop (H' := [bi, bv]) m
           obtain rfl := sj cv
           obtain rfl := cw _ rfl
           exact ⟨_, rfl, _, cx, f.weak trivial, m⟩
         ·rintro a w ⟨_, rfl, cp, dj, f, m⟩
          refine k_seq (k_region ?_)
          refine l_as f rfl rfl fun a f => l_nil ?_
          refine k_ret ?_
          obtain rfl := sj hd
          exact ⟨[(.bool true)], ⟨f.get _ _ rfl, trivial⟩, f.defers, _, [], (GLe.trans ah (GLe.trans al (GLe.trans ao (GLe.trans ar (GLe.trans aF (GLe.trans a6 (GLe.trans a8 (GLe.trans bf (GLe.trans bl (GLe.trans bs (GLe.trans bz (GLe.trans bI (GLe.trans bS (GLe.trans cl dj)))))))))))))), m, rfl, rfl⟩

theorem Wk.impl_sortedLink {W w : World} {G : GH} {H : List Itm} {x0 : Int} {x1 : Int} (m : Mem W G w (H))  {y : ((List Int))} (hd : D.impl_sortedLink x0 x1 = some y) :
  Calls Tryz.prog 56 #[(.int .i64 x0), (.int .i64 x1)] w (Res W G H (fun G' Ho v => ∃ r0 : Value, ∃ i0 : Itm, Ho = [i0] ∧ r0 = v ∧ Ow (RI .i64) 2 G' i0 r0 y)) := by
 refine calls_b (args := [(.int .i64 x0), (.int .i64 x1)]) (N := 12) [.tmp 4] Tryz.func56 rfl rfl (Nat.le_of_ble_eq_true rfl) rfl fun a f => ?_
 unfold D.impl_sortedLink at hd
 refine k_seq (k_region ?_)
 refine l_as f rfl rfl fun a f => l_nil (k_seq (k_region ?_))
 refine l_mv f rfl rfl fun a f => l_mv f rfl rfl fun a f => l_op f rfl rfl rfl (r_min2 (f.eval rfl) (f.eval rfl)) fun a f => l_mv f rfl rfl fun a f => l_mv f rfl rfl fun a f => l_op f rfl rfl rfl (r_max2 (f.eval rfl) (f.eval rfl)) fun a f => l_slit (R := (RI .i64)) (xs := ([(if x1 < x0 then x1 else x0), (if x0 < x1 then x1 else x0)] : List Int)) (RI.one _) m T42 f rfl rfl rfl (by decide) (All2.cons rfl (All2.cons rfl (All2.nil _))) fun aa ab w a m ac f => l_as f rfl rfl fun a f => l_nil ?_
 refine k_ret ?_
 obtain rfl := sj hd
 exact ⟨[ab], ⟨f.get _ _ rfl, trivial⟩, f.defers, _, [aa], (GLe.refl _), m, _, _, rfl, rfl, ac⟩

theorem Wk.impl_mergedBags_1 {W w : World} {G : GH} {H : List Itm} {b1 : Nat} {b2 : Nat} {x0 : Int} {x1_0 : Int} {x2_0 : Int} (m : Mem W G w (Itm.box b1 3 [(.int .i64 x1_0)] :: Itm.box b2 3 [(.int .i64 x2_0)] :: H))  {y : Int} (hd : D.impl_mergedBags_1 x0 x1_0 x2_0 = some y) :
  Calls Tryz.prog 165 #[(.int .i64 x0), (.pointer (some ⟨b1, 0, none⟩)), (.pointer (some ⟨b2, 0, none⟩))] w (Res W G H (fun _ Ho v => Ho = [Itm.box b1 3 [(.int .i64 x1_0)], Itm.box b2 3 [(.int .i64 x2_0)]] ∧ v = (.int .i64 y))) := by
 refine calls_b (args := [(.int .i64 x0), (.pointer (some ⟨b1, 0, none⟩)), (.pointer (some ⟨b2, 0, none⟩))]) (N := 15) [.tmp 4] Tryz.func165 rfl rfl (Nat.le_of_ble_eq_true rfl) rfl fun a f => ?_
 unfold D.impl_mergedBags_1 at hd
 refine k_seq (k_region ?_)
 refine l_as f rfl rfl fun a f => l_nil (k_seq (k_seq (k_region ?_)))
 refine l_mv f rfl rfl fun a f => l_boxCell 0 0 m Pl3 f rfl rfl rfl rfl fun a f => l_in f rfl rfl rfl b_eql fun a f => l_nil ?_
 rcases cond_some hd with ⟨aa, hd⟩ | ⟨aa, hd⟩
 ·refine k_true f rfl aa ?_
  refine k_region ?_
  refine l_boxCell 1 0 m Pl3 f rfl rfl rfl rfl fun a f => l_as f rfl rfl fun a f => l_nil (k_seq (k_seq (k_region ?_)))
  refine l_mv f rfl rfl fun a f => l_boxCell 0 0 m Pl3 f rfl rfl rfl rfl fun a f => l_in f rfl rfl rfl b_gtr fun a f => l_nil ?_
  rcases cond_some hd with ⟨ab, hd⟩ | ⟨ab, hd⟩
  ·refine k_true f rfl ab ?_
   refine k_region ?_
   refine l_mv f rfl rfl fun a f => l_in f rfl rfl rfl b_sub fun a f => l_as f rfl rfl fun a f => l_nil (k_seq (k_region ?_))
   refine l_mv f rfl rfl fun a f => l_as f rfl rfl fun a f => l_nil ?_
   refine k_ret ?_
   obtain rfl := sj hd
   exact ⟨[(.int .i64 (IntKind.i64.wrap (x2_0 - 1)))], ⟨f.get _ _ rfl, trivial⟩, f.defers, _, [Itm.box b1 3 [(.int .i64 x1_0)], Itm.box b2 3 [(.int .i64 x2_0)]], (GLe.refl _), m, rfl, rfl⟩
  ·refine k_false f rfl ab ?_
   refine k_skip ?_
   refine k_seq (k_region ?_)
   refine l_mv f rfl rfl fun a f => l_as f rfl rfl fun a f => l_nil ?_
   refine k_ret ?_
   obtain rfl := sj hd
   exact ⟨[(.int .i64 x2_0)], ⟨f.get _ _ rfl, trivial⟩, f.defers, _, [Itm.box b1 3 [(.int .i64 x1_0)], Itm.box b2 3 [(.int .i64 x2_0)]], (GLe.refl _), m, rfl, rfl⟩
 ·refine k_false f rfl aa ?_
  refine k_skip ?_
  refine k_seq (k_seq (k_region ?_))
  refine l_mv f rfl rfl fun a f => l_boxCell 0 0 m Pl3 f rfl rfl rfl rfl fun a f => l_in f rfl rfl rfl b_gtr fun a f => l_nil ?_
  rcases cond_some hd with ⟨ac, hd⟩ | ⟨ac, hd⟩
  ·refine k_true f rfl ac ?_
   refine k_region ?_
   refine l_mv f rfl rfl fun a f => l_in f rfl rfl rfl b_sub fun a f => l_as f rfl rfl fun a f => l_nil (k_seq (k_region ?_))
   refine l_mv f rfl rfl fun a f => l_as f rfl rfl fun a f => l_nil ?_
   refine k_ret ?_
   obtain rfl := sj hd
   exact ⟨[(.int .i64 (IntKind.i64.wrap (x0 - 1)))], ⟨f.get _ _ rfl, trivial⟩, f.defers, _, [Itm.box b1 3 [(.int .i64 x1_0)], Itm.box b2 3 [(.int .i64 x2_0)]], (GLe.refl _), m, rfl, rfl⟩
  ·refine k_false f rfl ac ?_
   refine k_skip ?_
   refine k_seq (k_region ?_)
   refine l_mv f rfl rfl fun a f => l_as f rfl rfl fun a f => l_nil ?_
   refine k_ret ?_
   obtain rfl := sj hd
   exact ⟨[(.int .i64 x0)], ⟨f.get _ _ rfl, trivial⟩, f.defers, _, [Itm.box b1 3 [(.int .i64 x1_0)], Itm.box b2 3 [(.int .i64 x2_0)]], (GLe.refl _), m, rfl, rfl⟩

theorem Wk.slices_insertionSortCmpFunc_int64__slices_Compare_int64_int64 {W w : World} {G : GH} {H : List Itm} {v0 : Value} {it0 : Itm} {x0 : (List (Value × List Int))} {x1 : Int} {x2 : Int} (m : Mem W G w (it0 :: H)) (o0 : Ow (RTg (RI .i64)) 42 G it0 v0 x0) {y : ((List (Value × List Int)))} (hd : D.slices_insertionSortCmpFunc_int64__slices_Compare_int64_int64 x0 x1 x2 = some y) :
  Calls Tryz.prog 154 #[v0, (.int .i64 x1), (.int .i64 x2), (.func (.func 58) #[] #[])] w (Res W G H (fun G' Ho _ => ∃ i0 : Itm, Ho = [i0] ∧ Ow (RTg (RI .i64)) 42 G' i0 v0 y)) := by
 refine calls_b (args := [v0, (.int .i64 x1), (.int .i64 x2), (.func (.func 58) #[] #[])]) (N := 53) [] Tryz.func154 rfl rfl (Nat.le_of_ble_eq_true rfl) rfl fun a f => ?_
 unfold D.slices_insertionSortCmpFunc_int64__slices_Compare_int64_int64 at hd
 refine k_seq (k_region ?_)
 refine l_mv f rfl rfl fun a f => l_in f rfl rfl rfl b_add fun a f => l_as f rfl rfl fun a f => l_nil ?_
 obtain ⟨aa, ab, hd⟩ := bind_some hd
 refine k_cut (fun a w => ∃ ac : List (Value × List Int), ac = aa ∧ ∃ (ad : GH) (ae : Itm), GLe G ad ∧ Fr a 53 [] ∧ Mem W ad w (ae :: H) ∧ Ow (RTg (RI .i64)) 42 ad ae v0 ac) ?_ ?_
 ·refine k_block ?_
  refine k_loop (fun af a w => ∃ ag : List (Value × List Int), ∃ ah : Int, (ag, ah) = af ∧ ∃ (ai : GH) (aj : Itm), GLe G ai ∧ Fr a 53 [(0, v0), (1, (.int .i64 x1)), (2, (.int .i64 x2)), (3, (.func (.func 58) #[] #[])), (8, (.int .i64 ah))] ∧ Mem W ai w (aj :: H) ∧ Ow (RTg (RI .i64)) 42 ai aj v0 ag) ab ⟨_, _, rfl, _, it0, (GLe.refl _), f.weak ⟨rfl, rfl, rfl, rfl, rfl, trivial⟩, m, o0⟩ ?_
  clear ab f m
  rintro af ak al am a w ⟨ag, ah, rfl, ai, aj, an, f, m, ao⟩
  refine k_seq (k_seq (k_region ?_))
  refine l_mv f rfl rfl fun a f => l_mv f rfl rfl fun a f => l_in f rfl rfl rfl b_lss fun a f => l_nil ?_
  rcases cond_some al with ⟨ap, al⟩ | ⟨ap, al⟩
  ·refine k_true f rfl ap ?_
   refine k_skip ?_
   refine k_seq (k_block (k_seq (k_region ?_)))
   refine l_mv f rfl rfl fun a f => l_as f rfl rfl fun a f => l_nil ?_
   obtain ⟨aq, ar, al⟩ := bind_some al
   refine k_cut (fun a w => ∃ au : List (Value × List Int), au = aq ∧ ∃ (av : GH) (aw : Itm), GLe ai av ∧ Fr a 53 [(0, v0), (1, (.int .i64 x1)), (2, (.int .i64 x2)), (3, (.func (.func 58) #[] #[])), (8, (.int .i64 ah))] ∧ Mem W av w (aw :: H) ∧ Ow (RTg (RI .i64)) 42 av aw v0 au) ?_ ?_
   ·refine k_block ?_
    refine k_loop (fun ax a w => ∃ ay : List (Value × List Int), ∃ az : Int, (ay, az) = ax ∧ ∃ (aA : GH) (aB : Itm), GLe ai aA ∧ Fr a 53 [(0, v0), (1, (.int .i64 x1)), (2, (.int .i64 x2)), (3, (.func (.func 58) #[] #[])), (8, (.int .i64 ah)), (9, (.int .i64 az))] ∧ Mem W aA w (aB :: H) ∧ Ow (RTg (RI .i64)) 42 aA aB v0 ay) ar ⟨_, _, rfl, _, aj, (GLe.refl _), f.weak ⟨rfl, rfl, rfl, rfl, rfl, rfl, trivial⟩, m, ao⟩ ?_
    clear ar f m
    rintro ax aC aD aE a w ⟨ay, az, rfl, aA, aB, aF, f, m, aG⟩
    refine k_seq (k_seq ?_)
    refine k_draw 17 Follows (by kernel_rfl) m ?_
    refine q_mv 0 17 rfl (by kernel_rfl) f rfl rfl rfl fun a f => q_mv 1 17 rfl (by kernel_rfl) f rfl rfl rfl fun a f => q_p 2 17 rfl (by kernel_rfl) f rfl rfl rfl (fun _ => r_int (f.eval rfl) (f.eval rfl) b_gtr) fun a f => q_mv 3 17 rfl (by kernel_rfl) f rfl rfl rfl fun a f => ?_
    obtain ⟨aH, aI, aD⟩ := bind_some aD
    refine q_cut (fuel' := 0) (listed' := #[true, true, true, true, true, true, true, true, true, true, true, true, true, true, true, true, true]) (fun a => Fr a 53 [(0, v0), (1, (.int .i64 x1)), (2, (.int .i64 x2)), (3, (.func (.func 58) #[] #[])), (8, (.int .i64 ah)), (9, (.int .i64 az)), (18, (.int .i64 az)), (19, (.int .i64 x1)), (20, (.bool (decide (x1 < az)))), (21, (.bool (decide (x1 < az)))), (34, (.bool aH))]) ?_ ?_
    ·intro a f
     refine q_end fun aJ w aK m => ?_
     have aG := Ow.mono (RTg.mono (RI.mono _)) aK aG
     refine l_nil ?_
     rcases cond_some aD with ⟨aL, aD⟩ | ⟨aL, aD⟩
     ·refine k_true f rfl aL ?_
      refine k_skip ?_
      refine k_seq (k_block ?_)
      refine k_draw0 Follows m ?_
      refine p_p 2 rfl (by kernel_rfl) f rfl rfl rfl (fun _ => r_move (f.eval rfl)) fun a f => p_p 3 rfl (by kernel_rfl) f rfl rfl rfl (fun _ => r_move (f.eval rfl)) fun a f => p_p 4 rfl (by kernel_rfl) f rfl rfl rfl (fun _ => r_int (f.eval rfl) (f.eval rfl) b_sub) fun a f => k_draw1 28015 12 (by kernel_rfl) rfl ?_
      refine q_mv 0 28015 rfl (by kernel_rfl) f rfl rfl rfl fun a f => q_mv 1 28015 rfl (by kernel_rfl) f rfl rfl rfl fun a f => q_mv 5 28015 rfl (by kernel_rfl) f rfl rfl rfl fun a f => q_mv 6 28015 rfl (by kernel_rfl) f rfl rfl rfl fun a f => q_p 7 28015 rfl (by kernel_rfl) f rfl rfl rfl (fun _ => r_int (f.eval rfl) (f.eval rfl) b_sub) fun a f => ?_
      obtain ⟨aM, aN, aD⟩ := bind_some aD
      refine q_own_at (i := 8) 28015 0 m aG rfl T22 aN rfl (by kernel_rfl) rfl f rfl rfl rfl rfl fun aO a aP f => q_own_load (i := 9) 28015 0 aG rfl Pl42 aP aN rfl (by kernel_rfl) rfl f rfl rfl rfl fun aQ a aR f => q_mv 10 28015 rfl (by kernel_rfl) f rfl rfl rfl fun a f => q_mv 11 28015 rfl (by kernel_rfl) f rfl rfl rfl fun a f => ?_
      obtain ⟨aS, aT, aD⟩ := bind_some aD
      refine q_own_at (i := 12) 28015 0 m aG rfl T22 aT rfl (by kernel_rfl) rfl f rfl rfl rfl rfl fun aU a aV f => q_own_load (i := 13) 28015 0 aG rfl Pl42 aV aT rfl (by kernel_rfl) rfl f rfl rfl rfl fun aW a aX f => ?_
      obtain ⟨aY, aZ, aD⟩ := bind_some aD
      refine q_own_at (i := 14) 28015 0 m aG rfl T22 aZ rfl (by kernel_rfl) rfl f rfl rfl rfl rfl fun a0 a a1 f => q_end fun a2 w a3 m => ?_
      have aR := (RTg.mono (RI.mono _)) _ _ _ _ a3 aR
      have aX := (RTg.mono (RI.mono _)) _ _ _ _ a3 aX
      have aG := Ow.mono (RTg.mono (RI.mono _)) a3 aG
      refine l_own_store 0 m aG rfl Tryz.sizeOf42 f rfl rfl a1 aZ aR.cells aR.one1 aR fun a4 w m a5 => ?_
      obtain ⟨a6, a7, aD⟩ := bind_some aD
      refine l_own_at 0 m a5 rfl T22 f rfl rfl rfl a7 fun a8 a a9 f => l_own_store 0 m a5 rfl Tryz.sizeOf42 f rfl rfl a9 a7 aX.cells aX.one1 aX fun ba w m bb => l_nil (k_region ?_)
      refine l_mv f rfl rfl fun a f => l_in f rfl rfl rfl b_sub fun a f => l_as f rfl rfl fun a f => l_nil ?_
      obtain rfl := sj aD
      exact ⟨_, rfl, _, _, rfl, _, ba, (GLe.trans aF (GLe.trans aK a3)), f.weak ⟨rfl, rfl, rfl, rfl, rfl, rfl, trivial⟩, m, bb⟩
     ·refine k_false f rfl aL ?_
      refine k_exit rfl ?_
      obtain rfl := sj aD
      obtain rfl := aE _ rfl
      exact ⟨_, rfl, _, aB, (GLe.trans aF aK), f.weak ⟨rfl, rfl, rfl, rfl, rfl, trivial⟩, m, aG⟩
    ·intro bc
     rcases cond_some aI with ⟨bd, aI⟩ | ⟨bd, aI⟩
     ·refine q_mv 4 17 rfl (by kernel_rfl) f (wanted_of f rfl rfl rfl bd) rfl rfl fun a f => ?_
      refine q_mv 5 17 rfl (by kernel_rfl) f (wanted_of f rfl rfl rfl bd) rfl rfl fun a f => q_mv 6 17 rfl (by kernel_rfl) f (wanted_of f rfl rfl rfl bd) rfl rfl fun a f => ?_
      obtain ⟨be, bf, aI⟩ := bind_some aI
      refine q_own_at (i := 7) 17 0 m aG rfl T22 bf rfl (by kernel_rfl) rfl f (wanted_of f rfl rfl rfl bd) rfl rfl rfl fun bg a bh f => q_own_load (i := 8) 17 0 aG rfl Pl42 bh bf rfl (by kernel_rfl) rfl f (wanted_of f rfl rfl rfl bd) rfl rfl fun bi a bj f => q_mv 9 17 rfl (by kernel_rfl) f (wanted_of f rfl rfl rfl bd) rfl rfl fun a f => q_mv 10 17 rfl (by kernel_rfl) f (wanted_of f rfl rfl rfl bd) rfl rfl fun a f => q_p 11 17 rfl (by kernel_rfl) f (wanted_of f rfl rfl rfl bd) rfl rfl (fun _ => r_int (f.eval rfl) (f.eval rfl) b_sub) fun a f => ?_
      obtain ⟨bk, bl, aI⟩ := bind_some aI
      refine q_own_at (i := 12) 17 0 m aG rfl T22 bl rfl (by kernel_rfl) rfl f (wanted_of f rfl rfl rfl bd) rfl rfl rfl fun bm a bn f => q_own_load (i := 13) 17 0 aG rfl Pl42 bn bl rfl (by kernel_rfl) rfl f (wanted_of f rfl rfl rfl bd) rfl rfl fun bo a bp f => ?_
      obtain ⟨bq, br, aI⟩ := bind_some aI
      refine q_callv (i := 14) 17 rfl (by kernel_rfl) rfl f (wanted_of f rfl rfl rfl bd) rfl rfl rfl Tryz.call58 (fun _ _ w bs m => Wk.slices_Compare_int64_int64 m (rd1 bs (bj.2)) (rd1 bs (bp.2)) br) fun a f => q_p 15 17 rfl (by kernel_rfl) f (wanted_of f rfl rfl rfl bd) rfl rfl (fun _ => r_int (f.eval rfl) (f.eval rfl) b_lss) fun a f => q_p 16 17 rfl (by kernel_rfl) f rfl rfl rfl (fun _ => r_pickT (f.eval rfl) bd (f.eval rfl)) fun a f => ?_
      obtain rfl := sj aI
      exact bc _ (f.weak ⟨rfl, rfl, rfl, rfl, rfl, rfl, rfl, rfl, rfl, rfl, rfl, trivial⟩)
     ·refine q_ng 4 17 rfl (by kernel_rfl) f rfl rfl bd rfl fun a f => ?_
      refine q_ng 5 17 rfl (by kernel_rfl) f rfl rfl bd rfl fun a f => q_ng 6 17 rfl (by kernel_rfl) f rfl rfl bd rfl fun a f => q_ng 7 17 rfl (by kernel_rfl) f rfl rfl bd rfl fun a f => q_ng 8 17 rfl (by kernel_rfl) f rfl rfl bd rfl fun a f => q_ng 9 17 rfl (by kernel_rfl) f rfl rfl bd rfl fun a f => q_ng 10 17 rfl (by kernel_rfl) f rfl rfl bd rfl fun a f => q_ng 11 17 rfl (by kernel_rfl) f rfl rfl bd rfl fun a f => q_ng 12 17 rfl (by kernel_rfl) f rfl rfl bd rfl fun a f => q_ng 13 17 rfl (by kernel_rfl) f rfl rfl bd rfl fun a f => q_ng 14 17 rfl (by kernel_rfl) f rfl rfl bd rfl fun a f => q_ng 15 17 rfl (by kernel_rfl) f rfl rfl bd rfl fun a f => q_p 16 17 rfl (by kernel_rfl) f rfl rfl rfl (fun _ => r_pickF (f.eval rfl) bd (f.eval rfl)) fun a f => ?_
      obtain rfl := sj aI
      exact bc _ (f.weak ⟨rfl, rfl, rfl, rfl, rfl, rfl, rfl, rfl, rfl, rfl, rfl, trivial⟩)
   ·rintro a w ⟨au, rfl, av, aw, bt, f, m, bu⟩
    refine k_region ?_
    refine l_mv f rfl rfl fun a f => l_in f rfl rfl rfl b_add fun a f => l_as f rfl rfl fun a f => l_nil ?_
    obtain rfl := sj al
    exact ⟨_, rfl, _, _, rfl, _, aw, (GLe.trans an bt), f.weak ⟨rfl, rfl, rfl, rfl, rfl, trivial⟩, m, bu⟩
  ·refine k_false f rfl ap ?_
   refine k_exit rfl ?_
   obtain rfl := sj al
   obtain rfl := am _ rfl
   exact ⟨_, rfl, _, aj, an, f.weak trivial, m, ao⟩
 ·rintro a w ⟨ac, rfl, ad, ae, bv, f, m, bw⟩
  obtain rfl := sj hd
  exact ⟨[], trivial, f.defers, _, [ae], bv, m, _, rfl, bw⟩

theorem Wk.slices_siftDownCmpFunc_int64__slices_Compare_int64_int64 {W w : World} {G : GH} {H : List Itm} {v0 : Value} {it0 : Itm} {x0 : (List (Value × List Int))} {x1 : Int} {x2 : Int} {x3 : Int} (m : Mem W G w (it0 :: H)) (o0 : Ow (RTg (RI .i64)) 42 G it0 v0 x0) {y : ((List (Value × List Int)))} (hd : D.slices_siftDownCmpFunc_int64__slices_Compare_int64_int64 x0 x1 x2 x3 = some y) :
  Calls Tryz.prog 189 #[v0, (.int .i64 x1), (.int .i64 x2), (.int .i64 x3), (.func (.func 58) #[] #[])] w (Res W G H (fun G' Ho _ => ∃ i0 : Itm, Ho = [i0] ∧ Ow (RTg (RI .i64)) 42 G' i0 v0 y)) := by
 refine calls_b (args := [v0, (.int .i64 x1), (.int .i64 x2), (.int .i64 x3), (.func (.func 58) #[] #[])]) (N := 82) [] Tryz.func189 rfl rfl (Nat.le_of_ble_eq_true rfl) rfl fun a f => ?_
 unfold D.slices_siftDownCmpFunc_int64__slices_Compare_int64_int64 at hd
 refine k_seq (k_region ?_)
 refine l_mv f rfl rfl fun a f => l_as f rfl rfl fun a f => l_nil ?_
 obtain ⟨aa, ab, hd⟩ := bind_some hd
 refine k_cut (fun a w => ∃ q_182' : (List (Value × List Int)), aa = .inl q_182' ∧ ∃ ac : List (Value × List Int), ac = q_182' ∧ ∃ (ad : GH) (ae : Itm), GLe G ad ∧ Fr a 82 [] ∧ Mem W ad w (ae :: H) ∧ Ow (RTg (RI .i64)) 42 ad ae v0 ac) ?_ ?_
 ·refine k_block ?_
  refine k_loop (fun af a w => ∃ ag : List (Value × List Int), ∃ ah : Int, (ag, ah) = af ∧ ∃ (ai : GH) (aj : Itm), GLe G ai ∧ Fr a 82 [(0, v0), (2, (.int .i64 x2)), (3, (.int .i64 x3)), (4, (.func (.func 58) #[] #[])), (10, (.int .i64 ah))] ∧ Mem W ai w (aj :: H) ∧ Ow (RTg (RI .i64)) 42 ai aj v0 ag) ab ⟨_, _, rfl, _, it0, (GLe.refl _), f.weak ⟨rfl, rfl, rfl, rfl, rfl, trivial⟩, m, o0⟩ ?_
  clear ab f m
  rintro af ak al am a w ⟨ag, ah, rfl, ai, aj, an, f, m, ao⟩
  refine k_block (k_seq (k_region ?_))
  refine l_mv f rfl rfl fun a f => l_in f rfl rfl rfl b_mul fun a f => l_in f rfl rfl rfl b_add fun a f => l_as f rfl rfl fun a f => l_nil (k_seq (k_seq (k_region ?_)))
  refine l_mv f rfl rfl fun a f => l_mv f rfl rfl fun a f => l_in f rfl rfl rfl b_geq fun a f => l_nil ?_
  rcases cond_some al with ⟨ap, al⟩ | ⟨ap, al⟩
  ·refine k_true f rfl ap ?_
   refine k_exit rfl ?_
   obtain rfl := sj al
   obtain rfl := am _ rfl
   exact ⟨_, rfl, _, rfl, _, aj, an, f.weak trivial, m, ao⟩
  ·refine k_false f rfl ap ?_
   refine k_skip ?_
   refine k_seq (k_seq ?_)
   refine k_draw 22 Follows (by kernel_rfl) m ?_
   refine q_mv 0 22 rfl (by kernel_rfl) f rfl rfl rfl fun a f => q_p 1 22 rfl (by kernel_rfl) f rfl rfl rfl (fun _ => r_int (f.eval rfl) (f.eval rfl) b_add) fun a f => q_mv 2 22 rfl (by kernel_rfl) f rfl rfl rfl fun a f => q_p 3 22 rfl (by kernel_rfl) f rfl rfl rfl (fun _ => r_int (f.eval rfl) (f.eval rfl) b_lss) fun a f => q_mv 4 22 rfl (by kernel_rfl) f rfl rfl rfl fun a f => ?_
   obtain ⟨aq, ar, al⟩ := bind_some al
   refine q_cut (fuel' := 0) (listed' := #[true, true, true, true, true, true, true, true, true, true, true, true, true, true, true, true, true, true, true, true, true, true]) (fun a => Fr a 82 [(0, v0), (2, (.int .i64 x2)), (3, (.int .i64 x3)), (4, (.func (.func 58) #[] #[])), (10, (.int .i64 ah)), (11, (.int .i64 (IntKind.i64.wrap ((IntKind.i64.wrap (2 * ah)) + 1)))), (18, (.bool (decide (x2 ≤ (IntKind.i64.wrap ((IntKind.i64.wrap (2 * ah)) + 1)))))), (19, (.int .i64 (IntKind.i64.wrap ((IntKind.i64.wrap (2 * ah)) + 1)))), (20, (.int .i64 (IntKind.i64.wrap ((IntKind.i64.wrap ((IntKind.i64.wrap (2 * ah)) + 1)) + 1)))), (21, (.int .i64 x2)), (22, (.bool (decide ((IntKind.i64.wrap ((IntKind.i64.wrap ((IntKind.i64.wrap (2 * ah)) + 1)) + 1)) < x2)))), (23, (.bool (decide ((IntKind.i64.wrap ((IntKind.i64.wrap ((IntKind.i64.wrap (2 * ah)) + 1)) + 1)) < x2)))), (40, (.bool aq))]) ?_ ?_
   ·intro a f
    refine q_end fun au w av m => ?_
    have ao := Ow.mono (RTg.mono (RI.mono _)) av ao
    refine l_nil ?_
    obtain ⟨aw, ax, al⟩ := bind_some al
    refine k_cut (fun a w => ∃ ay : Int, ay = aw ∧ ∃ (az : GH), GLe au az ∧ Fr a 82 [(0, v0), (2, (.int .i64 x2)), (3, (.int .i64 x3)), (4, (.func (.func 58) #[] #[])), (10, (.int .i64 ah)), (11, (.int .i64 ay))] ∧ Mem W az w (aj :: H)) ?_ ?_
    ·rcases cond_some ax with ⟨aA, ax⟩ | ⟨aA, ax⟩
     ·refine k_true f rfl aA ?_
      refine k_region ?_
      refine l_mv f rfl rfl fun a f => l_in f rfl rfl rfl b_add fun a f => l_as f rfl rfl fun a f => l_nil ?_
      obtain rfl := sj ax
      exact ⟨_, rfl, _, (GLe.refl _), f.weak ⟨rfl, rfl, rfl, rfl, rfl, rfl, trivial⟩, m⟩
     ·refine k_false f rfl aA ?_
      refine k_skip ?_
      obtain rfl := sj ax
      exact ⟨_, rfl, _, (GLe.refl _), f.weak ⟨rfl, rfl, rfl, rfl, rfl, rfl, trivial⟩, m⟩
    ·rintro a w ⟨ay, rfl, az, aB, f, m⟩
     have ao := Ow.mono (RTg.mono (RI.mono _)) aB ao
     refine k_seq (k_seq ?_)
     refine k_draw 16 Follows (by kernel_rfl) m ?_
     refine q_mv 0 16 rfl (by kernel_rfl) f rfl rfl rfl fun a f => q_mv 1 16 rfl (by kernel_rfl) f rfl rfl rfl fun a f => q_mv 2 16 rfl (by kernel_rfl) f rfl rfl rfl fun a f => q_mv 3 16 rfl (by kernel_rfl) f rfl rfl rfl fun a f => q_p 4 16 rfl (by kernel_rfl) f rfl rfl rfl (fun _ => r_int (f.eval rfl) (f.eval rfl) b_add) fun a f => ?_
     obtain ⟨aC, aD, al⟩ := bind_some al
     refine q_own_at (i := 5) 16 0 m ao rfl T22 aD rfl (by kernel_rfl) rfl f rfl rfl rfl rfl fun aE a aF f => q_own_load (i := 6) 16 0 ao rfl Pl42 aF aD rfl (by kernel_rfl) rfl f rfl rfl rfl fun aG a aH f => q_mv 7 16 rfl (by kernel_rfl) f rfl rfl rfl fun a f => q_mv 8 16 rfl (by kernel_rfl) f rfl rfl rfl fun a f => q_mv 9 16 rfl (by kernel_rfl) f rfl rfl rfl fun a f => q_p 10 16 rfl (by kernel_rfl) f rfl rfl rfl (fun _ => r_int (f.eval rfl) (f.eval rfl) b_add) fun a f => ?_
     obtain ⟨aI, aJ, al⟩ := bind_some al
     refine q_own_at (i := 11) 16 0 m ao rfl T22 aJ rfl (by kernel_rfl) rfl f rfl rfl rfl rfl fun aK a aL f => q_own_load (i := 12) 16 0 ao rfl Pl42 aL aJ rfl (by kernel_rfl) rfl f rfl rfl rfl fun aM a aN f => ?_
     obtain ⟨aO, aP, al⟩ := bind_some al
     refine q_callv (i := 13) 16 rfl (by kernel_rfl) rfl f rfl rfl rfl rfl Tryz.call58 (fun _ _ w aQ m => Wk.slices_Compare_int64_int64 m (rd1 aQ (aH.2)) (rd1 aQ (aN.2)) aP) fun a f => q_p 14 16 rfl (by kernel_rfl) f rfl rfl rfl (fun _ => r_int (f.eval rfl) (f.eval rfl) b_lss) fun a f => q_p 15 16 rfl (by kernel_rfl) f rfl rfl rfl (fun _ => r_not (f.eval rfl)) fun a f => q_end fun aR w aS m => ?_
     have aH := (RTg.mono (RI.mono _)) _ _ _ _ aS aH
     have aN := (RTg.mono (RI.mono _)) _ _ _ _ aS aN
     have ao := Ow.mono (RTg.mono (RI.mono _)) aS ao
     refine l_nil ?_
     rcases cond_some al with ⟨aT, al⟩ | ⟨aT, al⟩
     ·refine k_true f rfl aT ?_
      refine k_ret ?_
      obtain rfl := sj al
      obtain rfl := am _ rfl
      obtain rfl := sj hd
      exact ⟨[], trivial, f.defers, _, [aj], (GLe.trans an (GLe.trans av (GLe.trans aB aS))), m, _, rfl, ao⟩
     ·refine k_false f rfl aT ?_
      refine k_skip ?_
      refine k_seq ?_
      refine k_draw0 Follows m ?_
      refine p_p 4 rfl (by kernel_rfl) f rfl rfl rfl (fun _ => r_move (f.eval rfl)) fun a f => p_p 5 rfl (by kernel_rfl) f rfl rfl rfl (fun _ => r_move (f.eval rfl)) fun a f => p_p 6 rfl (by kernel_rfl) f rfl rfl rfl (fun _ => r_move (f.eval rfl)) fun a f => p_p 7 rfl (by kernel_rfl) f rfl rfl rfl (fun _ => r_int (f.eval rfl) (f.eval rfl) b_add) fun a f => k_draw1 240021 17 (by kernel_rfl) rfl ?_
      refine q_mv 0 240021 rfl (by kernel_rfl) f rfl rfl rfl fun a f => q_mv 1 240021 rfl (by kernel_rfl) f rfl rfl rfl fun a f => q_mv 2 240021 rfl (by kernel_rfl) f rfl rfl rfl fun a f => q_p 3 240021 rfl (by kernel_rfl) f rfl rfl rfl (fun _ => r_int (f.eval rfl) (f.eval rfl) b_add) fun a f => q_mv 8 240021 rfl (by kernel_rfl) f rfl rfl rfl fun a f => q_mv 9 240021 rfl (by kernel_rfl) f rfl rfl rfl fun a f => q_mv 10 240021 rfl (by kernel_rfl) f rfl rfl rfl fun a f => q_p 11 240021 rfl (by kernel_rfl) f rfl rfl rfl (fun _ => r_int (f.eval rfl) (f.eval rfl) b_add) fun a f => ?_
      obtain ⟨aU, aV, al⟩ := bind_some al
      refine q_own_at (i := 12) 240021 0 m ao rfl T22 aV rfl (by kernel_rfl) rfl f rfl rfl rfl rfl fun aW a aX f => q_own_load (i := 13) 240021 0 ao rfl Pl42 aX aV rfl (by kernel_rfl) rfl f rfl rfl rfl fun aY a aZ f => q_mv 14 240021 rfl (by kernel_rfl) f rfl rfl rfl fun a f => q_mv 15 240021 rfl (by kernel_rfl) f rfl rfl rfl fun a f => q_mv 16 240021 rfl (by kernel_rfl) f rfl rfl rfl fun a f => q_p 17 240021 rfl (by kernel_rfl) f rfl rfl rfl (fun _ => r_int (f.eval rfl) (f.eval rfl) b_add) fun a f => ?_
      obtain ⟨a0, a1, al⟩ := bind_some al
      refine q_own_at (i := 18) 240021 0 m ao rfl T22 a1 rfl (by kernel_rfl) rfl f rfl rfl rfl rfl fun a2 a a3 f => q_own_load (i := 19) 240021 0 ao rfl Pl42 a3 a1 rfl (by kernel_rfl) rfl f rfl rfl rfl fun a4 a a5 f => ?_
      obtain ⟨a6, a7, al⟩ := bind_some al
      refine q_own_at (i := 20) 240021 0 m ao rfl T22 a7 rfl (by kernel_rfl) rfl f rfl rfl rfl rfl fun a8 a a9 f => q_end fun ba w bb m => ?_
      have aZ := (RTg.mono (RI.mono _)) _ _ _ _ bb aZ
      have a5 := (RTg.mono (RI.mono _)) _ _ _ _ bb a5
      have ao := Ow.mono (RTg.mono (RI.mono _)) bb ao
      refine l_own_store 0 m ao rfl Tryz.sizeOf42 f rfl rfl a9 a7 aZ.cells aZ.one1 aZ fun bc w m bd => ?_
      obtain ⟨be, bf, al⟩ := bind_some al
      refine l_own_at 0 m bd rfl T22 f rfl rfl rfl bf fun bg a bh f => l_own_store 0 m bd rfl Tryz.sizeOf42 f rfl rfl bh bf a5.cells a5.one1 a5 fun bi w m bj => l_nil (k_region ?_)
      refine l_mv f rfl rfl fun a f => l_as f rfl rfl fun a f => l_nil ?_
      obtain rfl := sj al
      exact ⟨_, rfl, _, _, rfl, _, bi, (GLe.trans an (GLe.trans av (GLe.trans aB (GLe.trans aS bb)))), f.weak ⟨rfl, rfl, rfl, rfl, rfl, trivial⟩, m, bj⟩
   ·intro bk
    rcases cond_some ar with ⟨bl, ar⟩ | ⟨bl, ar⟩
    ·refine q_mv 5 22 rfl (by kernel_rfl) f (wanted_of f rfl rfl rfl bl) rfl rfl fun a f => ?_
     refine q_mv 6 22 rfl (by kernel_rfl) f (wanted_of f rfl rfl rfl bl) rfl rfl fun a f => q_mv 7 22 rfl (by kernel_rfl) f (wanted_of f rfl rfl rfl bl) rfl rfl fun a f => q_mv 8 22 rfl (by kernel_rfl) f (wanted_of f rfl rfl rfl bl) rfl rfl fun a f => q_p 9 22 rfl (by kernel_rfl) f (wanted_of f rfl rfl rfl bl) rfl rfl (fun _ => r_int (f.eval rfl) (f.eval rfl) b_add) fun a f => ?_
     obtain ⟨bm, bn, ar⟩ := bind_some ar
     refine q_own_at (i := 10) 22 0 m ao rfl T22 bn rfl (by kernel_rfl) rfl f (wanted_of f rfl rfl rfl bl) rfl rfl rfl fun bo a bp f => q_own_load (i := 11) 22 0 ao rfl Pl42 bp bn rfl (by kernel_rfl) rfl f (wanted_of f rfl rfl rfl bl) rfl rfl fun bq a br f => q_mv 12 22 rfl (by kernel_rfl) f (wanted_of f rfl rfl rfl bl) rfl rfl fun a f => q_mv 13 22 rfl (by kernel_rfl) f (wanted_of f rfl rfl rfl bl) rfl rfl fun a f => q_mv 14 22 rfl (by kernel_rfl) f (wanted_of f rfl rfl rfl bl) rfl rfl fun a f => q_p 15 22 rfl (by kernel_rfl) f (wanted_of f rfl rfl rfl bl) rfl rfl (fun _ => r_int (f.eval rfl) (f.eval rfl) b_add) fun a f => q_p 16 22 rfl (by kernel_rfl) f (wanted_of f rfl rfl rfl bl) rfl rfl (fun _ => r_int (f.eval rfl) (f.eval rfl) b_add) fun a f => ?_
     obtain ⟨bs, bt, ar⟩ := bind_some ar
     refine q_own_at (i := 17) 22 0 m ao rfl T22 bt rfl (by kernel_rfl) rfl f (wanted_of f rfl rfl rfl bl) rfl rfl rfl fun bu a bv f => q_own_load (i := 18) 22 0 ao rfl Pl42 bv bt rfl (by kernel_rfl) rfl f (wanted_of f rfl rfl rfl bl) rfl rfl fun bw a bx f => ?_
     obtain ⟨bz, bA, ar⟩ := bind_some ar
     refine q_callv (i := 19) 22 rfl (by kernel_rfl) rfl f (wanted_of f rfl rfl rfl bl) rfl rfl rfl Tryz.call58 (fun _ _ w bB m => Wk.slices_Compare_int64_int64 m (rd1 bB (br.2)) (rd1 bB (bx.2)) bA) fun a f => q_p 20 22 rfl (by kernel_rfl) f (wanted_of f rfl rfl rfl bl) rfl rfl (fun _ => r_int (f.eval rfl) (f.eval rfl) b_lss) fun a f => q_p 21 22 rfl (by kernel_rfl) f rfl rfl rfl (fun _ => r_pickT (f.eval rfl) bl (f.eval rfl)) fun a f => ?_
     obtain rfl := sj ar
     exact bk _ (f.weak ⟨rfl, rfl, rfl, rfl, rfl, rfl, rfl, rfl, rfl, rfl, rfl, rfl, rfl, trivial⟩)
    ·refine q_ng 5 22 rfl (by kernel_rfl) f rfl rfl bl rfl fun a f => ?_
     refine q_ng 6 22 rfl (by kernel_rfl) f rfl rfl bl rfl fun a f => q_ng 7 22 rfl (by kernel_rfl) f rfl rfl bl rfl fun a f => q_ng 8 22 rfl (by kernel_rfl) f rfl rfl bl rfl fun a f => q_ng 9 22 rfl (by kernel_rfl) f rfl rfl bl rfl fun a f => q_ng 10 22 rfl (by kernel_rfl) f rfl rfl bl rfl fun a f => q_ng 11 22 rfl (by kernel_rfl) f rfl rfl bl rfl fun a f => q_ng 12 22 rfl (by kernel_rfl) f rfl rfl bl rfl fun a f => q_ng 13 22 rfl (by kernel_rfl) f rfl rfl bl rfl fun a f => q_ng 14 22 rfl (by kernel_rfl) f rfl rfl bl rfl fun a f => q_ng 15 22 rfl (by kernel_rfl) f rfl rfl bl rfl fun a f => q_ng 16 22 rfl (by kernel_rfl) f rfl rfl bl rfl fun a f => q_ng 17 22 rfl (by kernel_rfl) f rfl rfl bl rfl fun a f => q_ng 18 22 rfl (by kernel_rfl) f rfl rfl bl rfl fun a f => q_ng 19 22 rfl (by kernel_rfl) f rfl rfl bl rfl fun a f => q_ng 20 22 rfl (by kernel_rfl) f rfl rfl bl rfl fun a f => ?_
     refine q_p 21 22 rfl (by kernel_rfl) f rfl rfl rfl (fun _ => r_pickF (f.eval rfl) bl (f.eval rfl)) fun a f => ?_
     obtain rfl := sj ar
     exact bk _ (f.weak ⟨rfl, rfl, rfl, rfl, rfl, rfl, rfl, rfl, rfl, rfl, rfl, rfl, rfl, trivial⟩)
 ·rintro a w ⟨_, rfl, ac, rfl, ad, ae, bC, f, m, bD⟩
  obtain rfl := sj hd
  exact ⟨[], trivial, f.defers, _, [ae], bC, m, _, rfl, bD⟩

theorem Wk.slices_heapSortCmpFunc_int64__slices_Compare_int64_int64 {W w : World} {G : GH} {H : List Itm} {v0 : Value} {it0 : Itm} {x0 : (List (Value × List Int))} {x1 : Int} {x2 : Int} (m : Mem W G w (it0 :: H)) (o0 : Ow (RTg (RI .i64)) 42 G it0 v0 x0) {y : ((List (Value × List Int)))} (hd : D.slices_heapSortCmpFunc_int64__slices_Compare_int64_int64 x0 x1 x2 = some y) :
  Calls Tryz.prog 155 #[v0, (.int .i64 x1), (.int .i64 x2), (.func (.func 58) #[] #[])] w (Res W G H (fun G' Ho _ => ∃ i0 : Itm, Ho = [i0] ∧ Ow (RTg (RI .i64)) 42 G' i0 v0 y)) := by
 refine calls_b (args := [v0, (.int .i64 x1), (.int .i64 x2), (.func (.func 58) #[] #[])]) (N := 60) [] Tryz.func155 rfl rfl (Nat.le_of_ble_eq_true rfl) rfl fun a f => ?_
 unfold D.slices_heapSortCmpFunc_int64__slices_Compare_int64_int64 at hd
 refine k_seq (k_region ?_)
 refine l_mv f rfl rfl fun a f => l_as f rfl rfl fun a f => l_nil (k_seq (k_region ?_))
 refine l_as f rfl rfl fun a f => l_nil (k_seq (k_region ?_))
 refine l_mv f rfl rfl fun a f => l_mv f rfl rfl fun a f => l_in f rfl rfl rfl b_sub fun a f => l_as f rfl rfl fun a f => l_nil (k_seq (k_seq (k_region ?_)))
 refine l_mv f rfl rfl fun a f => l_in f rfl rfl rfl b_sub fun a f => l_in f rfl rfl rfl (b_quo rfl) fun a f => l_as f rfl rfl fun a f => l_nil ?_
 obtain ⟨aa, ab, hd⟩ := bind_some hd
 refine k_cut (fun a w => ∃ ac : List (Value × List Int), ac = aa ∧ ∃ (ad : GH) (ae : Itm), GLe G ad ∧ Fr a 60 [(0, v0), (3, (.func (.func 58) #[] #[])), (8, (.int .i64 x1)), (9, (.int .i64 0)), (10, (.int .i64 (IntKind.i64.wrap (x2 - x1))))] ∧ Mem W ad w (ae :: H) ∧ Ow (RTg (RI .i64)) 42 ad ae v0 ac) ?_ ?_
 ·refine k_block ?_
  refine k_loop (fun af a w => ∃ ag : List (Value × List Int), ∃ ah : Int, (ag, ah) = af ∧ ∃ (ai : GH) (aj : Itm), GLe G ai ∧ Fr a 60 [(0, v0), (3, (.func (.func 58) #[] #[])), (8, (.int .i64 x1)), (9, (.int .i64 0)), (10, (.int .i64 (IntKind.i64.wrap (x2 - x1)))), (11, (.int .i64 ah))] ∧ Mem W ai w (aj :: H) ∧ Ow (RTg (RI .i64)) 42 ai aj v0 ag) ab ⟨_, _, rfl, _, it0, (GLe.refl _), f.weak ⟨rfl, rfl, rfl, rfl, rfl, rfl, trivial⟩, m, o0⟩ ?_
  clear ab f m
  rintro af ak al am a w ⟨ag, ah, rfl, ai, aj, an, f, m, ao⟩
  refine k_seq (k_seq (k_region ?_))
  refine l_mv f rfl rfl fun a f => l_in f rfl rfl rfl b_geq fun a f => l_nil ?_
  rcases cond_some al with ⟨ap, al⟩ | ⟨ap, al⟩
  ·refine k_true f rfl ap ?_
   refine k_skip ?_
   refine k_seq (k_block (k_region ?_))
   refine l_mv f rfl rfl fun a f => l_mv f rfl rfl fun a f => l_mv f rfl rfl fun a f => l_mv f rfl rfl fun a f => l_mv f rfl rfl fun a f => ?_
   obtain ⟨aq, ar, al⟩ := bind_some al
   refine l_res f rfl rfl Tryz.call189 (Wk.slices_siftDownCmpFunc_int64__slices_Compare_int64_int64 m ao ar) fun au av aw w ax m ay a f => ?_
   obtain ⟨az, rfl, aA⟩ := ay
   refine l_nil (k_region ?_)
   refine l_mv f rfl rfl fun a f => l_in f rfl rfl rfl b_sub fun a f => l_as f rfl rfl fun a f => l_nil ?_
   obtain rfl := sj al
   exact ⟨_, rfl, _, _, rfl, _, az, (GLe.trans an ax), f.weak ⟨rfl, rfl, rfl, rfl, rfl, rfl, trivial⟩, m, aA⟩
  ·refine k_false f rfl ap ?_
   refine k_exit rfl ?_
   obtain rfl := sj al
   obtain rfl := am _ rfl
   exact ⟨_, rfl, _, aj, an, f.weak ⟨rfl, rfl, rfl, rfl, rfl, trivial⟩, m, ao⟩
 ·rintro a w ⟨ac, rfl, ad, ae, aB, f, m, aC⟩
  refine k_seq (k_region ?_)
  refine l_mv f rfl rfl fun a f => l_in f rfl rfl rfl b_sub fun a f => l_as f rfl rfl fun a f => l_nil ?_
  obtain ⟨aD, aE, hd⟩ := bind_some hd
  refine k_cut (fun a w => ∃ aF : List (Value × List Int), aF = aD ∧ ∃ (aG : GH) (aH : Itm), GLe ad aG ∧ Fr a 60 [] ∧ Mem W aG w (aH :: H) ∧ Ow (RTg (RI .i64)) 42 aG aH v0 aF) ?_ ?_
  ·refine k_block ?_
   refine k_loop (fun aI a w => ∃ aJ : List (Value × List Int), ∃ aK : Int, (aJ, aK) = aI ∧ ∃ (aL : GH) (aM : Itm), GLe ad aL ∧ Fr a 60 [(0, v0), (3, (.func (.func 58) #[] #[])), (8, (.int .i64 x1)), (9, (.int .i64 0)), (12, (.int .i64 aK))] ∧ Mem W aL w (aM :: H) ∧ Ow (RTg (RI .i64)) 42 aL aM v0 aJ) aE ⟨_, _, rfl, _, ae, (GLe.refl _), f.weak ⟨rfl, rfl, rfl, rfl, rfl, trivial⟩, m, aC⟩ ?_
   clear aE f m
   rintro aI aN aO aP a w ⟨aJ, aK, rfl, aL, aM, aQ, f, m, aR⟩
   refine k_seq (k_seq (k_region ?_))
   refine l_mv f rfl rfl fun a f => l_in f rfl rfl rfl b_geq fun a f => l_nil ?_
   rcases cond_some aO with ⟨aS, aO⟩ | ⟨aS, aO⟩
   ·refine k_true f rfl aS ?_
    refine k_skip ?_
    refine k_seq (k_block (k_seq ?_))
    refine k_draw0 Follows m ?_
    refine p_p 2 rfl (by kernel_rfl) f rfl rfl rfl (fun _ => r_move (f.eval rfl)) fun a f => p_p 3 rfl (by kernel_rfl) f rfl rfl rfl (fun _ => r_move (f.eval rfl)) fun a f => p_p 4 rfl (by kernel_rfl) f rfl rfl rfl (fun _ => r_move (f.eval rfl)) fun a f => p_p 5 rfl (by kernel_rfl) f rfl rfl rfl (fun _ => r_int (f.eval rfl) (f.eval rfl) b_add) fun a f => k_draw1 60017 13 (by kernel_rfl) rfl ?_
    refine q_mv 0 60017 rfl (by kernel_rfl) f rfl rfl rfl fun a f => q_mv 1 60017 rfl (by kernel_rfl) f rfl rfl rfl fun a f => q_mv 6 60017 rfl (by kernel_rfl) f rfl rfl rfl fun a f => q_mv 7 60017 rfl (by kernel_rfl) f rfl rfl rfl fun a f => q_mv 8 60017 rfl (by kernel_rfl) f rfl rfl rfl fun a f => q_p 9 60017 rfl (by kernel_rfl) f rfl rfl rfl (fun _ => r_int (f.eval rfl) (f.eval rfl) b_add) fun a f => ?_
    obtain ⟨aT, aU, aO⟩ := bind_some aO
    refine q_own_at (i := 10) 60017 0 m aR rfl T22 aU rfl (by kernel_rfl) rfl f rfl rfl rfl rfl fun aV a aW f => q_own_load (i := 11) 60017 0 aR rfl Pl42 aW aU rfl (by kernel_rfl) rfl f rfl rfl rfl fun aX a aY f => q_mv 12 60017 rfl (by kernel_rfl) f rfl rfl rfl fun a f => q_mv 13 60017 rfl (by kernel_rfl) f rfl rfl rfl fun a f => ?_
    obtain ⟨aZ, a0, aO⟩ := bind_some aO
    refine q_own_at (i := 14) 60017 0 m aR rfl T22 a0 rfl (by kernel_rfl) rfl f rfl rfl rfl rfl fun a1 a a2 f => q_own_load (i := 15) 60017 0 aR rfl Pl42 a2 a0 rfl (by kernel_rfl) rfl f rfl rfl rfl fun a3 a a4 f => ?_
    obtain ⟨a5, a6, aO⟩ := bind_some aO
    refine q_own_at (i := 16) 60017 0 m aR rfl T22 a6 rfl (by kernel_rfl) rfl f rfl rfl rfl rfl fun a7 a a8 f => q_end fun a9 w ba m => ?_
    have aY := (RTg.mono (RI.mono _)) _ _ _ _ ba aY
    have a4 := (RTg.mono (RI.mono _)) _ _ _ _ ba a4
    have aR := Ow.mono (RTg.mono (RI.mono _)) ba aR
    refine l_own_store 0 m aR rfl Tryz.sizeOf42 f rfl rfl a8 a6 aY.cells aY.one1 aY fun bb w m bc => ?_
    obtain ⟨bd, be, aO⟩ := bind_some aO
    refine l_own_at 0 m bc rfl T22 f rfl rfl rfl be fun bf a bg f => l_own_store 0 m bc rfl Tryz.sizeOf42 f rfl rfl bg be a4.cells a4.one1 a4 fun bh w m bi => l_nil (k_region ?_)
    refine l_mv f rfl rfl fun a f => l_mv f rfl rfl fun a f => l_mv f rfl rfl fun a f => l_mv f rfl rfl fun a f => l_mv f rfl rfl fun a f => ?_
    obtain ⟨bj, bk, aO⟩ := bind_some aO
    refine l_res f rfl rfl Tryz.call189 (Wk.slices_siftDownCmpFunc_int64__slices_Compare_int64_int64 m bi bk) fun bl bm bn w bo m bp a f => ?_
    obtain ⟨bq, rfl, br⟩ := bp
    refine l_nil (k_region ?_)
    refine l_mv f rfl rfl fun a f => l_in f rfl rfl rfl b_sub fun a f => l_as f rfl rfl fun a f => l_nil ?_
    obtain rfl := sj aO
    exact ⟨_, rfl, _, _, rfl, _, bq, (GLe.trans aQ (GLe.trans ba bo)), f.weak ⟨rfl, rfl, rfl, rfl, rfl, trivial⟩, m, br⟩
   ·refine k_false f rfl aS ?_
    refine k_exit rfl ?_
    obtain rfl := sj aO
    obtain rfl := aP _ rfl
    exact ⟨_, rfl, _, aM, aQ, f.weak trivial, m, aR⟩
  ·rintro a w ⟨aF, rfl, aG, aH, bs, f, m, bt⟩
   obtain rfl := sj hd
   exact ⟨[], trivial, f.defers, _, [aH], (GLe.trans aB bs), m, _, rfl, bt⟩

theorem Wk.slices_breakPatternsCmpFunc_int64__slices_Compare_int64_int64 {W w : World} {G : GH} {H : List Itm} {v0 : Value} {it0 : Itm} {x0 : (List (Value × List Int))} {x1 : Int} {x2 : Int} (m : Mem W G w (it0 :: H)) (o0 : Ow (RTg (RI .i64)) 42 G it0 v0 x0) {y : ((List (Value × List Int)))} (hd : D.slices_breakPatternsCmpFunc_int64__slices_Compare_int64_int64 x0 x1 x2 = some y) :
  Calls Tryz.prog 156 #[v0, (.int .i64 x1), (.int .i64 x2), (.func (.func 58) #[] #[])] w (Res W G H (fun G' Ho _ => ∃ i0 : Itm, Ho = [i0] ∧ Ow (RTg (RI .i64)) 42 G' i0 v0 y)) := by
 refine calls_b (args := [v0, (.int .i64 x1), (.int .i64 x2), (.func (.func 58) #[] #[])]) (N := 67) [] Tryz.func156 rfl rfl (Nat.le_of_ble_eq_true rfl) rfl fun a f => ?_
 unfold D.slices_breakPatternsCmpFunc_int64__slices_Compare_int64_int64 at hd
 refine k_seq (k_region ?_)
 refine l_mv f rfl rfl fun a f => l_mv f rfl rfl fun a f => l_in f rfl rfl rfl b_sub fun a f => l_as f rfl rfl fun a f => l_nil (k_seq (k_region ?_))
 refine l_mv f rfl rfl fun a f => l_in f rfl rfl rfl b_geq fun a f => l_nil ?_
 rcases cond_some hd with ⟨aa, hd⟩ | ⟨aa, hd⟩
 ·refine k_true f rfl aa ?_
  refine k_seq (k_region ?_)
  refine l_mv f rfl rfl fun a f => l_op f rfl rfl rfl (r_conv (f.eval rfl) ⟨_, Tryz.underlying3⟩ Tryz.underlying190) fun a f => l_alloc (cs := [(.int .u64 0)]) Tryz.zeroValue190 m f rfl rfl fun ab w a m f => l_boxStore 0 0 (ds := [(.int .u64 (IntKind.u64.wrap (IntKind.i64.wrap (x2 - x1))))]) m Tryz.sizeOf190 f rfl rfl rfl (ones_cons rfl ones_nil) rfl (Nat.le_of_ble_eq_true rfl) rfl fun w m => l_nil (k_seq (k_region ?_))
  refine l_mv f rfl rfl fun a f => ?_
  obtain ⟨ac, ad, hd⟩ := bind_some hd
  refine l_res f rfl rfl Tryz.call190 (Wk.slices_nextPowerOfTwo m  ad) fun ae af ag w ah m ai a f => ?_
  obtain ⟨rfl, rfl⟩ := ai
  have o0 := Ow.mono (RTg.mono (RI.mono _)) ah o0
  refine l_as f rfl rfl fun a f => l_nil (k_seq (k_region ?_))
  refine l_mv f rfl rfl fun a f => l_mv f rfl rfl fun a f => l_in f rfl rfl rfl (b_quo rfl) fun a f => l_in f rfl rfl rfl b_mul fun a f => l_in f rfl rfl rfl b_add fun a f => l_in f rfl rfl rfl b_sub fun a f => l_as f rfl rfl fun a f => l_nil ?_
  obtain ⟨aj, ak, hd⟩ := bind_some hd
  refine k_cut (fun a w => ∃ al : List (Value × List Int), al = aj ∧ ∃ (am : GH) (an : Itm), GLe af am ∧ Fr a 67 [] ∧ Mem W am w (an :: H) ∧ Ow (RTg (RI .i64)) 42 am an v0 al) ?_ ?_
  ·refine k_block ?_
   refine k_loop (fun ao a w => ∃ ap : List (Value × List Int), ∃ aq : Int, ∃ ar : Int, (ap, aq, ar) = ao ∧ ∃ (au : GH) (av : Itm), GLe af au ∧ Fr a 67 [(0, v0), (1, (.int .i64 x1)), (8, (.int .i64 (IntKind.i64.wrap (x2 - x1)))), (9, (.pointer (some ⟨ab, 0, none⟩))), (10, (.int .u64 ac)), (11, (.int .i64 aq))] ∧ Mem W au w (Itm.box ab 190 [(.int .u64 ar)] :: av :: H) ∧ Ow (RTg (RI .i64)) 42 au av v0 ap) ak ⟨_, _, _, rfl, _, it0, (GLe.refl _), f.weak ⟨rfl, rfl, rfl, rfl, rfl, rfl, trivial⟩, m, o0⟩ ?_
   clear ak f m
   rintro ao aw ax ay a w ⟨ap, aq, ar, rfl, au, av, az, f, m, aA⟩
   refine k_seq (k_seq (k_region ?_))
   refine l_mv f rfl rfl fun a f => l_mv f rfl rfl fun a f => l_mv f rfl rfl fun a f => l_in f rfl rfl rfl (b_quo rfl) fun a f => l_in f rfl rfl rfl b_mul fun a f => l_in f rfl rfl rfl b_add fun a f => l_in f rfl rfl rfl b_add fun a f => l_in f rfl rfl rfl b_leq fun a f => l_nil ?_
   rcases cond_some ax with ⟨aB, ax⟩ | ⟨aB, ax⟩
   ·refine k_true f rfl aB ?_
    refine k_skip ?_
    refine k_seq (k_block (k_seq (k_region ?_)))
    obtain ⟨aC, aD, ax⟩ := bind_some ax
    refine l_res f rfl rfl Tryz.call191 (Wk.slices_xorshift_Next m  aD) fun aE aF aG w aH m aI a f => ?_
    obtain ⟨rfl, rfl⟩ := aI
    have aA := Ow.mono (RTg.mono (RI.mono _)) aH aA
    refine l_mv f rfl rfl fun a f => l_in f rfl rfl rfl b_sub fun a f => l_in f rfl rfl rfl b_and fun a f => l_op f rfl rfl rfl (r_conv (f.eval rfl) ⟨_, Tryz.underlying135⟩ Tryz.underlying3) fun a f => l_as f rfl rfl fun a f => l_nil (k_seq (k_seq (k_region ?_)))
    refine l_mv f rfl rfl fun a f => l_mv f rfl rfl fun a f => l_in f rfl rfl rfl b_geq fun a f => l_nil ?_
    obtain ⟨aJ, aK, ax⟩ := bind_some ax
    refine k_cut (fun a w => ∃ aL : Int, aL = aJ ∧ ∃ (aM : GH), GLe aF aM ∧ Fr a 67 [(0, v0), (1, (.int .i64 x1)), (8, (.int .i64 (IntKind.i64.wrap (x2 - x1)))), (9, (.pointer (some ⟨ab, 0, none⟩))), (10, (.int .u64 ac)), (11, (.int .i64 aq)), (12, (.int .i64 aL))] ∧ Mem W aM w (Itm.box ab 190 [(.int .u64 aC.2)] :: av :: H)) ?_ ?_
    ·rcases cond_some aK with ⟨aN, aK⟩ | ⟨aN, aK⟩
     ·refine k_true f rfl aN ?_
      refine k_region ?_
      refine l_mv f rfl rfl fun a f => l_mv f rfl rfl fun a f => l_in f rfl rfl rfl b_sub fun a f => l_as f rfl rfl fun a f => l_nil ?_
      obtain rfl := sj aK
      exact ⟨_, rfl, _, (GLe.refl _), f.weak ⟨rfl, rfl, rfl, rfl, rfl, rfl, rfl, trivial⟩, m⟩
     ·refine k_false f rfl aN ?_
      refine k_skip ?_
      obtain rfl := sj aK
      exact ⟨_, rfl, _, (GLe.refl _), f.weak ⟨rfl, rfl, rfl, rfl, rfl, rfl, rfl, trivial⟩, m⟩
    ·rintro a w ⟨aL, rfl, aM, aO, f, m⟩
     have aA := Ow.mono (RTg.mono (RI.mono _)) aO aA
     refine k_draw0 Follows m ?_
     refine p_p 2 rfl (by kernel_rfl) f rfl rfl rfl (fun _ => r_move (f.eval rfl)) fun a f => p_p 3 rfl (by kernel_rfl) f rfl rfl rfl (fun _ => r_move (f.eval rfl)) fun a f => p_p 4 rfl (by kernel_rfl) f rfl rfl rfl (fun _ => r_move (f.eval rfl)) fun a f => p_p 5 rfl (by kernel_rfl) f rfl rfl rfl (fun _ => r_int (f.eval rfl) (f.eval rfl) b_add) fun a f => k_draw1 60017 13 (by kernel_rfl) rfl ?_
     refine q_mv 0 60017 rfl (by kernel_rfl) f rfl rfl rfl fun a f => q_mv 1 60017 rfl (by kernel_rfl) f rfl rfl rfl fun a f => q_mv 6 60017 rfl (by kernel_rfl) f rfl rfl rfl fun a f => q_mv 7 60017 rfl (by kernel_rfl) f rfl rfl rfl fun a f => q_mv 8 60017 rfl (by kernel_rfl) f rfl rfl rfl fun a f => q_p 9 60017 rfl (by kernel_rfl) f rfl rfl rfl (fun _ => r_int (f.eval rfl) (f.eval rfl) b_add) fun a f => ?_
     obtain ⟨aP, aQ, ax⟩ := bind_some ax
     refine q_own_at (i := 10) 60017 1 m aA rfl T22 aQ rfl (by kernel_rfl) rfl f rfl rfl rfl rfl fun aR a aS f => q_own_load (i := 11) 60017 1 aA rfl Pl42 aS aQ rfl (by kernel_rfl) rfl f rfl rfl rfl fun aT a aU f => q_mv 12 60017 rfl (by kernel_rfl) f rfl rfl rfl fun a f => q_mv 13 60017 rfl (by kernel_rfl) f rfl rfl rfl fun a f => ?_
     obtain ⟨aV, aW, ax⟩ := bind_some ax
     refine q_own_at (i := 14) 60017 1 m aA rfl T22 aW rfl (by kernel_rfl) rfl f rfl rfl rfl rfl fun aX a aY f => q_own_load (i := 15) 60017 1 aA rfl Pl42 aY aW rfl (by kernel_rfl) rfl f rfl rfl rfl fun aZ a a0 f => ?_
     obtain ⟨a1, a2, ax⟩ := bind_some ax
     refine q_own_at (i := 16) 60017 1 m aA rfl T22 a2 rfl (by kernel_rfl) rfl f rfl rfl rfl rfl fun a3 a a4 f => q_end fun a5 w a6 m => ?_
     have aU := (RTg.mono (RI.mono _)) _ _ _ _ a6 aU
     have a0 := (RTg.mono (RI.mono _)) _ _ _ _ a6 a0
     have aA := Ow.mono (RTg.mono (RI.mono _)) a6 aA
     refine l_own_store 1 m aA rfl Tryz.sizeOf42 f rfl rfl a4 a2 aU.cells aU.one1 aU fun a7 w m a8 => ?_
     obtain ⟨a9, ba, ax⟩ := bind_some ax
     refine l_own_at 1 m a8 rfl T22 f rfl rfl rfl ba fun bb a bc f => l_own_store 1 m a8 rfl Tryz.sizeOf42 f rfl rfl bc ba a0.cells a0.one1 a0 fun bd w m be => l_nil (k_region ?_)
     refine l_mv f rfl rfl fun a f => l_in f rfl rfl rfl b_add fun a f => l_as f rfl rfl fun a f => l_nil ?_
     obtain rfl := sj ax
     exact ⟨_, rfl, _, _, _, rfl, _, bd, (GLe.trans az (GLe.trans aH (GLe.trans aO a6))), f.weak ⟨rfl, rfl, rfl, rfl, rfl, rfl, trivial⟩, m, be⟩
   ·refine k_false f rfl aB ?_
    refine k_exit rfl ?_
    have m := m.front 1 rfl
    have m := m.eraseAt 1
    obtain rfl := sj ax
    obtain rfl := ay _ rfl
    exact ⟨_, rfl, _, av, az, f.weak trivial, m, aA⟩
  ·rintro a w ⟨al, rfl, am, an, bf, f, m, bg⟩
   obtain rfl := sj hd
   exact ⟨[], trivial, f.defers, _, [an], (GLe.trans ah bf), m, _, rfl, bg⟩
 ·refine k_false f rfl aa ?_
  refine k_skip ?_
  obtain rfl := sj hd
  exact ⟨[], trivial, f.defers, _, [it0], (GLe.refl _), m, _, rfl, o0⟩

theorem Wk.slices_order2CmpFunc_int64__slices_Compare_int64_int64 {W w : World} {G : GH} {H : List Itm} {v0 : Value} {it0 : Itm} {b3 : Nat} {x0 : (List (Value × List Int))} {x1 : Int} {x2 : Int} {x3_0 : Int} (m : Mem W G w (it0 :: Itm.box b3 3 [(.int .i64 x3_0)] :: H)) (o0 : Ow (RTg (RI .i64)) 42 G it0 v0 x0) {y : Int × Int × ((List (Value × List Int))) × Int} (hd : D.slices_order2CmpFunc_int64__slices_Compare_int64_int64 x0 x1 x2 x3_0 = some y) :
  Calls Tryz.prog 206 #[v0, (.int .i64 x1), (.int .i64 x2), (.pointer (some ⟨b3, 0, none⟩)), (.func (.func 58) #[] #[])] w (Res W G H (fun G' Ho v => ∃ i0 : Itm, Ho = [i0, Itm.box b3 3 [(.int .i64 y.2.2.2)]] ∧ v = .tuple #[(.int .i64 y.1), (.int .i64 y.2.1)] ∧ Ow (RTg (RI .i64)) 42 G' i0 v0 y.2.2.1)) := by
 refine calls_b (args := [v0, (.int .i64 x1), (.int .i64 x2), (.pointer (some ⟨b3, 0, none⟩)), (.func (.func 58) #[] #[])]) (N := 32) [.tmp 10, .tmp 11] Tryz.func206 rfl rfl (Nat.le_of_ble_eq_true rfl) rfl fun a f => ?_
 unfold D.slices_order2CmpFunc_int64__slices_Compare_int64_int64 at hd
 refine k_seq (k_region ?_)
 refine l_as f rfl rfl fun a f => l_as f rfl rfl fun a f => l_nil (k_seq (k_seq ?_))
 refine k_draw 11 Follows (by kernel_rfl) m ?_
 refine q_mv 0 11 rfl (by kernel_rfl) f rfl rfl rfl fun a f => q_mv 1 11 rfl (by kernel_rfl) f rfl rfl rfl fun a f => q_mv 2 11 rfl (by kernel_rfl) f rfl rfl rfl fun a f => ?_
 obtain ⟨aa, ab, hd⟩ := bind_some hd
 refine q_own_at (i := 3) 11 0 m o0 rfl T22 ab rfl (by kernel_rfl) rfl f rfl rfl rfl rfl fun ac a ad f => q_own_load (i := 4) 11 0 o0 rfl Pl42 ad ab rfl (by kernel_rfl) rfl f rfl rfl rfl fun ae a af f => q_mv 5 11 rfl (by kernel_rfl) f rfl rfl rfl fun a f => q_mv 6 11 rfl (by kernel_rfl) f rfl rfl rfl fun a f => ?_
 obtain ⟨ag, ah, hd⟩ := bind_some hd
 refine q_own_at (i := 7) 11 0 m o0 rfl T22 ah rfl (by kernel_rfl) rfl f rfl rfl rfl rfl fun ai a aj f => q_own_load (i := 8) 11 0 o0 rfl Pl42 aj ah rfl (by kernel_rfl) rfl f rfl rfl rfl fun ak a al f => ?_
 obtain ⟨am, an, hd⟩ := bind_some hd
 refine q_callv (i := 9) 11 rfl (by kernel_rfl) rfl f rfl rfl rfl rfl Tryz.call58 (fun _ _ w ao m => Wk.slices_Compare_int64_int64 m (rd1 ao (af.2)) (rd1 ao (al.2)) an) fun a f => q_p 10 11 rfl (by kernel_rfl) f rfl rfl rfl (fun _ => r_int (f.eval rfl) (f.eval rfl) b_lss) fun a f => q_end fun ap w aq m => ?_
 have af := (RTg.mono (RI.mono _)) _ _ _ _ aq af
 have al := (RTg.mono (RI.mono _)) _ _ _ _ aq al
 have o0 := Ow.mono (RTg.mono (RI.mono _)) aq o0
 refine l_nil ?_
 rcases cond_some hd with ⟨ar, hd⟩ | ⟨ar, hd⟩
 ·refine k_true f rfl ar ?_
  refine k_seq (k_region ?_)
  refine l_mv f rfl rfl fun a f => l_op f rfl rfl rfl (r_nilCheck (f.eval rfl)) fun a f => l_boxCell 1 0 m Pl3 f rfl rfl rfl rfl fun a f => l_in f rfl rfl rfl b_add fun a f => l_op f rfl rfl rfl (r_nilCheck (f.eval rfl)) fun a f => l_boxStore 1 0 (ds := [(.int .i64 (IntKind.i64.wrap (x3_0 + 1)))]) m Tryz.sizeOf3 f rfl rfl rfl (ones_cons rfl ones_nil) rfl (Nat.le_of_ble_eq_true rfl) rfl fun w m => l_nil (k_seq (k_region ?_))
  refine l_mv f rfl rfl fun a f => l_mv f rfl rfl fun a f => l_as f rfl rfl fun a f => l_as f rfl rfl fun a f => l_nil ?_
  refine k_ret ?_
  obtain rfl := sj hd
  exact ⟨[(.int .i64 x2), (.int .i64 x1)], ⟨f.get _ _ rfl, f.get _ _ rfl, trivial⟩, f.defers, _, [it0, Itm.box b3 3 [(.int .i64 (IntKind.i64.wrap (x3_0 + 1)))]], aq, m, _, rfl, rfl, o0⟩
 ·refine k_false f rfl ar ?_
  refine k_skip ?_
  refine k_seq (k_region ?_)
  refine l_mv f rfl rfl fun a f => l_mv f rfl rfl fun a f => l_as f rfl rfl fun a f => l_as f rfl rfl fun a f => l_nil ?_
  refine k_ret ?_
  obtain rfl := sj hd
  exact ⟨[(.int .i64 x1), (.int .i64 x2)], ⟨f.get _ _ rfl, f.get _ _ rfl, trivial⟩, f.defers, _, [it0, Itm.box b3 3 [(.int .i64 x3_0)]], aq, m, _, rfl, rfl, o0⟩

theorem Wk.slices_medianCmpFunc_int64__slices_Compare_int64_int64 {W w : World} {G : GH} {H : List Itm} {v0 : Value} {it0 : Itm} {b4 : Nat} {x0 : (List (Value × List Int))} {x1 : Int} {x2 : Int} {x3 : Int} {x4_0 : Int} (m : Mem W G w (it0 :: Itm.box b4 3 [(.int .i64 x4_0)] :: H)) (o0 : Ow (RTg (RI .i64)) 42 G it0 v0 x0) {y : Int × ((List (Value × List Int))) × Int} (hd : D.slices_medianCmpFunc_int64__slices_Compare_int64_int64 x0 x1 x2 x3 x4_0 = some y) :
  Calls Tryz.prog 193 #[v0, (.int .i64 x1), (.int .i64 x2), (.int .i64 x3), (.pointer (some ⟨b4, 0, none⟩)), (.func (.func 58) #[] #[])] w (Res W G H (fun G' Ho v => ∃ i0 : Itm, Ho = [i0, Itm.box b4 3 [(.int .i64 y.2.2)]] ∧ v = (.int .i64 y.1) ∧ Ow (RTg (RI .i64)) 42 G' i0 v0 y.2.1)) := by
 refine calls_b (args := [v0, (.int .i64 x1), (.int .i64 x2), (.int .i64 x3), (.pointer (some ⟨b4, 0, none⟩)), (.func (.func 58) #[] #[])]) (N := 41) [.tmp 12] Tryz.func193 rfl rfl (Nat.le_of_ble_eq_true rfl) rfl fun a f => ?_
 unfold D.slices_medianCmpFunc_int64__slices_Compare_int64_int64 at hd
 refine k_seq (k_region ?_)
 refine l_as f rfl rfl fun a f => l_nil (k_seq (k_region ?_))
 refine l_mv f rfl rfl fun a f => l_mv f rfl rfl fun a f => l_mv f rfl rfl fun a f => l_mv f rfl rfl fun a f => l_mv f rfl rfl fun a f => ?_
 obtain ⟨aa, ab, hd⟩ := bind_some hd
 refine l_res f rfl rfl Tryz.call206 (Wk.slices_order2CmpFunc_int64__slices_Compare_int64_int64 m o0 ab) fun ac ad ae w af m ag a f => ?_
 obtain ⟨ah, rfl, rfl, ai⟩ := ag
 refine l_mv f rfl rfl fun a f => l_op f rfl rfl rfl (r_extract (f.eval rfl) rfl) fun a f => l_op f rfl rfl rfl (r_extract (f.eval rfl) rfl) fun a f => l_as f rfl rfl fun a f => l_as f rfl rfl fun a f => l_nil (k_seq (k_region ?_))
 refine l_mv f rfl rfl fun a f => l_mv f rfl rfl fun a f => l_mv f rfl rfl fun a f => l_mv f rfl rfl fun a f => l_mv f rfl rfl fun a f => ?_
 obtain ⟨aj, ak, hd⟩ := bind_some hd
 refine l_res f rfl rfl Tryz.call206 (Wk.slices_order2CmpFunc_int64__slices_Compare_int64_int64 m ai ak) fun al am an w ao m ap a f => ?_
 obtain ⟨aq, rfl, rfl, ar⟩ := ap
 refine l_mv f rfl rfl fun a f => l_op f rfl rfl rfl (r_extract (f.eval rfl) rfl) fun a f => l_op f rfl rfl rfl (r_extract (f.eval rfl) rfl) fun a f => l_as f rfl rfl fun a f => l_as f rfl rfl fun a f => l_nil (k_seq (k_region ?_))
 refine l_mv f rfl rfl fun a f => l_mv f rfl rfl fun a f => l_mv f rfl rfl fun a f => l_mv f rfl rfl fun a f => l_mv f rfl rfl fun a f => ?_
 obtain ⟨au, av, hd⟩ := bind_some hd
 refine l_res f rfl rfl Tryz.call206 (Wk.slices_order2CmpFunc_int64__slices_Compare_int64_int64 m ar av) fun aw ax ay w az m aA a f => ?_
 obtain ⟨aB, rfl, rfl, aC⟩ := aA
 refine l_mv f rfl rfl fun a f => l_op f rfl rfl rfl (r_extract (f.eval rfl) rfl) fun a f => l_op f rfl rfl rfl (r_extract (f.eval rfl) rfl) fun a f => l_as f rfl rfl fun a f => l_as f rfl rfl fun a f => l_nil (k_seq (k_region ?_))
 refine l_mv f rfl rfl fun a f => l_as f rfl rfl fun a f => l_nil ?_
 refine k_ret ?_
 obtain rfl := sj hd
 exact ⟨[(.int .i64 au.2.1)], ⟨f.get _ _ rfl, trivial⟩, f.defers, _, [aB, Itm.box b4 3 [(.int .i64 au.2.2.2)]], (GLe.trans af (GLe.trans ao az)), m, _, rfl, rfl, aC⟩

theorem Wk.slices_medianAdjacentCmpFunc_int64__slices_Compare_int64_int64 {W w : World} {G : GH} {H : List Itm} {v0 : Value} {it0 : Itm} {b2 : Nat} {x0 : (List (Value × List Int))} {x1 : Int} {x2_0 : Int} (m : Mem W G w (it0 :: Itm.box b2 3 [(.int .i64 x2_0)] :: H)) (o0 : Ow (RTg (RI .i64)) 42 G it0 v0 x0) {y : Int × ((List (Value × List Int))) × Int} (hd : D.slices_medianAdjacentCmpFunc_int64__slices_Compare_int64_int64 x0 x1 x2_0 = some y) :
  Calls Tryz.prog 192 #[v0, (.int .i64 x1), (.pointer (some ⟨b2, 0, none⟩)), (.func (.func 58) #[] #[])] w (Res W G H (fun G' Ho v => ∃ i0 : Itm, Ho = [i0, Itm.box b2 3 [(.int .i64 y.2.2)]] ∧ v = (.int .i64 y.1) ∧ Ow (RTg (RI .i64)) 42 G' i0 v0 y.2.1)) := by
 refine calls_b (args := [v0, (.int .i64 x1), (.pointer (some ⟨b2, 0, none⟩)), (.func (.func 58) #[] #[])]) (N := 18) [.tmp 8] Tryz.func192 rfl rfl (Nat.le_of_ble_eq_true rfl) rfl fun a f => ?_
 unfold D.slices_medianAdjacentCmpFunc_int64__slices_Compare_int64_int64 at hd
 refine k_seq (k_region ?_)
 refine l_as f rfl rfl fun a f => l_nil (k_seq (k_region ?_))
 refine l_mv f rfl rfl fun a f => l_mv f rfl rfl fun a f => l_in f rfl rfl rfl b_sub fun a f => l_mv f rfl rfl fun a f => l_mv f rfl rfl fun a f => l_in f rfl rfl rfl b_add fun a f => l_mv f rfl rfl fun a f => l_mv f rfl rfl fun a f => ?_
 obtain ⟨aa, ab, hd⟩ := bind_some hd
 refine l_res f rfl rfl Tryz.call193 (Wk.slices_medianCmpFunc_int64__slices_Compare_int64_int64 m o0 ab) fun ac ad ae w af m ag a f => ?_
 obtain ⟨ah, rfl, rfl, ai⟩ := ag
 refine l_as f rfl rfl fun a f => l_nil ?_
 refine k_ret ?_
 obtain rfl := sj hd
 exact ⟨[(.int .i64 aa.1)], ⟨f.get _ _ rfl, trivial⟩, f.defers, _, [ah, Itm.box b2 3 [(.int .i64 aa.2.2)]], af, m, _, rfl, rfl, ai⟩

theorem Wk.slices_choosePivotCmpFunc_int64__slices_Compare_int64_int64 {W w : World} {G : GH} {H : List Itm} {v0 : Value} {it0 : Itm} {x0 : (List (Value × List Int))} {x1 : Int} {x2 : Int} (m : Mem W G w (it0 :: H)) (o0 : Ow (RTg (RI .i64)) 42 G it0 v0 x0) {y : Int × Int × ((List (Value × List Int)))} (hd : D.slices_choosePivotCmpFunc_int64__slices_Compare_int64_int64 x0 x1 x2 = some y) :
  Calls Tryz.prog 157 #[v0, (.int .i64 x1), (.int .i64 x2), (.func (.func 58) #[] #[])] w (Res W G H (fun G' Ho v => ∃ i0 : Itm, Ho = [i0] ∧ v = .tuple #[(.int .i64 y.1), (.int .i64 y.2.1)] ∧ Ow (RTg (RI .i64)) 42 G' i0 v0 y.2.2)) := by
 refine calls_b (args := [v0, (.int .i64 x1), (.int .i64 x2), (.func (.func 58) #[] #[])]) (N := 63) [.tmp 8, .tmp 9] Tryz.func157 rfl rfl (Nat.le_of_ble_eq_true rfl) rfl fun a f => ?_
 unfold D.slices_choosePivotCmpFunc_int64__slices_Compare_int64_int64 at hd
 refine k_seq (k_region ?_)
 refine l_as f rfl rfl fun a f => l_as f rfl rfl fun a f => l_nil (k_seq (k_region ?_))
 refine l_mv f rfl rfl fun a f => l_mv f rfl rfl fun a f => l_in f rfl rfl rfl b_sub fun a f => l_as f rfl rfl fun a f => l_nil (k_seq (k_region ?_))
 refine l_alloc (cs := [(.int .i64 0)]) Tryz.zeroValue3 m f rfl rfl fun aa w a m f => l_nil (k_seq (k_region ?_))
 refine l_mv f rfl rfl fun a f => l_mv f rfl rfl fun a f => l_in f rfl rfl rfl (b_quo rfl) fun a f => l_in f rfl rfl rfl b_mul fun a f => l_in f rfl rfl rfl b_add fun a f => l_as f rfl rfl fun a f => l_nil (k_seq (k_region ?_))
 refine l_mv f rfl rfl fun a f => l_mv f rfl rfl fun a f => l_in f rfl rfl rfl (b_quo rfl) fun a f => l_in f rfl rfl rfl b_mul fun a f => l_in f rfl rfl rfl b_add fun a f => l_as f rfl rfl fun a f => l_nil (k_seq (k_region ?_))
 refine l_mv f rfl rfl fun a f => l_mv f rfl rfl fun a f => l_in f rfl rfl rfl (b_quo rfl) fun a f => l_in f rfl rfl rfl b_mul fun a f => l_in f rfl rfl rfl b_add fun a f => l_as f rfl rfl fun a f => l_nil (k_seq (k_seq (k_region ?_)))
 refine l_mv f rfl rfl fun a f => l_in f rfl rfl rfl b_geq fun a f => l_nil ?_
 rcases cond_some hd with ⟨ab, hd⟩ | ⟨ab, hd⟩
 ·refine k_true f rfl ab ?_
  refine k_seq (k_seq (k_region ?_))
  refine l_mv f rfl rfl fun a f => l_in f rfl rfl rfl b_geq fun a f => l_nil ?_
  obtain ⟨ac, ad, hd⟩ := bind_some hd
  refine k_cut (fun a w => ∃ ae : List (Value × List Int), ∃ af : Int, ∃ ag : Int, ∃ ah : Int, ∃ ai : Int, (ae, af, ag, ah, ai) = ac ∧ ∃ (aj : GH) (ak : Itm), GLe G aj ∧ Fr a 63 [(0, v0), (3, (.func (.func 58) #[] #[])), (11, (.pointer (some ⟨aa, 0, none⟩))), (12, (.int .i64 af)), (13, (.int .i64 ag)), (14, (.int .i64 ah))] ∧ Mem W aj w (Itm.box aa 3 [(.int .i64 ai)] :: ak :: H) ∧ Ow (RTg (RI .i64)) 42 aj ak v0 ae) ?_ ?_
  ·rcases cond_some ad with ⟨al, ad⟩ | ⟨al, ad⟩
   ·refine k_true f rfl al ?_
    refine k_seq (k_region ?_)
    refine l_mv f rfl rfl fun a f => l_mv f rfl rfl fun a f => l_mv f rfl rfl fun a f => ?_
    have m := m.front 1 rfl
    obtain ⟨am, an, ad⟩ := bind_some ad
    refine l_res f rfl rfl Tryz.call192 (Wk.slices_medianAdjacentCmpFunc_int64__slices_Compare_int64_int64 m o0 an) fun ao ap aq w ar m au a f => ?_
    obtain ⟨av, rfl, rfl, aw⟩ := au
    refine l_as f rfl rfl fun a f => l_nil (k_seq (k_region ?_))
    refine l_mv f rfl rfl fun a f => l_mv f rfl rfl fun a f => l_mv f rfl rfl fun a f => ?_
    obtain ⟨ax, ay, ad⟩ := bind_some ad
    refine l_res f rfl rfl Tryz.call192 (Wk.slices_medianAdjacentCmpFunc_int64__slices_Compare_int64_int64 m aw ay) fun az aA aB w aC m aD a f => ?_
    obtain ⟨aE, rfl, rfl, aF⟩ := aD
    refine l_as f rfl rfl fun a f => l_nil (k_region ?_)
    refine l_mv f rfl rfl fun a f => l_mv f rfl rfl fun a f => l_mv f rfl rfl fun a f => ?_
    obtain ⟨aG, aH, ad⟩ := bind_some ad
    refine l_res f rfl rfl Tryz.call192 (Wk.slices_medianAdjacentCmpFunc_int64__slices_Compare_int64_int64 m aF aH) fun aI aJ aK w aL m aM a f => ?_
    obtain ⟨aN, rfl, rfl, aO⟩ := aM
    refine l_as f rfl rfl fun a f => l_nil ?_
    have m := m.front 1 rfl
    obtain rfl := sj ad
    exact ⟨_, _, _, _, _, rfl, _, aN, (GLe.trans ar (GLe.trans aC aL)), f.weak ⟨rfl, rfl, rfl, rfl, rfl, rfl, trivial⟩, m, aO⟩
   ·refine k_false f rfl al ?_
    refine k_skip ?_
    obtain rfl := sj ad
    exact ⟨_, _, _, _, _, rfl, _, it0, (GLe.refl _), f.weak ⟨rfl, rfl, rfl, rfl, rfl, rfl, trivial⟩, m, o0⟩
  ·rintro a w ⟨ae, af, ag, ah, ai, rfl, aj, ak, aP, f, m, aQ⟩
   refine k_region ?_
   refine l_mv f rfl rfl fun a f => l_mv f rfl rfl fun a f => l_mv f rfl rfl fun a f => l_mv f rfl rfl fun a f => l_mv f rfl rfl fun a f => ?_
   have m := m.front 1 rfl
   obtain ⟨aR, aS, hd⟩ := bind_some hd
   refine l_res f rfl rfl Tryz.call193 (Wk.slices_medianCmpFunc_int64__slices_Compare_int64_int64 m aQ aS) fun aT aU aV w aW m aX a f => ?_
   obtain ⟨aY, rfl, rfl, aZ⟩ := aX
   refine l_as f rfl rfl fun a f => l_nil (k_seq (k_region ?_))
   refine l_boxCell 1 0 m Pl3 f rfl rfl rfl rfl fun a f => l_nil (k_block (k_seq (k_region ?_)))
   refine l_in f rfl rfl rfl b_eql fun a f => l_as f rfl rfl fun a f => l_nil ?_
   rcases cond_some hd with ⟨a0, hd⟩ | ⟨a0, hd⟩
   ·refine k_true f rfl a0 ?_
    refine k_seq (k_region ?_)
    refine l_mv f rfl rfl fun a f => l_as f rfl rfl fun a f => l_as f rfl rfl fun a f => l_nil ?_
    refine k_ret ?_
    have m := m.eraseAt 1
    obtain rfl := sj hd
    exact ⟨[(.int .i64 aR.1), (.int .i64 1)], ⟨f.get _ _ rfl, f.get _ _ rfl, trivial⟩, f.defers, _, [aY], (GLe.trans aP aW), m, _, rfl, rfl, aZ⟩
   ·refine k_false f rfl a0 ?_
    refine k_seq (k_region ?_)
    refine l_in f rfl rfl rfl b_eql fun a f => l_as f rfl rfl fun a f => l_nil ?_
    rcases cond_some hd with ⟨a1, hd⟩ | ⟨a1, hd⟩
    ·refine k_true f rfl a1 ?_
     refine k_seq (k_region ?_)
     refine l_mv f rfl rfl fun a f => l_as f rfl rfl fun a f => l_as f rfl rfl fun a f => l_nil ?_
     refine k_ret ?_
     have m := m.eraseAt 1
     obtain rfl := sj hd
     exact ⟨[(.int .i64 aR.1), (.int .i64 2)], ⟨f.get _ _ rfl, f.get _ _ rfl, trivial⟩, f.defers, _, [aY], (GLe.trans aP aW), m, _, rfl, rfl, aZ⟩
    ·refine k_false f rfl a1 ?_
     refine k_seq (k_region ?_)
     refine l_mv f rfl rfl fun a f => l_as f rfl rfl fun a f => l_as f rfl rfl fun a f => l_nil ?_
     refine k_ret ?_
     have m := m.eraseAt 1
     obtain rfl := sj hd
     exact ⟨[(.int .i64 aR.1), (.int .i64 0)], ⟨f.get _ _ rfl, f.get _ _ rfl, trivial⟩, f.defers, _, [aY], (GLe.trans aP aW), m, _, rfl, rfl, aZ⟩
 ·refine k_false f rfl ab ?_
  refine k_skip ?_
  refine k_seq (k_region ?_)
  refine l_boxCell 0 0 m Pl3 f rfl rfl rfl rfl fun a f => l_nil (k_block (k_seq (k_region ?_)))
  refine l_in f rfl rfl rfl b_eql fun a f => l_as f rfl rfl fun a f => l_nil ?_
  rcases cond_some hd with ⟨a2, hd⟩ | ⟨a2, hd⟩
  ·refine k_true f rfl a2 ?_
   refine k_seq (k_region ?_)
   refine l_mv f rfl rfl fun a f => l_as f rfl rfl fun a f => l_as f rfl rfl fun a f => l_nil ?_
   refine k_ret ?_
   have m := m.front 1 rfl
   have m := m.eraseAt 1
   obtain rfl := sj hd
   exact ⟨[(.int .i64 (IntKind.i64.wrap (x1 + (IntKind.i64.wrap ((IntKind.i64.wrap (Int.tdiv (IntKind.i64.wrap (x2 - x1)) 4)) * 2))))), (.int .i64 1)], ⟨f.get _ _ rfl, f.get _ _ rfl, trivial⟩, f.defers, _, [it0], (GLe.refl _), m, _, rfl, rfl, o0⟩
  ·refine k_false f rfl a2 ?_
   refine k_seq (k_region ?_)
   refine l_in f rfl rfl rfl b_eql fun a f => l_as f rfl rfl fun a f => l_nil ?_
   rcases cond_some hd with ⟨a3, hd⟩ | ⟨a3, hd⟩
   ·refine k_true f rfl a3 ?_
    refine k_seq (k_region ?_)
    refine l_mv f rfl rfl fun a f => l_as f rfl rfl fun a f => l_as f rfl rfl fun a f => l_nil ?_
    refine k_ret ?_
    have m := m.front 1 rfl
    have m := m.eraseAt 1
    obtain rfl := sj hd
    exact ⟨[(.int .i64 (IntKind.i64.wrap (x1 + (IntKind.i64.wrap ((IntKind.i64.wrap (Int.tdiv (IntKind.i64.wrap (x2 - x1)) 4)) * 2))))), (.int .i64 2)], ⟨f.get _ _ rfl, f.get _ _ rfl, trivial⟩, f.defers, _, [it0], (GLe.refl _), m, _, rfl, rfl, o0⟩
   ·refine k_false f rfl a3 ?_
    refine k_seq (k_region ?_)
    refine l_mv f rfl rfl fun a f => l_as f rfl rfl fun a f => l_as f rfl rfl fun a f => l_nil ?_
    refine k_ret ?_
    have m := m.front 1 rfl
    have m := m.eraseAt 1
    obtain rfl := sj hd
    exact ⟨[(.int .i64 (IntKind.i64.wrap (x1 + (IntKind.i64.wrap ((IntKind.i64.wrap (Int.tdiv (IntKind.i64.wrap (x2 - x1)) 4)) * 2))))), (.int .i64 0)], ⟨f.get _ _ rfl, f.get _ _ rfl, trivial⟩, f.defers, _, [it0], (GLe.refl _), m, _, rfl, rfl, o0⟩

theorem Wk.slices_reverseRangeCmpFunc_int64__slices_Compare_int64_int64 {W w : World} {G : GH} {H : List Itm} {v0 : Value} {it0 : Itm} {x0 : (List (Value × List Int))} {x1 : Int} {x2 : Int} (m : Mem W G w (it0 :: H)) (o0 : Ow (RTg (RI .i64)) 42 G it0 v0 x0) {y : ((List (Value × List Int)))} (hd : D.slices_reverseRangeCmpFunc_int64__slices_Compare_int64_int64 x0 x1 x2 = some y) :
  Calls Tryz.prog 158 #[v0, (.int .i64 x1), (.int .i64 x2), (.func (.func 58) #[] #[])] w (Res W G H (fun G' Ho _ => ∃ i0 : Itm, Ho = [i0] ∧ Ow (RTg (RI .i64)) 42 G' i0 v0 y)) := by
 refine calls_b (args := [v0, (.int .i64 x1), (.int .i64 x2), (.func (.func 58) #[] #[])]) (N := 34) [] Tryz.func158 rfl rfl (Nat.le_of_ble_eq_true rfl) rfl fun a f => ?_
 unfold D.slices_reverseRangeCmpFunc_int64__slices_Compare_int64_int64 at hd
 refine k_seq (k_region ?_)
 refine l_mv f rfl rfl fun a f => l_as f rfl rfl fun a f => l_nil (k_seq (k_region ?_))
 refine l_mv f rfl rfl fun a f => l_in f rfl rfl rfl b_sub fun a f => l_as f rfl rfl fun a f => l_nil ?_
 obtain ⟨aa, ab, hd⟩ := bind_some hd
 refine k_cut (fun a w => ∃ ac : List (Value × List Int), ac = aa ∧ ∃ (ad : GH) (ae : Itm), GLe G ad ∧ Fr a 34 [] ∧ Mem W ad w (ae :: H) ∧ Ow (RTg (RI .i64)) 42 ad ae v0 ac) ?_ ?_
 ·refine k_block ?_
  refine k_loop (fun af a w => ∃ ag : List (Value × List Int), ∃ ah : Int, ∃ ai : Int, (ag, ah, ai) = af ∧ ∃ (aj : GH) (ak : Itm), GLe G aj ∧ Fr a 34 [(0, v0), (8, (.int .i64 ah)), (9, (.int .i64 ai))] ∧ Mem W aj w (ak :: H) ∧ Ow (RTg (RI .i64)) 42 aj ak v0 ag) ab ⟨_, _, _, rfl, _, it0, (GLe.refl _), f.weak ⟨rfl, rfl, rfl, trivial⟩, m, o0⟩ ?_
  clear ab f m
  rintro af al am an a w ⟨ag, ah, ai, rfl, aj, ak, ao, f, m, ap⟩
  refine k_seq (k_seq (k_region ?_))
  refine l_mv f rfl rfl fun a f => l_mv f rfl rfl fun a f => l_in f rfl rfl rfl b_lss fun a f => l_nil ?_
  rcases cond_some am with ⟨aq, am⟩ | ⟨aq, am⟩
  ·refine k_true f rfl aq ?_
   refine k_skip ?_
   refine k_block (k_seq ?_)
   refine k_draw0 Follows m ?_
   refine p_p 2 rfl (by kernel_rfl) f rfl rfl rfl (fun _ => r_move (f.eval rfl)) fun a f => p_p 3 rfl (by kernel_rfl) f rfl rfl rfl (fun _ => r_move (f.eval rfl)) fun a f => k_draw1 12013 11 (by kernel_rfl) rfl ?_
   refine q_mv 0 12013 rfl (by kernel_rfl) f rfl rfl rfl fun a f => q_mv 1 12013 rfl (by kernel_rfl) f rfl rfl rfl fun a f => q_mv 4 12013 rfl (by kernel_rfl) f rfl rfl rfl fun a f => q_mv 5 12013 rfl (by kernel_rfl) f rfl rfl rfl fun a f => ?_
   obtain ⟨ar, au, am⟩ := bind_some am
   refine q_own_at (i := 6) 12013 0 m ap rfl T22 au rfl (by kernel_rfl) rfl f rfl rfl rfl rfl fun av a aw f => q_own_load (i := 7) 12013 0 ap rfl Pl42 aw au rfl (by kernel_rfl) rfl f rfl rfl rfl fun ax a ay f => q_mv 8 12013 rfl (by kernel_rfl) f rfl rfl rfl fun a f => q_mv 9 12013 rfl (by kernel_rfl) f rfl rfl rfl fun a f => ?_
   obtain ⟨az, aA, am⟩ := bind_some am
   refine q_own_at (i := 10) 12013 0 m ap rfl T22 aA rfl (by kernel_rfl) rfl f rfl rfl rfl rfl fun aB a aC f => q_own_load (i := 11) 12013 0 ap rfl Pl42 aC aA rfl (by kernel_rfl) rfl f rfl rfl rfl fun aD a aE f => ?_
   obtain ⟨aF, aG, am⟩ := bind_some am
   refine q_own_at (i := 12) 12013 0 m ap rfl T22 aG rfl (by kernel_rfl) rfl f rfl rfl rfl rfl fun aH a aI f => q_end fun aJ w aK m => ?_
   have ay := (RTg.mono (RI.mono _)) _ _ _ _ aK ay
   have aE := (RTg.mono (RI.mono _)) _ _ _ _ aK aE
   have ap := Ow.mono (RTg.mono (RI.mono _)) aK ap
   refine l_own_store 0 m ap rfl Tryz.sizeOf42 f rfl rfl aI aG ay.cells ay.one1 ay fun aL w m aM => ?_
   obtain ⟨aN, aO, am⟩ := bind_some am
   refine l_own_at 0 m aM rfl T22 f rfl rfl rfl aO fun aP a aQ f => l_own_store 0 m aM rfl Tryz.sizeOf42 f rfl rfl aQ aO aE.cells aE.one1 aE fun aR w m aS => l_nil (k_seq (k_region ?_))
   refine l_mv f rfl rfl fun a f => l_in f rfl rfl rfl b_add fun a f => l_as f rfl rfl fun a f => l_nil (k_region ?_)
   refine l_mv f rfl rfl fun a f => l_in f rfl rfl rfl b_sub fun a f => l_as f rfl rfl fun a f => l_nil ?_
   obtain rfl := sj am
   exact ⟨_, rfl, _, _, _, rfl, _, aR, (GLe.trans ao aK), f.weak ⟨rfl, rfl, rfl, trivial⟩, m, aS⟩
  ·refine k_false f rfl aq ?_
   refine k_exit rfl ?_
   obtain rfl := sj am
   obtain rfl := an _ rfl
   exact ⟨_, rfl, _, ak, ao, f.weak trivial, m, ap⟩
 ·rintro a w ⟨ac, rfl, ad, ae, aT, f, m, aU⟩
  obtain rfl := sj hd
  exact ⟨[], trivial, f.defers, _, [ae], aT, m, _, rfl, aU⟩

theorem Wk.slices_partialInsertionSortCmpFunc_int64__slices_Compare_int64_int64 {W w : World} {G : GH} {H : List Itm} {v0 : Value} {it0 : Itm} {x0 : (List (Value × List Int))} {x1 : Int} {x2 : Int} (m : Mem W G w (it0 :: H)) (o0 : Ow (RTg (RI .i64)) 42 G it0 v0 x0) {y : Bool × ((List (Value × List Int)))} (hd : D.slices_partialInsertionSortCmpFunc_int64__slices_Compare_int64_int64 x0 x1 x2 = some y) :
  Calls Tryz.prog 159 #[v0, (.int .i64 x1), (.int .i64 x2), (.func (.func 58) #[] #[])] w (Res W G H (fun G' Ho v => ∃ i0 : Itm, Ho = [i0] ∧ v = (.bool y.1) ∧ Ow (RTg (RI .i64)) 42 G' i0 v0 y.2)) := by
 refine calls_b (args := [v0, (.int .i64 x1), (.int .i64 x2), (.func (.func 58) #[] #[])]) (N := 141) [.tmp 8] Tryz.func159 rfl rfl (Nat.le_of_ble_eq_true rfl) rfl fun a f => ?_
 unfold D.slices_partialInsertionSortCmpFunc_int64__slices_Compare_int64_int64 at hd
 refine k_seq (k_region ?_)
 refine l_as f rfl rfl fun a f => l_nil (k_seq (k_region ?_))
 refine l_mv f rfl rfl fun a f => l_in f rfl rfl rfl b_add fun a f => l_as f rfl rfl fun a f => l_nil (k_seq (k_seq (k_region ?_)))
 refine l_as f rfl rfl fun a f => l_nil ?_
 obtain ⟨aa, ab, hd⟩ := bind_some hd
 refine k_cut (fun a w => ∃ q_1621' : (List (Value × List Int)), aa = .inl q_1621' ∧ ∃ ac : List (Value × List Int), ac = q_1621' ∧ ∃ (ad : GH) (ae : Itm), GLe G ad ∧ Fr a 141 [] ∧ Mem W ad w (ae :: H) ∧ Ow (RTg (RI .i64)) 42 ad ae v0 ac) ?_ ?_
 ·refine k_block ?_
  refine k_loop (fun af a w => ∃ ag : List (Value × List Int), ∃ ah : Int, ∃ ai : Int, (ag, ah, ai) = af ∧ ∃ (aj : GH) (ak : Itm), GLe G aj ∧ Fr a 141 [(0, v0), (1, (.int .i64 x1)), (2, (.int .i64 x2)), (3, (.func (.func 58) #[] #[])), (9, (.int .i64 ah)), (10, (.int .i64 ai))] ∧ Mem W aj w (ak :: H) ∧ Ow (RTg (RI .i64)) 42 aj ak v0 ag) ab ⟨_, _, _, rfl, _, it0, (GLe.refl _), f.weak ⟨rfl, rfl, rfl, rfl, rfl, rfl, trivial⟩, m, o0⟩ ?_
  clear ab f m
  rintro af al am an a w ⟨ag, ah, ai, rfl, aj, ak, ao, f, m, ap⟩
  refine k_seq (k_seq (k_region ?_))
  refine l_mv f rfl rfl fun a f => l_in f rfl rfl rfl b_lss fun a f => l_nil ?_
  rcases cond_some am with ⟨aq, am⟩ | ⟨aq, am⟩
  ·refine k_true f rfl aq ?_
   refine k_skip ?_
   refine k_seq (k_block (k_seq ?_))
   obtain ⟨ar, au, am⟩ := bind_some am
   refine k_cut (fun a w => ∃ av : Int, av = ar ∧ ∃ (aw : GH), GLe aj aw ∧ Fr a 141 [(0, v0), (1, (.int .i64 x1)), (2, (.int .i64 x2)), (3, (.func (.func 58) #[] #[])), (9, (.int .i64 av)), (10, (.int .i64 ai))] ∧ Mem W aw w (ak :: H)) ?_ ?_
   ·refine k_block ?_
    refine k_loop (fun ax a w => ∃ ay : Int, ay = ax ∧ ∃ (az : GH), GLe aj az ∧ Fr a 141 [(0, v0), (1, (.int .i64 x1)), (2, (.int .i64 x2)), (3, (.func (.func 58) #[] #[])), (9, (.int .i64 ay)), (10, (.int .i64 ai))] ∧ Mem W az w (ak :: H)) au ⟨_, rfl, _, (GLe.refl _), f.weak ⟨rfl, rfl, rfl, rfl, rfl, rfl, trivial⟩, m⟩ ?_
    clear au f m
    rintro ax aA aB aC a w ⟨ay, rfl, az, aD, f, m⟩
    have ap := Ow.mono (RTg.mono (RI.mono _)) aD ap
    refine k_seq (k_seq ?_)
    refine k_draw 18 Follows (by kernel_rfl) m ?_
    refine q_mv 0 18 rfl (by kernel_rfl) f rfl rfl rfl fun a f => q_mv 1 18 rfl (by kernel_rfl) f rfl rfl rfl fun a f => q_p 2 18 rfl (by kernel_rfl) f rfl rfl rfl (fun _ => r_int (f.eval rfl) (f.eval rfl) b_lss) fun a f => q_mv 3 18 rfl (by kernel_rfl) f rfl rfl rfl fun a f => ?_
    obtain ⟨aE, aF, aB⟩ := bind_some aB
    refine q_cut (fuel' := 0) (listed' := #[true, true, true, true, true, true, true, true, true, true, true, true, true, true, true, true, true, true]) (fun a => Fr a 141 [(0, v0), (1, (.int .i64 x1)), (2, (.int .i64 x2)), (3, (.func (.func 58) #[] #[])), (9, (.int .i64 ay)), (10, (.int .i64 ai)), (19, (.int .i64 ay)), (20, (.int .i64 x2)), (21, (.bool (decide (ay < x2)))), (22, (.bool (decide (ay < x2)))), (36, (.bool aE))]) ?_ ?_
    ·intro a f
     refine q_end fun aG w aH m => ?_
     have ap := Ow.mono (RTg.mono (RI.mono _)) aH ap
     refine l_nil ?_
     rcases cond_some aB with ⟨aI, aB⟩ | ⟨aI, aB⟩
     ·refine k_true f rfl aI ?_
      refine k_skip ?_
      refine k_block (k_region ?_)
      refine l_mv f rfl rfl fun a f => l_in f rfl rfl rfl b_add fun a f => l_as f rfl rfl fun a f => l_nil ?_
      obtain rfl := sj aB
      exact ⟨_, rfl, _, rfl, _, (GLe.trans aD aH), f.weak ⟨rfl, rfl, rfl, rfl, rfl, rfl, trivial⟩, m⟩
     ·refine k_false f rfl aI ?_
      refine k_exit rfl ?_
      obtain rfl := sj aB
      obtain rfl := aC _ rfl
      exact ⟨_, rfl, _, (GLe.trans aD aH), f.weak ⟨rfl, rfl, rfl, rfl, rfl, rfl, trivial⟩, m⟩
    ·intro aJ
     rcases cond_some aF with ⟨aK, aF⟩ | ⟨aK, aF⟩
     ·refine q_mv 4 18 rfl (by kernel_rfl) f (wanted_of f rfl rfl rfl aK) rfl rfl fun a f => ?_
      refine q_mv 5 18 rfl (by kernel_rfl) f (wanted_of f rfl rfl rfl aK) rfl rfl fun a f => q_mv 6 18 rfl (by kernel_rfl) f (wanted_of f rfl rfl rfl aK) rfl rfl fun a f => ?_
      obtain ⟨aL, aM, aF⟩ := bind_some aF
      refine q_own_at (i := 7) 18 0 m ap rfl T22 aM rfl (by kernel_rfl) rfl f (wanted_of f rfl rfl rfl aK) rfl rfl rfl fun aN a aO f => q_own_load (i := 8) 18 0 ap rfl Pl42 aO aM rfl (by kernel_rfl) rfl f (wanted_of f rfl rfl rfl aK) rfl rfl fun aP a aQ f => q_mv 9 18 rfl (by kernel_rfl) f (wanted_of f rfl rfl rfl aK) rfl rfl fun a f => q_mv 10 18 rfl (by kernel_rfl) f (wanted_of f rfl rfl rfl aK) rfl rfl fun a f => q_p 11 18 rfl (by kernel_rfl) f (wanted_of f rfl rfl rfl aK) rfl rfl (fun _ => r_int (f.eval rfl) (f.eval rfl) b_sub) fun a f => ?_
      obtain ⟨aR, aS, aF⟩ := bind_some aF
      refine q_own_at (i := 12) 18 0 m ap rfl T22 aS rfl (by kernel_rfl) rfl f (wanted_of f rfl rfl rfl aK) rfl rfl rfl fun aT a aU f => q_own_load (i := 13) 18 0 ap rfl Pl42 aU aS rfl (by kernel_rfl) rfl f (wanted_of f rfl rfl rfl aK) rfl rfl fun aV a aW f => ?_
      obtain ⟨aX, aY, aF⟩ := bind_some aF
      refine q_callv (i := 14) 18 rfl (by kernel_rfl) rfl f (wanted_of f rfl rfl rfl aK) rfl rfl rfl Tryz.call58 (fun _ _ w aZ m => Wk.slices_Compare_int64_int64 m (rd1 aZ (aQ.2)) (rd1 aZ (aW.2)) aY) fun a f => q_p 15 18 rfl (by kernel_rfl) f (wanted_of f rfl rfl rfl aK) rfl rfl (fun _ => r_int (f.eval rfl) (f.eval rfl) b_lss) fun a f => q_p 16 18 rfl (by kernel_rfl) f (wanted_of f rfl rfl rfl aK) rfl rfl (fun _ => r_not (f.eval rfl)) fun a f => q_p 17 18 rfl (by kernel_rfl) f rfl rfl rfl (fun _ => r_pickT (f.eval rfl) aK (f.eval rfl)) fun a f => ?_
      obtain rfl := sj aF
      exact aJ _ (f.weak ⟨rfl, rfl, rfl, rfl, rfl, rfl, rfl, rfl, rfl, rfl, rfl, trivial⟩)
     ·refine q_ng 4 18 rfl (by kernel_rfl) f rfl rfl aK rfl fun a f => ?_
      refine q_ng 5 18 rfl (by kernel_rfl) f rfl rfl aK rfl fun a f => q_ng 6 18 rfl (by kernel_rfl) f rfl rfl aK rfl fun a f => q_ng 7 18 rfl (by kernel_rfl) f rfl rfl aK rfl fun a f => q_ng 8 18 rfl (by kernel_rfl) f rfl rfl aK rfl fun a f => q_ng 9 18 rfl (by kernel_rfl) f rfl rfl aK rfl fun a f => q_ng 10 18 rfl (by kernel_rfl) f rfl rfl aK rfl fun a f => q_ng 11 18 rfl (by kernel_rfl) f rfl rfl aK rfl fun a f => q_ng 12 18 rfl (by kernel_rfl) f rfl rfl aK rfl fun a f => q_ng 13 18 rfl (by kernel_rfl) f rfl rfl aK rfl fun a f => q_ng 14 18 rfl (by kernel_rfl) f rfl rfl aK rfl fun a f => q_ng 15 18 rfl (by kernel_rfl) f rfl rfl aK rfl fun a f => q_ng 16 18 rfl (by kernel_rfl) f rfl rfl aK rfl fun a f => q_p 17 18 rfl (by kernel_rfl) f rfl rfl rfl (fun _ => r_pickF (f.eval rfl) aK (f.eval rfl)) fun a f => ?_
      obtain rfl := sj aF
      exact aJ _ (f.weak ⟨rfl, rfl, rfl, rfl, rfl, rfl, rfl, rfl, rfl, rfl, rfl, trivial⟩)
   ·rintro a w ⟨av, rfl, aw, a0, f, m⟩
    have ap := Ow.mono (RTg.mono (RI.mono _)) a0 ap
    refine k_seq (k_seq (k_region ?_))
    refine l_mv f rfl rfl fun a f => l_mv f rfl rfl fun a f => l_in f rfl rfl rfl b_eql fun a f => l_nil ?_
    rcases cond_some am with ⟨a1, am⟩ | ⟨a1, am⟩
    ·refine k_true f rfl a1 ?_
     refine k_seq (k_region ?_)
     refine l_as f rfl rfl fun a f => l_nil ?_
     refine k_ret ?_
     obtain rfl := sj am
     obtain rfl := an _ rfl
     obtain rfl := sj hd
     exact ⟨[(.bool true)], ⟨f.get _ _ rfl, trivial⟩, f.defers, _, [ak], (GLe.trans ao a0), m, _, rfl, rfl, ap⟩
    ·refine k_false f rfl a1 ?_
     refine k_skip ?_
     refine k_seq (k_seq (k_region ?_))
     refine l_mv f rfl rfl fun a f => l_mv f rfl rfl fun a f => l_in f rfl rfl rfl b_sub fun a f => l_in f rfl rfl rfl b_lss fun a f => l_nil ?_
     rcases cond_some am with ⟨a2, am⟩ | ⟨a2, am⟩
     ·refine k_true f rfl a2 ?_
      refine k_seq (k_region ?_)
      refine l_as f rfl rfl fun a f => l_nil ?_
      refine k_ret ?_
      obtain rfl := sj am
      obtain rfl := an _ rfl
      obtain rfl := sj hd
      exact ⟨[(.bool false)], ⟨f.get _ _ rfl, trivial⟩, f.defers, _, [ak], (GLe.trans ao a0), m, _, rfl, rfl, ap⟩
     ·refine k_false f rfl a2 ?_
      refine k_skip ?_
      refine k_seq ?_
      refine k_draw0 Follows m ?_
      refine p_p 2 rfl (by kernel_rfl) f rfl rfl rfl (fun _ => r_move (f.eval rfl)) fun a f => p_p 3 rfl (by kernel_rfl) f rfl rfl rfl (fun _ => r_move (f.eval rfl)) fun a f => p_p 4 rfl (by kernel_rfl) f rfl rfl rfl (fun _ => r_int (f.eval rfl) (f.eval rfl) b_sub) fun a f => k_draw1 28015 12 (by kernel_rfl) rfl ?_
      refine q_mv 0 28015 rfl (by kernel_rfl) f rfl rfl rfl fun a f => q_mv 1 28015 rfl (by kernel_rfl) f rfl rfl rfl fun a f => q_mv 5 28015 rfl (by kernel_rfl) f rfl rfl rfl fun a f => q_mv 6 28015 rfl (by kernel_rfl) f rfl rfl rfl fun a f => q_p 7 28015 rfl (by kernel_rfl) f rfl rfl rfl (fun _ => r_int (f.eval rfl) (f.eval rfl) b_sub) fun a f => ?_
      obtain ⟨a3, a4, am⟩ := bind_some am
      refine q_own_at (i := 8) 28015 0 m ap rfl T22 a4 rfl (by kernel_rfl) rfl f rfl rfl rfl rfl fun a5 a a6 f => q_own_load (i := 9) 28015 0 ap rfl Pl42 a6 a4 rfl (by kernel_rfl) rfl f rfl rfl rfl fun a7 a a8 f => q_mv 10 28015 rfl (by kernel_rfl) f rfl rfl rfl fun a f => q_mv 11 28015 rfl (by kernel_rfl) f rfl rfl rfl fun a f => ?_
      obtain ⟨a9, ba, am⟩ := bind_some am
      refine q_own_at (i := 12) 28015 0 m ap rfl T22 ba rfl (by kernel_rfl) rfl f rfl rfl rfl rfl fun bb a bc f => q_own_load (i := 13) 28015 0 ap rfl Pl42 bc ba rfl (by kernel_rfl) rfl f rfl rfl rfl fun bd a be f => ?_
      obtain ⟨bf, bg, am⟩ := bind_some am
      refine q_own_at (i := 14) 28015 0 m ap rfl T22 bg rfl (by kernel_rfl) rfl f rfl rfl rfl rfl fun bh a bi f => q_end fun bj w bk m => ?_
      have a8 := (RTg.mono (RI.mono _)) _ _ _ _ bk a8
      have be := (RTg.mono (RI.mono _)) _ _ _ _ bk be
      have ap := Ow.mono (RTg.mono (RI.mono _)) bk ap
      refine l_own_store 0 m ap rfl Tryz.sizeOf42 f rfl rfl bi bg a8.cells a8.one1 a8 fun bl w m bm => ?_
      obtain ⟨bn, bo, am⟩ := bind_some am
      refine l_own_at 0 m bm rfl T22 f rfl rfl rfl bo fun bp a bq f => l_own_store 0 m bm rfl Tryz.sizeOf42 f rfl rfl bq bo be.cells be.one1 be fun br w m bs => l_nil (k_seq (k_seq (k_region ?_)))
      refine l_mv f rfl rfl fun a f => l_mv f rfl rfl fun a f => l_in f rfl rfl rfl b_sub fun a f => l_in f rfl rfl rfl b_geq fun a f => l_nil ?_
      obtain ⟨bt, bu, am⟩ := bind_some am
      refine k_cut (fun a w => ∃ bv : List (Value × List Int), bv = bt ∧ ∃ (bw : GH) (bx : Itm), GLe bj bw ∧ Fr a 141 [(0, v0), (1, (.int .i64 x1)), (2, (.int .i64 x2)), (3, (.func (.func 58) #[] #[])), (9, (.int .i64 av)), (10, (.int .i64 ai))] ∧ Mem W bw w (bx :: H) ∧ Ow (RTg (RI .i64)) 42 bw bx v0 bv) ?_ ?_
      ·rcases cond_some bu with ⟨bz, bu⟩ | ⟨bz, bu⟩
       ·refine k_true f rfl bz ?_
        refine k_seq (k_region ?_)
        refine l_mv f rfl rfl fun a f => l_in f rfl rfl rfl b_sub fun a f => l_as f rfl rfl fun a f => l_nil ?_
        obtain ⟨bA, bB, bu⟩ := bind_some bu
        refine k_cut (fun a w => ∃ bC : List (Value × List Int), bC = bA ∧ ∃ (bD : GH) (bE : Itm), GLe bj bD ∧ Fr a 141 [(0, v0), (1, (.int .i64 x1)), (2, (.int .i64 x2)), (3, (.func (.func 58) #[] #[])), (9, (.int .i64 av)), (10, (.int .i64 ai))] ∧ Mem W bD w (bE :: H) ∧ Ow (RTg (RI .i64)) 42 bD bE v0 bC) ?_ ?_
        ·refine k_block ?_
         refine k_loop (fun bF a w => ∃ bG : List (Value × List Int), ∃ bH : Int, (bG, bH) = bF ∧ ∃ (bI : GH) (bJ : Itm), GLe bj bI ∧ Fr a 141 [(0, v0), (1, (.int .i64 x1)), (2, (.int .i64 x2)), (3, (.func (.func 58) #[] #[])), (9, (.int .i64 av)), (10, (.int .i64 ai)), (11, (.int .i64 bH))] ∧ Mem W bI w (bJ :: H) ∧ Ow (RTg (RI .i64)) 42 bI bJ v0 bG) bB ⟨_, _, rfl, _, br, (GLe.refl _), f.weak ⟨rfl, rfl, rfl, rfl, rfl, rfl, rfl, trivial⟩, m, bs⟩ ?_
         clear bB f m
         rintro bF bK bL bM a w ⟨bG, bH, rfl, bI, bJ, bN, f, m, bO⟩
         refine k_seq (k_seq (k_region ?_))
         refine l_mv f rfl rfl fun a f => l_in f rfl rfl rfl b_geq fun a f => l_nil ?_
         rcases cond_some bL with ⟨bP, bL⟩ | ⟨bP, bL⟩
         ·refine k_true f rfl bP ?_
          refine k_skip ?_
          refine k_seq (k_block (k_seq (k_seq ?_)))
          refine k_draw 13 Follows (by kernel_rfl) m ?_
          refine q_mv 0 13 rfl (by kernel_rfl) f rfl rfl rfl fun a f => q_mv 1 13 rfl (by kernel_rfl) f rfl rfl rfl fun a f => q_mv 2 13 rfl (by kernel_rfl) f rfl rfl rfl fun a f => ?_
          obtain ⟨bQ, bR, bL⟩ := bind_some bL
          refine q_own_at (i := 3) 13 0 m bO rfl T22 bR rfl (by kernel_rfl) rfl f rfl rfl rfl rfl fun bS a bT f => q_own_load (i := 4) 13 0 bO rfl Pl42 bT bR rfl (by kernel_rfl) rfl f rfl rfl rfl fun bU a bV f => q_mv 5 13 rfl (by kernel_rfl) f rfl rfl rfl fun a f => q_mv 6 13 rfl (by kernel_rfl) f rfl rfl rfl fun a f => q_p 7 13 rfl (by kernel_rfl) f rfl rfl rfl (fun _ => r_int (f.eval rfl) (f.eval rfl) b_sub) fun a f => ?_
          obtain ⟨bW, bX, bL⟩ := bind_some bL
          refine q_own_at (i := 8) 13 0 m bO rfl T22 bX rfl (by kernel_rfl) rfl f rfl rfl rfl rfl fun bY a bZ f => q_own_load (i := 9) 13 0 bO rfl Pl42 bZ bX rfl (by kernel_rfl) rfl f rfl rfl rfl fun b0 a b1 f => ?_
          obtain ⟨b2, b3, bL⟩ := bind_some bL
          refine q_callv (i := 10) 13 rfl (by kernel_rfl) rfl f rfl rfl rfl rfl Tryz.call58 (fun _ _ w b4 m => Wk.slices_Compare_int64_int64 m (rd1 b4 (bV.2)) (rd1 b4 (b1.2)) b3) fun a f => q_p 11 13 rfl (by kernel_rfl) f rfl rfl rfl (fun _ => r_int (f.eval rfl) (f.eval rfl) b_lss) fun a f => q_p 12 13 rfl (by kernel_rfl) f rfl rfl rfl (fun _ => r_not (f.eval rfl)) fun a f => q_end fun b5 w b6 m => ?_
          have bV := (RTg.mono (RI.mono _)) _ _ _ _ b6 bV
          have b1 := (RTg.mono (RI.mono _)) _ _ _ _ b6 b1
          have bO := Ow.mono (RTg.mono (RI.mono _)) b6 bO
          refine l_nil ?_
          rcases cond_some bL with ⟨b7, bL⟩ | ⟨b7, bL⟩
          ·refine k_true f rfl b7 ?_
           refine k_exit rfl ?_
           obtain rfl := sj bL
           obtain rfl := bM _ rfl
           exact ⟨_, rfl, _, bJ, (GLe.trans bN b6), f.weak ⟨rfl, rfl, rfl, rfl, rfl, rfl, trivial⟩, m, bO⟩
          ·refine k_false f rfl b7 ?_
           refine k_skip ?_
           refine k_draw0 Follows m ?_
           refine p_p 2 rfl (by kernel_rfl) f rfl rfl rfl (fun _ => r_move (f.eval rfl)) fun a f => p_p 3 rfl (by kernel_rfl) f rfl rfl rfl (fun _ => r_move (f.eval rfl)) fun a f => p_p 4 rfl (by kernel_rfl) f rfl rfl rfl (fun _ => r_int (f.eval rfl) (f.eval rfl) b_sub) fun a f => k_draw1 28015 12 (by kernel_rfl) rfl ?_
           refine q_mv 0 28015 rfl (by kernel_rfl) f rfl rfl rfl fun a f => q_mv 1 28015 rfl (by kernel_rfl) f rfl rfl rfl fun a f => q_mv 5 28015 rfl (by kernel_rfl) f rfl rfl rfl fun a f => q_mv 6 28015 rfl (by kernel_rfl) f rfl rfl rfl fun a f => q_p 7 28015 rfl (by kernel_rfl) f rfl rfl rfl (fun _ => r_int (f.eval rfl) (f.eval rfl) b_sub) fun a f => ?_
           obtain ⟨b8, b9, bL⟩ := bind_some bL
           refine q_own_at (i := 8) 28015 0 m bO rfl T22 b9 rfl (by kernel_rfl) rfl f rfl rfl rfl rfl fun ca a cb f => q_own_load (i := 9) 28015 0 bO rfl Pl42 cb b9 rfl (by kernel_rfl) rfl f rfl rfl rfl fun cc a cd f => q_mv 10 28015 rfl (by kernel_rfl) f rfl rfl rfl fun a f => q_mv 11 28015 rfl (by kernel_rfl) f rfl rfl rfl fun a f => ?_
           obtain ⟨ce, cf, bL⟩ := bind_some bL
           refine q_own_at (i := 12) 28015 0 m bO rfl T22 cf rfl (by kernel_rfl) rfl f rfl rfl rfl rfl fun cg a ch f => q_own_load (i := 13) 28015 0 bO rfl Pl42 ch cf rfl (by kernel_rfl) rfl f rfl rfl rfl fun ci a cj f => ?_
           obtain ⟨ck, cl, bL⟩ := bind_some bL
           refine q_own_at (i := 14) 28015 0 m bO rfl T22 cl rfl (by kernel_rfl) rfl f rfl rfl rfl rfl fun cm a cn f => q_end fun co w cp m => ?_
           have cd := (RTg.mono (RI.mono _)) _ _ _ _ cp cd
           have cj := (RTg.mono (RI.mono _)) _ _ _ _ cp cj
           have bO := Ow.mono (RTg.mono (RI.mono _)) cp bO
           refine l_own_store 0 m bO rfl Tryz.sizeOf42 f rfl rfl cn cl cd.cells cd.one1 cd fun cq w m cr => ?_
           obtain ⟨cs, ct, bL⟩ := bind_some bL
           refine l_own_at 0 m cr rfl T22 f rfl rfl rfl ct fun cu a cv f => l_own_store 0 m cr rfl Tryz.sizeOf42 f rfl rfl cv ct cj.cells cj.one1 cj fun cw w m cx => l_nil (k_region ?_)
           refine l_mv f rfl rfl fun a f => l_in f rfl rfl rfl b_sub fun a f => l_as f rfl rfl fun a f => l_nil ?_
           obtain rfl := sj bL
           exact ⟨_, rfl, _, _, rfl, _, cw, (GLe.trans bN (GLe.trans b6 cp)), f.weak ⟨rfl, rfl, rfl, rfl, rfl, rfl, rfl, trivial⟩, m, cx⟩
         ·refine k_false f rfl bP ?_
          refine k_exit rfl ?_
          obtain rfl := sj bL
          obtain rfl := bM _ rfl
          exact ⟨_, rfl, _, bJ, bN, f.weak ⟨rfl, rfl, rfl, rfl, rfl, rfl, trivial⟩, m, bO⟩
        ·rintro a w ⟨bC, rfl, bD, bE, cy, f, m, cz⟩
         obtain rfl := sj bu
         exact ⟨_, rfl, _, bE, cy, f.weak ⟨rfl, rfl, rfl, rfl, rfl, rfl, trivial⟩, m, cz⟩
       ·refine k_false f rfl bz ?_
        refine k_skip ?_
        obtain rfl := sj bu
        exact ⟨_, rfl, _, br, (GLe.refl _), f.weak ⟨rfl, rfl, rfl, rfl, rfl, rfl, trivial⟩, m, bs⟩
      ·rintro a w ⟨bv, rfl, bw, bx, cA, f, m, cB⟩
       refine k_seq (k_region ?_)
       refine l_mv f rfl rfl fun a f => l_mv f rfl rfl fun a f => l_in f rfl rfl rfl b_sub fun a f => l_in f rfl rfl rfl b_geq fun a f => l_nil ?_
       rcases cond_some am with ⟨cC, am⟩ | ⟨cC, am⟩
       ·refine k_true f rfl cC ?_
        refine k_seq (k_region ?_)
        refine l_mv f rfl rfl fun a f => l_in f rfl rfl rfl b_add fun a f => l_as f rfl rfl fun a f => l_nil ?_
        obtain ⟨cD, cE, am⟩ := bind_some am
        refine k_cut (fun a w => ∃ cF : List (Value × List Int), cF = cD ∧ ∃ (cG : GH) (cH : Itm), GLe bw cG ∧ Fr a 141 [(0, v0), (1, (.int .i64 x1)), (2, (.int .i64 x2)), (3, (.func (.func 58) #[] #[])), (9, (.int .i64 av)), (10, (.int .i64 ai))] ∧ Mem W cG w (cH :: H) ∧ Ow (RTg (RI .i64)) 42 cG cH v0 cF) ?_ ?_
        ·refine k_block ?_
         refine k_loop (fun cI a w => ∃ cJ : List (Value × List Int), ∃ cK : Int, (cJ, cK) = cI ∧ ∃ (cL : GH) (cM : Itm), GLe bw cL ∧ Fr a 141 [(0, v0), (1, (.int .i64 x1)), (2, (.int .i64 x2)), (3, (.func (.func 58) #[] #[])), (9, (.int .i64 av)), (10, (.int .i64 ai)), (12, (.int .i64 cK))] ∧ Mem W cL w (cM :: H) ∧ Ow (RTg (RI .i64)) 42 cL cM v0 cJ) cE ⟨_, _, rfl, _, bx, (GLe.refl _), f.weak ⟨rfl, rfl, rfl, rfl, rfl, rfl, rfl, trivial⟩, m, cB⟩ ?_
         clear cE f m
         rintro cI cN cO cP a w ⟨cJ, cK, rfl, cL, cM, cQ, f, m, cR⟩
         refine k_seq (k_seq (k_region ?_))
         refine l_mv f rfl rfl fun a f => l_mv f rfl rfl fun a f => l_in f rfl rfl rfl b_lss fun a f => l_nil ?_
         rcases cond_some cO with ⟨cS, cO⟩ | ⟨cS, cO⟩
         ·refine k_true f rfl cS ?_
          refine k_skip ?_
          refine k_seq (k_block (k_seq (k_seq ?_)))
          refine k_draw 13 Follows (by kernel_rfl) m ?_
          refine q_mv 0 13 rfl (by kernel_rfl) f rfl rfl rfl fun a f => q_mv 1 13 rfl (by kernel_rfl) f rfl rfl rfl fun a f => q_mv 2 13 rfl (by kernel_rfl) f rfl rfl rfl fun a f => ?_
          obtain ⟨cT, cU, cO⟩ := bind_some cO
          refine q_own_at (i := 3) 13 0 m cR rfl T22 cU rfl (by kernel_rfl) rfl f rfl rfl rfl rfl fun cV a cW f => q_own_load (i := 4) 13 0 cR rfl Pl42 cW cU rfl (by kernel_rfl) rfl f rfl rfl rfl fun cX a cY f => q_mv 5 13 rfl (by kernel_rfl) f rfl rfl rfl fun a f => q_mv 6 13 rfl (by kernel_rfl) f rfl rfl rfl fun a f => q_p 7 13 rfl (by kernel_rfl) f rfl rfl rfl (fun _ => r_int (f.eval rfl) (f.eval rfl) b_sub) fun a f => ?_
          obtain ⟨cZ, c0, cO⟩ := bind_some cO
          refine q_own_at (i := 8) 13 0 m cR rfl T22 c0 rfl (by kernel_rfl) rfl f rfl rfl rfl rfl fun c1 a c2 f => q_own_load (i := 9) 13 0 cR rfl Pl42 c2 c0 rfl (by kernel_rfl) rfl f rfl rfl rfl fun c3 a c4 f => ?_
          obtain ⟨c5, c6, cO⟩ := bind_some cO
          refine q_callv (i := 10) 13 rfl (by kernel_rfl) rfl f rfl rfl rfl rfl Tryz.call58 (fun _ _ w c7 m => Wk.slices_Compare_int64_int64 m (rd1 c7 (cY.2)) (rd1 c7 (c4.2)) c6) fun a f => q_p 11 13 rfl (by kernel_rfl) f rfl rfl rfl (fun _ => r_int (f.eval rfl) (f.eval rfl) b_lss) fun a f => q_p 12 13 rfl (by kernel_rfl) f rfl rfl rfl (fun _ => r_not (f.eval rfl)) fun a f => q_end fun c8 w c9 m => ?_
          have cY := (RTg.mono (RI.mono _)) _ _ _ _ c9 cY
          have c4 := (RTg.mono (RI.mono _)) _ _ _ _ c9 c4
          have cR := Ow.mono (RTg.mono (RI.mono _)) c9 cR
          refine l_nil ?_
          rcases cond_some cO with ⟨da, cO⟩ | ⟨da, cO⟩
          ·refine k_true f rfl da ?_
           refine k_exit rfl ?_
           obtain rfl := sj cO
           obtain rfl := cP _ rfl
           exact ⟨_, rfl, _, cM, (GLe.trans cQ c9), f.weak ⟨rfl, rfl, rfl, rfl, rfl, rfl, trivial⟩, m, cR⟩
          ·refine k_false f rfl da ?_
           refine k_skip ?_
           refine k_draw0 Follows m ?_
           refine p_p 2 rfl (by kernel_rfl) f rfl rfl rfl (fun _ => r_move (f.eval rfl)) fun a f => p_p 3 rfl (by kernel_rfl) f rfl rfl rfl (fun _ => r_move (f.eval rfl)) fun a f => p_p 4 rfl (by kernel_rfl) f rfl rfl rfl (fun _ => r_int (f.eval rfl) (f.eval rfl) b_sub) fun a f => k_draw1 28015 12 (by kernel_rfl) rfl ?_
           refine q_mv 0 28015 rfl (by kernel_rfl) f rfl rfl rfl fun a f => q_mv 1 28015 rfl (by kernel_rfl) f rfl rfl rfl fun a f => q_mv 5 28015 rfl (by kernel_rfl) f rfl rfl rfl fun a f => q_mv 6 28015 rfl (by kernel_rfl) f rfl rfl rfl fun a f => q_p 7 28015 rfl (by kernel_rfl) f rfl rfl rfl (fun _ => r_int (f.eval rfl) (f.eval rfl) b_sub) fun a f => ?_
           obtain ⟨db, dc, cO⟩ := bind_some cO
           refine q_own_at (i := 8) 28015 0 m cR rfl T22 dc rfl (by kernel_rfl) rfl f rfl rfl rfl rfl fun dd a de f => q_own_load (i := 9) 28015 0 cR rfl Pl42 de dc rfl (by kernel_rfl) rfl f rfl rfl rfl fun df a dg f => q_mv 10 28015 rfl (by kernel_rfl) f rfl rfl rfl fun a f => q_mv 11 28015 rfl (by kernel_rfl) f rfl rfl rfl fun a f => ?_
           obtain ⟨dh, di, cO⟩ := bind_some cO
           refine q_own_at (i := 12) 28015 0 m cR rfl T22 di rfl (by kernel_rfl) rfl f rfl rfl rfl rfl fun dj a dk f => q_own_load (i := 13) 28015 0 cR rfl Pl42 dk di rfl (by kernel_rfl) rfl f rfl rfl rfl fun dl a dm f => ?_
           obtain ⟨dn, dp, cO⟩ := bind_some cO
           refine q_own_at (i := 14) 28015 0 m cR rfl T22 dp rfl (by kernel_rfl) rfl f rfl rfl rfl rfl fun dq a dr f => q_end fun ds w dt m => ?_
           have dg := (RTg.mono (RI.mono _)) _ _ _ _ dt dg
           have dm := (RTg.mono (RI.mono _)) _ _ _ _ dt dm
           have cR := Ow.mono (RTg.mono (RI.mono _)) dt cR
           refine l_own_store 0 m cR rfl Tryz.sizeOf42 f rfl rfl dr dp dg.cells dg.one1 dg fun du w m dv => ?_
           obtain ⟨dw, dx, cO⟩ := bind_some cO
           refine l_own_at 0 m dv rfl T22 f rfl rfl rfl dx fun dy a dz f => l_own_store 0 m dv rfl Tryz.sizeOf42 f rfl rfl dz dx dm.cells dm.one1 dm fun dA w m dB => l_nil (k_region ?_)
           refine l_mv f rfl rfl fun a f => l_in f rfl rfl rfl b_add fun a f => l_as f rfl rfl fun a f => l_nil ?_
           obtain rfl := sj cO
           exact ⟨_, rfl, _, _, rfl, _, dA, (GLe.trans cQ (GLe.trans c9 dt)), f.weak ⟨rfl, rfl, rfl, rfl, rfl, rfl, rfl, trivial⟩, m, dB⟩
         ·refine k_false f rfl cS ?_
          refine k_exit rfl ?_
          obtain rfl := sj cO
          obtain rfl := cP _ rfl
          exact ⟨_, rfl, _, cM, cQ, f.weak ⟨rfl, rfl, rfl, rfl, rfl, rfl, trivial⟩, m, cR⟩
        ·rintro a w ⟨cF, rfl, cG, cH, dC, f, m, dD⟩
         refine k_region ?_
         refine l_mv f rfl rfl fun a f => l_in f rfl rfl rfl b_add fun a f => l_as f rfl rfl fun a f => l_nil ?_
         obtain rfl := sj am
         exact ⟨_, rfl, _, _, _, rfl, _, cH, (GLe.trans ao (GLe.trans a0 (GLe.trans bk (GLe.trans cA dC)))), f.weak ⟨rfl, rfl, rfl, rfl, rfl, rfl, trivial⟩, m, dD⟩
       ·refine k_false f rfl cC ?_
        refine k_skip ?_
        refine k_region ?_
        refine l_mv f rfl rfl fun a f => l_in f rfl rfl rfl b_add fun a f => l_as f rfl rfl fun a f => l_nil ?_
        obtain rfl := sj am
        exact ⟨_, rfl, _, _, _, rfl, _, bx, (GLe.trans ao (GLe.trans a0 (GLe.trans bk cA))), f.weak ⟨rfl, rfl, rfl, rfl, rfl, rfl, trivial⟩, m, cB⟩
  ·refine k_false f rfl aq ?_
   refine k_exit rfl ?_
   obtain rfl := sj am
   obtain rfl := an _ rfl
   exact ⟨_, rfl, _, rfl, _, ak, ao, f.weak trivial, m, ap⟩
 ·rintro a w ⟨_, rfl, ac, rfl, ad, ae, dE, f, m, dF⟩
  refine k_seq (k_region ?_)
  refine l_as f rfl rfl fun a f => l_nil ?_
  refine k_ret ?_
  obtain rfl := sj hd
  exact ⟨[(.bool false)], ⟨f.get _ _ rfl, trivial⟩, f.defers, _, [ae], dE, m, _, rfl, rfl, dF⟩

theorem Wk.slices_partitionEqualCmpFunc_int64__slices_Compare_int64_int64 {W w : World} {G : GH} {H : List Itm} {v0 : Value} {it0 : Itm} {x0 : (List (Value × List Int))} {x1 : Int} {x2 : Int} {x3 : Int} (m : Mem W G w (it0 :: H)) (o0 : Ow (RTg (RI .i64)) 42 G it0 v0 x0) {y : Int × ((List (Value × List Int)))} (hd : D.slices_partitionEqualCmpFunc_int64__slices_Compare_int64_int64 x0 x1 x2 x3 = some y) :
  Calls Tryz.prog 160 #[v0, (.int .i64 x1), (.int .i64 x2), (.int .i64 x3), (.func (.func 58) #[] #[])] w (Res W G H (fun G' Ho v => ∃ i0 : Itm, Ho = [i0] ∧ v = (.int .i64 y.1) ∧ Ow (RTg (RI .i64)) 42 G' i0 v0 y.2)) := by
 refine calls_b (args := [v0, (.int .i64 x1), (.int .i64 x2), (.int .i64 x3), (.func (.func 58) #[] #[])]) (N := 90) [.tmp 10] Tryz.func160 rfl rfl (Nat.le_of_ble_eq_true rfl) rfl fun a f => ?_
 unfold D.slices_partitionEqualCmpFunc_int64__slices_Compare_int64_int64 at hd
 refine k_seq (k_region ?_)
 refine l_as f rfl rfl fun a f => l_nil (k_seq ?_)
 refine k_draw0 Follows m ?_
 refine p_p 2 rfl (by kernel_rfl) f rfl rfl rfl (fun _ => r_move (f.eval rfl)) fun a f => p_p 3 rfl (by kernel_rfl) f rfl rfl rfl (fun _ => r_move (f.eval rfl)) fun a f => k_draw1 12013 11 (by kernel_rfl) rfl ?_
 refine q_mv 0 12013 rfl (by kernel_rfl) f rfl rfl rfl fun a f => q_mv 1 12013 rfl (by kernel_rfl) f rfl rfl rfl fun a f => q_mv 4 12013 rfl (by kernel_rfl) f rfl rfl rfl fun a f => q_mv 5 12013 rfl (by kernel_rfl) f rfl rfl rfl fun a f => ?_
 obtain ⟨aa, ab, hd⟩ := bind_some hd
 refine q_own_at (i := 6) 12013 0 m o0 rfl T22 ab rfl (by kernel_rfl) rfl f rfl rfl rfl rfl fun ac a ad f => q_own_load (i := 7) 12013 0 o0 rfl Pl42 ad ab rfl (by kernel_rfl) rfl f rfl rfl rfl fun ae a af f => q_mv 8 12013 rfl (by kernel_rfl) f rfl rfl rfl fun a f => q_mv 9 12013 rfl (by kernel_rfl) f rfl rfl rfl fun a f => ?_
 obtain ⟨ag, ah, hd⟩ := bind_some hd
 refine q_own_at (i := 10) 12013 0 m o0 rfl T22 ah rfl (by kernel_rfl) rfl f rfl rfl rfl rfl fun ai a aj f => q_own_load (i := 11) 12013 0 o0 rfl Pl42 aj ah rfl (by kernel_rfl) rfl f rfl rfl rfl fun ak a al f => ?_
 obtain ⟨am, an, hd⟩ := bind_some hd
 refine q_own_at (i := 12) 12013 0 m o0 rfl T22 an rfl (by kernel_rfl) rfl f rfl rfl rfl rfl fun ao a ap f => q_end fun aq w ar m => ?_
 have af := (RTg.mono (RI.mono _)) _ _ _ _ ar af
 have al := (RTg.mono (RI.mono _)) _ _ _ _ ar al
 have o0 := Ow.mono (RTg.mono (RI.mono _)) ar o0
 refine l_own_store 0 m o0 rfl Tryz.sizeOf42 f rfl rfl ap an af.cells af.one1 af fun au w m av => ?_
 obtain ⟨aw, ax, hd⟩ := bind_some hd
 refine l_own_at 0 m av rfl T22 f rfl rfl rfl ax fun ay a az f => l_own_store 0 m av rfl Tryz.sizeOf42 f rfl rfl az ax al.cells al.one1 al fun aA w m aB => l_nil (k_seq (k_region ?_))
 refine l_mv f rfl rfl fun a f => l_in f rfl rfl rfl b_add fun a f => l_mv f rfl rfl fun a f => l_in f rfl rfl rfl b_sub fun a f => l_as f rfl rfl fun a f => l_as f rfl rfl fun a f => l_nil (k_seq ?_)
 obtain ⟨aC, aD, hd⟩ := bind_some hd
 refine k_cut (fun a w => ∃ aE : List (Value × List Int), ∃ aF : Int, (aE, aF) = aC ∧ ∃ (aG : GH) (aH : Itm), GLe aq aG ∧ Fr a 90 [(11, (.int .i64 aF))] ∧ Mem W aG w (aH :: H) ∧ Ow (RTg (RI .i64)) 42 aG aH v0 aE) ?_ ?_
 ·refine k_block ?_
  refine k_loop (fun aI a w => ∃ aJ : List (Value × List Int), ∃ aK : Int, ∃ aL : Int, (aJ, aK, aL) = aI ∧ ∃ (aM : GH) (aN : Itm), GLe aq aM ∧ Fr a 90 [(0, v0), (1, (.int .i64 x1)), (4, (.func (.func 58) #[] #[])), (11, (.int .i64 aK)), (12, (.int .i64 aL))] ∧ Mem W aM w (aN :: H) ∧ Ow (RTg (RI .i64)) 42 aM aN v0 aJ) aD ⟨_, _, _, rfl, _, aA, (GLe.refl _), f.weak ⟨rfl, rfl, rfl, rfl, rfl, trivial⟩, m, aB⟩ ?_
  clear aD f m
  rintro aI aO aP aQ a w ⟨aJ, aK, aL, rfl, aM, aN, aR, f, m, aS⟩
  refine k_block (k_seq ?_)
  obtain ⟨aT, aU, aP⟩ := bind_some aP
  refine k_cut (fun a w => ∃ aV : Int, aV = aT ∧ ∃ (aW : GH), GLe aM aW ∧ Fr a 90 [(0, v0), (1, (.int .i64 x1)), (4, (.func (.func 58) #[] #[])), (11, (.int .i64 aV)), (12, (.int .i64 aL))] ∧ Mem W aW w (aN :: H)) ?_ ?_
  ·refine k_block ?_
   refine k_loop (fun aX a w => ∃ aY : Int, aY = aX ∧ ∃ (aZ : GH), GLe aM aZ ∧ Fr a 90 [(0, v0), (1, (.int .i64 x1)), (4, (.func (.func 58) #[] #[])), (11, (.int .i64 aY)), (12, (.int .i64 aL))] ∧ Mem W aZ w (aN :: H)) aU ⟨_, rfl, _, (GLe.refl _), f.weak ⟨rfl, rfl, rfl, rfl, rfl, trivial⟩, m⟩ ?_
   clear aU f m
   rintro aX a0 a1 a2 a w ⟨aY, rfl, aZ, a3, f, m⟩
   have aS := Ow.mono (RTg.mono (RI.mono _)) a3 aS
   refine k_seq (k_seq ?_)
   refine k_draw 17 Follows (by kernel_rfl) m ?_
   refine q_mv 0 17 rfl (by kernel_rfl) f rfl rfl rfl fun a f => q_mv 1 17 rfl (by kernel_rfl) f rfl rfl rfl fun a f => q_p 2 17 rfl (by kernel_rfl) f rfl rfl rfl (fun _ => r_int (f.eval rfl) (f.eval rfl) b_leq) fun a f => q_mv 3 17 rfl (by kernel_rfl) f rfl rfl rfl fun a f => ?_
   obtain ⟨a4, a5, a1⟩ := bind_some a1
   refine q_cut (fuel' := 0) (listed' := #[true, true, true, true, true, true, true, true, true, true, true, true, true, true, true, true, true]) (fun a => Fr a 90 [(0, v0), (1, (.int .i64 x1)), (4, (.func (.func 58) #[] #[])), (11, (.int .i64 aY)), (12, (.int .i64 aL)), (31, (.int .i64 aY)), (32, (.int .i64 aL)), (33, (.bool (decide (aY ≤ aL)))), (34, (.bool (decide (aY ≤ aL)))), (47, (.bool a4))]) ?_ ?_
   ·intro a f
    refine q_end fun a6 w a7 m => ?_
    have aS := Ow.mono (RTg.mono (RI.mono _)) a7 aS
    refine l_nil ?_
    rcases cond_some a1 with ⟨a8, a1⟩ | ⟨a8, a1⟩
    ·refine k_true f rfl a8 ?_
     refine k_skip ?_
     refine k_block (k_region ?_)
     refine l_mv f rfl rfl fun a f => l_in f rfl rfl rfl b_add fun a f => l_as f rfl rfl fun a f => l_nil ?_
     obtain rfl := sj a1
     exact ⟨_, rfl, _, rfl, _, (GLe.trans a3 a7), f.weak ⟨rfl, rfl, rfl, rfl, rfl, trivial⟩, m⟩
    ·refine k_false f rfl a8 ?_
     refine k_exit rfl ?_
     obtain rfl := sj a1
     obtain rfl := a2 _ rfl
     exact ⟨_, rfl, _, (GLe.trans a3 a7), f.weak ⟨rfl, rfl, rfl, rfl, rfl, trivial⟩, m⟩
   ·intro a9
    rcases cond_some a5 with ⟨ba, a5⟩ | ⟨ba, a5⟩
    ·refine q_mv 4 17 rfl (by kernel_rfl) f (wanted_of f rfl rfl rfl ba) rfl rfl fun a f => ?_
     refine q_mv 5 17 rfl (by kernel_rfl) f (wanted_of f rfl rfl rfl ba) rfl rfl fun a f => q_mv 6 17 rfl (by kernel_rfl) f (wanted_of f rfl rfl rfl ba) rfl rfl fun a f => ?_
     obtain ⟨bb, bc, a5⟩ := bind_some a5
     refine q_own_at (i := 7) 17 0 m aS rfl T22 bc rfl (by kernel_rfl) rfl f (wanted_of f rfl rfl rfl ba) rfl rfl rfl fun bd a be f => q_own_load (i := 8) 17 0 aS rfl Pl42 be bc rfl (by kernel_rfl) rfl f (wanted_of f rfl rfl rfl ba) rfl rfl fun bf a bg f => q_mv 9 17 rfl (by kernel_rfl) f (wanted_of f rfl rfl rfl ba) rfl rfl fun a f => q_mv 10 17 rfl (by kernel_rfl) f (wanted_of f rfl rfl rfl ba) rfl rfl fun a f => ?_
     obtain ⟨bh, bi, a5⟩ := bind_some a5
     refine q_own_at (i := 11) 17 0 m aS rfl T22 bi rfl (by kernel_rfl) rfl f (wanted_of f rfl rfl rfl ba) rfl rfl rfl fun bj a bk f => q_own_load (i := 12) 17 0 aS rfl Pl42 bk bi rfl (by kernel_rfl) rfl f (wanted_of f rfl rfl rfl ba) rfl rfl fun bl a bm f => ?_
     obtain ⟨bn, bo, a5⟩ := bind_some a5
     refine q_callv (i := 13) 17 rfl (by kernel_rfl) rfl f (wanted_of f rfl rfl rfl ba) rfl rfl rfl Tryz.call58 (fun _ _ w bp m => Wk.slices_Compare_int64_int64 m (rd1 bp (bg.2)) (rd1 bp (bm.2)) bo) fun a f => q_p 14 17 rfl (by kernel_rfl) f (wanted_of f rfl rfl rfl ba) rfl rfl (fun _ => r_int (f.eval rfl) (f.eval rfl) b_lss) fun a f => q_p 15 17 rfl (by kernel_rfl) f (wanted_of f rfl rfl rfl ba) rfl rfl (fun _ => r_not (f.eval rfl)) fun a f => q_p 16 17 rfl (by kernel_rfl) f rfl rfl rfl (fun _ => r_pickT (f.eval rfl) ba (f.eval rfl)) fun a f => ?_
     obtain rfl := sj a5
     exact a9 _ (f.weak ⟨rfl, rfl, rfl, rfl, rfl, rfl, rfl, rfl, rfl, rfl, trivial⟩)
    ·refine q_ng 4 17 rfl (by kernel_rfl) f rfl rfl ba rfl fun a f => ?_
     refine q_ng 5 17 rfl (by kernel_rfl) f rfl rfl ba rfl fun a f => q_ng 6 17 rfl (by kernel_rfl) f rfl rfl ba rfl fun a f => q_ng 7 17 rfl (by kernel_rfl) f rfl rfl ba rfl fun a f => q_ng 8 17 rfl (by kernel_rfl) f rfl rfl ba rfl fun a f => q_ng 9 17 rfl (by kernel_rfl) f rfl rfl ba rfl fun a f => q_ng 10 17 rfl (by kernel_rfl) f rfl rfl ba rfl fun a f => q_ng 11 17 rfl (by kernel_rfl) f rfl rfl ba rfl fun a f => q_ng 12 17 rfl (by kernel_rfl) f rfl rfl ba rfl fun a f => q_ng 13 17 rfl (by kernel_rfl) f rfl rfl ba rfl fun a f => q_ng 14 17 rfl (by kernel_rfl) f rfl rfl ba rfl fun a f => q_ng 15 17 rfl (by kernel_rfl) f rfl rfl ba rfl fun a f => q_p 16 17 rfl (by kernel_rfl) f rfl rfl rfl (fun _ => r_pickF (f.eval rfl) ba (f.eval rfl)) fun a f => ?_
     obtain rfl := sj a5
     exact a9 _ (f.weak ⟨rfl, rfl, rfl, rfl, rfl, rfl, rfl, rfl, rfl, rfl, trivial⟩)
  ·rintro a w ⟨aV, rfl, aW, bq, f, m⟩
   have aS := Ow.mono (RTg.mono (RI.mono _)) bq aS
   refine k_seq ?_
   obtain ⟨br, bs, aP⟩ := bind_some aP
   refine k_cut (fun a w => ∃ bt : Int, bt = br ∧ ∃ (bu : GH), GLe aW bu ∧ Fr a 90 [(0, v0), (1, (.int .i64 x1)), (4, (.func (.func 58) #[] #[])), (11, (.int .i64 aV)), (12, (.int .i64 bt))] ∧ Mem W bu w (aN :: H)) ?_ ?_
   ·refine k_block ?_
    refine k_loop (fun bv a w => ∃ bw : Int, bw = bv ∧ ∃ (bx : GH), GLe aW bx ∧ Fr a 90 [(0, v0), (1, (.int .i64 x1)), (4, (.func (.func 58) #[] #[])), (11, (.int .i64 aV)), (12, (.int .i64 bw))] ∧ Mem W bx w (aN :: H)) bs ⟨_, rfl, _, (GLe.refl _), f.weak ⟨rfl, rfl, rfl, rfl, rfl, trivial⟩, m⟩ ?_
    clear bs f m
    rintro bv bz bA bB a w ⟨bw, rfl, bx, bC, f, m⟩
    have aS := Ow.mono (RTg.mono (RI.mono _)) bC aS
    refine k_seq (k_seq ?_)
    refine k_draw 16 Follows (by kernel_rfl) m ?_
    refine q_mv 0 16 rfl (by kernel_rfl) f rfl rfl rfl fun a f => q_mv 1 16 rfl (by kernel_rfl) f rfl rfl rfl fun a f => q_p 2 16 rfl (by kernel_rfl) f rfl rfl rfl (fun _ => r_int (f.eval rfl) (f.eval rfl) b_leq) fun a f => q_mv 3 16 rfl (by kernel_rfl) f rfl rfl rfl fun a f => ?_
    obtain ⟨bD, bE, bA⟩ := bind_some bA
    refine q_cut (fuel' := 0) (listed' := #[true, true, true, true, true, true, true, true, true, true, true, true, true, true, true, true]) (fun a => Fr a 90 [(0, v0), (1, (.int .i64 x1)), (4, (.func (.func 58) #[] #[])), (11, (.int .i64 aV)), (12, (.int .i64 bw)), (50, (.int .i64 aV)), (51, (.int .i64 bw)), (52, (.bool (decide (aV ≤ bw)))), (53, (.bool (decide (aV ≤ bw)))), (65, (.bool bD))]) ?_ ?_
    ·intro a f
     refine q_end fun bF w bG m => ?_
     have aS := Ow.mono (RTg.mono (RI.mono _)) bG aS
     refine l_nil ?_
     rcases cond_some bA with ⟨bH, bA⟩ | ⟨bH, bA⟩
     ·refine k_true f rfl bH ?_
      refine k_skip ?_
      refine k_block (k_region ?_)
      refine l_mv f rfl rfl fun a f => l_in f rfl rfl rfl b_sub fun a f => l_as f rfl rfl fun a f => l_nil ?_
      obtain rfl := sj bA
      exact ⟨_, rfl, _, rfl, _, (GLe.trans bC bG), f.weak ⟨rfl, rfl, rfl, rfl, rfl, trivial⟩, m⟩
     ·refine k_false f rfl bH ?_
      refine k_exit rfl ?_
      obtain rfl := sj bA
      obtain rfl := bB _ rfl
      exact ⟨_, rfl, _, (GLe.trans bC bG), f.weak ⟨rfl, rfl, rfl, rfl, rfl, trivial⟩, m⟩
    ·intro bI
     rcases cond_some bE with ⟨bJ, bE⟩ | ⟨bJ, bE⟩
     ·refine q_mv 4 16 rfl (by kernel_rfl) f (wanted_of f rfl rfl rfl bJ) rfl rfl fun a f => ?_
      refine q_mv 5 16 rfl (by kernel_rfl) f (wanted_of f rfl rfl rfl bJ) rfl rfl fun a f => q_mv 6 16 rfl (by kernel_rfl) f (wanted_of f rfl rfl rfl bJ) rfl rfl fun a f => ?_
      obtain ⟨bK, bL, bE⟩ := bind_some bE
      refine q_own_at (i := 7) 16 0 m aS rfl T22 bL rfl (by kernel_rfl) rfl f (wanted_of f rfl rfl rfl bJ) rfl rfl rfl fun bM a bN f => q_own_load (i := 8) 16 0 aS rfl Pl42 bN bL rfl (by kernel_rfl) rfl f (wanted_of f rfl rfl rfl bJ) rfl rfl fun bO a bP f => q_mv 9 16 rfl (by kernel_rfl) f (wanted_of f rfl rfl rfl bJ) rfl rfl fun a f => q_mv 10 16 rfl (by kernel_rfl) f (wanted_of f rfl rfl rfl bJ) rfl rfl fun a f => ?_
      obtain ⟨bQ, bR, bE⟩ := bind_some bE
      refine q_own_at (i := 11) 16 0 m aS rfl T22 bR rfl (by kernel_rfl) rfl f (wanted_of f rfl rfl rfl bJ) rfl rfl rfl fun bS a bT f => q_own_load (i := 12) 16 0 aS rfl Pl42 bT bR rfl (by kernel_rfl) rfl f (wanted_of f rfl rfl rfl bJ) rfl rfl fun bU a bV f => ?_
      obtain ⟨bW, bX, bE⟩ := bind_some bE
      refine q_callv (i := 13) 16 rfl (by kernel_rfl) rfl f (wanted_of f rfl rfl rfl bJ) rfl rfl rfl Tryz.call58 (fun _ _ w bY m => Wk.slices_Compare_int64_int64 m (rd1 bY (bP.2)) (rd1 bY (bV.2)) bX) fun a f => q_p 14 16 rfl (by kernel_rfl) f (wanted_of f rfl rfl rfl bJ) rfl rfl (fun _ => r_int (f.eval rfl) (f.eval rfl) b_lss) fun a f => q_p 15 16 rfl (by kernel_rfl) f rfl rfl rfl (fun _ => r_pickT (f.eval rfl) bJ (f.eval rfl)) fun a f => ?_
      obtain rfl := sj bE
      exact bI _ (f.weak ⟨rfl, rfl, rfl, rfl, rfl, rfl, rfl, rfl, rfl, rfl, trivial⟩)
     ·refine q_ng 4 16 rfl (by kernel_rfl) f rfl rfl bJ rfl fun a f => ?_
      refine q_ng 5 16 rfl (by kernel_rfl) f rfl rfl bJ rfl fun a f => q_ng 6 16 rfl (by kernel_rfl) f rfl rfl bJ rfl fun a f => q_ng 7 16 rfl (by kernel_rfl) f rfl rfl bJ rfl fun a f => q_ng 8 16 rfl (by kernel_rfl) f rfl rfl bJ rfl fun a f => q_ng 9 16 rfl (by kernel_rfl) f rfl rfl bJ rfl fun a f => q_ng 10 16 rfl (by kernel_rfl) f rfl rfl bJ rfl fun a f => q_ng 11 16 rfl (by kernel_rfl) f rfl rfl bJ rfl fun a f => q_ng 12 16 rfl (by kernel_rfl) f rfl rfl bJ rfl fun a f => q_ng 13 16 rfl (by kernel_rfl) f rfl rfl bJ rfl fun a f => q_ng 14 16 rfl (by kernel_rfl) f rfl rfl bJ rfl fun a f => q_p 15 16 rfl (by kernel_rfl) f rfl rfl rfl (fun _ => r_pickF (f.eval rfl) bJ (f.eval rfl)) fun a f => ?_
      obtain rfl := sj bE
      exact bI _ (f.weak ⟨rfl, rfl, rfl, rfl, rfl, rfl, rfl, rfl, rfl, rfl, trivial⟩)
   ·rintro a w ⟨bt, rfl, bu, bZ, f, m⟩
    have aS := Ow.mono (RTg.mono (RI.mono _)) bZ aS
    refine k_seq (k_seq (k_region ?_))
    refine l_mv f rfl rfl fun a f => l_mv f rfl rfl fun a f => l_in f rfl rfl rfl b_gtr fun a f => l_nil ?_
    rcases cond_some aP with ⟨b0, aP⟩ | ⟨b0, aP⟩
    ·refine k_true f rfl b0 ?_
     refine k_exit rfl ?_
     obtain rfl := sj aP
     obtain rfl := aQ _ rfl
     exact ⟨_, _, rfl, _, aN, (GLe.trans aR (GLe.trans bq bZ)), f.weak ⟨rfl, trivial⟩, m, aS⟩
    ·refine k_false f rfl b0 ?_
     refine k_skip ?_
     refine k_seq ?_
     refine k_draw0 Follows m ?_
     refine p_p 2 rfl (by kernel_rfl) f rfl rfl rfl (fun _ => r_move (f.eval rfl)) fun a f => p_p 3 rfl (by kernel_rfl) f rfl rfl rfl (fun _ => r_move (f.eval rfl)) fun a f => k_draw1 12013 11 (by kernel_rfl) rfl ?_
     refine q_mv 0 12013 rfl (by kernel_rfl) f rfl rfl rfl fun a f => q_mv 1 12013 rfl (by kernel_rfl) f rfl rfl rfl fun a f => q_mv 4 12013 rfl (by kernel_rfl) f rfl rfl rfl fun a f => q_mv 5 12013 rfl (by kernel_rfl) f rfl rfl rfl fun a f => ?_
     obtain ⟨b1, b2, aP⟩ := bind_some aP
     refine q_own_at (i := 6) 12013 0 m aS rfl T22 b2 rfl (by kernel_rfl) rfl f rfl rfl rfl rfl fun b3 a b4 f => q_own_load (i := 7) 12013 0 aS rfl Pl42 b4 b2 rfl (by kernel_rfl) rfl f rfl rfl rfl fun b5 a b6 f => q_mv 8 12013 rfl (by kernel_rfl) f rfl rfl rfl fun a f => q_mv 9 12013 rfl (by kernel_rfl) f rfl rfl rfl fun a f => ?_
     obtain ⟨b7, b8, aP⟩ := bind_some aP
     refine q_own_at (i := 10) 12013 0 m aS rfl T22 b8 rfl (by kernel_rfl) rfl f rfl rfl rfl rfl fun b9 a ca f => q_own_load (i := 11) 12013 0 aS rfl Pl42 ca b8 rfl (by kernel_rfl) rfl f rfl rfl rfl fun cb a cc f => ?_
     obtain ⟨cd, ce, aP⟩ := bind_some aP
     refine q_own_at (i := 12) 12013 0 m aS rfl T22 ce rfl (by kernel_rfl) rfl f rfl rfl rfl rfl fun cf a cg f => q_end fun ch w ci m => ?_
     have b6 := (RTg.mono (RI.mono _)) _ _ _ _ ci b6
     have cc := (RTg.mono (RI.mono _)) _ _ _ _ ci cc
     have aS := Ow.mono (RTg.mono (RI.mono _)) ci aS
     refine l_own_store 0 m aS rfl Tryz.sizeOf42 f rfl rfl cg ce b6.cells b6.one1 b6 fun cj w m ck => ?_
     obtain ⟨cl, cm, aP⟩ := bind_some aP
     refine l_own_at 0 m ck rfl T22 f rfl rfl rfl cm fun cn a co f => l_own_store 0 m ck rfl Tryz.sizeOf42 f rfl rfl co cm cc.cells cc.one1 cc fun cp w m cq => l_nil (k_seq (k_region ?_))
     refine l_mv f rfl rfl fun a f => l_in f rfl rfl rfl b_add fun a f => l_as f rfl rfl fun a f => l_nil (k_region ?_)
     refine l_mv f rfl rfl fun a f => l_in f rfl rfl rfl b_sub fun a f => l_as f rfl rfl fun a f => l_nil ?_
     obtain rfl := sj aP
     exact ⟨_, rfl, _, _, _, rfl, _, cp, (GLe.trans aR (GLe.trans bq (GLe.trans bZ ci))), f.weak ⟨rfl, rfl, rfl, rfl, rfl, trivial⟩, m, cq⟩
 ·rintro a w ⟨aE, aF, rfl, aG, aH, cr, f, m, cs⟩
  refine k_seq (k_region ?_)
  refine l_mv f rfl rfl fun a f => l_as f rfl rfl fun a f => l_nil ?_
  refine k_ret ?_
  obtain rfl := sj hd
  exact ⟨[(.int .i64 aF)], ⟨f.get _ _ rfl, trivial⟩, f.defers, _, [aH], (GLe.trans ar cr), m, _, rfl, rfl, cs⟩

theorem Wk.slices_partitionCmpFunc_int64__slices_Compare_int64_int64 {W w : World} {G : GH} {H : List Itm} {v0 : Value} {it0 : Itm} {x0 : (List (Value × List Int))} {x1 : Int} {x2 : Int} {x3 : Int} (m : Mem W G w (it0 :: H)) (o0 : Ow (RTg (RI .i64)) 42 G it0 v0 x0) {y : Int × Bool × ((List (Value × List Int)))} (hd : D.slices_partitionCmpFunc_int64__slices_Compare_int64_int64 x0 x1 x2 x3 = some y) :
  Calls Tryz.prog 161 #[v0, (.int .i64 x1), (.int .i64 x2), (.int .i64 x3), (.func (.func 58) #[] #[])] w (Res W G H (fun G' Ho v => ∃ i0 : Itm, Ho = [i0] ∧ v = .tuple #[(.int .i64 y.1), (.bool y.2.1)] ∧ Ow (RTg (RI .i64)) 42 G' i0 v0 y.2.2)) := by
 refine calls_b (args := [v0, (.int .i64 x1), (.int .i64 x2), (.int .i64 x3), (.func (.func 58) #[] #[])]) (N := 178) [.tmp 10, .tmp 11] Tryz.func161 rfl rfl (Nat.le_of_ble_eq_true rfl) rfl fun a f => ?_
 unfold D.slices_partitionCmpFunc_int64__slices_Compare_int64_int64 at hd
 refine k_seq (k_region ?_)
 refine l_as f rfl rfl fun a f => l_as f rfl rfl fun a f => l_nil (k_seq ?_)
 refine k_draw0 Follows m ?_
 refine p_p 2 rfl (by kernel_rfl) f rfl rfl rfl (fun _ => r_move (f.eval rfl)) fun a f => p_p 3 rfl (by kernel_rfl) f rfl rfl rfl (fun _ => r_move (f.eval rfl)) fun a f => k_draw1 12013 11 (by kernel_rfl) rfl ?_
 refine q_mv 0 12013 rfl (by kernel_rfl) f rfl rfl rfl fun a f => q_mv 1 12013 rfl (by kernel_rfl) f rfl rfl rfl fun a f => q_mv 4 12013 rfl (by kernel_rfl) f rfl rfl rfl fun a f => q_mv 5 12013 rfl (by kernel_rfl) f rfl rfl rfl fun a f => ?_
 obtain ⟨aa, ab, hd⟩ := bind_some hd
 refine q_own_at (i := 6) 12013 0 m o0 rfl T22 ab rfl (by kernel_rfl) rfl f rfl rfl rfl rfl fun ac a ad f => q_own_load (i := 7) 12013 0 o0 rfl Pl42 ad ab rfl (by kernel_rfl) rfl f rfl rfl rfl fun ae a af f => q_mv 8 12013 rfl (by kernel_rfl) f rfl rfl rfl fun a f => q_mv 9 12013 rfl (by kernel_rfl) f rfl rfl rfl fun a f => ?_
 obtain ⟨ag, ah, hd⟩ := bind_some hd
 refine q_own_at (i := 10) 12013 0 m o0 rfl T22 ah rfl (by kernel_rfl) rfl f rfl rfl rfl rfl fun ai a aj f => q_own_load (i := 11) 12013 0 o0 rfl Pl42 aj ah rfl (by kernel_rfl) rfl f rfl rfl rfl fun ak a al f => ?_
 obtain ⟨am, an, hd⟩ := bind_some hd
 refine q_own_at (i := 12) 12013 0 m o0 rfl T22 an rfl (by kernel_rfl) rfl f rfl rfl rfl rfl fun ao a ap f => q_end fun aq w ar m => ?_
 have af := (RTg.mono (RI.mono _)) _ _ _ _ ar af
 have al := (RTg.mono (RI.mono _)) _ _ _ _ ar al
 have o0 := Ow.mono (RTg.mono (RI.mono _)) ar o0
 refine l_own_store 0 m o0 rfl Tryz.sizeOf42 f rfl rfl ap an af.cells af.one1 af fun au w m av => ?_
 obtain ⟨aw, ax, hd⟩ := bind_some hd
 refine l_own_at 0 m av rfl T22 f rfl rfl rfl ax fun ay a az f => l_own_store 0 m av rfl Tryz.sizeOf42 f rfl rfl az ax al.cells al.one1 al fun aA w m aB => l_nil (k_seq (k_region ?_))
 refine l_mv f rfl rfl fun a f => l_in f rfl rfl rfl b_add fun a f => l_mv f rfl rfl fun a f => l_in f rfl rfl rfl b_sub fun a f => l_as f rfl rfl fun a f => l_as f rfl rfl fun a f => l_nil (k_seq ?_)
 obtain ⟨aC, aD, hd⟩ := bind_some hd
 refine k_cut (fun a w => ∃ aE : Int, aE = aC ∧ ∃ (aF : GH), GLe aq aF ∧ Fr a 178 [(0, v0), (1, (.int .i64 x1)), (4, (.func (.func 58) #[] #[])), (12, (.int .i64 aE)), (13, (.int .i64 (IntKind.i64.wrap (x2 - 1))))] ∧ Mem W aF w (aA :: H)) ?_ ?_
 ·refine k_block ?_
  refine k_loop (fun aG a w => ∃ aH : Int, aH = aG ∧ ∃ (aI : GH), GLe aq aI ∧ Fr a 178 [(0, v0), (1, (.int .i64 x1)), (4, (.func (.func 58) #[] #[])), (12, (.int .i64 aH)), (13, (.int .i64 (IntKind.i64.wrap (x2 - 1))))] ∧ Mem W aI w (aA :: H)) aD ⟨_, rfl, _, (GLe.refl _), f.weak ⟨rfl, rfl, rfl, rfl, rfl, trivial⟩, m⟩ ?_
  clear aD f m
  rintro aG aJ aK aL a w ⟨aH, rfl, aI, aM, f, m⟩
  have aB := Ow.mono (RTg.mono (RI.mono _)) aM aB
  refine k_seq (k_seq ?_)
  refine k_draw 16 Follows (by kernel_rfl) m ?_
  refine q_mv 0 16 rfl (by kernel_rfl) f rfl rfl rfl fun a f => q_mv 1 16 rfl (by kernel_rfl) f rfl rfl rfl fun a f => q_p 2 16 rfl (by kernel_rfl) f rfl rfl rfl (fun _ => r_int (f.eval rfl) (f.eval rfl) b_leq) fun a f => q_mv 3 16 rfl (by kernel_rfl) f rfl rfl rfl fun a f => ?_
  obtain ⟨aN, aO, aK⟩ := bind_some aK
  refine q_cut (fuel' := 0) (listed' := #[true, true, true, true, true, true, true, true, true, true, true, true, true, true, true, true]) (fun a => Fr a 178 [(0, v0), (1, (.int .i64 x1)), (4, (.func (.func 58) #[] #[])), (12, (.int .i64 aH)), (13, (.int .i64 (IntKind.i64.wrap (x2 - 1)))), (32, (.int .i64 aH)), (33, (.int .i64 (IntKind.i64.wrap (x2 - 1)))), (34, (.bool (decide (aH ≤ (IntKind.i64.wrap (x2 - 1)))))), (35, (.bool (decide (aH ≤ (IntKind.i64.wrap (x2 - 1)))))), (47, (.bool aN))]) ?_ ?_
  ·intro a f
   refine q_end fun aP w aQ m => ?_
   have aB := Ow.mono (RTg.mono (RI.mono _)) aQ aB
   refine l_nil ?_
   rcases cond_some aK with ⟨aR, aK⟩ | ⟨aR, aK⟩
   ·refine k_true f rfl aR ?_
    refine k_skip ?_
    refine k_block (k_region ?_)
    refine l_mv f rfl rfl fun a f => l_in f rfl rfl rfl b_add fun a f => l_as f rfl rfl fun a f => l_nil ?_
    obtain rfl := sj aK
    exact ⟨_, rfl, _, rfl, _, (GLe.trans aM aQ), f.weak ⟨rfl, rfl, rfl, rfl, rfl, trivial⟩, m⟩
   ·refine k_false f rfl aR ?_
    refine k_exit rfl ?_
    obtain rfl := sj aK
    obtain rfl := aL _ rfl
    exact ⟨_, rfl, _, (GLe.trans aM aQ), f.weak ⟨rfl, rfl, rfl, rfl, rfl, trivial⟩, m⟩
  ·intro aS
   rcases cond_some aO with ⟨aT, aO⟩ | ⟨aT, aO⟩
   ·refine q_mv 4 16 rfl (by kernel_rfl) f (wanted_of f rfl rfl rfl aT) rfl rfl fun a f => ?_
    refine q_mv 5 16 rfl (by kernel_rfl) f (wanted_of f rfl rfl rfl aT) rfl rfl fun a f => q_mv 6 16 rfl (by kernel_rfl) f (wanted_of f rfl rfl rfl aT) rfl rfl fun a f => ?_
    obtain ⟨aU, aV, aO⟩ := bind_some aO
    refine q_own_at (i := 7) 16 0 m aB rfl T22 aV rfl (by kernel_rfl) rfl f (wanted_of f rfl rfl rfl aT) rfl rfl rfl fun aW a aX f => q_own_load (i := 8) 16 0 aB rfl Pl42 aX aV rfl (by kernel_rfl) rfl f (wanted_of f rfl rfl rfl aT) rfl rfl fun aY a aZ f => q_mv 9 16 rfl (by kernel_rfl) f (wanted_of f rfl rfl rfl aT) rfl rfl fun a f => q_mv 10 16 rfl (by kernel_rfl) f (wanted_of f rfl rfl rfl aT) rfl rfl fun a f => ?_
    obtain ⟨a0, a1, aO⟩ := bind_some aO
    refine q_own_at (i := 11) 16 0 m aB rfl T22 a1 rfl (by kernel_rfl) rfl f (wanted_of f rfl rfl rfl aT) rfl rfl rfl fun a2 a a3 f => q_own_load (i := 12) 16 0 aB rfl Pl42 a3 a1 rfl (by kernel_rfl) rfl f (wanted_of f rfl rfl rfl aT) rfl rfl fun a4 a a5 f => ?_
    obtain ⟨a6, a7, aO⟩ := bind_some aO
    refine q_callv (i := 13) 16 rfl (by kernel_rfl) rfl f (wanted_of f rfl rfl rfl aT) rfl rfl rfl Tryz.call58 (fun _ _ w a8 m => Wk.slices_Compare_int64_int64 m (rd1 a8 (aZ.2)) (rd1 a8 (a5.2)) a7) fun a f => q_p 14 16 rfl (by kernel_rfl) f (wanted_of f rfl rfl rfl aT) rfl rfl (fun _ => r_int (f.eval rfl) (f.eval rfl) b_lss) fun a f => q_p 15 16 rfl (by kernel_rfl) f rfl rfl rfl (fun _ => r_pickT (f.eval rfl) aT (f.eval rfl)) fun a f => ?_
    obtain rfl := sj aO
    exact aS _ (f.weak ⟨rfl, rfl, rfl, rfl, rfl, rfl, rfl, rfl, rfl, rfl, trivial⟩)
   ·refine q_ng 4 16 rfl (by kernel_rfl) f rfl rfl aT rfl fun a f => ?_
    refine q_ng 5 16 rfl (by kernel_rfl) f rfl rfl aT rfl fun a f => q_ng 6 16 rfl (by kernel_rfl) f rfl rfl aT rfl fun a f => q_ng 7 16 rfl (by kernel_rfl) f rfl rfl aT rfl fun a f => q_ng 8 16 rfl (by kernel_rfl) f rfl rfl aT rfl fun a f => q_ng 9 16 rfl (by kernel_rfl) f rfl rfl aT rfl fun a f => q_ng 10 16 rfl (by kernel_rfl) f rfl rfl aT rfl fun a f => q_ng 11 16 rfl (by kernel_rfl) f rfl rfl aT rfl fun a f => q_ng 12 16 rfl (by kernel_rfl) f rfl rfl aT rfl fun a f => q_ng 13 16 rfl (by kernel_rfl) f rfl rfl aT rfl fun a f => q_ng 14 16 rfl (by kernel_rfl) f rfl rfl aT rfl fun a f => q_p 15 16 rfl (by kernel_rfl) f rfl rfl rfl (fun _ => r_pickF (f.eval rfl) aT (f.eval rfl)) fun a f => ?_
    obtain rfl := sj aO
    exact aS _ (f.weak ⟨rfl, rfl, rfl, rfl, rfl, rfl, rfl, rfl, rfl, rfl, trivial⟩)
 ·rintro a w ⟨aE, rfl, aF, a9, f, m⟩
  have aB := Ow.mono (RTg.mono (RI.mono _)) a9 aB
  refine k_seq ?_
  obtain ⟨ba, bb, hd⟩ := bind_some hd
  refine k_cut (fun a w => ∃ bc : Int, bc = ba ∧ ∃ (bd : GH), GLe aF bd ∧ Fr a 178 [(0, v0), (1, (.int .i64 x1)), (4, (.func (.func 58) #[] #[])), (12, (.int .i64 aE)), (13, (.int .i64 bc))] ∧ Mem W bd w (aA :: H)) ?_ ?_
  ·refine k_block ?_
   refine k_loop (fun be a w => ∃ bf : Int, bf = be ∧ ∃ (bg : GH), GLe aF bg ∧ Fr a 178 [(0, v0), (1, (.int .i64 x1)), (4, (.func (.func 58) #[] #[])), (12, (.int .i64 aE)), (13, (.int .i64 bf))] ∧ Mem W bg w (aA :: H)) bb ⟨_, rfl, _, (GLe.refl _), f.weak ⟨rfl, rfl, rfl, rfl, rfl, trivial⟩, m⟩ ?_
   clear bb f m
   rintro be bh bi bj a w ⟨bf, rfl, bg, bk, f, m⟩
   have aB := Ow.mono (RTg.mono (RI.mono _)) bk aB
   refine k_seq (k_seq ?_)
   refine k_draw 17 Follows (by kernel_rfl) m ?_
   refine q_mv 0 17 rfl (by kernel_rfl) f rfl rfl rfl fun a f => q_mv 1 17 rfl (by kernel_rfl) f rfl rfl rfl fun a f => q_p 2 17 rfl (by kernel_rfl) f rfl rfl rfl (fun _ => r_int (f.eval rfl) (f.eval rfl) b_leq) fun a f => q_mv 3 17 rfl (by kernel_rfl) f rfl rfl rfl fun a f => ?_
   obtain ⟨bl, bm, bi⟩ := bind_some bi
   refine q_cut (fuel' := 0) (listed' := #[true, true, true, true, true, true, true, true, true, true, true, true, true, true, true, true, true]) (fun a => Fr a 178 [(0, v0), (1, (.int .i64 x1)), (4, (.func (.func 58) #[] #[])), (12, (.int .i64 aE)), (13, (.int .i64 bf)), (50, (.int .i64 aE)), (51, (.int .i64 bf)), (52, (.bool (decide (aE ≤ bf)))), (53, (.bool (decide (aE ≤ bf)))), (66, (.bool bl))]) ?_ ?_
   ·intro a f
    refine q_end fun bn w bo m => ?_
    have aB := Ow.mono (RTg.mono (RI.mono _)) bo aB
    refine l_nil ?_
    rcases cond_some bi with ⟨bp, bi⟩ | ⟨bp, bi⟩
    ·refine k_true f rfl bp ?_
     refine k_skip ?_
     refine k_block (k_region ?_)
     refine l_mv f rfl rfl fun a f => l_in f rfl rfl rfl b_sub fun a f => l_as f rfl rfl fun a f => l_nil ?_
     obtain rfl := sj bi
     exact ⟨_, rfl, _, rfl, _, (GLe.trans bk bo), f.weak ⟨rfl, rfl, rfl, rfl, rfl, trivial⟩, m⟩
    ·refine k_false f rfl bp ?_
     refine k_exit rfl ?_
     obtain rfl := sj bi
     obtain rfl := bj _ rfl
     exact ⟨_, rfl, _, (GLe.trans bk bo), f.weak ⟨rfl, rfl, rfl, rfl, rfl, trivial⟩, m⟩
   ·intro bq
    rcases cond_some bm with ⟨br, bm⟩ | ⟨br, bm⟩
    ·refine q_mv 4 17 rfl (by kernel_rfl) f (wanted_of f rfl rfl rfl br) rfl rfl fun a f => ?_
     refine q_mv 5 17 rfl (by kernel_rfl) f (wanted_of f rfl rfl rfl br) rfl rfl fun a f => q_mv 6 17 rfl (by kernel_rfl) f (wanted_of f rfl rfl rfl br) rfl rfl fun a f => ?_
     obtain ⟨bs, bt, bm⟩ := bind_some bm
     refine q_own_at (i := 7) 17 0 m aB rfl T22 bt rfl (by kernel_rfl) rfl f (wanted_of f rfl rfl rfl br) rfl rfl rfl fun bu a bv f => q_own_load (i := 8) 17 0 aB rfl Pl42 bv bt rfl (by kernel_rfl) rfl f (wanted_of f rfl rfl rfl br) rfl rfl fun bw a bx f => q_mv 9 17 rfl (by kernel_rfl) f (wanted_of f rfl rfl rfl br) rfl rfl fun a f => q_mv 10 17 rfl (by kernel_rfl) f (wanted_of f rfl rfl rfl br) rfl rfl fun a f => ?_
     obtain ⟨bz, bA, bm⟩ := bind_some bm
     refine q_own_at (i := 11) 17 0 m aB rfl T22 bA rfl (by kernel_rfl) rfl f (wanted_of f rfl rfl rfl br) rfl rfl rfl fun bB a bC f => q_own_load (i := 12) 17 0 aB rfl Pl42 bC bA rfl (by kernel_rfl) rfl f (wanted_of f rfl rfl rfl br) rfl rfl fun bD a bE f => ?_
     obtain ⟨bF, bG, bm⟩ := bind_some bm
     refine q_callv (i := 13) 17 rfl (by kernel_rfl) rfl f (wanted_of f rfl rfl rfl br) rfl rfl rfl Tryz.call58 (fun _ _ w bH m => Wk.slices_Compare_int64_int64 m (rd1 bH (bx.2)) (rd1 bH (bE.2)) bG) fun a f => q_p 14 17 rfl (by kernel_rfl) f (wanted_of f rfl rfl rfl br) rfl rfl (fun _ => r_int (f.eval rfl) (f.eval rfl) b_lss) fun a f => q_p 15 17 rfl (by kernel_rfl) f (wanted_of f rfl rfl rfl br) rfl rfl (fun _ => r_not (f.eval rfl)) fun a f => q_p 16 17 rfl (by kernel_rfl) f rfl rfl rfl (fun _ => r_pickT (f.eval rfl) br (f.eval rfl)) fun a f => ?_
     obtain rfl := sj bm
     exact bq _ (f.weak ⟨rfl, rfl, rfl, rfl, rfl, rfl, rfl, rfl, rfl, rfl, trivial⟩)
    ·refine q_ng 4 17 rfl (by kernel_rfl) f rfl rfl br rfl fun a f => ?_
     refine q_ng 5 17 rfl (by kernel_rfl) f rfl rfl br rfl fun a f => q_ng 6 17 rfl (by kernel_rfl) f rfl rfl br rfl fun a f => q_ng 7 17 rfl (by kernel_rfl) f rfl rfl br rfl fun a f => q_ng 8 17 rfl (by kernel_rfl) f rfl rfl br rfl fun a f => q_ng 9 17 rfl (by kernel_rfl) f rfl rfl br rfl fun a f => q_ng 10 17 rfl (by kernel_rfl) f rfl rfl br rfl fun a f => q_ng 11 17 rfl (by kernel_rfl) f rfl rfl br rfl fun a f => q_ng 12 17 rfl (by kernel_rfl) f rfl rfl br rfl fun a f => q_ng 13 17 rfl (by kernel_rfl) f rfl rfl br rfl fun a f => q_ng 14 17 rfl (by kernel_rfl) f rfl rfl br rfl fun a f => q_ng 15 17 rfl (by kernel_rfl) f rfl rfl br rfl fun a f => q_p 16 17 rfl (by kernel_rfl) f rfl rfl rfl (fun _ => r_pickF (f.eval rfl) br (f.eval rfl)) fun a f => ?_
     obtain rfl := sj bm
     exact bq _ (f.weak ⟨rfl, rfl, rfl, rfl, rfl, rfl, rfl, rfl, rfl, rfl, trivial⟩)
  ·rintro a w ⟨bc, rfl, bd, bI, f, m⟩
   have aB := Ow.mono (RTg.mono (RI.mono _)) bI aB
   refine k_seq (k_seq (k_region ?_))
   refine l_mv f rfl rfl fun a f => l_mv f rfl rfl fun a f => l_in f rfl rfl rfl b_gtr fun a f => l_nil ?_
   rcases cond_some hd with ⟨bJ, hd⟩ | ⟨bJ, hd⟩
   ·refine k_true f rfl bJ ?_
    refine k_seq ?_
    refine k_draw0 Follows m ?_
    refine p_p 2 rfl (by kernel_rfl) f rfl rfl rfl (fun _ => r_move (f.eval rfl)) fun a f => p_p 3 rfl (by kernel_rfl) f rfl rfl rfl (fun _ => r_move (f.eval rfl)) fun a f => k_draw1 12013 11 (by kernel_rfl) rfl ?_
    refine q_mv 0 12013 rfl (by kernel_rfl) f rfl rfl rfl fun a f => q_mv 1 12013 rfl (by kernel_rfl) f rfl rfl rfl fun a f => q_mv 4 12013 rfl (by kernel_rfl) f rfl rfl rfl fun a f => q_mv 5 12013 rfl (by kernel_rfl) f rfl rfl rfl fun a f => ?_
    obtain ⟨bK, bL, hd⟩ := bind_some hd
    refine q_own_at (i := 6) 12013 0 m aB rfl T22 bL rfl (by kernel_rfl) rfl f rfl rfl rfl rfl fun bM a bN f => q_own_load (i := 7) 12013 0 aB rfl Pl42 bN bL rfl (by kernel_rfl) rfl f rfl rfl rfl fun bO a bP f => q_mv 8 12013 rfl (by kernel_rfl) f rfl rfl rfl fun a f => q_mv 9 12013 rfl (by kernel_rfl) f rfl rfl rfl fun a f => ?_
    obtain ⟨bQ, bR, hd⟩ := bind_some hd
    refine q_own_at (i := 10) 12013 0 m aB rfl T22 bR rfl (by kernel_rfl) rfl f rfl rfl rfl rfl fun bS a bT f => q_own_load (i := 11) 12013 0 aB rfl Pl42 bT bR rfl (by kernel_rfl) rfl f rfl rfl rfl fun bU a bV f => ?_
    obtain ⟨bW, bX, hd⟩ := bind_some hd
    refine q_own_at (i := 12) 12013 0 m aB rfl T22 bX rfl (by kernel_rfl) rfl f rfl rfl rfl rfl fun bY a bZ f => q_end fun b0 w b1 m => ?_
    have bP := (RTg.mono (RI.mono _)) _ _ _ _ b1 bP
    have bV := (RTg.mono (RI.mono _)) _ _ _ _ b1 bV
    have aB := Ow.mono (RTg.mono (RI.mono _)) b1 aB
    refine l_own_store 0 m aB rfl Tryz.sizeOf42 f rfl rfl bZ bX bP.cells bP.one1 bP fun b2 w m b3 => ?_
    obtain ⟨b4, b5, hd⟩ := bind_some hd
    refine l_own_at 0 m b3 rfl T22 f rfl rfl rfl b5 fun b6 a b7 f => l_own_store 0 m b3 rfl Tryz.sizeOf42 f rfl rfl b7 b5 bV.cells bV.one1 bV fun b8 w m b9 => l_nil (k_seq (k_region ?_))
    refine l_mv f rfl rfl fun a f => l_as f rfl rfl fun a f => l_as f rfl rfl fun a f => l_nil ?_
    refine k_ret ?_
    obtain rfl := sj hd
    exact ⟨[(.int .i64 bc), (.bool true)], ⟨f.get _ _ rfl, f.get _ _ rfl, trivial⟩, f.defers, _, [b8], (GLe.trans ar (GLe.trans a9 (GLe.trans bI b1))), m, _, rfl, rfl, b9⟩
   ·refine k_false f rfl bJ ?_
    refine k_skip ?_
    refine k_seq ?_
    refine k_draw0 Follows m ?_
    refine p_p 2 rfl (by kernel_rfl) f rfl rfl rfl (fun _ => r_move (f.eval rfl)) fun a f => p_p 3 rfl (by kernel_rfl) f rfl rfl rfl (fun _ => r_move (f.eval rfl)) fun a f => k_draw1 12013 11 (by kernel_rfl) rfl ?_
    refine q_mv 0 12013 rfl (by kernel_rfl) f rfl rfl rfl fun a f => q_mv 1 12013 rfl (by kernel_rfl) f rfl rfl rfl fun a f => q_mv 4 12013 rfl (by kernel_rfl) f rfl rfl rfl fun a f => q_mv 5 12013 rfl (by kernel_rfl) f rfl rfl rfl fun a f => ?_
    obtain ⟨ca, cb, hd⟩ := bind_some hd
    refine q_own_at (i := 6) 12013 0 m aB rfl T22 cb rfl (by kernel_rfl) rfl f rfl rfl rfl rfl fun cc a cd f => q_own_load (i := 7) 12013 0 aB rfl Pl42 cd cb rfl (by kernel_rfl) rfl f rfl rfl rfl fun ce a cf f => q_mv 8 12013 rfl (by kernel_rfl) f rfl rfl rfl fun a f => q_mv 9 12013 rfl (by kernel_rfl) f rfl rfl rfl fun a f => ?_
    obtain ⟨cg, ch, hd⟩ := bind_some hd
    refine q_own_at (i := 10) 12013 0 m aB rfl T22 ch rfl (by kernel_rfl) rfl f rfl rfl rfl rfl fun ci a cj f => q_own_load (i := 11) 12013 0 aB rfl Pl42 cj ch rfl (by kernel_rfl) rfl f rfl rfl rfl fun ck a cl f => ?_
    obtain ⟨cm, cn, hd⟩ := bind_some hd
    refine q_own_at (i := 12) 12013 0 m aB rfl T22 cn rfl (by kernel_rfl) rfl f rfl rfl rfl rfl fun co a cp f => q_end fun cq w cr m => ?_
    have cf := (RTg.mono (RI.mono _)) _ _ _ _ cr cf
    have cl := (RTg.mono (RI.mono _)) _ _ _ _ cr cl
    have aB := Ow.mono (RTg.mono (RI.mono _)) cr aB
    refine l_own_store 0 m aB rfl Tryz.sizeOf42 f rfl rfl cp cn cf.cells cf.one1 cf fun cs w m ct => ?_
    obtain ⟨cu, cv, hd⟩ := bind_some hd
    refine l_own_at 0 m ct rfl T22 f rfl rfl rfl cv fun cw a cx f => l_own_store 0 m ct rfl Tryz.sizeOf42 f rfl rfl cx cv cl.cells cl.one1 cl fun cy w m cz => l_nil (k_seq (k_region ?_))
    refine l_mv f rfl rfl fun a f => l_in f rfl rfl rfl b_add fun a f => l_as f rfl rfl fun a f => l_nil (k_seq (k_region ?_))
    refine l_mv f rfl rfl fun a f => l_in f rfl rfl rfl b_sub fun a f => l_as f rfl rfl fun a f => l_nil (k_seq ?_)
    obtain ⟨cA, cB, hd⟩ := bind_some hd
    refine k_cut (fun a w => ∃ cC : List (Value × List Int), ∃ cD : Int, (cC, cD) = cA ∧ ∃ (cE : GH) (cF : Itm), GLe cq cE ∧ Fr a 178 [(0, v0), (1, (.int .i64 x1)), (13, (.int .i64 cD))] ∧ Mem W cE w (cF :: H) ∧ Ow (RTg (RI .i64)) 42 cE cF v0 cC) ?_ ?_
    ·refine k_block ?_
     refine k_loop (fun cG a w => ∃ cH : List (Value × List Int), ∃ cI : Int, ∃ cJ : Int, (cH, cI, cJ) = cG ∧ ∃ (cK : GH) (cL : Itm), GLe cq cK ∧ Fr a 178 [(0, v0), (1, (.int .i64 x1)), (4, (.func (.func 58) #[] #[])), (12, (.int .i64 cI)), (13, (.int .i64 cJ))] ∧ Mem W cK w (cL :: H) ∧ Ow (RTg (RI .i64)) 42 cK cL v0 cH) cB ⟨_, _, _, rfl, _, cy, (GLe.refl _), f.weak ⟨rfl, rfl, rfl, rfl, rfl, trivial⟩, m, cz⟩ ?_
     clear cB f m
     rintro cG cM cN cO a w ⟨cH, cI, cJ, rfl, cK, cL, cP, f, m, cQ⟩
     refine k_block (k_seq ?_)
     obtain ⟨cR, cS, cN⟩ := bind_some cN
     refine k_cut (fun a w => ∃ cT : Int, cT = cR ∧ ∃ (cU : GH), GLe cK cU ∧ Fr a 178 [(0, v0), (1, (.int .i64 x1)), (4, (.func (.func 58) #[] #[])), (12, (.int .i64 cT)), (13, (.int .i64 cJ))] ∧ Mem W cU w (cL :: H)) ?_ ?_
     ·refine k_block ?_
      refine k_loop (fun cV a w => ∃ cW : Int, cW = cV ∧ ∃ (cX : GH), GLe cK cX ∧ Fr a 178 [(0, v0), (1, (.int .i64 x1)), (4, (.func (.func 58) #[] #[])), (12, (.int .i64 cW)), (13, (.int .i64 cJ))] ∧ Mem W cX w (cL :: H)) cS ⟨_, rfl, _, (GLe.refl _), f.weak ⟨rfl, rfl, rfl, rfl, rfl, trivial⟩, m⟩ ?_
      clear cS f m
      rintro cV cY cZ c0 a w ⟨cW, rfl, cX, c1, f, m⟩
      have cQ := Ow.mono (RTg.mono (RI.mono _)) c1 cQ
      refine k_seq (k_seq ?_)
      refine k_draw 16 Follows (by kernel_rfl) m ?_
      refine q_mv 0 16 rfl (by kernel_rfl) f rfl rfl rfl fun a f => q_mv 1 16 rfl (by kernel_rfl) f rfl rfl rfl fun a f => q_p 2 16 rfl (by kernel_rfl) f rfl rfl rfl (fun _ => r_int (f.eval rfl) (f.eval rfl) b_leq) fun a f => q_mv 3 16 rfl (by kernel_rfl) f rfl rfl rfl fun a f => ?_
      obtain ⟨c2, c3, cZ⟩ := bind_some cZ
      refine q_cut (fuel' := 0) (listed' := #[true, true, true, true, true, true, true, true, true, true, true, true, true, true, true, true]) (fun a => Fr a 178 [(0, v0), (1, (.int .i64 x1)), (4, (.func (.func 58) #[] #[])), (12, (.int .i64 cW)), (13, (.int .i64 cJ)), (105, (.int .i64 cW)), (106, (.int .i64 cJ)), (107, (.bool (decide (cW ≤ cJ)))), (108, (.bool (decide (cW ≤ cJ)))), (120, (.bool c2))]) ?_ ?_
      ·intro a f
       refine q_end fun c4 w c5 m => ?_
       have cQ := Ow.mono (RTg.mono (RI.mono _)) c5 cQ
       refine l_nil ?_
       rcases cond_some cZ with ⟨c6, cZ⟩ | ⟨c6, cZ⟩
       ·refine k_true f rfl c6 ?_
        refine k_skip ?_
        refine k_block (k_region ?_)
        refine l_mv f rfl rfl fun a f => l_in f rfl rfl rfl b_add fun a f => l_as f rfl rfl fun a f => l_nil ?_
        obtain rfl := sj cZ
        exact ⟨_, rfl, _, rfl, _, (GLe.trans c1 c5), f.weak ⟨rfl, rfl, rfl, rfl, rfl, trivial⟩, m⟩
       ·refine k_false f rfl c6 ?_
        refine k_exit rfl ?_
        obtain rfl := sj cZ
        obtain rfl := c0 _ rfl
        exact ⟨_, rfl, _, (GLe.trans c1 c5), f.weak ⟨rfl, rfl, rfl, rfl, rfl, trivial⟩, m⟩
      ·intro c7
       rcases cond_some c3 with ⟨c8, c3⟩ | ⟨c8, c3⟩
       ·refine q_mv 4 16 rfl (by kernel_rfl) f (wanted_of f rfl rfl rfl c8) rfl rfl fun a f => ?_
        refine q_mv 5 16 rfl (by kernel_rfl) f (wanted_of f rfl rfl rfl c8) rfl rfl fun a f => q_mv 6 16 rfl (by kernel_rfl) f (wanted_of f rfl rfl rfl c8) rfl rfl fun a f => ?_
        obtain ⟨c9, da, c3⟩ := bind_some c3
        refine q_own_at (i := 7) 16 0 m cQ rfl T22 da rfl (by kernel_rfl) rfl f (wanted_of f rfl rfl rfl c8) rfl rfl rfl fun db a dc f => q_own_load (i := 8) 16 0 cQ rfl Pl42 dc da rfl (by kernel_rfl) rfl f (wanted_of f rfl rfl rfl c8) rfl rfl fun dd a de f => q_mv 9 16 rfl (by kernel_rfl) f (wanted_of f rfl rfl rfl c8) rfl rfl fun a f => q_mv 10 16 rfl (by kernel_rfl) f (wanted_of f rfl rfl rfl c8) rfl rfl fun a f => ?_
        obtain ⟨df, dg, c3⟩ := bind_some c3
        refine q_own_at (i := 11) 16 0 m cQ rfl T22 dg rfl (by kernel_rfl) rfl f (wanted_of f rfl rfl rfl c8) rfl rfl rfl fun dh a di f => q_own_load (i := 12) 16 0 cQ rfl Pl42 di dg rfl (by kernel_rfl) rfl f (wanted_of f rfl rfl rfl c8) rfl rfl fun dj a dk f => ?_
        obtain ⟨dl, dm, c3⟩ := bind_some c3
        refine q_callv (i := 13) 16 rfl (by kernel_rfl) rfl f (wanted_of f rfl rfl rfl c8) rfl rfl rfl Tryz.call58 (fun _ _ w dn m => Wk.slices_Compare_int64_int64 m (rd1 dn (de.2)) (rd1 dn (dk.2)) dm) fun a f => q_p 14 16 rfl (by kernel_rfl) f (wanted_of f rfl rfl rfl c8) rfl rfl (fun _ => r_int (f.eval rfl) (f.eval rfl) b_lss) fun a f => q_p 15 16 rfl (by kernel_rfl) f rfl rfl rfl (fun _ => r_pickT (f.eval rfl) c8 (f.eval rfl)) fun a f => ?_
        obtain rfl := sj c3
        exact c7 _ (f.weak ⟨rfl, rfl, rfl, rfl, rfl, rfl, rfl, rfl, rfl, rfl, trivial⟩)
       ·refine q_ng 4 16 rfl (by kernel_rfl) f rfl rfl c8 rfl fun a f => ?_
        refine q_ng 5 16 rfl (by kernel_rfl) f rfl rfl c8 rfl fun a f => q_ng 6 16 rfl (by kernel_rfl) f rfl rfl c8 rfl fun a f => q_ng 7 16 rfl (by kernel_rfl) f rfl rfl c8 rfl fun a f => q_ng 8 16 rfl (by kernel_rfl) f rfl rfl c8 rfl fun a f => q_ng 9 16 rfl (by kernel_rfl) f rfl rfl c8 rfl fun a f => q_ng 10 16 rfl (by kernel_rfl) f rfl rfl c8 rfl fun a f => q_ng 11 16 rfl (by kernel_rfl) f rfl rfl c8 rfl fun a f => q_ng 12 16 rfl (by kernel_rfl) f rfl rfl c8 rfl fun a f => q_ng 13 16 rfl (by kernel_rfl) f rfl rfl c8 rfl fun a f => q_ng 14 16 rfl (by kernel_rfl) f rfl rfl c8 rfl fun a f => q_p 15 16 rfl (by kernel_rfl) f rfl rfl rfl (fun _ => r_pickF (f.eval rfl) c8 (f.eval rfl)) fun a f => ?_
        obtain rfl := sj c3
        exact c7 _ (f.weak ⟨rfl, rfl, rfl, rfl, rfl, rfl, rfl, rfl, rfl, rfl, trivial⟩)
     ·rintro a w ⟨cT, rfl, cU, dp, f, m⟩
      have cQ := Ow.mono (RTg.mono (RI.mono _)) dp cQ
      refine k_seq ?_
      obtain ⟨dq, dr, cN⟩ := bind_some cN
      refine k_cut (fun a w => ∃ ds : Int, ds = dq ∧ ∃ (dt : GH), GLe cU dt ∧ Fr a 178 [(0, v0), (1, (.int .i64 x1)), (4, (.func (.func 58) #[] #[])), (12, (.int .i64 cT)), (13, (.int .i64 ds))] ∧ Mem W dt w (cL :: H)) ?_ ?_
      ·refine k_block ?_
       refine k_loop (fun du a w => ∃ dv : Int, dv = du ∧ ∃ (dw : GH), GLe cU dw ∧ Fr a 178 [(0, v0), (1, (.int .i64 x1)), (4, (.func (.func 58) #[] #[])), (12, (.int .i64 cT)), (13, (.int .i64 dv))] ∧ Mem W dw w (cL :: H)) dr ⟨_, rfl, _, (GLe.refl _), f.weak ⟨rfl, rfl, rfl, rfl, rfl, trivial⟩, m⟩ ?_
       clear dr f m
       rintro du dx dy dz a w ⟨dv, rfl, dw, dA, f, m⟩
       have cQ := Ow.mono (RTg.mono (RI.mono _)) dA cQ
       refine k_seq (k_seq ?_)
       refine k_draw 17 Follows (by kernel_rfl) m ?_
       refine q_mv 0 17 rfl (by kernel_rfl) f rfl rfl rfl fun a f => q_mv 1 17 rfl (by kernel_rfl) f rfl rfl rfl fun a f => q_p 2 17 rfl (by kernel_rfl) f rfl rfl rfl (fun _ => r_int (f.eval rfl) (f.eval rfl) b_leq) fun a f => q_mv 3 17 rfl (by kernel_rfl) f rfl rfl rfl fun a f => ?_
       obtain ⟨dB, dC, dy⟩ := bind_some dy
       refine q_cut (fuel' := 0) (listed' := #[true, true, true, true, true, true, true, true, true, true, true, true, true, true, true, true, true]) (fun a => Fr a 178 [(0, v0), (1, (.int .i64 x1)), (4, (.func (.func 58) #[] #[])), (12, (.int .i64 cT)), (13, (.int .i64 dv)), (123, (.int .i64 cT)), (124, (.int .i64 dv)), (125, (.bool (decide (cT ≤ dv)))), (126, (.bool (decide (cT ≤ dv)))), (139, (.bool dB))]) ?_ ?_
       ·intro a f
        refine q_end fun dD w dE m => ?_
        have cQ := Ow.mono (RTg.mono (RI.mono _)) dE cQ
        refine l_nil ?_
        rcases cond_some dy with ⟨dF, dy⟩ | ⟨dF, dy⟩
        ·refine k_true f rfl dF ?_
         refine k_skip ?_
         refine k_block (k_region ?_)
         refine l_mv f rfl rfl fun a f => l_in f rfl rfl rfl b_sub fun a f => l_as f rfl rfl fun a f => l_nil ?_
         obtain rfl := sj dy
         exact ⟨_, rfl, _, rfl, _, (GLe.trans dA dE), f.weak ⟨rfl, rfl, rfl, rfl, rfl, trivial⟩, m⟩
        ·refine k_false f rfl dF ?_
         refine k_exit rfl ?_
         obtain rfl := sj dy
         obtain rfl := dz _ rfl
         exact ⟨_, rfl, _, (GLe.trans dA dE), f.weak ⟨rfl, rfl, rfl, rfl, rfl, trivial⟩, m⟩
       ·intro dG
        rcases cond_some dC with ⟨dH, dC⟩ | ⟨dH, dC⟩
        ·refine q_mv 4 17 rfl (by kernel_rfl) f (wanted_of f rfl rfl rfl dH) rfl rfl fun a f => ?_
         refine q_mv 5 17 rfl (by kernel_rfl) f (wanted_of f rfl rfl rfl dH) rfl rfl fun a f => q_mv 6 17 rfl (by kernel_rfl) f (wanted_of f rfl rfl rfl dH) rfl rfl fun a f => ?_
         obtain ⟨dI, dJ, dC⟩ := bind_some dC
         refine q_own_at (i := 7) 17 0 m cQ rfl T22 dJ rfl (by kernel_rfl) rfl f (wanted_of f rfl rfl rfl dH) rfl rfl rfl fun dK a dL f => q_own_load (i := 8) 17 0 cQ rfl Pl42 dL dJ rfl (by kernel_rfl) rfl f (wanted_of f rfl rfl rfl dH) rfl rfl fun dM a dN f => q_mv 9 17 rfl (by kernel_rfl) f (wanted_of f rfl rfl rfl dH) rfl rfl fun a f => q_mv 10 17 rfl (by kernel_rfl) f (wanted_of f rfl rfl rfl dH) rfl rfl fun a f => ?_
         obtain ⟨dO, dP, dC⟩ := bind_some dC
         refine q_own_at (i := 11) 17 0 m cQ rfl T22 dP rfl (by kernel_rfl) rfl f (wanted_of f rfl rfl rfl dH) rfl rfl rfl fun dQ a dR f => q_own_load (i := 12) 17 0 cQ rfl Pl42 dR dP rfl (by kernel_rfl) rfl f (wanted_of f rfl rfl rfl dH) rfl rfl fun dS a dT f => ?_
         obtain ⟨dU, dV, dC⟩ := bind_some dC
         refine q_callv (i := 13) 17 rfl (by kernel_rfl) rfl f (wanted_of f rfl rfl rfl dH) rfl rfl rfl Tryz.call58 (fun _ _ w dW m => Wk.slices_Compare_int64_int64 m (rd1 dW (dN.2)) (rd1 dW (dT.2)) dV) fun a f => q_p 14 17 rfl (by kernel_rfl) f (wanted_of f rfl rfl rfl dH) rfl rfl (fun _ => r_int (f.eval rfl) (f.eval rfl) b_lss) fun a f => q_p 15 17 rfl (by kernel_rfl) f (wanted_of f rfl rfl rfl dH) rfl rfl (fun _ => r_not (f.eval rfl)) fun a f => q_p 16 17 rfl (by kernel_rfl) f rfl rfl rfl (fun _ => r_pickT (f.eval rfl) dH (f.eval rfl)) fun a f => ?_
         obtain rfl := sj dC
         exact dG _ (f.weak ⟨rfl, rfl, rfl, rfl, rfl, rfl, rfl, rfl, rfl, rfl, trivial⟩)
        ·refine q_ng 4 17 rfl (by kernel_rfl) f rfl rfl dH rfl fun a f => ?_
         refine q_ng 5 17 rfl (by kernel_rfl) f rfl rfl dH rfl fun a f => q_ng 6 17 rfl (by kernel_rfl) f rfl rfl dH rfl fun a f => q_ng 7 17 rfl (by kernel_rfl) f rfl rfl dH rfl fun a f => q_ng 8 17 rfl (by kernel_rfl) f rfl rfl dH rfl fun a f => q_ng 9 17 rfl (by kernel_rfl) f rfl rfl dH rfl fun a f => q_ng 10 17 rfl (by kernel_rfl) f rfl rfl dH rfl fun a f => q_ng 11 17 rfl (by kernel_rfl) f rfl rfl dH rfl fun a f => q_ng 12 17 rfl (by kernel_rfl) f rfl rfl dH rfl fun a f => q_ng 13 17 rfl (by kernel_rfl) f rfl rfl dH rfl fun a f => q_ng 14 17 rfl (by kernel_rfl) f rfl rfl dH rfl fun a f => q_ng 15 17 rfl (by kernel_rfl) f rfl rfl dH rfl fun a f => q_p 16 17 rfl (by kernel_rfl) f rfl rfl rfl (fun _ => r_pickF (f.eval rfl) dH (f.eval rfl)) fun a f => ?_
         obtain rfl := sj dC
         exact dG _ (f.weak ⟨rfl, rfl, rfl, rfl, rfl, rfl, rfl, rfl, rfl, rfl, trivial⟩)
      ·rintro a w ⟨ds, rfl, dt, dX, f, m⟩
       have cQ := Ow.mono (RTg.mono (RI.mono _)) dX cQ
       refine k_seq (k_seq (k_region ?_))
       refine l_mv f rfl rfl fun a f => l_mv f rfl rfl fun a f => l_in f rfl rfl rfl b_gtr fun a f => l_nil ?_
       rcases cond_some cN with ⟨dY, cN⟩ | ⟨dY, cN⟩
       ·refine k_true f rfl dY ?_
        refine k_exit rfl ?_
        obtain rfl := sj cN
        obtain rfl := cO _ rfl
        exact ⟨_, _, rfl, _, cL, (GLe.trans cP (GLe.trans dp dX)), f.weak ⟨rfl, rfl, rfl, trivial⟩, m, cQ⟩
       ·refine k_false f rfl dY ?_
        refine k_skip ?_
        refine k_seq ?_
        refine k_draw0 Follows m ?_
        refine p_p 2 rfl (by kernel_rfl) f rfl rfl rfl (fun _ => r_move (f.eval rfl)) fun a f => p_p 3 rfl (by kernel_rfl) f rfl rfl rfl (fun _ => r_move (f.eval rfl)) fun a f => k_draw1 12013 11 (by kernel_rfl) rfl ?_
        refine q_mv 0 12013 rfl (by kernel_rfl) f rfl rfl rfl fun a f => q_mv 1 12013 rfl (by kernel_rfl) f rfl rfl rfl fun a f => q_mv 4 12013 rfl (by kernel_rfl) f rfl rfl rfl fun a f => q_mv 5 12013 rfl (by kernel_rfl) f rfl rfl rfl fun a f => ?_
        obtain ⟨dZ, d0, cN⟩ := bind_some cN
        refine q_own_at (i := 6) 12013 0 m cQ rfl T22 d0 rfl (by kernel_rfl) rfl f rfl rfl rfl rfl fun d1 a d2 f => q_own_load (i := 7) 12013 0 cQ rfl Pl42 d2 d0 rfl (by kernel_rfl) rfl f rfl rfl rfl fun d3 a d4 f => q_mv 8 12013 rfl (by kernel_rfl) f rfl rfl rfl fun a f => q_mv 9 12013 rfl (by kernel_rfl) f rfl rfl rfl fun a f => ?_
        obtain ⟨d5, d6, cN⟩ := bind_some cN
        refine q_own_at (i := 10) 12013 0 m cQ rfl T22 d6 rfl (by kernel_rfl) rfl f rfl rfl rfl rfl fun d7 a d8 f => q_own_load (i := 11) 12013 0 cQ rfl Pl42 d8 d6 rfl (by kernel_rfl) rfl f rfl rfl rfl fun d9 a ea f => ?_
        obtain ⟨eb, ec, cN⟩ := bind_some cN
        refine q_own_at (i := 12) 12013 0 m cQ rfl T22 ec rfl (by kernel_rfl) rfl f rfl rfl rfl rfl fun ed a ee f => q_end fun ef w eg m => ?_
        have d4 := (RTg.mono (RI.mono _)) _ _ _ _ eg d4
        have ea := (RTg.mono (RI.mono _)) _ _ _ _ eg ea
        have cQ := Ow.mono (RTg.mono (RI.mono _)) eg cQ
        refine l_own_store 0 m cQ rfl Tryz.sizeOf42 f rfl rfl ee ec d4.cells d4.one1 d4 fun eh w m ei => ?_
        obtain ⟨ej, ek, cN⟩ := bind_some cN
        refine l_own_at 0 m ei rfl T22 f rfl rfl rfl ek fun el a em f => l_own_store 0 m ei rfl Tryz.sizeOf42 f rfl rfl em ek ea.cells ea.one1 ea fun en w m eo => l_nil (k_seq (k_region ?_))
        refine l_mv f rfl rfl fun a f => l_in f rfl rfl rfl b_add fun a f => l_as f rfl rfl fun a f => l_nil (k_region ?_)
        refine l_mv f rfl rfl fun a f => l_in f rfl rfl rfl b_sub fun a f => l_as f rfl rfl fun a f => l_nil ?_
        obtain rfl := sj cN
        exact ⟨_, rfl, _, _, _, rfl, _, en, (GLe.trans cP (GLe.trans dp (GLe.trans dX eg))), f.weak ⟨rfl, rfl, rfl, rfl, rfl, trivial⟩, m, eo⟩
    ·rintro a w ⟨cC, cD, rfl, cE, cF, ep, f, m, eq⟩
     refine k_seq ?_
     refine k_draw0 Follows m ?_
     refine p_p 2 rfl (by kernel_rfl) f rfl rfl rfl (fun _ => r_move (f.eval rfl)) fun a f => p_p 3 rfl (by kernel_rfl) f rfl rfl rfl (fun _ => r_move (f.eval rfl)) fun a f => k_draw1 12013 11 (by kernel_rfl) rfl ?_
     refine q_mv 0 12013 rfl (by kernel_rfl) f rfl rfl rfl fun a f => q_mv 1 12013 rfl (by kernel_rfl) f rfl rfl rfl fun a f => q_mv 4 12013 rfl (by kernel_rfl) f rfl rfl rfl fun a f => q_mv 5 12013 rfl (by kernel_rfl) f rfl rfl rfl fun a f => ?_
     obtain ⟨er, es, hd⟩ := bind_some hd
     refine q_own_at (i := 6) 12013 0 m eq rfl T22 es rfl (by kernel_rfl) rfl f rfl rfl rfl rfl fun et a eu f => q_own_load (i := 7) 12013 0 eq rfl Pl42 eu es rfl (by kernel_rfl) rfl f rfl rfl rfl fun ev a ew f => q_mv 8 12013 rfl (by kernel_rfl) f rfl rfl rfl fun a f => q_mv 9 12013 rfl (by kernel_rfl) f rfl rfl rfl fun a f => ?_
     obtain ⟨ex, ey, hd⟩ := bind_some hd
     refine q_own_at (i := 10) 12013 0 m eq rfl T22 ey rfl (by kernel_rfl) rfl f rfl rfl rfl rfl fun ez a eA f => q_own_load (i := 11) 12013 0 eq rfl Pl42 eA ey rfl (by kernel_rfl) rfl f rfl rfl rfl fun eB a eC f => ?_
     obtain ⟨eD, eE, hd⟩ := bind_some hd
     refine q_own_at (i := 12) 12013 0 m eq rfl T22 eE rfl (by kernel_rfl) rfl f rfl rfl rfl rfl fun eF a eG f => q_end fun eH w eI m => ?_
     have ew := (RTg.mono (RI.mono _)) _ _ _ _ eI ew
     have eC := (RTg.mono (RI.mono _)) _ _ _ _ eI eC
     have eq := Ow.mono (RTg.mono (RI.mono _)) eI eq
     refine l_own_store 0 m eq rfl Tryz.sizeOf42 f rfl rfl eG eE ew.cells ew.one1 ew fun eJ w m eK => ?_
     obtain ⟨eL, eM, hd⟩ := bind_some hd
     refine l_own_at 0 m eK rfl T22 f rfl rfl rfl eM fun eN a eO f => l_own_store 0 m eK rfl Tryz.sizeOf42 f rfl rfl eO eM eC.cells eC.one1 eC fun eP w m eQ => l_nil (k_seq (k_region ?_))
     refine l_mv f rfl rfl fun a f => l_as f rfl rfl fun a f => l_as f rfl rfl fun a f => l_nil ?_
     refine k_ret ?_
     obtain rfl := sj hd
     exact ⟨[(.int .i64 cD), (.bool false)], ⟨f.get _ _ rfl, f.get _ _ rfl, trivial⟩, f.defers, _, [eP], (GLe.trans ar (GLe.trans a9 (GLe.trans bI (GLe.trans cr (GLe.trans ep eI))))), m, _, rfl, rfl, eQ⟩

theorem Wk.slices_pdqsortCmpFunc_int64__slices_Compare_int64_int64R {W : World} (n : Nat) : ∀ {w : World} {G : GH} {H : List Itm} {v0 : Value} {it0 : Itm} {x0 : (List (Value × List Int))} {x1 : Int} {x2 : Int} {x3 : Int} (m : Mem W G w (it0 :: H)) (o0 : Ow (RTg (RI .i64)) 42 G it0 v0 x0) {y : ((List (Value × List Int)))} (hd : D.slices_pdqsortCmpFunc_int64__slices_Compare_int64_int64R n x0 x1 x2 x3 = some y),
  Calls Tryz.prog 121 #[v0, (.int .i64 x1), (.int .i64 x2), (.int .i64 x3), (.func (.func 58) #[] #[])] w (Res W G H (fun G' Ho _ => ∃ i0 : Itm, Ho = [i0] ∧ Ow (RTg (RI .i64)) 42 G' i0 v0 y)) := by
 induction n with
 | zero => intros; rename_i hd; simp [D.slices_pdqsortCmpFunc_int64__slices_Compare_int64_int64R] at hd
 | succ fuel ih =>
  intro w G H v0 it0 x0 x1 x2 x3 m o0 y hd
  refine calls_b (args := [v0, (.int .i64 x1), (.int .i64 x2), (.int .i64 x3), (.func (.func 58) #[] #[])]) (N := 148) [] Tryz.func121 rfl rfl (Nat.le_of_ble_eq_true rfl) rfl fun a f => ?_
  unfold D.slices_pdqsortCmpFunc_int64__slices_Compare_int64_int64R at hd
  refine k_seq (k_region ?_)
  refine l_as f rfl rfl fun a f => l_nil (k_seq (k_region ?_))
  refine l_as f rfl rfl fun a f => l_nil ?_
  obtain ⟨aa, ab, hd⟩ := bind_some hd
  refine k_block ?_
  refine k_loop (fun ac a w => ∃ ad : List (Value × List Int), ∃ ae : Int, ∃ af : Int, ∃ ag : Int, ∃ ah : Bool, ∃ ai : Bool, (ad, ae, af, ag, ah, ai) = ac ∧ ∃ (aj : GH) (ak : Itm), GLe G aj ∧ Fr a 148 [(0, v0), (1, (.int .i64 ae)), (2, (.int .i64 af)), (3, (.int .i64 ag)), (4, (.func (.func 58) #[] #[])), (10, (.bool ah)), (11, (.bool ai))] ∧ Mem W aj w (ak :: H) ∧ Ow (RTg (RI .i64)) 42 aj ak v0 ad) ab ⟨_, _, _, _, _, _, rfl, _, it0, (GLe.refl _), f.weak ⟨rfl, rfl, rfl, rfl, rfl, rfl, rfl, trivial⟩, m, o0⟩ ?_
  clear ab f m
  rintro ac al am an a w ⟨ad, ae, af, ag, ah, ai, rfl, aj, ak, ao, f, m, ap⟩
  refine k_block (k_seq (k_region ?_))
  refine l_mv f rfl rfl fun a f => l_mv f rfl rfl fun a f => l_in f rfl rfl rfl b_sub fun a f => l_as f rfl rfl fun a f => l_nil (k_seq (k_seq (k_region ?_)))
  refine l_mv f rfl rfl fun a f => l_in f rfl rfl rfl b_leq fun a f => l_nil ?_
  rcases cond_some am with ⟨aq, am⟩ | ⟨aq, am⟩
  ·refine k_true f rfl aq ?_
   refine k_seq (k_region ?_)
   refine l_mv f rfl rfl fun a f => l_mv f rfl rfl fun a f => l_mv f rfl rfl fun a f => l_mv f rfl rfl fun a f => ?_
   obtain ⟨ar, au, am⟩ := bind_some am
   refine l_res f rfl rfl Tryz.call154 (Wk.slices_insertionSortCmpFunc_int64__slices_Compare_int64_int64 m ap au) fun av aw ax w ay m az a f => ?_
   obtain ⟨aA, rfl, aB⟩ := az
   refine l_nil ?_
   refine k_ret ?_
   obtain rfl := sj am
   obtain rfl := an _ rfl
   obtain rfl := sj hd
   exact ⟨[], trivial, f.defers, _, [aA], (GLe.trans ao ay), m, _, rfl, aB⟩
  ·refine k_false f rfl aq ?_
   refine k_skip ?_
   refine k_seq (k_seq (k_region ?_))
   refine l_mv f rfl rfl fun a f => l_in f rfl rfl rfl b_eql fun a f => l_nil ?_
   rcases cond_some am with ⟨aC, am⟩ | ⟨aC, am⟩
   ·refine k_true f rfl aC ?_
    refine k_seq (k_region ?_)
    refine l_mv f rfl rfl fun a f => l_mv f rfl rfl fun a f => l_mv f rfl rfl fun a f => l_mv f rfl rfl fun a f => ?_
    obtain ⟨aD, aE, am⟩ := bind_some am
    refine l_res f rfl rfl Tryz.call155 (Wk.slices_heapSortCmpFunc_int64__slices_Compare_int64_int64 m ap aE) fun aF aG aH w aI m aJ a f => ?_
    obtain ⟨aK, rfl, aL⟩ := aJ
    refine l_nil ?_
    refine k_ret ?_
    obtain rfl := sj am
    obtain rfl := an _ rfl
    obtain rfl := sj hd
    exact ⟨[], trivial, f.defers, _, [aK], (GLe.trans ao aI), m, _, rfl, aL⟩
   ·refine k_false f rfl aC ?_
    refine k_skip ?_
    refine k_seq (k_seq (k_region ?_))
    refine l_mv f rfl rfl fun a f => l_op f rfl rfl rfl (r_not (f.eval rfl)) fun a f => l_nil ?_
    obtain ⟨aM, aN, am⟩ := bind_some am
    refine k_cut (fun a w => ∃ aO : List (Value × List Int), ∃ aP : Int, (aO, aP) = aM ∧ ∃ (aQ : GH) (aR : Itm), GLe aj aQ ∧ Fr a 148 [(0, v0), (1, (.int .i64 ae)), (2, (.int .i64 af)), (3, (.int .i64 aP)), (4, (.func (.func 58) #[] #[])), (10, (.bool ah)), (11, (.bool ai)), (12, (.int .i64 (IntKind.i64.wrap (af - ae))))] ∧ Mem W aQ w (aR :: H) ∧ Ow (RTg (RI .i64)) 42 aQ aR v0 aO) ?_ ?_
    ·rcases cond_some aN with ⟨aS, aN⟩ | ⟨aS, aN⟩
     ·refine k_true f rfl aS ?_
      refine k_seq (k_region ?_)
      refine l_mv f rfl rfl fun a f => l_mv f rfl rfl fun a f => l_mv f rfl rfl fun a f => l_mv f rfl rfl fun a f => ?_
      obtain ⟨aT, aU, aN⟩ := bind_some aN
      refine l_res f rfl rfl Tryz.call156 (Wk.slices_breakPatternsCmpFunc_int64__slices_Compare_int64_int64 m ap aU) fun aV aW aX w aY m aZ a f => ?_
      obtain ⟨a0, rfl, a1⟩ := aZ
      refine l_nil (k_region ?_)
      refine l_mv f rfl rfl fun a f => l_in f rfl rfl rfl b_sub fun a f => l_as f rfl rfl fun a f => l_nil ?_
      obtain rfl := sj aN
      exact ⟨_, _, rfl, _, a0, aY, f.weak ⟨rfl, rfl, rfl, rfl, rfl, rfl, rfl, rfl, trivial⟩, m, a1⟩
     ·refine k_false f rfl aS ?_
      refine k_skip ?_
      obtain rfl := sj aN
      exact ⟨_, _, rfl, _, ak, (GLe.refl _), f.weak ⟨rfl, rfl, rfl, rfl, rfl, rfl, rfl, rfl, trivial⟩, m, ap⟩
    ·rintro a w ⟨aO, aP, rfl, aQ, aR, a2, f, m, a3⟩
     refine k_seq (k_region ?_)
     refine l_mv f rfl rfl fun a f => l_mv f rfl rfl fun a f => l_mv f rfl rfl fun a f => l_mv f rfl rfl fun a f => ?_
     obtain ⟨a4, a5, am⟩ := bind_some am
     refine l_res f rfl rfl Tryz.call157 (Wk.slices_choosePivotCmpFunc_int64__slices_Compare_int64_int64 m a3 a5) fun a6 a7 a8 w a9 m ba a f => ?_
     obtain ⟨bb, rfl, rfl, bc⟩ := ba
     refine l_mv f rfl rfl fun a f => l_op f rfl rfl rfl (r_extract (f.eval rfl) rfl) fun a f => l_op f rfl rfl rfl (r_extract (f.eval rfl) rfl) fun a f => l_as f rfl rfl fun a f => l_as f rfl rfl fun a f => l_nil (k_seq (k_seq (k_region ?_)))
     refine l_mv f rfl rfl fun a f => l_in f rfl rfl rfl b_eql fun a f => l_nil ?_
     obtain ⟨bd, be, am⟩ := bind_some am
     refine k_cut (fun a w => ∃ bf : List (Value × List Int), ∃ bg : Int, ∃ bh : Int, (bf, bg, bh) = bd ∧ ∃ (bi : GH) (bj : Itm), GLe a7 bi ∧ Fr a 148 [(0, v0), (1, (.int .i64 ae)), (2, (.int .i64 af)), (3, (.int .i64 aP)), (4, (.func (.func 58) #[] #[])), (10, (.bool ah)), (11, (.bool ai)), (12, (.int .i64 (IntKind.i64.wrap (af - ae)))), (13, (.int .i64 bg)), (14, (.int .i64 bh))] ∧ Mem W bi w (bj :: H) ∧ Ow (RTg (RI .i64)) 42 bi bj v0 bf) ?_ ?_
     ·rcases cond_some be with ⟨bk, be⟩ | ⟨bk, be⟩
      ·refine k_true f rfl bk ?_
       refine k_seq (k_region ?_)
       refine l_mv f rfl rfl fun a f => l_mv f rfl rfl fun a f => l_mv f rfl rfl fun a f => l_mv f rfl rfl fun a f => ?_
       obtain ⟨bl, bm, be⟩ := bind_some be
       refine l_res f rfl rfl Tryz.call158 (Wk.slices_reverseRangeCmpFunc_int64__slices_Compare_int64_int64 m bc bm) fun bn bo bp w bq m br a f => ?_
       obtain ⟨bs, rfl, bt⟩ := br
       refine l_nil (k_seq (k_region ?_))
       refine l_mv f rfl rfl fun a f => l_in f rfl rfl rfl b_sub fun a f => l_mv f rfl rfl fun a f => l_mv f rfl rfl fun a f => l_in f rfl rfl rfl b_sub fun a f => l_in f rfl rfl rfl b_sub fun a f => l_as f rfl rfl fun a f => l_nil (k_region ?_)
       refine l_as f rfl rfl fun a f => l_nil ?_
       obtain rfl := sj be
       exact ⟨_, _, _, rfl, _, bs, bq, f.weak ⟨rfl, rfl, rfl, rfl, rfl, rfl, rfl, rfl, rfl, rfl, trivial⟩, m, bt⟩
      ·refine k_false f rfl bk ?_
       refine k_skip ?_
       obtain rfl := sj be
       exact ⟨_, _, _, rfl, _, bb, (GLe.refl _), f.weak ⟨rfl, rfl, rfl, rfl, rfl, rfl, rfl, rfl, rfl, rfl, trivial⟩, m, bc⟩
     ·rintro a w ⟨bf, bg, bh, rfl, bi, bj, bu, f, m, bv⟩
      refine k_seq (k_seq (k_region ?_))
      refine l_mv f rfl rfl fun a f => l_mv f rfl rfl fun a f => ?_
      refine l_cut 2 (fun a w => ∃ bw, GLe bi bw ∧ Mem W bw w (bj :: H) ∧ Fr a 148 [(0, v0), (1, (.int .i64 ae)), (2, (.int .i64 af)), (3, (.int .i64 aP)), (4, (.func (.func 58) #[] #[])), (10, (.bool ah)), (11, (.bool ai)), (12, (.int .i64 (IntKind.i64.wrap (af - ae)))), (13, (.int .i64 bg)), (14, (.int .i64 bh)), (68, (.bool ah)), (69, (.bool ah)), (71, (.bool (ah && ai)))]) ?_ ?_
      ·rcases Bool.eq_false_or_eq_true ah with bx | bx
       ·refine l_run f rfl rfl bx ?_
        refine l_mv f rfl rfl fun a f => l_op f rfl rfl rfl (r_pickT (f.eval rfl) bx (f.eval rfl)) fun a f => ?_
        exact ⟨_, (GLe.refl _), m, f.weak ⟨rfl, rfl, rfl, rfl, rfl, rfl, rfl, rfl, rfl, rfl, rfl, rfl, by rw [bx]; rfl, trivial⟩⟩
       ·refine l_not' f rfl rfl rfl bx fun a f => ?_
        refine l_op f rfl rfl rfl (r_pickF (f.eval rfl) bx (f.eval rfl)) fun a f => ?_
        exact ⟨_, (GLe.refl _), m, f.weak ⟨rfl, rfl, rfl, rfl, rfl, rfl, rfl, rfl, rfl, rfl, rfl, rfl, by rw [bx]; rfl, trivial⟩⟩
      ·rintro a w ⟨bw, bz, m, f⟩
       have bv := Ow.mono (RTg.mono (RI.mono _)) bz bv
       refine l_mv f rfl rfl fun a f => ?_
       refine l_cut 3 (fun a w => ∃ bA, GLe bw bA ∧ Mem W bA w (bj :: H) ∧ Fr a 148 [(0, v0), (1, (.int .i64 ae)), (2, (.int .i64 af)), (3, (.int .i64 aP)), (4, (.func (.func 58) #[] #[])), (10, (.bool ah)), (11, (.bool ai)), (12, (.int .i64 (IntKind.i64.wrap (af - ae)))), (13, (.int .i64 bg)), (14, (.int .i64 bh)), (68, (.bool ah)), (69, (.bool ah)), (71, (.bool (ah && ai))), (72, (.bool (ah && ai))), (75, (.bool ((ah && ai) && (bh == 1))))]) ?_ ?_
       ·rcases Bool.eq_false_or_eq_true (ah && ai) with bB | bB
        ·refine l_run f rfl rfl bB ?_
         refine l_mv f rfl rfl fun a f => l_run f rfl rfl bB ?_
         refine l_in f rfl rfl rfl b_eql fun a f => l_op f rfl rfl rfl (r_pickT (f.eval rfl) bB (f.eval rfl)) fun a f => ?_
         exact ⟨_, (GLe.refl _), m, f.weak ⟨rfl, rfl, rfl, rfl, rfl, rfl, rfl, rfl, rfl, rfl, rfl, rfl, rfl, rfl, by rw [bB]; rfl, trivial⟩⟩
        ·refine l_not' f rfl rfl rfl bB fun a f => ?_
         refine l_not' f rfl rfl rfl bB fun a f => l_op f rfl rfl rfl (r_pickF (f.eval rfl) bB (f.eval rfl)) fun a f => ?_
         exact ⟨_, (GLe.refl _), m, f.weak ⟨rfl, rfl, rfl, rfl, rfl, rfl, rfl, rfl, rfl, rfl, rfl, rfl, rfl, rfl, by rw [bB]; rfl, trivial⟩⟩
       ·rintro a w ⟨bA, bC, m, f⟩
        have bv := Ow.mono (RTg.mono (RI.mono _)) bC bv
        refine l_nil ?_
        obtain ⟨bD, bE, am⟩ := bind_some am
        refine k_cut (fun a w => ∃ j_513' : (List (Value × List Int)), bD = .inl j_513' ∧ ∃ bF : List (Value × List Int), bF = j_513' ∧ ∃ (bG : GH) (bH : Itm), GLe bA bG ∧ Fr a 148 [(0, v0), (1, (.int .i64 ae)), (2, (.int .i64 af)), (3, (.int .i64 aP)), (4, (.func (.func 58) #[] #[])), (10, (.bool ah)), (11, (.bool ai)), (12, (.int .i64 (IntKind.i64.wrap (af - ae)))), (13, (.int .i64 bg))] ∧ Mem W bG w (bH :: H) ∧ Ow (RTg (RI .i64)) 42 bG bH v0 bF) ?_ ?_
        ·rcases cond_some bE with ⟨bI, bE⟩ | ⟨bI, bE⟩
         ·refine k_true f rfl bI ?_
          refine k_seq (k_region ?_)
          refine l_mv f rfl rfl fun a f => l_mv f rfl rfl fun a f => l_mv f rfl rfl fun a f => l_mv f rfl rfl fun a f => ?_
          obtain ⟨bJ, bK, bE⟩ := bind_some bE
          refine l_res f rfl rfl Tryz.call159 (Wk.slices_partialInsertionSortCmpFunc_int64__slices_Compare_int64_int64 m bv bK) fun bL bM bN w bO m bP a f => ?_
          obtain ⟨bQ, rfl, rfl, bR⟩ := bP
          refine l_nil ?_
          rcases cond_some bE with ⟨bS, bE⟩ | ⟨bS, bE⟩
          ·refine k_true f rfl bS ?_
           refine k_ret ?_
           obtain rfl := sj bE
           obtain rfl := sj am
           obtain rfl := an _ rfl
           obtain rfl := sj hd
           exact ⟨[], trivial, f.defers, _, [bQ], (GLe.trans ao (GLe.trans a2 (GLe.trans a9 (GLe.trans bu (GLe.trans bz (GLe.trans bC bO)))))), m, _, rfl, bR⟩
          ·refine k_false f rfl bS ?_
           refine k_skip ?_
           obtain rfl := sj bE
           exact ⟨_, rfl, _, rfl, _, bQ, bO, f.weak ⟨rfl, rfl, rfl, rfl, rfl, rfl, rfl, rfl, rfl, trivial⟩, m, bR⟩
         ·refine k_false f rfl bI ?_
          refine k_skip ?_
          obtain rfl := sj bE
          exact ⟨_, rfl, _, rfl, _, bj, (GLe.refl _), f.weak ⟨rfl, rfl, rfl, rfl, rfl, rfl, rfl, rfl, rfl, trivial⟩, m, bv⟩
        ·rintro a w ⟨_, rfl, bF, rfl, bG, bH, bT, f, m, bU⟩
         refine k_seq (k_seq ?_)
         refine k_draw 17 Follows (by kernel_rfl) m ?_
         refine q_mv 0 17 rfl (by kernel_rfl) f rfl rfl rfl fun a f => q_p 1 17 rfl (by kernel_rfl) f rfl rfl rfl (fun _ => r_int (f.eval rfl) (f.eval rfl) b_gtr) fun a f => q_mv 2 17 rfl (by kernel_rfl) f rfl rfl rfl fun a f => ?_
         obtain ⟨bV, bW, am⟩ := bind_some am
         refine q_cut (fuel' := 0) (listed' := #[true, true, true, true, true, true, true, true, true, true, true, true, true, true, true, true, true]) (fun a => Fr a 148 [(0, v0), (1, (.int .i64 ae)), (2, (.int .i64 af)), (3, (.int .i64 aP)), (4, (.func (.func 58) #[] #[])), (10, (.bool ah)), (11, (.bool ai)), (12, (.int .i64 (IntKind.i64.wrap (af - ae)))), (13, (.int .i64 bg)), (81, (.int .i64 ae)), (82, (.bool (decide ((0 : Int) < ae)))), (83, (.bool (decide ((0 : Int) < ae)))), (97, (.bool bV))]) ?_ ?_
         ·intro a f
          refine q_end fun bX w bY m => ?_
          have bU := Ow.mono (RTg.mono (RI.mono _)) bY bU
          refine l_nil ?_
          rcases cond_some am with ⟨bZ, am⟩ | ⟨bZ, am⟩
          ·refine k_true f rfl bZ ?_
           refine k_seq (k_region ?_)
           refine l_mv f rfl rfl fun a f => l_mv f rfl rfl fun a f => l_mv f rfl rfl fun a f => l_mv f rfl rfl fun a f => l_mv f rfl rfl fun a f => ?_
           obtain ⟨b0, b1, am⟩ := bind_some am
           refine l_res f rfl rfl Tryz.call160 (Wk.slices_partitionEqualCmpFunc_int64__slices_Compare_int64_int64 m bU b1) fun b2 b3 b4 w b5 m b6 a f => ?_
           obtain ⟨b7, rfl, rfl, b8⟩ := b6
           refine l_as f rfl rfl fun a f => l_nil (k_seq (k_region ?_))
           refine l_mv f rfl rfl fun a f => l_as f rfl rfl fun a f => l_nil ?_
           refine k_exit rfl ?_
           obtain rfl := sj am
           exact ⟨_, rfl, _, _, _, _, _, _, rfl, _, b7, (GLe.trans ao (GLe.trans a2 (GLe.trans a9 (GLe.trans bu (GLe.trans bz (GLe.trans bC (GLe.trans bT (GLe.trans bY b5)))))))), f.weak ⟨rfl, rfl, rfl, rfl, rfl, rfl, rfl, trivial⟩, m, b8⟩
          ·refine k_false f rfl bZ ?_
           refine k_skip ?_
           refine k_seq (k_region ?_)
           refine l_mv f rfl rfl fun a f => l_mv f rfl rfl fun a f => l_mv f rfl rfl fun a f => l_mv f rfl rfl fun a f => l_mv f rfl rfl fun a f => ?_
           obtain ⟨b9, ca, am⟩ := bind_some am
           refine l_res f rfl rfl Tryz.call161 (Wk.slices_partitionCmpFunc_int64__slices_Compare_int64_int64 m bU ca) fun cb cc cd w ce m cf a f => ?_
           obtain ⟨cg, rfl, rfl, ch⟩ := cf
           refine l_mv f rfl rfl fun a f => l_op f rfl rfl rfl (r_extract (f.eval rfl) rfl) fun a f => l_op f rfl rfl rfl (r_extract (f.eval rfl) rfl) fun a f => l_as f rfl rfl fun a f => l_as f rfl rfl fun a f => l_nil (k_seq (k_region ?_))
           refine l_mv f rfl rfl fun a f => l_as f rfl rfl fun a f => l_nil (k_seq (k_region ?_))
           refine l_mv f rfl rfl fun a f => l_mv f rfl rfl fun a f => l_in f rfl rfl rfl b_sub fun a f => l_mv f rfl rfl fun a f => l_mv f rfl rfl fun a f => l_in f rfl rfl rfl b_sub fun a f => l_as f rfl rfl fun a f => l_as f rfl rfl fun a f => l_nil (k_seq (k_region ?_))
           refine l_mv f rfl rfl fun a f => l_in f rfl rfl rfl (b_quo rfl) fun a f => l_as f rfl rfl fun a f => l_nil (k_seq (k_region ?_))
           refine l_mv f rfl rfl fun a f => l_mv f rfl rfl fun a f => l_in f rfl rfl rfl b_lss fun a f => l_nil ?_
           rcases cond_some am with ⟨ci, am⟩ | ⟨ci, am⟩
           ·refine k_true f rfl ci ?_
            refine k_seq (k_region ?_)
            refine l_mv f rfl rfl fun a f => l_mv f rfl rfl fun a f => l_in f rfl rfl rfl b_geq fun a f => l_as f rfl rfl fun a f => l_nil (k_seq (k_region ?_))
            refine l_mv f rfl rfl fun a f => l_mv f rfl rfl fun a f => l_mv f rfl rfl fun a f => l_mv f rfl rfl fun a f => l_mv f rfl rfl fun a f => ?_
            obtain ⟨cj, ck, am⟩ := bind_some am
            refine l_res f rfl rfl Tryz.call121 (ih m ch ck) fun cl cm cn w co m cp a f => ?_
            obtain ⟨cq, rfl, cr⟩ := cp
            refine l_nil (k_region ?_)
            refine l_mv f rfl rfl fun a f => l_in f rfl rfl rfl b_add fun a f => l_as f rfl rfl fun a f => l_nil ?_
            obtain rfl := sj am
            exact ⟨_, rfl, _, _, _, _, _, _, rfl, _, cq, (GLe.trans ao (GLe.trans a2 (GLe.trans a9 (GLe.trans bu (GLe.trans bz (GLe.trans bC (GLe.trans bT (GLe.trans bY (GLe.trans ce co))))))))), f.weak ⟨rfl, rfl, rfl, rfl, rfl, rfl, rfl, trivial⟩, m, cr⟩
           ·refine k_false f rfl ci ?_
            refine k_seq (k_region ?_)
            refine l_mv f rfl rfl fun a f => l_mv f rfl rfl fun a f => l_in f rfl rfl rfl b_geq fun a f => l_as f rfl rfl fun a f => l_nil (k_seq (k_region ?_))
            refine l_mv f rfl rfl fun a f => l_mv f rfl rfl fun a f => l_in f rfl rfl rfl b_add fun a f => l_mv f rfl rfl fun a f => l_mv f rfl rfl fun a f => l_mv f rfl rfl fun a f => ?_
            obtain ⟨cs, ct, am⟩ := bind_some am
            refine l_res f rfl rfl Tryz.call121 (ih m ch ct) fun cu cv cw w cx m cy a f => ?_
            obtain ⟨cz, rfl, cA⟩ := cy
            refine l_nil (k_region ?_)
            refine l_mv f rfl rfl fun a f => l_as f rfl rfl fun a f => l_nil ?_
            obtain rfl := sj am
            exact ⟨_, rfl, _, _, _, _, _, _, rfl, _, cz, (GLe.trans ao (GLe.trans a2 (GLe.trans a9 (GLe.trans bu (GLe.trans bz (GLe.trans bC (GLe.trans bT (GLe.trans bY (GLe.trans ce cx))))))))), f.weak ⟨rfl, rfl, rfl, rfl, rfl, rfl, rfl, trivial⟩, m, cA⟩
         ·intro cB
          rcases cond_some bW with ⟨cC, bW⟩ | ⟨cC, bW⟩
          ·refine q_mv 3 17 rfl (by kernel_rfl) f (wanted_of f rfl rfl rfl cC) rfl rfl fun a f => ?_
           refine q_mv 4 17 rfl (by kernel_rfl) f (wanted_of f rfl rfl rfl cC) rfl rfl fun a f => q_mv 5 17 rfl (by kernel_rfl) f (wanted_of f rfl rfl rfl cC) rfl rfl fun a f => q_p 6 17 rfl (by kernel_rfl) f (wanted_of f rfl rfl rfl cC) rfl rfl (fun _ => r_int (f.eval rfl) (f.eval rfl) b_sub) fun a f => ?_
           obtain ⟨cD, cE, bW⟩ := bind_some bW
           refine q_own_at (i := 7) 17 0 m bU rfl T22 cE rfl (by kernel_rfl) rfl f (wanted_of f rfl rfl rfl cC) rfl rfl rfl fun cF a cG f => q_own_load (i := 8) 17 0 bU rfl Pl42 cG cE rfl (by kernel_rfl) rfl f (wanted_of f rfl rfl rfl cC) rfl rfl fun cH a cI f => q_mv 9 17 rfl (by kernel_rfl) f (wanted_of f rfl rfl rfl cC) rfl rfl fun a f => q_mv 10 17 rfl (by kernel_rfl) f (wanted_of f rfl rfl rfl cC) rfl rfl fun a f => ?_
           obtain ⟨cJ, cK, bW⟩ := bind_some bW
           refine q_own_at (i := 11) 17 0 m bU rfl T22 cK rfl (by kernel_rfl) rfl f (wanted_of f rfl rfl rfl cC) rfl rfl rfl fun cL a cM f => q_own_load (i := 12) 17 0 bU rfl Pl42 cM cK rfl (by kernel_rfl) rfl f (wanted_of f rfl rfl rfl cC) rfl rfl fun cN a cO f => ?_
           obtain ⟨cP, cQ, bW⟩ := bind_some bW
           refine q_callv (i := 13) 17 rfl (by kernel_rfl) rfl f (wanted_of f rfl rfl rfl cC) rfl rfl rfl Tryz.call58 (fun _ _ w cR m => Wk.slices_Compare_int64_int64 m (rd1 cR (cI.2)) (rd1 cR (cO.2)) cQ) fun a f => q_p 14 17 rfl (by kernel_rfl) f (wanted_of f rfl rfl rfl cC) rfl rfl (fun _ => r_int (f.eval rfl) (f.eval rfl) b_lss) fun a f => q_p 15 17 rfl (by kernel_rfl) f (wanted_of f rfl rfl rfl cC) rfl rfl (fun _ => r_not (f.eval rfl)) fun a f => q_p 16 17 rfl (by kernel_rfl) f rfl rfl rfl (fun _ => r_pickT (f.eval rfl) cC (f.eval rfl)) fun a f => ?_
           obtain rfl := sj bW
           exact cB _ (f.weak ⟨rfl, rfl, rfl, rfl, rfl, rfl, rfl, rfl, rfl, rfl, rfl, rfl, rfl, trivial⟩)
          ·refine q_ng 3 17 rfl (by kernel_rfl) f rfl rfl cC rfl fun a f => ?_
           refine q_ng 4 17 rfl (by kernel_rfl) f rfl rfl cC rfl fun a f => q_ng 5 17 rfl (by kernel_rfl) f rfl rfl cC rfl fun a f => q_ng 6 17 rfl (by kernel_rfl) f rfl rfl cC rfl fun a f => q_ng 7 17 rfl (by kernel_rfl) f rfl rfl cC rfl fun a f => q_ng 8 17 rfl (by kernel_rfl) f rfl rfl cC rfl fun a f => q_ng 9 17 rfl (by kernel_rfl) f rfl rfl cC rfl fun a f => q_ng 10 17 rfl (by kernel_rfl) f rfl rfl cC rfl fun a f => q_ng 11 17 rfl (by kernel_rfl) f rfl rfl cC rfl fun a f => q_ng 12 17 rfl (by kernel_rfl) f rfl rfl cC rfl fun a f => q_ng 13 17 rfl (by kernel_rfl) f rfl rfl cC rfl fun a f => q_ng 14 17 rfl (by kernel_rfl) f rfl rfl cC rfl fun a f => q_ng 15 17 rfl (by kernel_rfl) f rfl rfl cC rfl fun a f => q_p 16 17 rfl (by kernel_rfl) f rfl rfl rfl (fun _ => r_pickF (f.eval rfl) cC (f.eval rfl)) fun a f => ?_
           obtain rfl := sj bW
           exact cB _ (f.weak ⟨rfl, rfl, rfl, rfl, rfl, rfl, rfl, rfl, rfl, rfl, rfl, rfl, rfl, trivial⟩)

theorem Wk.slices_pdqsortCmpFunc_int64__slices_Compare_int64_int64 {W w : World} {G : GH} {H : List Itm} {v0 : Value} {it0 : Itm} {x0 : (List (Value × List Int))} {x1 : Int} {x2 : Int} {x3 : Int} (m : Mem W G w (it0 :: H)) (o0 : Ow (RTg (RI .i64)) 42 G it0 v0 x0) {y : ((List (Value × List Int)))} (hd : D.slices_pdqsortCmpFunc_int64__slices_Compare_int64_int64 x0 x1 x2 x3 = some y) :
  Calls Tryz.prog 121 #[v0, (.int .i64 x1), (.int .i64 x2), (.int .i64 x3), (.func (.func 58) #[] #[])] w (Res W G H (fun G' Ho _ => ∃ i0 : Itm, Ho = [i0] ∧ Ow (RTg (RI .i64)) 42 G' i0 v0 y)) := by
 exact Wk.slices_pdqsortCmpFunc_int64__slices_Compare_int64_int64R recFuel m o0 hd

theorem Wk.slices_SortFunc_int64_int64__slices_Compare_int64_int64 {W w : World} {G : GH} {H : List Itm} {v0 : Value} {it0 : Itm} {x0 : (List (Value × List Int))} (m : Mem W G w (it0 :: H)) (o0 : Ow (RTg (RI .i64)) 42 G it0 v0 x0) {y : ((List (Value × List Int)))} (hd : D.slices_SortFunc_int64_int64__slices_Compare_int64_int64 x0 = some y) :
  Calls Tryz.prog 57 #[v0, (.func (.func 58) #[] #[])] w (Res W G H (fun G' Ho _ => ∃ i0 : Itm, Ho = [i0] ∧ Ow (RTg (RI .i64)) 42 G' i0 v0 y)) := by
 refine calls_b (args := [v0, (.func (.func 58) #[] #[])]) (N := 14) [] Tryz.func57 rfl rfl (Nat.le_of_ble_eq_true rfl) rfl fun a f => ?_
 unfold D.slices_SortFunc_int64_int64__slices_Compare_int64_int64 at hd
 refine k_seq (k_region ?_)
 refine l_mv f rfl rfl fun a f => l_own_len 0 m o0 rfl Tryz.underlying22 f rfl rfl fun a f => l_as f rfl rfl fun a f => l_nil (k_region ?_)
 refine l_mv f rfl rfl fun a f => l_mv f rfl rfl fun a f => l_mv f rfl rfl fun a f => l_op f rfl rfl rfl (r_conv (f.eval rfl) ⟨_, Tryz.underlying3⟩ Tryz.underlying135) fun a f => ?_
 obtain ⟨aa, ab, hd⟩ := bind_some hd
 refine l_res f rfl rfl Tryz.call122 (Wk.math_bits_Len m  ab) fun ac ad ae w af m ag a f => ?_
 obtain ⟨rfl, rfl⟩ := ag
 have o0 := Ow.mono (RTg.mono (RI.mono _)) af o0
 refine l_mv f rfl rfl fun a f => ?_
 obtain ⟨ah, ai, hd⟩ := bind_some hd
 refine l_res f rfl rfl Tryz.call121 (Wk.slices_pdqsortCmpFunc_int64__slices_Compare_int64_int64 m o0 ai) fun aj ak al w am m an a f => ?_
 obtain ⟨ao, rfl, ap⟩ := an
 refine l_nil ?_
 obtain rfl := sj hd
 exact ⟨[], trivial, f.defers, _, [ao], (GLe.trans af am), m, _, rfl, ap⟩

theorem Wk.impl_mergedBags {W w : World} {G : GH} {H : List Itm} {v0 : Value} {v1 : Value} {x0 : (List Int)} {x1 : (List (List Int))} {x2 : Int} {x3 : Int} (m : Mem W G w (H)) (h0 : RSl (RI .u32) G v0 x0) (h1 : RSl (RSl (RI .i64)) G v1 x1) {y : ((List Int)) × ((List (List Int)))} (hd : D.impl_mergedBags x0 x1 x2 x3 = some y) :
  Calls Tryz.prog 129 #[v0, v1, (.int .i64 x2), (.int .i64 x3)] w (Res W G H (fun G' Ho v => ∃ r0 : Value, ∃ i0 : Itm, ∃ r2 : Value, ∃ i2 : Itm, Ho = [i0, i2] ∧ v = .tuple #[r0, r2] ∧ Ow (RI .u32) 76 G' i0 r0 y.1 ∧ Ow (RSl (RI .i64)) 42 G' i2 r2 y.2)) := by
 refine calls_b (args := [v0, v1, (.int .i64 x2), (.int .i64 x3)]) (N := 53) [.tmp 8, .tmp 9] Tryz.func129 rfl rfl (Nat.le_of_ble_eq_true rfl) rfl fun a f => ?_
 unfold D.impl_mergedBags at hd
 refine k_seq (k_region ?_)
 refine l_box (cs := [(.int .i64 x2)]) m f rfl rfl rfl fun aa w a m f => l_box (cs := [(.int .i64 x3)]) m f rfl rfl rfl fun ab w a m f => l_as f rfl rfl fun a f => l_as f rfl rfl fun a f => l_nil (k_seq (k_region ?_))
 refine l_makeFunc f rfl rfl rfl fun a f => l_as f rfl rfl fun a f => l_nil (k_seq (k_region ?_))
 refine l_slit (R := (RSl (RI .i64))) (xs := ([] : List (List Int))) (RSl.one _) m T22 f rfl rfl rfl (by decide) (All2.nil _) fun ac ad w a m ae f => l_as f rfl rfl fun a f => l_nil (k_seq (k_seq (k_region ?_)))
 refine l_mv f rfl rfl fun a f => l_len Tryz.underlying22 f rfl rfl h1 fun a f => l_mv f rfl rfl fun a f => l_nil ?_
 obtain ⟨af, ag, hd⟩ := bind_some hd
 refine k_cut (fun a w => ∃ ah : List (List Int), ah = af ∧ ∃ (ai : GH) (aj : Value) (ak : Itm), GLe G ai ∧ Fr a 53 [(0, v0), (6, (.pointer (some ⟨aa, 0, none⟩))), (11, aj)] ∧ Mem W ai w (Itm.box aa 3 [(.int .i64 x2)] :: ak :: H) ∧ Ow (RSl (RI .i64)) 42 ai ak aj ah) ?_ ?_
 ·refine k_block ?_
  have m := m.front 1 rfl
  have m := m.front 2 rfl
  refine k_loop (fun al a w => ∃ am : List (List Int), ∃ an : Int, (am, an) = al ∧ ∃ (ao : GH) (ap : Value) (aq : Itm), GLe G ao ∧ Fr a 53 [(0, v0), (6, (.pointer (some ⟨aa, 0, none⟩))), (10, (.func (.func 165) #[] #[(.pointer (some ⟨aa, 0, none⟩)), (.pointer (some ⟨ab, 0, none⟩))])), (11, ap), (18, v1), (19, (.int .i64 (x1.length : Int))), (20, (.int .i64 an))] ∧ Mem W ao w (Itm.box aa 3 [(.int .i64 x2)] :: Itm.box ab 3 [(.int .i64 x3)] :: aq :: H) ∧ Ow (RSl (RI .i64)) 42 ao aq ap am) ag ⟨_, _, rfl, _, ad, ac, (GLe.refl _), f.weak ⟨rfl, rfl, rfl, rfl, rfl, rfl, rfl, trivial⟩, m, ae⟩ ?_
  clear ag f m
  rintro al ar au av a w ⟨am, an, rfl, ao, ap, aq, aw, f, m, ax⟩
  have h0 := rd1 aw h0
  have h1 := rd2 aw h1
  refine k_seq (k_region ?_)
  refine l_in f rfl rfl rfl b_lss fun a f => l_nil (k_seq ?_)
  rcases cond_some au with ⟨ay, au⟩ | ⟨ay, au⟩
  ·refine k_true f rfl ay ?_
   refine k_skip ?_
   refine k_seq (k_block (k_seq (k_region ?_)))
   obtain ⟨az, aA, au⟩ := bind_some au
   refine l_at T22 f rfl rfl rfl h1 aA fun aB aC a aD aE f => l_loadAt m Pl42 f rfl rfl aD fun a f => l_as f rfl rfl fun a f => l_nil (k_seq ?_)
   refine k_draw 12 Follows (by kernel_rfl) m ?_
   refine q_mv 0 12 rfl (by kernel_rfl) f rfl rfl rfl fun a f => q_mv 1 12 rfl (by kernel_rfl) f rfl rfl rfl fun a f => ?_
   obtain ⟨aF, aG, au⟩ := bind_some au
   refine q_at (i := 2) 12 T42 aE aG rfl (by kernel_rfl) rfl f rfl rfl rfl rfl fun aH aI a aJ aK f => ?_
   subst aK
   refine q_loadAt (i := 3) 12 Pl2 aJ rfl (by kernel_rfl) rfl f rfl rfl rfl fun a f => q_mv 5 12 rfl (by kernel_rfl) f rfl rfl rfl fun a f => q_mv 6 12 rfl (by kernel_rfl) f rfl rfl rfl fun a f => ?_
   obtain ⟨aL, aM, au⟩ := bind_some au
   refine q_at (i := 7) 12 T42 aE aM rfl (by kernel_rfl) rfl f rfl rfl rfl rfl fun aN aO a aP aQ f => ?_
   subst aQ
   refine q_loadAt (i := 8) 12 Pl2 aP rfl (by kernel_rfl) rfl f rfl rfl rfl fun a f => q_one (i := 4) rfl (by kernel_rfl) rfl fun aR w aS m aT aT => ?_
   have h0 := rd1 aS h0
   have aE := rd1 aS aE
   have h1 := rd2 aS h1
   have aJ := At.mono aS aJ
   have aP := At.mono aS aP
   have ax := Ow.mono (RSl.mono (RI.mono _)) aS ax
   obtain ⟨aU, aV, au⟩ := bind_some au
   refine l_resv0 f rfl rfl rfl Tryz.call165 (Wk.impl_mergedBags_1 m  aV) fun aW aX aY w aZ m a0 a f => ?_
   obtain ⟨rfl, rfl⟩ := a0
   have h0 := rd1 aZ h0
   have aE := rd1 aZ aE
   have h1 := rd2 aZ h1
   have aJ := At.mono aZ aJ
   have aP := At.mono aZ aP
   have ax := Ow.mono (RSl.mono (RI.mono _)) aZ ax
   refine l_nil ?_
   refine aT aX [] _ _ aZ m ?_
   refine q_one (i := 9) rfl (by kernel_rfl) rfl fun a1 w a2 m a3 a3 => ?_
   have h0 := rd1 a2 h0
   have aE := rd1 a2 aE
   have h1 := rd2 a2 h1
   have aJ := At.mono a2 aJ
   have aP := At.mono a2 aP
   have ax := Ow.mono (RSl.mono (RI.mono _)) a2 ax
   obtain ⟨a4, a5, au⟩ := bind_some au
   refine l_resv0 f rfl rfl rfl Tryz.call165 (Wk.impl_mergedBags_1 m  a5) fun a6 a7 a8 w a9 m ba a f => ?_
   obtain ⟨rfl, rfl⟩ := ba
   have h0 := rd1 a9 h0
   have aE := rd1 a9 aE
   have h1 := rd2 a9 h1
   have aJ := At.mono a9 aJ
   have aP := At.mono a9 aP
   have ax := Ow.mono (RSl.mono (RI.mono _)) a9 ax
   refine l_nil ?_
   refine a3 a7 [] _ _ a9 m ?_
   refine q_p 10 12 rfl (by kernel_rfl) f rfl rfl rfl (fun _ => r_assign (f.eval rfl)) fun a f => q_p 11 12 rfl (by kernel_rfl) f rfl rfl rfl (fun _ => r_assign (f.eval rfl)) fun a f => q_end fun bb w bc m => ?_
   have h0 := rd1 bc h0
   have aE := rd1 bc aE
   have h1 := rd2 bc h1
   have aJ := At.mono bc aJ
   have aP := At.mono bc aP
   have ax := Ow.mono (RSl.mono (RI.mono _)) bc ax
   refine l_nil (k_seq (k_region ?_))
   refine l_mv f rfl rfl fun a f => l_mv f rfl rfl fun a f => l_in f rfl rfl rfl b_neq fun a f => l_nil ?_
   rcases cond_some au with ⟨bd, au⟩ | ⟨bd, au⟩
   ·refine k_true f rfl bd ?_
    refine k_region ?_
    refine l_mv f rfl rfl fun a f => l_mv f rfl rfl fun a f => l_mv f rfl rfl fun a f => ?_
    obtain ⟨be, bf, au⟩ := bind_some au
    refine l_res f rfl rfl Tryz.call56 (Wk.impl_sortedLink m  bf) fun bg bh bi w bj m bk a f => ?_
    obtain ⟨bl, bm, rfl, rfl, bn⟩ := bk
    have h0 := rd1 bj h0
    have aE := rd1 bj aE
    have h1 := rd2 bj h1
    have ax := Ow.mono (RSl.mono (RI.mono _)) bj ax
    obtain ⟨bo, bp, m, bq⟩ := Ow.stamp (RI.mono _) bn m
    have h0 := rd1 bp h0
    have aE := rd1 bp aE
    have h1 := rd2 bp h1
    have ax := Ow.mono (RSl.mono (RI.mono _)) bp ax
    refine l_slit (R := (RSl (RI .i64))) (xs := ([be] : List (List Int))) (RSl.one _) m T22 f rfl rfl rfl (by decide) (All2.cons bq (All2.nil _)) fun br bs w a m bt f => ?_
    obtain ⟨bu, bv, au⟩ := bind_some au
    refine l_append (RSl.one _) 3 m ax rfl T22 rfl (by decide) f rfl rfl rfl (Ow.src (j := 0) bt m rfl) bv fun bw bx w a m bz f => l_as f rfl rfl fun a f => l_nil (k_region ?_)
    refine l_in f rfl rfl rfl b_add fun a f => l_mv f rfl rfl fun a f => l_nil ?_
    have m := m.front 3 rfl
    have m := m.front 3 rfl
    have m : Mem W bo w (Itm.box aa 3 [(.int .i64 x2)] :: Itm.box ab 3 [(.int .i64 x3)] :: bw :: br :: H) := m.front 3 rfl
    have m := m.eraseAt 3
    obtain rfl := sj au
    exact ⟨_, rfl, _, _, rfl, _, bx, bw, (GLe.trans aw (GLe.trans aS (GLe.trans aZ (GLe.trans a2 (GLe.trans a9 (GLe.trans bc (GLe.trans bj bp))))))), f.weak ⟨rfl, rfl, rfl, rfl, rfl, rfl, rfl, trivial⟩, m, bz⟩
   ·refine k_false f rfl bd ?_
    refine k_skip ?_
    refine k_region ?_
    refine l_in f rfl rfl rfl b_add fun a f => l_mv f rfl rfl fun a f => l_nil ?_
    obtain rfl := sj au
    exact ⟨_, rfl, _, _, rfl, _, ap, aq, (GLe.trans aw (GLe.trans aS (GLe.trans aZ (GLe.trans a2 (GLe.trans a9 bc))))), f.weak ⟨rfl, rfl, rfl, rfl, rfl, rfl, rfl, trivial⟩, m, ax⟩
  ·refine k_false f rfl ay ?_
   refine k_exit rfl ?_
   have m := m.front 2 rfl
   have m := m.front 1 rfl
   have m := m.eraseAt 2
   obtain rfl := sj au
   obtain rfl := av _ rfl
   exact ⟨_, rfl, _, ap, aq, aw, f.weak ⟨rfl, rfl, rfl, trivial⟩, m, ax⟩
 ·rintro a w ⟨ah, rfl, ai, aj, ak, bA, f, m, bB⟩
  have h0 := rd1 bA h0
  refine k_seq (k_region ?_)
  refine l_mv f rfl rfl fun a f => ?_
  have m := m.front 1 rfl
  obtain ⟨bC, bD, hd⟩ := bind_some hd
  refine l_res f rfl rfl Tryz.call57 (Ow.sortCall bB m (fun Z hZ => (sortTag_slices_SortFunc_int64_int64__slices_Compare_int64_int64 bD hZ).imp (fun zs h => ⟨h.2.1, h.2.2, fun _ _ m o => Wk.slices_SortFunc_int64_int64__slices_Compare_int64_int64 m o h.1⟩))) fun bE bF bG w bH m bI a f => ?_
  obtain ⟨bJ, rfl, bK⟩ := bI
  have h0 := rd1 bH h0
  refine l_nil (k_seq ?_)
  refine k_draw 8 Follows (by kernel_rfl) m ?_
  refine q_mv 0 8 rfl (by kernel_rfl) f rfl rfl rfl fun a f => q_boxCell (i := 2) 8 1 Pl3 rfl rfl rfl (by kernel_rfl) rfl f rfl rfl rfl fun a f => q_boxCell (i := 3) 8 1 Pl3 rfl rfl rfl (by kernel_rfl) rfl f rfl rfl rfl fun a f => q_p 4 8 rfl (by kernel_rfl) f rfl rfl rfl (fun _ => r_int (f.eval rfl) (f.eval rfl) b_add) fun a f => q_mv 6 8 rfl (by kernel_rfl) f rfl rfl rfl fun a f => q_one (i := 1) rfl (by kernel_rfl) rfl fun bL w bM m bN bN => ?_
  have h0 := rd1 bM h0
  have bK := Ow.mono (RSl.mono (RI.mono _)) bM bK
  obtain ⟨bO, bP, hd⟩ := bind_some hd
  refine l_res f rfl rfl Tryz.call167 (Wk.slices_Clone_impl_vset_impl_vset m h0 bP) fun bQ bR bS w bT m bU a f => ?_
  obtain ⟨bV, bW, rfl, rfl, bX⟩ := bU
  have h0 := rd1 bT h0
  have bK := Ow.mono (RSl.mono (RI.mono _)) bT bK
  refine l_nil ?_
  refine bN bR [bW] _ _ bT m ?_
  refine q_one (i := 5) rfl (by kernel_rfl) rfl fun bY w bZ m b0 b0 => ?_
  have h0 := rd1 bZ h0
  have bX := od1 bZ bX
  have bK := Ow.mono (RSl.mono (RI.mono _)) bZ bK
  obtain ⟨b1, b2, hd⟩ := bind_some hd
  refine l_res f rfl rfl Tryz.call166 (Wk.slices_Delete_impl_vset_impl_vset m bX b2) fun b3 b4 b5 w b6 m b7 a f => ?_
  obtain ⟨b8, b9, rfl, rfl, ca⟩ := b7
  have h0 := rd1 b6 h0
  have bK := Ow.mono (RSl.mono (RI.mono _)) b6 bK
  refine l_nil ?_
  refine b0 b4 [b9] _ _ b6 m ?_
  refine q_p 7 8 rfl (by kernel_rfl) f rfl rfl rfl (fun _ => r_assign (f.eval rfl)) fun a f => q_end fun cb w cc m => ?_
  have h0 := rd1 cc h0
  have ca := od1 cc ca
  have bK := Ow.mono (RSl.mono (RI.mono _)) cc bK
  refine l_as f rfl rfl fun a f => l_nil ?_
  refine k_ret ?_
  have m := m.eraseAt 2
  obtain rfl := sj hd
  exact ⟨[b8, aj], ⟨f.get _ _ rfl, f.get _ _ rfl, trivial⟩, f.defers, _, [b9, bJ], (GLe.trans bA (GLe.trans bH (GLe.trans bM (GLe.trans bT (GLe.trans bZ (GLe.trans b6 cc)))))), m, _, _, _, _, rfl, rfl, ca, bK⟩

theorem Wk.impl_wide {W w : World} {G : GH} {H : List Itm} {v0 : Value} {x0 : (List Int)} (m : Mem W G w (H)) (h0 : RSl (RI .i64) G v0 x0) {y : ((List Int))} (hd : D.impl_wide x0 = some y) :
  Calls Tryz.prog 107 #[v0] w (Res W G H (fun G' Ho v => ∃ r0 : Value, ∃ i0 : Itm, Ho = [i0] ∧ r0 = v ∧ Ow (RI .i64) 2 G' i0 r0 y)) := by
 refine calls_b (args := [v0]) (N := 21) [.tmp 2] Tryz.func107 rfl rfl (Nat.le_of_ble_eq_true rfl) rfl fun a f => ?_
 unfold D.impl_wide at hd
 refine k_seq (k_region ?_)
 refine l_as f rfl rfl fun a f => l_nil (k_seq (k_region ?_))
 refine l_mv f rfl rfl fun a f => l_len Tryz.underlying94 f rfl rfl h0 fun a f => ?_
 obtain ⟨aa, ab, hd⟩ := bind_some hd
 refine l_make (R := (RI .i64)) m T42 rfl (by decide) rfl f rfl rfl rfl ab fun ac ad w a m ae f => l_as f rfl rfl fun a f => l_nil (k_seq (k_seq (k_region ?_)))
 refine l_mv f rfl rfl fun a f => l_len Tryz.underlying94 f rfl rfl h0 fun a f => l_mv f rfl rfl fun a f => l_nil ?_
 obtain ⟨af, ag, hd⟩ := bind_some hd
 refine k_cut (fun a w => ∃ ah : List Int, ah = af ∧ ∃ (ai : GH) (aj : Value) (ak : Itm), GLe G ai ∧ Fr a 21 [(3, aj)] ∧ Mem W ai w (ak :: H) ∧ Ow (RI .i64) 2 ai ak aj ah) ?_ ?_
 ·refine k_block ?_
  refine k_loop (fun al a w => ∃ am : List Int, ∃ an : Int, (am, an) = al ∧ ∃ (ao : GH) (ap : Value) (aq : Itm), GLe G ao ∧ Fr a 21 [(3, ap), (9, v0), (10, (.int .i64 (x0.length : Int))), (11, (.int .i64 an))] ∧ Mem W ao w (aq :: H) ∧ Ow (RI .i64) 2 ao aq ap am) ag ⟨_, _, rfl, _, ad, ac, (GLe.refl _), f.weak ⟨rfl, rfl, rfl, rfl, trivial⟩, m, ae⟩ ?_
  clear ag f m
  rintro al ar au av a w ⟨am, an, rfl, ao, ap, aq, aw, f, m, ax⟩
  have h0 := rd1 aw h0
  refine k_seq (k_region ?_)
  refine l_in f rfl rfl rfl b_lss fun a f => l_nil (k_seq ?_)
  rcases cond_some au with ⟨ay, au⟩ | ⟨ay, au⟩
  ·refine k_true f rfl ay ?_
   refine k_skip ?_
   refine k_seq (k_block (k_seq (k_region ?_)))
   obtain ⟨az, aA, au⟩ := bind_some au
   refine l_at T94 f rfl rfl rfl h0 aA fun aB aC a aD aE f => ?_
   subst aE
   refine l_loadAt m Pl3 f rfl rfl aD fun a f => l_as f rfl rfl fun a f => l_nil (k_region ?_)
   refine l_mv f rfl rfl fun a f => l_mv f rfl rfl fun a f => l_slit (R := (RI .i64)) (xs := ([az] : List Int)) (RI.one _) m T42 f rfl rfl rfl (by decide) (All2.cons rfl (All2.nil _)) fun aF aG w a m aH f => ?_
   obtain ⟨aI, aJ, au⟩ := bind_some au
   refine l_append (RI.one _) 1 m ax rfl T42 rfl (by decide) f rfl rfl rfl (Ow.src (j := 0) aH m rfl) aJ fun aK aL w a m aM f => l_as f rfl rfl fun a f => l_nil (k_region ?_)
   refine l_in f rfl rfl rfl b_add fun a f => l_mv f rfl rfl fun a f => l_nil ?_
   have m := m.front 1 rfl
   have m := m.eraseAt 1
   obtain rfl := sj au
   exact ⟨_, rfl, _, _, rfl, _, aL, aK, aw, f.weak ⟨rfl, rfl, rfl, rfl, trivial⟩, m, aM⟩
  ·refine k_false f rfl ay ?_
   refine k_exit rfl ?_
   obtain rfl := sj au
   obtain rfl := av _ rfl
   exact ⟨_, rfl, _, ap, aq, aw, f.weak ⟨rfl, trivial⟩, m, ax⟩
 ·rintro a w ⟨ah, rfl, ai, aj, ak, aN, f, m, aO⟩
  refine k_seq (k_region ?_)
  refine l_mv f rfl rfl fun a f => l_as f rfl rfl fun a f => l_nil ?_
  refine k_ret ?_
  obtain rfl := sj hd
  exact ⟨[aj], ⟨f.get _ _ rfl, trivial⟩, f.defers, _, [ak], aN, m, _, _, rfl, rfl, aO⟩

theorem Wk.impl_vset_numbers {W w : World} {G : GH} {H : List Itm} {x0 : Int} (hW : TabW W) (m : Mem W G w (H))  {y : ((List Int))} (hd : D.impl_vset_numbers x0 = some y) :
  Calls Tryz.prog 124 #[(.int .u32 x0)] w (Res W G H (fun G' Ho v => ∃ r0 : Value, ∃ i0 : Itm, Ho = [i0] ∧ r0 = v ∧ Ow (RI .i64) 2 G' i0 r0 y)) := by
 refine calls_b (args := [(.int .u32 x0)]) (N := 6) [.tmp 2] Tryz.func124 rfl rfl (Nat.le_of_ble_eq_true rfl) rfl fun a f => ?_
 unfold D.impl_vset_numbers at hd
 refine k_seq (k_region ?_)
 refine l_as f rfl rfl fun a f => l_nil (k_seq (k_region ?_))
 refine l_mv f rfl rfl fun a f => ?_
 obtain ⟨aa, ab, hd⟩ := bind_some hd
 refine l_res f rfl rfl Tryz.call103 (Wk.impl_vset_list hW m  ab) fun ac ad ae w af m ag a f => ?_
 obtain ⟨ah, ai, rfl, rfl, aj⟩ := ag
 obtain ⟨ak, al, hd⟩ := bind_some hd
 refine l_res f rfl rfl Tryz.call107 (Ow.lendCall (RI.mono _) 0 aj m rfl (fun am an m ao => Wk.impl_wide m ao al) (fun _ G' _ _ ⟨a0, a1, e1, e2, o0⟩ => ⟨a0, a1, e1, e2, Ow.free (RI.free _) G' o0⟩)) fun ap aq ar w au m av a f => ?_
 obtain ⟨aw, ax, rfl, rfl, ay⟩ := av
 have aj := od1 au aj
 refine l_as f rfl rfl fun a f => l_nil ?_
 refine k_ret ?_
 have m := m.eraseAt 1
 obtain rfl := sj hd
 exact ⟨[aw], ⟨f.get _ _ rfl, trivial⟩, f.defers, _, [ax], (GLe.trans af au), m, _, _, rfl, rfl, ay⟩


end Go.Proofs.YtebbefpdncgoiaaGreatDoor
