/- Parts of the proof: MDW, MEW. -/
import Derived.Test.YtebbefpdncgoiaaGreatDoorCt3
import Derived.Test.YtebbefpdncgoiaaGreatDoorProg
import Derived.KernelRfl
set_option linter.unusedVariables false
set_option linter.unusedSimpArgs false
set_option linter.unusedSectionVars false
set_option maxRecDepth 100000
namespace Go.Proofs.YtebbefpdncgoiaaGreatDoor
open Go Go.Sx


theorem Wk.F0 {W w : World} {G : GH} {H : List Itm} {x0 : Int} (m : Mem W G w (H))  {y : Int} (hd : D.F0 x0 = some y) :
  Calls Tryz.prog 120 #[(.int .i64 x0)] w (Res W G H (fun _ Ho v => Ho = [] ∧ v = (.int .u32 y))) := by
 refine calls_b (args := [(.int .i64 x0)]) (N := 6) [.tmp 2] Tryz.func120 rfl rfl (Nat.le_of_ble_eq_true rfl) rfl fun a f => ?_
 unfold D.F0 at hd
 refine k_seq (k_region ?_)
 refine l_as f rfl rfl fun a f => l_nil (k_seq (k_region ?_))
 refine l_mv f rfl rfl fun a f => ?_
 obtain ⟨aa, hd⟩ := cond_none hd
 refine l_op f rfl rfl rfl (r_shl (f.eval rfl) (f.eval rfl) aa) fun a f => l_in f rfl rfl rfl b_sub fun a f => l_as f rfl rfl fun a f => l_nil ?_
 refine k_ret ?_
 obtain rfl := sj hd
 exact ⟨[(.int .u32 (IntKind.u32.wrap ((ishl .u32 1 x0) - 1)))], ⟨f.get _ _ rfl, trivial⟩, f.defers, _, [], (GLe.refl _), m, rfl, rfl⟩

theorem Wk.n {W w : World} {G : GH} {H : List Itm} {v0 : Value} {x0 : (List Int)} (m : Mem W G w (H)) (h0 : RSl (RI .u32) G v0 x0) {y : Int} (hd : D.n x0 = some y) :
  Calls Tryz.prog 53 #[v0] w (Res W G H (fun _ Ho v => Ho = [] ∧ v = (.int .u32 y))) := by
 refine calls_b (args := [v0]) (N := 6) [.tmp 2] Tryz.func53 rfl rfl (Nat.le_of_ble_eq_true rfl) rfl fun a f => ?_
 unfold D.n at hd
 refine k_seq (k_region ?_)
 refine l_as f rfl rfl fun a f => l_nil (k_seq (k_region ?_))
 refine l_mv f rfl rfl fun a f => l_len Tryz.underlying73 f rfl rfl h0 fun a f => ?_
 obtain ⟨aa, ab, hd⟩ := bind_some hd
 refine l_res f rfl rfl Tryz.call120 (Wk.F0 m  ab) fun ac ad ae w af m ag a f => ?_
 obtain ⟨rfl, rfl⟩ := ag
 have h0 := rd1 af h0
 refine l_as f rfl rfl fun a f => l_nil ?_
 refine k_ret ?_
 obtain rfl := sj hd
 exact ⟨[(.int .u32 aa)], ⟨f.get _ _ rfl, trivial⟩, f.defers, _, [], af, m, rfl, rfl⟩

theorem Wk.i0 {W w : World} {G : GH} {H : List Itm} {x0 : Int} (hW : TabW W) (m : Mem W G w (H))  {y : Int} (hd : D.i0 x0 = some y) :
  Calls Tryz.prog 147 #[(.int .u32 x0)] w (Res W G H (fun _ Ho v => Ho = [] ∧ v = (.int .i64 y))) := by
 refine calls_b (args := [(.int .u32 x0)]) (N := 5) [.tmp 2] Tryz.func147 rfl rfl (Nat.le_of_ble_eq_true rfl) rfl fun a f => ?_
 unfold D.i0 at hd
 refine k_seq (k_region ?_)
 refine l_as f rfl rfl fun a f => l_nil (k_seq (k_region ?_))
 refine l_mv f rfl rfl fun a f => ?_
 obtain ⟨aa, ab, hd⟩ := bind_some hd
 refine l_res f rfl rfl Tryz.call179 (Wk.c1 hW m  ab) fun ac ad ae w af m ag a f => ?_
 obtain ⟨rfl, rfl⟩ := ag
 refine l_as f rfl rfl fun a f => l_nil ?_
 refine k_ret ?_
 obtain rfl := sj hd
 exact ⟨[(.int .i64 aa)], ⟨f.get _ _ rfl, trivial⟩, f.defers, _, [], af, m, rfl, rfl⟩

theorem Wk.f {W w : World} {G : GH} {H : List Itm} {x0 : Int} (hW : TabW W) (m : Mem W G w (H))  {y : ((List Int))} (hd : D.f x0 = some y) :
  Calls Tryz.prog 103 #[(.int .u32 x0)] w (Res W G H (fun G' Ho v => ∃ r0 : Value, ∃ i0 : Itm, Ho = [i0] ∧ r0 = v ∧ Ow (RI .i64) 3 G' i0 r0 y)) := by
 refine calls_b (args := [(.int .u32 x0)]) (N := 17) [.tmp 2] Tryz.func103 rfl rfl (Nat.le_of_ble_eq_true rfl) rfl fun a f => ?_
 unfold D.f at hd
 refine k_seq (k_region ?_)
 refine l_as f rfl rfl fun a f => l_nil (k_seq (k_region ?_))
 refine l_slit (R := (RI .i64)) (xs := ([] : List Int)) (RI.one _) m T94 f rfl rfl rfl (by decide) (All2.nil _) fun aa ab w a m ac f => l_as f rfl rfl fun a f => l_nil (k_seq ?_)
 obtain ⟨ad, ae, hd⟩ := bind_some hd
 refine k_cut (fun a w => ∃ af : List Int, af = ad ∧ ∃ (ag : GH) (ah : Value) (ai : Itm), GLe G ag ∧ Fr a 17 [(3, ah)] ∧ Mem W ag w (ai :: H) ∧ Ow (RI .i64) 3 ag ai ah af) ?_ ?_
 ·refine k_block ?_
  refine k_loop (fun aj a w => ∃ ak : Int, ∃ al : List Int, (ak, al) = aj ∧ ∃ (am : GH) (an : Value) (ao : Itm), GLe G am ∧ Fr a 17 [(0, (.int .u32 ak)), (3, an)] ∧ Mem W am w (ao :: H) ∧ Ow (RI .i64) 3 am ao an al) ae ⟨_, _, rfl, _, ab, aa, (GLe.refl _), f.weak ⟨rfl, rfl, trivial⟩, m, ac⟩ ?_
  clear ae f m
  rintro aj ap aq ar a w ⟨ak, al, rfl, am, an, ao, au, f, m, av⟩
  refine k_seq (k_seq (k_region ?_))
  refine l_mv f rfl rfl fun a f => l_in f rfl rfl rfl b_neq fun a f => l_nil ?_
  rcases cond_some aq with ⟨aw, aq⟩ | ⟨aw, aq⟩
  ·refine k_true f rfl aw ?_
   refine k_skip ?_
   refine k_seq (k_block (k_region ?_))
   refine l_mv f rfl rfl fun a f => l_mv f rfl rfl fun a f => ?_
   obtain ⟨ax, ay, aq⟩ := bind_some aq
   refine l_res f rfl rfl Tryz.call147 (Wk.i0 hW m  ay) fun az aA aB w aC m aD a f => ?_
   obtain ⟨rfl, rfl⟩ := aD
   have av := od1 aC av
   refine l_slit (R := (RI .i64)) (xs := ([ax] : List Int)) (RI.one _) m T94 f rfl rfl rfl (by decide) (All2.cons rfl (All2.nil _)) fun aE aF w a m aG f => ?_
   obtain ⟨aH, aI, aq⟩ := bind_some aq
   refine l_append (RI.one _) 1 m av rfl T94 rfl (by decide) f rfl rfl rfl (Ow.src (j := 0) aG m rfl) aI fun aJ aK w a m aL f => l_as f rfl rfl fun a f => l_nil (k_region ?_)
   refine l_mv f rfl rfl fun a f => l_mv f rfl rfl fun a f => l_in f rfl rfl rfl b_sub fun a f => l_in f rfl rfl rfl b_and fun a f => l_as f rfl rfl fun a f => l_nil ?_
   have m := m.front 1 rfl
   have m := m.eraseAt 1
   obtain rfl := sj aq
   exact ⟨_, rfl, _, _, rfl, _, aK, aJ, (GLe.trans au aC), f.weak ⟨rfl, rfl, trivial⟩, m, aL⟩
  ·refine k_false f rfl aw ?_
   refine k_exit rfl ?_
   obtain rfl := sj aq
   obtain rfl := ar _ rfl
   exact ⟨_, rfl, _, an, ao, au, f.weak ⟨rfl, trivial⟩, m, av⟩
 ·rintro a w ⟨af, rfl, ag, ah, ai, aM, f, m, aN⟩
  refine k_seq (k_region ?_)
  refine l_mv f rfl rfl fun a f => l_as f rfl rfl fun a f => l_nil ?_
  refine k_ret ?_
  obtain rfl := sj hd
  exact ⟨[ah], ⟨f.get _ _ rfl, trivial⟩, f.defers, _, [ai], aM, m, _, _, rfl, rfl, aN⟩

theorem Wk.M {W w : World} {G : GH} {H : List Itm} {v0 : Value} {x0 : (List Int)} {x1 : Int} {x2 : Int} (hW : TabW W) (m : Mem W G w (H)) (h0 : RSl (RI .u32) G v0 x0) {y : Int} (hd : D.M x0 x1 x2 = some y) :
  Calls Tryz.prog 52 #[v0, (.int .i64 x1), (.int .u32 x2)] w (Res W G H (fun _ Ho v => Ho = [] ∧ v = (.int .u32 y))) := by
 refine calls_b (args := [v0, (.int .i64 x1), (.int .u32 x2)]) (N := 35) [.tmp 6] Tryz.func52 rfl rfl (Nat.le_of_ble_eq_true rfl) rfl fun a f => ?_
 unfold D.M at hd
 refine k_seq (k_region ?_)
 refine l_as f rfl rfl fun a f => l_nil (k_seq (k_region ?_))
 refine l_mv f rfl rfl fun a f => ?_
 obtain ⟨aa, ab, hd⟩ := bind_some hd
 refine l_res f rfl rfl Tryz.call100 (Wk.c m  ab) fun ac ad ae w af m ag a f => ?_
 obtain ⟨rfl, rfl⟩ := ag
 have h0 := rd1 af h0
 refine l_as f rfl rfl fun a f => l_nil ?_
 obtain ⟨ah, ai, hd⟩ := bind_some hd
 refine k_block ?_
 refine k_loop (fun aj a w => ∃ ak : Int, ak = aj ∧ ∃ (al : GH), GLe ad al ∧ Fr a 35 [(0, v0), (2, (.int .u32 x2)), (7, (.int .u32 ak))] ∧ Mem W al w (H)) ai ⟨_, rfl, _, (GLe.refl _), f.weak ⟨rfl, rfl, rfl, trivial⟩, m⟩ ?_
 clear ai f m
 rintro aj am an ao a w ⟨ak, rfl, al, ap, f, m⟩
 have h0 := rd1 ap h0
 refine k_block (k_seq (k_region ?_))
 refine l_mv f rfl rfl fun a f => l_as f rfl rfl fun a f => l_nil (k_seq (k_seq (k_region ?_)))
 refine l_mv f rfl rfl fun a f => ?_
 obtain ⟨aq, ar, an⟩ := bind_some an
 refine l_res f rfl rfl Tryz.call103 (Wk.f hW m  ar) fun au av aw w ax m ay a f => ?_
 obtain ⟨az, aA, rfl, rfl, aB⟩ := ay
 have h0 := rd1 ax h0
 refine l_own_len 0 m aB rfl Tryz.underlying94 f rfl rfl fun a f => l_mv f rfl rfl fun a f => l_nil ?_
 obtain ⟨aC, aD, an⟩ := bind_some an
 refine k_cut (fun a w => ∃ aE : Int, aE = aC ∧ ∃ (aF : GH), GLe av aF ∧ Fr a 35 [(0, v0), (2, (.int .u32 x2)), (7, (.int .u32 ak)), (8, (.int .u32 aE))] ∧ Mem W aF w (H)) ?_ ?_
 ·refine k_block ?_
  refine k_loop (fun aG a w => ∃ aH : Int, ∃ aI : Int, (aH, aI) = aG ∧ ∃ (aJ : GH), GLe av aJ ∧ Fr a 35 [(0, v0), (2, (.int .u32 x2)), (7, (.int .u32 ak)), (8, (.int .u32 aH)), (15, az), (16, (.int .i64 (aq.length : Int))), (17, (.int .i64 aI))] ∧ Mem W aJ w (aA :: H)) aD ⟨_, _, rfl, _, (GLe.refl _), f.weak ⟨rfl, rfl, rfl, rfl, rfl, rfl, rfl, trivial⟩, m⟩ ?_
  clear aD f m
  rintro aG aK aL aM a w ⟨aH, aI, rfl, aJ, aN, f, m⟩
  have h0 := rd1 aN h0
  have aB := od1 aN aB
  refine k_seq (k_region ?_)
  refine l_in f rfl rfl rfl b_lss fun a f => l_nil (k_seq ?_)
  rcases cond_some aL with ⟨aO, aL⟩ | ⟨aO, aL⟩
  ·refine k_true f rfl aO ?_
   refine k_skip ?_
   refine k_seq (k_block (k_seq (k_region ?_)))
   obtain ⟨aP, aQ, aL⟩ := bind_some aL
   refine l_own_at 0 m aB rfl T94 f rfl rfl rfl aQ fun aR a aS f => l_own_load 0 m aB rfl Pl3 f rfl rfl aS aQ fun aT a aU f => ?_
   subst aU
   refine l_as f rfl rfl fun a f => l_nil (k_region ?_)
   refine l_mv f rfl rfl fun a f => l_mv f rfl rfl fun a f => l_mv f rfl rfl fun a f => ?_
   obtain ⟨aV, aW, aL⟩ := bind_some aL
   refine l_at T73 f rfl rfl rfl h0 aW fun aX aY a aZ a0 f => ?_
   subst a0
   refine l_loadAt m Pl76 f rfl rfl aZ fun a f => l_mv f rfl rfl fun a f => l_in f rfl rfl rfl b_and fun a f => l_in f rfl rfl rfl b_or fun a f => l_as f rfl rfl fun a f => l_nil (k_region ?_)
   refine l_in f rfl rfl rfl b_add fun a f => l_mv f rfl rfl fun a f => l_nil ?_
   obtain rfl := sj aL
   exact ⟨_, rfl, _, _, rfl, _, aN, f.weak ⟨rfl, rfl, rfl, rfl, rfl, rfl, rfl, trivial⟩, m⟩
  ·refine k_false f rfl aO ?_
   refine k_exit rfl ?_
   have m : Mem W aJ w H := Mem.drop (H' := [aA]) m
   obtain rfl := sj aL
   obtain rfl := aM _ rfl
   exact ⟨_, rfl, _, aN, f.weak ⟨rfl, rfl, rfl, rfl, trivial⟩, m⟩
 ·rintro a w ⟨aE, rfl, aF, a1, f, m⟩
  have h0 := rd1 a1 h0
  refine k_seq (k_seq (k_region ?_))
  refine l_mv f rfl rfl fun a f => l_mv f rfl rfl fun a f => l_in f rfl rfl rfl b_eql fun a f => l_nil ?_
  rcases cond_some an with ⟨a2, an⟩ | ⟨a2, an⟩
  ·refine k_true f rfl a2 ?_
   refine k_seq (k_region ?_)
   refine l_mv f rfl rfl fun a f => l_as f rfl rfl fun a f => l_nil ?_
   refine k_ret ?_
   obtain rfl := sj an
   obtain rfl := ao _ rfl
   obtain rfl := sj hd
   exact ⟨[(.int .u32 ak)], ⟨f.get _ _ rfl, trivial⟩, f.defers, _, [], (GLe.trans af (GLe.trans ap (GLe.trans ax a1))), m, rfl, rfl⟩
  ·refine k_false f rfl a2 ?_
   refine k_skip ?_
   refine k_region ?_
   refine l_mv f rfl rfl fun a f => l_as f rfl rfl fun a f => l_nil ?_
   obtain rfl := sj an
   exact ⟨_, rfl, _, rfl, _, (GLe.trans ap (GLe.trans ax a1)), f.weak ⟨rfl, rfl, rfl, trivial⟩, m⟩

theorem Wk.H {W w : World} {G : GH} {H : List Itm} {v0_0 : Value} {x0_0 : (List (List Int))} (m : Mem W G w (H)) (h0_0 : RSl (RSl (RI .i64)) G v0_0 x0_0) {y : ((List Int))} (hd : D.H x0_0 = some y) :
  Calls Tryz.prog 50 #[(.agg #[v0_0])] w (Res W G H (fun G' Ho v => ∃ r0 : Value, ∃ i0 : Itm, Ho = [i0] ∧ r0 = v ∧ Ow (RI .u32) 76 G' i0 r0 y)) := by
 refine calls_b (args := [(.agg #[v0_0])]) (N := 21) [.tmp 2] Tryz.func50 rfl rfl (Nat.le_of_ble_eq_true rfl) rfl fun a f => ?_
 unfold D.H at hd
 refine k_seq (k_region ?_)
 refine l_box (cs := [v0_0]) m f rfl rfl rfl fun aa w a m f => l_as f rfl rfl fun a f => l_nil (k_seq (k_region ?_))
 refine l_slit (R := (RI .u32)) (xs := ([] : List Int)) (RI.one _) m T73 f rfl rfl rfl (by decide) (All2.nil _) fun ab ac w a m ad f => l_as f rfl rfl fun a f => l_nil (k_seq (k_seq (k_region ?_)))
 refine l_fieldAddr Tryz.underlying30 rfl Tryz.sizeOf22 (by decide) f rfl rfl fun a f => l_boxCell 1 0 m Pl22 f rfl rfl rfl rfl fun a f => l_len Tryz.underlying22 f rfl rfl h0_0 fun a f => l_mv f rfl rfl fun a f => l_nil ?_
 obtain ⟨ae, af, hd⟩ := bind_some hd
 refine k_cut (fun a w => ∃ ag : List Int, ag = ae ∧ ∃ (ah : GH) (ai : Value) (aj : Itm), GLe G ah ∧ Fr a 21 [(3, ai)] ∧ Mem W ah w (aj :: H) ∧ Ow (RI .u32) 76 ah aj ai ag) ?_ ?_
 ·refine k_block ?_
  have m := m.eraseAt 1
  refine k_loop (fun ak a w => ∃ al : List Int, ∃ am : Int, (al, am) = ak ∧ ∃ (an : GH) (ao : Value) (ap : Itm), GLe G an ∧ Fr a 21 [(3, ao), (8, v0_0), (9, (.int .i64 (x0_0.length : Int))), (10, (.int .i64 am))] ∧ Mem W an w (ap :: H) ∧ Ow (RI .u32) 76 an ap ao al) af ⟨_, _, rfl, _, ac, ab, (GLe.refl _), f.weak ⟨rfl, rfl, rfl, rfl, trivial⟩, m, ad⟩ ?_
  clear af f m
  rintro ak aq ar au a w ⟨al, am, rfl, an, ao, ap, av, f, m, aw⟩
  have h0_0 := rd2 av h0_0
  refine k_seq (k_region ?_)
  refine l_in f rfl rfl rfl b_lss fun a f => l_nil (k_seq ?_)
  rcases cond_some ar with ⟨ax, ar⟩ | ⟨ax, ar⟩
  ·refine k_true f rfl ax ?_
   refine k_skip ?_
   refine k_seq (k_block (k_seq (k_region ?_)))
   obtain ⟨ay, az, ar⟩ := bind_some ar
   refine l_at T22 f rfl rfl rfl h0_0 az fun aA aB a aC aD f => l_loadAt m Pl42 f rfl rfl aC fun a f => l_as f rfl rfl fun a f => l_nil (k_region ?_)
   refine l_mv f rfl rfl fun a f => l_mv f rfl rfl fun a f => ?_
   obtain ⟨aE, aF, ar⟩ := bind_some ar
   refine l_res f rfl rfl Tryz.call118 (Wk.E0 m aD aF) fun aG aH aI w aJ m aK a f => ?_
   obtain ⟨rfl, rfl⟩ := aK
   have aD := rd1 aJ aD
   have h0_0 := rd2 aJ h0_0
   have aw := od1 aJ aw
   refine l_slit (R := (RI .u32)) (xs := ([aE] : List Int)) (RI.one _) m T73 f rfl rfl rfl (by decide) (All2.cons rfl (All2.nil _)) fun aL aM w a m aN f => ?_
   obtain ⟨aO, aP, ar⟩ := bind_some ar
   refine l_append (RI.one _) 1 m aw rfl T73 rfl (by decide) f rfl rfl rfl (Ow.src (j := 0) aN m rfl) aP fun aQ aR w a m aS f => l_as f rfl rfl fun a f => l_nil (k_region ?_)
   refine l_in f rfl rfl rfl b_add fun a f => l_mv f rfl rfl fun a f => l_nil ?_
   have m := m.front 1 rfl
   have m := m.eraseAt 1
   obtain rfl := sj ar
   exact ⟨_, rfl, _, _, rfl, _, aR, aQ, (GLe.trans av aJ), f.weak ⟨rfl, rfl, rfl, rfl, trivial⟩, m, aS⟩
  ·refine k_false f rfl ax ?_
   refine k_exit rfl ?_
   obtain rfl := sj ar
   obtain rfl := au _ rfl
   exact ⟨_, rfl, _, ao, ap, av, f.weak ⟨rfl, trivial⟩, m, aw⟩
 ·rintro a w ⟨ag, rfl, ah, ai, aj, aT, f, m, aU⟩
  refine k_seq (k_region ?_)
  refine l_mv f rfl rfl fun a f => l_as f rfl rfl fun a f => l_nil ?_
  refine k_ret ?_
  obtain rfl := sj hd
  exact ⟨[ai], ⟨f.get _ _ rfl, trivial⟩, f.defers, _, [aj], aT, m, _, _, rfl, rfl, aU⟩

theorem Wk.G {W w : World} {G : GH} {H : List Itm} {x0 : Int} {x1 : Int} (m : Mem W G w (H))  {y : Bool} (hd : D.G x0 x1 = some y) :
  Calls Tryz.prog 54 #[(.int .u32 x0), (.int .i64 x1)] w (Res W G H (fun _ Ho v => Ho = [] ∧ v = (.bool y))) := by
 refine calls_b (args := [(.int .u32 x0), (.int .i64 x1)]) (N := 10) [.tmp 4] Tryz.func54 rfl rfl (Nat.le_of_ble_eq_true rfl) rfl fun a f => ?_
 unfold D.G at hd
 refine k_seq (k_region ?_)
 refine l_as f rfl rfl fun a f => l_nil (k_seq (k_region ?_))
 refine l_mv f rfl rfl fun a f => l_mv f rfl rfl fun a f => ?_
 obtain ⟨aa, hd⟩ := cond_none hd
 refine l_op f rfl rfl rfl (r_shr (f.eval rfl) (f.eval rfl) aa) fun a f => l_in f rfl rfl rfl b_and fun a f => l_in f rfl rfl rfl b_eql fun a f => l_as f rfl rfl fun a f => l_nil ?_
 refine k_ret ?_
 obtain rfl := sj hd
 exact ⟨[(.bool ((iand .u32 (ishr .u32 x0 x1) 1) == 1))], ⟨f.get _ _ rfl, trivial⟩, f.defers, _, [], (GLe.refl _), m, rfl, rfl⟩

theorem Wk.N {W w : World} {G : GH} {H : List Itm} {x0 : Int} {x1 : Int} (m : Mem W G w (H))  {y : ((List Int))} (hd : D.N x0 x1 = some y) :
  Calls Tryz.prog 56 #[(.int .i64 x0), (.int .i64 x1)] w (Res W G H (fun G' Ho v => ∃ r0 : Value, ∃ i0 : Itm, Ho = [i0] ∧ r0 = v ∧ Ow (RI .i64) 2 G' i0 r0 y)) := by
 refine calls_b (args := [(.int .i64 x0), (.int .i64 x1)]) (N := 12) [.tmp 4] Tryz.func56 rfl rfl (Nat.le_of_ble_eq_true rfl) rfl fun a f => ?_
 unfold D.N at hd
 refine k_seq (k_region ?_)
 refine l_as f rfl rfl fun a f => l_nil (k_seq (k_region ?_))
 refine l_mv f rfl rfl fun a f => l_mv f rfl rfl fun a f => l_op f rfl rfl rfl (r_min2 (f.eval rfl) (f.eval rfl)) fun a f => l_mv f rfl rfl fun a f => l_mv f rfl rfl fun a f => l_op f rfl rfl rfl (r_max2 (f.eval rfl) (f.eval rfl)) fun a f => l_slit (R := (RI .i64)) (xs := ([(if x1 < x0 then x1 else x0), (if x0 < x1 then x1 else x0)] : List Int)) (RI.one _) m T42 f rfl rfl rfl (by decide) (All2.cons rfl (All2.cons rfl (All2.nil _))) fun aa ab w a m ac f => l_as f rfl rfl fun a f => l_nil ?_
 refine k_ret ?_
 obtain rfl := sj hd
 exact ⟨[ab], ⟨f.get _ _ rfl, trivial⟩, f.defers, _, [aa], (GLe.refl _), m, _, _, rfl, rfl, ac⟩

theorem Wk.a1 {W w : World} {G : GH} {H : List Itm} {v0 : Value} {it0 : Itm} {x0 : (List (Value × List Int))} {x1 : Int} {x2 : Int} (m : Mem W G w (it0 :: H)) (o0 : Ow (RTg (RI .i64)) 42 G it0 v0 x0) {y : ((List (Value × List Int)))} (hd : D.a1 x0 x1 x2 = some y) :
  Calls Tryz.prog 154 #[v0, (.int .i64 x1), (.int .i64 x2), (.func (.func 58) #[] #[])] w (Res W G H (fun G' Ho _ => ∃ i0 : Itm, Ho = [i0] ∧ Ow (RTg (RI .i64)) 42 G' i0 v0 y)) := by
 refine calls_b (args := [v0, (.int .i64 x1), (.int .i64 x2), (.func (.func 58) #[] #[])]) (N := 53) [] Tryz.func154 rfl rfl (Nat.le_of_ble_eq_true rfl) rfl fun a f => ?_
 unfold D.a1 at hd
 refine k_seq (k_region ?_)
 refine l_mv f rfl rfl fun a f => l_in f rfl rfl rfl b_add fun a f => l_as f rfl rfl fun a f => l_nil ?_
 obtain ⟨aa, ab, hd⟩ := bind_some hd
 refine k_cut (fun a w => ∃ ac : List (Value × List Int), ac = aa ∧ ∃ (ad : GH) (ae : Itm), GLe G ad ∧ Fr a 53 [] ∧ Mem W ad w (ae :: H) ∧ Ow (RTg (RI .i64)) 42 ad ae v0 ac) ?_ ?_
 ·refine k_block ?_
  refine k_loop (fun af a w => ∃ ag : List (Value × List Int), ∃ ah : Int, (ag, ah) = af ∧ ∃ (ai : GH) (aj : Itm), GLe G ai ∧ Fr a 53 [(0, v0), (1, (.int .i64 x1)), (2, (.int .i64 x2)), (3, (.func (.func 58) #[] #[])), (8, (.int .i64 ah))] ∧ Mem W ai w (aj :: H) ∧ Ow (RTg (RI .i64)) 42 ai aj v0 ag) ab ⟨_, _, rfl, _, it0, (GLe.refl _), f.weak ⟨rfl, rfl, rfl, rfl, rfl, trivial⟩, m, o0⟩ ?_
  clear ab f m
  rintro af ak al am a w ⟨ag, ah, rfl, ai, aj, an, f, m, ao⟩
  refine k_seq (k_seq (k_region ?_))
  refine l_mv f rfl rfl fun a f => l_mv f rfl rfl fun a f => l_in f rfl rfl rfl b_lss fun a f => l_nil ?_
  rcases cond_some al with ⟨ap, al⟩ | ⟨ap, al⟩
  ·refine k_true f rfl ap ?_
   refine k_skip ?_
   refine k_seq (k_block (k_seq (k_region ?_)))
   refine l_mv f rfl rfl fun a f => l_as f rfl rfl fun a f => l_nil ?_
   obtain ⟨aq, ar, al⟩ := bind_some al
   refine k_cut (fun a w => ∃ au : List (Value × List Int), au = aq ∧ ∃ (av : GH) (aw : Itm), GLe ai av ∧ Fr a 53 [(0, v0), (1, (.int .i64 x1)), (2, (.int .i64 x2)), (3, (.func (.func 58) #[] #[])), (8, (.int .i64 ah))] ∧ Mem W av w (aw :: H) ∧ Ow (RTg (RI .i64)) 42 av aw v0 au) ?_ ?_
   ·refine k_block ?_
    refine k_loop (fun ax a w => ∃ ay : List (Value × List Int), ∃ az : Int, (ay, az) = ax ∧ ∃ (aA : GH) (aB : Itm), GLe ai aA ∧ Fr a 53 [(0, v0), (1, (.int .i64 x1)), (2, (.int .i64 x2)), (3, (.func (.func 58) #[] #[])), (8, (.int .i64 ah)), (9, (.int .i64 az))] ∧ Mem W aA w (aB :: H) ∧ Ow (RTg (RI .i64)) 42 aA aB v0 ay) ar ⟨_, _, rfl, _, aj, (GLe.refl _), f.weak ⟨rfl, rfl, rfl, rfl, rfl, rfl, trivial⟩, m, ao⟩ ?_
    clear ar f m
    rintro ax aC aD aE a w ⟨ay, az, rfl, aA, aB, aF, f, m, aG⟩
    refine k_seq (k_seq ?_)
    refine k_draw 17 Follows (by kernel_rfl) m ?_
    refine q_mv 0 17 rfl (by kernel_rfl) f rfl rfl rfl fun a f => q_mv 1 17 rfl (by kernel_rfl) f rfl rfl rfl fun a f => q_p 2 17 rfl (by kernel_rfl) f rfl rfl rfl (fun _ => r_int (f.eval rfl) (f.eval rfl) b_gtr) fun a f => q_mv 3 17 rfl (by kernel_rfl) f rfl rfl rfl fun a f => ?_
    obtain ⟨aH, aI, aD⟩ := bind_some aD
    refine q_cut (fuel' := 0) (listed' := #[true, true, true, true, true, true, true, true, true, true, true, true, true, true, true, true, true]) (fun a => Fr a 53 [(0, v0), (1, (.int .i64 x1)), (2, (.int .i64 x2)), (3, (.func (.func 58) #[] #[])), (8, (.int .i64 ah)), (9, (.int .i64 az)), (18, (.int .i64 az)), (19, (.int .i64 x1)), (20, (.bool (decide (x1 < az)))), (21, (.bool (decide (x1 < az)))), (34, (.bool aH))]) ?_ ?_
    ·intro a f
     refine q_end fun aJ w aK m => ?_
     have aG := Ow.mono (RTg.mono (RI.mono _)) aK aG
     refine l_nil ?_
     rcases cond_some aD with ⟨aL, aD⟩ | ⟨aL, aD⟩
     ·refine k_true f rfl aL ?_
      refine k_skip ?_
      refine k_seq (k_block ?_)
      refine k_draw0 Follows m ?_
      refine p_p 2 rfl (by kernel_rfl) f rfl rfl rfl (fun _ => r_move (f.eval rfl)) fun a f => p_p 3 rfl (by kernel_rfl) f rfl rfl rfl (fun _ => r_move (f.eval rfl)) fun a f => p_p 4 rfl (by kernel_rfl) f rfl rfl rfl (fun _ => r_int (f.eval rfl) (f.eval rfl) b_sub) fun a f => k_draw1 28015 12 (by kernel_rfl) rfl ?_
      refine q_mv 0 28015 rfl (by kernel_rfl) f rfl rfl rfl fun a f => q_mv 1 28015 rfl (by kernel_rfl) f rfl rfl rfl fun a f => q_mv 5 28015 rfl (by kernel_rfl) f rfl rfl rfl fun a f => q_mv 6 28015 rfl (by kernel_rfl) f rfl rfl rfl fun a f => q_p 7 28015 rfl (by kernel_rfl) f rfl rfl rfl (fun _ => r_int (f.eval rfl) (f.eval rfl) b_sub) fun a f => ?_
      obtain ⟨aM, aN, aD⟩ := bind_some aD
      refine q_own_at (i := 8) 28015 0 m aG rfl T22 aN rfl (by kernel_rfl) rfl f rfl rfl rfl rfl fun aO a aP f => q_own_load (i := 9) 28015 0 aG rfl Pl42 aP aN rfl (by kernel_rfl) rfl f rfl rfl rfl fun aQ a aR f => q_mv 10 28015 rfl (by kernel_rfl) f rfl rfl rfl fun a f => q_mv 11 28015 rfl (by kernel_rfl) f rfl rfl rfl fun a f => ?_
      obtain ⟨aS, aT, aD⟩ := bind_some aD
      refine q_own_at (i := 12) 28015 0 m aG rfl T22 aT rfl (by kernel_rfl) rfl f rfl rfl rfl rfl fun aU a aV f => q_own_load (i := 13) 28015 0 aG rfl Pl42 aV aT rfl (by kernel_rfl) rfl f rfl rfl rfl fun aW a aX f => ?_
      obtain ⟨aY, aZ, aD⟩ := bind_some aD
      refine q_own_at (i := 14) 28015 0 m aG rfl T22 aZ rfl (by kernel_rfl) rfl f rfl rfl rfl rfl fun a0 a a1 f => q_end fun a2 w a3 m => ?_
      have aR := (RTg.mono (RI.mono _)) _ _ _ _ a3 aR
      have aX := (RTg.mono (RI.mono _)) _ _ _ _ a3 aX
      have aG := Ow.mono (RTg.mono (RI.mono _)) a3 aG
      refine l_own_store 0 m aG rfl Tryz.sizeOf42 f rfl rfl a1 aZ aR.cells aR.one1 aR fun a4 w m a5 => ?_
      obtain ⟨a6, a7, aD⟩ := bind_some aD
      refine l_own_at 0 m a5 rfl T22 f rfl rfl rfl a7 fun a8 a a9 f => l_own_store 0 m a5 rfl Tryz.sizeOf42 f rfl rfl a9 a7 aX.cells aX.one1 aX fun ba w m bb => l_nil (k_region ?_)
      refine l_mv f rfl rfl fun a f => l_in f rfl rfl rfl b_sub fun a f => l_as f rfl rfl fun a f => l_nil ?_
      obtain rfl := sj aD
      exact ⟨_, rfl, _, _, rfl, _, ba, (GLe.trans aF (GLe.trans aK a3)), f.weak ⟨rfl, rfl, rfl, rfl, rfl, rfl, trivial⟩, m, bb⟩
     ·refine k_false f rfl aL ?_
      refine k_exit rfl ?_
      obtain rfl := sj aD
      obtain rfl := aE _ rfl
      exact ⟨_, rfl, _, aB, (GLe.trans aF aK), f.weak ⟨rfl, rfl, rfl, rfl, rfl, trivial⟩, m, aG⟩
    ·intro bc
     rcases cond_some aI with ⟨bd, aI⟩ | ⟨bd, aI⟩
     ·refine q_mv 4 17 rfl (by kernel_rfl) f (wanted_of f rfl rfl rfl bd) rfl rfl fun a f => ?_
      refine q_mv 5 17 rfl (by kernel_rfl) f (wanted_of f rfl rfl rfl bd) rfl rfl fun a f => q_mv 6 17 rfl (by kernel_rfl) f (wanted_of f rfl rfl rfl bd) rfl rfl fun a f => ?_
      obtain ⟨be, bf, aI⟩ := bind_some aI
      refine q_own_at (i := 7) 17 0 m aG rfl T22 bf rfl (by kernel_rfl) rfl f (wanted_of f rfl rfl rfl bd) rfl rfl rfl fun bg a bh f => q_own_load (i := 8) 17 0 aG rfl Pl42 bh bf rfl (by kernel_rfl) rfl f (wanted_of f rfl rfl rfl bd) rfl rfl fun bi a bj f => q_mv 9 17 rfl (by kernel_rfl) f (wanted_of f rfl rfl rfl bd) rfl rfl fun a f => q_mv 10 17 rfl (by kernel_rfl) f (wanted_of f rfl rfl rfl bd) rfl rfl fun a f => q_p 11 17 rfl (by kernel_rfl) f (wanted_of f rfl rfl rfl bd) rfl rfl (fun _ => r_int (f.eval rfl) (f.eval rfl) b_sub) fun a f => ?_
      obtain ⟨bk, bl, aI⟩ := bind_some aI
      refine q_own_at (i := 12) 17 0 m aG rfl T22 bl rfl (by kernel_rfl) rfl f (wanted_of f rfl rfl rfl bd) rfl rfl rfl fun bm a bn f => q_own_load (i := 13) 17 0 aG rfl Pl42 bn bl rfl (by kernel_rfl) rfl f (wanted_of f rfl rfl rfl bd) rfl rfl fun bo a bp f => ?_
      obtain ⟨bq, br, aI⟩ := bind_some aI
      refine q_callv (i := 14) 17 rfl (by kernel_rfl) rfl f (wanted_of f rfl rfl rfl bd) rfl rfl rfl Tryz.call58 (fun _ _ w bs m => Wk.b m (rd1 bs (bj.2)) (rd1 bs (bp.2)) br) fun a f => q_p 15 17 rfl (by kernel_rfl) f (wanted_of f rfl rfl rfl bd) rfl rfl (fun _ => r_int (f.eval rfl) (f.eval rfl) b_lss) fun a f => q_p 16 17 rfl (by kernel_rfl) f rfl rfl rfl (fun _ => r_pickT (f.eval rfl) bd (f.eval rfl)) fun a f => ?_
      obtain rfl := sj aI
      exact bc _ (f.weak ⟨rfl, rfl, rfl, rfl, rfl, rfl, rfl, rfl, rfl, rfl, rfl, trivial⟩)
     ·refine q_ng 4 17 rfl (by kernel_rfl) f rfl rfl bd rfl fun a f => ?_
      refine q_ng 5 17 rfl (by kernel_rfl) f rfl rfl bd rfl fun a f => q_ng 6 17 rfl (by kernel_rfl) f rfl rfl bd rfl fun a f => q_ng 7 17 rfl (by kernel_rfl) f rfl rfl bd rfl fun a f => q_ng 8 17 rfl (by kernel_rfl) f rfl rfl bd rfl fun a f => q_ng 9 17 rfl (by kernel_rfl) f rfl rfl bd rfl fun a f => q_ng 10 17 rfl (by kernel_rfl) f rfl rfl bd rfl fun a f => q_ng 11 17 rfl (by kernel_rfl) f rfl rfl bd rfl fun a f => q_ng 12 17 rfl (by kernel_rfl) f rfl rfl bd rfl fun a f => q_ng 13 17 rfl (by kernel_rfl) f rfl rfl bd rfl fun a f => q_ng 14 17 rfl (by kernel_rfl) f rfl rfl bd rfl fun a f => q_ng 15 17 rfl (by kernel_rfl) f rfl rfl bd rfl fun a f => q_p 16 17 rfl (by kernel_rfl) f rfl rfl rfl (fun _ => r_pickF (f.eval rfl) bd (f.eval rfl)) fun a f => ?_
      obtain rfl := sj aI
      exact bc _ (f.weak ⟨rfl, rfl, rfl, rfl, rfl, rfl, rfl, rfl, rfl, rfl, rfl, trivial⟩)
   ·rintro a w ⟨au, rfl, av, aw, bt, f, m, bu⟩
    refine k_region ?_
    refine l_mv f rfl rfl fun a f => l_in f rfl rfl rfl b_add fun a f => l_as f rfl rfl fun a f => l_nil ?_
    obtain rfl := sj al
    exact ⟨_, rfl, _, _, rfl, _, aw, (GLe.trans an bt), f.weak ⟨rfl, rfl, rfl, rfl, rfl, trivial⟩, m, bu⟩
  ·refine k_false f rfl ap ?_
   refine k_exit rfl ?_
   obtain rfl := sj al
   obtain rfl := am _ rfl
   exact ⟨_, rfl, _, aj, an, f.weak trivial, m, ao⟩
 ·rintro a w ⟨ac, rfl, ad, ae, bv, f, m, bw⟩
  obtain rfl := sj hd
  exact ⟨[], trivial, f.defers, _, [ae], bv, m, _, rfl, bw⟩

theorem Wk.I0 {W w : World} {G : GH} {H : List Itm} {v0 : Value} {it0 : Itm} {x0 : (List (Value × List Int))} {x1 : Int} {x2 : Int} {x3 : Int} (m : Mem W G w (it0 :: H)) (o0 : Ow (RTg (RI .i64)) 42 G it0 v0 x0) {y : ((List (Value × List Int)))} (hd : D.I0 x0 x1 x2 x3 = some y) :
  Calls Tryz.prog 189 #[v0, (.int .i64 x1), (.int .i64 x2), (.int .i64 x3), (.func (.func 58) #[] #[])] w (Res W G H (fun G' Ho _ => ∃ i0 : Itm, Ho = [i0] ∧ Ow (RTg (RI .i64)) 42 G' i0 v0 y)) := by
 refine calls_b (args := [v0, (.int .i64 x1), (.int .i64 x2), (.int .i64 x3), (.func (.func 58) #[] #[])]) (N := 82) [] Tryz.func189 rfl rfl (Nat.le_of_ble_eq_true rfl) rfl fun a f => ?_
 unfold D.I0 at hd
 refine k_seq (k_region ?_)
 refine l_mv f rfl rfl fun a f => l_as f rfl rfl fun a f => l_nil ?_
 obtain ⟨aa, ab, hd⟩ := bind_some hd
 refine k_cut (fun a w => ∃ q_182' : (List (Value × List Int)), aa = .inl q_182' ∧ ∃ ac : List (Value × List Int), ac = q_182' ∧ ∃ (ad : GH) (ae : Itm), GLe G ad ∧ Fr a 82 [] ∧ Mem W ad w (ae :: H) ∧ Ow (RTg (RI .i64)) 42 ad ae v0 ac) ?_ ?_
 ·refine k_block ?_
  refine k_loop (fun af a w => ∃ ag : List (Value × List Int), ∃ ah : Int, (ag, ah) = af ∧ ∃ (ai : GH) (aj : Itm), GLe G ai ∧ Fr a 82 [(0, v0), (2, (.int .i64 x2)), (3, (.int .i64 x3)), (4, (.func (.func 58) #[] #[])), (10, (.int .i64 ah))] ∧ Mem W ai w (aj :: H) ∧ Ow (RTg (RI .i64)) 42 ai aj v0 ag) ab ⟨_, _, rfl, _, it0, (GLe.refl _), f.weak ⟨rfl, rfl, rfl, rfl, rfl, trivial⟩, m, o0⟩ ?_
  clear ab f m
  rintro af ak al am a w ⟨ag, ah, rfl, ai, aj, an, f, m, ao⟩
  refine k_block (k_seq (k_region ?_))
  refine l_mv f rfl rfl fun a f => l_in f rfl rfl rfl b_mul fun a f => l_in f rfl rfl rfl b_add fun a f => l_as f rfl rfl fun a f => l_nil (k_seq (k_seq (k_region ?_)))
  refine l_mv f rfl rfl fun a f => l_mv f rfl rfl fun a f => l_in f rfl rfl rfl b_geq fun a f => l_nil ?_
  rcases cond_some al with ⟨ap, al⟩ | ⟨ap, al⟩
  ·refine k_true f rfl ap ?_
   refine k_exit rfl ?_
   obtain rfl := sj al
   obtain rfl := am _ rfl
   exact ⟨_, rfl, _, rfl, _, aj, an, f.weak trivial, m, ao⟩
  ·refine k_false f rfl ap ?_
   refine k_skip ?_
   refine k_seq (k_seq ?_)
   refine k_draw 22 Follows (by kernel_rfl) m ?_
   refine q_mv 0 22 rfl (by kernel_rfl) f rfl rfl rfl fun a f => q_p 1 22 rfl (by kernel_rfl) f rfl rfl rfl (fun _ => r_int (f.eval rfl) (f.eval rfl) b_add) fun a f => q_mv 2 22 rfl (by kernel_rfl) f rfl rfl rfl fun a f => q_p 3 22 rfl (by kernel_rfl) f rfl rfl rfl (fun _ => r_int (f.eval rfl) (f.eval rfl) b_lss) fun a f => q_mv 4 22 rfl (by kernel_rfl) f rfl rfl rfl fun a f => ?_
   obtain ⟨aq, ar, al⟩ := bind_some al
   refine q_cut (fuel' := 0) (listed' := #[true, true, true, true, true, true, true, true, true, true, true, true, true, true, true, true, true, true, true, true, true, true]) (fun a => Fr a 82 [(0, v0), (2, (.int .i64 x2)), (3, (.int .i64 x3)), (4, (.func (.func 58) #[] #[])), (10, (.int .i64 ah)), (11, (.int .i64 (IntKind.i64.wrap ((IntKind.i64.wrap (2 * ah)) + 1)))), (18, (.bool (decide (x2 ≤ (IntKind.i64.wrap ((IntKind.i64.wrap (2 * ah)) + 1)))))), (19, (.int .i64 (IntKind.i64.wrap ((IntKind.i64.wrap (2 * ah)) + 1)))), (20, (.int .i64 (IntKind.i64.wrap ((IntKind.i64.wrap ((IntKind.i64.wrap (2 * ah)) + 1)) + 1)))), (21, (.int .i64 x2)), (22, (.bool (decide ((IntKind.i64.wrap ((IntKind.i64.wrap ((IntKind.i64.wrap (2 * ah)) + 1)) + 1)) < x2)))), (23, (.bool (decide ((IntKind.i64.wrap ((IntKind.i64.wrap ((IntKind.i64.wrap (2 * ah)) + 1)) + 1)) < x2)))), (40, (.bool aq))]) ?_ ?_
   ·intro a f
    refine q_end fun au w av m => ?_
    have ao := Ow.mono (RTg.mono (RI.mono _)) av ao
    refine l_nil ?_
    obtain ⟨aw, ax, al⟩ := bind_some al
    refine k_cut (fun a w => ∃ ay : Int, ay = aw ∧ ∃ (az : GH), GLe au az ∧ Fr a 82 [(0, v0), (2, (.int .i64 x2)), (3, (.int .i64 x3)), (4, (.func (.func 58) #[] #[])), (10, (.int .i64 ah)), (11, (.int .i64 ay))] ∧ Mem W az w (aj :: H)) ?_ ?_
    ·rcases cond_some ax with ⟨aA, ax⟩ | ⟨aA, ax⟩
     ·refine k_true f rfl aA ?_
      refine k_region ?_
      refine l_mv f rfl rfl fun a f => l_in f rfl rfl rfl b_add fun a f => l_as f rfl rfl fun a f => l_nil ?_
      obtain rfl := sj ax
      exact ⟨_, rfl, _, (GLe.refl _), f.weak ⟨rfl, rfl, rfl, rfl, rfl, rfl, trivial⟩, m⟩
     ·refine k_false f rfl aA ?_
      refine k_skip ?_
      obtain rfl := sj ax
      exact ⟨_, rfl, _, (GLe.refl _), f.weak ⟨rfl, rfl, rfl, rfl, rfl, rfl, trivial⟩, m⟩
    ·rintro a w ⟨ay, rfl, az, aB, f, m⟩
     have ao := Ow.mono (RTg.mono (RI.mono _)) aB ao
     refine k_seq (k_seq ?_)
     refine k_draw 16 Follows (by kernel_rfl) m ?_
     refine q_mv 0 16 rfl (by kernel_rfl) f rfl rfl rfl fun a f => q_mv 1 16 rfl (by kernel_rfl) f rfl rfl rfl fun a f => q_mv 2 16 rfl (by kernel_rfl) f rfl rfl rfl fun a f => q_mv 3 16 rfl (by kernel_rfl) f rfl rfl rfl fun a f => q_p 4 16 rfl (by kernel_rfl) f rfl rfl rfl (fun _ => r_int (f.eval rfl) (f.eval rfl) b_add) fun a f => ?_
     obtain ⟨aC, aD, al⟩ := bind_some al
     refine q_own_at (i := 5) 16 0 m ao rfl T22 aD rfl (by kernel_rfl) rfl f rfl rfl rfl rfl fun aE a aF f => q_own_load (i := 6) 16 0 ao rfl Pl42 aF aD rfl (by kernel_rfl) rfl f rfl rfl rfl fun aG a aH f => q_mv 7 16 rfl (by kernel_rfl) f rfl rfl rfl fun a f => q_mv 8 16 rfl (by kernel_rfl) f rfl rfl rfl fun a f => q_mv 9 16 rfl (by kernel_rfl) f rfl rfl rfl fun a f => q_p 10 16 rfl (by kernel_rfl) f rfl rfl rfl (fun _ => r_int (f.eval rfl) (f.eval rfl) b_add) fun a f => ?_
     obtain ⟨aI, aJ, al⟩ := bind_some al
     refine q_own_at (i := 11) 16 0 m ao rfl T22 aJ rfl (by kernel_rfl) rfl f rfl rfl rfl rfl fun aK a aL f => q_own_load (i := 12) 16 0 ao rfl Pl42 aL aJ rfl (by kernel_rfl) rfl f rfl rfl rfl fun aM a aN f => ?_
     obtain ⟨aO, aP, al⟩ := bind_some al
     refine q_callv (i := 13) 16 rfl (by kernel_rfl) rfl f rfl rfl rfl rfl Tryz.call58 (fun _ _ w aQ m => Wk.b m (rd1 aQ (aH.2)) (rd1 aQ (aN.2)) aP) fun a f => q_p 14 16 rfl (by kernel_rfl) f rfl rfl rfl (fun _ => r_int (f.eval rfl) (f.eval rfl) b_lss) fun a f => q_p 15 16 rfl (by kernel_rfl) f rfl rfl rfl (fun _ => r_not (f.eval rfl)) fun a f => q_end fun aR w aS m => ?_
     have aH := (RTg.mono (RI.mono _)) _ _ _ _ aS aH
     have aN := (RTg.mono (RI.mono _)) _ _ _ _ aS aN
     have ao := Ow.mono (RTg.mono (RI.mono _)) aS ao
     refine l_nil ?_
     rcases cond_some al with ⟨aT, al⟩ | ⟨aT, al⟩
     ·refine k_true f rfl aT ?_
      refine k_ret ?_
      obtain rfl := sj al
      obtain rfl := am _ rfl
      obtain rfl := sj hd
      exact ⟨[], trivial, f.defers, _, [aj], (GLe.trans an (GLe.trans av (GLe.trans aB aS))), m, _, rfl, ao⟩
     ·refine k_false f rfl aT ?_
      refine k_skip ?_
      refine k_seq ?_
      refine k_draw0 Follows m ?_
      refine p_p 4 rfl (by kernel_rfl) f rfl rfl rfl (fun _ => r_move (f.eval rfl)) fun a f => p_p 5 rfl (by kernel_rfl) f rfl rfl rfl (fun _ => r_move (f.eval rfl)) fun a f => p_p 6 rfl (by kernel_rfl) f rfl rfl rfl (fun _ => r_move (f.eval rfl)) fun a f => p_p 7 rfl (by kernel_rfl) f rfl rfl rfl (fun _ => r_int (f.eval rfl) (f.eval rfl) b_add) fun a f => k_draw1 240021 17 (by kernel_rfl) rfl ?_
      refine q_mv 0 240021 rfl (by kernel_rfl) f rfl rfl rfl fun a f => q_mv 1 240021 rfl (by kernel_rfl) f rfl rfl rfl fun a f => q_mv 2 240021 rfl (by kernel_rfl) f rfl rfl rfl fun a f => q_p 3 240021 rfl (by kernel_rfl) f rfl rfl rfl (fun _ => r_int (f.eval rfl) (f.eval rfl) b_add) fun a f => q_mv 8 240021 rfl (by kernel_rfl) f rfl rfl rfl fun a f => q_mv 9 240021 rfl (by kernel_rfl) f rfl rfl rfl fun a f => q_mv 10 240021 rfl (by kernel_rfl) f rfl rfl rfl fun a f => q_p 11 240021 rfl (by kernel_rfl) f rfl rfl rfl (fun _ => r_int (f.eval rfl) (f.eval rfl) b_add) fun a f => ?_
      obtain ⟨aU, aV, al⟩ := bind_some al
      refine q_own_at (i := 12) 240021 0 m ao rfl T22 aV rfl (by kernel_rfl) rfl f rfl rfl rfl rfl fun aW a aX f => q_own_load (i := 13) 240021 0 ao rfl Pl42 aX aV rfl (by kernel_rfl) rfl f rfl rfl rfl fun aY a aZ f => q_mv 14 240021 rfl (by kernel_rfl) f rfl rfl rfl fun a f => q_mv 15 240021 rfl (by kernel_rfl) f rfl rfl rfl fun a f => q_mv 16 240021 rfl (by kernel_rfl) f rfl rfl rfl fun a f => q_p 17 240021 rfl (by kernel_rfl) f rfl rfl rfl (fun _ => r_int (f.eval rfl) (f.eval rfl) b_add) fun a f => ?_
      obtain ⟨a0, a1, al⟩ := bind_some al
      refine q_own_at (i := 18) 240021 0 m ao rfl T22 a1 rfl (by kernel_rfl) rfl f rfl rfl rfl rfl fun a2 a a3 f => q_own_load (i := 19) 240021 0 ao rfl Pl42 a3 a1 rfl (by kernel_rfl) rfl f rfl rfl rfl fun a4 a a5 f => ?_
      obtain ⟨a6, a7, al⟩ := bind_some al
      refine q_own_at (i := 20) 240021 0 m ao rfl T22 a7 rfl (by kernel_rfl) rfl f rfl rfl rfl rfl fun a8 a a9 f => q_end fun ba w bb m => ?_
      have aZ := (RTg.mono (RI.mono _)) _ _ _ _ bb aZ
      have a5 := (RTg.mono (RI.mono _)) _ _ _ _ bb a5
      have ao := Ow.mono (RTg.mono (RI.mono _)) bb ao
      refine l_own_store 0 m ao rfl Tryz.sizeOf42 f rfl rfl a9 a7 aZ.cells aZ.one1 aZ fun bc w m bd => ?_
      obtain ⟨be, bf, al⟩ := bind_some al
      refine l_own_at 0 m bd rfl T22 f rfl rfl rfl bf fun bg a bh f => l_own_store 0 m bd rfl Tryz.sizeOf42 f rfl rfl bh bf a5.cells a5.one1 a5 fun bi w m bj => l_nil (k_region ?_)
      refine l_mv f rfl rfl fun a f => l_as f rfl rfl fun a f => l_nil ?_
      obtain rfl := sj al
      exact ⟨_, rfl, _, _, rfl, _, bi, (GLe.trans an (GLe.trans av (GLe.trans aB (GLe.trans aS bb)))), f.weak ⟨rfl, rfl, rfl, rfl, rfl, trivial⟩, m, bj⟩
   ·intro bk
    rcases cond_some ar with ⟨bl, ar⟩ | ⟨bl, ar⟩
    ·refine q_mv 5 22 rfl (by kernel_rfl) f (wanted_of f rfl rfl rfl bl) rfl rfl fun a f => ?_
     refine q_mv 6 22 rfl (by kernel_rfl) f (wanted_of f rfl rfl rfl bl) rfl rfl fun a f => q_mv 7 22 rfl (by kernel_rfl) f (wanted_of f rfl rfl rfl bl) rfl rfl fun a f => q_mv 8 22 rfl (by kernel_rfl) f (wanted_of f rfl rfl rfl bl) rfl rfl fun a f => q_p 9 22 rfl (by kernel_rfl) f (wanted_of f rfl rfl rfl bl) rfl rfl (fun _ => r_int (f.eval rfl) (f.eval rfl) b_add) fun a f => ?_
     obtain ⟨bm, bn, ar⟩ := bind_some ar
     refine q_own_at (i := 10) 22 0 m ao rfl T22 bn rfl (by kernel_rfl) rfl f (wanted_of f rfl rfl rfl bl) rfl rfl rfl fun bo a bp f => q_own_load (i := 11) 22 0 ao rfl Pl42 bp bn rfl (by kernel_rfl) rfl f (wanted_of f rfl rfl rfl bl) rfl rfl fun bq a br f => q_mv 12 22 rfl (by kernel_rfl) f (wanted_of f rfl rfl rfl bl) rfl rfl fun a f => q_mv 13 22 rfl (by kernel_rfl) f (wanted_of f rfl rfl rfl bl) rfl rfl fun a f => q_mv 14 22 rfl (by kernel_rfl) f (wanted_of f rfl rfl rfl bl) rfl rfl fun a f => q_p 15 22 rfl (by kernel_rfl) f (wanted_of f rfl rfl rfl bl) rfl rfl (fun _ => r_int (f.eval rfl) (f.eval rfl) b_add) fun a f => q_p 16 22 rfl (by kernel_rfl) f (wanted_of f rfl rfl rfl bl) rfl rfl (fun _ => r_int (f.eval rfl) (f.eval rfl) b_add) fun a f => ?_
     obtain ⟨bs, bt, ar⟩ := bind_some ar
     refine q_own_at (i := 17) 22 0 m ao rfl T22 bt rfl (by kernel_rfl) rfl f (wanted_of f rfl rfl rfl bl) rfl rfl rfl fun bu a bv f => q_own_load (i := 18) 22 0 ao rfl Pl42 bv bt rfl (by kernel_rfl) rfl f (wanted_of f rfl rfl rfl bl) rfl rfl fun bw a bx f => ?_
     obtain ⟨bz, bA, ar⟩ := bind_some ar
     refine q_callv (i := 19) 22 rfl (by kernel_rfl) rfl f (wanted_of f rfl rfl rfl bl) rfl rfl rfl Tryz.call58 (fun _ _ w bB m => Wk.b m (rd1 bB (br.2)) (rd1 bB (bx.2)) bA) fun a f => q_p 20 22 rfl (by kernel_rfl) f (wanted_of f rfl rfl rfl bl) rfl rfl (fun _ => r_int (f.eval rfl) (f.eval rfl) b_lss) fun a f => q_p 21 22 rfl (by kernel_rfl) f rfl rfl rfl (fun _ => r_pickT (f.eval rfl) bl (f.eval rfl)) fun a f => ?_
     obtain rfl := sj ar
     exact bk _ (f.weak ⟨rfl, rfl, rfl, rfl, rfl, rfl, rfl, rfl, rfl, rfl, rfl, rfl, rfl, trivial⟩)
    ·refine q_ng 5 22 rfl (by kernel_rfl) f rfl rfl bl rfl fun a f => ?_
     refine q_ng 6 22 rfl (by kernel_rfl) f rfl rfl bl rfl fun a f => q_ng 7 22 rfl (by kernel_rfl) f rfl rfl bl rfl fun a f => q_ng 8 22 rfl (by kernel_rfl) f rfl rfl bl rfl fun a f => q_ng 9 22 rfl (by kernel_rfl) f rfl rfl bl rfl fun a f => q_ng 10 22 rfl (by kernel_rfl) f rfl rfl bl rfl fun a f => q_ng 11 22 rfl (by kernel_rfl) f rfl rfl bl rfl fun a f => q_ng 12 22 rfl (by kernel_rfl) f rfl rfl bl rfl fun a f => q_ng 13 22 rfl (by kernel_rfl) f rfl rfl bl rfl fun a f => q_ng 14 22 rfl (by kernel_rfl) f rfl rfl bl rfl fun a f => q_ng 15 22 rfl (by kernel_rfl) f rfl rfl bl rfl fun a f => q_ng 16 22 rfl (by kernel_rfl) f rfl rfl bl rfl fun a f => q_ng 17 22 rfl (by kernel_rfl) f rfl rfl bl rfl fun a f => q_ng 18 22 rfl (by kernel_rfl) f rfl rfl bl rfl fun a f => q_ng 19 22 rfl (by kernel_rfl) f rfl rfl bl rfl fun a f => q_ng 20 22 rfl (by kernel_rfl) f rfl rfl bl rfl fun a f => ?_
     refine q_p 21 22 rfl (by kernel_rfl) f rfl rfl rfl (fun _ => r_pickF (f.eval rfl) bl (f.eval rfl)) fun a f => ?_
     obtain rfl := sj ar
     exact bk _ (f.weak ⟨rfl, rfl, rfl, rfl, rfl, rfl, rfl, rfl, rfl, rfl, rfl, rfl, rfl, trivial⟩)
 ·rintro a w ⟨_, rfl, ac, rfl, ad, ae, bC, f, m, bD⟩
  obtain rfl := sj hd
  exact ⟨[], trivial, f.defers, _, [ae], bC, m, _, rfl, bD⟩

theorem Wk.Q0 {W w : World} {G : GH} {H : List Itm} {v0 : Value} {it0 : Itm} {x0 : (List (Value × List Int))} {x1 : Int} {x2 : Int} (m : Mem W G w (it0 :: H)) (o0 : Ow (RTg (RI .i64)) 42 G it0 v0 x0) {y : ((List (Value × List Int)))} (hd : D.Q0 x0 x1 x2 = some y) :
  Calls Tryz.prog 155 #[v0, (.int .i64 x1), (.int .i64 x2), (.func (.func 58) #[] #[])] w (Res W G H (fun G' Ho _ => ∃ i0 : Itm, Ho = [i0] ∧ Ow (RTg (RI .i64)) 42 G' i0 v0 y)) := by
 refine calls_b (args := [v0, (.int .i64 x1), (.int .i64 x2), (.func (.func 58) #[] #[])]) (N := 60) [] Tryz.func155 rfl rfl (Nat.le_of_ble_eq_true rfl) rfl fun a f => ?_
 unfold D.Q0 at hd
 refine k_seq (k_region ?_)
 refine l_mv f rfl rfl fun a f => l_as f rfl rfl fun a f => l_nil (k_seq (k_region ?_))
 refine l_as f rfl rfl fun a f => l_nil (k_seq (k_region ?_))
 refine l_mv f rfl rfl fun a f => l_mv f rfl rfl fun a f => l_in f rfl rfl rfl b_sub fun a f => l_as f rfl rfl fun a f => l_nil (k_seq (k_seq (k_region ?_)))
 refine l_mv f rfl rfl fun a f => l_in f rfl rfl rfl b_sub fun a f => l_in f rfl rfl rfl (b_quo rfl) fun a f => l_as f rfl rfl fun a f => l_nil ?_
 obtain ⟨aa, ab, hd⟩ := bind_some hd
 refine k_cut (fun a w => ∃ ac : List (Value × List Int), ac = aa ∧ ∃ (ad : GH) (ae : Itm), GLe G ad ∧ Fr a 60 [(0, v0), (3, (.func (.func 58) #[] #[])), (8, (.int .i64 x1)), (9, (.int .i64 0)), (10, (.int .i64 (IntKind.i64.wrap (x2 - x1))))] ∧ Mem W ad w (ae :: H) ∧ Ow (RTg (RI .i64)) 42 ad ae v0 ac) ?_ ?_
 ·refine k_block ?_
  refine k_loop (fun af a w => ∃ ag : List (Value × List Int), ∃ ah : Int, (ag, ah) = af ∧ ∃ (ai : GH) (aj : Itm), GLe G ai ∧ Fr a 60 [(0, v0), (3, (.func (.func 58) #[] #[])), (8, (.int .i64 x1)), (9, (.int .i64 0)), (10, (.int .i64 (IntKind.i64.wrap (x2 - x1)))), (11, (.int .i64 ah))] ∧ Mem W ai w (aj :: H) ∧ Ow (RTg (RI .i64)) 42 ai aj v0 ag) ab ⟨_, _, rfl, _, it0, (GLe.refl _), f.weak ⟨rfl, rfl, rfl, rfl, rfl, rfl, trivial⟩, m, o0⟩ ?_
  clear ab f m
  rintro af ak al am a w ⟨ag, ah, rfl, ai, aj, an, f, m, ao⟩
  refine k_seq (k_seq (k_region ?_))
  refine l_mv f rfl rfl fun a f => l_in f rfl rfl rfl b_geq fun a f => l_nil ?_
  rcases cond_some al with ⟨ap, al⟩ | ⟨ap, al⟩
  ·refine k_true f rfl ap ?_
   refine k_skip ?_
   refine k_seq (k_block (k_region ?_))
   refine l_mv f rfl rfl fun a f => l_mv f rfl rfl fun a f => l_mv f rfl rfl fun a f => l_mv f rfl rfl fun a f => l_mv f rfl rfl fun a f => ?_
   obtain ⟨aq, ar, al⟩ := bind_some al
   refine l_res f rfl rfl Tryz.call189 (Wk.I0 m ao ar) fun au av aw w ax m ay a f => ?_
   obtain ⟨az, rfl, aA⟩ := ay
   refine l_nil (k_region ?_)
   refine l_mv f rfl rfl fun a f => l_in f rfl rfl rfl b_sub fun a f => l_as f rfl rfl fun a f => l_nil ?_
   obtain rfl := sj al
   exact ⟨_, rfl, _, _, rfl, _, az, (GLe.trans an ax), f.weak ⟨rfl, rfl, rfl, rfl, rfl, rfl, trivial⟩, m, aA⟩
  ·refine k_false f rfl ap ?_
   refine k_exit rfl ?_
   obtain rfl := sj al
   obtain rfl := am _ rfl
   exact ⟨_, rfl, _, aj, an, f.weak ⟨rfl, rfl, rfl, rfl, rfl, trivial⟩, m, ao⟩
 ·rintro a w ⟨ac, rfl, ad, ae, aB, f, m, aC⟩
  refine k_seq (k_region ?_)
  refine l_mv f rfl rfl fun a f => l_in f rfl rfl rfl b_sub fun a f => l_as f rfl rfl fun a f => l_nil ?_
  obtain ⟨aD, aE, hd⟩ := bind_some hd
  refine k_cut (fun a w => ∃ aF : List (Value × List Int), aF = aD ∧ ∃ (aG : GH) (aH : Itm), GLe ad aG ∧ Fr a 60 [] ∧ Mem W aG w (aH :: H) ∧ Ow (RTg (RI .i64)) 42 aG aH v0 aF) ?_ ?_
  ·refine k_block ?_
   refine k_loop (fun aI a w => ∃ aJ : List (Value × List Int), ∃ aK : Int, (aJ, aK) = aI ∧ ∃ (aL : GH) (aM : Itm), GLe ad aL ∧ Fr a 60 [(0, v0), (3, (.func (.func 58) #[] #[])), (8, (.int .i64 x1)), (9, (.int .i64 0)), (12, (.int .i64 aK))] ∧ Mem W aL w (aM :: H) ∧ Ow (RTg (RI .i64)) 42 aL aM v0 aJ) aE ⟨_, _, rfl, _, ae, (GLe.refl _), f.weak ⟨rfl, rfl, rfl, rfl, rfl, trivial⟩, m, aC⟩ ?_
   clear aE f m
   rintro aI aN aO aP a w ⟨aJ, aK, rfl, aL, aM, aQ, f, m, aR⟩
   refine k_seq (k_seq (k_region ?_))
   refine l_mv f rfl rfl fun a f => l_in f rfl rfl rfl b_geq fun a f => l_nil ?_
   rcases cond_some aO with ⟨aS, aO⟩ | ⟨aS, aO⟩
   ·refine k_true f rfl aS ?_
    refine k_skip ?_
    refine k_seq (k_block (k_seq ?_))
    refine k_draw0 Follows m ?_
    refine p_p 2 rfl (by kernel_rfl) f rfl rfl rfl (fun _ => r_move (f.eval rfl)) fun a f => p_p 3 rfl (by kernel_rfl) f rfl rfl rfl (fun _ => r_move (f.eval rfl)) fun a f => p_p 4 rfl (by kernel_rfl) f rfl rfl rfl (fun _ => r_move (f.eval rfl)) fun a f => p_p 5 rfl (by kernel_rfl) f rfl rfl rfl (fun _ => r_int (f.eval rfl) (f.eval rfl) b_add) fun a f => k_draw1 60017 13 (by kernel_rfl) rfl ?_
    refine q_mv 0 60017 rfl (by kernel_rfl) f rfl rfl rfl fun a f => q_mv 1 60017 rfl (by kernel_rfl) f rfl rfl rfl fun a f => q_mv 6 60017 rfl (by kernel_rfl) f rfl rfl rfl fun a f => q_mv 7 60017 rfl (by kernel_rfl) f rfl rfl rfl fun a f => q_mv 8 60017 rfl (by kernel_rfl) f rfl rfl rfl fun a f => q_p 9 60017 rfl (by kernel_rfl) f rfl rfl rfl (fun _ => r_int (f.eval rfl) (f.eval rfl) b_add) fun a f => ?_
    obtain ⟨aT, aU, aO⟩ := bind_some aO
    refine q_own_at (i := 10) 60017 0 m aR rfl T22 aU rfl (by kernel_rfl) rfl f rfl rfl rfl rfl fun aV a aW f => q_own_load (i := 11) 60017 0 aR rfl Pl42 aW aU rfl (by kernel_rfl) rfl f rfl rfl rfl fun aX a aY f => q_mv 12 60017 rfl (by kernel_rfl) f rfl rfl rfl fun a f => q_mv 13 60017 rfl (by kernel_rfl) f rfl rfl rfl fun a f => ?_
    obtain ⟨aZ, a0, aO⟩ := bind_some aO
    refine q_own_at (i := 14) 60017 0 m aR rfl T22 a0 rfl (by kernel_rfl) rfl f rfl rfl rfl rfl fun a1 a a2 f => q_own_load (i := 15) 60017 0 aR rfl Pl42 a2 a0 rfl (by kernel_rfl) rfl f rfl rfl rfl fun a3 a a4 f => ?_
    obtain ⟨a5, a6, aO⟩ := bind_some aO
    refine q_own_at (i := 16) 60017 0 m aR rfl T22 a6 rfl (by kernel_rfl) rfl f rfl rfl rfl rfl fun a7 a a8 f => q_end fun a9 w ba m => ?_
    have aY := (RTg.mono (RI.mono _)) _ _ _ _ ba aY
    have a4 := (RTg.mono (RI.mono _)) _ _ _ _ ba a4
    have aR := Ow.mono (RTg.mono (RI.mono _)) ba aR
    refine l_own_store 0 m aR rfl Tryz.sizeOf42 f rfl rfl a8 a6 aY.cells aY.one1 aY fun bb w m bc => ?_
    obtain ⟨bd, be, aO⟩ := bind_some aO
    refine l_own_at 0 m bc rfl T22 f rfl rfl rfl be fun bf a bg f => l_own_store 0 m bc rfl Tryz.sizeOf42 f rfl rfl bg be a4.cells a4.one1 a4 fun bh w m bi => l_nil (k_region ?_)
    refine l_mv f rfl rfl fun a f => l_mv f rfl rfl fun a f => l_mv f rfl rfl fun a f => l_mv f rfl rfl fun a f => l_mv f rfl rfl fun a f => ?_
    obtain ⟨bj, bk, aO⟩ := bind_some aO
    refine l_res f rfl rfl Tryz.call189 (Wk.I0 m bi bk) fun bl bm bn w bo m bp a f => ?_
    obtain ⟨bq, rfl, br⟩ := bp
    refine l_nil (k_region ?_)
    refine l_mv f rfl rfl fun a f => l_in f rfl rfl rfl b_sub fun a f => l_as f rfl rfl fun a f => l_nil ?_
    obtain rfl := sj aO
    exact ⟨_, rfl, _, _, rfl, _, bq, (GLe.trans aQ (GLe.trans ba bo)), f.weak ⟨rfl, rfl, rfl, rfl, rfl, trivial⟩, m, br⟩
   ·refine k_false f rfl aS ?_
    refine k_exit rfl ?_
    obtain rfl := sj aO
    obtain rfl := aP _ rfl
    exact ⟨_, rfl, _, aM, aQ, f.weak trivial, m, aR⟩
  ·rintro a w ⟨aF, rfl, aG, aH, bs, f, m, bt⟩
   obtain rfl := sj hd
   exact ⟨[], trivial, f.defers, _, [aH], (GLe.trans aB bs), m, _, rfl, bt⟩

theorem Wk.P0 {W w : World} {G : GH} {H : List Itm} {v0 : Value} {it0 : Itm} {x0 : (List (Value × List Int))} {x1 : Int} {x2 : Int} (m : Mem W G w (it0 :: H)) (o0 : Ow (RTg (RI .i64)) 42 G it0 v0 x0) {y : ((List (Value × List Int)))} (hd : D.P0 x0 x1 x2 = some y) :
  Calls Tryz.prog 156 #[v0, (.int .i64 x1), (.int .i64 x2), (.func (.func 58) #[] #[])] w (Res W G H (fun G' Ho _ => ∃ i0 : Itm, Ho = [i0] ∧ Ow (RTg (RI .i64)) 42 G' i0 v0 y)) := by
 refine calls_b (args := [v0, (.int .i64 x1), (.int .i64 x2), (.func (.func 58) #[] #[])]) (N := 67) [] Tryz.func156 rfl rfl (Nat.le_of_ble_eq_true rfl) rfl fun a f => ?_
 unfold D.P0 at hd
 refine k_seq (k_region ?_)
 refine l_mv f rfl rfl fun a f => l_mv f rfl rfl fun a f => l_in f rfl rfl rfl b_sub fun a f => l_as f rfl rfl fun a f => l_nil (k_seq (k_region ?_))
 refine l_mv f rfl rfl fun a f => l_in f rfl rfl rfl b_geq fun a f => l_nil ?_
 rcases cond_some hd with ⟨aa, hd⟩ | ⟨aa, hd⟩
 ·refine k_true f rfl aa ?_
  refine k_seq (k_region ?_)
  refine l_mv f rfl rfl fun a f => l_op f rfl rfl rfl (r_conv (f.eval rfl) ⟨_, Tryz.underlying3⟩ Tryz.underlying190) fun a f => l_alloc (cs := [(.int .u64 0)]) Tryz.zeroValue190 m f rfl rfl fun ab w a m f => l_boxStore 0 0 (ds := [(.int .u64 (IntKind.u64.wrap (IntKind.i64.wrap (x2 - x1))))]) m Tryz.sizeOf190 f rfl rfl rfl (ones_cons rfl ones_nil) rfl (Nat.le_of_ble_eq_true rfl) rfl fun w m => l_nil (k_seq (k_region ?_))
  refine l_mv f rfl rfl fun a f => ?_
  obtain ⟨ac, ad, hd⟩ := bind_some hd
  refine l_res f rfl rfl Tryz.call190 (Wk.O m  ad) fun ae af ag w ah m ai a f => ?_
  obtain ⟨rfl, rfl⟩ := ai
  have o0 := Ow.mono (RTg.mono (RI.mono _)) ah o0
  refine l_as f rfl rfl fun a f => l_nil (k_seq (k_region ?_))
  refine l_mv f rfl rfl fun a f => l_mv f rfl rfl fun a f => l_in f rfl rfl rfl (b_quo rfl) fun a f => l_in f rfl rfl rfl b_mul fun a f => l_in f rfl rfl rfl b_add fun a f => l_in f rfl rfl rfl b_sub fun a f => l_as f rfl rfl fun a f => l_nil ?_
  obtain ⟨aj, ak, hd⟩ := bind_some hd
  refine k_cut (fun a w => ∃ al : List (Value × List Int), al = aj ∧ ∃ (am : GH) (an : Itm), GLe af am ∧ Fr a 67 [] ∧ Mem W am w (an :: H) ∧ Ow (RTg (RI .i64)) 42 am an v0 al) ?_ ?_
  ·refine k_block ?_
   refine k_loop (fun ao a w => ∃ ap : List (Value × List Int), ∃ aq : Int, ∃ ar : Int, (ap, aq, ar) = ao ∧ ∃ (au : GH) (av : Itm), GLe af au ∧ Fr a 67 [(0, v0), (1, (.int .i64 x1)), (8, (.int .i64 (IntKind.i64.wrap (x2 - x1)))), (9, (.pointer (some ⟨ab, 0, none⟩))), (10, (.int .u64 ac)), (11, (.int .i64 aq))] ∧ Mem W au w (Itm.box ab 190 [(.int .u64 ar)] :: av :: H) ∧ Ow (RTg (RI .i64)) 42 au av v0 ap) ak ⟨_, _, _, rfl, _, it0, (GLe.refl _), f.weak ⟨rfl, rfl, rfl, rfl, rfl, rfl, trivial⟩, m, o0⟩ ?_
   clear ak f m
   rintro ao aw ax ay a w ⟨ap, aq, ar, rfl, au, av, az, f, m, aA⟩
   refine k_seq (k_seq (k_region ?_))
   refine l_mv f rfl rfl fun a f => l_mv f rfl rfl fun a f => l_mv f rfl rfl fun a f => l_in f rfl rfl rfl (b_quo rfl) fun a f => l_in f rfl rfl rfl b_mul fun a f => l_in f rfl rfl rfl b_add fun a f => l_in f rfl rfl rfl b_add fun a f => l_in f rfl rfl rfl b_leq fun a f => l_nil ?_
   rcases cond_some ax with ⟨aB, ax⟩ | ⟨aB, ax⟩
   ·refine k_true f rfl aB ?_
    refine k_skip ?_
    refine k_seq (k_block (k_seq (k_region ?_)))
    obtain ⟨aC, aD, ax⟩ := bind_some ax
    refine l_res f rfl rfl Tryz.call191 (Wk.c0 m  aD) fun aE aF aG w aH m aI a f => ?_
    obtain ⟨rfl, rfl⟩ := aI
    have aA := Ow.mono (RTg.mono (RI.mono _)) aH aA
    refine l_mv f rfl rfl fun a f => l_in f rfl rfl rfl b_sub fun a f => l_in f rfl rfl rfl b_and fun a f => l_op f rfl rfl rfl (r_conv (f.eval rfl) ⟨_, Tryz.underlying135⟩ Tryz.underlying3) fun a f => l_as f rfl rfl fun a f => l_nil (k_seq (k_seq (k_region ?_)))
    refine l_mv f rfl rfl fun a f => l_mv f rfl rfl fun a f => l_in f rfl rfl rfl b_geq fun a f => l_nil ?_
    obtain ⟨aJ, aK, ax⟩ := bind_some ax
    refine k_cut (fun a w => ∃ aL : Int, aL = aJ ∧ ∃ (aM : GH), GLe aF aM ∧ Fr a 67 [(0, v0), (1, (.int .i64 x1)), (8, (.int .i64 (IntKind.i64.wrap (x2 - x1)))), (9, (.pointer (some ⟨ab, 0, none⟩))), (10, (.int .u64 ac)), (11, (.int .i64 aq)), (12, (.int .i64 aL))] ∧ Mem W aM w (Itm.box ab 190 [(.int .u64 aC.2)] :: av :: H)) ?_ ?_
    ·rcases cond_some aK with ⟨aN, aK⟩ | ⟨aN, aK⟩
     ·refine k_true f rfl aN ?_
      refine k_region ?_
      refine l_mv f rfl rfl fun a f => l_mv f rfl rfl fun a f => l_in f rfl rfl rfl b_sub fun a f => l_as f rfl rfl fun a f => l_nil ?_
      obtain rfl := sj aK
      exact ⟨_, rfl, _, (GLe.refl _), f.weak ⟨rfl, rfl, rfl, rfl, rfl, rfl, rfl, trivial⟩, m⟩
     ·refine k_false f rfl aN ?_
      refine k_skip ?_
      obtain rfl := sj aK
      exact ⟨_, rfl, _, (GLe.refl _), f.weak ⟨rfl, rfl, rfl, rfl, rfl, rfl, rfl, trivial⟩, m⟩
    ·rintro a w ⟨aL, rfl, aM, aO, f, m⟩
     have aA := Ow.mono (RTg.mono (RI.mono _)) aO aA
     refine k_draw0 Follows m ?_
     refine p_p 2 rfl (by kernel_rfl) f rfl rfl rfl (fun _ => r_move (f.eval rfl)) fun a f => p_p 3 rfl (by kernel_rfl) f rfl rfl rfl (fun _ => r_move (f.eval rfl)) fun a f => p_p 4 rfl (by kernel_rfl) f rfl rfl rfl (fun _ => r_move (f.eval rfl)) fun a f => p_p 5 rfl (by kernel_rfl) f rfl rfl rfl (fun _ => r_int (f.eval rfl) (f.eval rfl) b_add) fun a f => k_draw1 60017 13 (by kernel_rfl) rfl ?_
     refine q_mv 0 60017 rfl (by kernel_rfl) f rfl rfl rfl fun a f => q_mv 1 60017 rfl (by kernel_rfl) f rfl rfl rfl fun a f => q_mv 6 60017 rfl (by kernel_rfl) f rfl rfl rfl fun a f => q_mv 7 60017 rfl (by kernel_rfl) f rfl rfl rfl fun a f => q_mv 8 60017 rfl (by kernel_rfl) f rfl rfl rfl fun a f => q_p 9 60017 rfl (by kernel_rfl) f rfl rfl rfl (fun _ => r_int (f.eval rfl) (f.eval rfl) b_add) fun a f => ?_
     obtain ⟨aP, aQ, ax⟩ := bind_some ax
     refine q_own_at (i := 10) 60017 1 m aA rfl T22 aQ rfl (by kernel_rfl) rfl f rfl rfl rfl rfl fun aR a aS f => q_own_load (i := 11) 60017 1 aA rfl Pl42 aS aQ rfl (by kernel_rfl) rfl f rfl rfl rfl fun aT a aU f => q_mv 12 60017 rfl (by kernel_rfl) f rfl rfl rfl fun a f => q_mv 13 60017 rfl (by kernel_rfl) f rfl rfl rfl fun a f => ?_
     obtain ⟨aV, aW, ax⟩ := bind_some ax
     refine q_own_at (i := 14) 60017 1 m aA rfl T22 aW rfl (by kernel_rfl) rfl f rfl rfl rfl rfl fun aX a aY f => q_own_load (i := 15) 60017 1 aA rfl Pl42 aY aW rfl (by kernel_rfl) rfl f rfl rfl rfl fun aZ a a0 f => ?_
     obtain ⟨a1, a2, ax⟩ := bind_some ax
     refine q_own_at (i := 16) 60017 1 m aA rfl T22 a2 rfl (by kernel_rfl) rfl f rfl rfl rfl rfl fun a3 a a4 f => q_end fun a5 w a6 m => ?_
     have aU := (RTg.mono (RI.mono _)) _ _ _ _ a6 aU
     have a0 := (RTg.mono (RI.mono _)) _ _ _ _ a6 a0
     have aA := Ow.mono (RTg.mono (RI.mono _)) a6 aA
     refine l_own_store 1 m aA rfl Tryz.sizeOf42 f rfl rfl a4 a2 aU.cells aU.one1 aU fun a7 w m a8 => ?_
     obtain ⟨a9, ba, ax⟩ := bind_some ax
     refine l_own_at 1 m a8 rfl T22 f rfl rfl rfl ba fun bb a bc f => l_own_store 1 m a8 rfl Tryz.sizeOf42 f rfl rfl bc ba a0.cells a0.one1 a0 fun bd w m be => l_nil (k_region ?_)
     refine l_mv f rfl rfl fun a f => l_in f rfl rfl rfl b_add fun a f => l_as f rfl rfl fun a f => l_nil ?_
     obtain rfl := sj ax
     exact ⟨_, rfl, _, _, _, rfl, _, bd, (GLe.trans az (GLe.trans aH (GLe.trans aO a6))), f.weak ⟨rfl, rfl, rfl, rfl, rfl, rfl, trivial⟩, m, be⟩
   ·refine k_false f rfl aB ?_
    refine k_exit rfl ?_
    have m := m.front 1 rfl
    have m := m.eraseAt 1
    obtain rfl := sj ax
    obtain rfl := ay _ rfl
    exact ⟨_, rfl, _, av, az, f.weak trivial, m, aA⟩
  ·rintro a w ⟨al, rfl, am, an, bf, f, m, bg⟩
   obtain rfl := sj hd
   exact ⟨[], trivial, f.defers, _, [an], (GLe.trans ah bf), m, _, rfl, bg⟩
 ·refine k_false f rfl aa ?_
  refine k_skip ?_
  obtain rfl := sj hd
  exact ⟨[], trivial, f.defers, _, [it0], (GLe.refl _), m, _, rfl, o0⟩

theorem Wk.U {W w : World} {G : GH} {H : List Itm} {v0 : Value} {it0 : Itm} {b3 : Nat} {x0 : (List (Value × List Int))} {x1 : Int} {x2 : Int} {x3_0 : Int} (m : Mem W G w (it0 :: Itm.box b3 3 [(.int .i64 x3_0)] :: H)) (o0 : Ow (RTg (RI .i64)) 42 G it0 v0 x0) {y : Int × Int × ((List (Value × List Int))) × Int} (hd : D.U x0 x1 x2 x3_0 = some y) :
  Calls Tryz.prog 206 #[v0, (.int .i64 x1), (.int .i64 x2), (.pointer (some ⟨b3, 0, none⟩)), (.func (.func 58) #[] #[])] w (Res W G H (fun G' Ho v => ∃ i0 : Itm, Ho = [i0, Itm.box b3 3 [(.int .i64 y.2.2.2)]] ∧ v = .tuple #[(.int .i64 y.1), (.int .i64 y.2.1)] ∧ Ow (RTg (RI .i64)) 42 G' i0 v0 y.2.2.1)) := by
 refine calls_b (args := [v0, (.int .i64 x1), (.int .i64 x2), (.pointer (some ⟨b3, 0, none⟩)), (.func (.func 58) #[] #[])]) (N := 32) [.tmp 10, .tmp 11] Tryz.func206 rfl rfl (Nat.le_of_ble_eq_true rfl) rfl fun a f => ?_
 unfold D.U at hd
 refine k_seq (k_region ?_)
 refine l_as f rfl rfl fun a f => l_as f rfl rfl fun a f => l_nil (k_seq (k_seq ?_))
 refine k_draw 11 Follows (by kernel_rfl) m ?_
 refine q_mv 0 11 rfl (by kernel_rfl) f rfl rfl rfl fun a f => q_mv 1 11 rfl (by kernel_rfl) f rfl rfl rfl fun a f => q_mv 2 11 rfl (by kernel_rfl) f rfl rfl rfl fun a f => ?_
 obtain ⟨aa, ab, hd⟩ := bind_some hd
 refine q_own_at (i := 3) 11 0 m o0 rfl T22 ab rfl (by kernel_rfl) rfl f rfl rfl rfl rfl fun ac a ad f => q_own_load (i := 4) 11 0 o0 rfl Pl42 ad ab rfl (by kernel_rfl) rfl f rfl rfl rfl fun ae a af f => q_mv 5 11 rfl (by kernel_rfl) f rfl rfl rfl fun a f => q_mv 6 11 rfl (by kernel_rfl) f rfl rfl rfl fun a f => ?_
 obtain ⟨ag, ah, hd⟩ := bind_some hd
 refine q_own_at (i := 7) 11 0 m o0 rfl T22 ah rfl (by kernel_rfl) rfl f rfl rfl rfl rfl fun ai a aj f => q_own_load (i := 8) 11 0 o0 rfl Pl42 aj ah rfl (by kernel_rfl) rfl f rfl rfl rfl fun ak a al f => ?_
 obtain ⟨am, an, hd⟩ := bind_some hd
 refine q_callv (i := 9) 11 rfl (by kernel_rfl) rfl f rfl rfl rfl rfl Tryz.call58 (fun _ _ w ao m => Wk.b m (rd1 ao (af.2)) (rd1 ao (al.2)) an) fun a f => q_p 10 11 rfl (by kernel_rfl) f rfl rfl rfl (fun _ => r_int (f.eval rfl) (f.eval rfl) b_lss) fun a f => q_end fun ap w aq m => ?_
 have af := (RTg.mono (RI.mono _)) _ _ _ _ aq af
 have al := (RTg.mono (RI.mono _)) _ _ _ _ aq al
 have o0 := Ow.mono (RTg.mono (RI.mono _)) aq o0
 refine l_nil ?_
 rcases cond_some hd with ⟨ar, hd⟩ | ⟨ar, hd⟩
 ·refine k_true f rfl ar ?_
  refine k_seq (k_region ?_)
  refine l_mv f rfl rfl fun a f => l_op f rfl rfl rfl (r_nilCheck (f.eval rfl)) fun a f => l_boxCell 1 0 m Pl3 f rfl rfl rfl rfl fun a f => l_in f rfl rfl rfl b_add fun a f => l_op f rfl rfl rfl (r_nilCheck (f.eval rfl)) fun a f => l_boxStore 1 0 (ds := [(.int .i64 (IntKind.i64.wrap (x3_0 + 1)))]) m Tryz.sizeOf3 f rfl rfl rfl (ones_cons rfl ones_nil) rfl (Nat.le_of_ble_eq_true rfl) rfl fun w m => l_nil (k_seq (k_region ?_))
  refine l_mv f rfl rfl fun a f => l_mv f rfl rfl fun a f => l_as f rfl rfl fun a f => l_as f rfl rfl fun a f => l_nil ?_
  refine k_ret ?_
  obtain rfl := sj hd
  exact ⟨[(.int .i64 x2), (.int .i64 x1)], ⟨f.get _ _ rfl, f.get _ _ rfl, trivial⟩, f.defers, _, [it0, Itm.box b3 3 [(.int .i64 (IntKind.i64.wrap (x3_0 + 1)))]], aq, m, _, rfl, rfl, o0⟩
 ·refine k_false f rfl ar ?_
  refine k_skip ?_
  refine k_seq (k_region ?_)
  refine l_mv f rfl rfl fun a f => l_mv f rfl rfl fun a f => l_as f rfl rfl fun a f => l_as f rfl rfl fun a f => l_nil ?_
  refine k_ret ?_
  obtain rfl := sj hd
  exact ⟨[(.int .i64 x1), (.int .i64 x2)], ⟨f.get _ _ rfl, f.get _ _ rfl, trivial⟩, f.defers, _, [it0, Itm.box b3 3 [(.int .i64 x3_0)]], aq, m, _, rfl, rfl, o0⟩

theorem Wk.w0 {W w : World} {G : GH} {H : List Itm} {v0 : Value} {it0 : Itm} {b4 : Nat} {x0 : (List (Value × List Int))} {x1 : Int} {x2 : Int} {x3 : Int} {x4_0 : Int} (m : Mem W G w (it0 :: Itm.box b4 3 [(.int .i64 x4_0)] :: H)) (o0 : Ow (RTg (RI .i64)) 42 G it0 v0 x0) {y : Int × ((List (Value × List Int))) × Int} (hd : D.w0 x0 x1 x2 x3 x4_0 = some y) :
  Calls Tryz.prog 193 #[v0, (.int .i64 x1), (.int .i64 x2), (.int .i64 x3), (.pointer (some ⟨b4, 0, none⟩)), (.func (.func 58) #[] #[])] w (Res W G H (fun G' Ho v => ∃ i0 : Itm, Ho = [i0, Itm.box b4 3 [(.int .i64 y.2.2)]] ∧ v = (.int .i64 y.1) ∧ Ow (RTg (RI .i64)) 42 G' i0 v0 y.2.1)) := by
 refine calls_b (args := [v0, (.int .i64 x1), (.int .i64 x2), (.int .i64 x3), (.pointer (some ⟨b4, 0, none⟩)), (.func (.func 58) #[] #[])]) (N := 41) [.tmp 12] Tryz.func193 rfl rfl (Nat.le_of_ble_eq_true rfl) rfl fun a f => ?_
 unfold D.w0 at hd
 refine k_seq (k_region ?_)
 refine l_as f rfl rfl fun a f => l_nil (k_seq (k_region ?_))
 refine l_mv f rfl rfl fun a f => l_mv f rfl rfl fun a f => l_mv f rfl rfl fun a f => l_mv f rfl rfl fun a f => l_mv f rfl rfl fun a f => ?_
 obtain ⟨aa, ab, hd⟩ := bind_some hd
 refine l_res f rfl rfl Tryz.call206 (Wk.U m o0 ab) fun ac ad ae w af m ag a f => ?_
 obtain ⟨ah, rfl, rfl, ai⟩ := ag
 refine l_mv f rfl rfl fun a f => l_op f rfl rfl rfl (r_extract (f.eval rfl) rfl) fun a f => l_op f rfl rfl rfl (r_extract (f.eval rfl) rfl) fun a f => l_as f rfl rfl fun a f => l_as f rfl rfl fun a f => l_nil (k_seq (k_region ?_))
 refine l_mv f rfl rfl fun a f => l_mv f rfl rfl fun a f => l_mv f rfl rfl fun a f => l_mv f rfl rfl fun a f => l_mv f rfl rfl fun a f => ?_
 obtain ⟨aj, ak, hd⟩ := bind_some hd
 refine l_res f rfl rfl Tryz.call206 (Wk.U m ai ak) fun al am an w ao m ap a f => ?_
 obtain ⟨aq, rfl, rfl, ar⟩ := ap
 refine l_mv f rfl rfl fun a f => l_op f rfl rfl rfl (r_extract (f.eval rfl) rfl) fun a f => l_op f rfl rfl rfl (r_extract (f.eval rfl) rfl) fun a f => l_as f rfl rfl fun a f => l_as f rfl rfl fun a f => l_nil (k_seq (k_region ?_))
 refine l_mv f rfl rfl fun a f => l_mv f rfl rfl fun a f => l_mv f rfl rfl fun a f => l_mv f rfl rfl fun a f => l_mv f rfl rfl fun a f => ?_
 obtain ⟨au, av, hd⟩ := bind_some hd
 refine l_res f rfl rfl Tryz.call206 (Wk.U m ar av) fun aw ax ay w az m aA a f => ?_
 obtain ⟨aB, rfl, rfl, aC⟩ := aA
 refine l_mv f rfl rfl fun a f => l_op f rfl rfl rfl (r_extract (f.eval rfl) rfl) fun a f => l_op f rfl rfl rfl (r_extract (f.eval rfl) rfl) fun a f => l_as f rfl rfl fun a f => l_as f rfl rfl fun a f => l_nil (k_seq (k_region ?_))
 refine l_mv f rfl rfl fun a f => l_as f rfl rfl fun a f => l_nil ?_
 refine k_ret ?_
 obtain rfl := sj hd
 exact ⟨[(.int .i64 au.2.1)], ⟨f.get _ _ rfl, trivial⟩, f.defers, _, [aB, Itm.box b4 3 [(.int .i64 au.2.2.2)]], (GLe.trans af (GLe.trans ao az)), m, _, rfl, rfl, aC⟩

theorem Wk.Q {W w : World} {G : GH} {H : List Itm} {v0 : Value} {it0 : Itm} {b2 : Nat} {x0 : (List (Value × List Int))} {x1 : Int} {x2_0 : Int} (m : Mem W G w (it0 :: Itm.box b2 3 [(.int .i64 x2_0)] :: H)) (o0 : Ow (RTg (RI .i64)) 42 G it0 v0 x0) {y : Int × ((List (Value × List Int))) × Int} (hd : D.Q x0 x1 x2_0 = some y) :
  Calls Tryz.prog 192 #[v0, (.int .i64 x1), (.pointer (some ⟨b2, 0, none⟩)), (.func (.func 58) #[] #[])] w (Res W G H (fun G' Ho v => ∃ i0 : Itm, Ho = [i0, Itm.box b2 3 [(.int .i64 y.2.2)]] ∧ v = (.int .i64 y.1) ∧ Ow (RTg (RI .i64)) 42 G' i0 v0 y.2.1)) := by
 refine calls_b (args := [v0, (.int .i64 x1), (.pointer (some ⟨b2, 0, none⟩)), (.func (.func 58) #[] #[])]) (N := 18) [.tmp 8] Tryz.func192 rfl rfl (Nat.le_of_ble_eq_true rfl) rfl fun a f => ?_
 unfold D.Q at hd
 refine k_seq (k_region ?_)
 refine l_as f rfl rfl fun a f => l_nil (k_seq (k_region ?_))
 refine l_mv f rfl rfl fun a f => l_mv f rfl rfl fun a f => l_in f rfl rfl rfl b_sub fun a f => l_mv f rfl rfl fun a f => l_mv f rfl rfl fun a f => l_in f rfl rfl rfl b_add fun a f => l_mv f rfl rfl fun a f => l_mv f rfl rfl fun a f => ?_
 obtain ⟨aa, ab, hd⟩ := bind_some hd
 refine l_res f rfl rfl Tryz.call193 (Wk.w0 m o0 ab) fun ac ad ae w af m ag a f => ?_
 obtain ⟨ah, rfl, rfl, ai⟩ := ag
 refine l_as f rfl rfl fun a f => l_nil ?_
 refine k_ret ?_
 obtain rfl := sj hd
 exact ⟨[(.int .i64 aa.1)], ⟨f.get _ _ rfl, trivial⟩, f.defers, _, [ah, Itm.box b2 3 [(.int .i64 aa.2.2)]], af, m, _, rfl, rfl, ai⟩

theorem Wk.e1 {W w : World} {G : GH} {H : List Itm} {v0 : Value} {it0 : Itm} {x0 : (List (Value × List Int))} {x1 : Int} {x2 : Int} (m : Mem W G w (it0 :: H)) (o0 : Ow (RTg (RI .i64)) 42 G it0 v0 x0) {y : Int × Int × ((List (Value × List Int)))} (hd : D.e1 x0 x1 x2 = some y) :
  Calls Tryz.prog 157 #[v0, (.int .i64 x1), (.int .i64 x2), (.func (.func 58) #[] #[])] w (Res W G H (fun G' Ho v => ∃ i0 : Itm, Ho = [i0] ∧ v = .tuple #[(.int .i64 y.1), (.int .i64 y.2.1)] ∧ Ow (RTg (RI .i64)) 42 G' i0 v0 y.2.2)) := by
 refine calls_b (args := [v0, (.int .i64 x1), (.int .i64 x2), (.func (.func 58) #[] #[])]) (N := 63) [.tmp 8, .tmp 9] Tryz.func157 rfl rfl (Nat.le_of_ble_eq_true rfl) rfl fun a f => ?_
 unfold D.e1 at hd
 refine k_seq (k_region ?_)
 refine l_as f rfl rfl fun a f => l_as f rfl rfl fun a f => l_nil (k_seq (k_region ?_))
 refine l_mv f rfl rfl fun a f => l_mv f rfl rfl fun a f => l_in f rfl rfl rfl b_sub fun a f => l_as f rfl rfl fun a f => l_nil (k_seq (k_region ?_))
 refine l_alloc (cs := [(.int .i64 0)]) Tryz.zeroValue3 m f rfl rfl fun aa w a m f => l_nil (k_seq (k_region ?_))
 refine l_mv f rfl rfl fun a f => l_mv f rfl rfl fun a f => l_in f rfl rfl rfl (b_quo rfl) fun a f => l_in f rfl rfl rfl b_mul fun a f => l_in f rfl rfl rfl b_add fun a f => l_as f rfl rfl fun a f => l_nil (k_seq (k_region ?_))
 refine l_mv f rfl rfl fun a f => l_mv f rfl rfl fun a f => l_in f rfl rfl rfl (b_quo rfl) fun a f => l_in f rfl rfl rfl b_mul fun a f => l_in f rfl rfl rfl b_add fun a f => l_as f rfl rfl fun a f => l_nil (k_seq (k_region ?_))
 refine l_mv f rfl rfl fun a f => l_mv f rfl rfl fun a f => l_in f rfl rfl rfl (b_quo rfl) fun a f => l_in f rfl rfl rfl b_mul fun a f => l_in f rfl rfl rfl b_add fun a f => l_as f rfl rfl fun a f => l_nil (k_seq (k_seq (k_region ?_)))
 refine l_mv f rfl rfl fun a f => l_in f rfl rfl rfl b_geq fun a f => l_nil ?_
 rcases cond_some hd with ⟨ab, hd⟩ | ⟨ab, hd⟩
 ·refine k_true f rfl ab ?_
  refine k_seq (k_seq (k_region ?_))
  refine l_mv f rfl rfl fun a f => l_in f rfl rfl rfl b_geq fun a f => l_nil ?_
  obtain ⟨ac, ad, hd⟩ := bind_some hd
  refine k_cut (fun a w => ∃ ae : List (Value × List Int), ∃ af : Int, ∃ ag : Int, ∃ ah : Int, ∃ ai : Int, (ae, af, ag, ah, ai) = ac ∧ ∃ (aj : GH) (ak : Itm), GLe G aj ∧ Fr a 63 [(0, v0), (3, (.func (.func 58) #[] #[])), (11, (.pointer (some ⟨aa, 0, none⟩))), (12, (.int .i64 af)), (13, (.int .i64 ag)), (14, (.int .i64 ah))] ∧ Mem W aj w (Itm.box aa 3 [(.int .i64 ai)] :: ak :: H) ∧ Ow (RTg (RI .i64)) 42 aj ak v0 ae) ?_ ?_
  ·rcases cond_some ad with ⟨al, ad⟩ | ⟨al, ad⟩
   ·refine k_true f rfl al ?_
    refine k_seq (k_region ?_)
    refine l_mv f rfl rfl fun a f => l_mv f rfl rfl fun a f => l_mv f rfl rfl fun a f => ?_
    have m := m.front 1 rfl
    obtain ⟨am, an, ad⟩ := bind_some ad
    refine l_res f rfl rfl Tryz.call192 (Wk.Q m o0 an) fun ao ap aq w ar m au a f => ?_
    obtain ⟨av, rfl, rfl, aw⟩ := au
    refine l_as f rfl rfl fun a f => l_nil (k_seq (k_region ?_))
    refine l_mv f rfl rfl fun a f => l_mv f rfl rfl fun a f => l_mv f rfl rfl fun a f => ?_
    obtain ⟨ax, ay, ad⟩ := bind_some ad
    refine l_res f rfl rfl Tryz.call192 (Wk.Q m aw ay) fun az aA aB w aC m aD a f => ?_
    obtain ⟨aE, rfl, rfl, aF⟩ := aD
    refine l_as f rfl rfl fun a f => l_nil (k_region ?_)
    refine l_mv f rfl rfl fun a f => l_mv f rfl rfl fun a f => l_mv f rfl rfl fun a f => ?_
    obtain ⟨aG, aH, ad⟩ := bind_some ad
    refine l_res f rfl rfl Tryz.call192 (Wk.Q m aF aH) fun aI aJ aK w aL m aM a f => ?_
    obtain ⟨aN, rfl, rfl, aO⟩ := aM
    refine l_as f rfl rfl fun a f => l_nil ?_
    have m := m.front 1 rfl
    obtain rfl := sj ad
    exact ⟨_, _, _, _, _, rfl, _, aN, (GLe.trans ar (GLe.trans aC aL)), f.weak ⟨rfl, rfl, rfl, rfl, rfl, rfl, trivial⟩, m, aO⟩
   ·refine k_false f rfl al ?_
    refine k_skip ?_
    obtain rfl := sj ad
    exact ⟨_, _, _, _, _, rfl, _, it0, (GLe.refl _), f.weak ⟨rfl, rfl, rfl, rfl, rfl, rfl, trivial⟩, m, o0⟩
  ·rintro a w ⟨ae, af, ag, ah, ai, rfl, aj, ak, aP, f, m, aQ⟩
   refine k_region ?_
   refine l_mv f rfl rfl fun a f => l_mv f rfl rfl fun a f => l_mv f rfl rfl fun a f => l_mv f rfl rfl fun a f => l_mv f rfl rfl fun a f => ?_
   have m := m.front 1 rfl
   obtain ⟨aR, aS, hd⟩ := bind_some hd
   refine l_res f rfl rfl Tryz.call193 (Wk.w0 m aQ aS) fun aT aU aV w aW m aX a f => ?_
   obtain ⟨aY, rfl, rfl, aZ⟩ := aX
   refine l_as f rfl rfl fun a f => l_nil (k_seq (k_region ?_))
   refine l_boxCell 1 0 m Pl3 f rfl rfl rfl rfl fun a f => l_nil (k_block (k_seq (k_region ?_)))
   refine l_in f rfl rfl rfl b_eql fun a f => l_as f rfl rfl fun a f => l_nil ?_
   rcases cond_some hd with ⟨a0, hd⟩ | ⟨a0, hd⟩
   ·refine k_true f rfl a0 ?_
    refine k_seq (k_region ?_)
    refine l_mv f rfl rfl fun a f => l_as f rfl rfl fun a f => l_as f rfl rfl fun a f => l_nil ?_
    refine k_ret ?_
    have m := m.eraseAt 1
    obtain rfl := sj hd
    exact ⟨[(.int .i64 aR.1), (.int .i64 1)], ⟨f.get _ _ rfl, f.get _ _ rfl, trivial⟩, f.defers, _, [aY], (GLe.trans aP aW), m, _, rfl, rfl, aZ⟩
   ·refine k_false f rfl a0 ?_
    refine k_seq (k_region ?_)
    refine l_in f rfl rfl rfl b_eql fun a f => l_as f rfl rfl fun a f => l_nil ?_
    rcases cond_some hd with ⟨a1, hd⟩ | ⟨a1, hd⟩
    ·refine k_true f rfl a1 ?_
     refine k_seq (k_region ?_)
     refine l_mv f rfl rfl fun a f => l_as f rfl rfl fun a f => l_as f rfl rfl fun a f => l_nil ?_
     refine k_ret ?_
     have m := m.eraseAt 1
     obtain rfl := sj hd
     exact ⟨[(.int .i64 aR.1), (.int .i64 2)], ⟨f.get _ _ rfl, f.get _ _ rfl, trivial⟩, f.defers, _, [aY], (GLe.trans aP aW), m, _, rfl, rfl, aZ⟩
    ·refine k_false f rfl a1 ?_
     refine k_seq (k_region ?_)
     refine l_mv f rfl rfl fun a f => l_as f rfl rfl fun a f => l_as f rfl rfl fun a f => l_nil ?_
     refine k_ret ?_
     have m := m.eraseAt 1
     obtain rfl := sj hd
     exact ⟨[(.int .i64 aR.1), (.int .i64 0)], ⟨f.get _ _ rfl, f.get _ _ rfl, trivial⟩, f.defers, _, [aY], (GLe.trans aP aW), m, _, rfl, rfl, aZ⟩
 ·refine k_false f rfl ab ?_
  refine k_skip ?_
  refine k_seq (k_region ?_)
  refine l_boxCell 0 0 m Pl3 f rfl rfl rfl rfl fun a f => l_nil (k_block (k_seq (k_region ?_)))
  refine l_in f rfl rfl rfl b_eql fun a f => l_as f rfl rfl fun a f => l_nil ?_
  rcases cond_some hd with ⟨a2, hd⟩ | ⟨a2, hd⟩
  ·refine k_true f rfl a2 ?_
   refine k_seq (k_region ?_)
   refine l_mv f rfl rfl fun a f => l_as f rfl rfl fun a f => l_as f rfl rfl fun a f => l_nil ?_
   refine k_ret ?_
   have m := m.front 1 rfl
   have m := m.eraseAt 1
   obtain rfl := sj hd
   exact ⟨[(.int .i64 (IntKind.i64.wrap (x1 + (IntKind.i64.wrap ((IntKind.i64.wrap (Int.tdiv (IntKind.i64.wrap (x2 - x1)) 4)) * 2))))), (.int .i64 1)], ⟨f.get _ _ rfl, f.get _ _ rfl, trivial⟩, f.defers, _, [it0], (GLe.refl _), m, _, rfl, rfl, o0⟩
  ·refine k_false f rfl a2 ?_
   refine k_seq (k_region ?_)
   refine l_in f rfl rfl rfl b_eql fun a f => l_as f rfl rfl fun a f => l_nil ?_
   rcases cond_some hd with ⟨a3, hd⟩ | ⟨a3, hd⟩
   ·refine k_true f rfl a3 ?_
    refine k_seq (k_region ?_)
    refine l_mv f rfl rfl fun a f => l_as f rfl rfl fun a f => l_as f rfl rfl fun a f => l_nil ?_
    refine k_ret ?_
    have m := m.front 1 rfl
    have m := m.eraseAt 1
    obtain rfl := sj hd
    exact ⟨[(.int .i64 (IntKind.i64.wrap (x1 + (IntKind.i64.wrap ((IntKind.i64.wrap (Int.tdiv (IntKind.i64.wrap (x2 - x1)) 4)) * 2))))), (.int .i64 2)], ⟨f.get _ _ rfl, f.get _ _ rfl, trivial⟩, f.defers, _, [it0], (GLe.refl _), m, _, rfl, rfl, o0⟩
   ·refine k_false f rfl a3 ?_
    refine k_seq (k_region ?_)
    refine l_mv f rfl rfl fun a f => l_as f rfl rfl fun a f => l_as f rfl rfl fun a f => l_nil ?_
    refine k_ret ?_
    have m := m.front 1 rfl
    have m := m.eraseAt 1
    obtain rfl := sj hd
    exact ⟨[(.int .i64 (IntKind.i64.wrap (x1 + (IntKind.i64.wrap ((IntKind.i64.wrap (Int.tdiv (IntKind.i64.wrap (x2 - x1)) 4)) * 2))))), (.int .i64 0)], ⟨f.get _ _ rfl, f.get _ _ rfl, trivial⟩, f.defers, _, [it0], (GLe.refl _), m, _, rfl, rfl, o0⟩

theorem Wk.W0 {W w : World} {G : GH} {H : List Itm} {v0 : Value} {it0 : Itm} {x0 : (List (Value × List Int))} {x1 : Int} {x2 : Int} (m : Mem W G w (it0 :: H)) (o0 : Ow (RTg (RI .i64)) 42 G it0 v0 x0) {y : ((List (Value × List Int)))} (hd : D.W0 x0 x1 x2 = some y) :
  Calls Tryz.prog 158 #[v0, (.int .i64 x1), (.int .i64 x2), (.func (.func 58) #[] #[])] w (Res W G H (fun G' Ho _ => ∃ i0 : Itm, Ho = [i0] ∧ Ow (RTg (RI .i64)) 42 G' i0 v0 y)) := by
 refine calls_b (args := [v0, (.int .i64 x1), (.int .i64 x2), (.func (.func 58) #[] #[])]) (N := 34) [] Tryz.func158 rfl rfl (Nat.le_of_ble_eq_true rfl) rfl fun a f => ?_
 unfold D.W0 at hd
 refine k_seq (k_region ?_)
 refine l_mv f rfl rfl fun a f => l_as f rfl rfl fun a f => l_nil (k_seq (k_region ?_))
 refine l_mv f rfl rfl fun a f => l_in f rfl rfl rfl b_sub fun a f => l_as f rfl rfl fun a f => l_nil ?_
 obtain ⟨aa, ab, hd⟩ := bind_some hd
 refine k_cut (fun a w => ∃ ac : List (Value × List Int), ac = aa ∧ ∃ (ad : GH) (ae : Itm), GLe G ad ∧ Fr a 34 [] ∧ Mem W ad w (ae :: H) ∧ Ow (RTg (RI .i64)) 42 ad ae v0 ac) ?_ ?_
 ·refine k_block ?_
  refine k_loop (fun af a w => ∃ ag : List (Value × List Int), ∃ ah : Int, ∃ ai : Int, (ag, ah, ai) = af ∧ ∃ (aj : GH) (ak : Itm), GLe G aj ∧ Fr a 34 [(0, v0), (8, (.int .i64 ah)), (9, (.int .i64 ai))] ∧ Mem W aj w (ak :: H) ∧ Ow (RTg (RI .i64)) 42 aj ak v0 ag) ab ⟨_, _, _, rfl, _, it0, (GLe.refl _), f.weak ⟨rfl, rfl, rfl, trivial⟩, m, o0⟩ ?_
  clear ab f m
  rintro af al am an a w ⟨ag, ah, ai, rfl, aj, ak, ao, f, m, ap⟩
  refine k_seq (k_seq (k_region ?_))
  refine l_mv f rfl rfl fun a f => l_mv f rfl rfl fun a f => l_in f rfl rfl rfl b_lss fun a f => l_nil ?_
  rcases cond_some am with ⟨aq, am⟩ | ⟨aq, am⟩
  ·refine k_true f rfl aq ?_
   refine k_skip ?_
   refine k_block (k_seq ?_)
   refine k_draw0 Follows m ?_
   refine p_p 2 rfl (by kernel_rfl) f rfl rfl rfl (fun _ => r_move (f.eval rfl)) fun a f => p_p 3 rfl (by kernel_rfl) f rfl rfl rfl (fun _ => r_move (f.eval rfl)) fun a f => k_draw1 12013 11 (by kernel_rfl) rfl ?_
   refine q_mv 0 12013 rfl (by kernel_rfl) f rfl rfl rfl fun a f => q_mv 1 12013 rfl (by kernel_rfl) f rfl rfl rfl fun a f => q_mv 4 12013 rfl (by kernel_rfl) f rfl rfl rfl fun a f => q_mv 5 12013 rfl (by kernel_rfl) f rfl rfl rfl fun a f => ?_
   obtain ⟨ar, au, am⟩ := bind_some am
   refine q_own_at (i := 6) 12013 0 m ap rfl T22 au rfl (by kernel_rfl) rfl f rfl rfl rfl rfl fun av a aw f => q_own_load (i := 7) 12013 0 ap rfl Pl42 aw au rfl (by kernel_rfl) rfl f rfl rfl rfl fun ax a ay f => q_mv 8 12013 rfl (by kernel_rfl) f rfl rfl rfl fun a f => q_mv 9 12013 rfl (by kernel_rfl) f rfl rfl rfl fun a f => ?_
   obtain ⟨az, aA, am⟩ := bind_some am
   refine q_own_at (i := 10) 12013 0 m ap rfl T22 aA rfl (by kernel_rfl) rfl f rfl rfl rfl rfl fun aB a aC f => q_own_load (i := 11) 12013 0 ap rfl Pl42 aC aA rfl (by kernel_rfl) rfl f rfl rfl rfl fun aD a aE f => ?_
   obtain ⟨aF, aG, am⟩ := bind_some am
   refine q_own_at (i := 12) 12013 0 m ap rfl T22 aG rfl (by kernel_rfl) rfl f rfl rfl rfl rfl fun aH a aI f => q_end fun aJ w aK m => ?_
   have ay := (RTg.mono (RI.mono _)) _ _ _ _ aK ay
   have aE := (RTg.mono (RI.mono _)) _ _ _ _ aK aE
   have ap := Ow.mono (RTg.mono (RI.mono _)) aK ap
   refine l_own_store 0 m ap rfl Tryz.sizeOf42 f rfl rfl aI aG ay.cells ay.one1 ay fun aL w m aM => ?_
   obtain ⟨aN, aO, am⟩ := bind_some am
   refine l_own_at 0 m aM rfl T22 f rfl rfl rfl aO fun aP a aQ f => l_own_store 0 m aM rfl Tryz.sizeOf42 f rfl rfl aQ aO aE.cells aE.one1 aE fun aR w m aS => l_nil (k_seq (k_region ?_))
   refine l_mv f rfl rfl fun a f => l_in f rfl rfl rfl b_add fun a f => l_as f rfl rfl fun a f => l_nil (k_region ?_)
   refine l_mv f rfl rfl fun a f => l_in f rfl rfl rfl b_sub fun a f => l_as f rfl rfl fun a f => l_nil ?_
   obtain rfl := sj am
   exact ⟨_, rfl, _, _, _, rfl, _, aR, (GLe.trans ao aK), f.weak ⟨rfl, rfl, rfl, trivial⟩, m, aS⟩
  ·refine k_false f rfl aq ?_
   refine k_exit rfl ?_
   obtain rfl := sj am
   obtain rfl := an _ rfl
   exact ⟨_, rfl, _, ak, ao, f.weak trivial, m, ap⟩
 ·rintro a w ⟨ac, rfl, ad, ae, aT, f, m, aU⟩
  obtain rfl := sj hd
  exact ⟨[], trivial, f.defers, _, [ae], aT, m, _, rfl, aU⟩

theorem Wk.N0 {W w : World} {G : GH} {H : List Itm} {v0 : Value} {it0 : Itm} {x0 : (List (Value × List Int))} {x1 : Int} {x2 : Int} (m : Mem W G w (it0 :: H)) (o0 : Ow (RTg (RI .i64)) 42 G it0 v0 x0) {y : Bool × ((List (Value × List Int)))} (hd : D.N0 x0 x1 x2 = some y) :
  Calls Tryz.prog 159 #[v0, (.int .i64 x1), (.int .i64 x2), (.func (.func 58) #[] #[])] w (Res W G H (fun G' Ho v => ∃ i0 : Itm, Ho = [i0] ∧ v = (.bool y.1) ∧ Ow (RTg (RI .i64)) 42 G' i0 v0 y.2)) := by
 refine calls_b (args := [v0, (.int .i64 x1), (.int .i64 x2), (.func (.func 58) #[] #[])]) (N := 141) [.tmp 8] Tryz.func159 rfl rfl (Nat.le_of_ble_eq_true rfl) rfl fun a f => ?_
 unfold D.N0 at hd
 refine k_seq (k_region ?_)
 refine l_as f rfl rfl fun a f => l_nil (k_seq (k_region ?_))
 refine l_mv f rfl rfl fun a f => l_in f rfl rfl rfl b_add fun a f => l_as f rfl rfl fun a f => l_nil (k_seq (k_seq (k_region ?_)))
 refine l_as f rfl rfl fun a f => l_nil ?_
 obtain ⟨aa, ab, hd⟩ := bind_some hd
 refine k_cut (fun a w => ∃ q_1621' : (List (Value × List Int)), aa = .inl q_1621' ∧ ∃ ac : List (Value × List Int), ac = q_1621' ∧ ∃ (ad : GH) (ae : Itm), GLe G ad ∧ Fr a 141 [] ∧ Mem W ad w (ae :: H) ∧ Ow (RTg (RI .i64)) 42 ad ae v0 ac) ?_ ?_
 ·refine k_block ?_
  refine k_loop (fun af a w => ∃ ag : List (Value × List Int), ∃ ah : Int, ∃ ai : Int, (ag, ah, ai) = af ∧ ∃ (aj : GH) (ak : Itm), GLe G aj ∧ Fr a 141 [(0, v0), (1, (.int .i64 x1)), (2, (.int .i64 x2)), (3, (.func (.func 58) #[] #[])), (9, (.int .i64 ah)), (10, (.int .i64 ai))] ∧ Mem W aj w (ak :: H) ∧ Ow (RTg (RI .i64)) 42 aj ak v0 ag) ab ⟨_, _, _, rfl, _, it0, (GLe.refl _), f.weak ⟨rfl, rfl, rfl, rfl, rfl, rfl, trivial⟩, m, o0⟩ ?_
  clear ab f m
  rintro af al am an a w ⟨ag, ah, ai, rfl, aj, ak, ao, f, m, ap⟩
  refine k_seq (k_seq (k_region ?_))
  refine l_mv f rfl rfl fun a f => l_in f rfl rfl rfl b_lss fun a f => l_nil ?_
  rcases cond_some am with ⟨aq, am⟩ | ⟨aq, am⟩
  ·refine k_true f rfl aq ?_
   refine k_skip ?_
   refine k_seq (k_block (k_seq ?_))
   obtain ⟨ar, au, am⟩ := bind_some am
   refine k_cut (fun a w => ∃ av : Int, av = ar ∧ ∃ (aw : GH), GLe aj aw ∧ Fr a 141 [(0, v0), (1, (.int .i64 x1)), (2, (.int .i64 x2)), (3, (.func (.func 58) #[] #[])), (9, (.int .i64 av)), (10, (.int .i64 ai))] ∧ Mem W aw w (ak :: H)) ?_ ?_
   ·refine k_block ?_
    refine k_loop (fun ax a w => ∃ ay : Int, ay = ax ∧ ∃ (az : GH), GLe aj az ∧ Fr a 141 [(0, v0), (1, (.int .i64 x1)), (2, (.int .i64 x2)), (3, (.func (.func 58) #[] #[])), (9, (.int .i64 ay)), (10, (.int .i64 ai))] ∧ Mem W az w (ak :: H)) au ⟨_, rfl, _, (GLe.refl _), f.weak ⟨rfl, rfl, rfl, rfl, rfl, rfl, trivial⟩, m⟩ ?_
    clear au f m
    rintro ax aA aB aC a w ⟨ay, rfl, az, aD, f, m⟩
    have ap := Ow.mono (RTg.mono (RI.mono _)) aD ap
    refine k_seq (k_seq ?_)
    refine k_draw 18 Follows (by kernel_rfl) m ?_
    refine q_mv 0 18 rfl (by kernel_rfl) f rfl rfl rfl fun a f => q_mv 1 18 rfl (by kernel_rfl) f rfl rfl rfl fun a f => q_p 2 18 rfl (by kernel_rfl) f rfl rfl rfl (fun _ => r_int (f.eval rfl) (f.eval rfl) b_lss) fun a f => q_mv 3 18 rfl (by kernel_rfl) f rfl rfl rfl fun a f => ?_
    obtain ⟨aE, aF, aB⟩ := bind_some aB
    refine q_cut (fuel' := 0) (listed' := #[true, true, true, true, true, true, true, true, true, true, true, true, true, true, true, true, true, true]) (fun a => Fr a 141 [(0, v0), (1, (.int .i64 x1)), (2, (.int .i64 x2)), (3, (.func (.func 58) #[] #[])), (9, (.int .i64 ay)), (10, (.int .i64 ai)), (19, (.int .i64 ay)), (20, (.int .i64 x2)), (21, (.bool (decide (ay < x2)))), (22, (.bool (decide (ay < x2)))), (36, (.bool aE))]) ?_ ?_
    ·intro a f
     refine q_end fun aG w aH m => ?_
     have ap := Ow.mono (RTg.mono (RI.mono _)) aH ap
     refine l_nil ?_
     rcases cond_some aB with ⟨aI, aB⟩ | ⟨aI, aB⟩
     ·refine k_true f rfl aI ?_
      refine k_skip ?_
      refine k_block (k_region ?_)
      refine l_mv f rfl rfl fun a f => l_in f rfl rfl rfl b_add fun a f => l_as f rfl rfl fun a f => l_nil ?_
      obtain rfl := sj aB
      exact ⟨_, rfl, _, rfl, _, (GLe.trans aD aH), f.weak ⟨rfl, rfl, rfl, rfl, rfl, rfl, trivial⟩, m⟩
     ·refine k_false f rfl aI ?_
      refine k_exit rfl ?_
      obtain rfl := sj aB
      obtain rfl := aC _ rfl
      exact ⟨_, rfl, _, (GLe.trans aD aH), f.weak ⟨rfl, rfl, rfl, rfl, rfl, rfl, trivial⟩, m⟩
    ·intro aJ
     rcases cond_some aF with ⟨aK, aF⟩ | ⟨aK, aF⟩
     ·refine q_mv 4 18 rfl (by kernel_rfl) f (wanted_of f rfl rfl rfl aK) rfl rfl fun a f => ?_
      refine q_mv 5 18 rfl (by kernel_rfl) f (wanted_of f rfl rfl rfl aK) rfl rfl fun a f => q_mv 6 18 rfl (by kernel_rfl) f (wanted_of f rfl rfl rfl aK) rfl rfl fun a f => ?_
      obtain ⟨aL, aM, aF⟩ := bind_some aF
      refine q_own_at (i := 7) 18 0 m ap rfl T22 aM rfl (by kernel_rfl) rfl f (wanted_of f rfl rfl rfl aK) rfl rfl rfl fun aN a aO f => q_own_load (i := 8) 18 0 ap rfl Pl42 aO aM rfl (by kernel_rfl) rfl f (wanted_of f rfl rfl rfl aK) rfl rfl fun aP a aQ f => q_mv 9 18 rfl (by kernel_rfl) f (wanted_of f rfl rfl rfl aK) rfl rfl fun a f => q_mv 10 18 rfl (by kernel_rfl) f (wanted_of f rfl rfl rfl aK) rfl rfl fun a f => q_p 11 18 rfl (by kernel_rfl) f (wanted_of f rfl rfl rfl aK) rfl rfl (fun _ => r_int (f.eval rfl) (f.eval rfl) b_sub) fun a f => ?_
      obtain ⟨aR, aS, aF⟩ := bind_some aF
      refine q_own_at (i := 12) 18 0 m ap rfl T22 aS rfl (by kernel_rfl) rfl f (wanted_of f rfl rfl rfl aK) rfl rfl rfl fun aT a aU f => q_own_load (i := 13) 18 0 ap rfl Pl42 aU aS rfl (by kernel_rfl) rfl f (wanted_of f rfl rfl rfl aK) rfl rfl fun aV a aW f => ?_
      obtain ⟨aX, aY, aF⟩ := bind_some aF
      refine q_callv (i := 14) 18 rfl (by kernel_rfl) rfl f (wanted_of f rfl rfl rfl aK) rfl rfl rfl Tryz.call58 (fun _ _ w aZ m => Wk.b m (rd1 aZ (aQ.2)) (rd1 aZ (aW.2)) aY) fun a f => q_p 15 18 rfl (by kernel_rfl) f (wanted_of f rfl rfl rfl aK) rfl rfl (fun _ => r_int (f.eval rfl) (f.eval rfl) b_lss) fun a f => q_p 16 18 rfl (by kernel_rfl) f (wanted_of f rfl rfl rfl aK) rfl rfl (fun _ => r_not (f.eval rfl)) fun a f => q_p 17 18 rfl (by kernel_rfl) f rfl rfl rfl (fun _ => r_pickT (f.eval rfl) aK (f.eval rfl)) fun a f => ?_
      obtain rfl := sj aF
      exact aJ _ (f.weak ⟨rfl, rfl, rfl, rfl, rfl, rfl, rfl, rfl, rfl, rfl, rfl, trivial⟩)
     ·refine q_ng 4 18 rfl (by kernel_rfl) f rfl rfl aK rfl fun a f => ?_
      refine q_ng 5 18 rfl (by kernel_rfl) f rfl rfl aK rfl fun a f => q_ng 6 18 rfl (by kernel_rfl) f rfl rfl aK rfl fun a f => q_ng 7 18 rfl (by kernel_rfl) f rfl rfl aK rfl fun a f => q_ng 8 18 rfl (by kernel_rfl) f rfl rfl aK rfl fun a f => q_ng 9 18 rfl (by kernel_rfl) f rfl rfl aK rfl fun a f => q_ng 10 18 rfl (by kernel_rfl) f rfl rfl aK rfl fun a f => q_ng 11 18 rfl (by kernel_rfl) f rfl rfl aK rfl fun a f => q_ng 12 18 rfl (by kernel_rfl) f rfl rfl aK rfl fun a f => q_ng 13 18 rfl (by kernel_rfl) f rfl rfl aK rfl fun a f => q_ng 14 18 rfl (by kernel_rfl) f rfl rfl aK rfl fun a f => q_ng 15 18 rfl (by kernel_rfl) f rfl rfl aK rfl fun a f => q_ng 16 18 rfl (by kernel_rfl) f rfl rfl aK rfl fun a f => q_p 17 18 rfl (by kernel_rfl) f rfl rfl rfl (fun _ => r_pickF (f.eval rfl) aK (f.eval rfl)) fun a f => ?_
      obtain rfl := sj aF
      exact aJ _ (f.weak ⟨rfl, rfl, rfl, rfl, rfl, rfl, rfl, rfl, rfl, rfl, rfl, trivial⟩)
   ·rintro a w ⟨av, rfl, aw, a0, f, m⟩
    have ap := Ow.mono (RTg.mono (RI.mono _)) a0 ap
    refine k_seq (k_seq (k_region ?_))
    refine l_mv f rfl rfl fun a f => l_mv f rfl rfl fun a f => l_in f rfl rfl rfl b_eql fun a f => l_nil ?_
    rcases cond_some am with ⟨a1, am⟩ | ⟨a1, am⟩
    ·refine k_true f rfl a1 ?_
     refine k_seq (k_region ?_)
     refine l_as f rfl rfl fun a f => l_nil ?_
     refine k_ret ?_
     obtain rfl := sj am
     obtain rfl := an _ rfl
     obtain rfl := sj hd
     exact ⟨[(.bool true)], ⟨f.get _ _ rfl, trivial⟩, f.defers, _, [ak], (GLe.trans ao a0), m, _, rfl, rfl, ap⟩
    ·refine k_false f rfl a1 ?_
     refine k_skip ?_
     refine k_seq (k_seq (k_region ?_))
     refine l_mv f rfl rfl fun a f => l_mv f rfl rfl fun a f => l_in f rfl rfl rfl b_sub fun a f => l_in f rfl rfl rfl b_lss fun a f => l_nil ?_
     rcases cond_some am with ⟨a2, am⟩ | ⟨a2, am⟩
     ·refine k_true f rfl a2 ?_
      refine k_seq (k_region ?_)
      refine l_as f rfl rfl fun a f => l_nil ?_
      refine k_ret ?_
      obtain rfl := sj am
      obtain rfl := an _ rfl
      obtain rfl := sj hd
      exact ⟨[(.bool false)], ⟨f.get _ _ rfl, trivial⟩, f.defers, _, [ak], (GLe.trans ao a0), m, _, rfl, rfl, ap⟩
     ·refine k_false f rfl a2 ?_
      refine k_skip ?_
      refine k_seq ?_
      refine k_draw0 Follows m ?_
      refine p_p 2 rfl (by kernel_rfl) f rfl rfl rfl (fun _ => r_move (f.eval rfl)) fun a f => p_p 3 rfl (by kernel_rfl) f rfl rfl rfl (fun _ => r_move (f.eval rfl)) fun a f => p_p 4 rfl (by kernel_rfl) f rfl rfl rfl (fun _ => r_int (f.eval rfl) (f.eval rfl) b_sub) fun a f => k_draw1 28015 12 (by kernel_rfl) rfl ?_
      refine q_mv 0 28015 rfl (by kernel_rfl) f rfl rfl rfl fun a f => q_mv 1 28015 rfl (by kernel_rfl) f rfl rfl rfl fun a f => q_mv 5 28015 rfl (by kernel_rfl) f rfl rfl rfl fun a f => q_mv 6 28015 rfl (by kernel_rfl) f rfl rfl rfl fun a f => q_p 7 28015 rfl (by kernel_rfl) f rfl rfl rfl (fun _ => r_int (f.eval rfl) (f.eval rfl) b_sub) fun a f => ?_
      obtain ⟨a3, a4, am⟩ := bind_some am
      refine q_own_at (i := 8) 28015 0 m ap rfl T22 a4 rfl (by kernel_rfl) rfl f rfl rfl rfl rfl fun a5 a a6 f => q_own_load (i := 9) 28015 0 ap rfl Pl42 a6 a4 rfl (by kernel_rfl) rfl f rfl rfl rfl fun a7 a a8 f => q_mv 10 28015 rfl (by kernel_rfl) f rfl rfl rfl fun a f => q_mv 11 28015 rfl (by kernel_rfl) f rfl rfl rfl fun a f => ?_
      obtain ⟨a9, ba, am⟩ := bind_some am
      refine q_own_at (i := 12) 28015 0 m ap rfl T22 ba rfl (by kernel_rfl) rfl f rfl rfl rfl rfl fun bb a bc f => q_own_load (i := 13) 28015 0 ap rfl Pl42 bc ba rfl (by kernel_rfl) rfl f rfl rfl rfl fun bd a be f => ?_
      obtain ⟨bf, bg, am⟩ := bind_some am
      refine q_own_at (i := 14) 28015 0 m ap rfl T22 bg rfl (by kernel_rfl) rfl f rfl rfl rfl rfl fun bh a bi f => q_end fun bj w bk m => ?_
      have a8 := (RTg.mono (RI.mono _)) _ _ _ _ bk a8
      have be := (RTg.mono (RI.mono _)) _ _ _ _ bk be
      have ap := Ow.mono (RTg.mono (RI.mono _)) bk ap
      refine l_own_store 0 m ap rfl Tryz.sizeOf42 f rfl rfl bi bg a8.cells a8.one1 a8 fun bl w m bm => ?_
      obtain ⟨bn, bo, am⟩ := bind_some am
      refine l_own_at 0 m bm rfl T22 f rfl rfl rfl bo fun bp a bq f => l_own_store 0 m bm rfl Tryz.sizeOf42 f rfl rfl bq bo be.cells be.one1 be fun br w m bs => l_nil (k_seq (k_seq (k_region ?_)))
      refine l_mv f rfl rfl fun a f => l_mv f rfl rfl fun a f => l_in f rfl rfl rfl b_sub fun a f => l_in f rfl rfl rfl b_geq fun a f => l_nil ?_
      obtain ⟨bt, bu, am⟩ := bind_some am
      refine k_cut (fun a w => ∃ bv : List (Value × List Int), bv = bt ∧ ∃ (bw : GH) (bx : Itm), GLe bj bw ∧ Fr a 141 [(0, v0), (1, (.int .i64 x1)), (2, (.int .i64 x2)), (3, (.func (.func 58) #[] #[])), (9, (.int .i64 av)), (10, (.int .i64 ai))] ∧ Mem W bw w (bx :: H) ∧ Ow (RTg (RI .i64)) 42 bw bx v0 bv) ?_ ?_
      ·rcases cond_some bu with ⟨bz, bu⟩ | ⟨bz, bu⟩
       ·refine k_true f rfl bz ?_
        refine k_seq (k_region ?_)
        refine l_mv f rfl rfl fun a f => l_in f rfl rfl rfl b_sub fun a f => l_as f rfl rfl fun a f => l_nil ?_
        obtain ⟨bA, bB, bu⟩ := bind_some bu
        refine k_cut (fun a w => ∃ bC : List (Value × List Int), bC = bA ∧ ∃ (bD : GH) (bE : Itm), GLe bj bD ∧ Fr a 141 [(0, v0), (1, (.int .i64 x1)), (2, (.int .i64 x2)), (3, (.func (.func 58) #[] #[])), (9, (.int .i64 av)), (10, (.int .i64 ai))] ∧ Mem W bD w (bE :: H) ∧ Ow (RTg (RI .i64)) 42 bD bE v0 bC) ?_ ?_
        ·refine k_block ?_
         refine k_loop (fun bF a w => ∃ bG : List (Value × List Int), ∃ bH : Int, (bG, bH) = bF ∧ ∃ (bI : GH) (bJ : Itm), GLe bj bI ∧ Fr a 141 [(0, v0), (1, (.int .i64 x1)), (2, (.int .i64 x2)), (3, (.func (.func 58) #[] #[])), (9, (.int .i64 av)), (10, (.int .i64 ai)), (11, (.int .i64 bH))] ∧ Mem W bI w (bJ :: H) ∧ Ow (RTg (RI .i64)) 42 bI bJ v0 bG) bB ⟨_, _, rfl, _, br, (GLe.refl _), f.weak ⟨rfl, rfl, rfl, rfl, rfl, rfl, rfl, trivial⟩, m, bs⟩ ?_
         clear bB f m
         rintro bF bK bL bM a w ⟨bG, bH, rfl, bI, bJ, bN, f, m, bO⟩
         refine k_seq (k_seq (k_region ?_))
         refine l_mv f rfl rfl fun a f => l_in f rfl rfl rfl b_geq fun a f => l_nil ?_
         rcases cond_some bL with ⟨bP, bL⟩ | ⟨bP, bL⟩
         ·refine k_true f rfl bP ?_
          refine k_skip ?_
          refine k_seq (k_block (k_seq (k_seq ?_)))
          refine k_draw 13 Follows (by kernel_rfl) m ?_
          refine q_mv 0 13 rfl (by kernel_rfl) f rfl rfl rfl fun a f => q_mv 1 13 rfl (by kernel_rfl) f rfl rfl rfl fun a f => q_mv 2 13 rfl (by kernel_rfl) f rfl rfl rfl fun a f => ?_
          obtain ⟨bQ, bR, bL⟩ := bind_some bL
          refine q_own_at (i := 3) 13 0 m bO rfl T22 bR rfl (by kernel_rfl) rfl f rfl rfl rfl rfl fun bS a bT f => q_own_load (i := 4) 13 0 bO rfl Pl42 bT bR rfl (by kernel_rfl) rfl f rfl rfl rfl fun bU a bV f => q_mv 5 13 rfl (by kernel_rfl) f rfl rfl rfl fun a f => q_mv 6 13 rfl (by kernel_rfl) f rfl rfl rfl fun a f => q_p 7 13 rfl (by kernel_rfl) f rfl rfl rfl (fun _ => r_int (f.eval rfl) (f.eval rfl) b_sub) fun a f => ?_
          obtain ⟨bW, bX, bL⟩ := bind_some bL
          refine q_own_at (i := 8) 13 0 m bO rfl T22 bX rfl (by kernel_rfl) rfl f rfl rfl rfl rfl fun bY a bZ f => q_own_load (i := 9) 13 0 bO rfl Pl42 bZ bX rfl (by kernel_rfl) rfl f rfl rfl rfl fun b0 a b1 f => ?_
          obtain ⟨b2, b3, bL⟩ := bind_some bL
          refine q_callv (i := 10) 13 rfl (by kernel_rfl) rfl f rfl rfl rfl rfl Tryz.call58 (fun _ _ w b4 m => Wk.b m (rd1 b4 (bV.2)) (rd1 b4 (b1.2)) b3) fun a f => q_p 11 13 rfl (by kernel_rfl) f rfl rfl rfl (fun _ => r_int (f.eval rfl) (f.eval rfl) b_lss) fun a f => q_p 12 13 rfl (by kernel_rfl) f rfl rfl rfl (fun _ => r_not (f.eval rfl)) fun a f => q_end fun b5 w b6 m => ?_
          have bV := (RTg.mono (RI.mono _)) _ _ _ _ b6 bV
          have b1 := (RTg.mono (RI.mono _)) _ _ _ _ b6 b1
          have bO := Ow.mono (RTg.mono (RI.mono _)) b6 bO
          refine l_nil ?_
          rcases cond_some bL with ⟨b7, bL⟩ | ⟨b7, bL⟩
          ·refine k_true f rfl b7 ?_
           refine k_exit rfl ?_
           obtain rfl := sj bL
           obtain rfl := bM _ rfl
           exact ⟨_, rfl, _, bJ, (GLe.trans bN b6), f.weak ⟨rfl, rfl, rfl, rfl, rfl, rfl, trivial⟩, m, bO⟩
          ·refine k_false f rfl b7 ?_
           refine k_skip ?_
           refine k_draw0 Follows m ?_
           refine p_p 2 rfl (by kernel_rfl) f rfl rfl rfl (fun _ => r_move (f.eval rfl)) fun a f => p_p 3 rfl (by kernel_rfl) f rfl rfl rfl (fun _ => r_move (f.eval rfl)) fun a f => p_p 4 rfl (by kernel_rfl) f rfl rfl rfl (fun _ => r_int (f.eval rfl) (f.eval rfl) b_sub) fun a f => k_draw1 28015 12 (by kernel_rfl) rfl ?_
           refine q_mv 0 28015 rfl (by kernel_rfl) f rfl rfl rfl fun a f => q_mv 1 28015 rfl (by kernel_rfl) f rfl rfl rfl fun a f => q_mv 5 28015 rfl (by kernel_rfl) f rfl rfl rfl fun a f => q_mv 6 28015 rfl (by kernel_rfl) f rfl rfl rfl fun a f => q_p 7 28015 rfl (by kernel_rfl) f rfl rfl rfl (fun _ => r_int (f.eval rfl) (f.eval rfl) b_sub) fun a f => ?_
           obtain ⟨b8, b9, bL⟩ := bind_some bL
           refine q_own_at (i := 8) 28015 0 m bO rfl T22 b9 rfl (by kernel_rfl) rfl f rfl rfl rfl rfl fun ca a cb f => q_own_load (i := 9) 28015 0 bO rfl Pl42 cb b9 rfl (by kernel_rfl) rfl f rfl rfl rfl fun cc a cd f => q_mv 10 28015 rfl (by kernel_rfl) f rfl rfl rfl fun a f => q_mv 11 28015 rfl (by kernel_rfl) f rfl rfl rfl fun a f => ?_
           obtain ⟨ce, cf, bL⟩ := bind_some bL
           refine q_own_at (i := 12) 28015 0 m bO rfl T22 cf rfl (by kernel_rfl) rfl f rfl rfl rfl rfl fun cg a ch f => q_own_load (i := 13) 28015 0 bO rfl Pl42 ch cf rfl (by kernel_rfl) rfl f rfl rfl rfl fun ci a cj f => ?_
           obtain ⟨ck, cl, bL⟩ := bind_some bL
           refine q_own_at (i := 14) 28015 0 m bO rfl T22 cl rfl (by kernel_rfl) rfl f rfl rfl rfl rfl fun cm a cn f => q_end fun co w cp m => ?_
           have cd := (RTg.mono (RI.mono _)) _ _ _ _ cp cd
           have cj := (RTg.mono (RI.mono _)) _ _ _ _ cp cj
           have bO := Ow.mono (RTg.mono (RI.mono _)) cp bO
           refine l_own_store 0 m bO rfl Tryz.sizeOf42 f rfl rfl cn cl cd.cells cd.one1 cd fun cq w m cr => ?_
           obtain ⟨cs, ct, bL⟩ := bind_some bL
           refine l_own_at 0 m cr rfl T22 f rfl rfl rfl ct fun cu a cv f => l_own_store 0 m cr rfl Tryz.sizeOf42 f rfl rfl cv ct cj.cells cj.one1 cj fun cw w m cx => l_nil (k_region ?_)
           refine l_mv f rfl rfl fun a f => l_in f rfl rfl rfl b_sub fun a f => l_as f rfl rfl fun a f => l_nil ?_
           obtain rfl := sj bL
           exact ⟨_, rfl, _, _, rfl, _, cw, (GLe.trans bN (GLe.trans b6 cp)), f.weak ⟨rfl, rfl, rfl, rfl, rfl, rfl, rfl, trivial⟩, m, cx⟩
         ·refine k_false f rfl bP ?_
          refine k_exit rfl ?_
          obtain rfl := sj bL
          obtain rfl := bM _ rfl
          exact ⟨_, rfl, _, bJ, bN, f.weak ⟨rfl, rfl, rfl, rfl, rfl, rfl, trivial⟩, m, bO⟩
        ·rintro a w ⟨bC, rfl, bD, bE, cy, f, m, cz⟩
         obtain rfl := sj bu
         exact ⟨_, rfl, _, bE, cy, f.weak ⟨rfl, rfl, rfl, rfl, rfl, rfl, trivial⟩, m, cz⟩
       ·refine k_false f rfl bz ?_
        refine k_skip ?_
        obtain rfl := sj bu
        exact ⟨_, rfl, _, br, (GLe.refl _), f.weak ⟨rfl, rfl, rfl, rfl, rfl, rfl, trivial⟩, m, bs⟩
      ·rintro a w ⟨bv, rfl, bw, bx, cA, f, m, cB⟩
       refine k_seq (k_region ?_)
       refine l_mv f rfl rfl fun a f => l_mv f rfl rfl fun a f => l_in f rfl rfl rfl b_sub fun a f => l_in f rfl rfl rfl b_geq fun a f => l_nil ?_
       rcases cond_some am with ⟨cC, am⟩ | ⟨cC, am⟩
       ·refine k_true f rfl cC ?_
        refine k_seq (k_region ?_)
        refine l_mv f rfl rfl fun a f => l_in f rfl rfl rfl b_add fun a f => l_as f rfl rfl fun a f => l_nil ?_
        obtain ⟨cD, cE, am⟩ := bind_some am
        refine k_cut (fun a w => ∃ cF : List (Value × List Int), cF = cD ∧ ∃ (cG : GH) (cH : Itm), GLe bw cG ∧ Fr a 141 [(0, v0), (1, (.int .i64 x1)), (2, (.int .i64 x2)), (3, (.func (.func 58) #[] #[])), (9, (.int .i64 av)), (10, (.int .i64 ai))] ∧ Mem W cG w (cH :: H) ∧ Ow (RTg (RI .i64)) 42 cG cH v0 cF) ?_ ?_
        ·refine k_block ?_
         refine k_loop (fun cI a w => ∃ cJ : List (Value × List Int), ∃ cK : Int, (cJ, cK) = cI ∧ ∃ (cL : GH) (cM : Itm), GLe bw cL ∧ Fr a 141 [(0, v0), (1, (.int .i64 x1)), (2, (.int .i64 x2)), (3, (.func (.func 58) #[] #[])), (9, (.int .i64 av)), (10, (.int .i64 ai)), (12, (.int .i64 cK))] ∧ Mem W cL w (cM :: H) ∧ Ow (RTg (RI .i64)) 42 cL cM v0 cJ) cE ⟨_, _, rfl, _, bx, (GLe.refl _), f.weak ⟨rfl, rfl, rfl, rfl, rfl, rfl, rfl, trivial⟩, m, cB⟩ ?_
         clear cE f m
         rintro cI cN cO cP a w ⟨cJ, cK, rfl, cL, cM, cQ, f, m, cR⟩
         refine k_seq (k_seq (k_region ?_))
         refine l_mv f rfl rfl fun a f => l_mv f rfl rfl fun a f => l_in f rfl rfl rfl b_lss fun a f => l_nil ?_
         rcases cond_some cO with ⟨cS, cO⟩ | ⟨cS, cO⟩
         ·refine k_true f rfl cS ?_
          refine k_skip ?_
          refine k_seq (k_block (k_seq (k_seq ?_)))
          refine k_draw 13 Follows (by kernel_rfl) m ?_
          refine q_mv 0 13 rfl (by kernel_rfl) f rfl rfl rfl fun a f => q_mv 1 13 rfl (by kernel_rfl) f rfl rfl rfl fun a f => q_mv 2 13 rfl (by kernel_rfl) f rfl rfl rfl fun a f => ?_
          obtain ⟨cT, cU, cO⟩ := bind_some cO
          refine q_own_at (i := 3) 13 0 m cR rfl T22 cU rfl (by kernel_rfl) rfl f rfl rfl rfl rfl fun cV a cW f => q_own_load (i := 4) 13 0 cR rfl Pl42 cW cU rfl (by kernel_rfl) rfl f rfl rfl rfl fun cX a cY f => q_mv 5 13 rfl (by kernel_rfl) f rfl rfl rfl fun a f => q_mv 6 13 rfl (by kernel_rfl) f rfl rfl rfl fun a f => q_p 7 13 rfl (by kernel_rfl) f rfl rfl rfl (fun _ => r_int (f.eval rfl) (f.eval rfl) b_sub) fun a f => ?_
          obtain ⟨cZ, c0, cO⟩ := bind_some cO
          refine q_own_at (i := 8) 13 0 m cR rfl T22 c0 rfl (by kernel_rfl) rfl f rfl rfl rfl rfl fun c1 a c2 f => q_own_load (i := 9) 13 0 cR rfl Pl42 c2 c0 rfl (by kernel_rfl) rfl f rfl rfl rfl fun c3 a c4 f => ?_
          obtain ⟨c5, c6, cO⟩ := bind_some cO
          refine q_callv (i := 10) 13 rfl (by kernel_rfl) rfl f rfl rfl rfl rfl Tryz.call58 (fun _ _ w c7 m => Wk.b m (rd1 c7 (cY.2)) (rd1 c7 (c4.2)) c6) fun a f => q_p 11 13 rfl (by kernel_rfl) f rfl rfl rfl (fun _ => r_int (f.eval rfl) (f.eval rfl) b_lss) fun a f => q_p 12 13 rfl (by kernel_rfl) f rfl rfl rfl (fun _ => r_not (f.eval rfl)) fun a f => q_end fun c8 w c9 m => ?_
          have cY := (RTg.mono (RI.mono _)) _ _ _ _ c9 cY
          have c4 := (RTg.mono (RI.mono _)) _ _ _ _ c9 c4
          have cR := Ow.mono (RTg.mono (RI.mono _)) c9 cR
          refine l_nil ?_
          rcases cond_some cO with ⟨da, cO⟩ | ⟨da, cO⟩
          ·refine k_true f rfl da ?_
           refine k_exit rfl ?_
           obtain rfl := sj cO
           obtain rfl := cP _ rfl
           exact ⟨_, rfl, _, cM, (GLe.trans cQ c9), f.weak ⟨rfl, rfl, rfl, rfl, rfl, rfl, trivial⟩, m, cR⟩
          ·refine k_false f rfl da ?_
           refine k_skip ?_
           refine k_draw0 Follows m ?_
           refine p_p 2 rfl (by kernel_rfl) f rfl rfl rfl (fun _ => r_move (f.eval rfl)) fun a f => p_p 3 rfl (by kernel_rfl) f rfl rfl rfl (fun _ => r_move (f.eval rfl)) fun a f => p_p 4 rfl (by kernel_rfl) f rfl rfl rfl (fun _ => r_int (f.eval rfl) (f.eval rfl) b_sub) fun a f => k_draw1 28015 12 (by kernel_rfl) rfl ?_
           refine q_mv 0 28015 rfl (by kernel_rfl) f rfl rfl rfl fun a f => q_mv 1 28015 rfl (by kernel_rfl) f rfl rfl rfl fun a f => q_mv 5 28015 rfl (by kernel_rfl) f rfl rfl rfl fun a f => q_mv 6 28015 rfl (by kernel_rfl) f rfl rfl rfl fun a f => q_p 7 28015 rfl (by kernel_rfl) f rfl rfl rfl (fun _ => r_int (f.eval rfl) (f.eval rfl) b_sub) fun a f => ?_
           obtain ⟨db, dc, cO⟩ := bind_some cO
           refine q_own_at (i := 8) 28015 0 m cR rfl T22 dc rfl (by kernel_rfl) rfl f rfl rfl rfl rfl fun dd a de f => q_own_load (i := 9) 28015 0 cR rfl Pl42 de dc rfl (by kernel_rfl) rfl f rfl rfl rfl fun df a dg f => q_mv 10 28015 rfl (by kernel_rfl) f rfl rfl rfl fun a f => q_mv 11 28015 rfl (by kernel_rfl) f rfl rfl rfl fun a f => ?_
           obtain ⟨dh, di, cO⟩ := bind_some cO
           refine q_own_at (i := 12) 28015 0 m cR rfl T22 di rfl (by kernel_rfl) rfl f rfl rfl rfl rfl fun dj a dk f => q_own_load (i := 13) 28015 0 cR rfl Pl42 dk di rfl (by kernel_rfl) rfl f rfl rfl rfl fun dl a dm f => ?_
           obtain ⟨dn, dp, cO⟩ := bind_some cO
           refine q_own_at (i := 14) 28015 0 m cR rfl T22 dp rfl (by kernel_rfl) rfl f rfl rfl rfl rfl fun dq a dr f => q_end fun ds w dt m => ?_
           have dg := (RTg.mono (RI.mono _)) _ _ _ _ dt dg
           have dm := (RTg.mono (RI.mono _)) _ _ _ _ dt dm
           have cR := Ow.mono (RTg.mono (RI.mono _)) dt cR
           refine l_own_store 0 m cR rfl Tryz.sizeOf42 f rfl rfl dr dp dg.cells dg.one1 dg fun du w m dv => ?_
           obtain ⟨dw, dx, cO⟩ := bind_some cO
           refine l_own_at 0 m dv rfl T22 f rfl rfl rfl dx fun dy a dz f => l_own_store 0 m dv rfl Tryz.sizeOf42 f rfl rfl dz dx dm.cells dm.one1 dm fun dA w m dB => l_nil (k_region ?_)
           refine l_mv f rfl rfl fun a f => l_in f rfl rfl rfl b_add fun a f => l_as f rfl rfl fun a f => l_nil ?_
           obtain rfl := sj cO
           exact ⟨_, rfl, _, _, rfl, _, dA, (GLe.trans cQ (GLe.trans c9 dt)), f.weak ⟨rfl, rfl, rfl, rfl, rfl, rfl, rfl, trivial⟩, m, dB⟩
         ·refine k_false f rfl cS ?_
          refine k_exit rfl ?_
          obtain rfl := sj cO
          obtain rfl := cP _ rfl
          exact ⟨_, rfl, _, cM, cQ, f.weak ⟨rfl, rfl, rfl, rfl, rfl, rfl, trivial⟩, m, cR⟩
        ·rintro a w ⟨cF, rfl, cG, cH, dC, f, m, dD⟩
         refine k_region ?_
         refine l_mv f rfl rfl fun a f => l_in f rfl rfl rfl b_add fun a f => l_as f rfl rfl fun a f => l_nil ?_
         obtain rfl := sj am
         exact ⟨_, rfl, _, _, _, rfl, _, cH, (GLe.trans ao (GLe.trans a0 (GLe.trans bk (GLe.trans cA dC)))), f.weak ⟨rfl, rfl, rfl, rfl, rfl, rfl, trivial⟩, m, dD⟩
       ·refine k_false f rfl cC ?_
        refine k_skip ?_
        refine k_region ?_
        refine l_mv f rfl rfl fun a f => l_in f rfl rfl rfl b_add fun a f => l_as f rfl rfl fun a f => l_nil ?_
        obtain rfl := sj am
        exact ⟨_, rfl, _, _, _, rfl, _, bx, (GLe.trans ao (GLe.trans a0 (GLe.trans bk cA))), f.weak ⟨rfl, rfl, rfl, rfl, rfl, rfl, trivial⟩, m, cB⟩
  ·refine k_false f rfl aq ?_
   refine k_exit rfl ?_
   obtain rfl := sj am
   obtain rfl := an _ rfl
   exact ⟨_, rfl, _, rfl, _, ak, ao, f.weak trivial, m, ap⟩
 ·rintro a w ⟨_, rfl, ac, rfl, ad, ae, dE, f, m, dF⟩
  refine k_seq (k_region ?_)
  refine l_as f rfl rfl fun a f => l_nil ?_
  refine k_ret ?_
  obtain rfl := sj hd
  exact ⟨[(.bool false)], ⟨f.get _ _ rfl, trivial⟩, f.defers, _, [ae], dE, m, _, rfl, rfl, dF⟩

theorem Wk.R0 {W w : World} {G : GH} {H : List Itm} {v0 : Value} {it0 : Itm} {x0 : (List (Value × List Int))} {x1 : Int} {x2 : Int} {x3 : Int} (m : Mem W G w (it0 :: H)) (o0 : Ow (RTg (RI .i64)) 42 G it0 v0 x0) {y : Int × ((List (Value × List Int)))} (hd : D.R0 x0 x1 x2 x3 = some y) :
  Calls Tryz.prog 160 #[v0, (.int .i64 x1), (.int .i64 x2), (.int .i64 x3), (.func (.func 58) #[] #[])] w (Res W G H (fun G' Ho v => ∃ i0 : Itm, Ho = [i0] ∧ v = (.int .i64 y.1) ∧ Ow (RTg (RI .i64)) 42 G' i0 v0 y.2)) := by
 refine calls_b (args := [v0, (.int .i64 x1), (.int .i64 x2), (.int .i64 x3), (.func (.func 58) #[] #[])]) (N := 90) [.tmp 10] Tryz.func160 rfl rfl (Nat.le_of_ble_eq_true rfl) rfl fun a f => ?_
 unfold D.R0 at hd
 refine k_seq (k_region ?_)
 refine l_as f rfl rfl fun a f => l_nil (k_seq ?_)
 refine k_draw0 Follows m ?_
 refine p_p 2 rfl (by kernel_rfl) f rfl rfl rfl (fun _ => r_move (f.eval rfl)) fun a f => p_p 3 rfl (by kernel_rfl) f rfl rfl rfl (fun _ => r_move (f.eval rfl)) fun a f => k_draw1 12013 11 (by kernel_rfl) rfl ?_
 refine q_mv 0 12013 rfl (by kernel_rfl) f rfl rfl rfl fun a f => q_mv 1 12013 rfl (by kernel_rfl) f rfl rfl rfl fun a f => q_mv 4 12013 rfl (by kernel_rfl) f rfl rfl rfl fun a f => q_mv 5 12013 rfl (by kernel_rfl) f rfl rfl rfl fun a f => ?_
 obtain ⟨aa, ab, hd⟩ := bind_some hd
 refine q_own_at (i := 6) 12013 0 m o0 rfl T22 ab rfl (by kernel_rfl) rfl f rfl rfl rfl rfl fun ac a ad f => q_own_load (i := 7) 12013 0 o0 rfl Pl42 ad ab rfl (by kernel_rfl) rfl f rfl rfl rfl fun ae a af f => q_mv 8 12013 rfl (by kernel_rfl) f rfl rfl rfl fun a f => q_mv 9 12013 rfl (by kernel_rfl) f rfl rfl rfl fun a f => ?_
 obtain ⟨ag, ah, hd⟩ := bind_some hd
 refine q_own_at (i := 10) 12013 0 m o0 rfl T22 ah rfl (by kernel_rfl) rfl f rfl rfl rfl rfl fun ai a aj f => q_own_load (i := 11) 12013 0 o0 rfl Pl42 aj ah rfl (by kernel_rfl) rfl f rfl rfl rfl fun ak a al f => ?_
 obtain ⟨am, an, hd⟩ := bind_some hd
 refine q_own_at (i := 12) 12013 0 m o0 rfl T22 an rfl (by kernel_rfl) rfl f rfl rfl rfl rfl fun ao a ap f => q_end fun aq w ar m => ?_
 have af := (RTg.mono (RI.mono _)) _ _ _ _ ar af
 have al := (RTg.mono (RI.mono _)) _ _ _ _ ar al
 have o0 := Ow.mono (RTg.mono (RI.mono _)) ar o0
 refine l_own_store 0 m o0 rfl Tryz.sizeOf42 f rfl rfl ap an af.cells af.one1 af fun au w m av => ?_
 obtain ⟨aw, ax, hd⟩ := bind_some hd
 refine l_own_at 0 m av rfl T22 f rfl rfl rfl ax fun ay a az f => l_own_store 0 m av rfl Tryz.sizeOf42 f rfl rfl az ax al.cells al.one1 al fun aA w m aB => l_nil (k_seq (k_region ?_))
 refine l_mv f rfl rfl fun a f => l_in f rfl rfl rfl b_add fun a f => l_mv f rfl rfl fun a f => l_in f rfl rfl rfl b_sub fun a f => l_as f rfl rfl fun a f => l_as f rfl rfl fun a f => l_nil (k_seq ?_)
 obtain ⟨aC, aD, hd⟩ := bind_some hd
 refine k_cut (fun a w => ∃ aE : List (Value × List Int), ∃ aF : Int, (aE, aF) = aC ∧ ∃ (aG : GH) (aH : Itm), GLe aq aG ∧ Fr a 90 [(11, (.int .i64 aF))] ∧ Mem W aG w (aH :: H) ∧ Ow (RTg (RI .i64)) 42 aG aH v0 aE) ?_ ?_
 ·refine k_block ?_
  refine k_loop (fun aI a w => ∃ aJ : List (Value × List Int), ∃ aK : Int, ∃ aL : Int, (aJ, aK, aL) = aI ∧ ∃ (aM : GH) (aN : Itm), GLe aq aM ∧ Fr a 90 [(0, v0), (1, (.int .i64 x1)), (4, (.func (.func 58) #[] #[])), (11, (.int .i64 aK)), (12, (.int .i64 aL))] ∧ Mem W aM w (aN :: H) ∧ Ow (RTg (RI .i64)) 42 aM aN v0 aJ) aD ⟨_, _, _, rfl, _, aA, (GLe.refl _), f.weak ⟨rfl, rfl, rfl, rfl, rfl, trivial⟩, m, aB⟩ ?_
  clear aD f m
  rintro aI aO aP aQ a w ⟨aJ, aK, aL, rfl, aM, aN, aR, f, m, aS⟩
  refine k_block (k_seq ?_)
  obtain ⟨aT, aU, aP⟩ := bind_some aP
  refine k_cut (fun a w => ∃ aV : Int, aV = aT ∧ ∃ (aW : GH), GLe aM aW ∧ Fr a 90 [(0, v0), (1, (.int .i64 x1)), (4, (.func (.func 58) #[] #[])), (11, (.int .i64 aV)), (12, (.int .i64 aL))] ∧ Mem W aW w (aN :: H)) ?_ ?_
  ·refine k_block ?_
   refine k_loop (fun aX a w => ∃ aY : Int, aY = aX ∧ ∃ (aZ : GH), GLe aM aZ ∧ Fr a 90 [(0, v0), (1, (.int .i64 x1)), (4, (.func (.func 58) #[] #[])), (11, (.int .i64 aY)), (12, (.int .i64 aL))] ∧ Mem W aZ w (aN :: H)) aU ⟨_, rfl, _, (GLe.refl _), f.weak ⟨rfl, rfl, rfl, rfl, rfl, trivial⟩, m⟩ ?_
   clear aU f m
   rintro aX a0 a1 a2 a w ⟨aY, rfl, aZ, a3, f, m⟩
   have aS := Ow.mono (RTg.mono (RI.mono _)) a3 aS
   refine k_seq (k_seq ?_)
   refine k_draw 17 Follows (by kernel_rfl) m ?_
   refine q_mv 0 17 rfl (by kernel_rfl) f rfl rfl rfl fun a f => q_mv 1 17 rfl (by kernel_rfl) f rfl rfl rfl fun a f => q_p 2 17 rfl (by kernel_rfl) f rfl rfl rfl (fun _ => r_int (f.eval rfl) (f.eval rfl) b_leq) fun a f => q_mv 3 17 rfl (by kernel_rfl) f rfl rfl rfl fun a f => ?_
   obtain ⟨a4, a5, a1⟩ := bind_some a1
   refine q_cut (fuel' := 0) (listed' := #[true, true, true, true, true, true, true, true, true, true, true, true, true, true, true, true, true]) (fun a => Fr a 90 [(0, v0), (1, (.int .i64 x1)), (4, (.func (.func 58) #[] #[])), (11, (.int .i64 aY)), (12, (.int .i64 aL)), (31, (.int .i64 aY)), (32, (.int .i64 aL)), (33, (.bool (decide (aY ≤ aL)))), (34, (.bool (decide (aY ≤ aL)))), (47, (.bool a4))]) ?_ ?_
   ·intro a f
    refine q_end fun a6 w a7 m => ?_
    have aS := Ow.mono (RTg.mono (RI.mono _)) a7 aS
    refine l_nil ?_
    rcases cond_some a1 with ⟨a8, a1⟩ | ⟨a8, a1⟩
    ·refine k_true f rfl a8 ?_
     refine k_skip ?_
     refine k_block (k_region ?_)
     refine l_mv f rfl rfl fun a f => l_in f rfl rfl rfl b_add fun a f => l_as f rfl rfl fun a f => l_nil ?_
     obtain rfl := sj a1
     exact ⟨_, rfl, _, rfl, _, (GLe.trans a3 a7), f.weak ⟨rfl, rfl, rfl, rfl, rfl, trivial⟩, m⟩
    ·refine k_false f rfl a8 ?_
     refine k_exit rfl ?_
     obtain rfl := sj a1
     obtain rfl := a2 _ rfl
     exact ⟨_, rfl, _, (GLe.trans a3 a7), f.weak ⟨rfl, rfl, rfl, rfl, rfl, trivial⟩, m⟩
   ·intro a9
    rcases cond_some a5 with ⟨ba, a5⟩ | ⟨ba, a5⟩
    ·refine q_mv 4 17 rfl (by kernel_rfl) f (wanted_of f rfl rfl rfl ba) rfl rfl fun a f => ?_
     refine q_mv 5 17 rfl (by kernel_rfl) f (wanted_of f rfl rfl rfl ba) rfl rfl fun a f => q_mv 6 17 rfl (by kernel_rfl) f (wanted_of f rfl rfl rfl ba) rfl rfl fun a f => ?_
     obtain ⟨bb, bc, a5⟩ := bind_some a5
     refine q_own_at (i := 7) 17 0 m aS rfl T22 bc rfl (by kernel_rfl) rfl f (wanted_of f rfl rfl rfl ba) rfl rfl rfl fun bd a be f => q_own_load (i := 8) 17 0 aS rfl Pl42 be bc rfl (by kernel_rfl) rfl f (wanted_of f rfl rfl rfl ba) rfl rfl fun bf a bg f => q_mv 9 17 rfl (by kernel_rfl) f (wanted_of f rfl rfl rfl ba) rfl rfl fun a f => q_mv 10 17 rfl (by kernel_rfl) f (wanted_of f rfl rfl rfl ba) rfl rfl fun a f => ?_
     obtain ⟨bh, bi, a5⟩ := bind_some a5
     refine q_own_at (i := 11) 17 0 m aS rfl T22 bi rfl (by kernel_rfl) rfl f (wanted_of f rfl rfl rfl ba) rfl rfl rfl fun bj a bk f => q_own_load (i := 12) 17 0 aS rfl Pl42 bk bi rfl (by kernel_rfl) rfl f (wanted_of f rfl rfl rfl ba) rfl rfl fun bl a bm f => ?_
     obtain ⟨bn, bo, a5⟩ := bind_some a5
     refine q_callv (i := 13) 17 rfl (by kernel_rfl) rfl f (wanted_of f rfl rfl rfl ba) rfl rfl rfl Tryz.call58 (fun _ _ w bp m => Wk.b m (rd1 bp (bg.2)) (rd1 bp (bm.2)) bo) fun a f => q_p 14 17 rfl (by kernel_rfl) f (wanted_of f rfl rfl rfl ba) rfl rfl (fun _ => r_int (f.eval rfl) (f.eval rfl) b_lss) fun a f => q_p 15 17 rfl (by kernel_rfl) f (wanted_of f rfl rfl rfl ba) rfl rfl (fun _ => r_not (f.eval rfl)) fun a f => q_p 16 17 rfl (by kernel_rfl) f rfl rfl rfl (fun _ => r_pickT (f.eval rfl) ba (f.eval rfl)) fun a f => ?_
     obtain rfl := sj a5
     exact a9 _ (f.weak ⟨rfl, rfl, rfl, rfl, rfl, rfl, rfl, rfl, rfl, rfl, trivial⟩)
    ·refine q_ng 4 17 rfl (by kernel_rfl) f rfl rfl ba rfl fun a f => ?_
     refine q_ng 5 17 rfl (by kernel_rfl) f rfl rfl ba rfl fun a f => q_ng 6 17 rfl (by kernel_rfl) f rfl rfl ba rfl fun a f => q_ng 7 17 rfl (by kernel_rfl) f rfl rfl ba rfl fun a f => q_ng 8 17 rfl (by kernel_rfl) f rfl rfl ba rfl fun a f => q_ng 9 17 rfl (by kernel_rfl) f rfl rfl ba rfl fun a f => q_ng 10 17 rfl (by kernel_rfl) f rfl rfl ba rfl fun a f => q_ng 11 17 rfl (by kernel_rfl) f rfl rfl ba rfl fun a f => q_ng 12 17 rfl (by kernel_rfl) f rfl rfl ba rfl fun a f => q_ng 13 17 rfl (by kernel_rfl) f rfl rfl ba rfl fun a f => q_ng 14 17 rfl (by kernel_rfl) f rfl rfl ba rfl fun a f => q_ng 15 17 rfl (by kernel_rfl) f rfl rfl ba rfl fun a f => q_p 16 17 rfl (by kernel_rfl) f rfl rfl rfl (fun _ => r_pickF (f.eval rfl) ba (f.eval rfl)) fun a f => ?_
     obtain rfl := sj a5
     exact a9 _ (f.weak ⟨rfl, rfl, rfl, rfl, rfl, rfl, rfl, rfl, rfl, rfl, trivial⟩)
  ·rintro a w ⟨aV, rfl, aW, bq, f, m⟩
   have aS := Ow.mono (RTg.mono (RI.mono _)) bq aS
   refine k_seq ?_
   obtain ⟨br, bs, aP⟩ := bind_some aP
   refine k_cut (fun a w => ∃ bt : Int, bt = br ∧ ∃ (bu : GH), GLe aW bu ∧ Fr a 90 [(0, v0), (1, (.int .i64 x1)), (4, (.func (.func 58) #[] #[])), (11, (.int .i64 aV)), (12, (.int .i64 bt))] ∧ Mem W bu w (aN :: H)) ?_ ?_
   ·refine k_block ?_
    refine k_loop (fun bv a w => ∃ bw : Int, bw = bv ∧ ∃ (bx : GH), GLe aW bx ∧ Fr a 90 [(0, v0), (1, (.int .i64 x1)), (4, (.func (.func 58) #[] #[])), (11, (.int .i64 aV)), (12, (.int .i64 bw))] ∧ Mem W bx w (aN :: H)) bs ⟨_, rfl, _, (GLe.refl _), f.weak ⟨rfl, rfl, rfl, rfl, rfl, trivial⟩, m⟩ ?_
    clear bs f m
    rintro bv bz bA bB a w ⟨bw, rfl, bx, bC, f, m⟩
    have aS := Ow.mono (RTg.mono (RI.mono _)) bC aS
    refine k_seq (k_seq ?_)
    refine k_draw 16 Follows (by kernel_rfl) m ?_
    refine q_mv 0 16 rfl (by kernel_rfl) f rfl rfl rfl fun a f => q_mv 1 16 rfl (by kernel_rfl) f rfl rfl rfl fun a f => q_p 2 16 rfl (by kernel_rfl) f rfl rfl rfl (fun _ => r_int (f.eval rfl) (f.eval rfl) b_leq) fun a f => q_mv 3 16 rfl (by kernel_rfl) f rfl rfl rfl fun a f => ?_
    obtain ⟨bD, bE, bA⟩ := bind_some bA
    refine q_cut (fuel' := 0) (listed' := #[true, true, true, true, true, true, true, true, true, true, true, true, true, true, true, true]) (fun a => Fr a 90 [(0, v0), (1, (.int .i64 x1)), (4, (.func (.func 58) #[] #[])), (11, (.int .i64 aV)), (12, (.int .i64 bw)), (50, (.int .i64 aV)), (51, (.int .i64 bw)), (52, (.bool (decide (aV ≤ bw)))), (53, (.bool (decide (aV ≤ bw)))), (65, (.bool bD))]) ?_ ?_
    ·intro a f
     refine q_end fun bF w bG m => ?_
     have aS := Ow.mono (RTg.mono (RI.mono _)) bG aS
     refine l_nil ?_
     rcases cond_some bA with ⟨bH, bA⟩ | ⟨bH, bA⟩
     ·refine k_true f rfl bH ?_
      refine k_skip ?_
      refine k_block (k_region ?_)
      refine l_mv f rfl rfl fun a f => l_in f rfl rfl rfl b_sub fun a f => l_as f rfl rfl fun a f => l_nil ?_
      obtain rfl := sj bA
      exact ⟨_, rfl, _, rfl, _, (GLe.trans bC bG), f.weak ⟨rfl, rfl, rfl, rfl, rfl, trivial⟩, m⟩
     ·refine k_false f rfl bH ?_
      refine k_exit rfl ?_
      obtain rfl := sj bA
      obtain rfl := bB _ rfl
      exact ⟨_, rfl, _, (GLe.trans bC bG), f.weak ⟨rfl, rfl, rfl, rfl, rfl, trivial⟩, m⟩
    ·intro bI
     rcases cond_some bE with ⟨bJ, bE⟩ | ⟨bJ, bE⟩
     ·refine q_mv 4 16 rfl (by kernel_rfl) f (wanted_of f rfl rfl rfl bJ) rfl rfl fun a f => ?_
      refine q_mv 5 16 rfl (by kernel_rfl) f (wanted_of f rfl rfl rfl bJ) rfl rfl fun a f => q_mv 6 16 rfl (by kernel_rfl) f (wanted_of f rfl rfl rfl bJ) rfl rfl fun a f => ?_
      obtain ⟨bK, bL, bE⟩ := bind_some bE
      refine q_own_at (i := 7) 16 0 m aS rfl T22 bL rfl (by kernel_rfl) rfl f (wanted_of f rfl rfl rfl bJ) rfl rfl rfl fun bM a bN f => q_own_load (i := 8) 16 0 aS rfl Pl42 bN bL rfl (by kernel_rfl) rfl f (wanted_of f rfl rfl rfl bJ) rfl rfl fun bO a bP f => q_mv 9 16 rfl (by kernel_rfl) f (wanted_of f rfl rfl rfl bJ) rfl rfl fun a f => q_mv 10 16 rfl (by kernel_rfl) f (wanted_of f rfl rfl rfl bJ) rfl rfl fun a f => ?_
      obtain ⟨bQ, bR, bE⟩ := bind_some bE
      refine q_own_at (i := 11) 16 0 m aS rfl T22 bR rfl (by kernel_rfl) rfl f (wanted_of f rfl rfl rfl bJ) rfl rfl rfl fun bS a bT f => q_own_load (i := 12) 16 0 aS rfl Pl42 bT bR rfl (by kernel_rfl) rfl f (wanted_of f rfl rfl rfl bJ) rfl rfl fun bU a bV f => ?_
      obtain ⟨bW, bX, bE⟩ := bind_some bE
      refine q_callv (i := 13) 16 rfl (by kernel_rfl) rfl f (wanted_of f rfl rfl rfl bJ) rfl rfl rfl Tryz.call58 (fun _ _ w bY m => Wk.b m (rd1 bY (bP.2)) (rd1 bY (bV.2)) bX) fun a f => q_p 14 16 rfl (by kernel_rfl) f (wanted_of f rfl rfl rfl bJ) rfl rfl (fun _ => r_int (f.eval rfl) (f.eval rfl) b_lss) fun a f => q_p 15 16 rfl (by kernel_rfl) f rfl rfl rfl (fun _ => r_pickT (f.eval rfl) bJ (f.eval rfl)) fun a f => ?_
      obtain rfl := sj bE
      exact bI _ (f.weak ⟨rfl, rfl, rfl, rfl, rfl, rfl, rfl, rfl, rfl, rfl, trivial⟩)
     ·refine q_ng 4 16 rfl (by kernel_rfl) f rfl rfl bJ rfl fun a f => ?_
      refine q_ng 5 16 rfl (by kernel_rfl) f rfl rfl bJ rfl fun a f => q_ng 6 16 rfl (by kernel_rfl) f rfl rfl bJ rfl fun a f => q_ng 7 16 rfl (by kernel_rfl) f rfl rfl bJ rfl fun a f => q_ng 8 16 rfl (by kernel_rfl) f rfl rfl bJ rfl fun a f => q_ng 9 16 rfl (by kernel_rfl) f rfl rfl bJ rfl fun a f => q_ng 10 16 rfl (by kernel_rfl) f rfl rfl bJ rfl fun a f => q_ng 11 16 rfl (by kernel_rfl) f rfl rfl bJ rfl fun a f => q_ng 12 16 rfl (by kernel_rfl) f rfl rfl bJ rfl fun a f => q_ng 13 16 rfl (by kernel_rfl) f rfl rfl bJ rfl fun a f => q_ng 14 16 rfl (by kernel_rfl) f rfl rfl bJ rfl fun a f => q_p 15 16 rfl (by kernel_rfl) f rfl rfl rfl (fun _ => r_pickF (f.eval rfl) bJ (f.eval rfl)) fun a f => ?_
      obtain rfl := sj bE
      exact bI _ (f.weak ⟨rfl, rfl, rfl, rfl, rfl, rfl, rfl, rfl, rfl, rfl, trivial⟩)
   ·rintro a w ⟨bt, rfl, bu, bZ, f, m⟩
    have aS := Ow.mono (RTg.mono (RI.mono _)) bZ aS
    refine k_seq (k_seq (k_region ?_))
    refine l_mv f rfl rfl fun a f => l_mv f rfl rfl fun a f => l_in f rfl rfl rfl b_gtr fun a f => l_nil ?_
    rcases cond_some aP with ⟨b0, aP⟩ | ⟨b0, aP⟩
    ·refine k_true f rfl b0 ?_
     refine k_exit rfl ?_
     obtain rfl := sj aP
     obtain rfl := aQ _ rfl
     exact ⟨_, _, rfl, _, aN, (GLe.trans aR (GLe.trans bq bZ)), f.weak ⟨rfl, trivial⟩, m, aS⟩
    ·refine k_false f rfl b0 ?_
     refine k_skip ?_
     refine k_seq ?_
     refine k_draw0 Follows m ?_
     refine p_p 2 rfl (by kernel_rfl) f rfl rfl rfl (fun _ => r_move (f.eval rfl)) fun a f => p_p 3 rfl (by kernel_rfl) f rfl rfl rfl (fun _ => r_move (f.eval rfl)) fun a f => k_draw1 12013 11 (by kernel_rfl) rfl ?_
     refine q_mv 0 12013 rfl (by kernel_rfl) f rfl rfl rfl fun a f => q_mv 1 12013 rfl (by kernel_rfl) f rfl rfl rfl fun a f => q_mv 4 12013 rfl (by kernel_rfl) f rfl rfl rfl fun a f => q_mv 5 12013 rfl (by kernel_rfl) f rfl rfl rfl fun a f => ?_
     obtain ⟨b1, b2, aP⟩ := bind_some aP
     refine q_own_at (i := 6) 12013 0 m aS rfl T22 b2 rfl (by kernel_rfl) rfl f rfl rfl rfl rfl fun b3 a b4 f => q_own_load (i := 7) 12013 0 aS rfl Pl42 b4 b2 rfl (by kernel_rfl) rfl f rfl rfl rfl fun b5 a b6 f => q_mv 8 12013 rfl (by kernel_rfl) f rfl rfl rfl fun a f => q_mv 9 12013 rfl (by kernel_rfl) f rfl rfl rfl fun a f => ?_
     obtain ⟨b7, b8, aP⟩ := bind_some aP
     refine q_own_at (i := 10) 12013 0 m aS rfl T22 b8 rfl (by kernel_rfl) rfl f rfl rfl rfl rfl fun b9 a ca f => q_own_load (i := 11) 12013 0 aS rfl Pl42 ca b8 rfl (by kernel_rfl) rfl f rfl rfl rfl fun cb a cc f => ?_
     obtain ⟨cd, ce, aP⟩ := bind_some aP
     refine q_own_at (i := 12) 12013 0 m aS rfl T22 ce rfl (by kernel_rfl) rfl f rfl rfl rfl rfl fun cf a cg f => q_end fun ch w ci m => ?_
     have b6 := (RTg.mono (RI.mono _)) _ _ _ _ ci b6
     have cc := (RTg.mono (RI.mono _)) _ _ _ _ ci cc
     have aS := Ow.mono (RTg.mono (RI.mono _)) ci aS
     refine l_own_store 0 m aS rfl Tryz.sizeOf42 f rfl rfl cg ce b6.cells b6.one1 b6 fun cj w m ck => ?_
     obtain ⟨cl, cm, aP⟩ := bind_some aP
     refine l_own_at 0 m ck rfl T22 f rfl rfl rfl cm fun cn a co f => l_own_store 0 m ck rfl Tryz.sizeOf42 f rfl rfl co cm cc.cells cc.one1 cc fun cp w m cq => l_nil (k_seq (k_region ?_))
     refine l_mv f rfl rfl fun a f => l_in f rfl rfl rfl b_add fun a f => l_as f rfl rfl fun a f => l_nil (k_region ?_)
     refine l_mv f rfl rfl fun a f => l_in f rfl rfl rfl b_sub fun a f => l_as f rfl rfl fun a f => l_nil ?_
     obtain rfl := sj aP
     exact ⟨_, rfl, _, _, _, rfl, _, cp, (GLe.trans aR (GLe.trans bq (GLe.trans bZ ci))), f.weak ⟨rfl, rfl, rfl, rfl, rfl, trivial⟩, m, cq⟩
 ·rintro a w ⟨aE, aF, rfl, aG, aH, cr, f, m, cs⟩
  refine k_seq (k_region ?_)
  refine l_mv f rfl rfl fun a f => l_as f rfl rfl fun a f => l_nil ?_
  refine k_ret ?_
  obtain rfl := sj hd
  exact ⟨[(.int .i64 aF)], ⟨f.get _ _ rfl, trivial⟩, f.defers, _, [aH], (GLe.trans ar cr), m, _, rfl, rfl, cs⟩

theorem Wk.h1 {W w : World} {G : GH} {H : List Itm} {v0 : Value} {it0 : Itm} {x0 : (List (Value × List Int))} {x1 : Int} {x2 : Int} {x3 : Int} (m : Mem W G w (it0 :: H)) (o0 : Ow (RTg (RI .i64)) 42 G it0 v0 x0) {y : Int × Bool × ((List (Value × List Int)))} (hd : D.h1 x0 x1 x2 x3 = some y) :
  Calls Tryz.prog 161 #[v0, (.int .i64 x1), (.int .i64 x2), (.int .i64 x3), (.func (.func 58) #[] #[])] w (Res W G H (fun G' Ho v => ∃ i0 : Itm, Ho = [i0] ∧ v = .tuple #[(.int .i64 y.1), (.bool y.2.1)] ∧ Ow (RTg (RI .i64)) 42 G' i0 v0 y.2.2)) := by
 refine calls_b (args := [v0, (.int .i64 x1), (.int .i64 x2), (.int .i64 x3), (.func (.func 58) #[] #[])]) (N := 178) [.tmp 10, .tmp 11] Tryz.func161 rfl rfl (Nat.le_of_ble_eq_true rfl) rfl fun a f => ?_
 unfold D.h1 at hd
 refine k_seq (k_region ?_)
 refine l_as f rfl rfl fun a f => l_as f rfl rfl fun a f => l_nil (k_seq ?_)
 refine k_draw0 Follows m ?_
 refine p_p 2 rfl (by kernel_rfl) f rfl rfl rfl (fun _ => r_move (f.eval rfl)) fun a f => p_p 3 rfl (by kernel_rfl) f rfl rfl rfl (fun _ => r_move (f.eval rfl)) fun a f => k_draw1 12013 11 (by kernel_rfl) rfl ?_
 refine q_mv 0 12013 rfl (by kernel_rfl) f rfl rfl rfl fun a f => q_mv 1 12013 rfl (by kernel_rfl) f rfl rfl rfl fun a f => q_mv 4 12013 rfl (by kernel_rfl) f rfl rfl rfl fun a f => q_mv 5 12013 rfl (by kernel_rfl) f rfl rfl rfl fun a f => ?_
 obtain ⟨aa, ab, hd⟩ := bind_some hd
 refine q_own_at (i := 6) 12013 0 m o0 rfl T22 ab rfl (by kernel_rfl) rfl f rfl rfl rfl rfl fun ac a ad f => q_own_load (i := 7) 12013 0 o0 rfl Pl42 ad ab rfl (by kernel_rfl) rfl f rfl rfl rfl fun ae a af f => q_mv 8 12013 rfl (by kernel_rfl) f rfl rfl rfl fun a f => q_mv 9 12013 rfl (by kernel_rfl) f rfl rfl rfl fun a f => ?_
 obtain ⟨ag, ah, hd⟩ := bind_some hd
 refine q_own_at (i := 10) 12013 0 m o0 rfl T22 ah rfl (by kernel_rfl) rfl f rfl rfl rfl rfl fun ai a aj f => q_own_load (i := 11) 12013 0 o0 rfl Pl42 aj ah rfl (by kernel_rfl) rfl f rfl rfl rfl fun ak a al f => ?_
 obtain ⟨am, an, hd⟩ := bind_some hd
 refine q_own_at (i := 12) 12013 0 m o0 rfl T22 an rfl (by kernel_rfl) rfl f rfl rfl rfl rfl fun ao a ap f => q_end fun aq w ar m => ?_
 have af := (RTg.mono (RI.mono _)) _ _ _ _ ar af
 have al := (RTg.mono (RI.mono _)) _ _ _ _ ar al
 have o0 := Ow.mono (RTg.mono (RI.mono _)) ar o0
 refine l_own_store 0 m o0 rfl Tryz.sizeOf42 f rfl rfl ap an af.cells af.one1 af fun au w m av => ?_
 obtain ⟨aw, ax, hd⟩ := bind_some hd
 refine l_own_at 0 m av rfl T22 f rfl rfl rfl ax fun ay a az f => l_own_store 0 m av rfl Tryz.sizeOf42 f rfl rfl az ax al.cells al.one1 al fun aA w m aB => l_nil (k_seq (k_region ?_))
 refine l_mv f rfl rfl fun a f => l_in f rfl rfl rfl b_add fun a f => l_mv f rfl rfl fun a f => l_in f rfl rfl rfl b_sub fun a f => l_as f rfl rfl fun a f => l_as f rfl rfl fun a f => l_nil (k_seq ?_)
 obtain ⟨aC, aD, hd⟩ := bind_some hd
 refine k_cut (fun a w => ∃ aE : Int, aE = aC ∧ ∃ (aF : GH), GLe aq aF ∧ Fr a 178 [(0, v0), (1, (.int .i64 x1)), (4, (.func (.func 58) #[] #[])), (12, (.int .i64 aE)), (13, (.int .i64 (IntKind.i64.wrap (x2 - 1))))] ∧ Mem W aF w (aA :: H)) ?_ ?_
 ·refine k_block ?_
  refine k_loop (fun aG a w => ∃ aH : Int, aH = aG ∧ ∃ (aI : GH), GLe aq aI ∧ Fr a 178 [(0, v0), (1, (.int .i64 x1)), (4, (.func (.func 58) #[] #[])), (12, (.int .i64 aH)), (13, (.int .i64 (IntKind.i64.wrap (x2 - 1))))] ∧ Mem W aI w (aA :: H)) aD ⟨_, rfl, _, (GLe.refl _), f.weak ⟨rfl, rfl, rfl, rfl, rfl, trivial⟩, m⟩ ?_
  clear aD f m
  rintro aG aJ aK aL a w ⟨aH, rfl, aI, aM, f, m⟩
  have aB := Ow.mono (RTg.mono (RI.mono _)) aM aB
  refine k_seq (k_seq ?_)
  refine k_draw 16 Follows (by kernel_rfl) m ?_
  refine q_mv 0 16 rfl (by kernel_rfl) f rfl rfl rfl fun a f => q_mv 1 16 rfl (by kernel_rfl) f rfl rfl rfl fun a f => q_p 2 16 rfl (by kernel_rfl) f rfl rfl rfl (fun _ => r_int (f.eval rfl) (f.eval rfl) b_leq) fun a f => q_mv 3 16 rfl (by kernel_rfl) f rfl rfl rfl fun a f => ?_
  obtain ⟨aN, aO, aK⟩ := bind_some aK
  refine q_cut (fuel' := 0) (listed' := #[true, true, true, true, true, true, true, true, true, true, true, true, true, true, true, true]) (fun a => Fr a 178 [(0, v0), (1, (.int .i64 x1)), (4, (.func (.func 58) #[] #[])), (12, (.int .i64 aH)), (13, (.int .i64 (IntKind.i64.wrap (x2 - 1)))), (32, (.int .i64 aH)), (33, (.int .i64 (IntKind.i64.wrap (x2 - 1)))), (34, (.bool (decide (aH ≤ (IntKind.i64.wrap (x2 - 1)))))), (35, (.bool (decide (aH ≤ (IntKind.i64.wrap (x2 - 1)))))), (47, (.bool aN))]) ?_ ?_
  ·intro a f
   refine q_end fun aP w aQ m => ?_
   have aB := Ow.mono (RTg.mono (RI.mono _)) aQ aB
   refine l_nil ?_
   rcases cond_some aK with ⟨aR, aK⟩ | ⟨aR, aK⟩
   ·refine k_true f rfl aR ?_
    refine k_skip ?_
    refine k_block (k_region ?_)
    refine l_mv f rfl rfl fun a f => l_in f rfl rfl rfl b_add fun a f => l_as f rfl rfl fun a f => l_nil ?_
    obtain rfl := sj aK
    exact ⟨_, rfl, _, rfl, _, (GLe.trans aM aQ), f.weak ⟨rfl, rfl, rfl, rfl, rfl, trivial⟩, m⟩
   ·refine k_false f rfl aR ?_
    refine k_exit rfl ?_
    obtain rfl := sj aK
    obtain rfl := aL _ rfl
    exact ⟨_, rfl, _, (GLe.trans aM aQ), f.weak ⟨rfl, rfl, rfl, rfl, rfl, trivial⟩, m⟩
  ·intro aS
   rcases cond_some aO with ⟨aT, aO⟩ | ⟨aT, aO⟩
   ·refine q_mv 4 16 rfl (by kernel_rfl) f (wanted_of f rfl rfl rfl aT) rfl rfl fun a f => ?_
    refine q_mv 5 16 rfl (by kernel_rfl) f (wanted_of f rfl rfl rfl aT) rfl rfl fun a f => q_mv 6 16 rfl (by kernel_rfl) f (wanted_of f rfl rfl rfl aT) rfl rfl fun a f => ?_
    obtain ⟨aU, aV, aO⟩ := bind_some aO
    refine q_own_at (i := 7) 16 0 m aB rfl T22 aV rfl (by kernel_rfl) rfl f (wanted_of f rfl rfl rfl aT) rfl rfl rfl fun aW a aX f => q_own_load (i := 8) 16 0 aB rfl Pl42 aX aV rfl (by kernel_rfl) rfl f (wanted_of f rfl rfl rfl aT) rfl rfl fun aY a aZ f => q_mv 9 16 rfl (by kernel_rfl) f (wanted_of f rfl rfl rfl aT) rfl rfl fun a f => q_mv 10 16 rfl (by kernel_rfl) f (wanted_of f rfl rfl rfl aT) rfl rfl fun a f => ?_
    obtain ⟨a0, a1, aO⟩ := bind_some aO
    refine q_own_at (i := 11) 16 0 m aB rfl T22 a1 rfl (by kernel_rfl) rfl f (wanted_of f rfl rfl rfl aT) rfl rfl rfl fun a2 a a3 f => q_own_load (i := 12) 16 0 aB rfl Pl42 a3 a1 rfl (by kernel_rfl) rfl f (wanted_of f rfl rfl rfl aT) rfl rfl fun a4 a a5 f => ?_
    obtain ⟨a6, a7, aO⟩ := bind_some aO
    refine q_callv (i := 13) 16 rfl (by kernel_rfl) rfl f (wanted_of f rfl rfl rfl aT) rfl rfl rfl Tryz.call58 (fun _ _ w a8 m => Wk.b m (rd1 a8 (aZ.2)) (rd1 a8 (a5.2)) a7) fun a f => q_p 14 16 rfl (by kernel_rfl) f (wanted_of f rfl rfl rfl aT) rfl rfl (fun _ => r_int (f.eval rfl) (f.eval rfl) b_lss) fun a f => q_p 15 16 rfl (by kernel_rfl) f rfl rfl rfl (fun _ => r_pickT (f.eval rfl) aT (f.eval rfl)) fun a f => ?_
    obtain rfl := sj aO
    exact aS _ (f.weak ⟨rfl, rfl, rfl, rfl, rfl, rfl, rfl, rfl, rfl, rfl, trivial⟩)
   ·refine q_ng 4 16 rfl (by kernel_rfl) f rfl rfl aT rfl fun a f => ?_
    refine q_ng 5 16 rfl (by kernel_rfl) f rfl rfl aT rfl fun a f => q_ng 6 16 rfl (by kernel_rfl) f rfl rfl aT rfl fun a f => q_ng 7 16 rfl (by kernel_rfl) f rfl rfl aT rfl fun a f => q_ng 8 16 rfl (by kernel_rfl) f rfl rfl aT rfl fun a f => q_ng 9 16 rfl (by kernel_rfl) f rfl rfl aT rfl fun a f => q_ng 10 16 rfl (by kernel_rfl) f rfl rfl aT rfl fun a f => q_ng 11 16 rfl (by kernel_rfl) f rfl rfl aT rfl fun a f => q_ng 12 16 rfl (by kernel_rfl) f rfl rfl aT rfl fun a f => q_ng 13 16 rfl (by kernel_rfl) f rfl rfl aT rfl fun a f => q_ng 14 16 rfl (by kernel_rfl) f rfl rfl aT rfl fun a f => q_p 15 16 rfl (by kernel_rfl) f rfl rfl rfl (fun _ => r_pickF (f.eval rfl) aT (f.eval rfl)) fun a f => ?_
    obtain rfl := sj aO
    exact aS _ (f.weak ⟨rfl, rfl, rfl, rfl, rfl, rfl, rfl, rfl, rfl, rfl, trivial⟩)
 ·rintro a w ⟨aE, rfl, aF, a9, f, m⟩
  have aB := Ow.mono (RTg.mono (RI.mono _)) a9 aB
  refine k_seq ?_
  obtain ⟨ba, bb, hd⟩ := bind_some hd
  refine k_cut (fun a w => ∃ bc : Int, bc = ba ∧ ∃ (bd : GH), GLe aF bd ∧ Fr a 178 [(0, v0), (1, (.int .i64 x1)), (4, (.func (.func 58) #[] #[])), (12, (.int .i64 aE)), (13, (.int .i64 bc))] ∧ Mem W bd w (aA :: H)) ?_ ?_
  ·refine k_block ?_
   refine k_loop (fun be a w => ∃ bf : Int, bf = be ∧ ∃ (bg : GH), GLe aF bg ∧ Fr a 178 [(0, v0), (1, (.int .i64 x1)), (4, (.func (.func 58) #[] #[])), (12, (.int .i64 aE)), (13, (.int .i64 bf))] ∧ Mem W bg w (aA :: H)) bb ⟨_, rfl, _, (GLe.refl _), f.weak ⟨rfl, rfl, rfl, rfl, rfl, trivial⟩, m⟩ ?_
   clear bb f m
   rintro be bh bi bj a w ⟨bf, rfl, bg, bk, f, m⟩
   have aB := Ow.mono (RTg.mono (RI.mono _)) bk aB
   refine k_seq (k_seq ?_)
   refine k_draw 17 Follows (by kernel_rfl) m ?_
   refine q_mv 0 17 rfl (by kernel_rfl) f rfl rfl rfl fun a f => q_mv 1 17 rfl (by kernel_rfl) f rfl rfl rfl fun a f => q_p 2 17 rfl (by kernel_rfl) f rfl rfl rfl (fun _ => r_int (f.eval rfl) (f.eval rfl) b_leq) fun a f => q_mv 3 17 rfl (by kernel_rfl) f rfl rfl rfl fun a f => ?_
   obtain ⟨bl, bm, bi⟩ := bind_some bi
   refine q_cut (fuel' := 0) (listed' := #[true, true, true, true, true, true, true, true, true, true, true, true, true, true, true, true, true]) (fun a => Fr a 178 [(0, v0), (1, (.int .i64 x1)), (4, (.func (.func 58) #[] #[])), (12, (.int .i64 aE)), (13, (.int .i64 bf)), (50, (.int .i64 aE)), (51, (.int .i64 bf)), (52, (.bool (decide (aE ≤ bf)))), (53, (.bool (decide (aE ≤ bf)))), (66, (.bool bl))]) ?_ ?_
   ·intro a f
    refine q_end fun bn w bo m => ?_
    have aB := Ow.mono (RTg.mono (RI.mono _)) bo aB
    refine l_nil ?_
    rcases cond_some bi with ⟨bp, bi⟩ | ⟨bp, bi⟩
    ·refine k_true f rfl bp ?_
     refine k_skip ?_
     refine k_block (k_region ?_)
     refine l_mv f rfl rfl fun a f => l_in f rfl rfl rfl b_sub fun a f => l_as f rfl rfl fun a f => l_nil ?_
     obtain rfl := sj bi
     exact ⟨_, rfl, _, rfl, _, (GLe.trans bk bo), f.weak ⟨rfl, rfl, rfl, rfl, rfl, trivial⟩, m⟩
    ·refine k_false f rfl bp ?_
     refine k_exit rfl ?_
     obtain rfl := sj bi
     obtain rfl := bj _ rfl
     exact ⟨_, rfl, _, (GLe.trans bk bo), f.weak ⟨rfl, rfl, rfl, rfl, rfl, trivial⟩, m⟩
   ·intro bq
    rcases cond_some bm with ⟨br, bm⟩ | ⟨br, bm⟩
    ·refine q_mv 4 17 rfl (by kernel_rfl) f (wanted_of f rfl rfl rfl br) rfl rfl fun a f => ?_
     refine q_mv 5 17 rfl (by kernel_rfl) f (wanted_of f rfl rfl rfl br) rfl rfl fun a f => q_mv 6 17 rfl (by kernel_rfl) f (wanted_of f rfl rfl rfl br) rfl rfl fun a f => ?_
     obtain ⟨bs, bt, bm⟩ := bind_some bm
     refine q_own_at (i := 7) 17 0 m aB rfl T22 bt rfl (by kernel_rfl) rfl f (wanted_of f rfl rfl rfl br) rfl rfl rfl fun bu a bv f => q_own_load (i := 8) 17 0 aB rfl Pl42 bv bt rfl (by kernel_rfl) rfl f (wanted_of f rfl rfl rfl br) rfl rfl fun bw a bx f => q_mv 9 17 rfl (by kernel_rfl) f (wanted_of f rfl rfl rfl br) rfl rfl fun a f => q_mv 10 17 rfl (by kernel_rfl) f (wanted_of f rfl rfl rfl br) rfl rfl fun a f => ?_
     obtain ⟨bz, bA, bm⟩ := bind_some bm
     refine q_own_at (i := 11) 17 0 m aB rfl T22 bA rfl (by kernel_rfl) rfl f (wanted_of f rfl rfl rfl br) rfl rfl rfl fun bB a bC f => q_own_load (i := 12) 17 0 aB rfl Pl42 bC bA rfl (by kernel_rfl) rfl f (wanted_of f rfl rfl rfl br) rfl rfl fun bD a bE f => ?_
     obtain ⟨bF, bG, bm⟩ := bind_some bm
     refine q_callv (i := 13) 17 rfl (by kernel_rfl) rfl f (wanted_of f rfl rfl rfl br) rfl rfl rfl Tryz.call58 (fun _ _ w bH m => Wk.b m (rd1 bH (bx.2)) (rd1 bH (bE.2)) bG) fun a f => q_p 14 17 rfl (by kernel_rfl) f (wanted_of f rfl rfl rfl br) rfl rfl (fun _ => r_int (f.eval rfl) (f.eval rfl) b_lss) fun a f => q_p 15 17 rfl (by kernel_rfl) f (wanted_of f rfl rfl rfl br) rfl rfl (fun _ => r_not (f.eval rfl)) fun a f => q_p 16 17 rfl (by kernel_rfl) f rfl rfl rfl (fun _ => r_pickT (f.eval rfl) br (f.eval rfl)) fun a f => ?_
     obtain rfl := sj bm
     exact bq _ (f.weak ⟨rfl, rfl, rfl, rfl, rfl, rfl, rfl, rfl, rfl, rfl, trivial⟩)
    ·refine q_ng 4 17 rfl (by kernel_rfl) f rfl rfl br rfl fun a f => ?_
     refine q_ng 5 17 rfl (by kernel_rfl) f rfl rfl br rfl fun a f => q_ng 6 17 rfl (by kernel_rfl) f rfl rfl br rfl fun a f => q_ng 7 17 rfl (by kernel_rfl) f rfl rfl br rfl fun a f => q_ng 8 17 rfl (by kernel_rfl) f rfl rfl br rfl fun a f => q_ng 9 17 rfl (by kernel_rfl) f rfl rfl br rfl fun a f => q_ng 10 17 rfl (by kernel_rfl) f rfl rfl br rfl fun a f => q_ng 11 17 rfl (by kernel_rfl) f rfl rfl br rfl fun a f => q_ng 12 17 rfl (by kernel_rfl) f rfl rfl br rfl fun a f => q_ng 13 17 rfl (by kernel_rfl) f rfl rfl br rfl fun a f => q_ng 14 17 rfl (by kernel_rfl) f rfl rfl br rfl fun a f => q_ng 15 17 rfl (by kernel_rfl) f rfl rfl br rfl fun a f => q_p 16 17 rfl (by kernel_rfl) f rfl rfl rfl (fun _ => r_pickF (f.eval rfl) br (f.eval rfl)) fun a f => ?_
     obtain rfl := sj bm
     exact bq _ (f.weak ⟨rfl, rfl, rfl, rfl, rfl, rfl, rfl, rfl, rfl, rfl, trivial⟩)
  ·rintro a w ⟨bc, rfl, bd, bI, f, m⟩
   have aB := Ow.mono (RTg.mono (RI.mono _)) bI aB
   refine k_seq (k_seq (k_region ?_))
   refine l_mv f rfl rfl fun a f => l_mv f rfl rfl fun a f => l_in f rfl rfl rfl b_gtr fun a f => l_nil ?_
   rcases cond_some hd with ⟨bJ, hd⟩ | ⟨bJ, hd⟩
   ·refine k_true f rfl bJ ?_
    refine k_seq ?_
    refine k_draw0 Follows m ?_
    refine p_p 2 rfl (by kernel_rfl) f rfl rfl rfl (fun _ => r_move (f.eval rfl)) fun a f => p_p 3 rfl (by kernel_rfl) f rfl rfl rfl (fun _ => r_move (f.eval rfl)) fun a f => k_draw1 12013 11 (by kernel_rfl) rfl ?_
    refine q_mv 0 12013 rfl (by kernel_rfl) f rfl rfl rfl fun a f => q_mv 1 12013 rfl (by kernel_rfl) f rfl rfl rfl fun a f => q_mv 4 12013 rfl (by kernel_rfl) f rfl rfl rfl fun a f => q_mv 5 12013 rfl (by kernel_rfl) f rfl rfl rfl fun a f => ?_
    obtain ⟨bK, bL, hd⟩ := bind_some hd
    refine q_own_at (i := 6) 12013 0 m aB rfl T22 bL rfl (by kernel_rfl) rfl f rfl rfl rfl rfl fun bM a bN f => q_own_load (i := 7) 12013 0 aB rfl Pl42 bN bL rfl (by kernel_rfl) rfl f rfl rfl rfl fun bO a bP f => q_mv 8 12013 rfl (by kernel_rfl) f rfl rfl rfl fun a f => q_mv 9 12013 rfl (by kernel_rfl) f rfl rfl rfl fun a f => ?_
    obtain ⟨bQ, bR, hd⟩ := bind_some hd
    refine q_own_at (i := 10) 12013 0 m aB rfl T22 bR rfl (by kernel_rfl) rfl f rfl rfl rfl rfl fun bS a bT f => q_own_load (i := 11) 12013 0 aB rfl Pl42 bT bR rfl (by kernel_rfl) rfl f rfl rfl rfl fun bU a bV f => ?_
    obtain ⟨bW, bX, hd⟩ := bind_some hd
    refine q_own_at (i := 12) 12013 0 m aB rfl T22 bX rfl (by kernel_rfl) rfl f rfl rfl rfl rfl fun bY a bZ f => q_end fun b0 w b1 m => ?_
    have bP := (RTg.mono (RI.mono _)) _ _ _ _ b1 bP
    have bV := (RTg.mono (RI.mono _)) _ _ _ _ b1 bV
    have aB := Ow.mono (RTg.mono (RI.mono _)) b1 aB
    refine l_own_store 0 m aB rfl Tryz.sizeOf42 f rfl rfl bZ bX bP.cells bP.one1 bP fun b2 w m b3 => ?_
    obtain ⟨b4, b5, hd⟩ := bind_some hd
    refine l_own_at 0 m b3 rfl T22 f rfl rfl rfl b5 fun b6 a b7 f => l_own_store 0 m b3 rfl Tryz.sizeOf42 f rfl rfl b7 b5 bV.cells bV.one1 bV fun b8 w m b9 => l_nil (k_seq (k_region ?_))
    refine l_mv f rfl rfl fun a f => l_as f rfl rfl fun a f => l_as f rfl rfl fun a f => l_nil ?_
    refine k_ret ?_
    obtain rfl := sj hd
    exact ⟨[(.int .i64 bc), (.bool true)], ⟨f.get _ _ rfl, f.get _ _ rfl, trivial⟩, f.defers, _, [b8], (GLe.trans ar (GLe.trans a9 (GLe.trans bI b1))), m, _, rfl, rfl, b9⟩
   ·refine k_false f rfl bJ ?_
    refine k_skip ?_
    refine k_seq ?_
    refine k_draw0 Follows m ?_
    refine p_p 2 rfl (by kernel_rfl) f rfl rfl rfl (fun _ => r_move (f.eval rfl)) fun a f => p_p 3 rfl (by kernel_rfl) f rfl rfl rfl (fun _ => r_move (f.eval rfl)) fun a f => k_draw1 12013 11 (by kernel_rfl) rfl ?_
    refine q_mv 0 12013 rfl (by kernel_rfl) f rfl rfl rfl fun a f => q_mv 1 12013 rfl (by kernel_rfl) f rfl rfl rfl fun a f => q_mv 4 12013 rfl (by kernel_rfl) f rfl rfl rfl fun a f => q_mv 5 12013 rfl (by kernel_rfl) f rfl rfl rfl fun a f => ?_
    obtain ⟨ca, cb, hd⟩ := bind_some hd
    refine q_own_at (i := 6) 12013 0 m aB rfl T22 cb rfl (by kernel_rfl) rfl f rfl rfl rfl rfl fun cc a cd f => q_own_load (i := 7) 12013 0 aB rfl Pl42 cd cb rfl (by kernel_rfl) rfl f rfl rfl rfl fun ce a cf f => q_mv 8 12013 rfl (by kernel_rfl) f rfl rfl rfl fun a f => q_mv 9 12013 rfl (by kernel_rfl) f rfl rfl rfl fun a f => ?_
    obtain ⟨cg, ch, hd⟩ := bind_some hd
    refine q_own_at (i := 10) 12013 0 m aB rfl T22 ch rfl (by kernel_rfl) rfl f rfl rfl rfl rfl fun ci a cj f => q_own_load (i := 11) 12013 0 aB rfl Pl42 cj ch rfl (by kernel_rfl) rfl f rfl rfl rfl fun ck a cl f => ?_
    obtain ⟨cm, cn, hd⟩ := bind_some hd
    refine q_own_at (i := 12) 12013 0 m aB rfl T22 cn rfl (by kernel_rfl) rfl f rfl rfl rfl rfl fun co a cp f => q_end fun cq w cr m => ?_
    have cf := (RTg.mono (RI.mono _)) _ _ _ _ cr cf
    have cl := (RTg.mono (RI.mono _)) _ _ _ _ cr cl
    have aB := Ow.mono (RTg.mono (RI.mono _)) cr aB
    refine l_own_store 0 m aB rfl Tryz.sizeOf42 f rfl rfl cp cn cf.cells cf.one1 cf fun cs w m ct => ?_
    obtain ⟨cu, cv, hd⟩ := bind_some hd
    refine l_own_at 0 m ct rfl T22 f rfl rfl rfl cv fun cw a cx f => l_own_store 0 m ct rfl Tryz.sizeOf42 f rfl rfl cx cv cl.cells cl.one1 cl fun cy w m cz => l_nil (k_seq (k_region ?_))
    refine l_mv f rfl rfl fun a f => l_in f rfl rfl rfl b_add fun a f => l_as f rfl rfl fun a f => l_nil (k_seq (k_region ?_))
    refine l_mv f rfl rfl fun a f => l_in f rfl rfl rfl b_sub fun a f => l_as f rfl rfl fun a f => l_nil (k_seq ?_)
    obtain ⟨cA, cB, hd⟩ := bind_some hd
    refine k_cut (fun a w => ∃ cC : List (Value × List Int), ∃ cD : Int, (cC, cD) = cA ∧ ∃ (cE : GH) (cF : Itm), GLe cq cE ∧ Fr a 178 [(0, v0), (1, (.int .i64 x1)), (13, (.int .i64 cD))] ∧ Mem W cE w (cF :: H) ∧ Ow (RTg (RI .i64)) 42 cE cF v0 cC) ?_ ?_
    ·refine k_block ?_
     refine k_loop (fun cG a w => ∃ cH : List (Value × List Int), ∃ cI : Int, ∃ cJ : Int, (cH, cI, cJ) = cG ∧ ∃ (cK : GH) (cL : Itm), GLe cq cK ∧ Fr a 178 [(0, v0), (1, (.int .i64 x1)), (4, (.func (.func 58) #[] #[])), (12, (.int .i64 cI)), (13, (.int .i64 cJ))] ∧ Mem W cK w (cL :: H) ∧ Ow (RTg (RI .i64)) 42 cK cL v0 cH) cB ⟨_, _, _, rfl, _, cy, (GLe.refl _), f.weak ⟨rfl, rfl, rfl, rfl, rfl, trivial⟩, m, cz⟩ ?_
     clear cB f m
     rintro cG cM cN cO a w ⟨cH, cI, cJ, rfl, cK, cL, cP, f, m, cQ⟩
     refine k_block (k_seq ?_)
     obtain ⟨cR, cS, cN⟩ := bind_some cN
     refine k_cut (fun a w => ∃ cT : Int, cT = cR ∧ ∃ (cU : GH), GLe cK cU ∧ Fr a 178 [(0, v0), (1, (.int .i64 x1)), (4, (.func (.func 58) #[] #[])), (12, (.int .i64 cT)), (13, (.int .i64 cJ))] ∧ Mem W cU w (cL :: H)) ?_ ?_
     ·refine k_block ?_
      refine k_loop (fun cV a w => ∃ cW : Int, cW = cV ∧ ∃ (cX : GH), GLe cK cX ∧ Fr a 178 [(0, v0), (1, (.int .i64 x1)), (4, (.func (.func 58) #[] #[])), (12, (.int .i64 cW)), (13, (.int .i64 cJ))] ∧ Mem W cX w (cL :: H)) cS ⟨_, rfl, _, (GLe.refl _), f.weak ⟨rfl, rfl, rfl, rfl, rfl, trivial⟩, m⟩ ?_
      clear cS f m
      rintro cV cY cZ c0 a w ⟨cW, rfl, cX, c1, f, m⟩
      have cQ := Ow.mono (RTg.mono (RI.mono _)) c1 cQ
      refine k_seq (k_seq ?_)
      refine k_draw 16 Follows (by kernel_rfl) m ?_
      refine q_mv 0 16 rfl (by kernel_rfl) f rfl rfl rfl fun a f => q_mv 1 16 rfl (by kernel_rfl) f rfl rfl rfl fun a f => q_p 2 16 rfl (by kernel_rfl) f rfl rfl rfl (fun _ => r_int (f.eval rfl) (f.eval rfl) b_leq) fun a f => q_mv 3 16 rfl (by kernel_rfl) f rfl rfl rfl fun a f => ?_
      obtain ⟨c2, c3, cZ⟩ := bind_some cZ
      refine q_cut (fuel' := 0) (listed' := #[true, true, true, true, true, true, true, true, true, true, true, true, true, true, true, true]) (fun a => Fr a 178 [(0, v0), (1, (.int .i64 x1)), (4, (.func (.func 58) #[] #[])), (12, (.int .i64 cW)), (13, (.int .i64 cJ)), (105, (.int .i64 cW)), (106, (.int .i64 cJ)), (107, (.bool (decide (cW ≤ cJ)))), (108, (.bool (decide (cW ≤ cJ)))), (120, (.bool c2))]) ?_ ?_
      ·intro a f
       refine q_end fun c4 w c5 m => ?_
       have cQ := Ow.mono (RTg.mono (RI.mono _)) c5 cQ
       refine l_nil ?_
       rcases cond_some cZ with ⟨c6, cZ⟩ | ⟨c6, cZ⟩
       ·refine k_true f rfl c6 ?_
        refine k_skip ?_
        refine k_block (k_region ?_)
        refine l_mv f rfl rfl fun a f => l_in f rfl rfl rfl b_add fun a f => l_as f rfl rfl fun a f => l_nil ?_
        obtain rfl := sj cZ
        exact ⟨_, rfl, _, rfl, _, (GLe.trans c1 c5), f.weak ⟨rfl, rfl, rfl, rfl, rfl, trivial⟩, m⟩
       ·refine k_false f rfl c6 ?_
        refine k_exit rfl ?_
        obtain rfl := sj cZ
        obtain rfl := c0 _ rfl
        exact ⟨_, rfl, _, (GLe.trans c1 c5), f.weak ⟨rfl, rfl, rfl, rfl, rfl, trivial⟩, m⟩
      ·intro c7
       rcases cond_some c3 with ⟨c8, c3⟩ | ⟨c8, c3⟩
       ·refine q_mv 4 16 rfl (by kernel_rfl) f (wanted_of f rfl rfl rfl c8) rfl rfl fun a f => ?_
        refine q_mv 5 16 rfl (by kernel_rfl) f (wanted_of f rfl rfl rfl c8) rfl rfl fun a f => q_mv 6 16 rfl (by kernel_rfl) f (wanted_of f rfl rfl rfl c8) rfl rfl fun a f => ?_
        obtain ⟨c9, da, c3⟩ := bind_some c3
        refine q_own_at (i := 7) 16 0 m cQ rfl T22 da rfl (by kernel_rfl) rfl f (wanted_of f rfl rfl rfl c8) rfl rfl rfl fun db a dc f => q_own_load (i := 8) 16 0 cQ rfl Pl42 dc da rfl (by kernel_rfl) rfl f (wanted_of f rfl rfl rfl c8) rfl rfl fun dd a de f => q_mv 9 16 rfl (by kernel_rfl) f (wanted_of f rfl rfl rfl c8) rfl rfl fun a f => q_mv 10 16 rfl (by kernel_rfl) f (wanted_of f rfl rfl rfl c8) rfl rfl fun a f => ?_
        obtain ⟨df, dg, c3⟩ := bind_some c3
        refine q_own_at (i := 11) 16 0 m cQ rfl T22 dg rfl (by kernel_rfl) rfl f (wanted_of f rfl rfl rfl c8) rfl rfl rfl fun dh a di f => q_own_load (i := 12) 16 0 cQ rfl Pl42 di dg rfl (by kernel_rfl) rfl f (wanted_of f rfl rfl rfl c8) rfl rfl fun dj a dk f => ?_
        obtain ⟨dl, dm, c3⟩ := bind_some c3
        refine q_callv (i := 13) 16 rfl (by kernel_rfl) rfl f (wanted_of f rfl rfl rfl c8) rfl rfl rfl Tryz.call58 (fun _ _ w dn m => Wk.b m (rd1 dn (de.2)) (rd1 dn (dk.2)) dm) fun a f => q_p 14 16 rfl (by kernel_rfl) f (wanted_of f rfl rfl rfl c8) rfl rfl (fun _ => r_int (f.eval rfl) (f.eval rfl) b_lss) fun a f => q_p 15 16 rfl (by kernel_rfl) f rfl rfl rfl (fun _ => r_pickT (f.eval rfl) c8 (f.eval rfl)) fun a f => ?_
        obtain rfl := sj c3
        exact c7 _ (f.weak ⟨rfl, rfl, rfl, rfl, rfl, rfl, rfl, rfl, rfl, rfl, trivial⟩)
       ·refine q_ng 4 16 rfl (by kernel_rfl) f rfl rfl c8 rfl fun a f => ?_
        refine q_ng 5 16 rfl (by kernel_rfl) f rfl rfl c8 rfl fun a f => q_ng 6 16 rfl (by kernel_rfl) f rfl rfl c8 rfl fun a f => q_ng 7 16 rfl (by kernel_rfl) f rfl rfl c8 rfl fun a f => q_ng 8 16 rfl (by kernel_rfl) f rfl rfl c8 rfl fun a f => q_ng 9 16 rfl (by kernel_rfl) f rfl rfl c8 rfl fun a f => q_ng 10 16 rfl (by kernel_rfl) f rfl rfl c8 rfl fun a f => q_ng 11 16 rfl (by kernel_rfl) f rfl rfl c8 rfl fun a f => q_ng 12 16 rfl (by kernel_rfl) f rfl rfl c8 rfl fun a f => q_ng 13 16 rfl (by kernel_rfl) f rfl rfl c8 rfl fun a f => q_ng 14 16 rfl (by kernel_rfl) f rfl rfl c8 rfl fun a f => q_p 15 16 rfl (by kernel_rfl) f rfl rfl rfl (fun _ => r_pickF (f.eval rfl) c8 (f.eval rfl)) fun a f => ?_
        obtain rfl := sj c3
        exact c7 _ (f.weak ⟨rfl, rfl, rfl, rfl, rfl, rfl, rfl, rfl, rfl, rfl, trivial⟩)
     ·rintro a w ⟨cT, rfl, cU, dp, f, m⟩
      have cQ := Ow.mono (RTg.mono (RI.mono _)) dp cQ
      refine k_seq ?_
      obtain ⟨dq, dr, cN⟩ := bind_some cN
      refine k_cut (fun a w => ∃ ds : Int, ds = dq ∧ ∃ (dt : GH), GLe cU dt ∧ Fr a 178 [(0, v0), (1, (.int .i64 x1)), (4, (.func (.func 58) #[] #[])), (12, (.int .i64 cT)), (13, (.int .i64 ds))] ∧ Mem W dt w (cL :: H)) ?_ ?_
      ·refine k_block ?_
       refine k_loop (fun du a w => ∃ dv : Int, dv = du ∧ ∃ (dw : GH), GLe cU dw ∧ Fr a 178 [(0, v0), (1, (.int .i64 x1)), (4, (.func (.func 58) #[] #[])), (12, (.int .i64 cT)), (13, (.int .i64 dv))] ∧ Mem W dw w (cL :: H)) dr ⟨_, rfl, _, (GLe.refl _), f.weak ⟨rfl, rfl, rfl, rfl, rfl, trivial⟩, m⟩ ?_
       clear dr f m
       rintro du dx dy dz a w ⟨dv, rfl, dw, dA, f, m⟩
       have cQ := Ow.mono (RTg.mono (RI.mono _)) dA cQ
       refine k_seq (k_seq ?_)
       refine k_draw 17 Follows (by kernel_rfl) m ?_
       refine q_mv 0 17 rfl (by kernel_rfl) f rfl rfl rfl fun a f => q_mv 1 17 rfl (by kernel_rfl) f rfl rfl rfl fun a f => q_p 2 17 rfl (by kernel_rfl) f rfl rfl rfl (fun _ => r_int (f.eval rfl) (f.eval rfl) b_leq) fun a f => q_mv 3 17 rfl (by kernel_rfl) f rfl rfl rfl fun a f => ?_
       obtain ⟨dB, dC, dy⟩ := bind_some dy
       refine q_cut (fuel' := 0) (listed' := #[true, true, true, true, true, true, true, true, true, true, true, true, true, true, true, true, true]) (fun a => Fr a 178 [(0, v0), (1, (.int .i64 x1)), (4, (.func (.func 58) #[] #[])), (12, (.int .i64 cT)), (13, (.int .i64 dv)), (123, (.int .i64 cT)), (124, (.int .i64 dv)), (125, (.bool (decide (cT ≤ dv)))), (126, (.bool (decide (cT ≤ dv)))), (139, (.bool dB))]) ?_ ?_
       ·intro a f
        refine q_end fun dD w dE m => ?_
        have cQ := Ow.mono (RTg.mono (RI.mono _)) dE cQ
        refine l_nil ?_
        rcases cond_some dy with ⟨dF, dy⟩ | ⟨dF, dy⟩
        ·refine k_true f rfl dF ?_
         refine k_skip ?_
         refine k_block (k_region ?_)
         refine l_mv f rfl rfl fun a f => l_in f rfl rfl rfl b_sub fun a f => l_as f rfl rfl fun a f => l_nil ?_
         obtain rfl := sj dy
         exact ⟨_, rfl, _, rfl, _, (GLe.trans dA dE), f.weak ⟨rfl, rfl, rfl, rfl, rfl, trivial⟩, m⟩
        ·refine k_false f rfl dF ?_
         refine k_exit rfl ?_
         obtain rfl := sj dy
         obtain rfl := dz _ rfl
         exact ⟨_, rfl, _, (GLe.trans dA dE), f.weak ⟨rfl, rfl, rfl, rfl, rfl, trivial⟩, m⟩
       ·intro dG
        rcases cond_some dC with ⟨dH, dC⟩ | ⟨dH, dC⟩
        ·refine q_mv 4 17 rfl (by kernel_rfl) f (wanted_of f rfl rfl rfl dH) rfl rfl fun a f => ?_
         refine q_mv 5 17 rfl (by kernel_rfl) f (wanted_of f rfl rfl rfl dH) rfl rfl fun a f => q_mv 6 17 rfl (by kernel_rfl) f (wanted_of f rfl rfl rfl dH) rfl rfl fun a f => ?_
         obtain ⟨dI, dJ, dC⟩ := bind_some dC
         refine q_own_at (i := 7) 17 0 m cQ rfl T22 dJ rfl (by kernel_rfl) rfl f (wanted_of f rfl rfl rfl dH) rfl rfl rfl fun dK a dL f => q_own_load (i := 8) 17 0 cQ rfl Pl42 dL dJ rfl (by kernel_rfl) rfl f (wanted_of f rfl rfl rfl dH) rfl rfl fun dM a dN f => q_mv 9 17 rfl (by kernel_rfl) f (wanted_of f rfl rfl rfl dH) rfl rfl fun a f => q_mv 10 17 rfl (by kernel_rfl) f (wanted_of f rfl rfl rfl dH) rfl rfl fun a f => ?_
         obtain ⟨dO, dP, dC⟩ := bind_some dC
         refine q_own_at (i := 11) 17 0 m cQ rfl T22 dP rfl (by kernel_rfl) rfl f (wanted_of f rfl rfl rfl dH) rfl rfl rfl fun dQ a dR f => q_own_load (i := 12) 17 0 cQ rfl Pl42 dR dP rfl (by kernel_rfl) rfl f (wanted_of f rfl rfl rfl dH) rfl rfl fun dS a dT f => ?_
         obtain ⟨dU, dV, dC⟩ := bind_some dC
         refine q_callv (i := 13) 17 rfl (by kernel_rfl) rfl f (wanted_of f rfl rfl rfl dH) rfl rfl rfl Tryz.call58 (fun _ _ w dW m => Wk.b m (rd1 dW (dN.2)) (rd1 dW (dT.2)) dV) fun a f => q_p 14 17 rfl (by kernel_rfl) f (wanted_of f rfl rfl rfl dH) rfl rfl (fun _ => r_int (f.eval rfl) (f.eval rfl) b_lss) fun a f => q_p 15 17 rfl (by kernel_rfl) f (wanted_of f rfl rfl rfl dH) rfl rfl (fun _ => r_not (f.eval rfl)) fun a f => q_p 16 17 rfl (by kernel_rfl) f rfl rfl rfl (fun _ => r_pickT (f.eval rfl) dH (f.eval rfl)) fun a f => ?_
         obtain rfl := sj dC
         exact dG _ (f.weak ⟨rfl, rfl, rfl, rfl, rfl, rfl, rfl, rfl, rfl, rfl, trivial⟩)
        ·refine q_ng 4 17 rfl (by kernel_rfl) f rfl rfl dH rfl fun a f => ?_
         refine q_ng 5 17 rfl (by kernel_rfl) f rfl rfl dH rfl fun a f => q_ng 6 17 rfl (by kernel_rfl) f rfl rfl dH rfl fun a f => q_ng 7 17 rfl (by kernel_rfl) f rfl rfl dH rfl fun a f => q_ng 8 17 rfl (by kernel_rfl) f rfl rfl dH rfl fun a f => q_ng 9 17 rfl (by kernel_rfl) f rfl rfl dH rfl fun a f => q_ng 10 17 rfl (by kernel_rfl) f rfl rfl dH rfl fun a f => q_ng 11 17 rfl (by kernel_rfl) f rfl rfl dH rfl fun a f => q_ng 12 17 rfl (by kernel_rfl) f rfl rfl dH rfl fun a f => q_ng 13 17 rfl (by kernel_rfl) f rfl rfl dH rfl fun a f => q_ng 14 17 rfl (by kernel_rfl) f rfl rfl dH rfl fun a f => q_ng 15 17 rfl (by kernel_rfl) f rfl rfl dH rfl fun a f => q_p 16 17 rfl (by kernel_rfl) f rfl rfl rfl (fun _ => r_pickF (f.eval rfl) dH (f.eval rfl)) fun a f => ?_
         obtain rfl := sj dC
         exact dG _ (f.weak ⟨rfl, rfl, rfl, rfl, rfl, rfl, rfl, rfl, rfl, rfl, trivial⟩)
      ·rintro a w ⟨ds, rfl, dt, dX, f, m⟩
       have cQ := Ow.mono (RTg.mono (RI.mono _)) dX cQ
       refine k_seq (k_seq (k_region ?_))
       refine l_mv f rfl rfl fun a f => l_mv f rfl rfl fun a f => l_in f rfl rfl rfl b_gtr fun a f => l_nil ?_
       rcases cond_some cN with ⟨dY, cN⟩ | ⟨dY, cN⟩
       ·refine k_true f rfl dY ?_
        refine k_exit rfl ?_
        obtain rfl := sj cN
        obtain rfl := cO _ rfl
        exact ⟨_, _, rfl, _, cL, (GLe.trans cP (GLe.trans dp dX)), f.weak ⟨rfl, rfl, rfl, trivial⟩, m, cQ⟩
       ·refine k_false f rfl dY ?_
        refine k_skip ?_
        refine k_seq ?_
        refine k_draw0 Follows m ?_
        refine p_p 2 rfl (by kernel_rfl) f rfl rfl rfl (fun _ => r_move (f.eval rfl)) fun a f => p_p 3 rfl (by kernel_rfl) f rfl rfl rfl (fun _ => r_move (f.eval rfl)) fun a f => k_draw1 12013 11 (by kernel_rfl) rfl ?_
        refine q_mv 0 12013 rfl (by kernel_rfl) f rfl rfl rfl fun a f => q_mv 1 12013 rfl (by kernel_rfl) f rfl rfl rfl fun a f => q_mv 4 12013 rfl (by kernel_rfl) f rfl rfl rfl fun a f => q_mv 5 12013 rfl (by kernel_rfl) f rfl rfl rfl fun a f => ?_
        obtain ⟨dZ, d0, cN⟩ := bind_some cN
        refine q_own_at (i := 6) 12013 0 m cQ rfl T22 d0 rfl (by kernel_rfl) rfl f rfl rfl rfl rfl fun d1 a d2 f => q_own_load (i := 7) 12013 0 cQ rfl Pl42 d2 d0 rfl (by kernel_rfl) rfl f rfl rfl rfl fun d3 a d4 f => q_mv 8 12013 rfl (by kernel_rfl) f rfl rfl rfl fun a f => q_mv 9 12013 rfl (by kernel_rfl) f rfl rfl rfl fun a f => ?_
        obtain ⟨d5, d6, cN⟩ := bind_some cN
        refine q_own_at (i := 10) 12013 0 m cQ rfl T22 d6 rfl (by kernel_rfl) rfl f rfl rfl rfl rfl fun d7 a d8 f => q_own_load (i := 11) 12013 0 cQ rfl Pl42 d8 d6 rfl (by kernel_rfl) rfl f rfl rfl rfl fun d9 a ea f => ?_
        obtain ⟨eb, ec, cN⟩ := bind_some cN
        refine q_own_at (i := 12) 12013 0 m cQ rfl T22 ec rfl (by kernel_rfl) rfl f rfl rfl rfl rfl fun ed a ee f => q_end fun ef w eg m => ?_
        have d4 := (RTg.mono (RI.mono _)) _ _ _ _ eg d4
        have ea := (RTg.mono (RI.mono _)) _ _ _ _ eg ea
        have cQ := Ow.mono (RTg.mono (RI.mono _)) eg cQ
        refine l_own_store 0 m cQ rfl Tryz.sizeOf42 f rfl rfl ee ec d4.cells d4.one1 d4 fun eh w m ei => ?_
        obtain ⟨ej, ek, cN⟩ := bind_some cN
        refine l_own_at 0 m ei rfl T22 f rfl rfl rfl ek fun el a em f => l_own_store 0 m ei rfl Tryz.sizeOf42 f rfl rfl em ek ea.cells ea.one1 ea fun en w m eo => l_nil (k_seq (k_region ?_))
        refine l_mv f rfl rfl fun a f => l_in f rfl rfl rfl b_add fun a f => l_as f rfl rfl fun a f => l_nil (k_region ?_)
        refine l_mv f rfl rfl fun a f => l_in f rfl rfl rfl b_sub fun a f => l_as f rfl rfl fun a f => l_nil ?_
        obtain rfl := sj cN
        exact ⟨_, rfl, _, _, _, rfl, _, en, (GLe.trans cP (GLe.trans dp (GLe.trans dX eg))), f.weak ⟨rfl, rfl, rfl, rfl, rfl, trivial⟩, m, eo⟩
    ·rintro a w ⟨cC, cD, rfl, cE, cF, ep, f, m, eq⟩
     refine k_seq ?_
     refine k_draw0 Follows m ?_
     refine p_p 2 rfl (by kernel_rfl) f rfl rfl rfl (fun _ => r_move (f.eval rfl)) fun a f => p_p 3 rfl (by kernel_rfl) f rfl rfl rfl (fun _ => r_move (f.eval rfl)) fun a f => k_draw1 12013 11 (by kernel_rfl) rfl ?_
     refine q_mv 0 12013 rfl (by kernel_rfl) f rfl rfl rfl fun a f => q_mv 1 12013 rfl (by kernel_rfl) f rfl rfl rfl fun a f => q_mv 4 12013 rfl (by kernel_rfl) f rfl rfl rfl fun a f => q_mv 5 12013 rfl (by kernel_rfl) f rfl rfl rfl fun a f => ?_
     obtain ⟨er, es, hd⟩ := bind_some hd
     refine q_own_at (i := 6) 12013 0 m eq rfl T22 es rfl (by kernel_rfl) rfl f rfl rfl rfl rfl fun et a eu f => q_own_load (i := 7) 12013 0 eq rfl Pl42 eu es rfl (by kernel_rfl) rfl f rfl rfl rfl fun ev a ew f => q_mv 8 12013 rfl (by kernel_rfl) f rfl rfl rfl fun a f => q_mv 9 12013 rfl (by kernel_rfl) f rfl rfl rfl fun a f => ?_
     obtain ⟨ex, ey, hd⟩ := bind_some hd
     refine q_own_at (i := 10) 12013 0 m eq rfl T22 ey rfl (by kernel_rfl) rfl f rfl rfl rfl rfl fun ez a eA f => q_own_load (i := 11) 12013 0 eq rfl Pl42 eA ey rfl (by kernel_rfl) rfl f rfl rfl rfl fun eB a eC f => ?_
     obtain ⟨eD, eE, hd⟩ := bind_some hd
     refine q_own_at (i := 12) 12013 0 m eq rfl T22 eE rfl (by kernel_rfl) rfl f rfl rfl rfl rfl fun eF a eG f => q_end fun eH w eI m => ?_
     have ew := (RTg.mono (RI.mono _)) _ _ _ _ eI ew
     have eC := (RTg.mono (RI.mono _)) _ _ _ _ eI eC
     have eq := Ow.mono (RTg.mono (RI.mono _)) eI eq
     refine l_own_store 0 m eq rfl Tryz.sizeOf42 f rfl rfl eG eE ew.cells ew.one1 ew fun eJ w m eK => ?_
     obtain ⟨eL, eM, hd⟩ := bind_some hd
     refine l_own_at 0 m eK rfl T22 f rfl rfl rfl eM fun eN a eO f => l_own_store 0 m eK rfl Tryz.sizeOf42 f rfl rfl eO eM eC.cells eC.one1 eC fun eP w m eQ => l_nil (k_seq (k_region ?_))
     refine l_mv f rfl rfl fun a f => l_as f rfl rfl fun a f => l_as f rfl rfl fun a f => l_nil ?_
     refine k_ret ?_
     obtain rfl := sj hd
     exact ⟨[(.int .i64 cD), (.bool false)], ⟨f.get _ _ rfl, f.get _ _ rfl, trivial⟩, f.defers, _, [eP], (GLe.trans ar (GLe.trans a9 (GLe.trans bI (GLe.trans cr (GLe.trans ep eI))))), m, _, rfl, rfl, eQ⟩

theorem Wk.I {W : World} (n : Nat) : ∀ {w : World} {G : GH} {H : List Itm} {v0 : Value} {it0 : Itm} {x0 : (List (Value × List Int))} {x1 : Int} {x2 : Int} {x3 : Int} (m : Mem W G w (it0 :: H)) (o0 : Ow (RTg (RI .i64)) 42 G it0 v0 x0) {y : ((List (Value × List Int)))} (hd : D.I n x0 x1 x2 x3 = some y),
  Calls Tryz.prog 121 #[v0, (.int .i64 x1), (.int .i64 x2), (.int .i64 x3), (.func (.func 58) #[] #[])] w (Res W G H (fun G' Ho _ => ∃ i0 : Itm, Ho = [i0] ∧ Ow (RTg (RI .i64)) 42 G' i0 v0 y)) := by
 induction n with
 | zero => intros; rename_i hd; simp [D.I] at hd
 | succ fuel ih =>
  intro w G H v0 it0 x0 x1 x2 x3 m o0 y hd
  refine calls_b (args := [v0, (.int .i64 x1), (.int .i64 x2), (.int .i64 x3), (.func (.func 58) #[] #[])]) (N := 148) [] Tryz.func121 rfl rfl (Nat.le_of_ble_eq_true rfl) rfl fun a f => ?_
  unfold D.I at hd
  refine k_seq (k_region ?_)
  refine l_as f rfl rfl fun a f => l_nil (k_seq (k_region ?_))
  refine l_as f rfl rfl fun a f => l_nil ?_
  obtain ⟨aa, ab, hd⟩ := bind_some hd
  refine k_block ?_
  refine k_loop (fun ac a w => ∃ ad : List (Value × List Int), ∃ ae : Int, ∃ af : Int, ∃ ag : Int, ∃ ah : Bool, ∃ ai : Bool, (ad, ae, af, ag, ah, ai) = ac ∧ ∃ (aj : GH) (ak : Itm), GLe G aj ∧ Fr a 148 [(0, v0), (1, (.int .i64 ae)), (2, (.int .i64 af)), (3, (.int .i64 ag)), (4, (.func (.func 58) #[] #[])), (10, (.bool ah)), (11, (.bool ai))] ∧ Mem W aj w (ak :: H) ∧ Ow (RTg (RI .i64)) 42 aj ak v0 ad) ab ⟨_, _, _, _, _, _, rfl, _, it0, (GLe.refl _), f.weak ⟨rfl, rfl, rfl, rfl, rfl, rfl, rfl, trivial⟩, m, o0⟩ ?_
  clear ab f m
  rintro ac al am an a w ⟨ad, ae, af, ag, ah, ai, rfl, aj, ak, ao, f, m, ap⟩
  refine k_block (k_seq (k_region ?_))
  refine l_mv f rfl rfl fun a f => l_mv f rfl rfl fun a f => l_in f rfl rfl rfl b_sub fun a f => l_as f rfl rfl fun a f => l_nil (k_seq (k_seq (k_region ?_)))
  refine l_mv f rfl rfl fun a f => l_in f rfl rfl rfl b_leq fun a f => l_nil ?_
  rcases cond_some am with ⟨aq, am⟩ | ⟨aq, am⟩
  ·refine k_true f rfl aq ?_
   refine k_seq (k_region ?_)
   refine l_mv f rfl rfl fun a f => l_mv f rfl rfl fun a f => l_mv f rfl rfl fun a f => l_mv f rfl rfl fun a f => ?_
   obtain ⟨ar, au, am⟩ := bind_some am
   refine l_res f rfl rfl Tryz.call154 (Wk.a1 m ap au) fun av aw ax w ay m az a f => ?_
   obtain ⟨aA, rfl, aB⟩ := az
   refine l_nil ?_
   refine k_ret ?_
   obtain rfl := sj am
   obtain rfl := an _ rfl
   obtain rfl := sj hd
   exact ⟨[], trivial, f.defers, _, [aA], (GLe.trans ao ay), m, _, rfl, aB⟩
  ·refine k_false f rfl aq ?_
   refine k_skip ?_
   refine k_seq (k_seq (k_region ?_))
   refine l_mv f rfl rfl fun a f => l_in f rfl rfl rfl b_eql fun a f => l_nil ?_
   rcases cond_some am with ⟨aC, am⟩ | ⟨aC, am⟩
   ·refine k_true f rfl aC ?_
    refine k_seq (k_region ?_)
    refine l_mv f rfl rfl fun a f => l_mv f rfl rfl fun a f => l_mv f rfl rfl fun a f => l_mv f rfl rfl fun a f => ?_
    obtain ⟨aD, aE, am⟩ := bind_some am
    refine l_res f rfl rfl Tryz.call155 (Wk.Q0 m ap aE) fun aF aG aH w aI m aJ a f => ?_
    obtain ⟨aK, rfl, aL⟩ := aJ
    refine l_nil ?_
    refine k_ret ?_
    obtain rfl := sj am
    obtain rfl := an _ rfl
    obtain rfl := sj hd
    exact ⟨[], trivial, f.defers, _, [aK], (GLe.trans ao aI), m, _, rfl, aL⟩
   ·refine k_false f rfl aC ?_
    refine k_skip ?_
    refine k_seq (k_seq (k_region ?_))
    refine l_mv f rfl rfl fun a f => l_op f rfl rfl rfl (r_not (f.eval rfl)) fun a f => l_nil ?_
    obtain ⟨aM, aN, am⟩ := bind_some am
    refine k_cut (fun a w => ∃ aO : List (Value × List Int), ∃ aP : Int, (aO, aP) = aM ∧ ∃ (aQ : GH) (aR : Itm), GLe aj aQ ∧ Fr a 148 [(0, v0), (1, (.int .i64 ae)), (2, (.int .i64 af)), (3, (.int .i64 aP)), (4, (.func (.func 58) #[] #[])), (10, (.bool ah)), (11, (.bool ai)), (12, (.int .i64 (IntKind.i64.wrap (af - ae))))] ∧ Mem W aQ w (aR :: H) ∧ Ow (RTg (RI .i64)) 42 aQ aR v0 aO) ?_ ?_
    ·rcases cond_some aN with ⟨aS, aN⟩ | ⟨aS, aN⟩
     ·refine k_true f rfl aS ?_
      refine k_seq (k_region ?_)
      refine l_mv f rfl rfl fun a f => l_mv f rfl rfl fun a f => l_mv f rfl rfl fun a f => l_mv f rfl rfl fun a f => ?_
      obtain ⟨aT, aU, aN⟩ := bind_some aN
      refine l_res f rfl rfl Tryz.call156 (Wk.P0 m ap aU) fun aV aW aX w aY m aZ a f => ?_
      obtain ⟨a0, rfl, a1⟩ := aZ
      refine l_nil (k_region ?_)
      refine l_mv f rfl rfl fun a f => l_in f rfl rfl rfl b_sub fun a f => l_as f rfl rfl fun a f => l_nil ?_
      obtain rfl := sj aN
      exact ⟨_, _, rfl, _, a0, aY, f.weak ⟨rfl, rfl, rfl, rfl, rfl, rfl, rfl, rfl, trivial⟩, m, a1⟩
     ·refine k_false f rfl aS ?_
      refine k_skip ?_
      obtain rfl := sj aN
      exact ⟨_, _, rfl, _, ak, (GLe.refl _), f.weak ⟨rfl, rfl, rfl, rfl, rfl, rfl, rfl, rfl, trivial⟩, m, ap⟩
    ·rintro a w ⟨aO, aP, rfl, aQ, aR, a2, f, m, a3⟩
     refine k_seq (k_region ?_)
     refine l_mv f rfl rfl fun a f => l_mv f rfl rfl fun a f => l_mv f rfl rfl fun a f => l_mv f rfl rfl fun a f => ?_
     obtain ⟨a4, a5, am⟩ := bind_some am
     refine l_res f rfl rfl Tryz.call157 (Wk.e1 m a3 a5) fun a6 a7 a8 w a9 m ba a f => ?_
     obtain ⟨bb, rfl, rfl, bc⟩ := ba
     refine l_mv f rfl rfl fun a f => l_op f rfl rfl rfl (r_extract (f.eval rfl) rfl) fun a f => l_op f rfl rfl rfl (r_extract (f.eval rfl) rfl) fun a f => l_as f rfl rfl fun a f => l_as f rfl rfl fun a f => l_nil (k_seq (k_seq (k_region ?_)))
     refine l_mv f rfl rfl fun a f => l_in f rfl rfl rfl b_eql fun a f => l_nil ?_
     obtain ⟨bd, be, am⟩ := bind_some am
     refine k_cut (fun a w => ∃ bf : List (Value × List Int), ∃ bg : Int, ∃ bh : Int, (bf, bg, bh) = bd ∧ ∃ (bi : GH) (bj : Itm), GLe a7 bi ∧ Fr a 148 [(0, v0), (1, (.int .i64 ae)), (2, (.int .i64 af)), (3, (.int .i64 aP)), (4, (.func (.func 58) #[] #[])), (10, (.bool ah)), (11, (.bool ai)), (12, (.int .i64 (IntKind.i64.wrap (af - ae)))), (13, (.int .i64 bg)), (14, (.int .i64 bh))] ∧ Mem W bi w (bj :: H) ∧ Ow (RTg (RI .i64)) 42 bi bj v0 bf) ?_ ?_
     ·rcases cond_some be with ⟨bk, be⟩ | ⟨bk, be⟩
      ·refine k_true f rfl bk ?_
       refine k_seq (k_region ?_)
       refine l_mv f rfl rfl fun a f => l_mv f rfl rfl fun a f => l_mv f rfl rfl fun a f => l_mv f rfl rfl fun a f => ?_
       obtain ⟨bl, bm, be⟩ := bind_some be
       refine l_res f rfl rfl Tryz.call158 (Wk.W0 m bc bm) fun bn bo bp w bq m br a f => ?_
       obtain ⟨bs, rfl, bt⟩ := br
       refine l_nil (k_seq (k_region ?_))
       refine l_mv f rfl rfl fun a f => l_in f rfl rfl rfl b_sub fun a f => l_mv f rfl rfl fun a f => l_mv f rfl rfl fun a f => l_in f rfl rfl rfl b_sub fun a f => l_in f rfl rfl rfl b_sub fun a f => l_as f rfl rfl fun a f => l_nil (k_region ?_)
       refine l_as f rfl rfl fun a f => l_nil ?_
       obtain rfl := sj be
       exact ⟨_, _, _, rfl, _, bs, bq, f.weak ⟨rfl, rfl, rfl, rfl, rfl, rfl, rfl, rfl, rfl, rfl, trivial⟩, m, bt⟩
      ·refine k_false f rfl bk ?_
       refine k_skip ?_
       obtain rfl := sj be
       exact ⟨_, _, _, rfl, _, bb, (GLe.refl _), f.weak ⟨rfl, rfl, rfl, rfl, rfl, rfl, rfl, rfl, rfl, rfl, trivial⟩, m, bc⟩
     ·rintro a w ⟨bf, bg, bh, rfl, bi, bj, bu, f, m, bv⟩
      refine k_seq (k_seq (k_region ?_))
      refine l_mv f rfl rfl fun a f => l_mv f rfl rfl fun a f => ?_
      refine l_cut 2 (fun a w => ∃ bw, GLe bi bw ∧ Mem W bw w (bj :: H) ∧ Fr a 148 [(0, v0), (1, (.int .i64 ae)), (2, (.int .i64 af)), (3, (.int .i64 aP)), (4, (.func (.func 58) #[] #[])), (10, (.bool ah)), (11, (.bool ai)), (12, (.int .i64 (IntKind.i64.wrap (af - ae)))), (13, (.int .i64 bg)), (14, (.int .i64 bh)), (68, (.bool ah)), (69, (.bool ah)), (71, (.bool (ah && ai)))]) ?_ ?_
      ·rcases Bool.eq_false_or_eq_true ah with bx | bx
       ·refine l_run f rfl rfl bx ?_
        refine l_mv f rfl rfl fun a f => l_op f rfl rfl rfl (r_pickT (f.eval rfl) bx (f.eval rfl)) fun a f => ?_
        exact ⟨_, (GLe.refl _), m, f.weak ⟨rfl, rfl, rfl, rfl, rfl, rfl, rfl, rfl, rfl, rfl, rfl, rfl, by rw [bx]; rfl, trivial⟩⟩
       ·refine l_not' f rfl rfl rfl bx fun a f => ?_
        refine l_op f rfl rfl rfl (r_pickF (f.eval rfl) bx (f.eval rfl)) fun a f => ?_
        exact ⟨_, (GLe.refl _), m, f.weak ⟨rfl, rfl, rfl, rfl, rfl, rfl, rfl, rfl, rfl, rfl, rfl, rfl, by rw [bx]; rfl, trivial⟩⟩
      ·rintro a w ⟨bw, bz, m, f⟩
       have bv := Ow.mono (RTg.mono (RI.mono _)) bz bv
       refine l_mv f rfl rfl fun a f => ?_
       refine l_cut 3 (fun a w => ∃ bA, GLe bw bA ∧ Mem W bA w (bj :: H) ∧ Fr a 148 [(0, v0), (1, (.int .i64 ae)), (2, (.int .i64 af)), (3, (.int .i64 aP)), (4, (.func (.func 58) #[] #[])), (10, (.bool ah)), (11, (.bool ai)), (12, (.int .i64 (IntKind.i64.wrap (af - ae)))), (13, (.int .i64 bg)), (14, (.int .i64 bh)), (68, (.bool ah)), (69, (.bool ah)), (71, (.bool (ah && ai))), (72, (.bool (ah && ai))), (75, (.bool ((ah && ai) && (bh == 1))))]) ?_ ?_
       ·rcases Bool.eq_false_or_eq_true (ah && ai) with bB | bB
        ·refine l_run f rfl rfl bB ?_
         refine l_mv f rfl rfl fun a f => l_run f rfl rfl bB ?_
         refine l_in f rfl rfl rfl b_eql fun a f => l_op f rfl rfl rfl (r_pickT (f.eval rfl) bB (f.eval rfl)) fun a f => ?_
         exact ⟨_, (GLe.refl _), m, f.weak ⟨rfl, rfl, rfl, rfl, rfl, rfl, rfl, rfl, rfl, rfl, rfl, rfl, rfl, rfl, by rw [bB]; rfl, trivial⟩⟩
        ·refine l_not' f rfl rfl rfl bB fun a f => ?_
         refine l_not' f rfl rfl rfl bB fun a f => l_op f rfl rfl rfl (r_pickF (f.eval rfl) bB (f.eval rfl)) fun a f => ?_
         exact ⟨_, (GLe.refl _), m, f.weak ⟨rfl, rfl, rfl, rfl, rfl, rfl, rfl, rfl, rfl, rfl, rfl, rfl, rfl, rfl, by rw [bB]; rfl, trivial⟩⟩
       ·rintro a w ⟨bA, bC, m, f⟩
        have bv := Ow.mono (RTg.mono (RI.mono _)) bC bv
        refine l_nil ?_
        obtain ⟨bD, bE, am⟩ := bind_some am
        refine k_cut (fun a w => ∃ j_513' : (List (Value × List Int)), bD = .inl j_513' ∧ ∃ bF : List (Value × List Int), bF = j_513' ∧ ∃ (bG : GH) (bH : Itm), GLe bA bG ∧ Fr a 148 [(0, v0), (1, (.int .i64 ae)), (2, (.int .i64 af)), (3, (.int .i64 aP)), (4, (.func (.func 58) #[] #[])), (10, (.bool ah)), (11, (.bool ai)), (12, (.int .i64 (IntKind.i64.wrap (af - ae)))), (13, (.int .i64 bg))] ∧ Mem W bG w (bH :: H) ∧ Ow (RTg (RI .i64)) 42 bG bH v0 bF) ?_ ?_
        ·rcases cond_some bE with ⟨bI, bE⟩ | ⟨bI, bE⟩
         ·refine k_true f rfl bI ?_
          refine k_seq (k_region ?_)
          refine l_mv f rfl rfl fun a f => l_mv f rfl rfl fun a f => l_mv f rfl rfl fun a f => l_mv f rfl rfl fun a f => ?_
          obtain ⟨bJ, bK, bE⟩ := bind_some bE
          refine l_res f rfl rfl Tryz.call159 (Wk.N0 m bv bK) fun bL bM bN w bO m bP a f => ?_
          obtain ⟨bQ, rfl, rfl, bR⟩ := bP
          refine l_nil ?_
          rcases cond_some bE with ⟨bS, bE⟩ | ⟨bS, bE⟩
          ·refine k_true f rfl bS ?_
           refine k_ret ?_
           obtain rfl := sj bE
           obtain rfl := sj am
           obtain rfl := an _ rfl
           obtain rfl := sj hd
           exact ⟨[], trivial, f.defers, _, [bQ], (GLe.trans ao (GLe.trans a2 (GLe.trans a9 (GLe.trans bu (GLe.trans bz (GLe.trans bC bO)))))), m, _, rfl, bR⟩
          ·refine k_false f rfl bS ?_
           refine k_skip ?_
           obtain rfl := sj bE
           exact ⟨_, rfl, _, rfl, _, bQ, bO, f.weak ⟨rfl, rfl, rfl, rfl, rfl, rfl, rfl, rfl, rfl, trivial⟩, m, bR⟩
         ·refine k_false f rfl bI ?_
          refine k_skip ?_
          obtain rfl := sj bE
          exact ⟨_, rfl, _, rfl, _, bj, (GLe.refl _), f.weak ⟨rfl, rfl, rfl, rfl, rfl, rfl, rfl, rfl, rfl, trivial⟩, m, bv⟩
        ·rintro a w ⟨_, rfl, bF, rfl, bG, bH, bT, f, m, bU⟩
         refine k_seq (k_seq ?_)
         refine k_draw 17 Follows (by kernel_rfl) m ?_
         refine q_mv 0 17 rfl (by kernel_rfl) f rfl rfl rfl fun a f => q_p 1 17 rfl (by kernel_rfl) f rfl rfl rfl (fun _ => r_int (f.eval rfl) (f.eval rfl) b_gtr) fun a f => q_mv 2 17 rfl (by kernel_rfl) f rfl rfl rfl fun a f => ?_
         obtain ⟨bV, bW, am⟩ := bind_some am
         refine q_cut (fuel' := 0) (listed' := #[true, true, true, true, true, true, true, true, true, true, true, true, true, true, true, true, true]) (fun a => Fr a 148 [(0, v0), (1, (.int .i64 ae)), (2, (.int .i64 af)), (3, (.int .i64 aP)), (4, (.func (.func 58) #[] #[])), (10, (.bool ah)), (11, (.bool ai)), (12, (.int .i64 (IntKind.i64.wrap (af - ae)))), (13, (.int .i64 bg)), (81, (.int .i64 ae)), (82, (.bool (decide ((0 : Int) < ae)))), (83, (.bool (decide ((0 : Int) < ae)))), (97, (.bool bV))]) ?_ ?_
         ·intro a f
          refine q_end fun bX w bY m => ?_
          have bU := Ow.mono (RTg.mono (RI.mono _)) bY bU
          refine l_nil ?_
          rcases cond_some am with ⟨bZ, am⟩ | ⟨bZ, am⟩
          ·refine k_true f rfl bZ ?_
           refine k_seq (k_region ?_)
           refine l_mv f rfl rfl fun a f => l_mv f rfl rfl fun a f => l_mv f rfl rfl fun a f => l_mv f rfl rfl fun a f => l_mv f rfl rfl fun a f => ?_
           obtain ⟨b0, b1, am⟩ := bind_some am
           refine l_res f rfl rfl Tryz.call160 (Wk.R0 m bU b1) fun b2 b3 b4 w b5 m b6 a f => ?_
           obtain ⟨b7, rfl, rfl, b8⟩ := b6
           refine l_as f rfl rfl fun a f => l_nil (k_seq (k_region ?_))
           refine l_mv f rfl rfl fun a f => l_as f rfl rfl fun a f => l_nil ?_
           refine k_exit rfl ?_
           obtain rfl := sj am
           exact ⟨_, rfl, _, _, _, _, _, _, rfl, _, b7, (GLe.trans ao (GLe.trans a2 (GLe.trans a9 (GLe.trans bu (GLe.trans bz (GLe.trans bC (GLe.trans bT (GLe.trans bY b5)))))))), f.weak ⟨rfl, rfl, rfl, rfl, rfl, rfl, rfl, trivial⟩, m, b8⟩
          ·refine k_false f rfl bZ ?_
           refine k_skip ?_
           refine k_seq (k_region ?_)
           refine l_mv f rfl rfl fun a f => l_mv f rfl rfl fun a f => l_mv f rfl rfl fun a f => l_mv f rfl rfl fun a f => l_mv f rfl rfl fun a f => ?_
           obtain ⟨b9, ca, am⟩ := bind_some am
           refine l_res f rfl rfl Tryz.call161 (Wk.h1 m bU ca) fun cb cc cd w ce m cf a f => ?_
           obtain ⟨cg, rfl, rfl, ch⟩ := cf
           refine l_mv f rfl rfl fun a f => l_op f rfl rfl rfl (r_extract (f.eval rfl) rfl) fun a f => l_op f rfl rfl rfl (r_extract (f.eval rfl) rfl) fun a f => l_as f rfl rfl fun a f => l_as f rfl rfl fun a f => l_nil (k_seq (k_region ?_))
           refine l_mv f rfl rfl fun a f => l_as f rfl rfl fun a f => l_nil (k_seq (k_region ?_))
           refine l_mv f rfl rfl fun a f => l_mv f rfl rfl fun a f => l_in f rfl rfl rfl b_sub fun a f => l_mv f rfl rfl fun a f => l_mv f rfl rfl fun a f => l_in f rfl rfl rfl b_sub fun a f => l_as f rfl rfl fun a f => l_as f rfl rfl fun a f => l_nil (k_seq (k_region ?_))
           refine l_mv f rfl rfl fun a f => l_in f rfl rfl rfl (b_quo rfl) fun a f => l_as f rfl rfl fun a f => l_nil (k_seq (k_region ?_))
           refine l_mv f rfl rfl fun a f => l_mv f rfl rfl fun a f => l_in f rfl rfl rfl b_lss fun a f => l_nil ?_
           rcases cond_some am with ⟨ci, am⟩ | ⟨ci, am⟩
           ·refine k_true f rfl ci ?_
            refine k_seq (k_region ?_)
            refine l_mv f rfl rfl fun a f => l_mv f rfl rfl fun a f => l_in f rfl rfl rfl b_geq fun a f => l_as f rfl rfl fun a f => l_nil (k_seq (k_region ?_))
            refine l_mv f rfl rfl fun a f => l_mv f rfl rfl fun a f => l_mv f rfl rfl fun a f => l_mv f rfl rfl fun a f => l_mv f rfl rfl fun a f => ?_
            obtain ⟨cj, ck, am⟩ := bind_some am
            refine l_res f rfl rfl Tryz.call121 (ih m ch ck) fun cl cm cn w co m cp a f => ?_
            obtain ⟨cq, rfl, cr⟩ := cp
            refine l_nil (k_region ?_)
            refine l_mv f rfl rfl fun a f => l_in f rfl rfl rfl b_add fun a f => l_as f rfl rfl fun a f => l_nil ?_
            obtain rfl := sj am
            exact ⟨_, rfl, _, _, _, _, _, _, rfl, _, cq, (GLe.trans ao (GLe.trans a2 (GLe.trans a9 (GLe.trans bu (GLe.trans bz (GLe.trans bC (GLe.trans bT (GLe.trans bY (GLe.trans ce co))))))))), f.weak ⟨rfl, rfl, rfl, rfl, rfl, rfl, rfl, trivial⟩, m, cr⟩
           ·refine k_false f rfl ci ?_
            refine k_seq (k_region ?_)
            refine l_mv f rfl rfl fun a f => l_mv f rfl rfl fun a f => l_in f rfl rfl rfl b_geq fun a f => l_as f rfl rfl fun a f => l_nil (k_seq (k_region ?_))
            refine l_mv f rfl rfl fun a f => l_mv f rfl rfl fun a f => l_in f rfl rfl rfl b_add fun a f => l_mv f rfl rfl fun a f => l_mv f rfl rfl fun a f => l_mv f rfl rfl fun a f => ?_
            obtain ⟨cs, ct, am⟩ := bind_some am
            refine l_res f rfl rfl Tryz.call121 (ih m ch ct) fun cu cv cw w cx m cy a f => ?_
            obtain ⟨cz, rfl, cA⟩ := cy
            refine l_nil (k_region ?_)
            refine l_mv f rfl rfl fun a f => l_as f rfl rfl fun a f => l_nil ?_
            obtain rfl := sj am
            exact ⟨_, rfl, _, _, _, _, _, _, rfl, _, cz, (GLe.trans ao (GLe.trans a2 (GLe.trans a9 (GLe.trans bu (GLe.trans bz (GLe.trans bC (GLe.trans bT (GLe.trans bY (GLe.trans ce cx))))))))), f.weak ⟨rfl, rfl, rfl, rfl, rfl, rfl, rfl, trivial⟩, m, cA⟩
         ·intro cB
          rcases cond_some bW with ⟨cC, bW⟩ | ⟨cC, bW⟩
          ·refine q_mv 3 17 rfl (by kernel_rfl) f (wanted_of f rfl rfl rfl cC) rfl rfl fun a f => ?_
           refine q_mv 4 17 rfl (by kernel_rfl) f (wanted_of f rfl rfl rfl cC) rfl rfl fun a f => q_mv 5 17 rfl (by kernel_rfl) f (wanted_of f rfl rfl rfl cC) rfl rfl fun a f => q_p 6 17 rfl (by kernel_rfl) f (wanted_of f rfl rfl rfl cC) rfl rfl (fun _ => r_int (f.eval rfl) (f.eval rfl) b_sub) fun a f => ?_
           obtain ⟨cD, cE, bW⟩ := bind_some bW
           refine q_own_at (i := 7) 17 0 m bU rfl T22 cE rfl (by kernel_rfl) rfl f (wanted_of f rfl rfl rfl cC) rfl rfl rfl fun cF a cG f => q_own_load (i := 8) 17 0 bU rfl Pl42 cG cE rfl (by kernel_rfl) rfl f (wanted_of f rfl rfl rfl cC) rfl rfl fun cH a cI f => q_mv 9 17 rfl (by kernel_rfl) f (wanted_of f rfl rfl rfl cC) rfl rfl fun a f => q_mv 10 17 rfl (by kernel_rfl) f (wanted_of f rfl rfl rfl cC) rfl rfl fun a f => ?_
           obtain ⟨cJ, cK, bW⟩ := bind_some bW
           refine q_own_at (i := 11) 17 0 m bU rfl T22 cK rfl (by kernel_rfl) rfl f (wanted_of f rfl rfl rfl cC) rfl rfl rfl fun cL a cM f => q_own_load (i := 12) 17 0 bU rfl Pl42 cM cK rfl (by kernel_rfl) rfl f (wanted_of f rfl rfl rfl cC) rfl rfl fun cN a cO f => ?_
           obtain ⟨cP, cQ, bW⟩ := bind_some bW
           refine q_callv (i := 13) 17 rfl (by kernel_rfl) rfl f (wanted_of f rfl rfl rfl cC) rfl rfl rfl Tryz.call58 (fun _ _ w cR m => Wk.b m (rd1 cR (cI.2)) (rd1 cR (cO.2)) cQ) fun a f => q_p 14 17 rfl (by kernel_rfl) f (wanted_of f rfl rfl rfl cC) rfl rfl (fun _ => r_int (f.eval rfl) (f.eval rfl) b_lss) fun a f => q_p 15 17 rfl (by kernel_rfl) f (wanted_of f rfl rfl rfl cC) rfl rfl (fun _ => r_not (f.eval rfl)) fun a f => q_p 16 17 rfl (by kernel_rfl) f rfl rfl rfl (fun _ => r_pickT (f.eval rfl) cC (f.eval rfl)) fun a f => ?_
           obtain rfl := sj bW
           exact cB _ (f.weak ⟨rfl, rfl, rfl, rfl, rfl, rfl, rfl, rfl, rfl, rfl, rfl, rfl, rfl, trivial⟩)
          ·refine q_ng 3 17 rfl (by kernel_rfl) f rfl rfl cC rfl fun a f => ?_
           refine q_ng 4 17 rfl (by kernel_rfl) f rfl rfl cC rfl fun a f => q_ng 5 17 rfl (by kernel_rfl) f rfl rfl cC rfl fun a f => q_ng 6 17 rfl (by kernel_rfl) f rfl rfl cC rfl fun a f => q_ng 7 17 rfl (by kernel_rfl) f rfl rfl cC rfl fun a f => q_ng 8 17 rfl (by kernel_rfl) f rfl rfl cC rfl fun a f => q_ng 9 17 rfl (by kernel_rfl) f rfl rfl cC rfl fun a f => q_ng 10 17 rfl (by kernel_rfl) f rfl rfl cC rfl fun a f => q_ng 11 17 rfl (by kernel_rfl) f rfl rfl cC rfl fun a f => q_ng 12 17 rfl (by kernel_rfl) f rfl rfl cC rfl fun a f => q_ng 13 17 rfl (by kernel_rfl) f rfl rfl cC rfl fun a f => q_ng 14 17 rfl (by kernel_rfl) f rfl rfl cC rfl fun a f => q_ng 15 17 rfl (by kernel_rfl) f rfl rfl cC rfl fun a f => q_p 16 17 rfl (by kernel_rfl) f rfl rfl rfl (fun _ => r_pickF (f.eval rfl) cC (f.eval rfl)) fun a f => ?_
           obtain rfl := sj bW
           exact cB _ (f.weak ⟨rfl, rfl, rfl, rfl, rfl, rfl, rfl, rfl, rfl, rfl, rfl, rfl, rfl, trivial⟩)

theorem Wk.r {W w : World} {G : GH} {H : List Itm} {v0 : Value} {it0 : Itm} {x0 : (List (Value × List Int))} {x1 : Int} {x2 : Int} {x3 : Int} (m : Mem W G w (it0 :: H)) (o0 : Ow (RTg (RI .i64)) 42 G it0 v0 x0) {y : ((List (Value × List Int)))} (hd : D.r x0 x1 x2 x3 = some y) :
  Calls Tryz.prog 121 #[v0, (.int .i64 x1), (.int .i64 x2), (.int .i64 x3), (.func (.func 58) #[] #[])] w (Res W G H (fun G' Ho _ => ∃ i0 : Itm, Ho = [i0] ∧ Ow (RTg (RI .i64)) 42 G' i0 v0 y)) := by
 exact Wk.I recFuel m o0 hd

theorem Wk.o0 {W w : World} {G : GH} {H : List Itm} {v0 : Value} {it0 : Itm} {x0 : (List (Value × List Int))} (m : Mem W G w (it0 :: H)) (o0 : Ow (RTg (RI .i64)) 42 G it0 v0 x0) {y : ((List (Value × List Int)))} (hd : D.o0 x0 = some y) :
  Calls Tryz.prog 57 #[v0, (.func (.func 58) #[] #[])] w (Res W G H (fun G' Ho _ => ∃ i0 : Itm, Ho = [i0] ∧ Ow (RTg (RI .i64)) 42 G' i0 v0 y)) := by
 refine calls_b (args := [v0, (.func (.func 58) #[] #[])]) (N := 14) [] Tryz.func57 rfl rfl (Nat.le_of_ble_eq_true rfl) rfl fun a f => ?_
 unfold D.o0 at hd
 refine k_seq (k_region ?_)
 refine l_mv f rfl rfl fun a f => l_own_len 0 m o0 rfl Tryz.underlying22 f rfl rfl fun a f => l_as f rfl rfl fun a f => l_nil (k_region ?_)
 refine l_mv f rfl rfl fun a f => l_mv f rfl rfl fun a f => l_mv f rfl rfl fun a f => l_op f rfl rfl rfl (r_conv (f.eval rfl) ⟨_, Tryz.underlying3⟩ Tryz.underlying135) fun a f => ?_
 obtain ⟨aa, ab, hd⟩ := bind_some hd
 refine l_res f rfl rfl Tryz.call122 (Wk.z m  ab) fun ac ad ae w af m ag a f => ?_
 obtain ⟨rfl, rfl⟩ := ag
 have o0 := Ow.mono (RTg.mono (RI.mono _)) af o0
 refine l_mv f rfl rfl fun a f => ?_
 obtain ⟨ah, ai, hd⟩ := bind_some hd
 refine l_res f rfl rfl Tryz.call121 (Wk.r m o0 ai) fun aj ak al w am m an a f => ?_
 obtain ⟨ao, rfl, ap⟩ := an
 refine l_nil ?_
 obtain rfl := sj hd
 exact ⟨[], trivial, f.defers, _, [ao], (GLe.trans af am), m, _, rfl, ap⟩

theorem Wk.M0 {W w : World} {G : GH} {H : List Itm} {v0 : Value} {x0 : (List Int)} (m : Mem W G w (H)) (h0 : RSl (RI .i64) G v0 x0) {y : ((List Int))} (hd : D.M0 x0 = some y) :
  Calls Tryz.prog 107 #[v0] w (Res W G H (fun G' Ho v => ∃ r0 : Value, ∃ i0 : Itm, Ho = [i0] ∧ r0 = v ∧ Ow (RI .i64) 2 G' i0 r0 y)) := by
 refine calls_b (args := [v0]) (N := 21) [.tmp 2] Tryz.func107 rfl rfl (Nat.le_of_ble_eq_true rfl) rfl fun a f => ?_
 unfold D.M0 at hd
 refine k_seq (k_region ?_)
 refine l_as f rfl rfl fun a f => l_nil (k_seq (k_region ?_))
 refine l_mv f rfl rfl fun a f => l_len Tryz.underlying94 f rfl rfl h0 fun a f => ?_
 obtain ⟨aa, ab, hd⟩ := bind_some hd
 refine l_make (R := (RI .i64)) m T42 rfl (by decide) rfl f rfl rfl rfl ab fun ac ad w a m ae f => l_as f rfl rfl fun a f => l_nil (k_seq (k_seq (k_region ?_)))
 refine l_mv f rfl rfl fun a f => l_len Tryz.underlying94 f rfl rfl h0 fun a f => l_mv f rfl rfl fun a f => l_nil ?_
 obtain ⟨af, ag, hd⟩ := bind_some hd
 refine k_cut (fun a w => ∃ ah : List Int, ah = af ∧ ∃ (ai : GH) (aj : Value) (ak : Itm), GLe G ai ∧ Fr a 21 [(3, aj)] ∧ Mem W ai w (ak :: H) ∧ Ow (RI .i64) 2 ai ak aj ah) ?_ ?_
 ·refine k_block ?_
  refine k_loop (fun al a w => ∃ am : List Int, ∃ an : Int, (am, an) = al ∧ ∃ (ao : GH) (ap : Value) (aq : Itm), GLe G ao ∧ Fr a 21 [(3, ap), (9, v0), (10, (.int .i64 (x0.length : Int))), (11, (.int .i64 an))] ∧ Mem W ao w (aq :: H) ∧ Ow (RI .i64) 2 ao aq ap am) ag ⟨_, _, rfl, _, ad, ac, (GLe.refl _), f.weak ⟨rfl, rfl, rfl, rfl, trivial⟩, m, ae⟩ ?_
  clear ag f m
  rintro al ar au av a w ⟨am, an, rfl, ao, ap, aq, aw, f, m, ax⟩
  have h0 := rd1 aw h0
  refine k_seq (k_region ?_)
  refine l_in f rfl rfl rfl b_lss fun a f => l_nil (k_seq ?_)
  rcases cond_some au with ⟨ay, au⟩ | ⟨ay, au⟩
  ·refine k_true f rfl ay ?_
   refine k_skip ?_
   refine k_seq (k_block (k_seq (k_region ?_)))
   obtain ⟨az, aA, au⟩ := bind_some au
   refine l_at T94 f rfl rfl rfl h0 aA fun aB aC a aD aE f => ?_
   subst aE
   refine l_loadAt m Pl3 f rfl rfl aD fun a f => l_as f rfl rfl fun a f => l_nil (k_region ?_)
   refine l_mv f rfl rfl fun a f => l_mv f rfl rfl fun a f => l_slit (R := (RI .i64)) (xs := ([az] : List Int)) (RI.one _) m T42 f rfl rfl rfl (by decide) (All2.cons rfl (All2.nil _)) fun aF aG w a m aH f => ?_
   obtain ⟨aI, aJ, au⟩ := bind_some au
   refine l_append (RI.one _) 1 m ax rfl T42 rfl (by decide) f rfl rfl rfl (Ow.src (j := 0) aH m rfl) aJ fun aK aL w a m aM f => l_as f rfl rfl fun a f => l_nil (k_region ?_)
   refine l_in f rfl rfl rfl b_add fun a f => l_mv f rfl rfl fun a f => l_nil ?_
   have m := m.front 1 rfl
   have m := m.eraseAt 1
   obtain rfl := sj au
   exact ⟨_, rfl, _, _, rfl, _, aL, aK, aw, f.weak ⟨rfl, rfl, rfl, rfl, trivial⟩, m, aM⟩
  ·refine k_false f rfl ay ?_
   refine k_exit rfl ?_
   obtain rfl := sj au
   obtain rfl := av _ rfl
   exact ⟨_, rfl, _, ap, aq, aw, f.weak ⟨rfl, trivial⟩, m, ax⟩
 ·rintro a w ⟨ah, rfl, ai, aj, ak, aN, f, m, aO⟩
  refine k_seq (k_region ?_)
  refine l_mv f rfl rfl fun a f => l_as f rfl rfl fun a f => l_nil ?_
  refine k_ret ?_
  obtain rfl := sj hd
  exact ⟨[aj], ⟨f.get _ _ rfl, trivial⟩, f.defers, _, [ak], aN, m, _, _, rfl, rfl, aO⟩

theorem Wk.K0 {W w : World} {G : GH} {H : List Itm} {x0 : Int} (hW : TabW W) (m : Mem W G w (H))  {y : ((List Int))} (hd : D.K0 x0 = some y) :
  Calls Tryz.prog 124 #[(.int .u32 x0)] w (Res W G H (fun G' Ho v => ∃ r0 : Value, ∃ i0 : Itm, Ho = [i0] ∧ r0 = v ∧ Ow (RI .i64) 2 G' i0 r0 y)) := by
 refine calls_b (args := [(.int .u32 x0)]) (N := 6) [.tmp 2] Tryz.func124 rfl rfl (Nat.le_of_ble_eq_true rfl) rfl fun a f => ?_
 unfold D.K0 at hd
 refine k_seq (k_region ?_)
 refine l_as f rfl rfl fun a f => l_nil (k_seq (k_region ?_))
 refine l_mv f rfl rfl fun a f => ?_
 obtain ⟨aa, ab, hd⟩ := bind_some hd
 refine l_res f rfl rfl Tryz.call103 (Wk.f hW m  ab) fun ac ad ae w af m ag a f => ?_
 obtain ⟨ah, ai, rfl, rfl, aj⟩ := ag
 obtain ⟨ak, al, hd⟩ := bind_some hd
 refine l_res f rfl rfl Tryz.call107 (Ow.lendCall (RI.mono _) 0 aj m rfl (fun am an m ao => Wk.M0 m ao al) (fun _ G' _ _ ⟨a0, a1, e1, e2, o0⟩ => ⟨a0, a1, e1, e2, Ow.free (RI.free _) G' o0⟩)) fun ap aq ar w au m av a f => ?_
 obtain ⟨aw, ax, rfl, rfl, ay⟩ := av
 have aj := od1 au aj
 refine l_as f rfl rfl fun a f => l_nil ?_
 refine k_ret ?_
 have m := m.eraseAt 1
 obtain rfl := sj hd
 exact ⟨[aw], ⟨f.get _ _ rfl, trivial⟩, f.defers, _, [ax], (GLe.trans af au), m, _, _, rfl, rfl, ay⟩

theorem Wk.a0 {W w : World} {G : GH} {H : List Itm} {v0 : Value} {x0 : (List Int)} (hW : TabW W) (m : Mem W G w (H)) (h0 : RSl (RI .u32) G v0 x0) {y : ((List (List Int)))} (hd : D.a0 x0 = some y) :
  Calls Tryz.prog 59 #[v0] w (Res W G H (fun G' Ho v => ∃ r0 : Value, ∃ i0 : Itm, Ho = [i0] ∧ r0 = v ∧ Ow2 (RI .i64) 42 2 G' i0 r0 y)) := by
 refine calls_b (args := [v0]) (N := 20) [.tmp 2] Tryz.func59 rfl rfl (Nat.le_of_ble_eq_true rfl) rfl fun a f => ?_
 unfold D.a0 at hd
 refine k_seq (k_region ?_)
 refine l_as f rfl rfl fun a f => l_nil (k_seq (k_region ?_))
 refine l_slit (R := RawS) (xs := []) RawS.one m T22 f rfl rfl rfl (by decide) (All2.nil _) fun aa ab w a m ac f => ?_
 obtain ⟨ad, m, ae⟩ := Ow2.of_empty (RI .i64) 2 m ac
 refine l_as f rfl rfl fun a f => l_nil (k_seq (k_seq (k_region ?_)))
 refine l_mv f rfl rfl fun a f => l_len Tryz.underlying71 f rfl rfl h0 fun a f => l_mv f rfl rfl fun a f => l_nil ?_
 obtain ⟨af, ag, hd⟩ := bind_some hd
 refine k_cut (fun a w => ∃ ah : List (List Int), ah = af ∧ ∃ (ai : GH) (aj : Value) (ak : Itm), GLe G ai ∧ Fr a 20 [(3, aj)] ∧ Mem W ai w (ak :: H) ∧ Ow2 (RI .i64) 42 2 ai ak aj ah) ?_ ?_
 ·refine k_block ?_
  refine k_loop (fun al a w => ∃ am : List (List Int), ∃ an : Int, (am, an) = al ∧ ∃ (ao : GH) (ap : Value) (aq : Itm), GLe G ao ∧ Fr a 20 [(3, ap), (7, v0), (8, (.int .i64 (x0.length : Int))), (9, (.int .i64 an))] ∧ Mem W ao w (aq :: H) ∧ Ow2 (RI .i64) 42 2 ao aq ap am) ag ⟨_, _, rfl, _, ab, ad, (GLe.refl _), f.weak ⟨rfl, rfl, rfl, rfl, trivial⟩, m, ae⟩ ?_
  clear ag f m
  rintro al ar au av a w ⟨am, an, rfl, ao, ap, aq, aw, f, m, ax⟩
  have h0 := rd1 aw h0
  refine k_seq (k_region ?_)
  refine l_in f rfl rfl rfl b_lss fun a f => l_nil (k_seq ?_)
  rcases cond_some au with ⟨ay, au⟩ | ⟨ay, au⟩
  ·refine k_true f rfl ay ?_
   refine k_skip ?_
   refine k_seq (k_block (k_seq (k_region ?_)))
   obtain ⟨az, aA, au⟩ := bind_some au
   refine l_at T71 f rfl rfl rfl h0 aA fun aB aC a aD aE f => ?_
   subst aE
   refine l_loadAt m Pl76 f rfl rfl aD fun a f => l_as f rfl rfl fun a f => l_nil (k_region ?_)
   refine l_mv f rfl rfl fun a f => l_mv f rfl rfl fun a f => ?_
   obtain ⟨aF, aG, au⟩ := bind_some au
   refine l_res f rfl rfl Tryz.call124 (Wk.K0 hW m  aG) fun aH aI aJ w aK m aL a f => ?_
   obtain ⟨aM, aN, rfl, rfl, aO⟩ := aL
   have h0 := rd1 aK h0
   have ax := Ow2.mono (RI.mono _) aK ax
   refine l_slit (R := RawS) (xs := [aM]) RawS.one m T22 f rfl rfl rfl (by decide) (All2.cons ⟨rfl, Ow.one1 0 m aO rfl, Ow.cells 0 m aO rfl⟩ (All2.nil _)) fun aP aQ w a m aR f => ?_
   have m := m.front 1 rfl
   have m := m.front 2 rfl
   obtain ⟨aS, aT, au⟩ := bind_some au
   refine l_append2 m ax aO aR T22 rfl (by decide) f rfl rfl rfl aT fun aU aV w a m aW f => l_as f rfl rfl fun a f => l_nil (k_region ?_)
   refine l_in f rfl rfl rfl b_add fun a f => l_mv f rfl rfl fun a f => l_nil ?_
   obtain rfl := sj au
   exact ⟨_, rfl, _, _, rfl, _, aV, aU, (GLe.trans aw aK), f.weak ⟨rfl, rfl, rfl, rfl, trivial⟩, m, aW⟩
  ·refine k_false f rfl ay ?_
   refine k_exit rfl ?_
   obtain rfl := sj au
   obtain rfl := av _ rfl
   exact ⟨_, rfl, _, ap, aq, aw, f.weak ⟨rfl, trivial⟩, m, ax⟩
 ·rintro a w ⟨ah, rfl, ai, aj, ak, aX, f, m, aY⟩
  refine k_seq (k_region ?_)
  refine l_mv f rfl rfl fun a f => l_as f rfl rfl fun a f => l_nil ?_
  refine k_ret ?_
  obtain rfl := sj hd
  exact ⟨[aj], ⟨f.get _ _ rfl, trivial⟩, f.defers, _, [ak], aX, m, _, _, rfl, rfl, aY⟩

theorem Wk.j {W w : World} {G : GH} {H : List Itm} {v0 : Value} {v1 : Value} {x0 : (List Int)} {x1 : (List Int)} (m : Mem W G w (H)) (h0 : RSl (RI .i64) G v0 x0) (h1 : RSl (RI .i64) G v1 x1) {y : Bool} (hd : D.j x0 x1 = some y) :
  Calls Tryz.prog 24 #[v0, v1] w (Res W G H (fun _ Ho v => Ho = [] ∧ v = (.bool y))) := by
 refine calls_b (args := [v0, v1]) (N := 26) [.tmp 4] Tryz.func24 rfl rfl (Nat.le_of_ble_eq_true rfl) rfl fun a f => ?_
 unfold D.j at hd
 refine k_seq (k_region ?_)
 refine l_as f rfl rfl fun a f => l_nil (k_seq (k_seq (k_region ?_)))
 refine l_mv f rfl rfl fun a f => l_len Tryz.underlying42 f rfl rfl h0 fun a f => l_mv f rfl rfl fun a f => l_len Tryz.underlying42 f rfl rfl h1 fun a f => l_in f rfl rfl rfl b_neq fun a f => l_nil ?_
 rcases cond_some hd with ⟨aa, hd⟩ | ⟨aa, hd⟩
 ·refine k_true f rfl aa ?_
  refine k_seq (k_region ?_)
  refine l_as f rfl rfl fun a f => l_nil ?_
  refine k_ret ?_
  obtain rfl := sj hd
  exact ⟨[(.bool false)], ⟨f.get _ _ rfl, trivial⟩, f.defers, _, [], (GLe.refl _), m, rfl, rfl⟩
 ·refine k_false f rfl aa ?_
  refine k_skip ?_
  refine k_seq (k_seq (k_region ?_))
  refine l_as f rfl rfl fun a f => l_nil ?_
  obtain ⟨ab, ac, hd⟩ := bind_some hd
  refine k_cut (fun a w => ∃ q_36' : Unit, ab = .inl q_36' ∧ ∃ (ad : GH), GLe G ad ∧ Fr a 26 [] ∧ Mem W ad w (H)) ?_ ?_
  ·refine k_block ?_
   refine k_loop (fun ae a w => ∃ af : Int, af = ae ∧ ∃ (ag : GH), GLe G ag ∧ Fr a 26 [(0, v0), (1, v1), (5, (.int .i64 af))] ∧ Mem W ag w (H)) ac ⟨_, rfl, _, (GLe.refl _), f.weak ⟨rfl, rfl, rfl, trivial⟩, m⟩ ?_
   clear ac f m
   rintro ae ah ai aj a w ⟨af, rfl, ag, ak, f, m⟩
   have h0 := rd1 ak h0
   have h1 := rd1 ak h1
   refine k_seq (k_seq (k_region ?_))
   refine l_mv f rfl rfl fun a f => l_mv f rfl rfl fun a f => l_len Tryz.underlying42 f rfl rfl h0 fun a f => l_in f rfl rfl rfl b_lss fun a f => l_nil ?_
   rcases cond_some ai with ⟨al, ai⟩ | ⟨al, ai⟩
   ·refine k_true f rfl al ?_
    refine k_skip ?_
    refine k_seq (k_block (k_seq ?_))
    refine k_draw 9 Follows (by kernel_rfl) m ?_
    refine q_mv 0 9 rfl (by kernel_rfl) f rfl rfl rfl fun a f => q_mv 1 9 rfl (by kernel_rfl) f rfl rfl rfl fun a f => ?_
    obtain ⟨am, an, ai⟩ := bind_some ai
    refine q_at (i := 2) 9 T42 h0 an rfl (by kernel_rfl) rfl f rfl rfl rfl rfl fun ao ap a aq ar f => ?_
    subst ar
    refine q_loadAt (i := 3) 9 Pl2 aq rfl (by kernel_rfl) rfl f rfl rfl rfl fun a f => q_mv 4 9 rfl (by kernel_rfl) f rfl rfl rfl fun a f => q_mv 5 9 rfl (by kernel_rfl) f rfl rfl rfl fun a f => ?_
    obtain ⟨au, av, ai⟩ := bind_some ai
    refine q_at (i := 6) 9 T42 h1 av rfl (by kernel_rfl) rfl f rfl rfl rfl rfl fun aw ax a ay az f => ?_
    subst az
    refine q_loadAt (i := 7) 9 Pl2 ay rfl (by kernel_rfl) rfl f rfl rfl rfl fun a f => q_p 8 9 rfl (by kernel_rfl) f rfl rfl rfl (fun _ => r_int (f.eval rfl) (f.eval rfl) b_neq) fun a f => q_end fun aA w aB m => ?_
    have h0 := rd1 aB h0
    have h1 := rd1 aB h1
    have aq := At.mono aB aq
    have ay := At.mono aB ay
    refine l_nil ?_
    rcases cond_some ai with ⟨aC, ai⟩ | ⟨aC, ai⟩
    ·refine k_true f rfl aC ?_
     refine k_seq (k_region ?_)
     refine l_as f rfl rfl fun a f => l_nil ?_
     refine k_ret ?_
     obtain rfl := sj ai
     obtain rfl := aj _ rfl
     obtain rfl := sj hd
     exact ⟨[(.bool false)], ⟨f.get _ _ rfl, trivial⟩, f.defers, _, [], (GLe.trans ak aB), m, rfl, rfl⟩
    ·refine k_false f rfl aC ?_
     refine k_skip ?_
     refine k_region ?_
     refine l_mv f rfl rfl fun a f => l_in f rfl rfl rfl b_add fun a f => l_as f rfl rfl fun a f => l_nil ?_
     obtain rfl := sj ai
     exact ⟨_, rfl, _, rfl, _, (GLe.trans ak aB), f.weak ⟨rfl, rfl, rfl, trivial⟩, m⟩
   ·refine k_false f rfl al ?_
    refine k_exit rfl ?_
    obtain rfl := sj ai
    obtain rfl := aj _ rfl
    exact ⟨_, rfl, _, ak, f.weak trivial, m⟩
  ·rintro a w ⟨_, rfl, ad, aD, f, m⟩
   refine k_seq (k_region ?_)
   refine l_as f rfl rfl fun a f => l_nil ?_
   refine k_ret ?_
   obtain rfl := sj hd
   exact ⟨[(.bool true)], ⟨f.get _ _ rfl, trivial⟩, f.defers, _, [], aD, m, rfl, rfl⟩

theorem Wk.A {W w : World} {G : GH} {H : List Itm} {v0 : Value} {v1 : Value} {x0 : (List (List Int))} {x1 : (List (List Int))} (m : Mem W G w (H)) (h0 : RSl (RSl (RI .i64)) G v0 x0) (h1 : RSl (RSl (RI .i64)) G v1 x1) {y : Bool} (hd : D.A x0 x1 = some y) :
  Calls Tryz.prog 60 #[v0, v1] w (Res W G H (fun _ Ho v => Ho = [] ∧ v = (.bool y))) := by
 refine calls_b (args := [v0, v1]) (N := 27) [.tmp 4] Tryz.func60 rfl rfl (Nat.le_of_ble_eq_true rfl) rfl fun a f => ?_
 unfold D.A at hd
 refine k_seq (k_region ?_)
 refine l_as f rfl rfl fun a f => l_nil (k_seq (k_seq (k_region ?_)))
 refine l_mv f rfl rfl fun a f => l_len Tryz.underlying22 f rfl rfl h0 fun a f => l_mv f rfl rfl fun a f => l_len Tryz.underlying22 f rfl rfl h1 fun a f => l_in f rfl rfl rfl b_neq fun a f => l_nil ?_
 rcases cond_some hd with ⟨aa, hd⟩ | ⟨aa, hd⟩
 ·refine k_true f rfl aa ?_
  refine k_seq (k_region ?_)
  refine l_as f rfl rfl fun a f => l_nil ?_
  refine k_ret ?_
  obtain rfl := sj hd
  exact ⟨[(.bool false)], ⟨f.get _ _ rfl, trivial⟩, f.defers, _, [], (GLe.refl _), m, rfl, rfl⟩
 ·refine k_false f rfl aa ?_
  refine k_skip ?_
  refine k_seq (k_seq (k_region ?_))
  refine l_as f rfl rfl fun a f => l_nil ?_
  obtain ⟨ab, ac, hd⟩ := bind_some hd
  refine k_cut (fun a w => ∃ q_42' : Unit, ab = .inl q_42' ∧ ∃ (ad : GH), GLe G ad ∧ Fr a 27 [] ∧ Mem W ad w (H)) ?_ ?_
  ·refine k_block ?_
   refine k_loop (fun ae a w => ∃ af : Int, af = ae ∧ ∃ (ag : GH), GLe G ag ∧ Fr a 27 [(0, v0), (1, v1), (5, (.int .i64 af))] ∧ Mem W ag w (H)) ac ⟨_, rfl, _, (GLe.refl _), f.weak ⟨rfl, rfl, rfl, trivial⟩, m⟩ ?_
   clear ac f m
   rintro ae ah ai aj a w ⟨af, rfl, ag, ak, f, m⟩
   have h0 := rd2 ak h0
   have h1 := rd2 ak h1
   refine k_seq (k_seq (k_region ?_))
   refine l_mv f rfl rfl fun a f => l_mv f rfl rfl fun a f => l_len Tryz.underlying22 f rfl rfl h0 fun a f => l_in f rfl rfl rfl b_lss fun a f => l_nil ?_
   rcases cond_some ai with ⟨al, ai⟩ | ⟨al, ai⟩
   ·refine k_true f rfl al ?_
    refine k_skip ?_
    refine k_seq (k_block (k_seq ?_))
    refine k_draw 10 Follows (by kernel_rfl) m ?_
    refine q_mv 0 10 rfl (by kernel_rfl) f rfl rfl rfl fun a f => q_mv 1 10 rfl (by kernel_rfl) f rfl rfl rfl fun a f => ?_
    obtain ⟨am, an, ai⟩ := bind_some ai
    refine q_at (i := 2) 10 T22 h0 an rfl (by kernel_rfl) rfl f rfl rfl rfl rfl fun ao ap a aq ar f => q_loadAt (i := 3) 10 Pl42 aq rfl (by kernel_rfl) rfl f rfl rfl rfl fun a f => q_mv 4 10 rfl (by kernel_rfl) f rfl rfl rfl fun a f => q_mv 5 10 rfl (by kernel_rfl) f rfl rfl rfl fun a f => ?_
    obtain ⟨au, av, ai⟩ := bind_some ai
    refine q_at (i := 6) 10 T22 h1 av rfl (by kernel_rfl) rfl f rfl rfl rfl rfl fun aw ax a ay az f => q_loadAt (i := 7) 10 Pl42 ay rfl (by kernel_rfl) rfl f rfl rfl rfl fun a f => ?_
    obtain ⟨aA, aB, ai⟩ := bind_some ai
    refine q_call (i := 8) 10 rfl (by kernel_rfl) rfl f rfl rfl rfl Tryz.call24 (fun _ _ w aC m => Wk.j m (rd1 aC ar) (rd1 aC az) aB) fun a f => q_p 9 10 rfl (by kernel_rfl) f rfl rfl rfl (fun _ => r_not (f.eval rfl)) fun a f => q_end fun aD w aE m => ?_
    have h0 := rd2 aE h0
    have h1 := rd2 aE h1
    have aq := At.mono aE aq
    have ar := rd1 aE ar
    have ay := At.mono aE ay
    have az := rd1 aE az
    refine l_nil ?_
    rcases cond_some ai with ⟨aF, ai⟩ | ⟨aF, ai⟩
    ·refine k_true f rfl aF ?_
     refine k_seq (k_region ?_)
     refine l_as f rfl rfl fun a f => l_nil ?_
     refine k_ret ?_
     obtain rfl := sj ai
     obtain rfl := aj _ rfl
     obtain rfl := sj hd
     exact ⟨[(.bool false)], ⟨f.get _ _ rfl, trivial⟩, f.defers, _, [], (GLe.trans ak aE), m, rfl, rfl⟩
    ·refine k_false f rfl aF ?_
     refine k_skip ?_
     refine k_region ?_
     refine l_mv f rfl rfl fun a f => l_in f rfl rfl rfl b_add fun a f => l_as f rfl rfl fun a f => l_nil ?_
     obtain rfl := sj ai
     exact ⟨_, rfl, _, rfl, _, (GLe.trans ak aE), f.weak ⟨rfl, rfl, rfl, trivial⟩, m⟩
   ·refine k_false f rfl al ?_
    refine k_exit rfl ?_
    obtain rfl := sj ai
    obtain rfl := aj _ rfl
    exact ⟨_, rfl, _, ak, f.weak trivial, m⟩
  ·rintro a w ⟨_, rfl, ad, aG, f, m⟩
   refine k_seq (k_region ?_)
   refine l_as f rfl rfl fun a f => l_nil ?_
   refine k_ret ?_
   obtain rfl := sj hd
   exact ⟨[(.bool true)], ⟨f.get _ _ rfl, trivial⟩, f.defers, _, [], aG, m, rfl, rfl⟩

theorem Wk.D {W w : World} {G : GH} {H : List Itm} {v0_0 : Value} {v0_1 : Value} {v1_0 : Value} {v1_1 : Value} {x0_0 : (List (List Int))} {x0_1 : (List (List Int))} {x1_0 : (List (List Int))} {x1_1 : (List (List Int))} (m : Mem W G w (H)) (h0_0 : RSl (RSl (RI .i64)) G v0_0 x0_0) (h0_1 : RSl (RSl (RI .i64)) G v0_1 x0_1) (h1_0 : RSl (RSl (RI .i64)) G v1_0 x1_0) (h1_1 : RSl (RSl (RI .i64)) G v1_1 x1_1) {y : Bool} (hd : D.D x0_0 x0_1 x1_0 x1_1 = some y) :
  Calls Tryz.prog 12 #[(.agg #[v0_0, v0_1]), (.agg #[v1_0, v1_1])] w (Res W G H (fun _ Ho v => Ho = [] ∧ v = (.bool y))) := by
 refine calls_b (args := [(.agg #[v0_0, v0_1]), (.agg #[v1_0, v1_1])]) (N := 17) [.tmp 4] Tryz.func12 rfl rfl (Nat.le_of_ble_eq_true rfl) rfl fun a f => ?_
 unfold D.D at hd
 refine k_seq (k_region ?_)
 refine l_box (cs := [v0_0, v0_1]) m f rfl rfl rfl fun aa w a m f => l_box (cs := [v1_0, v1_1]) m f rfl rfl rfl fun ab w a m f => l_as f rfl rfl fun a f => l_nil (k_seq (k_seq (k_region ?_)))
 refine l_fieldAddr Tryz.underlying27 rfl Tryz.sizeOf22 (by decide) f rfl rfl fun a f => l_boxCell 1 0 m Pl22 f rfl rfl rfl rfl fun a f => l_fieldAddr Tryz.underlying27 rfl Tryz.sizeOf22 (by decide) f rfl rfl fun a f => l_boxCell 0 0 m Pl22 f rfl rfl rfl rfl fun a f => ?_
 obtain ⟨ac, ad, hd⟩ := bind_some hd
 refine l_res f rfl rfl Tryz.call60 (Wk.A m h0_0 h1_0 ad) fun ae af ag w ah m ai a f => ?_
 obtain ⟨rfl, rfl⟩ := ai
 have h0_0 := rd2 ah h0_0
 have h0_1 := rd2 ah h0_1
 have h1_0 := rd2 ah h1_0
 have h1_1 := rd2 ah h1_1
 refine l_op f rfl rfl rfl (r_not (f.eval rfl)) fun a f => l_nil ?_
 rcases cond_some hd with ⟨aj, hd⟩ | ⟨aj, hd⟩
 ·refine k_true f rfl aj ?_
  refine k_seq (k_region ?_)
  refine l_as f rfl rfl fun a f => l_nil ?_
  refine k_ret ?_
  have m : Mem W af w H := Mem.drop (H' := [Itm.box ab 27 [v1_0, v1_1], Itm.box aa 27 [v0_0, v0_1]]) m
  obtain rfl := sj hd
  exact ⟨[(.bool false)], ⟨f.get _ _ rfl, trivial⟩, f.defers, _, [], ah, m, rfl, rfl⟩
 ·refine k_false f rfl aj ?_
  refine k_skip ?_
  refine k_seq (k_seq (k_region ?_))
  refine l_fieldAddr Tryz.underlying27 rfl Tryz.sizeOf22 (by decide) f rfl rfl fun a f => l_boxCell 1 1 m Pl22 f rfl rfl rfl rfl fun a f => l_fieldAddr Tryz.underlying27 rfl Tryz.sizeOf22 (by decide) f rfl rfl fun a f => l_boxCell 0 1 m Pl22 f rfl rfl rfl rfl fun a f => ?_
  obtain ⟨ak, al, hd⟩ := bind_some hd
  refine l_res f rfl rfl Tryz.call60 (Wk.A m h0_1 h1_1 al) fun am an ao w ap m aq a f => ?_
  obtain ⟨rfl, rfl⟩ := aq
  have h0_0 := rd2 ap h0_0
  have h0_1 := rd2 ap h0_1
  have h1_0 := rd2 ap h1_0
  have h1_1 := rd2 ap h1_1
  refine l_op f rfl rfl rfl (r_not (f.eval rfl)) fun a f => l_nil ?_
  rcases cond_some hd with ⟨ar, hd⟩ | ⟨ar, hd⟩
  ·refine k_true f rfl ar ?_
   refine k_seq (k_region ?_)
   refine l_as f rfl rfl fun a f => l_nil ?_
   refine k_ret ?_
   have m : Mem W an w H := Mem.drop (H' := [Itm.box ab 27 [v1_0, v1_1], Itm.box aa 27 [v0_0, v0_1]]) m
   obtain rfl := sj hd
   exact ⟨[(.bool false)], ⟨f.get _ _ rfl, trivial⟩, f.defers, _, [], (GLe.trans ah ap), m, rfl, rfl⟩
  ·refine k_false f rfl ar ?_
   refine k_skip ?_
   refine k_seq (k_region ?_)
   refine l_as f rfl rfl fun a f => l_nil ?_
   refine k_ret ?_
   have m : Mem W an w H := Mem.drop (H' := [Itm.box ab 27 [v1_0, v1_1], Itm.box aa 27 [v0_0, v0_1]]) m
   obtain rfl := sj hd
   exact ⟨[(.bool true)], ⟨f.get _ _ rfl, trivial⟩, f.defers, _, [], (GLe.trans ah ap), m, rfl, rfl⟩

end Go.Proofs.YtebbefpdncgoiaaGreatDoor

set_option maxRecDepth 100000
namespace Go.Proofs.YtebbefpdncgoiaaGreatDoor
open Go Go.Sx
theorem Ag24 : Agg Tryz.prog 24 1 := ⟨Tryz.isAgg24, Tryz.sizeOf24⟩

theorem Wk.L0 {W w : World} {G : GH} {H : List Itm} {v0_0 : Value} {v1_0 : Value} {x0_0 : (List (List Int))} {x1_0 : (List (List Int))} (m : Mem W G w (H)) (h0_0 : RSl (RSl (RI .i64)) G v0_0 x0_0) (h1_0 : RSl (RSl (RI .i64)) G v1_0 x1_0) {y : Bool} (hd : D.L0 x0_0 x1_0 = some y) :
  Calls Tryz.prog 13 #[(.agg #[v0_0]), (.agg #[v1_0])] w (Res W G H (fun _ Ho v => Ho = [] ∧ v = (.bool y))) := by
 refine calls_b (args := [(.agg #[v0_0]), (.agg #[v1_0])]) (N := 11) [.tmp 4] Tryz.func13 rfl rfl (Nat.le_of_ble_eq_true rfl) rfl fun a f => ?_
 unfold D.L0 at hd
 refine k_seq (k_region ?_)
 refine l_box (cs := [v0_0]) m f rfl rfl rfl fun aa w a m f => l_box (cs := [v1_0]) m f rfl rfl rfl fun ab w a m f => l_as f rfl rfl fun a f => l_nil (k_seq (k_seq (k_region ?_)))
 refine l_fieldAddr Tryz.underlying30 rfl Tryz.sizeOf22 (by decide) f rfl rfl fun a f => l_boxCell 1 0 m Pl22 f rfl rfl rfl rfl fun a f => l_fieldAddr Tryz.underlying30 rfl Tryz.sizeOf22 (by decide) f rfl rfl fun a f => l_boxCell 0 0 m Pl22 f rfl rfl rfl rfl fun a f => ?_
 obtain ⟨ac, ad, hd⟩ := bind_some hd
 refine l_res f rfl rfl Tryz.call60 (Wk.A m h0_0 h1_0 ad) fun ae af ag w ah m ai a f => ?_
 obtain ⟨rfl, rfl⟩ := ai
 have h0_0 := rd2 ah h0_0
 have h1_0 := rd2 ah h1_0
 refine l_op f rfl rfl rfl (r_not (f.eval rfl)) fun a f => l_nil ?_
 rcases cond_some hd with ⟨aj, hd⟩ | ⟨aj, hd⟩
 ·refine k_true f rfl aj ?_
  refine k_seq (k_region ?_)
  refine l_as f rfl rfl fun a f => l_nil ?_
  refine k_ret ?_
  have m : Mem W af w H := Mem.drop (H' := [Itm.box ab 30 [v1_0], Itm.box aa 30 [v0_0]]) m
  obtain rfl := sj hd
  exact ⟨[(.bool false)], ⟨f.get _ _ rfl, trivial⟩, f.defers, _, [], ah, m, rfl, rfl⟩
 ·refine k_false f rfl aj ?_
  refine k_skip ?_
  refine k_seq (k_region ?_)
  refine l_as f rfl rfl fun a f => l_nil ?_
  refine k_ret ?_
  have m : Mem W af w H := Mem.drop (H' := [Itm.box ab 30 [v1_0], Itm.box aa 30 [v0_0]]) m
  obtain rfl := sj hd
  exact ⟨[(.bool true)], ⟨f.get _ _ rfl, trivial⟩, f.defers, _, [], ah, m, rfl, rfl⟩

theorem Wk.i {W w : World} {G : GH} {H : List Itm} {v0 : Value} {it0 : Itm} {x0 : (List Int)} {x1 : Int} (m : Mem W G w (it0 :: H)) (o0 : Ow (RI .i64) 2 G it0 v0 x0) {y : Int × ((List Int))} (hd : D.i x0 x1 = some y) :
  Calls Tryz.prog 25 #[v0, (.int .i64 x1)] w (Res W G H (fun G' Ho v => ∃ i0 : Itm, Ho = [i0] ∧ v = (.int .i64 y.1) ∧ Ow (RI .i64) 2 G' i0 v0 y.2)) := by
 refine calls_b (args := [v0, (.int .i64 x1)]) (N := 19) [.tmp 4] Tryz.func25 rfl rfl (Nat.le_of_ble_eq_true rfl) rfl fun a f => ?_
 unfold D.i at hd
 refine k_seq (k_region ?_)
 refine l_as f rfl rfl fun a f => l_nil (k_seq (k_seq (k_region ?_)))
 refine l_as f rfl rfl fun a f => l_nil ?_
 obtain ⟨aa, ab, hd⟩ := bind_some hd
 refine k_cut (fun a w => ∃ ac : List Int, ∃ ad : Int, (ac, ad) = aa ∧ ∃ (ae : GH) (af : Itm), GLe G ae ∧ Fr a 19 [(1, (.int .i64 ad))] ∧ Mem W ae w (af :: H) ∧ Ow (RI .i64) 2 ae af v0 ac) ?_ ?_
 ·refine k_block ?_
  refine k_loop (fun ag a w => ∃ ah : List Int, ∃ ai : Int, ∃ aj : Int, (ah, ai, aj) = ag ∧ ∃ (ak : GH) (al : Itm), GLe G ak ∧ Fr a 19 [(0, v0), (1, (.int .i64 ai)), (5, (.int .i64 aj))] ∧ Mem W ak w (al :: H) ∧ Ow (RI .i64) 2 ak al v0 ah) ab ⟨_, _, _, rfl, _, it0, (GLe.refl _), f.weak ⟨rfl, rfl, rfl, trivial⟩, m, o0⟩ ?_
  clear ab f m
  rintro ag am an ao a w ⟨ah, ai, aj, rfl, ak, al, ap, f, m, aq⟩
  refine k_seq (k_seq (k_region ?_))
  refine l_mv f rfl rfl fun a f => l_mv f rfl rfl fun a f => l_own_len 0 m aq rfl Tryz.underlying42 f rfl rfl fun a f => l_in f rfl rfl rfl b_lss fun a f => l_nil ?_
  rcases cond_some an with ⟨ar, an⟩ | ⟨ar, an⟩
  ·refine k_true f rfl ar ?_
   refine k_skip ?_
   refine k_seq (k_block (k_seq (k_region ?_)))
   refine l_mv f rfl rfl fun a f => l_mv f rfl rfl fun a f => l_mv f rfl rfl fun a f => ?_
   obtain ⟨au, av, an⟩ := bind_some an
   refine l_own_at 0 m aq rfl T42 f rfl rfl rfl av fun aw a ax f => l_own_store 0 m aq rfl Tryz.sizeOf2 f rfl rfl ax av rfl rfl rfl fun ay w m az => l_nil (k_region ?_)
   refine l_mv f rfl rfl fun a f => l_in f rfl rfl rfl b_add fun a f => l_as f rfl rfl fun a f => l_nil (k_region ?_)
   refine l_mv f rfl rfl fun a f => l_in f rfl rfl rfl b_add fun a f => l_as f rfl rfl fun a f => l_nil ?_
   obtain rfl := sj an
   exact ⟨_, rfl, _, _, _, rfl, _, ay, ap, f.weak ⟨rfl, rfl, rfl, trivial⟩, m, az⟩
  ·refine k_false f rfl ar ?_
   refine k_exit rfl ?_
   obtain rfl := sj an
   obtain rfl := ao _ rfl
   exact ⟨_, _, rfl, _, al, ap, f.weak ⟨rfl, trivial⟩, m, aq⟩
 ·rintro a w ⟨ac, ad, rfl, ae, af, aA, f, m, aB⟩
  refine k_seq (k_region ?_)
  refine l_mv f rfl rfl fun a f => l_as f rfl rfl fun a f => l_nil ?_
  refine k_ret ?_
  obtain rfl := sj hd
  exact ⟨[(.int .i64 ad)], ⟨f.get _ _ rfl, trivial⟩, f.defers, _, [af], aA, m, _, rfl, rfl, aB⟩

theorem Wk.E {W w : World} {G : GH} {H : List Itm} {v0 : Value} {it0 : Itm} {x0 : (List (List Int))} {x1 : Int} (m : Mem W G w (it0 :: H)) (o0 : Ow2 (RI .i64) 42 2 G it0 v0 x0) {y : Int × ((List (List Int)))} (hd : D.E x0 x1 = some y) :
  Calls Tryz.prog 61 #[v0, (.int .i64 x1)] w (Res W G H (fun G' Ho v => ∃ i0 : Itm, Ho = [i0] ∧ v = (.int .i64 y.1) ∧ Ow2 (RI .i64) 42 2 G' i0 v0 y.2)) := by
 refine calls_b (args := [v0, (.int .i64 x1)]) (N := 19) [.tmp 4] Tryz.func61 rfl rfl (Nat.le_of_ble_eq_true rfl) rfl fun a f => ?_
 unfold D.E at hd
 refine k_seq (k_region ?_)
 refine l_as f rfl rfl fun a f => l_nil (k_seq (k_seq (k_region ?_)))
 refine l_as f rfl rfl fun a f => l_nil ?_
 obtain ⟨aa, ab, hd⟩ := bind_some hd
 refine k_cut (fun a w => ∃ ac : List (List Int), ∃ ad : Int, (ac, ad) = aa ∧ ∃ (ae : GH) (af : Itm), GLe G ae ∧ Fr a 19 [(1, (.int .i64 ad))] ∧ Mem W ae w (af :: H) ∧ Ow2 (RI .i64) 42 2 ae af v0 ac) ?_ ?_
 ·refine k_block ?_
  refine k_loop (fun ag a w => ∃ ah : List (List Int), ∃ ai : Int, ∃ aj : Int, (ah, ai, aj) = ag ∧ ∃ (ak : GH) (al : Itm), GLe G ak ∧ Fr a 19 [(0, v0), (1, (.int .i64 ai)), (5, (.int .i64 aj))] ∧ Mem W ak w (al :: H) ∧ Ow2 (RI .i64) 42 2 ak al v0 ah) ab ⟨_, _, _, rfl, _, it0, (GLe.refl _), f.weak ⟨rfl, rfl, rfl, trivial⟩, m, o0⟩ ?_
  clear ab f m
  rintro ag am an ao a w ⟨ah, ai, aj, rfl, ak, al, ap, f, m, aq⟩
  refine k_seq (k_seq (k_region ?_))
  refine l_mv f rfl rfl fun a f => l_mv f rfl rfl fun a f => l_own2_len 0 m aq rfl Tryz.underlying22 f rfl rfl fun a f => l_in f rfl rfl rfl b_lss fun a f => l_nil ?_
  rcases cond_some an with ⟨ar, an⟩ | ⟨ar, an⟩
  ·refine k_true f rfl ar ?_
   refine k_skip ?_
   refine k_seq (k_block (k_region ?_))
   refine l_mv f rfl rfl fun a f => l_mv f rfl rfl fun a f => ?_
   obtain ⟨au, av, an⟩ := bind_some an
   refine l_own2_at 0 m aq rfl T22 f rfl rfl rfl av fun aw a ax f => l_own2_load 0 m aq rfl Pl42 f rfl rfl ax av fun ay a az f => l_mv f rfl rfl fun a f => ?_
   obtain ⟨aA, aB, an⟩ := bind_some an
   refine l_res f rfl rfl Tryz.call25 (Ow2.callAt aq (RI.mono _) m av az (fun inn Hs m oi => Wk.i m oi aB)) fun aC aD aE w aF m aG a f => ?_
   obtain ⟨aH, rfl, rfl, aI⟩ := aG
   refine l_as f rfl rfl fun a f => l_nil (k_region ?_)
   refine l_mv f rfl rfl fun a f => l_in f rfl rfl rfl b_add fun a f => l_as f rfl rfl fun a f => l_nil ?_
   obtain rfl := sj an
   exact ⟨_, rfl, _, _, _, rfl, _, aH, (GLe.trans ap aF), f.weak ⟨rfl, rfl, rfl, trivial⟩, m, aI⟩
  ·refine k_false f rfl ar ?_
   refine k_exit rfl ?_
   obtain rfl := sj an
   obtain rfl := ao _ rfl
   exact ⟨_, _, rfl, _, al, ap, f.weak ⟨rfl, trivial⟩, m, aq⟩
 ·rintro a w ⟨ac, ad, rfl, ae, af, aJ, f, m, aK⟩
  refine k_seq (k_region ?_)
  refine l_mv f rfl rfl fun a f => l_as f rfl rfl fun a f => l_nil ?_
  refine k_ret ?_
  obtain rfl := sj hd
  exact ⟨[(.int .i64 ad)], ⟨f.get _ _ rfl, trivial⟩, f.defers, _, [af], aJ, m, _, rfl, rfl, aK⟩

theorem Wk.H0 {W w : World} {G : GH} {H : List Itm} {v0_0 : Value} {it0_0 : Itm} {x0_0 : (List (List Int))} {x1 : Int} (m : Mem W G w (it0_0 :: H)) (o0_0 : Ow2 (RI .i64) 42 2 G it0_0 v0_0 x0_0) {y : Int × ((List (List Int)))} (hd : D.H0 x0_0 x1 = some y) :
  Calls Tryz.prog 14 #[(.agg #[v0_0]), (.int .i64 x1)] w (Res W G H (fun G' Ho v => ∃ i0 : Itm, Ho = [i0] ∧ v = (.int .i64 y.1) ∧ Ow2 (RI .i64) 42 2 G' i0 v0_0 y.2)) := by
 refine calls_b (args := [(.agg #[v0_0]), (.int .i64 x1)]) (N := 10) [.tmp 4] Tryz.func14 rfl rfl (Nat.le_of_ble_eq_true rfl) rfl fun a f => ?_
 unfold D.H0 at hd
 refine k_seq (k_region ?_)
 refine l_box (cs := [v0_0]) m f rfl rfl rfl fun aa w a m f => l_as f rfl rfl fun a f => l_nil (k_seq (k_region ?_))
 refine l_fieldAddr Tryz.underlying30 rfl Tryz.sizeOf22 (by decide) f rfl rfl fun a f => l_boxCell 0 0 m Pl22 f rfl rfl rfl rfl fun a f => l_mv f rfl rfl fun a f => ?_
 have m := m.front 1 rfl
 obtain ⟨ab, ac, hd⟩ := bind_some hd
 refine l_res f rfl rfl Tryz.call61 (Wk.E m o0_0 ac) fun ad ae af w ag m ah a f => ?_
 obtain ⟨ai, rfl, rfl, aj⟩ := ah
 refine l_as f rfl rfl fun a f => l_nil (k_seq (k_region ?_))
 refine l_mv f rfl rfl fun a f => l_as f rfl rfl fun a f => l_nil ?_
 refine k_ret ?_
 have m := m.eraseAt 1
 obtain rfl := sj hd
 exact ⟨[(.int .i64 ab.1)], ⟨f.get _ _ rfl, trivial⟩, f.defers, _, [ai], ag, m, _, rfl, rfl, aj⟩

theorem Wk.y0 {W w : World} {G : GH} {H : List Itm} {v0_0 : Value} {it0_0 : Itm} {v0_1 : Value} {it0_1 : Itm} {x0_0 : (List (List Int))} {x0_1 : (List (List Int))} {x1 : Int} (m : Mem W G w (it0_0 :: it0_1 :: H)) (o0_0 : Ow2 (RI .i64) 42 2 G it0_0 v0_0 x0_0) (o0_1 : Ow2 (RI .i64) 42 2 G it0_1 v0_1 x0_1) {y : Int × ((List (List Int))) × ((List (List Int)))} (hd : D.y0 x0_0 x0_1 x1 = some y) :
  Calls Tryz.prog 15 #[(.agg #[v0_0, v0_1]), (.int .i64 x1)] w (Res W G H (fun G' Ho v => ∃ i0 : Itm, ∃ i1 : Itm, Ho = [i0, i1] ∧ v = (.int .i64 y.1) ∧ Ow2 (RI .i64) 42 2 G' i0 v0_0 y.2.1 ∧ Ow2 (RI .i64) 42 2 G' i1 v0_1 y.2.2)) := by
 refine calls_b (args := [(.agg #[v0_0, v0_1]), (.int .i64 x1)]) (N := 14) [.tmp 4] Tryz.func15 rfl rfl (Nat.le_of_ble_eq_true rfl) rfl fun a f => ?_
 unfold D.y0 at hd
 refine k_seq (k_region ?_)
 refine l_box (cs := [v0_0, v0_1]) m f rfl rfl rfl fun aa w a m f => l_as f rfl rfl fun a f => l_nil (k_seq (k_region ?_))
 refine l_fieldAddr Tryz.underlying27 rfl Tryz.sizeOf22 (by decide) f rfl rfl fun a f => l_boxCell 0 0 m Pl22 f rfl rfl rfl rfl fun a f => l_mv f rfl rfl fun a f => ?_
 have m := m.front 1 rfl
 obtain ⟨ab, ac, hd⟩ := bind_some hd
 refine l_res f rfl rfl Tryz.call61 (Wk.E m o0_0 ac) fun ad ae af w ag m ah a f => ?_
 obtain ⟨ai, rfl, rfl, aj⟩ := ah
 have o0_1 := Ow2.mono (RI.mono _) ag o0_1
 refine l_as f rfl rfl fun a f => l_nil (k_seq (k_region ?_))
 refine l_fieldAddr Tryz.underlying27 rfl Tryz.sizeOf22 (by decide) f rfl rfl fun a f => l_boxCell 1 1 m Pl22 f rfl rfl rfl rfl fun a f => l_mv f rfl rfl fun a f => ?_
 have m := m.front 2 rfl
 obtain ⟨ak, al, hd⟩ := bind_some hd
 refine l_res f rfl rfl Tryz.call61 (Wk.E m o0_1 al) fun am an ao w ap m aq a f => ?_
 obtain ⟨ar, rfl, rfl, au⟩ := aq
 have aj := Ow2.mono (RI.mono _) ap aj
 refine l_as f rfl rfl fun a f => l_nil (k_seq (k_region ?_))
 refine l_mv f rfl rfl fun a f => l_as f rfl rfl fun a f => l_nil ?_
 refine k_ret ?_
 have m := m.front 1 rfl
 have m := m.eraseAt 2
 obtain rfl := sj hd
 exact ⟨[(.int .i64 ak.1)], ⟨f.get _ _ rfl, trivial⟩, f.defers, _, [ai, ar], (GLe.trans ag ap), m, _, _, rfl, rfl, aj, au⟩

theorem Wk.m {W w : World} {G : GH} {H : List Itm} {v0 : Value} {x0 : (List Int)} {x1 : Int} (m : Mem W G w (H)) (h0 : RSl (RI .i64) G v0 x0) {y : Int} (hd : D.m x0 x1 = some y) :
  Calls Tryz.prog 125 #[v0, (.int .i64 x1)] w (Res W G H (fun _ Ho v => Ho = [] ∧ v = (.int .i64 y))) := by
 refine calls_b (args := [v0, (.int .i64 x1)]) (N := 21) [.tmp 4] Tryz.func125 rfl rfl (Nat.le_of_ble_eq_true rfl) rfl fun a f => ?_
 unfold D.m at hd
 refine k_seq (k_region ?_)
 refine l_as f rfl rfl fun a f => l_nil (k_seq (k_seq (k_region ?_)))
 refine l_as f rfl rfl fun a f => l_nil ?_
 obtain ⟨aa, ab, hd⟩ := bind_some hd
 refine k_cut (fun a w => ∃ q_20' : Int, aa = .inl q_20' ∧ ∃ ac : Int, ac = q_20' ∧ ∃ (ad : GH), GLe G ad ∧ Fr a 21 [(1, (.int .i64 ac))] ∧ Mem W ad w (H)) ?_ ?_
 ·refine k_block ?_
  refine k_loop (fun ae a w => ∃ af : Int, ∃ ag : Int, (af, ag) = ae ∧ ∃ (ah : GH), GLe G ah ∧ Fr a 21 [(0, v0), (1, (.int .i64 af)), (5, (.int .i64 ag))] ∧ Mem W ah w (H)) ab ⟨_, _, rfl, _, (GLe.refl _), f.weak ⟨rfl, rfl, rfl, trivial⟩, m⟩ ?_
  clear ab f m
  rintro ae ai aj ak a w ⟨af, ag, rfl, ah, al, f, m⟩
  have h0 := rd1 al h0
  refine k_seq (k_seq (k_region ?_))
  refine l_mv f rfl rfl fun a f => l_mv f rfl rfl fun a f => l_len Tryz.underlying42 f rfl rfl h0 fun a f => l_in f rfl rfl rfl b_lss fun a f => l_nil ?_
  rcases cond_some aj with ⟨am, aj⟩ | ⟨am, aj⟩
  ·refine k_true f rfl am ?_
   refine k_skip ?_
   refine k_seq (k_block (k_seq (k_seq (k_region ?_))))
   refine l_mv f rfl rfl fun a f => l_mv f rfl rfl fun a f => ?_
   obtain ⟨an, ao, aj⟩ := bind_some aj
   refine l_at T42 f rfl rfl rfl h0 ao fun ap aq a ar au f => ?_
   subst au
   refine l_loadAt m Pl2 f rfl rfl ar fun a f => l_mv f rfl rfl fun a f => l_in f rfl rfl rfl b_neq fun a f => l_nil ?_
   rcases cond_some aj with ⟨av, aj⟩ | ⟨av, aj⟩
   ·refine k_true f rfl av ?_
    refine k_seq (k_region ?_)
    refine l_as f rfl rfl fun a f => l_nil ?_
    refine k_ret ?_
    obtain rfl := sj aj
    obtain rfl := ak _ rfl
    obtain rfl := sj hd
    exact ⟨[(.int .i64 (-1))], ⟨f.get _ _ rfl, trivial⟩, f.defers, _, [], al, m, rfl, rfl⟩
   ·refine k_false f rfl av ?_
    refine k_skip ?_
    refine k_region ?_
    refine l_mv f rfl rfl fun a f => l_in f rfl rfl rfl b_add fun a f => l_as f rfl rfl fun a f => l_nil (k_region ?_)
    refine l_mv f rfl rfl fun a f => l_in f rfl rfl rfl b_add fun a f => l_as f rfl rfl fun a f => l_nil ?_
    obtain rfl := sj aj
    exact ⟨_, rfl, _, _, rfl, _, al, f.weak ⟨rfl, rfl, rfl, trivial⟩, m⟩
  ·refine k_false f rfl am ?_
   refine k_exit rfl ?_
   obtain rfl := sj aj
   obtain rfl := ak _ rfl
   exact ⟨_, rfl, _, rfl, _, al, f.weak ⟨rfl, trivial⟩, m⟩
 ·rintro a w ⟨_, rfl, ac, rfl, ad, aw, f, m⟩
  refine k_seq (k_region ?_)
  refine l_mv f rfl rfl fun a f => l_as f rfl rfl fun a f => l_nil ?_
  refine k_ret ?_
  obtain rfl := sj hd
  exact ⟨[(.int .i64 ac)], ⟨f.get _ _ rfl, trivial⟩, f.defers, _, [], aw, m, rfl, rfl⟩

theorem Wk.W {W w : World} {G : GH} {H : List Itm} {v0 : Value} {x0 : (List (List Int))} {x1 : Int} (m : Mem W G w (H)) (h0 : RSl (RSl (RI .i64)) G v0 x0) {y : Int} (hd : D.W x0 x1 = some y) :
  Calls Tryz.prog 62 #[v0, (.int .i64 x1)] w (Res W G H (fun _ Ho v => Ho = [] ∧ v = (.int .i64 y))) := by
 refine calls_b (args := [v0, (.int .i64 x1)]) (N := 21) [.tmp 4] Tryz.func62 rfl rfl (Nat.le_of_ble_eq_true rfl) rfl fun a f => ?_
 unfold D.W at hd
 refine k_seq (k_region ?_)
 refine l_as f rfl rfl fun a f => l_nil (k_seq (k_seq (k_region ?_)))
 refine l_as f rfl rfl fun a f => l_nil ?_
 obtain ⟨aa, ab, hd⟩ := bind_some hd
 refine k_cut (fun a w => ∃ q_34' : Int, aa = .inl q_34' ∧ ∃ ac : Int, ac = q_34' ∧ ∃ (ad : GH), GLe G ad ∧ Fr a 21 [(1, (.int .i64 ac))] ∧ Mem W ad w (H)) ?_ ?_
 ·refine k_block ?_
  refine k_loop (fun ae a w => ∃ af : Int, ∃ ag : Int, (af, ag) = ae ∧ ∃ (ah : GH), GLe G ah ∧ Fr a 21 [(0, v0), (1, (.int .i64 af)), (5, (.int .i64 ag))] ∧ Mem W ah w (H)) ab ⟨_, _, rfl, _, (GLe.refl _), f.weak ⟨rfl, rfl, rfl, trivial⟩, m⟩ ?_
  clear ab f m
  rintro ae ai aj ak a w ⟨af, ag, rfl, ah, al, f, m⟩
  have h0 := rd2 al h0
  refine k_seq (k_seq (k_region ?_))
  refine l_mv f rfl rfl fun a f => l_mv f rfl rfl fun a f => l_len Tryz.underlying22 f rfl rfl h0 fun a f => l_in f rfl rfl rfl b_lss fun a f => l_nil ?_
  rcases cond_some aj with ⟨am, aj⟩ | ⟨am, aj⟩
  ·refine k_true f rfl am ?_
   refine k_skip ?_
   refine k_seq (k_block (k_seq (k_region ?_)))
   refine l_mv f rfl rfl fun a f => l_mv f rfl rfl fun a f => ?_
   obtain ⟨an, ao, aj⟩ := bind_some aj
   refine l_at T22 f rfl rfl rfl h0 ao fun ap aq a ar au f => l_loadAt m Pl42 f rfl rfl ar fun a f => l_mv f rfl rfl fun a f => ?_
   obtain ⟨av, aw, aj⟩ := bind_some aj
   refine l_res f rfl rfl Tryz.call125 (Wk.m m au aw) fun ax ay az w aA m aB a f => ?_
   obtain ⟨rfl, rfl⟩ := aB
   have h0 := rd2 aA h0
   have ar := At.mono aA ar
   have au := rd1 aA au
   refine l_as f rfl rfl fun a f => l_nil (k_seq (k_region ?_))
   refine l_mv f rfl rfl fun a f => l_in f rfl rfl rfl b_lss fun a f => l_nil ?_
   rcases cond_some aj with ⟨aC, aj⟩ | ⟨aC, aj⟩
   ·refine k_true f rfl aC ?_
    refine k_seq (k_region ?_)
    refine l_as f rfl rfl fun a f => l_nil ?_
    refine k_ret ?_
    obtain rfl := sj aj
    obtain rfl := ak _ rfl
    obtain rfl := sj hd
    exact ⟨[(.int .i64 (-1))], ⟨f.get _ _ rfl, trivial⟩, f.defers, _, [], (GLe.trans al aA), m, rfl, rfl⟩
   ·refine k_false f rfl aC ?_
    refine k_skip ?_
    refine k_region ?_
    refine l_mv f rfl rfl fun a f => l_in f rfl rfl rfl b_add fun a f => l_as f rfl rfl fun a f => l_nil ?_
    obtain rfl := sj aj
    exact ⟨_, rfl, _, _, rfl, _, (GLe.trans al aA), f.weak ⟨rfl, rfl, rfl, trivial⟩, m⟩
  ·refine k_false f rfl am ?_
   refine k_exit rfl ?_
   obtain rfl := sj aj
   obtain rfl := ak _ rfl
   exact ⟨_, rfl, _, rfl, _, al, f.weak ⟨rfl, trivial⟩, m⟩
 ·rintro a w ⟨_, rfl, ac, rfl, ad, aD, f, m⟩
  refine k_seq (k_region ?_)
  refine l_mv f rfl rfl fun a f => l_as f rfl rfl fun a f => l_nil ?_
  refine k_ret ?_
  obtain rfl := sj hd
  exact ⟨[(.int .i64 ac)], ⟨f.get _ _ rfl, trivial⟩, f.defers, _, [], aD, m, rfl, rfl⟩

theorem Wk.R {W w : World} {G : GH} {H : List Itm} {v0_0 : Value} {v0_1 : Value} {x0_0 : (List (List Int))} {x0_1 : (List (List Int))} {x1 : Int} (m : Mem W G w (H)) (h0_0 : RSl (RSl (RI .i64)) G v0_0 x0_0) (h0_1 : RSl (RSl (RI .i64)) G v0_1 x0_1) {y : Int} (hd : D.R x0_0 x0_1 x1 = some y) :
  Calls Tryz.prog 16 #[(.agg #[v0_0, v0_1]), (.int .i64 x1)] w (Res W G H (fun _ Ho v => Ho = [] ∧ v = (.int .i64 y))) := by
 refine calls_b (args := [(.agg #[v0_0, v0_1]), (.int .i64 x1)]) (N := 18) [.tmp 4] Tryz.func16 rfl rfl (Nat.le_of_ble_eq_true rfl) rfl fun a f => ?_
 unfold D.R at hd
 refine k_seq (k_region ?_)
 refine l_box (cs := [v0_0, v0_1]) m f rfl rfl rfl fun aa w a m f => l_as f rfl rfl fun a f => l_nil (k_seq (k_region ?_))
 refine l_fieldAddr Tryz.underlying27 rfl Tryz.sizeOf22 (by decide) f rfl rfl fun a f => l_boxCell 0 0 m Pl22 f rfl rfl rfl rfl fun a f => l_mv f rfl rfl fun a f => ?_
 obtain ⟨ab, ac, hd⟩ := bind_some hd
 refine l_res f rfl rfl Tryz.call62 (Wk.W m h0_0 ac) fun ad ae af w ag m ah a f => ?_
 obtain ⟨rfl, rfl⟩ := ah
 have h0_0 := rd2 ag h0_0
 have h0_1 := rd2 ag h0_1
 refine l_as f rfl rfl fun a f => l_nil (k_seq (k_seq (k_region ?_)))
 refine l_mv f rfl rfl fun a f => l_in f rfl rfl rfl b_lss fun a f => l_nil ?_
 rcases cond_some hd with ⟨ai, hd⟩ | ⟨ai, hd⟩
 ·refine k_true f rfl ai ?_
  refine k_seq (k_region ?_)
  refine l_as f rfl rfl fun a f => l_nil ?_
  refine k_ret ?_
  have m : Mem W ae w H := Mem.drop (H' := [Itm.box aa 27 [v0_0, v0_1]]) m
  obtain rfl := sj hd
  exact ⟨[(.int .i64 (-1))], ⟨f.get _ _ rfl, trivial⟩, f.defers, _, [], ag, m, rfl, rfl⟩
 ·refine k_false f rfl ai ?_
  refine k_skip ?_
  refine k_seq (k_region ?_)
  refine l_fieldAddr Tryz.underlying27 rfl Tryz.sizeOf22 (by decide) f rfl rfl fun a f => l_boxCell 0 1 m Pl22 f rfl rfl rfl rfl fun a f => l_mv f rfl rfl fun a f => ?_
  obtain ⟨aj, ak, hd⟩ := bind_some hd
  refine l_res f rfl rfl Tryz.call62 (Wk.W m h0_1 ak) fun al am an w ao m ap a f => ?_
  obtain ⟨rfl, rfl⟩ := ap
  have h0_0 := rd2 ao h0_0
  have h0_1 := rd2 ao h0_1
  refine l_as f rfl rfl fun a f => l_nil (k_seq (k_seq (k_region ?_)))
  refine l_mv f rfl rfl fun a f => l_in f rfl rfl rfl b_lss fun a f => l_nil ?_
  rcases cond_some hd with ⟨aq, hd⟩ | ⟨aq, hd⟩
  ·refine k_true f rfl aq ?_
   refine k_seq (k_region ?_)
   refine l_as f rfl rfl fun a f => l_nil ?_
   refine k_ret ?_
   have m : Mem W am w H := Mem.drop (H' := [Itm.box aa 27 [v0_0, v0_1]]) m
   obtain rfl := sj hd
   exact ⟨[(.int .i64 (-1))], ⟨f.get _ _ rfl, trivial⟩, f.defers, _, [], (GLe.trans ag ao), m, rfl, rfl⟩
  ·refine k_false f rfl aq ?_
   refine k_skip ?_
   refine k_seq (k_region ?_)
   refine l_mv f rfl rfl fun a f => l_as f rfl rfl fun a f => l_nil ?_
   refine k_ret ?_
   have m : Mem W am w H := Mem.drop (H' := [Itm.box aa 27 [v0_0, v0_1]]) m
   obtain rfl := sj hd
   exact ⟨[(.int .i64 aj)], ⟨f.get _ _ rfl, trivial⟩, f.defers, _, [], (GLe.trans ag ao), m, rfl, rfl⟩

end Go.Proofs.YtebbefpdncgoiaaGreatDoor
