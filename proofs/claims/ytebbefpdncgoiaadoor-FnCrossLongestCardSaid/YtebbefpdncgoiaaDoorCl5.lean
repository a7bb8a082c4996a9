/- Parts of the proof: NDW, Qb, Pf, Pg, T1D, Qc, Qd, Qe, V1D, Ra, Rb, F1D, Sa, Sb, Sc, Rc, Rd, Sd, Se, Sf, Ua, Ub, Ta, Qf, Re, Tb. -/
import Derived.Test.YtebbefpdncgoiaaDoorCl4
import Derived.Test.YtebbefpdncgoiaaDoorProg
import Derived.KernelRfl
import Derived.Lib.TrailingZeros
set_option linter.unusedVariables false
set_option linter.unusedSimpArgs false
set_option linter.unusedSectionVars false
set_option maxRecDepth 100000
namespace Go.Proofs.YtebbefpdncgoiaaDoor
open Go Go.Sx
theorem Pl63 : Plain Tryd.prog 63 := Tryd.isAgg63
theorem T65 : SlT Tryd.prog 65 63 1 24 (.slice none 0 0) := ⟨Tryd.underlying65, Tryd.t63, by kernel_rfl, by kernel_rfl, by kernel_rfl, by kernel_rfl⟩
theorem T55 : SlT Tryd.prog 55 60 1 4 (.int .u32 0) := ⟨Tryd.underlying55, Tryd.t60, by kernel_rfl, by kernel_rfl, by kernel_rfl, by kernel_rfl⟩

theorem Wk.b0 {W w : World} {G : GH} {H : List Itm} {v0 : Value} {x0 : (List (List Int))} (m : Mem W G w (H)) (h0 : RSl (RSl (RI .i64)) G v0 x0) {y : ((List Int))} (hd : D.b0 x0 = some y) :
  Calls Tryd.prog 36 #[v0] w (Res W G H (fun G' Ho v => ∃ r0 : Value, Ho = [] ∧ r0 = v ∧ RSl (RI .i64) G' r0 y)) := by
 refine calls_b (args := [v0]) (N := 19) [.tmp 2] Tryd.func36 rfl rfl (Nat.le_of_ble_eq_true rfl) rfl fun a f => ?_
 unfold D.b0 at hd
 refine k_seq (k_region ?_)
 refine l_as f rfl rfl fun a f => l_nil (k_seq (k_region ?_))
 refine l_slit (R := (RI .i64)) (xs := ([] : List Int)) (RI.one _) m T63 f rfl rfl rfl (by decide) (All2.nil _) fun aa ab w a m ac f => l_as f rfl rfl fun a f => l_nil (k_seq (k_seq (k_region ?_)))
 refine l_mv f rfl rfl fun a f => l_len Tryd.underlying65 f rfl rfl h0 fun a f => l_mv f rfl rfl fun a f => l_nil ?_
 obtain ⟨ad, ae, m, af⟩ := Ow.stamp (RI.mono _) ac m
 have h0 := rd2 ae h0
 obtain ⟨ag, ah, hd⟩ := bind_some hd
 refine k_cut (fun a w => ∃ ai : List Int, ai = ag ∧ ∃ (aj : GH) (ak : Value), GLe ad aj ∧ Fr a 19 [(3, ak)] ∧ Mem W aj w (H) ∧ RSl (RI .i64) aj ak ai) ?_ ?_
 ·refine k_block ?_
  refine k_loop (fun al a w => ∃ am : List Int, ∃ an : Int, (am, an) = al ∧ ∃ (ao : GH) (ap : Value), GLe ad ao ∧ Fr a 19 [(3, ap), (7, v0), (8, (.int .i64 (x0.length : Int))), (9, (.int .i64 an))] ∧ Mem W ao w (H) ∧ RSl (RI .i64) ao ap am) ah ⟨_, _, rfl, _, ab, (GLe.refl _), f.weak ⟨rfl, rfl, rfl, rfl, trivial⟩, m, af⟩ ?_
  clear ah f m
  rintro al aq ar au a w ⟨am, an, rfl, ao, ap, av, f, m, aw⟩
  have h0 := rd2 av h0
  refine k_seq (k_region ?_)
  refine l_in f rfl rfl rfl b_lss fun a f => l_nil (k_seq ?_)
  rcases cond_some ar with ⟨ax, ar⟩ | ⟨ax, ar⟩
  ·refine k_true f rfl ax ?_
   refine k_skip ?_
   refine k_seq (k_block (k_seq (k_region ?_)))
   obtain ⟨ay, az, ar⟩ := bind_some ar
   refine l_at T65 f rfl rfl rfl h0 az fun aA aB a aC aD f => l_loadAt m Pl63 f rfl rfl aC fun a f => l_as f rfl rfl fun a f => l_nil (k_seq (k_region ?_))
   refine l_mv f rfl rfl fun a f => l_mv f rfl rfl fun a f => ?_
   obtain ⟨aE, aF, ar⟩ := bind_some ar
   refine l_res f rfl rfl Tryd.call47 (Wk.I m aD aw aF) fun aG aH aI w aJ m aK a f => ?_
   obtain ⟨rfl, rfl⟩ := aK
   have aw := rd1 aJ aw
   have aD := rd1 aJ aD
   have h0 := rd2 aJ h0
   refine l_nil ?_
   rcases cond_some ar with ⟨aL, ar⟩ | ⟨aL, ar⟩
   ·refine k_true f rfl aL ?_
    refine k_region ?_
    refine l_mv f rfl rfl fun a f => l_as f rfl rfl fun a f => l_nil (k_region ?_)
    refine l_in f rfl rfl rfl b_add fun a f => l_mv f rfl rfl fun a f => l_nil ?_
    obtain rfl := sj ar
    exact ⟨_, rfl, _, _, rfl, _, aB, (GLe.trans av aJ), f.weak ⟨rfl, rfl, rfl, rfl, trivial⟩, m, aD⟩
   ·refine k_false f rfl aL ?_
    refine k_skip ?_
    refine k_region ?_
    refine l_in f rfl rfl rfl b_add fun a f => l_mv f rfl rfl fun a f => l_nil ?_
    obtain rfl := sj ar
    exact ⟨_, rfl, _, _, rfl, _, ap, (GLe.trans av aJ), f.weak ⟨rfl, rfl, rfl, rfl, trivial⟩, m, aw⟩
  ·refine k_false f rfl ax ?_
   refine k_exit rfl ?_
   obtain rfl := sj ar
   obtain rfl := au _ rfl
   exact ⟨_, rfl, _, ap, av, f.weak ⟨rfl, trivial⟩, m, aw⟩
 ·rintro a w ⟨ai, rfl, aj, ak, aM, f, m, aN⟩
  refine k_seq (k_region ?_)
  refine l_mv f rfl rfl fun a f => l_as f rfl rfl fun a f => l_nil ?_
  refine k_ret ?_
  obtain rfl := sj hd
  exact ⟨[ak], ⟨f.get _ _ rfl, trivial⟩, f.defers, _, [], (GLe.trans ae aM), m, _, rfl, rfl, aN⟩

theorem Wk.L {W w : World} {G : GH} {H : List Itm} {v0 : Value} {x0 : (List Int)} (m : Mem W G w (H)) (h0 : RSl (RI .i64) G v0 x0) {y : ((List Int))} (hd : D.L x0 = some y) :
  Calls Tryd.prog 35 #[v0] w (Res W G H (fun G' Ho v => ∃ r0 : Value, ∃ i0 : Itm, Ho = [i0] ∧ r0 = v ∧ Ow (RI .i64) 2 G' i0 r0 y)) := by
 refine calls_b (args := [v0]) (N := 21) [.tmp 2] Tryd.func35 rfl rfl (Nat.le_of_ble_eq_true rfl) rfl fun a f => ?_
 unfold D.L at hd
 refine k_seq (k_region ?_)
 refine l_as f rfl rfl fun a f => l_nil (k_seq (k_region ?_))
 refine l_mv f rfl rfl fun a f => l_len Tryd.underlying63 f rfl rfl h0 fun a f => ?_
 obtain ⟨aa, ab, hd⟩ := bind_some hd
 refine l_make (R := (RI .i64)) m T28 rfl (by decide) rfl f rfl rfl rfl ab fun ac ad w a m ae f => l_as f rfl rfl fun a f => l_nil (k_seq (k_seq (k_region ?_)))
 refine l_mv f rfl rfl fun a f => l_len Tryd.underlying63 f rfl rfl h0 fun a f => l_mv f rfl rfl fun a f => l_nil ?_
 obtain ⟨af, ag, hd⟩ := bind_some hd
 refine k_cut (fun a w => ∃ ah : List Int, ah = af ∧ ∃ (ai : GH) (aj : Value) (ak : Itm), GLe G ai ∧ Fr a 21 [(3, aj)] ∧ Mem W ai w (ak :: H) ∧ Ow (RI .i64) 2 ai ak aj ah) ?_ ?_
 ·refine k_block ?_
  refine k_loop (fun al a w => ∃ am : List Int, ∃ an : Int, (am, an) = al ∧ ∃ (ao : GH) (ap : Value) (aq : Itm), GLe G ao ∧ Fr a 21 [(3, ap), (9, v0), (10, (.int .i64 (x0.length : Int))), (11, (.int .i64 an))] ∧ Mem W ao w (aq :: H) ∧ Ow (RI .i64) 2 ao aq ap am) ag ⟨_, _, rfl, _, ad, ac, (GLe.refl _), f.weak ⟨rfl, rfl, rfl, rfl, trivial⟩, m, ae⟩ ?_
  clear ag f m
  rintro al ar au av a w ⟨am, an, rfl, ao, ap, aq, aw, f, m, ax⟩
  have h0 := rd1 aw h0
  refine k_seq (k_region ?_)
  refine l_in f rfl rfl rfl b_lss fun a f => l_nil (k_seq ?_)
  rcases cond_some au with ⟨ay, au⟩ | ⟨ay, au⟩
  ·refine k_true f rfl ay ?_
   refine k_skip ?_
   refine k_seq (k_block (k_seq (k_region ?_)))
   obtain ⟨az, aA, au⟩ := bind_some au
   refine l_at T63 f rfl rfl rfl h0 aA fun aB aC a aD aE f => ?_
   subst aE
   refine l_loadAt m Pl3 f rfl rfl aD fun a f => l_as f rfl rfl fun a f => l_nil (k_region ?_)
   refine l_mv f rfl rfl fun a f => l_mv f rfl rfl fun a f => l_slit (R := (RI .i64)) (xs := ([az] : List Int)) (RI.one _) m T28 f rfl rfl rfl (by decide) (All2.cons rfl (All2.nil _)) fun aF aG w a m aH f => ?_
   obtain ⟨aI, aJ, au⟩ := bind_some au
   refine l_append (RI.one _) 1 m ax rfl T28 rfl (by decide) f rfl rfl rfl (Ow.src (j := 0) aH m rfl) aJ fun aK aL w a m aM f => l_as f rfl rfl fun a f => l_nil (k_region ?_)
   refine l_in f rfl rfl rfl b_add fun a f => l_mv f rfl rfl fun a f => l_nil ?_
   have m := m.front 1 rfl
   have m := m.eraseAt 1
   obtain rfl := sj au
   exact ⟨_, rfl, _, _, rfl, _, aL, aK, aw, f.weak ⟨rfl, rfl, rfl, rfl, trivial⟩, m, aM⟩
  ·refine k_false f rfl ay ?_
   refine k_exit rfl ?_
   obtain rfl := sj au
   obtain rfl := av _ rfl
   exact ⟨_, rfl, _, ap, aq, aw, f.weak ⟨rfl, trivial⟩, m, ax⟩
 ·rintro a w ⟨ah, rfl, ai, aj, ak, aN, f, m, aO⟩
  refine k_seq (k_region ?_)
  refine l_mv f rfl rfl fun a f => l_as f rfl rfl fun a f => l_nil ?_
  refine k_ret ?_
  obtain rfl := sj hd
  exact ⟨[aj], ⟨f.get _ _ rfl, trivial⟩, f.defers, _, [ak], aN, m, _, _, rfl, rfl, aO⟩

theorem Wk.B {W w : World} {G : GH} {H : List Itm} {v0 : Value} {v1 : Value} {x0 : (List Int)} {x1 : (List Int)} {x2 : Bool} (hW : TabW W) (m : Mem W G w (H)) (h0 : RSl (RI .i64) G v0 x0) (h1 : RSl (RI .i64) G v1 x1) {y : ((List Int))} (hd : D.B x0 x1 x2 = some y) :
  Calls Tryd.prog 19 #[v0, v1, (.bool x2)] w (Res W G H (fun G' Ho v => ∃ r0 : Value, ∃ i0 : Itm, Ho = [i0] ∧ r0 = v ∧ Ow (RI .i64) 2 G' i0 r0 y)) := by
 refine calls_b (args := [v0, v1, (.bool x2)]) (N := 62) [.tmp 6] Tryd.func19 rfl rfl (Nat.le_of_ble_eq_true rfl) rfl fun a f => ?_
 unfold D.B at hd
 refine k_seq (k_region ?_)
 refine l_as f rfl rfl fun a f => l_nil (k_seq (k_region ?_))
 refine l_mv f rfl rfl fun a f => l_mv f rfl rfl fun a f => ?_
 obtain ⟨aa, ab, hd⟩ := bind_some hd
 refine l_res f rfl rfl Tryd.call33 (Wk.o m h0 h1 ab) fun ac ad ae w af m ag a f => ?_
 obtain ⟨ah, ai, rfl, rfl, aj⟩ := ag
 have h0 := rd1 af h0
 have h1 := rd1 af h1
 refine l_mv f rfl rfl fun a f => l_op f rfl rfl rfl (r_extract (f.eval rfl) rfl) fun a f => l_op f rfl rfl rfl (r_extract (f.eval rfl) rfl) fun a f => l_as f rfl rfl fun a f => l_as f rfl rfl fun a f => l_nil (k_seq (k_seq (k_region ?_)))
 refine l_mv f rfl rfl fun a f => l_op f rfl rfl rfl (r_not (f.eval rfl)) fun a f => l_nil ?_
 rcases cond_some hd with ⟨ak, hd⟩ | ⟨ak, hd⟩
 ·refine k_true f rfl ak ?_
  refine k_seq (k_region ?_)
  refine l_as f rfl rfl fun a f => l_nil ?_
  refine k_ret ?_
  obtain ⟨al, m, am⟩ := Ow.nil (RI .i64) 2 m
  have m := m.eraseAt 1
  obtain rfl := sj hd
  exact ⟨[(.slice none 0 0)], ⟨f.get _ _ rfl, trivial⟩, f.defers, _, [al], af, m, _, _, rfl, rfl, am⟩
 ·refine k_false f rfl ak ?_
  refine k_skip ?_
  refine k_seq (k_region ?_)
  refine l_mv f rfl rfl fun a f => l_len Tryd.underlying28 f rfl rfl h0 fun a f => ?_
  obtain ⟨an, ao, hd⟩ := bind_some hd
  refine l_make (R := (RI .u32)) m T55 rfl (by decide) rfl f rfl rfl rfl ao fun ap aq w a m ar f => l_as f rfl rfl fun a f => l_as f rfl rfl fun a f => l_nil (k_seq (k_seq (k_region ?_)))
  refine l_mv f rfl rfl fun a f => l_len Tryd.underlying28 f rfl rfl h0 fun a f => l_in f rfl rfl rfl b_sub fun a f => l_as f rfl rfl fun a f => l_nil ?_
  obtain ⟨au, av, hd⟩ := bind_some hd
  refine k_cut (fun a w => ∃ aw : List Int, aw = au ∧ ∃ (ax : GH) (ay : Itm), GLe ad ax ∧ Fr a 62 [(9, aq)] ∧ Mem W ax w (ay :: H) ∧ Ow (RI .u32) 60 ax ay aq aw) ?_ ?_
  ·refine k_block ?_
   have m := m.front 1 rfl
   refine k_loop (fun az a w => ∃ aA : List Int, ∃ aB : Int, ∃ aC : Int, (aA, aB, aC) = az ∧ ∃ (aD : GH) (aE : Itm), GLe ad aD ∧ Fr a 62 [(0, v0), (2, (.bool x2)), (7, ah), (9, aq), (10, (.int .u32 aB)), (11, (.int .i64 aC))] ∧ Mem W aD w (ai :: aE :: H) ∧ Ow (RI .u32) 60 aD aE aq aA) av ⟨_, _, _, rfl, _, ap, (GLe.refl _), f.weak ⟨rfl, rfl, rfl, rfl, rfl, rfl, trivial⟩, m, ar⟩ ?_
   clear av f m
   rintro az aF aG aH a w ⟨aA, aB, aC, rfl, aD, aE, aI, f, m, aJ⟩
   have h0 := rd1 aI h0
   have aj := od1 aI aj
   refine k_seq (k_seq (k_region ?_))
   refine l_mv f rfl rfl fun a f => l_in f rfl rfl rfl b_geq fun a f => l_nil ?_
   rcases cond_some aG with ⟨aK, aG⟩ | ⟨aK, aG⟩
   ·refine k_true f rfl aK ?_
    refine k_skip ?_
    refine k_seq (k_block (k_seq (k_region ?_)))
    refine l_mv f rfl rfl fun a f => l_mv f rfl rfl fun a f => ?_
    obtain ⟨aL, aM, aG⟩ := bind_some aG
    refine l_at T28 f rfl rfl rfl h0 aM fun aN aO a aP aQ f => ?_
    subst aQ
    refine l_loadAt m Pl2 f rfl rfl aP fun a f => l_as f rfl rfl fun a f => l_nil (k_seq (k_seq (k_region ?_)))
    refine l_mv f rfl rfl fun a f => l_nil ?_
    rcases cond_some aG with ⟨aR, aG⟩ | ⟨aR, aG⟩
    ·refine k_true f rfl aR ?_
     refine k_region ?_
     refine l_mv f rfl rfl fun a f => l_mv f rfl rfl fun a f => l_mv f rfl rfl fun a f => l_mv f rfl rfl fun a f => l_mv f rfl rfl fun a f => ?_
     obtain ⟨aS, aT, aG⟩ := bind_some aG
     refine l_own_at 0 m aj rfl T56 f rfl rfl rfl aT fun aU a aV f => l_own_load 0 m aj rfl Pl60 f rfl rfl aV aT fun aW a aX f => ?_
     subst aX
     refine l_in f rfl rfl rfl b_and fun a f => ?_
     obtain ⟨aY, aZ, aG⟩ := bind_some aG
     refine l_own_at 1 m aJ rfl T55 f rfl rfl rfl aZ fun a0 a a1 f => l_own_store 1 m aJ rfl Tryd.sizeOf60 f rfl rfl a1 aZ rfl rfl rfl fun a2 w m a3 => l_nil (k_region ?_)
     refine l_mv f rfl rfl fun a f => l_mv f rfl rfl fun a f => ?_
     obtain ⟨a4, a5, aG⟩ := bind_some aG
     refine l_res f rfl rfl Tryd.call34 (Wk.d m  a5) fun a6 a7 a8 w a9 m ba a f => ?_
     obtain ⟨rfl, rfl⟩ := ba
     have h0 := rd1 a9 h0
     have aj := od1 a9 aj
     have a3 := od1 a9 a3
     refine l_in f rfl rfl rfl b_or fun a f => l_as f rfl rfl fun a f => l_nil (k_region ?_)
     refine l_mv f rfl rfl fun a f => l_in f rfl rfl rfl b_sub fun a f => l_as f rfl rfl fun a f => l_nil ?_
     obtain rfl := sj aG
     exact ⟨_, rfl, _, _, _, rfl, _, a2, (GLe.trans aI a9), f.weak ⟨rfl, rfl, rfl, rfl, rfl, rfl, trivial⟩, m, a3⟩
    ·refine k_false f rfl aR ?_
     refine k_region ?_
     refine l_mv f rfl rfl fun a f => l_mv f rfl rfl fun a f => l_mv f rfl rfl fun a f => l_mv f rfl rfl fun a f => l_mv f rfl rfl fun a f => ?_
     obtain ⟨bb, bc, aG⟩ := bind_some aG
     refine l_own_at 0 m aj rfl T56 f rfl rfl rfl bc fun bd a be f => l_own_load 0 m aj rfl Pl60 f rfl rfl be bc fun bf a bg f => ?_
     subst bg
     refine l_in f rfl rfl rfl b_andNot fun a f => ?_
     obtain ⟨bh, bi, aG⟩ := bind_some aG
     refine l_own_at 1 m aJ rfl T55 f rfl rfl rfl bi fun bj a bk f => l_own_store 1 m aJ rfl Tryd.sizeOf60 f rfl rfl bk bi rfl rfl rfl fun bl w m bm => l_nil (k_region ?_)
     refine l_mv f rfl rfl fun a f => l_mv f rfl rfl fun a f => ?_
     obtain ⟨bn, bo, aG⟩ := bind_some aG
     refine l_res f rfl rfl Tryd.call34 (Wk.d m  bo) fun bp bq br w bs m bt a f => ?_
     obtain ⟨rfl, rfl⟩ := bt
     have h0 := rd1 bs h0
     have aj := od1 bs aj
     have bm := od1 bs bm
     refine l_in f rfl rfl rfl b_or fun a f => l_as f rfl rfl fun a f => l_nil (k_region ?_)
     refine l_mv f rfl rfl fun a f => l_in f rfl rfl rfl b_sub fun a f => l_as f rfl rfl fun a f => l_nil ?_
     obtain rfl := sj aG
     exact ⟨_, rfl, _, _, _, rfl, _, bl, (GLe.trans aI bs), f.weak ⟨rfl, rfl, rfl, rfl, rfl, rfl, trivial⟩, m, bm⟩
   ·refine k_false f rfl aK ?_
    refine k_exit rfl ?_
    have m := m.front 1 rfl
    have m := m.eraseAt 1
    obtain rfl := sj aG
    obtain rfl := aH _ rfl
    exact ⟨_, rfl, _, aE, aI, f.weak ⟨rfl, trivial⟩, m, aJ⟩
  ·rintro a w ⟨aw, rfl, ax, ay, bu, f, m, bv⟩
   refine k_seq (k_region ?_)
   refine l_mv f rfl rfl fun a f => ?_
   obtain ⟨bw, bx, m, bz⟩ := Ow.stamp (RI.mono _) bv m
   obtain ⟨bA, bB, hd⟩ := bind_some hd
   refine l_res f rfl rfl Tryd.call37 (Wk.t0 hW m bz bB) fun bC bD bE w bF m bG a f => ?_
   obtain ⟨bH, rfl, rfl, bI⟩ := bG
   have bz := rd1 bF bz
   obtain ⟨bJ, bK, hd⟩ := bind_some hd
   refine l_res f rfl rfl Tryd.call36 (Wk.b0 m bI bK) fun bL bM bN w bO m bP a f => ?_
   obtain ⟨bQ, rfl, rfl, bR⟩ := bP
   have bz := rd1 bO bz
   have bI := rd2 bO bI
   obtain ⟨bS, bT, hd⟩ := bind_some hd
   refine l_res f rfl rfl Tryd.call35 (Wk.L m bR bT) fun bU bV bW w bX m bY a f => ?_
   obtain ⟨bZ, b0, rfl, rfl, b1⟩ := bY
   have bz := rd1 bX bz
   have bI := rd2 bX bI
   have bR := rd1 bX bR
   refine l_as f rfl rfl fun a f => l_nil ?_
   refine k_ret ?_
   obtain rfl := sj hd
   exact ⟨[bZ], ⟨f.get _ _ rfl, trivial⟩, f.defers, _, [b0], (GLe.trans af (GLe.trans bu (GLe.trans bx (GLe.trans bF (GLe.trans bO bX))))), m, _, _, rfl, rfl, b1⟩

theorem Wk.z0 {W w : World} {G : GH} {H : List Itm} {v0 : Value} {v1 : Value} {x0 : (List Int)} {x1 : (List Int)} (hW : TabW W) (m : Mem W G w (H)) (h0 : RSl (RI .i64) G v0 x0) (h1 : RSl (RI .i64) G v1 x1) {y : ((List Int))} (hd : D.z0 x0 x1 = some y) :
  Calls Tryd.prog 10 #[v0, v1] w (Res W G H (fun G' Ho v => ∃ r0 : Value, ∃ i0 : Itm, Ho = [i0] ∧ r0 = v ∧ Ow (RI .i64) 2 G' i0 r0 y)) := by
 refine calls_b (args := [v0, v1]) (N := 8) [.tmp 4] Tryd.func10 rfl rfl (Nat.le_of_ble_eq_true rfl) rfl fun a f => ?_
 unfold D.z0 at hd
 refine k_seq (k_region ?_)
 refine l_as f rfl rfl fun a f => l_nil (k_seq (k_region ?_))
 refine l_mv f rfl rfl fun a f => l_mv f rfl rfl fun a f => ?_
 obtain ⟨aa, ab, hd⟩ := bind_some hd
 refine l_res f rfl rfl Tryd.call19 (Wk.B hW m h0 h1 ab) fun ac ad ae w af m ag a f => ?_
 obtain ⟨ah, ai, rfl, rfl, aj⟩ := ag
 have h0 := rd1 af h0
 have h1 := rd1 af h1
 refine l_as f rfl rfl fun a f => l_nil ?_
 refine k_ret ?_
 obtain rfl := sj hd
 exact ⟨[ah], ⟨f.get _ _ rfl, trivial⟩, f.defers, _, [ai], af, m, _, _, rfl, rfl, aj⟩

theorem Wk.G0 {W w : World} {G : GH} {H : List Itm} {v0 : Value} {v1 : Value} {x0 : (List Int)} {x1 : (List Int)} (hW : TabW W) (m : Mem W G w (H)) (h0 : RSl (RI .i64) G v0 x0) (h1 : RSl (RI .i64) G v1 x1) {y : ((List Int))} (hd : D.G0 x0 x1 = some y) :
  Calls Tryd.prog 11 #[v0, v1] w (Res W G H (fun G' Ho v => ∃ r0 : Value, ∃ i0 : Itm, Ho = [i0] ∧ r0 = v ∧ Ow (RI .i64) 2 G' i0 r0 y)) := by
 refine calls_b (args := [v0, v1]) (N := 8) [.tmp 4] Tryd.func11 rfl rfl (Nat.le_of_ble_eq_true rfl) rfl fun a f => ?_
 unfold D.G0 at hd
 refine k_seq (k_region ?_)
 refine l_as f rfl rfl fun a f => l_nil (k_seq (k_region ?_))
 refine l_mv f rfl rfl fun a f => l_mv f rfl rfl fun a f => ?_
 obtain ⟨aa, ab, hd⟩ := bind_some hd
 refine l_res f rfl rfl Tryd.call19 (Wk.B hW m h0 h1 ab) fun ac ad ae w af m ag a f => ?_
 obtain ⟨ah, ai, rfl, rfl, aj⟩ := ag
 have h0 := rd1 af h0
 have h1 := rd1 af h1
 refine l_as f rfl rfl fun a f => l_nil ?_
 refine k_ret ?_
 obtain rfl := sj hd
 exact ⟨[ah], ⟨f.get _ _ rfl, trivial⟩, f.defers, _, [ai], af, m, _, _, rfl, rfl, aj⟩

theorem Wk.t {W w : World} {G : GH} {H : List Itm} {x0 : Int} (m : Mem W G w (H))  {y : ((List Int))} (hd : D.t x0 = some y) :
  Calls Tryd.prog 39 #[(.int .i64 x0)] w (Res W G H (fun G' Ho v => ∃ r0 : Value, ∃ i0 : Itm, Ho = [i0] ∧ r0 = v ∧ Ow (RI .i64) 2 G' i0 r0 y)) := by
 refine calls_b (args := [(.int .i64 x0)]) (N := 16) [.tmp 2] Tryd.func39 rfl rfl (Nat.le_of_ble_eq_true rfl) rfl fun a f => ?_
 unfold D.t at hd
 refine k_seq (k_region ?_)
 refine l_as f rfl rfl fun a f => l_nil (k_seq (k_region ?_))
 refine l_slit (R := (RI .i64)) (xs := ([] : List Int)) (RI.one _) m T28 f rfl rfl rfl (by decide) (All2.nil _) fun aa ab w a m ac f => l_as f rfl rfl fun a f => l_nil (k_seq (k_seq (k_region ?_)))
 refine l_as f rfl rfl fun a f => l_nil ?_
 obtain ⟨ad, ae, hd⟩ := bind_some hd
 refine k_cut (fun a w => ∃ af : List Int, af = ad ∧ ∃ (ag : GH) (ah : Value) (ai : Itm), GLe G ag ∧ Fr a 16 [(3, ah)] ∧ Mem W ag w (ai :: H) ∧ Ow (RI .i64) 2 ag ai ah af) ?_ ?_
 ·refine k_block ?_
  refine k_loop (fun aj a w => ∃ ak : List Int, ∃ al : Int, (ak, al) = aj ∧ ∃ (am : GH) (an : Value) (ao : Itm), GLe G am ∧ Fr a 16 [(0, (.int .i64 x0)), (3, an), (4, (.int .i64 al))] ∧ Mem W am w (ao :: H) ∧ Ow (RI .i64) 2 am ao an ak) ae ⟨_, _, rfl, _, ab, aa, (GLe.refl _), f.weak ⟨rfl, rfl, rfl, trivial⟩, m, ac⟩ ?_
  clear ae f m
  rintro aj ap aq ar a w ⟨ak, al, rfl, am, an, ao, au, f, m, av⟩
  refine k_seq (k_seq (k_region ?_))
  refine l_mv f rfl rfl fun a f => l_mv f rfl rfl fun a f => l_in f rfl rfl rfl b_lss fun a f => l_nil ?_
  rcases cond_some aq with ⟨aw, aq⟩ | ⟨aw, aq⟩
  ·refine k_true f rfl aw ?_
   refine k_skip ?_
   refine k_seq (k_block (k_region ?_))
   refine l_mv f rfl rfl fun a f => l_mv f rfl rfl fun a f => l_slit (R := (RI .i64)) (xs := ([al] : List Int)) (RI.one _) m T28 f rfl rfl rfl (by decide) (All2.cons rfl (All2.nil _)) fun ax ay w a m az f => ?_
   obtain ⟨aA, aB, aq⟩ := bind_some aq
   refine l_append (RI.one _) 1 m av rfl T28 rfl (by decide) f rfl rfl rfl (Ow.src (j := 0) az m rfl) aB fun aC aD w a m aE f => l_as f rfl rfl fun a f => l_nil (k_region ?_)
   refine l_mv f rfl rfl fun a f => l_in f rfl rfl rfl b_add fun a f => l_as f rfl rfl fun a f => l_nil ?_
   have m := m.front 1 rfl
   have m := m.eraseAt 1
   obtain rfl := sj aq
   exact ⟨_, rfl, _, _, rfl, _, aD, aC, au, f.weak ⟨rfl, rfl, rfl, trivial⟩, m, aE⟩
  ·refine k_false f rfl aw ?_
   refine k_exit rfl ?_
   obtain rfl := sj aq
   obtain rfl := ar _ rfl
   exact ⟨_, rfl, _, an, ao, au, f.weak ⟨rfl, trivial⟩, m, av⟩
 ·rintro a w ⟨af, rfl, ag, ah, ai, aF, f, m, aG⟩
  refine k_seq (k_region ?_)
  refine l_mv f rfl rfl fun a f => l_as f rfl rfl fun a f => l_nil ?_
  refine k_ret ?_
  obtain rfl := sj hd
  exact ⟨[ah], ⟨f.get _ _ rfl, trivial⟩, f.defers, _, [ai], aF, m, _, _, rfl, rfl, aG⟩

theorem Wk.p {W w : World} {G : GH} {H : List Itm} {v0 : Value} {v1 : Value} {x0 : (List Int)} {x1 : (List Int)} (m : Mem W G w (H)) (h0 : RSl (RI .i64) G v0 x0) (h1 : RSl (RI .i64) G v1 x1) {y : ((List Int))} (hd : D.p x0 x1 = some y) :
  Calls Tryd.prog 51 #[v0, v1] w (Res W G H (fun G' Ho v => ∃ r0 : Value, ∃ i0 : Itm, Ho = [i0] ∧ r0 = v ∧ Ow (RI .i64) 2 G' i0 r0 y)) := by
 refine calls_b (args := [v0, v1]) (N := 28) [.tmp 4] Tryd.func51 rfl rfl (Nat.le_of_ble_eq_true rfl) rfl fun a f => ?_
 unfold D.p at hd
 refine k_seq (k_region ?_)
 refine l_as f rfl rfl fun a f => l_nil (k_seq (k_region ?_))
 refine l_slit (R := (RI .i64)) (xs := ([] : List Int)) (RI.one _) m T28 f rfl rfl rfl (by decide) (All2.nil _) fun aa ab w a m ac f => l_as f rfl rfl fun a f => l_nil (k_seq (k_seq (k_region ?_)))
 refine l_as f rfl rfl fun a f => l_nil ?_
 obtain ⟨ad, ae, hd⟩ := bind_some hd
 refine k_cut (fun a w => ∃ af : List Int, af = ad ∧ ∃ (ag : GH) (ah : Value) (ai : Itm), GLe G ag ∧ Fr a 28 [(5, ah)] ∧ Mem W ag w (ai :: H) ∧ Ow (RI .i64) 2 ag ai ah af) ?_ ?_
 ·refine k_block ?_
  refine k_loop (fun aj a w => ∃ ak : List Int, ∃ al : Int, (ak, al) = aj ∧ ∃ (am : GH) (an : Value) (ao : Itm), GLe G am ∧ Fr a 28 [(0, v0), (1, v1), (5, an), (6, (.int .i64 al))] ∧ Mem W am w (ao :: H) ∧ Ow (RI .i64) 2 am ao an ak) ae ⟨_, _, rfl, _, ab, aa, (GLe.refl _), f.weak ⟨rfl, rfl, rfl, rfl, trivial⟩, m, ac⟩ ?_
  clear ae f m
  rintro aj ap aq ar a w ⟨ak, al, rfl, am, an, ao, au, f, m, av⟩
  have h0 := rd1 au h0
  have h1 := rd1 au h1
  refine k_seq (k_seq (k_region ?_))
  refine l_mv f rfl rfl fun a f => l_mv f rfl rfl fun a f => l_len Tryd.underlying28 f rfl rfl h0 fun a f => l_in f rfl rfl rfl b_lss fun a f => l_nil ?_
  rcases cond_some aq with ⟨aw, aq⟩ | ⟨aw, aq⟩
  ·refine k_true f rfl aw ?_
   refine k_skip ?_
   refine k_seq (k_block (k_seq (k_region ?_)))
   refine l_mv f rfl rfl fun a f => l_mv f rfl rfl fun a f => l_mv f rfl rfl fun a f => ?_
   obtain ⟨ax, ay, aq⟩ := bind_some aq
   refine l_at T28 f rfl rfl rfl h0 ay fun az aA a aB aC f => ?_
   subst aC
   refine l_loadAt m Pl2 f rfl rfl aB fun a f => ?_
   obtain ⟨aD, aE, aq⟩ := bind_some aq
   refine l_res f rfl rfl Tryd.call30 (Wk.i m h1 aE) fun aF aG aH w aI m aJ a f => ?_
   obtain ⟨rfl, rfl⟩ := aJ
   have h0 := rd1 aI h0
   have h1 := rd1 aI h1
   have aB := At.mono aI aB
   have av := od1 aI av
   refine l_nil ?_
   rcases cond_some aq with ⟨aK, aq⟩ | ⟨aK, aq⟩
   ·refine k_true f rfl aK ?_
    refine k_region ?_
    refine l_mv f rfl rfl fun a f => l_mv f rfl rfl fun a f => l_mv f rfl rfl fun a f => ?_
    obtain ⟨aL, aM, aq⟩ := bind_some aq
    refine l_at T28 f rfl rfl rfl h0 aM fun aN aO a aP aQ f => ?_
    subst aQ
    refine l_loadAt m Pl2 f rfl rfl aP fun a f => l_slit (R := (RI .i64)) (xs := ([aL] : List Int)) (RI.one _) m T28 f rfl rfl rfl (by decide) (All2.cons rfl (All2.nil _)) fun aR aS w a m aT f => ?_
    obtain ⟨aU, aV, aq⟩ := bind_some aq
    refine l_append (RI.one _) 1 m av rfl T28 rfl (by decide) f rfl rfl rfl (Ow.src (j := 0) aT m rfl) aV fun aW aX w a m aY f => l_as f rfl rfl fun a f => l_nil (k_region ?_)
    refine l_mv f rfl rfl fun a f => l_in f rfl rfl rfl b_add fun a f => l_as f rfl rfl fun a f => l_nil ?_
    have m := m.front 1 rfl
    have m := m.eraseAt 1
    obtain rfl := sj aq
    exact ⟨_, rfl, _, _, rfl, _, aX, aW, (GLe.trans au aI), f.weak ⟨rfl, rfl, rfl, rfl, trivial⟩, m, aY⟩
   ·refine k_false f rfl aK ?_
    refine k_skip ?_
    refine k_region ?_
    refine l_mv f rfl rfl fun a f => l_in f rfl rfl rfl b_add fun a f => l_as f rfl rfl fun a f => l_nil ?_
    obtain rfl := sj aq
    exact ⟨_, rfl, _, _, rfl, _, an, ao, (GLe.trans au aI), f.weak ⟨rfl, rfl, rfl, rfl, trivial⟩, m, av⟩
  ·refine k_false f rfl aw ?_
   refine k_exit rfl ?_
   obtain rfl := sj aq
   obtain rfl := ar _ rfl
   exact ⟨_, rfl, _, an, ao, au, f.weak ⟨rfl, trivial⟩, m, av⟩
 ·rintro a w ⟨af, rfl, ag, ah, ai, aZ, f, m, a0⟩
  refine k_seq (k_region ?_)
  refine l_mv f rfl rfl fun a f => l_as f rfl rfl fun a f => l_nil ?_
  refine k_ret ?_
  obtain rfl := sj hd
  exact ⟨[ah], ⟨f.get _ _ rfl, trivial⟩, f.defers, _, [ai], aZ, m, _, _, rfl, rfl, a0⟩

theorem Wk.D {W : World} (n : Nat) : ∀ {w : World} {G : GH} {H : List Itm} {v0_0 : Value} {v1 : Value} {v2 : Value} {v3 : Value} {x0_0 : (List (List Int))} {x1 : (List Int)} {x2 : (List Int)} {x3 : (List Int)} (m : Mem W G w (H)) (h0_0 : RSl (RSl (RI .i64)) G v0_0 x0_0) (h1 : RSl (RI .i64) G v1 x1) (h2 : RSl (RI .i64) G v2 x2) (h3 : RSl (RI .i64) G v3 x3) {y : ((List (List Int)))} (hd : D.D n x0_0 x1 x2 x3 = some y),
  Calls Tryd.prog 38 #[(.agg #[v0_0]), v1, v2, v3] w (Res W G H (fun G' Ho v => ∃ r0 : Value, ∃ i0 : Itm, Ho = [i0] ∧ r0 = v ∧ Ow (RSl (RI .i64)) 28 G' i0 r0 y)) := by
 induction n with
 | zero => intros; rename_i hd; simp [D.D] at hd
 | succ fuel ih =>
  intro w G H v0_0 v1 v2 v3 x0_0 x1 x2 x3 m h0_0 h1 h2 h3 y hd
  refine calls_b (args := [(.agg #[v0_0]), v1, v2, v3]) (N := 67) [.tmp 8] Tryd.func38 rfl rfl (Nat.le_of_ble_eq_true rfl) rfl fun a f => ?_
  unfold D.D at hd
  refine k_seq (k_region ?_)
  refine l_box (cs := [v0_0]) m f rfl rfl rfl fun aa w a m f => l_as f rfl rfl fun a f => l_nil (k_seq (k_seq (k_region ?_)))
  refine l_mv f rfl rfl fun a f => l_len Tryd.underlying28 f rfl rfl h2 fun a f => l_in f rfl rfl rfl b_eql fun a f => l_mv f rfl rfl fun a f => ?_
  refine l_cut 4 (fun a w => ∃ ab, GLe G ab ∧ Mem W ab w (Itm.box aa 32 [v0_0] :: H) ∧ Fr a 67 [(0, (.agg #[v0_0])), (1, v1), (2, v2), (3, v3), (4, (.pointer (some ⟨aa, 0, none⟩))), (13, v2), (14, (.int .i64 (x2.length : Int))), (15, (.bool ((x2.length : Int) == 0))), (16, (.bool ((x2.length : Int) == 0))), (20, (.bool (((x2.length : Int) == 0) && ((x3.length : Int) == 0))))]) ?_ ?_
  ·rcases Bool.eq_false_or_eq_true ((x2.length : Int) == 0) with ac | ac
   ·refine l_run f rfl rfl ac ?_
    refine l_mv f rfl rfl fun a f => l_run f rfl rfl ac ?_
    refine l_len Tryd.underlying28 f rfl rfl h3 fun a f => l_run f rfl rfl ac ?_
    refine l_in f rfl rfl rfl b_eql fun a f => l_op f rfl rfl rfl (r_pickT (f.eval rfl) ac (f.eval rfl)) fun a f => ?_
    exact ⟨_, (GLe.refl _), m, f.weak ⟨rfl, rfl, rfl, rfl, rfl, rfl, rfl, rfl, rfl, by rw [ac]; rfl, trivial⟩⟩
   ·refine l_not' f rfl rfl rfl ac fun a f => ?_
    refine l_not' f rfl rfl rfl ac fun a f => l_not' f rfl rfl rfl ac fun a f => l_op f rfl rfl rfl (r_pickF (f.eval rfl) ac (f.eval rfl)) fun a f => ?_
    exact ⟨_, (GLe.refl _), m, f.weak ⟨rfl, rfl, rfl, rfl, rfl, rfl, rfl, rfl, rfl, by rw [ac]; rfl, trivial⟩⟩
  ·rintro a w ⟨ab, ad, m, f⟩
   have h0_0 := rd2 ad h0_0
   have h1 := rd1 ad h1
   have h2 := rd1 ad h2
   have h3 := rd1 ad h3
   refine l_nil ?_
   rcases cond_some hd with ⟨ae, hd⟩ | ⟨ae, hd⟩
   ·refine k_true f rfl ae ?_
    refine k_seq (k_region ?_)
    refine l_mv f rfl rfl fun a f => l_slit (R := (RSl (RI .i64))) (xs := ([x1] : List (List Int))) (RSl.one _) m T30 f rfl rfl rfl (by decide) (All2.cons h1 (All2.nil _)) fun af ag w a m ah f => l_as f rfl rfl fun a f => l_nil ?_
    refine k_ret ?_
    have m := m.eraseAt 1
    obtain rfl := sj hd
    exact ⟨[ag], ⟨f.get _ _ rfl, trivial⟩, f.defers, _, [af], ad, m, _, _, rfl, rfl, ah⟩
   ·refine k_false f rfl ae ?_
    refine k_skip ?_
    refine k_seq (k_region ?_)
    refine l_slit (R := (RSl (RI .i64))) (xs := ([] : List (List Int))) (RSl.one _) m T30 f rfl rfl rfl (by decide) (All2.nil _) fun ai aj w a m ak f => l_as f rfl rfl fun a f => l_nil (k_seq (k_seq (k_region ?_)))
    refine l_as f rfl rfl fun a f => l_nil ?_
    obtain ⟨al, am, hd⟩ := bind_some hd
    refine k_cut (fun a w => ∃ an : List (List Int), an = al ∧ ∃ (ao : GH) (ap : Value) (aq : Itm), GLe ab ao ∧ Fr a 67 [(9, ap)] ∧ Mem W ao w (aq :: H) ∧ Ow (RSl (RI .i64)) 28 ao aq ap an) ?_ ?_
    ·refine k_block ?_
     have m := m.front 1 rfl
     refine k_loop (fun ar a w => ∃ au : List (List Int), ∃ av : Int, (au, av) = ar ∧ ∃ (aw : GH) (ax : Value) (ay : Itm), GLe ab aw ∧ Fr a 67 [(1, v1), (2, v2), (3, v3), (4, (.pointer (some ⟨aa, 0, none⟩))), (9, ax), (10, (.int .i64 av))] ∧ Mem W aw w (Itm.box aa 32 [v0_0] :: ay :: H) ∧ Ow (RSl (RI .i64)) 28 aw ay ax au) am ⟨_, _, rfl, _, aj, ai, (GLe.refl _), f.weak ⟨rfl, rfl, rfl, rfl, rfl, rfl, trivial⟩, m, ak⟩ ?_
     clear am f m
     rintro ar az aA aB a w ⟨au, av, rfl, aw, ax, ay, aC, f, m, aD⟩
     have h1 := rd1 aC h1
     have h2 := rd1 aC h2
     have h3 := rd1 aC h3
     have h0_0 := rd2 aC h0_0
     refine k_seq (k_seq (k_region ?_))
     refine l_mv f rfl rfl fun a f => l_mv f rfl rfl fun a f => l_len Tryd.underlying28 f rfl rfl h2 fun a f => l_in f rfl rfl rfl b_lss fun a f => l_nil ?_
     rcases cond_some aA with ⟨aE, aA⟩ | ⟨aE, aA⟩
     ·refine k_true f rfl aE ?_
      refine k_skip ?_
      refine k_seq (k_block (k_seq (k_region ?_)))
      refine l_mv f rfl rfl fun a f => l_mv f rfl rfl fun a f => ?_
      obtain ⟨aF, aG, aA⟩ := bind_some aA
      refine l_at T28 f rfl rfl rfl h2 aG fun aH aI a aJ aK f => ?_
      subst aK
      refine l_loadAt m Pl2 f rfl rfl aJ fun a f => l_as f rfl rfl fun a f => l_nil (k_seq ?_)
      obtain ⟨aL, aM, aA⟩ := bind_some aA
      refine k_cut (fun a w => ∃ aN : List (List Int), aN = aL ∧ ∃ (aO : GH) (aP : Value) (aQ : Itm), GLe aw aO ∧ Fr a 67 [(1, v1), (2, v2), (3, v3), (4, (.pointer (some ⟨aa, 0, none⟩))), (9, ax), (10, (.int .i64 av)), (12, aP)] ∧ Mem W aO w (Itm.box aa 32 [v0_0] :: ay :: aQ :: H) ∧ Ow (RSl (RI .i64)) 28 aO aQ aP aN) ?_ ?_
      ·refine k_draw 28 Follows (by kernel_rfl) m ?_
       refine q_boxAgg (i := 0) (ds := [v0_0]) 28 0 Ag32 rfl rfl rfl rfl (by kernel_rfl) rfl f rfl rfl rfl fun a f => q_mv 1 28 rfl (by kernel_rfl) f rfl rfl rfl fun a f => q_mv 3 28 rfl (by kernel_rfl) f rfl rfl rfl fun a f => q_mv 6 28 rfl (by kernel_rfl) f rfl rfl rfl fun a f => q_mv 7 28 rfl (by kernel_rfl) f rfl rfl rfl fun a f => q_p 8 28 rfl (by kernel_rfl) f rfl rfl rfl (fun _ => r_int (f.eval rfl) (f.eval rfl) b_add) fun a f => ?_
       obtain ⟨aR, aS, aM⟩ := bind_some aM
       refine q_slice (i := 9) 28 T28 h2 aS rfl (by kernel_rfl) rfl f rfl rfl rfl (.inr ⟨_, _, rfl, rfl⟩) (.inl ⟨rfl, rfl⟩) fun aT a aU f => q_fieldAddr (i := 10) 28 Tryd.underlying32 rfl Tryd.sizeOf30 (by decide) rfl (by kernel_rfl) rfl f rfl rfl rfl fun a f => q_boxCell (i := 11) 28 0 Pl30 rfl rfl rfl (by kernel_rfl) rfl f rfl rfl rfl fun a f => q_mv 12 28 rfl (by kernel_rfl) f rfl rfl rfl fun a f => ?_
       obtain ⟨aV, aW, aM⟩ := bind_some aM
       refine q_at (i := 13) 28 T30 h0_0 aW rfl (by kernel_rfl) rfl f rfl rfl rfl rfl fun aX aY a aZ a2 f => q_loadAt (i := 14) 28 Pl28 aZ rfl (by kernel_rfl) rfl f rfl rfl rfl fun a f => q_mv 16 28 rfl (by kernel_rfl) f rfl rfl rfl fun a f => q_mv 18 28 rfl (by kernel_rfl) f rfl rfl rfl fun a f => q_mv 19 28 rfl (by kernel_rfl) f rfl rfl rfl fun a f => ?_
       obtain ⟨a3, a4, aM⟩ := bind_some aM
       refine q_slice (i := 20) 28 T28 h2 a4 rfl (by kernel_rfl) rfl f rfl rfl rfl (.inl ⟨rfl, rfl⟩) (.inr ⟨_, _, rfl, rfl⟩) fun a5 a a6 f => q_fieldAddr (i := 22) 28 Tryd.underlying32 rfl Tryd.sizeOf30 (by decide) rfl (by kernel_rfl) rfl f rfl rfl rfl fun a f => q_boxCell (i := 23) 28 0 Pl30 rfl rfl rfl (by kernel_rfl) rfl f rfl rfl rfl fun a f => q_mv 24 28 rfl (by kernel_rfl) f rfl rfl rfl fun a f => ?_
       obtain ⟨a7, a8, aM⟩ := bind_some aM
       refine q_at (i := 25) 28 T30 h0_0 a8 rfl (by kernel_rfl) rfl f rfl rfl rfl rfl fun a9 ba a bb bc f => q_loadAt (i := 26) 28 Pl28 bb rfl (by kernel_rfl) rfl f rfl rfl rfl fun a f => q_two (i := 2) (j := 4) (l1 := #[true, true, true, true, false, false, true, true, true, true, true, true, true, true, true, false, true, false, true, true, true, false, true, true, true, true, true, false, false, false]) (l2 := #[true, true, false, true, true, false, true, true, true, true, true, true, true, true, true, false, true, false, true, true, true, false, true, true, true, true, true, false, false, false]) rfl rfl (by kernel_rfl) rfl rfl ?_ ?_
       ·intro bd w be m bf bf
        have h1 := rd1 be h1
        have h2 := rd1 be h2
        have h3 := rd1 be h3
        have h0_0 := rd2 be h0_0
        have aU := rd1 be aU
        have aZ := At.mono be aZ
        have a2 := rd1 be a2
        have a6 := rd1 be a6
        have bb := At.mono be bb
        have bc := rd1 be bc
        have aD := Ow.mono (RSl.mono (RI.mono _)) be aD
        obtain ⟨bg, bh, aM⟩ := bind_some aM
        refine l_res f rfl rfl Tryd.call50 (Wk.h m h1 bh) fun bi bj bk w bl m bm a f => ?_
        obtain ⟨bn, bo, rfl, rfl, bp⟩ := bm
        have h1 := rd1 bl h1
        have h2 := rd1 bl h2
        have h3 := rd1 bl h3
        have h0_0 := rd2 bl h0_0
        have aU := rd1 bl aU
        have aZ := At.mono bl aZ
        have a2 := rd1 bl a2
        have a6 := rd1 bl a6
        have bb := At.mono bl bb
        have bc := rd1 bl bc
        have aD := Ow.mono (RSl.mono (RI.mono _)) bl aD
        refine l_nil ?_
        refine bf bj [bo] _ _ bl m ?_
        refine q_one (i := 4) rfl (by kernel_rfl) rfl fun bq w br m bs bs => ?_
        have h1 := rd1 br h1
        have h2 := rd1 br h2
        have h3 := rd1 br h3
        have h0_0 := rd2 br h0_0
        have aU := rd1 br aU
        have aZ := At.mono br aZ
        have a2 := rd1 br a2
        have a6 := rd1 br a6
        have bb := At.mono br bb
        have bc := rd1 br bc
        have bp := od1 br bp
        have aD := Ow.mono (RSl.mono (RI.mono _)) br aD
        refine l_slit (R := (RI .i64)) (xs := ([aF] : List Int)) (RI.one _) m T28 f rfl rfl rfl (by decide) (All2.cons rfl (All2.nil _)) fun bt bu w a m bv f => l_nil ?_
        refine bs bq [bt, bo] _ _ (GLe.refl _) m ?_
        refine q_one (i := 5) rfl (by kernel_rfl) rfl fun bw w bx m bz bz => ?_
        have h1 := rd1 bx h1
        have h2 := rd1 bx h2
        have h3 := rd1 bx h3
        have h0_0 := rd2 bx h0_0
        have aU := rd1 bx aU
        have aZ := At.mono bx aZ
        have a2 := rd1 bx a2
        have a6 := rd1 bx a6
        have bb := At.mono bx bb
        have bc := rd1 bx bc
        have bv := od1 bx bv
        have bp := od1 bx bp
        have aD := Ow.mono (RSl.mono (RI.mono _)) bx aD
        obtain ⟨bA, bB, aM⟩ := bind_some aM
        refine l_append (RI.one _) 1 m bp rfl T28 rfl (by decide) f rfl rfl rfl (Ow.src (j := 0) bv m rfl) bB fun bC bD w a m bE f => l_nil ?_
        refine bz bw [bt, bC] _ _ (GLe.refl _) m ?_
        refine q_one (i := 15) rfl (by kernel_rfl) rfl fun bF w bG m bH bH => ?_
        have h1 := rd1 bG h1
        have h2 := rd1 bG h2
        have h3 := rd1 bG h3
        have h0_0 := rd2 bG h0_0
        have aU := rd1 bG aU
        have aZ := At.mono bG aZ
        have a2 := rd1 bG a2
        have a6 := rd1 bG a6
        have bb := At.mono bG bb
        have bc := rd1 bG bc
        have bv := od1 bG bv
        have bE := od1 bG bE
        have aD := Ow.mono (RSl.mono (RI.mono _)) bG aD
        obtain ⟨bI, bJ, aM⟩ := bind_some aM
        refine l_res f rfl rfl Tryd.call51 (Wk.p m aU a2 bJ) fun bK bL bM w bN m bO a f => ?_
        obtain ⟨bP, bQ, rfl, rfl, bR⟩ := bO
        have h1 := rd1 bN h1
        have h2 := rd1 bN h2
        have h3 := rd1 bN h3
        have h0_0 := rd2 bN h0_0
        have aU := rd1 bN aU
        have aZ := At.mono bN aZ
        have a2 := rd1 bN a2
        have a6 := rd1 bN a6
        have bb := At.mono bN bb
        have bc := rd1 bN bc
        have bv := od1 bN bv
        have bE := od1 bN bE
        have aD := Ow.mono (RSl.mono (RI.mono _)) bN aD
        refine l_nil ?_
        refine bH bL [bQ, bt, bC] _ _ bN m ?_
        refine q_one (i := 17) rfl (by kernel_rfl) rfl fun bS w bT m bU bU => ?_
        have h1 := rd1 bT h1
        have h2 := rd1 bT h2
        have h3 := rd1 bT h3
        have h0_0 := rd2 bT h0_0
        have aU := rd1 bT aU
        have aZ := At.mono bT aZ
        have a2 := rd1 bT a2
        have a6 := rd1 bT a6
        have bb := At.mono bT bb
        have bc := rd1 bT bc
        have bR := od1 bT bR
        have bv := od1 bT bv
        have bE := od1 bT bE
        have aD := Ow.mono (RSl.mono (RI.mono _)) bT aD
        obtain ⟨bV, bW, aM⟩ := bind_some aM
        refine l_res f rfl rfl Tryd.call50 (Wk.h m h3 bW) fun bX bY bZ w b0 m b1 a f => ?_
        obtain ⟨b2, b3, rfl, rfl, b4⟩ := b1
        have h1 := rd1 b0 h1
        have h2 := rd1 b0 h2
        have h3 := rd1 b0 h3
        have h0_0 := rd2 b0 h0_0
        have aU := rd1 b0 aU
        have aZ := At.mono b0 aZ
        have a2 := rd1 b0 a2
        have a6 := rd1 b0 a6
        have bb := At.mono b0 bb
        have bc := rd1 b0 bc
        have bR := od1 b0 bR
        have bv := od1 b0 bv
        have bE := od1 b0 bE
        have aD := Ow.mono (RSl.mono (RI.mono _)) b0 aD
        refine l_nil ?_
        refine bU bY [b3, bQ, bt, bC] _ _ b0 m ?_
        refine q_one (i := 21) rfl (by kernel_rfl) rfl fun b5 w b6 m b7 b7 => ?_
        have h1 := rd1 b6 h1
        have h2 := rd1 b6 h2
        have h3 := rd1 b6 h3
        have h0_0 := rd2 b6 h0_0
        have aU := rd1 b6 aU
        have aZ := At.mono b6 aZ
        have a2 := rd1 b6 a2
        have a6 := rd1 b6 a6
        have bb := At.mono b6 bb
        have bc := rd1 b6 bc
        have b4 := od1 b6 b4
        have bR := od1 b6 bR
        have bv := od1 b6 bv
        have bE := od1 b6 bE
        have aD := Ow.mono (RSl.mono (RI.mono _)) b6 aD
        obtain ⟨b8, b9, aM⟩ := bind_some aM
        refine l_append (RI.one _) 0 m b4 rfl T28 rfl (by decide) f rfl rfl rfl (a6.src m) b9 fun ca cb w a m cc f => l_nil ?_
        refine b7 b5 [ca, bQ, bt, bC] _ _ (GLe.refl _) m ?_
        refine q_one (i := 27) rfl (by kernel_rfl) rfl fun cd w ce m cf cf => ?_
        have h1 := rd1 ce h1
        have h2 := rd1 ce h2
        have h3 := rd1 ce h3
        have h0_0 := rd2 ce h0_0
        have aU := rd1 ce aU
        have aZ := At.mono ce aZ
        have a2 := rd1 ce a2
        have a6 := rd1 ce a6
        have bb := At.mono ce bb
        have bc := rd1 ce bc
        have cc := od1 ce cc
        have bR := od1 ce bR
        have bv := od1 ce bv
        have bE := od1 ce bE
        have aD := Ow.mono (RSl.mono (RI.mono _)) ce aD
        obtain ⟨cg, ch, aM⟩ := bind_some aM
        refine l_res f rfl rfl Tryd.call51 (Ow.lendCall (RI.mono _) 0 cc m rfl (fun ci cj m ck => Wk.p m ck (rd1 cj bc) ch) (fun _ G' _ _ ⟨a0, a1, e1, e2, o0⟩ => ⟨a0, a1, e1, e2, Ow.free (RI.free _) G' o0⟩)) fun cl cm cn w co m cp a f => ?_
        obtain ⟨cq, cr, rfl, rfl, ct⟩ := cp
        have h1 := rd1 co h1
        have h2 := rd1 co h2
        have h3 := rd1 co h3
        have h0_0 := rd2 co h0_0
        have aU := rd1 co aU
        have aZ := At.mono co aZ
        have a2 := rd1 co a2
        have a6 := rd1 co a6
        have bb := At.mono co bb
        have bc := rd1 co bc
        have cc := od1 co cc
        have bR := od1 co bR
        have bv := od1 co bv
        have bE := od1 co bE
        have aD := Ow.mono (RSl.mono (RI.mono _)) co aD
        refine l_nil ?_
        refine cf cm [cr, ca, bQ, bt, bC] _ _ co m ?_
        refine q_end fun cu w cv m => ?_
        have h1 := rd1 cv h1
        have h2 := rd1 cv h2
        have h3 := rd1 cv h3
        have h0_0 := rd2 cv h0_0
        have aU := rd1 cv aU
        have aZ := At.mono cv aZ
        have a2 := rd1 cv a2
        have a6 := rd1 cv a6
        have bb := At.mono cv bb
        have bc := rd1 cv bc
        have ct := od1 cv ct
        have cc := od1 cv cc
        have bR := od1 cv bR
        have bv := od1 cv bv
        have bE := od1 cv bE
        have aD := Ow.mono (RSl.mono (RI.mono _)) cv aD
        have m : Mem W cu w (bC :: cr :: ca :: bQ :: bt :: Itm.box aa 32 [v0_0] :: ay :: H) := m.front 4 rfl
        obtain ⟨cw, cx, m, cy⟩ := Ow.stamp (RI.mono _) bE m
        have h1 := rd1 cx h1
        have h2 := rd1 cx h2
        have h3 := rd1 cx h3
        have h0_0 := rd2 cx h0_0
        have aU := rd1 cx aU
        have aZ := At.mono cx aZ
        have a2 := rd1 cx a2
        have a6 := rd1 cx a6
        have bb := At.mono cx bb
        have bc := rd1 cx bc
        have ct := od1 cx ct
        have cc := od1 cx cc
        have bR := od1 cx bR
        have bv := od1 cx bv
        have aD := Ow.mono (RSl.mono (RI.mono _)) cx aD
        have m : Mem W cw w (bQ :: cr :: ca :: bt :: Itm.box aa 32 [v0_0] :: ay :: H) := m.front 2 rfl
        obtain ⟨cz, cA, m, cB⟩ := Ow.stamp (RI.mono _) bR m
        have h1 := rd1 cA h1
        have h2 := rd1 cA h2
        have h3 := rd1 cA h3
        have h0_0 := rd2 cA h0_0
        have cy := rd1 cA cy
        have aU := rd1 cA aU
        have aZ := At.mono cA aZ
        have a2 := rd1 cA a2
        have a6 := rd1 cA a6
        have bb := At.mono cA bb
        have bc := rd1 cA bc
        have ct := od1 cA ct
        have cc := od1 cA cc
        have bv := od1 cA bv
        have aD := Ow.mono (RSl.mono (RI.mono _)) cA aD
        obtain ⟨cC, cD, m, cE⟩ := Ow.stamp (RI.mono _) ct m
        have h1 := rd1 cD h1
        have h2 := rd1 cD h2
        have h3 := rd1 cD h3
        have h0_0 := rd2 cD h0_0
        have cy := rd1 cD cy
        have aU := rd1 cD aU
        have aZ := At.mono cD aZ
        have a2 := rd1 cD a2
        have cB := rd1 cD cB
        have a6 := rd1 cD a6
        have bb := At.mono cD bb
        have bc := rd1 cD bc
        have cc := od1 cD cc
        have bv := od1 cD bv
        have aD := Ow.mono (RSl.mono (RI.mono _)) cD aD
        obtain ⟨cF, cG, aM⟩ := bind_some aM
        refine l_res f rfl rfl Tryd.call38 (ih m h0_0 cy cB cE cG) fun cH cI cJ w cK m cL a f => ?_
        obtain ⟨cM, cN, rfl, rfl, cO⟩ := cL
        have h1 := rd1 cK h1
        have h2 := rd1 cK h2
        have h3 := rd1 cK h3
        have h0_0 := rd2 cK h0_0
        have cy := rd1 cK cy
        have aU := rd1 cK aU
        have aZ := At.mono cK aZ
        have a2 := rd1 cK a2
        have cB := rd1 cK cB
        have a6 := rd1 cK a6
        have bb := At.mono cK bb
        have bc := rd1 cK bc
        have cE := rd1 cK cE
        have cc := od1 cK cc
        have bv := od1 cK bv
        have aD := Ow.mono (RSl.mono (RI.mono _)) cK aD
        refine l_as f rfl rfl fun a f => l_nil ?_
        have m := m.front 4 rfl
        have m := m.front 4 rfl
        have m : Mem W cI w (Itm.box aa 32 [v0_0] :: ay :: cN :: ca :: H) := m.eraseAt 4
        have m := m.eraseAt 3
        obtain rfl := sj aM
        exact ⟨_, rfl, _, cM, cN, (GLe.trans be (GLe.trans bl (GLe.trans br (GLe.trans bx (GLe.trans bG (GLe.trans bN (GLe.trans bT (GLe.trans b0 (GLe.trans b6 (GLe.trans ce (GLe.trans co (GLe.trans cv (GLe.trans cx (GLe.trans cA (GLe.trans cD cK))))))))))))))), f.weak ⟨rfl, rfl, rfl, rfl, rfl, rfl, rfl, trivial⟩, m, cO⟩
       ·intro bq w br m bs bs
        obtain ⟨bg, bh, aM⟩ := bind_some aM
        obtain ⟨bA, bB, aM⟩ := bind_some aM
        obtain ⟨bI, bJ, aM⟩ := bind_some aM
        obtain ⟨bV, bW, aM⟩ := bind_some aM
        obtain ⟨b8, b9, aM⟩ := bind_some aM
        obtain ⟨cg, ch, aM⟩ := bind_some aM
        obtain ⟨cF, cG, aM⟩ := bind_some aM
        have h1 := rd1 br h1
        have h2 := rd1 br h2
        have h3 := rd1 br h3
        have h0_0 := rd2 br h0_0
        have aU := rd1 br aU
        have aZ := At.mono br aZ
        have a2 := rd1 br a2
        have a6 := rd1 br a6
        have bb := At.mono br bb
        have bc := rd1 br bc
        have aD := Ow.mono (RSl.mono (RI.mono _)) br aD
        refine l_slit (R := (RI .i64)) (xs := ([aF] : List Int)) (RI.one _) m T28 f rfl rfl rfl (by decide) (All2.cons rfl (All2.nil _)) fun bt bu w a m bv f => l_nil ?_
        refine bs bq [bt] _ _ (GLe.refl _) m ?_
        refine q_one (i := 2) rfl (by kernel_rfl) rfl fun bd w be m bf bf => ?_
        have h1 := rd1 be h1
        have h2 := rd1 be h2
        have h3 := rd1 be h3
        have h0_0 := rd2 be h0_0
        have aU := rd1 be aU
        have aZ := At.mono be aZ
        have a2 := rd1 be a2
        have a6 := rd1 be a6
        have bb := At.mono be bb
        have bc := rd1 be bc
        have bv := od1 be bv
        have aD := Ow.mono (RSl.mono (RI.mono _)) be aD
        refine l_res f rfl rfl Tryd.call50 (Wk.h m h1 bh) fun bi bj bk w bl m bm a f => ?_
        obtain ⟨bn, bo, rfl, rfl, bp⟩ := bm
        have h1 := rd1 bl h1
        have h2 := rd1 bl h2
        have h3 := rd1 bl h3
        have h0_0 := rd2 bl h0_0
        have aU := rd1 bl aU
        have aZ := At.mono bl aZ
        have a2 := rd1 bl a2
        have a6 := rd1 bl a6
        have bb := At.mono bl bb
        have bc := rd1 bl bc
        have bv := od1 bl bv
        have aD := Ow.mono (RSl.mono (RI.mono _)) bl aD
        refine l_nil ?_
        refine bf bj [bo, bt] _ _ bl m ?_
        refine q_one (i := 5) rfl (by kernel_rfl) rfl fun bw w bx m bz bz => ?_
        have h1 := rd1 bx h1
        have h2 := rd1 bx h2
        have h3 := rd1 bx h3
        have h0_0 := rd2 bx h0_0
        have aU := rd1 bx aU
        have aZ := At.mono bx aZ
        have a2 := rd1 bx a2
        have a6 := rd1 bx a6
        have bb := At.mono bx bb
        have bc := rd1 bx bc
        have bp := od1 bx bp
        have bv := od1 bx bv
        have aD := Ow.mono (RSl.mono (RI.mono _)) bx aD
        refine l_append (RI.one _) 0 m bp rfl T28 rfl (by decide) f rfl rfl rfl (Ow.src (j := 1) bv m rfl) bB fun bC bD w a m bE f => l_nil ?_
        refine bz bw [bC, bt] _ _ (GLe.refl _) m ?_
        refine q_one (i := 15) rfl (by kernel_rfl) rfl fun bF w bG m bH bH => ?_
        have h1 := rd1 bG h1
        have h2 := rd1 bG h2
        have h3 := rd1 bG h3
        have h0_0 := rd2 bG h0_0
        have aU := rd1 bG aU
        have aZ := At.mono bG aZ
        have a2 := rd1 bG a2
        have a6 := rd1 bG a6
        have bb := At.mono bG bb
        have bc := rd1 bG bc
        have bE := od1 bG bE
        have bv := od1 bG bv
        have aD := Ow.mono (RSl.mono (RI.mono _)) bG aD
        refine l_res f rfl rfl Tryd.call51 (Wk.p m aU a2 bJ) fun bK bL bM w bN m bO a f => ?_
        obtain ⟨bP, bQ, rfl, rfl, bR⟩ := bO
        have h1 := rd1 bN h1
        have h2 := rd1 bN h2
        have h3 := rd1 bN h3
        have h0_0 := rd2 bN h0_0
        have aU := rd1 bN aU
        have aZ := At.mono bN aZ
        have a2 := rd1 bN a2
        have a6 := rd1 bN a6
        have bb := At.mono bN bb
        have bc := rd1 bN bc
        have bE := od1 bN bE
        have bv := od1 bN bv
        have aD := Ow.mono (RSl.mono (RI.mono _)) bN aD
        refine l_nil ?_
        refine bH bL [bQ, bC, bt] _ _ bN m ?_
        refine q_one (i := 17) rfl (by kernel_rfl) rfl fun bS w bT m bU bU => ?_
        have h1 := rd1 bT h1
        have h2 := rd1 bT h2
        have h3 := rd1 bT h3
        have h0_0 := rd2 bT h0_0
        have aU := rd1 bT aU
        have aZ := At.mono bT aZ
        have a2 := rd1 bT a2
        have a6 := rd1 bT a6
        have bb := At.mono bT bb
        have bc := rd1 bT bc
        have bR := od1 bT bR
        have bE := od1 bT bE
        have bv := od1 bT bv
        have aD := Ow.mono (RSl.mono (RI.mono _)) bT aD
        refine l_res f rfl rfl Tryd.call50 (Wk.h m h3 bW) fun bX bY bZ w b0 m b1 a f => ?_
        obtain ⟨b2, b3, rfl, rfl, b4⟩ := b1
        have h1 := rd1 b0 h1
        have h2 := rd1 b0 h2
        have h3 := rd1 b0 h3
        have h0_0 := rd2 b0 h0_0
        have aU := rd1 b0 aU
        have aZ := At.mono b0 aZ
        have a2 := rd1 b0 a2
        have a6 := rd1 b0 a6
        have bb := At.mono b0 bb
        have bc := rd1 b0 bc
        have bR := od1 b0 bR
        have bE := od1 b0 bE
        have bv := od1 b0 bv
        have aD := Ow.mono (RSl.mono (RI.mono _)) b0 aD
        refine l_nil ?_
        refine bU bY [b3, bQ, bC, bt] _ _ b0 m ?_
        refine q_one (i := 21) rfl (by kernel_rfl) rfl fun b5 w b6 m b7 b7 => ?_
        have h1 := rd1 b6 h1
        have h2 := rd1 b6 h2
        have h3 := rd1 b6 h3
        have h0_0 := rd2 b6 h0_0
        have aU := rd1 b6 aU
        have aZ := At.mono b6 aZ
        have a2 := rd1 b6 a2
        have a6 := rd1 b6 a6
        have bb := At.mono b6 bb
        have bc := rd1 b6 bc
        have b4 := od1 b6 b4
        have bR := od1 b6 bR
        have bE := od1 b6 bE
        have bv := od1 b6 bv
        have aD := Ow.mono (RSl.mono (RI.mono _)) b6 aD
        refine l_append (RI.one _) 0 m b4 rfl T28 rfl (by decide) f rfl rfl rfl (a6.src m) b9 fun ca cb w a m cc f => l_nil ?_
        refine b7 b5 [ca, bQ, bC, bt] _ _ (GLe.refl _) m ?_
        refine q_one (i := 27) rfl (by kernel_rfl) rfl fun cd w ce m cf cf => ?_
        have h1 := rd1 ce h1
        have h2 := rd1 ce h2
        have h3 := rd1 ce h3
        have h0_0 := rd2 ce h0_0
        have aU := rd1 ce aU
        have aZ := At.mono ce aZ
        have a2 := rd1 ce a2
        have a6 := rd1 ce a6
        have bb := At.mono ce bb
        have bc := rd1 ce bc
        have cc := od1 ce cc
        have bR := od1 ce bR
        have bE := od1 ce bE
        have bv := od1 ce bv
        have aD := Ow.mono (RSl.mono (RI.mono _)) ce aD
        refine l_res f rfl rfl Tryd.call51 (Ow.lendCall (RI.mono _) 0 cc m rfl (fun ci cj m ck => Wk.p m ck (rd1 cj bc) ch) (fun _ G' _ _ ⟨a0, a1, e1, e2, o0⟩ => ⟨a0, a1, e1, e2, Ow.free (RI.free _) G' o0⟩)) fun cl cm cn w co m cp a f => ?_
        obtain ⟨cq, cr, rfl, rfl, ct⟩ := cp
        have h1 := rd1 co h1
        have h2 := rd1 co h2
        have h3 := rd1 co h3
        have h0_0 := rd2 co h0_0
        have aU := rd1 co aU
        have aZ := At.mono co aZ
        have a2 := rd1 co a2
        have a6 := rd1 co a6
        have bb := At.mono co bb
        have bc := rd1 co bc
        have cc := od1 co cc
        have bR := od1 co bR
        have bE := od1 co bE
        have bv := od1 co bv
        have aD := Ow.mono (RSl.mono (RI.mono _)) co aD
        refine l_nil ?_
        refine cf cm [cr, ca, bQ, bC, bt] _ _ co m ?_
        refine q_end fun cu w cv m => ?_
        have h1 := rd1 cv h1
        have h2 := rd1 cv h2
        have h3 := rd1 cv h3
        have h0_0 := rd2 cv h0_0
        have aU := rd1 cv aU
        have aZ := At.mono cv aZ
        have a2 := rd1 cv a2
        have a6 := rd1 cv a6
        have bb := At.mono cv bb
        have bc := rd1 cv bc
        have ct := od1 cv ct
        have cc := od1 cv cc
        have bR := od1 cv bR
        have bE := od1 cv bE
        have bv := od1 cv bv
        have aD := Ow.mono (RSl.mono (RI.mono _)) cv aD
        have m : Mem W cu w (bC :: cr :: ca :: bQ :: bt :: Itm.box aa 32 [v0_0] :: ay :: H) := m.front 3 rfl
        obtain ⟨cw, cx, m, cy⟩ := Ow.stamp (RI.mono _) bE m
        have h1 := rd1 cx h1
        have h2 := rd1 cx h2
        have h3 := rd1 cx h3
        have h0_0 := rd2 cx h0_0
        have aU := rd1 cx aU
        have aZ := At.mono cx aZ
        have a2 := rd1 cx a2
        have a6 := rd1 cx a6
        have bb := At.mono cx bb
        have bc := rd1 cx bc
        have ct := od1 cx ct
        have cc := od1 cx cc
        have bR := od1 cx bR
        have bv := od1 cx bv
        have aD := Ow.mono (RSl.mono (RI.mono _)) cx aD
        have m : Mem W cw w (bQ :: cr :: ca :: bt :: Itm.box aa 32 [v0_0] :: ay :: H) := m.front 2 rfl
        obtain ⟨cz, cA, m, cB⟩ := Ow.stamp (RI.mono _) bR m
        have h1 := rd1 cA h1
        have h2 := rd1 cA h2
        have h3 := rd1 cA h3
        have h0_0 := rd2 cA h0_0
        have cy := rd1 cA cy
        have aU := rd1 cA aU
        have aZ := At.mono cA aZ
        have a2 := rd1 cA a2
        have a6 := rd1 cA a6
        have bb := At.mono cA bb
        have bc := rd1 cA bc
        have ct := od1 cA ct
        have cc := od1 cA cc
        have bv := od1 cA bv
        have aD := Ow.mono (RSl.mono (RI.mono _)) cA aD
        obtain ⟨cC, cD, m, cE⟩ := Ow.stamp (RI.mono _) ct m
        have h1 := rd1 cD h1
        have h2 := rd1 cD h2
        have h3 := rd1 cD h3
        have h0_0 := rd2 cD h0_0
        have cy := rd1 cD cy
        have aU := rd1 cD aU
        have aZ := At.mono cD aZ
        have a2 := rd1 cD a2
        have cB := rd1 cD cB
        have a6 := rd1 cD a6
        have bb := At.mono cD bb
        have bc := rd1 cD bc
        have cc := od1 cD cc
        have bv := od1 cD bv
        have aD := Ow.mono (RSl.mono (RI.mono _)) cD aD
        refine l_res f rfl rfl Tryd.call38 (ih m h0_0 cy cB cE cG) fun cH cI cJ w cK m cL a f => ?_
        obtain ⟨cM, cN, rfl, rfl, cO⟩ := cL
        have h1 := rd1 cK h1
        have h2 := rd1 cK h2
        have h3 := rd1 cK h3
        have h0_0 := rd2 cK h0_0
        have cy := rd1 cK cy
        have aU := rd1 cK aU
        have aZ := At.mono cK aZ
        have a2 := rd1 cK a2
        have cB := rd1 cK cB
        have a6 := rd1 cK a6
        have bb := At.mono cK bb
        have bc := rd1 cK bc
        have cE := rd1 cK cE
        have cc := od1 cK cc
        have bv := od1 cK bv
        have aD := Ow.mono (RSl.mono (RI.mono _)) cK aD
        refine l_as f rfl rfl fun a f => l_nil ?_
        have m := m.front 4 rfl
        have m := m.front 4 rfl
        have m : Mem W cI w (Itm.box aa 32 [v0_0] :: ay :: cN :: ca :: H) := m.eraseAt 4
        have m := m.eraseAt 3
        obtain rfl := sj aM
        exact ⟨_, rfl, _, cM, cN, (GLe.trans br (GLe.trans be (GLe.trans bl (GLe.trans bx (GLe.trans bG (GLe.trans bN (GLe.trans bT (GLe.trans b0 (GLe.trans b6 (GLe.trans ce (GLe.trans co (GLe.trans cv (GLe.trans cx (GLe.trans cA (GLe.trans cD cK))))))))))))))), f.weak ⟨rfl, rfl, rfl, rfl, rfl, rfl, rfl, trivial⟩, m, cO⟩
      ·rintro a w ⟨aN, rfl, aO, aP, aQ, cP, f, m, cQ⟩
       have h1 := rd1 cP h1
       have h2 := rd1 cP h2
       have h3 := rd1 cP h3
       have h0_0 := rd2 cP h0_0
       have aD := Ow.mono (RSl.mono (RI.mono _)) cP aD
       refine k_region ?_
       refine l_mv f rfl rfl fun a f => l_mv f rfl rfl fun a f => ?_
       obtain ⟨cR, cS, aA⟩ := bind_some aA
       refine l_append (RSl.one _) 1 m aD rfl T30 rfl (by decide) f rfl rfl rfl (Ow.src (j := 2) cQ m rfl) cS fun cT cU w a m cV f => l_as f rfl rfl fun a f => l_nil (k_region ?_)
       refine l_mv f rfl rfl fun a f => l_in f rfl rfl rfl b_add fun a f => l_as f rfl rfl fun a f => l_nil ?_
       have m := m.eraseAt 2
       obtain rfl := sj aA
       exact ⟨_, rfl, _, _, rfl, _, cU, cT, (GLe.trans aC cP), f.weak ⟨rfl, rfl, rfl, rfl, rfl, rfl, trivial⟩, m, cV⟩
     ·refine k_false f rfl aE ?_
      refine k_exit rfl ?_
      have m := m.front 1 rfl
      have m := m.eraseAt 1
      obtain rfl := sj aA
      obtain rfl := aB _ rfl
      exact ⟨_, rfl, _, ax, ay, aC, f.weak ⟨rfl, trivial⟩, m, aD⟩
    ·rintro a w ⟨an, rfl, ao, ap, aq, cW, f, m, cX⟩
     refine k_seq (k_region ?_)
     refine l_mv f rfl rfl fun a f => l_as f rfl rfl fun a f => l_nil ?_
     refine k_ret ?_
     obtain rfl := sj hd
     exact ⟨[ap], ⟨f.get _ _ rfl, trivial⟩, f.defers, _, [aq], (GLe.trans ad cW), m, _, _, rfl, rfl, cX⟩

theorem Wk.e {W w : World} {G : GH} {H : List Itm} {v0_0 : Value} {v1 : Value} {v2 : Value} {v3 : Value} {x0_0 : (List (List Int))} {x1 : (List Int)} {x2 : (List Int)} {x3 : (List Int)} (m : Mem W G w (H)) (h0_0 : RSl (RSl (RI .i64)) G v0_0 x0_0) (h1 : RSl (RI .i64) G v1 x1) (h2 : RSl (RI .i64) G v2 x2) (h3 : RSl (RI .i64) G v3 x3) {y : ((List (List Int)))} (hd : D.e x0_0 x1 x2 x3 = some y) :
  Calls Tryd.prog 38 #[(.agg #[v0_0]), v1, v2, v3] w (Res W G H (fun G' Ho v => ∃ r0 : Value, ∃ i0 : Itm, Ho = [i0] ∧ r0 = v ∧ Ow (RSl (RI .i64)) 28 G' i0 r0 y)) := by
 exact Wk.D recFuel m h0_0 h1 h2 h3 hd

theorem Wk.c0 {W w : World} {G : GH} {H : List Itm} {v0_0 : Value} {x0_0 : (List (List Int))} (m : Mem W G w (H)) (h0_0 : RSl (RSl (RI .i64)) G v0_0 x0_0) {y : ((List (List Int)))} (hd : D.c0 x0_0 = some y) :
  Calls Tryd.prog 20 #[(.agg #[v0_0])] w (Res W G H (fun G' Ho v => ∃ r0 : Value, ∃ i0 : Itm, Ho = [i0] ∧ r0 = v ∧ Ow (RSl (RI .i64)) 28 G' i0 r0 y)) := by
 refine calls_b (args := [(.agg #[v0_0])]) (N := 14) [.tmp 2] Tryd.func20 rfl rfl (Nat.le_of_ble_eq_true rfl) rfl fun a f => ?_
 unfold D.c0 at hd
 refine k_seq (k_region ?_)
 refine l_box (cs := [v0_0]) m f rfl rfl rfl fun aa w a m f => l_as f rfl rfl fun a f => l_nil (k_seq (k_seq (k_region ?_)))
 refine l_boxAgg 0 0 (ds := [v0_0]) m Ag32 f rfl rfl rfl rfl rfl fun a f => ?_
 obtain ⟨ab, ac, hd⟩ := bind_some hd
 refine l_res f rfl rfl Tryd.call17 (Wk.q m h0_0 ac) fun ad ae af w ag m ah a f => ?_
 obtain ⟨rfl, rfl⟩ := ah
 have h0_0 := rd2 ag h0_0
 refine l_op f rfl rfl rfl (r_not (f.eval rfl)) fun a f => l_nil ?_
 rcases cond_some hd with ⟨ai, hd⟩ | ⟨ai, hd⟩
 ·refine k_true f rfl ai ?_
  refine k_seq (k_region ?_)
  refine l_slit (R := (RSl (RI .i64))) (xs := ([] : List (List Int))) (RSl.one _) m T30 f rfl rfl rfl (by decide) (All2.nil _) fun aj ak w a m al f => l_as f rfl rfl fun a f => l_nil ?_
  refine k_ret ?_
  have m := m.eraseAt 1
  obtain rfl := sj hd
  exact ⟨[ak], ⟨f.get _ _ rfl, trivial⟩, f.defers, _, [aj], ag, m, _, _, rfl, rfl, al⟩
 ·refine k_false f rfl ai ?_
  refine k_skip ?_
  refine k_seq ?_
  obtain ⟨am, an, hd⟩ := bind_some hd
  refine k_cut (fun a w => ∃ ao : List (List Int), ao = am ∧ ∃ (ap : GH) (aq : Value) (ar : Itm), GLe ae ap ∧ Fr a 14 [(2, aq)] ∧ Mem W ap w (ar :: H) ∧ Ow (RSl (RI .i64)) 28 ap ar aq ao) ?_ ?_
  ·refine k_draw 8 Follows (by kernel_rfl) m ?_
   refine q_boxAgg (i := 0) (ds := [v0_0]) 8 0 Ag32 rfl rfl rfl rfl (by kernel_rfl) rfl f rfl rfl rfl fun a f => q_boxAgg (i := 2) (ds := [v0_0]) 8 0 Ag32 rfl rfl rfl rfl (by kernel_rfl) rfl f rfl rfl rfl fun a f => ?_
   obtain ⟨au, av, an⟩ := bind_some an
   refine q_call (i := 3) 8 rfl (by kernel_rfl) rfl f rfl rfl rfl Tryd.call27 (fun _ _ w aw m => Wk.g m (rd2 aw h0_0) av) fun a f => q_three (i := 1) (j := 4) (k := 5) (l1 := #[true, true, true, true, false, false, false, false]) (l2 := #[true, false, true, true, true, false, false, false]) (l3 := #[true, false, true, true, false, true, false, false]) rfl rfl rfl (by kernel_rfl) rfl rfl rfl ?_ ?_ ?_
   ·intro ax w ay m az az
    have h0_0 := rd2 ay h0_0
    refine l_slit (R := (RI .i64)) (xs := ([] : List Int)) (RI.one _) m T28 f rfl rfl rfl (by decide) (All2.nil _) fun aA aB w a m aC f => l_nil ?_
    refine az ax [aA] _ _ (GLe.refl _) m ?_
    refine q_two (i := 4) (j := 5) (l1 := #[true, true, true, true, true, false, false, false]) (l2 := #[true, true, true, true, false, true, false, false]) rfl rfl (by kernel_rfl) rfl rfl ?_ ?_
    ·intro aD w aE m aF aF
     have h0_0 := rd2 aE h0_0
     have aC := od1 aE aC
     obtain ⟨aG, aH, an⟩ := bind_some an
     refine l_res f rfl rfl Tryd.call39 (Wk.t m  aH) fun aI aJ aK w aL m aM a f => ?_
     obtain ⟨aN, aO, rfl, rfl, aP⟩ := aM
     have h0_0 := rd2 aL h0_0
     have aC := od1 aL aC
     refine l_nil ?_
     refine aF aJ [aO, aA] _ _ aL m ?_
     refine q_one (i := 5) rfl (by kernel_rfl) rfl fun aQ w aR m aS aS => ?_
     have h0_0 := rd2 aR h0_0
     have aP := od1 aR aP
     have aC := od1 aR aC
     refine l_slit (R := (RI .i64)) (xs := ([] : List Int)) (RI.one _) m T28 f rfl rfl rfl (by decide) (All2.nil _) fun aT aU w a m aV f => l_nil ?_
     refine aS aQ [aT, aO, aA] _ _ (GLe.refl _) m ?_
     refine q_one (i := 6) rfl (by kernel_rfl) rfl fun aW w aX m aY aY => ?_
     have h0_0 := rd2 aX h0_0
     have aV := od1 aX aV
     have aP := od1 aX aP
     have aC := od1 aX aC
     have m := m.front 2 rfl
     obtain ⟨aZ, a0, m, a1⟩ := Ow.stamp (RI.mono _) aC m
     have h0_0 := rd2 a0 h0_0
     have aV := od1 a0 aV
     have aP := od1 a0 aP
     have m := m.front 1 rfl
     obtain ⟨a2, a3, m, a4⟩ := Ow.stamp (RI.mono _) aP m
     have h0_0 := rd2 a3 h0_0
     have a1 := rd1 a3 a1
     have aV := od1 a3 aV
     obtain ⟨a5, a6, m, a7⟩ := Ow.stamp (RI.mono _) aV m
     have h0_0 := rd2 a6 h0_0
     have a1 := rd1 a6 a1
     have a4 := rd1 a6 a4
     obtain ⟨a8, a9, an⟩ := bind_some an
     refine l_res f rfl rfl Tryd.call38 (Wk.e m h0_0 a1 a4 a7 a9) fun ba bb bc w bd m be a f => ?_
     obtain ⟨bf, bg, rfl, rfl, bh⟩ := be
     have h0_0 := rd2 bd h0_0
     have a1 := rd1 bd a1
     have a4 := rd1 bd a4
     have a7 := rd1 bd a7
     refine l_nil ?_
     refine aY bb [bg] _ _ (GLe.trans a0 (GLe.trans a3 (GLe.trans a6 bd))) m ?_
     refine q_p 7 8 rfl (by kernel_rfl) f rfl rfl rfl (fun _ => r_assign (f.eval rfl)) fun a f => q_end fun bi w bj m => ?_
     have h0_0 := rd2 bj h0_0
     have a1 := rd1 bj a1
     have a4 := rd1 bj a4
     have a7 := rd1 bj a7
     have bh := Ow.mono (RSl.mono (RI.mono _)) bj bh
     refine l_nil ?_
     have m := m.eraseAt 1
     obtain rfl := sj an
     exact ⟨_, rfl, _, bf, bg, (GLe.trans ay (GLe.trans aE (GLe.trans aL (GLe.trans aR (GLe.trans aX (GLe.trans a0 (GLe.trans a3 (GLe.trans a6 (GLe.trans bd bj))))))))), f.weak ⟨rfl, trivial⟩, m, bh⟩
    ·intro aQ w aR m aS aS
     obtain ⟨aG, aH, an⟩ := bind_some an
     obtain ⟨a8, a9, an⟩ := bind_some an
     have h0_0 := rd2 aR h0_0
     have aC := od1 aR aC
     refine l_slit (R := (RI .i64)) (xs := ([] : List Int)) (RI.one _) m T28 f rfl rfl rfl (by decide) (All2.nil _) fun aT aU w a m aV f => l_nil ?_
     refine aS aQ [aT, aA] _ _ (GLe.refl _) m ?_
     refine q_one (i := 4) rfl (by kernel_rfl) rfl fun aD w aE m aF aF => ?_
     have h0_0 := rd2 aE h0_0
     have aV := od1 aE aV
     have aC := od1 aE aC
     refine l_res f rfl rfl Tryd.call39 (Wk.t m  aH) fun aI aJ aK w aL m aM a f => ?_
     obtain ⟨aN, aO, rfl, rfl, aP⟩ := aM
     have h0_0 := rd2 aL h0_0
     have aV := od1 aL aV
     have aC := od1 aL aC
     refine l_nil ?_
     refine aF aJ [aO, aT, aA] _ _ aL m ?_
     refine q_one (i := 6) rfl (by kernel_rfl) rfl fun aW w aX m aY aY => ?_
     have h0_0 := rd2 aX h0_0
     have aP := od1 aX aP
     have aV := od1 aX aV
     have aC := od1 aX aC
     have m := m.front 2 rfl
     obtain ⟨aZ, a0, m, a1⟩ := Ow.stamp (RI.mono _) aC m
     have h0_0 := rd2 a0 h0_0
     have aP := od1 a0 aP
     have aV := od1 a0 aV
     obtain ⟨a2, a3, m, a4⟩ := Ow.stamp (RI.mono _) aP m
     have h0_0 := rd2 a3 h0_0
     have a1 := rd1 a3 a1
     have aV := od1 a3 aV
     obtain ⟨a5, a6, m, a7⟩ := Ow.stamp (RI.mono _) aV m
     have h0_0 := rd2 a6 h0_0
     have a1 := rd1 a6 a1
     have a4 := rd1 a6 a4
     refine l_res f rfl rfl Tryd.call38 (Wk.e m h0_0 a1 a4 a7 a9) fun ba bb bc w bd m be a f => ?_
     obtain ⟨bf, bg, rfl, rfl, bh⟩ := be
     have h0_0 := rd2 bd h0_0
     have a1 := rd1 bd a1
     have a4 := rd1 bd a4
     have a7 := rd1 bd a7
     refine l_nil ?_
     refine aY bb [bg] _ _ (GLe.trans a0 (GLe.trans a3 (GLe.trans a6 bd))) m ?_
     refine q_p 7 8 rfl (by kernel_rfl) f rfl rfl rfl (fun _ => r_assign (f.eval rfl)) fun a f => q_end fun bi w bj m => ?_
     have h0_0 := rd2 bj h0_0
     have a1 := rd1 bj a1
     have a4 := rd1 bj a4
     have a7 := rd1 bj a7
     have bh := Ow.mono (RSl.mono (RI.mono _)) bj bh
     refine l_nil ?_
     have m := m.eraseAt 1
     obtain rfl := sj an
     exact ⟨_, rfl, _, bf, bg, (GLe.trans ay (GLe.trans aR (GLe.trans aE (GLe.trans aL (GLe.trans aX (GLe.trans a0 (GLe.trans a3 (GLe.trans a6 (GLe.trans bd bj))))))))), f.weak ⟨rfl, trivial⟩, m, bh⟩
   ·intro aD w aE m aF aF
    obtain ⟨aG, aH, an⟩ := bind_some an
    obtain ⟨a8, a9, an⟩ := bind_some an
    have h0_0 := rd2 aE h0_0
    refine l_res f rfl rfl Tryd.call39 (Wk.t m  aH) fun aI aJ aK w aL m aM a f => ?_
    obtain ⟨aN, aO, rfl, rfl, aP⟩ := aM
    have h0_0 := rd2 aL h0_0
    refine l_nil ?_
    refine aF aJ [aO] _ _ aL m ?_
    refine q_two (i := 1) (j := 5) (l1 := #[true, true, true, true, true, false, false, false]) (l2 := #[true, false, true, true, true, true, false, false]) rfl rfl (by kernel_rfl) rfl rfl ?_ ?_
    ·intro ax w ay m az az
     have h0_0 := rd2 ay h0_0
     have aP := od1 ay aP
     refine l_slit (R := (RI .i64)) (xs := ([] : List Int)) (RI.one _) m T28 f rfl rfl rfl (by decide) (All2.nil _) fun aA aB w a m aC f => l_nil ?_
     refine az ax [aA, aO] _ _ (GLe.refl _) m ?_
     refine q_one (i := 5) rfl (by kernel_rfl) rfl fun aQ w aR m aS aS => ?_
     have h0_0 := rd2 aR h0_0
     have aC := od1 aR aC
     have aP := od1 aR aP
     refine l_slit (R := (RI .i64)) (xs := ([] : List Int)) (RI.one _) m T28 f rfl rfl rfl (by decide) (All2.nil _) fun aT aU w a m aV f => l_nil ?_
     refine aS aQ [aT, aA, aO] _ _ (GLe.refl _) m ?_
     refine q_one (i := 6) rfl (by kernel_rfl) rfl fun aW w aX m aY aY => ?_
     have h0_0 := rd2 aX h0_0
     have aV := od1 aX aV
     have aC := od1 aX aC
     have aP := od1 aX aP
     have m := m.front 1 rfl
     obtain ⟨aZ, a0, m, a1⟩ := Ow.stamp (RI.mono _) aC m
     have h0_0 := rd2 a0 h0_0
     have aV := od1 a0 aV
     have aP := od1 a0 aP
     have m := m.front 1 rfl
     obtain ⟨a2, a3, m, a4⟩ := Ow.stamp (RI.mono _) aP m
     have h0_0 := rd2 a3 h0_0
     have a1 := rd1 a3 a1
     have aV := od1 a3 aV
     obtain ⟨a5, a6, m, a7⟩ := Ow.stamp (RI.mono _) aV m
     have h0_0 := rd2 a6 h0_0
     have a1 := rd1 a6 a1
     have a4 := rd1 a6 a4
     refine l_res f rfl rfl Tryd.call38 (Wk.e m h0_0 a1 a4 a7 a9) fun ba bb bc w bd m be a f => ?_
     obtain ⟨bf, bg, rfl, rfl, bh⟩ := be
     have h0_0 := rd2 bd h0_0
     have a1 := rd1 bd a1
     have a4 := rd1 bd a4
     have a7 := rd1 bd a7
     refine l_nil ?_
     refine aY bb [bg] _ _ (GLe.trans a0 (GLe.trans a3 (GLe.trans a6 bd))) m ?_
     refine q_p 7 8 rfl (by kernel_rfl) f rfl rfl rfl (fun _ => r_assign (f.eval rfl)) fun a f => q_end fun bi w bj m => ?_
     have h0_0 := rd2 bj h0_0
     have a1 := rd1 bj a1
     have a4 := rd1 bj a4
     have a7 := rd1 bj a7
     have bh := Ow.mono (RSl.mono (RI.mono _)) bj bh
     refine l_nil ?_
     have m := m.eraseAt 1
     obtain rfl := sj an
     exact ⟨_, rfl, _, bf, bg, (GLe.trans aE (GLe.trans aL (GLe.trans ay (GLe.trans aR (GLe.trans aX (GLe.trans a0 (GLe.trans a3 (GLe.trans a6 (GLe.trans bd bj))))))))), f.weak ⟨rfl, trivial⟩, m, bh⟩
    ·intro aQ w aR m aS aS
     have h0_0 := rd2 aR h0_0
     have aP := od1 aR aP
     refine l_slit (R := (RI .i64)) (xs := ([] : List Int)) (RI.one _) m T28 f rfl rfl rfl (by decide) (All2.nil _) fun aT aU w a m aV f => l_nil ?_
     refine aS aQ [aT, aO] _ _ (GLe.refl _) m ?_
     refine q_one (i := 1) rfl (by kernel_rfl) rfl fun ax w ay m az az => ?_
     have h0_0 := rd2 ay h0_0
     have aV := od1 ay aV
     have aP := od1 ay aP
     refine l_slit (R := (RI .i64)) (xs := ([] : List Int)) (RI.one _) m T28 f rfl rfl rfl (by decide) (All2.nil _) fun aA aB w a m aC f => l_nil ?_
     refine az ax [aA, aT, aO] _ _ (GLe.refl _) m ?_
     refine q_one (i := 6) rfl (by kernel_rfl) rfl fun aW w aX m aY aY => ?_
     have h0_0 := rd2 aX h0_0
     have aC := od1 aX aC
     have aV := od1 aX aV
     have aP := od1 aX aP
     obtain ⟨aZ, a0, m, a1⟩ := Ow.stamp (RI.mono _) aC m
     have h0_0 := rd2 a0 h0_0
     have aV := od1 a0 aV
     have aP := od1 a0 aP
     have m := m.front 1 rfl
     obtain ⟨a2, a3, m, a4⟩ := Ow.stamp (RI.mono _) aP m
     have h0_0 := rd2 a3 h0_0
     have a1 := rd1 a3 a1
     have aV := od1 a3 aV
     obtain ⟨a5, a6, m, a7⟩ := Ow.stamp (RI.mono _) aV m
     have h0_0 := rd2 a6 h0_0
     have a1 := rd1 a6 a1
     have a4 := rd1 a6 a4
     refine l_res f rfl rfl Tryd.call38 (Wk.e m h0_0 a1 a4 a7 a9) fun ba bb bc w bd m be a f => ?_
     obtain ⟨bf, bg, rfl, rfl, bh⟩ := be
     have h0_0 := rd2 bd h0_0
     have a1 := rd1 bd a1
     have a4 := rd1 bd a4
     have a7 := rd1 bd a7
     refine l_nil ?_
     refine aY bb [bg] _ _ (GLe.trans a0 (GLe.trans a3 (GLe.trans a6 bd))) m ?_
     refine q_p 7 8 rfl (by kernel_rfl) f rfl rfl rfl (fun _ => r_assign (f.eval rfl)) fun a f => q_end fun bi w bj m => ?_
     have h0_0 := rd2 bj h0_0
     have a1 := rd1 bj a1
     have a4 := rd1 bj a4
     have a7 := rd1 bj a7
     have bh := Ow.mono (RSl.mono (RI.mono _)) bj bh
     refine l_nil ?_
     have m := m.eraseAt 1
     obtain rfl := sj an
     exact ⟨_, rfl, _, bf, bg, (GLe.trans aE (GLe.trans aL (GLe.trans aR (GLe.trans ay (GLe.trans aX (GLe.trans a0 (GLe.trans a3 (GLe.trans a6 (GLe.trans bd bj))))))))), f.weak ⟨rfl, trivial⟩, m, bh⟩
   ·intro aQ w aR m aS aS
    obtain ⟨aG, aH, an⟩ := bind_some an
    obtain ⟨a8, a9, an⟩ := bind_some an
    have h0_0 := rd2 aR h0_0
    refine l_slit (R := (RI .i64)) (xs := ([] : List Int)) (RI.one _) m T28 f rfl rfl rfl (by decide) (All2.nil _) fun aT aU w a m aV f => l_nil ?_
    refine aS aQ [aT] _ _ (GLe.refl _) m ?_
    refine q_two (i := 1) (j := 4) (l1 := #[true, true, true, true, false, true, false, false]) (l2 := #[true, false, true, true, true, true, false, false]) rfl rfl (by kernel_rfl) rfl rfl ?_ ?_
    ·intro ax w ay m az az
     have h0_0 := rd2 ay h0_0
     have aV := od1 ay aV
     refine l_slit (R := (RI .i64)) (xs := ([] : List Int)) (RI.one _) m T28 f rfl rfl rfl (by decide) (All2.nil _) fun aA aB w a m aC f => l_nil ?_
     refine az ax [aA, aT] _ _ (GLe.refl _) m ?_
     refine q_one (i := 4) rfl (by kernel_rfl) rfl fun aD w aE m aF aF => ?_
     have h0_0 := rd2 aE h0_0
     have aC := od1 aE aC
     have aV := od1 aE aV
     refine l_res f rfl rfl Tryd.call39 (Wk.t m  aH) fun aI aJ aK w aL m aM a f => ?_
     obtain ⟨aN, aO, rfl, rfl, aP⟩ := aM
     have h0_0 := rd2 aL h0_0
     have aC := od1 aL aC
     have aV := od1 aL aV
     refine l_nil ?_
     refine aF aJ [aO, aA, aT] _ _ aL m ?_
     refine q_one (i := 6) rfl (by kernel_rfl) rfl fun aW w aX m aY aY => ?_
     have h0_0 := rd2 aX h0_0
     have aP := od1 aX aP
     have aC := od1 aX aC
     have aV := od1 aX aV
     have m := m.front 1 rfl
     obtain ⟨aZ, a0, m, a1⟩ := Ow.stamp (RI.mono _) aC m
     have h0_0 := rd2 a0 h0_0
     have aP := od1 a0 aP
     have aV := od1 a0 aV
     obtain ⟨a2, a3, m, a4⟩ := Ow.stamp (RI.mono _) aP m
     have h0_0 := rd2 a3 h0_0
     have a1 := rd1 a3 a1
     have aV := od1 a3 aV
     obtain ⟨a5, a6, m, a7⟩ := Ow.stamp (RI.mono _) aV m
     have h0_0 := rd2 a6 h0_0
     have a1 := rd1 a6 a1
     have a4 := rd1 a6 a4
     refine l_res f rfl rfl Tryd.call38 (Wk.e m h0_0 a1 a4 a7 a9) fun ba bb bc w bd m be a f => ?_
     obtain ⟨bf, bg, rfl, rfl, bh⟩ := be
     have h0_0 := rd2 bd h0_0
     have a1 := rd1 bd a1
     have a4 := rd1 bd a4
     have a7 := rd1 bd a7
     refine l_nil ?_
     refine aY bb [bg] _ _ (GLe.trans a0 (GLe.trans a3 (GLe.trans a6 bd))) m ?_
     refine q_p 7 8 rfl (by kernel_rfl) f rfl rfl rfl (fun _ => r_assign (f.eval rfl)) fun a f => q_end fun bi w bj m => ?_
     have h0_0 := rd2 bj h0_0
     have a1 := rd1 bj a1
     have a4 := rd1 bj a4
     have a7 := rd1 bj a7
     have bh := Ow.mono (RSl.mono (RI.mono _)) bj bh
     refine l_nil ?_
     have m := m.eraseAt 1
     obtain rfl := sj an
     exact ⟨_, rfl, _, bf, bg, (GLe.trans aR (GLe.trans ay (GLe.trans aE (GLe.trans aL (GLe.trans aX (GLe.trans a0 (GLe.trans a3 (GLe.trans a6 (GLe.trans bd bj))))))))), f.weak ⟨rfl, trivial⟩, m, bh⟩
    ·intro aD w aE m aF aF
     have h0_0 := rd2 aE h0_0
     have aV := od1 aE aV
     refine l_res f rfl rfl Tryd.call39 (Wk.t m  aH) fun aI aJ aK w aL m aM a f => ?_
     obtain ⟨aN, aO, rfl, rfl, aP⟩ := aM
     have h0_0 := rd2 aL h0_0
     have aV := od1 aL aV
     refine l_nil ?_
     refine aF aJ [aO, aT] _ _ aL m ?_
     refine q_one (i := 1) rfl (by kernel_rfl) rfl fun ax w ay m az az => ?_
     have h0_0 := rd2 ay h0_0
     have aP := od1 ay aP
     have aV := od1 ay aV
     refine l_slit (R := (RI .i64)) (xs := ([] : List Int)) (RI.one _) m T28 f rfl rfl rfl (by decide) (All2.nil _) fun aA aB w a m aC f => l_nil ?_
     refine az ax [aA, aO, aT] _ _ (GLe.refl _) m ?_
     refine q_one (i := 6) rfl (by kernel_rfl) rfl fun aW w aX m aY aY => ?_
     have h0_0 := rd2 aX h0_0
     have aC := od1 aX aC
     have aP := od1 aX aP
     have aV := od1 aX aV
     obtain ⟨aZ, a0, m, a1⟩ := Ow.stamp (RI.mono _) aC m
     have h0_0 := rd2 a0 h0_0
     have aP := od1 a0 aP
     have aV := od1 a0 aV
     obtain ⟨a2, a3, m, a4⟩ := Ow.stamp (RI.mono _) aP m
     have h0_0 := rd2 a3 h0_0
     have a1 := rd1 a3 a1
     have aV := od1 a3 aV
     obtain ⟨a5, a6, m, a7⟩ := Ow.stamp (RI.mono _) aV m
     have h0_0 := rd2 a6 h0_0
     have a1 := rd1 a6 a1
     have a4 := rd1 a6 a4
     refine l_res f rfl rfl Tryd.call38 (Wk.e m h0_0 a1 a4 a7 a9) fun ba bb bc w bd m be a f => ?_
     obtain ⟨bf, bg, rfl, rfl, bh⟩ := be
     have h0_0 := rd2 bd h0_0
     have a1 := rd1 bd a1
     have a4 := rd1 bd a4
     have a7 := rd1 bd a7
     refine l_nil ?_
     refine aY bb [bg] _ _ (GLe.trans a0 (GLe.trans a3 (GLe.trans a6 bd))) m ?_
     refine q_p 7 8 rfl (by kernel_rfl) f rfl rfl rfl (fun _ => r_assign (f.eval rfl)) fun a f => q_end fun bi w bj m => ?_
     have h0_0 := rd2 bj h0_0
     have a1 := rd1 bj a1
     have a4 := rd1 bj a4
     have a7 := rd1 bj a7
     have bh := Ow.mono (RSl.mono (RI.mono _)) bj bh
     refine l_nil ?_
     have m := m.eraseAt 1
     obtain rfl := sj an
     exact ⟨_, rfl, _, bf, bg, (GLe.trans aR (GLe.trans aE (GLe.trans aL (GLe.trans ay (GLe.trans aX (GLe.trans a0 (GLe.trans a3 (GLe.trans a6 (GLe.trans bd bj))))))))), f.weak ⟨rfl, trivial⟩, m, bh⟩
  ·rintro a w ⟨ao, rfl, ap, aq, ar, bk, f, m, bl⟩
   refine k_ret ?_
   obtain rfl := sj hd
   exact ⟨[aq], ⟨f.get _ _ rfl, trivial⟩, f.defers, _, [ar], (GLe.trans ag bk), m, _, _, rfl, rfl, bl⟩

theorem Wk.s {W w : World} {G : GH} {H : List Itm} {v0_0 : Value} {x0_0 : (List (List Int))} (m : Mem W G w (H)) (h0_0 : RSl (RSl (RI .i64)) G v0_0 x0_0) {y : Int} (hd : D.s x0_0 = some y) :
  Calls Tryd.prog 12 #[(.agg #[v0_0])] w (Res W G H (fun _ Ho v => Ho = [] ∧ v = (.int .i64 y))) := by
 refine calls_b (args := [(.agg #[v0_0])]) (N := 27) [.tmp 2] Tryd.func12 rfl rfl (Nat.le_of_ble_eq_true rfl) rfl fun a f => ?_
 unfold D.s at hd
 refine k_seq (k_region ?_)
 refine l_box (cs := [v0_0]) m f rfl rfl rfl fun aa w a m f => l_as f rfl rfl fun a f => l_nil (k_seq (k_region ?_))
 refine l_as f rfl rfl fun a f => l_nil (k_seq (k_region ?_))
 refine l_boxAgg 0 0 (ds := [v0_0]) m Ag32 f rfl rfl rfl rfl rfl fun a f => ?_
 obtain ⟨ab, ac, hd⟩ := bind_some hd
 refine l_res f rfl rfl Tryd.call20 (Wk.c0 m h0_0 ac) fun ad ae af w ag m ah a f => ?_
 obtain ⟨ai, aj, rfl, rfl, ak⟩ := ah
 have h0_0 := rd2 ag h0_0
 refine l_as f rfl rfl fun a f => l_nil (k_seq (k_seq (k_region ?_)))
 refine l_as f rfl rfl fun a f => l_nil ?_
 obtain ⟨al, am, hd⟩ := bind_some hd
 refine k_cut (fun a w => ∃ an : Int, an = al ∧ ∃ (ao : GH), GLe ae ao ∧ Fr a 27 [(3, (.int .i64 an))] ∧ Mem W ao w (H)) ?_ ?_
 ·refine k_block ?_
  have m := m.eraseAt 1
  refine k_loop (fun ap a w => ∃ aq : Int, ∃ ar : Int, (aq, ar) = ap ∧ ∃ (au : GH), GLe ae au ∧ Fr a 27 [(3, (.int .i64 aq)), (4, ai), (5, (.int .i64 ar))] ∧ Mem W au w (aj :: H)) am ⟨_, _, rfl, _, (GLe.refl _), f.weak ⟨rfl, rfl, rfl, trivial⟩, m⟩ ?_
  clear am f m
  rintro ap av aw ax a w ⟨aq, ar, rfl, au, ay, f, m⟩
  have ak := Ow.mono (RSl.mono (RI.mono _)) ay ak
  refine k_seq (k_seq (k_region ?_))
  refine l_mv f rfl rfl fun a f => l_mv f rfl rfl fun a f => l_own_len 0 m ak rfl Tryd.underlying30 f rfl rfl fun a f => l_in f rfl rfl rfl b_lss fun a f => l_nil ?_
  rcases cond_some aw with ⟨az, aw⟩ | ⟨az, aw⟩
  ·refine k_true f rfl az ?_
   refine k_skip ?_
   refine k_seq (k_block (k_seq (k_region ?_)))
   refine l_mv f rfl rfl fun a f => l_mv f rfl rfl fun a f => ?_
   obtain ⟨aA, aB, aw⟩ := bind_some aw
   refine l_own_at 0 m ak rfl T30 f rfl rfl rfl aB fun aC a aD f => l_own_load 0 m ak rfl Pl28 f rfl rfl aD aB fun aE a aF f => l_len Tryd.underlying28 f rfl rfl aF fun a f => l_mv f rfl rfl fun a f => l_in f rfl rfl rfl b_gtr fun a f => l_nil ?_
   rcases cond_some aw with ⟨aG, aw⟩ | ⟨aG, aw⟩
   ·refine k_true f rfl aG ?_
    refine k_region ?_
    refine l_mv f rfl rfl fun a f => l_mv f rfl rfl fun a f => ?_
    obtain ⟨aH, aI, aw⟩ := bind_some aw
    refine l_own_at 0 m ak rfl T30 f rfl rfl rfl aI fun aJ a aK f => l_own_load 0 m ak rfl Pl28 f rfl rfl aK aI fun aL a aM f => l_len Tryd.underlying28 f rfl rfl aM fun a f => l_as f rfl rfl fun a f => l_nil (k_region ?_)
    refine l_mv f rfl rfl fun a f => l_in f rfl rfl rfl b_add fun a f => l_as f rfl rfl fun a f => l_nil ?_
    obtain rfl := sj aw
    exact ⟨_, rfl, _, _, rfl, _, ay, f.weak ⟨rfl, rfl, rfl, trivial⟩, m⟩
   ·refine k_false f rfl aG ?_
    refine k_skip ?_
    refine k_region ?_
    refine l_mv f rfl rfl fun a f => l_in f rfl rfl rfl b_add fun a f => l_as f rfl rfl fun a f => l_nil ?_
    obtain rfl := sj aw
    exact ⟨_, rfl, _, _, rfl, _, ay, f.weak ⟨rfl, rfl, rfl, trivial⟩, m⟩
  ·refine k_false f rfl az ?_
   refine k_exit rfl ?_
   have m : Mem W au w H := Mem.drop (H' := [aj]) m
   obtain rfl := sj aw
   obtain rfl := ax _ rfl
   exact ⟨_, rfl, _, ay, f.weak ⟨rfl, trivial⟩, m⟩
 ·rintro a w ⟨an, rfl, ao, aN, f, m⟩
  refine k_seq (k_region ?_)
  refine l_mv f rfl rfl fun a f => l_as f rfl rfl fun a f => l_nil ?_
  refine k_ret ?_
  obtain rfl := sj hd
  exact ⟨[(.int .i64 an)], ⟨f.get _ _ rfl, trivial⟩, f.defers, _, [], (GLe.trans ag aN), m, rfl, rfl⟩

theorem Wk.Q {W w : World} {G : GH} {H : List Itm} {x0 : Int} (hW : TabW W) (m : Mem W G w (H))  {y : ((List Int))} (hd : D.Q x0 = some y) :
  Calls Tryd.prog 52 #[(.int .u32 x0)] w (Res W G H (fun G' Ho v => ∃ r0 : Value, ∃ i0 : Itm, Ho = [i0] ∧ r0 = v ∧ Ow (RI .i64) 2 G' i0 r0 y)) := by
 refine calls_b (args := [(.int .u32 x0)]) (N := 6) [.tmp 2] Tryd.func52 rfl rfl (Nat.le_of_ble_eq_true rfl) rfl fun a f => ?_
 unfold D.Q at hd
 refine k_seq (k_region ?_)
 refine l_as f rfl rfl fun a f => l_nil (k_seq (k_region ?_))
 refine l_mv f rfl rfl fun a f => ?_
 obtain ⟨aa, ab, hd⟩ := bind_some hd
 refine l_res f rfl rfl Tryd.call49 (Wk.l hW m  ab) fun ac ad ae w af m ag a f => ?_
 obtain ⟨ah, ai, rfl, rfl, aj⟩ := ag
 obtain ⟨ak, al, hd⟩ := bind_some hd
 refine l_res f rfl rfl Tryd.call35 (Ow.lendCall (RI.mono _) 0 aj m rfl (fun am an m ao => Wk.L m ao al) (fun _ G' _ _ ⟨a0, a1, e1, e2, o0⟩ => ⟨a0, a1, e1, e2, Ow.free (RI.free _) G' o0⟩)) fun ap aq ar w au m av a f => ?_
 obtain ⟨aw, ax, rfl, rfl, ay⟩ := av
 have aj := od1 au aj
 refine l_as f rfl rfl fun a f => l_nil ?_
 refine k_ret ?_
 have m := m.eraseAt 1
 obtain rfl := sj hd
 exact ⟨[aw], ⟨f.get _ _ rfl, trivial⟩, f.defers, _, [ax], (GLe.trans af au), m, _, _, rfl, rfl, ay⟩

theorem Wk.m0 {W w : World} {G : GH} {H : List Itm} {v0 : Value} {x0 : (List Int)} (hW : TabW W) (m : Mem W G w (H)) (h0 : RSl (RI .u32) G v0 x0) {y : ((List (List Int)))} (hd : D.m0 x0 = some y) :
  Calls Tryd.prog 40 #[v0] w (Res W G H (fun G' Ho v => ∃ r0 : Value, ∃ i0 : Itm, Ho = [i0] ∧ v = (.agg #[r0]) ∧ Ow (RSl (RI .i64)) 28 G' i0 r0 y)) := by
 refine calls_b (args := [v0]) (N := 22) [.cell 2 32] Tryd.func40 rfl rfl (Nat.le_of_ble_eq_true rfl) rfl fun a f => ?_
 unfold D.m0 at hd
 refine k_seq (k_region ?_)
 refine l_alloc (cs := [(.slice none 0 0)]) Tryd.zeroValue32 m f rfl rfl fun aa w a m f => l_nil (k_seq (k_region ?_))
 have ab : ∀ w, (Instr.build 32 #[]).run Tryd.prog w = .ok (.agg #[(.slice none 0 0)]) w := by intro w; simp [Instr.build, Instr.fill, cells_int, cells_bool, cells_string, cells_slice, cells_pointer, cells_agg]
 refine l_build f rfl rfl ab fun a f => l_alloc (cs := [(.slice none 0 0)]) Tryd.zeroValue32 m f rfl rfl fun ac w a m f => l_boxStore 0 0 (ds := [(.slice none 0 0)]) m Tryd.sizeOf32 f rfl rfl rfl (ones_cons rfl ones_nil) rfl (Nat.le_of_ble_eq_true rfl) rfl fun w m => l_nil (k_seq (k_seq (k_region ?_)))
 refine l_mv f rfl rfl fun a f => l_len Tryd.underlying56 f rfl rfl h0 fun a f => l_mv f rfl rfl fun a f => l_nil ?_
 obtain ⟨ad, m, ae⟩ := Ow.nil (RSl (RI .i64)) 28 m
 obtain ⟨af, ag, hd⟩ := bind_some hd
 refine k_cut (fun a w => ∃ ah : List (List Int), ah = af ∧ ∃ (ai : GH) (aj : Value) (ak : Itm), GLe G ai ∧ Fr a 22 [(2, (.pointer (some ⟨aa, 0, none⟩))), (3, (.pointer (some ⟨ac, 0, none⟩)))] ∧ Mem W ai w (Itm.box aa 32 [(.slice none 0 0)] :: Itm.box ac 32 [aj] :: ak :: H) ∧ Ow (RSl (RI .i64)) 28 ai ak aj ah) ?_ ?_
 ·refine k_block ?_
  have m := m.front 1 rfl
  have m := m.front 2 rfl
  refine k_loop (fun al a w => ∃ am : Int, ∃ an : List (List Int), (am, an) = al ∧ ∃ (ao : GH) (ap : Value) (aq : Itm), GLe G ao ∧ Fr a 22 [(2, (.pointer (some ⟨aa, 0, none⟩))), (3, (.pointer (some ⟨ac, 0, none⟩))), (7, v0), (8, (.int .i64 (x0.length : Int))), (9, (.int .i64 am))] ∧ Mem W ao w (Itm.box aa 32 [(.slice none 0 0)] :: Itm.box ac 32 [ap] :: aq :: H) ∧ Ow (RSl (RI .i64)) 28 ao aq ap an) ag ⟨_, _, rfl, _, (.slice none 0 0), ad, (GLe.refl _), f.weak ⟨rfl, rfl, rfl, rfl, rfl, trivial⟩, m, ae⟩ ?_
  clear ag f m
  rintro al ar au av a w ⟨am, an, rfl, ao, ap, aq, aw, f, m, ax⟩
  have h0 := rd1 aw h0
  refine k_seq (k_region ?_)
  refine l_in f rfl rfl rfl b_lss fun a f => l_nil (k_seq ?_)
  rcases cond_some au with ⟨ay, au⟩ | ⟨ay, au⟩
  ·refine k_true f rfl ay ?_
   refine k_skip ?_
   refine k_seq (k_block (k_seq (k_region ?_)))
   obtain ⟨az, aA, au⟩ := bind_some au
   refine l_at T56 f rfl rfl rfl h0 aA fun aB aC a aD aE f => ?_
   subst aE
   refine l_loadAt m Pl60 f rfl rfl aD fun a f => l_as f rfl rfl fun a f => l_nil ?_
   refine k_draw 5 Follows (by kernel_rfl) m ?_
   refine q_fieldAddr (i := 0) 5 Tryd.underlying32 rfl Tryd.sizeOf30 (by decide) rfl (by kernel_rfl) rfl f rfl rfl rfl fun a f => q_boxCell (i := 1) 5 1 Pl30 rfl rfl rfl (by kernel_rfl) rfl f rfl rfl rfl fun a f => q_mv 2 5 rfl (by kernel_rfl) f rfl rfl rfl fun a f => q_one (i := 3) rfl (by kernel_rfl) rfl fun aF w aG m aH aH => ?_
   have h0 := rd1 aG h0
   have ax := Ow.mono (RSl.mono (RI.mono _)) aG ax
   obtain ⟨aI, aJ, au⟩ := bind_some au
   refine l_res f rfl rfl Tryd.call52 (Wk.Q hW m  aJ) fun aK aL aM w aN m aO a f => ?_
   obtain ⟨aP, aQ, rfl, rfl, aR⟩ := aO
   have h0 := rd1 aN h0
   have ax := Ow.mono (RSl.mono (RI.mono _)) aN ax
   refine l_nil ?_
   refine aH aL [aQ] _ _ aN m ?_
   refine q_one (i := 4) rfl (by kernel_rfl) rfl fun aS w aT m aU aU => ?_
   have h0 := rd1 aT h0
   have aR := od1 aT aR
   have ax := Ow.mono (RSl.mono (RI.mono _)) aT ax
   obtain ⟨aV, aW, m, aX⟩ := Ow.stamp (RI.mono _) aR m
   have h0 := rd1 aW h0
   have ax := Ow.mono (RSl.mono (RI.mono _)) aW ax
   refine l_slit (R := (RSl (RI .i64))) (xs := ([aI] : List (List Int))) (RSl.one _) m T30 f rfl rfl rfl (by decide) (All2.cons aX (All2.nil _)) fun aY aZ w a m a0 f => l_nil ?_
   refine aU aV [aY] _ _ aW m ?_
   refine q_end fun a1 w a2 m => ?_
   have h0 := rd1 a2 h0
   have aX := rd1 a2 aX
   have a0 := Ow.mono (RSl.mono (RI.mono _)) a2 a0
   have ax := Ow.mono (RSl.mono (RI.mono _)) a2 ax
   obtain ⟨a3, a4, au⟩ := bind_some au
   refine l_append (RSl.one _) 3 m ax rfl T30 rfl (by decide) f rfl rfl rfl (Ow.src (j := 0) a0 m rfl) a4 fun a5 a6 w a m a7 f => l_fieldAddr Tryd.underlying32 rfl Tryd.sizeOf30 (by decide) f rfl rfl fun a f => l_boxStore 2 0 (ds := [a6]) m Tryd.sizeOf30 f rfl rfl (Ow.cells 3 m a7 rfl) (ones_cons (Ow.one1 3 m a7 rfl) ones_nil) rfl (Nat.le_of_ble_eq_true rfl) rfl fun w m => l_nil (k_region ?_)
   refine l_in f rfl rfl rfl b_add fun a f => l_mv f rfl rfl fun a f => l_nil ?_
   have m := m.front 3 rfl
   have m := m.front 3 rfl
   have m : Mem W a1 w (Itm.box aa 32 [(.slice none 0 0)] :: Itm.box ac 32 [a6] :: a5 :: aY :: H) := m.front 3 rfl
   have m := m.eraseAt 3
   obtain rfl := sj au
   exact ⟨_, rfl, _, _, rfl, _, a6, a5, (GLe.trans aw (GLe.trans aG (GLe.trans aN (GLe.trans aT (GLe.trans aW a2))))), f.weak ⟨rfl, rfl, rfl, rfl, rfl, trivial⟩, m, a7⟩
  ·refine k_false f rfl ay ?_
   refine k_exit rfl ?_
   obtain rfl := sj au
   obtain rfl := av _ rfl
   exact ⟨_, rfl, _, ap, aq, aw, f.weak ⟨rfl, rfl, trivial⟩, m, ax⟩
 ·rintro a w ⟨ah, rfl, ai, aj, ak, a8, f, m, a9⟩
  refine k_seq (k_region ?_)
  refine l_boxAgg 1 0 (ds := [aj]) m Ag32 f rfl rfl rfl rfl rfl fun a f => l_boxStore 0 0 (ds := [aj]) m Tryd.sizeOf32 f rfl rfl rfl (ones_cons (Ow.one1 2 m a9 rfl) ones_nil) rfl (Nat.le_of_ble_eq_true rfl) rfl fun w m => l_nil ?_
  refine k_ret ?_
  have ba := rr_agg (P := Tryd.prog) 0 m Ag32 f (s := 2) rfl rfl rfl
  have m := m.front 2 rfl
  have m := m.eraseAt 2
  have m := m.eraseAt 1
  obtain rfl := sj hd
  exact ⟨[(.agg #[aj])], ⟨ba, trivial⟩, f.defers, _, [ak], a8, m, _, _, rfl, rfl, a9⟩

theorem Wk.V {W w : World} {G : GH} {H : List Itm} {v0 : Value} {v1 : Value} {x0 : (List Int)} {x1 : (List Int)} (hW : TabW W) (m : Mem W G w (H)) (h0 : RSl (RI .i64) G v0 x0) (h1 : RSl (RI .i64) G v1 x1) {y : ((List (List Int))) × Bool} (hd : D.V x0 x1 = some y) :
  Calls Tryd.prog 21 #[v0, v1] w (Res W G H (fun G' Ho v => ∃ r0 : Value, ∃ i0 : Itm, Ho = [i0] ∧ v = .tuple #[(.agg #[r0]), (.bool y.2)] ∧ Ow (RSl (RI .i64)) 28 G' i0 r0 y.1)) := by
 refine calls_b (args := [v0, v1]) (N := 19) [.cell 4 32, .tmp 5] Tryd.func21 rfl rfl (Nat.le_of_ble_eq_true rfl) rfl fun a f => ?_
 unfold D.V at hd
 refine k_seq (k_region ?_)
 refine l_alloc (cs := [(.slice none 0 0)]) Tryd.zeroValue32 m f rfl rfl fun aa w a m f => l_as f rfl rfl fun a f => l_nil (k_seq (k_region ?_))
 refine l_mv f rfl rfl fun a f => l_mv f rfl rfl fun a f => ?_
 obtain ⟨ab, ac, hd⟩ := bind_some hd
 refine l_res f rfl rfl Tryd.call33 (Wk.o m h0 h1 ac) fun ad ae af w ag m ah a f => ?_
 obtain ⟨ai, aj, rfl, rfl, ak⟩ := ah
 have h0 := rd1 ag h0
 have h1 := rd1 ag h1
 refine l_mv f rfl rfl fun a f => l_op f rfl rfl rfl (r_extract (f.eval rfl) rfl) fun a f => l_op f rfl rfl rfl (r_extract (f.eval rfl) rfl) fun a f => l_as f rfl rfl fun a f => l_as f rfl rfl fun a f => l_nil (k_seq (k_seq (k_region ?_)))
 refine l_mv f rfl rfl fun a f => l_op f rfl rfl rfl (r_not (f.eval rfl)) fun a f => l_nil ?_
 rcases cond_some hd with ⟨al, hd⟩ | ⟨al, hd⟩
 ·refine k_true f rfl al ?_
  refine k_seq (k_region ?_)
  have am : ∀ w, (Instr.build 32 #[]).run Tryd.prog w = .ok (.agg #[(.slice none 0 0)]) w := by intro w; simp [Instr.build, Instr.fill, cells_int, cells_bool, cells_string, cells_slice, cells_pointer, cells_agg]
  refine l_build f rfl rfl am fun a f => l_boxStore 1 0 (ds := [(.slice none 0 0)]) m Tryd.sizeOf32 f rfl rfl rfl (ones_cons rfl ones_nil) rfl (Nat.le_of_ble_eq_true rfl) rfl fun w m => l_as f rfl rfl fun a f => l_nil ?_
  refine k_ret ?_
  obtain ⟨an, m, ao⟩ := Ow.nil (RSl (RI .i64)) 28 m
  have ap := rr_agg (P := Tryd.prog) 2 m Ag32 f (s := 4) rfl rfl rfl
  have m := m.eraseAt 2
  have m := m.eraseAt 1
  obtain rfl := sj hd
  exact ⟨[(.agg #[(.slice none 0 0)]), (.bool false)], ⟨ap, f.get _ _ rfl, trivial⟩, f.defers, _, [an], ag, m, _, _, rfl, rfl, ao⟩
 ·refine k_false f rfl al ?_
  refine k_skip ?_
  refine k_seq (k_region ?_)
  refine l_mv f rfl rfl fun a f => ?_
  obtain ⟨aq, ar, m, au⟩ := Ow.stamp (RI.mono _) ak m
  have h0 := rd1 ar h0
  have h1 := rd1 ar h1
  obtain ⟨av, aw, hd⟩ := bind_some hd
  refine l_res f rfl rfl Tryd.call40 (Wk.m0 hW m au aw) fun ax ay az w aA m aB a f => ?_
  obtain ⟨aC, aD, rfl, rfl, aE⟩ := aB
  have h0 := rd1 aA h0
  have h1 := rd1 aA h1
  have au := rd1 aA au
  refine l_boxStore 1 0 (ds := [aC]) m Tryd.sizeOf32 f rfl rfl rfl (ones_cons (Ow.one1 0 m aE rfl) ones_nil) rfl (Nat.le_of_ble_eq_true rfl) rfl fun w m => l_as f rfl rfl fun a f => l_nil ?_
  refine k_ret ?_
  have aF := rr_agg (P := Tryd.prog) 1 m Ag32 f (s := 4) rfl rfl rfl
  have m := m.eraseAt 1
  obtain rfl := sj hd
  exact ⟨[(.agg #[aC]), (.bool true)], ⟨aF, f.get _ _ rfl, trivial⟩, f.defers, _, [aD], (GLe.trans ag (GLe.trans ar aA)), m, _, _, rfl, rfl, aE⟩

theorem Wk.S {W w : World} {G : GH} {H : List Itm} {v0_0 : Value} {x0_0 : (List (List Int))} (m : Mem W G w (H)) (h0_0 : RSl (RSl (RI .i64)) G v0_0 x0_0) {y : Bool} (hd : D.S x0_0 = some y) :
  Calls Tryd.prog 53 #[(.agg #[v0_0])] w (Res W G H (fun _ Ho v => Ho = [] ∧ v = (.bool y))) := by
 refine calls_b (args := [(.agg #[v0_0])]) (N := 61) [.tmp 2] Tryd.func53 rfl rfl (Nat.le_of_ble_eq_true rfl) rfl fun a f => ?_
 unfold D.S at hd
 refine k_seq (k_region ?_)
 refine l_box (cs := [v0_0]) m f rfl rfl rfl fun aa w a m f => l_as f rfl rfl fun a f => l_nil (k_seq (k_region ?_))
 refine l_fieldAddr Tryd.underlying32 rfl Tryd.sizeOf30 (by decide) f rfl rfl fun a f => l_boxCell 0 0 m Pl30 f rfl rfl rfl rfl fun a f => l_len Tryd.underlying30 f rfl rfl h0_0 fun a f => l_as f rfl rfl fun a f => l_nil (k_seq (k_seq (k_region ?_)))
 refine l_mv f rfl rfl fun a f => l_in f rfl rfl rfl b_lss fun a f => l_mv f rfl rfl fun a f => ?_
 refine l_cut 3 (fun a w => ∃ ab, GLe G ab ∧ Mem W ab w (Itm.box aa 32 [v0_0] :: H) ∧ Fr a 61 [(0, (.agg #[v0_0])), (1, (.pointer (some ⟨aa, 0, none⟩))), (3, (.int .i64 (x0_0.length : Int))), (13, (.int .i64 (x0_0.length : Int))), (14, (.bool (decide ((x0_0.length : Int) < 1)))), (15, (.bool (decide ((x0_0.length : Int) < 1)))), (18, (.bool ((decide ((x0_0.length : Int) < 1)) || (decide ((16 : Int) < (x0_0.length : Int))))))]) ?_ ?_
 ·rcases Bool.eq_false_or_eq_true (decide ((x0_0.length : Int) < 1)) with ac | ac
  ·refine l_not' f rfl rfl rfl ac fun a f => ?_
   refine l_not' f rfl rfl rfl ac fun a f => l_op f rfl rfl rfl (r_pickT (f.eval rfl) ac (f.eval rfl)) fun a f => ?_
   exact ⟨_, (GLe.refl _), m, f.weak ⟨rfl, rfl, rfl, rfl, rfl, rfl, by rw [ac]; rfl, trivial⟩⟩
  ·refine l_run f rfl rfl ac ?_
   refine l_mv f rfl rfl fun a f => l_run f rfl rfl ac ?_
   refine l_in f rfl rfl rfl b_gtr fun a f => l_op f rfl rfl rfl (r_pickF (f.eval rfl) ac (f.eval rfl)) fun a f => ?_
   exact ⟨_, (GLe.refl _), m, f.weak ⟨rfl, rfl, rfl, rfl, rfl, rfl, by rw [ac]; rfl, trivial⟩⟩
 ·rintro a w ⟨ab, ad, m, f⟩
  have h0_0 := rd2 ad h0_0
  refine l_nil ?_
  rcases cond_some hd with ⟨ae, hd⟩ | ⟨ae, hd⟩
  ·refine k_true f rfl ae ?_
   refine k_seq (k_region ?_)
   refine l_as f rfl rfl fun a f => l_nil ?_
   refine k_ret ?_
   have m : Mem W ab w H := Mem.drop (H' := [Itm.box aa 32 [v0_0]]) m
   obtain rfl := sj hd
   exact ⟨[(.bool false)], ⟨f.get _ _ rfl, trivial⟩, f.defers, _, [], ad, m, rfl, rfl⟩
  ·refine k_false f rfl ae ?_
   refine k_skip ?_
   refine k_seq (k_seq (k_region ?_))
   refine l_fieldAddr Tryd.underlying32 rfl Tryd.sizeOf30 (by decide) f rfl rfl fun a f => l_boxCell 0 0 m Pl30 f rfl rfl rfl rfl fun a f => l_len Tryd.underlying30 f rfl rfl h0_0 fun a f => l_mv f rfl rfl fun a f => l_nil ?_
   obtain ⟨af, ag, hd⟩ := bind_some hd
   refine k_cut (fun a w => ∃ q_91' : Unit, af = .inl q_91' ∧ ∃ (ah : GH), GLe ab ah ∧ Fr a 61 [(1, (.pointer (some ⟨aa, 0, none⟩)))] ∧ Mem W ah w (Itm.box aa 32 [v0_0] :: H)) ?_ ?_
   ·refine k_block ?_
    refine k_loop (fun ai a w => ∃ aj : Int, aj = ai ∧ ∃ (ak : GH), GLe ab ak ∧ Fr a 61 [(1, (.pointer (some ⟨aa, 0, none⟩))), (3, (.int .i64 (x0_0.length : Int))), (20, v0_0), (21, (.int .i64 (x0_0.length : Int))), (22, (.int .i64 aj))] ∧ Mem W ak w (Itm.box aa 32 [v0_0] :: H)) ag ⟨_, rfl, _, (GLe.refl _), f.weak ⟨rfl, rfl, rfl, rfl, rfl, trivial⟩, m⟩ ?_
    clear ag f m
    rintro ai al am an a w ⟨aj, rfl, ak, ao, f, m⟩
    have h0_0 := rd2 ao h0_0
    refine k_seq (k_region ?_)
    refine l_in f rfl rfl rfl b_lss fun a f => l_nil (k_seq ?_)
    rcases cond_some am with ⟨ap, am⟩ | ⟨ap, am⟩
    ·refine k_true f rfl ap ?_
     refine k_skip ?_
     refine k_seq (k_block (k_seq (k_region ?_)))
     refine l_mv f rfl rfl fun a f => ?_
     obtain ⟨aq, ar, am⟩ := bind_some am
     refine l_at T30 f rfl rfl rfl h0_0 ar fun au av a aw ax f => l_loadAt m Pl28 f rfl rfl aw fun a f => l_as f rfl rfl fun a f => l_as f rfl rfl fun a f => l_nil (k_seq (k_region ?_))
     refine l_mv f rfl rfl fun a f => l_mv f rfl rfl fun a f => ?_
     obtain ⟨ay, az, am⟩ := bind_some am
     refine l_res f rfl rfl Tryd.call56 (Wk.H m ax az) fun aA aB aC w aD m aE a f => ?_
     obtain ⟨rfl, rfl⟩ := aE
     have ax := rd1 aD ax
     have h0_0 := rd2 aD h0_0
     refine l_op f rfl rfl rfl (r_not (f.eval rfl)) fun a f => l_mv f rfl rfl fun a f => ?_
     obtain ⟨aF, aG, am⟩ := bind_some am
     refine l_cut 4 (fun a w => ∃ aH, GLe aB aH ∧ Mem W aH w (Itm.box aa 32 [v0_0] :: H) ∧ Fr a 61 [(1, (.pointer (some ⟨aa, 0, none⟩))), (3, (.int .i64 (x0_0.length : Int))), (4, (.int .i64 aj)), (5, av), (20, v0_0), (21, (.int .i64 (x0_0.length : Int))), (22, (.int .i64 aj)), (27, av), (28, (.int .i64 (x0_0.length : Int))), (29, (.bool ay)), (30, (.bool (!ay))), (31, (.bool (!ay))), (35, (.bool aF))]) ?_ ?_
     ·rcases cond_some aG with ⟨aI, aG⟩ | ⟨aI, aG⟩
      ·refine l_not' f rfl rfl rfl aI fun a f => ?_
       refine l_not' f rfl rfl rfl aI fun a f => l_not' f rfl rfl rfl aI fun a f => l_op f rfl rfl rfl (r_pickT (f.eval rfl) aI (f.eval rfl)) fun a f => ?_
       obtain rfl := sj aG
       exact ⟨_, (GLe.refl _), m, f.weak ⟨rfl, rfl, rfl, rfl, rfl, rfl, rfl, rfl, rfl, rfl, rfl, rfl, rfl, trivial⟩⟩
      ·refine l_run f rfl rfl aI ?_
       refine l_mv f rfl rfl fun a f => l_run f rfl rfl aI ?_
       refine l_mv f rfl rfl fun a f => l_run f rfl rfl aI ?_
       obtain ⟨aJ, aK, aG⟩ := bind_some aG
       refine l_res f rfl rfl Tryd.call42 (Wk.u m ax aK) fun aL aM aN w aO m aP a f => ?_
       obtain ⟨rfl, rfl⟩ := aP
       have ax := rd1 aO ax
       have h0_0 := rd2 aO h0_0
       refine l_op f rfl rfl rfl (r_pickF (f.eval rfl) aI (f.eval rfl)) fun a f => ?_
       obtain rfl := sj aG
       exact ⟨_, aO, m, f.weak ⟨rfl, rfl, rfl, rfl, rfl, rfl, rfl, rfl, rfl, rfl, rfl, rfl, rfl, trivial⟩⟩
     ·rintro a w ⟨aH, aQ, m, f⟩
      have ax := rd1 aQ ax
      have h0_0 := rd2 aQ h0_0
      refine l_nil ?_
      rcases cond_some am with ⟨aR, am⟩ | ⟨aR, am⟩
      ·refine k_true f rfl aR ?_
       refine k_seq (k_region ?_)
       refine l_as f rfl rfl fun a f => l_nil ?_
       refine k_ret ?_
       have m : Mem W aH w H := Mem.drop (H' := [Itm.box aa 32 [v0_0]]) m
       obtain rfl := sj am
       obtain rfl := an _ rfl
       obtain rfl := sj hd
       exact ⟨[(.bool false)], ⟨f.get _ _ rfl, trivial⟩, f.defers, _, [], (GLe.trans ad (GLe.trans ao (GLe.trans aD aQ))), m, rfl, rfl⟩
      ·refine k_false f rfl aR ?_
       refine k_skip ?_
       refine k_region ?_
       refine l_in f rfl rfl rfl b_add fun a f => l_mv f rfl rfl fun a f => l_nil ?_
       obtain rfl := sj am
       exact ⟨_, rfl, _, rfl, _, (GLe.trans ao (GLe.trans aD aQ)), f.weak ⟨rfl, rfl, rfl, rfl, rfl, trivial⟩, m⟩
    ·refine k_false f rfl ap ?_
     refine k_exit rfl ?_
     obtain rfl := sj am
     obtain rfl := an _ rfl
     exact ⟨_, rfl, _, ao, f.weak ⟨rfl, trivial⟩, m⟩
   ·rintro a w ⟨_, rfl, ah, aS, f, m⟩
    have h0_0 := rd2 aS h0_0
    refine k_seq (k_seq (k_region ?_))
    refine l_fieldAddr Tryd.underlying32 rfl Tryd.sizeOf30 (by decide) f rfl rfl fun a f => l_boxCell 0 0 m Pl30 f rfl rfl rfl rfl fun a f => l_len Tryd.underlying30 f rfl rfl h0_0 fun a f => l_mv f rfl rfl fun a f => l_nil ?_
    obtain ⟨aT, aU, hd⟩ := bind_some hd
    refine k_cut (fun a w => ∃ q_394' : Unit, aT = .inl q_394' ∧ ∃ (aV : GH), GLe ah aV ∧ Fr a 61 [] ∧ Mem W aV w (H)) ?_ ?_
    ·refine k_block ?_
     refine k_loop (fun aW a w => ∃ aX : Int, aX = aW ∧ ∃ (aY : GH), GLe ah aY ∧ Fr a 61 [(1, (.pointer (some ⟨aa, 0, none⟩))), (38, v0_0), (39, (.int .i64 (x0_0.length : Int))), (40, (.int .i64 aX))] ∧ Mem W aY w (Itm.box aa 32 [v0_0] :: H)) aU ⟨_, rfl, _, (GLe.refl _), f.weak ⟨rfl, rfl, rfl, rfl, trivial⟩, m⟩ ?_
     clear aU f m
     rintro aW aZ a0 a1 a w ⟨aX, rfl, aY, a2, f, m⟩
     have h0_0 := rd2 a2 h0_0
     refine k_seq (k_region ?_)
     refine l_in f rfl rfl rfl b_lss fun a f => l_nil (k_seq ?_)
     rcases cond_some a0 with ⟨a3, a0⟩ | ⟨a3, a0⟩
     ·refine k_true f rfl a3 ?_
      refine k_skip ?_
      refine k_seq (k_block (k_seq (k_region ?_)))
      refine l_mv f rfl rfl fun a f => ?_
      obtain ⟨a4, a5, a0⟩ := bind_some a0
      refine l_at T30 f rfl rfl rfl h0_0 a5 fun a6 a7 a a8 a9 f => l_loadAt m Pl28 f rfl rfl a8 fun a f => l_as f rfl rfl fun a f => l_as f rfl rfl fun a f => l_nil (k_seq (k_region ?_))
      refine l_mv f rfl rfl fun a f => l_len Tryd.underlying28 f rfl rfl a9 fun a f => l_mv f rfl rfl fun a f => l_nil ?_
      obtain ⟨ba, bb, a0⟩ := bind_some a0
      refine k_cut (fun a w => ∃ q_560' : Unit, ba = .inl q_560' ∧ ∃ (bc : GH), GLe aY bc ∧ Fr a 61 [(1, (.pointer (some ⟨aa, 0, none⟩))), (38, v0_0), (39, (.int .i64 (x0_0.length : Int))), (40, (.int .i64 aX))] ∧ Mem W bc w (Itm.box aa 32 [v0_0] :: H)) ?_ ?_
      ·refine k_block ?_
       refine k_loop (fun bd a w => ∃ be : Int, be = bd ∧ ∃ (bf : GH), GLe aY bf ∧ Fr a 61 [(1, (.pointer (some ⟨aa, 0, none⟩))), (6, (.int .i64 aX)), (38, v0_0), (39, (.int .i64 (x0_0.length : Int))), (40, (.int .i64 aX)), (45, a7), (46, (.int .i64 (a4.length : Int))), (47, (.int .i64 be))] ∧ Mem W bf w (Itm.box aa 32 [v0_0] :: H)) bb ⟨_, rfl, _, (GLe.refl _), f.weak ⟨rfl, rfl, rfl, rfl, rfl, rfl, rfl, rfl, trivial⟩, m⟩ ?_
       clear bb f m
       rintro bd bg bh bi a w ⟨be, rfl, bf, bj, f, m⟩
       have h0_0 := rd2 bj h0_0
       have a9 := rd1 bj a9
       refine k_seq (k_region ?_)
       refine l_in f rfl rfl rfl b_lss fun a f => l_nil (k_seq ?_)
       rcases cond_some bh with ⟨bk, bh⟩ | ⟨bk, bh⟩
       ·refine k_true f rfl bk ?_
        refine k_skip ?_
        refine k_seq (k_block (k_seq (k_region ?_)))
        obtain ⟨bl, bm, bh⟩ := bind_some bh
        refine l_at T28 f rfl rfl rfl a9 bm fun bn bo a bp bq f => ?_
        subst bq
        refine l_loadAt m Pl2 f rfl rfl bp fun a f => l_as f rfl rfl fun a f => l_nil (k_seq (k_region ?_))
        refine l_fieldAddr Tryd.underlying32 rfl Tryd.sizeOf30 (by decide) f rfl rfl fun a f => l_boxCell 0 0 m Pl30 f rfl rfl rfl rfl fun a f => l_mv f rfl rfl fun a f => ?_
        obtain ⟨br, bs, bh⟩ := bind_some bh
        refine l_at T30 f rfl rfl rfl h0_0 bs fun bt bu a bv bw f => l_loadAt m Pl28 f rfl rfl bv fun a f => l_mv f rfl rfl fun a f => ?_
        obtain ⟨bx, bz, bh⟩ := bind_some bh
        refine l_res f rfl rfl Tryd.call42 (Wk.u m bw bz) fun bA bB bC w bD m bE a f => ?_
        obtain ⟨rfl, rfl⟩ := bE
        have h0_0 := rd2 bD h0_0
        have a9 := rd1 bD a9
        have bv := At.mono bD bv
        have bw := rd1 bD bw
        refine l_op f rfl rfl rfl (r_not (f.eval rfl)) fun a f => l_nil ?_
        rcases cond_some bh with ⟨bF, bh⟩ | ⟨bF, bh⟩
        ·refine k_true f rfl bF ?_
         refine k_seq (k_region ?_)
         refine l_as f rfl rfl fun a f => l_nil ?_
         refine k_ret ?_
         have m : Mem W bB w H := Mem.drop (H' := [Itm.box aa 32 [v0_0]]) m
         obtain rfl := sj bh
         obtain rfl := bi _ rfl
         obtain rfl := sj a0
         obtain rfl := a1 _ rfl
         obtain rfl := sj hd
         exact ⟨[(.bool false)], ⟨f.get _ _ rfl, trivial⟩, f.defers, _, [], (GLe.trans ad (GLe.trans aS (GLe.trans a2 (GLe.trans bj bD)))), m, rfl, rfl⟩
        ·refine k_false f rfl bF ?_
         refine k_skip ?_
         refine k_region ?_
         refine l_in f rfl rfl rfl b_add fun a f => l_mv f rfl rfl fun a f => l_nil ?_
         obtain rfl := sj bh
         exact ⟨_, rfl, _, rfl, _, (GLe.trans bj bD), f.weak ⟨rfl, rfl, rfl, rfl, rfl, rfl, rfl, rfl, trivial⟩, m⟩
       ·refine k_false f rfl bk ?_
        refine k_exit rfl ?_
        obtain rfl := sj bh
        obtain rfl := bi _ rfl
        exact ⟨_, rfl, _, bj, f.weak ⟨rfl, rfl, rfl, rfl, trivial⟩, m⟩
      ·rintro a w ⟨_, rfl, bc, bG, f, m⟩
       have h0_0 := rd2 bG h0_0
       refine k_region ?_
       refine l_in f rfl rfl rfl b_add fun a f => l_mv f rfl rfl fun a f => l_nil ?_
       obtain rfl := sj a0
       exact ⟨_, rfl, _, rfl, _, (GLe.trans a2 bG), f.weak ⟨rfl, rfl, rfl, rfl, trivial⟩, m⟩
     ·refine k_false f rfl a3 ?_
      refine k_exit rfl ?_
      have m : Mem W aY w H := Mem.drop (H' := [Itm.box aa 32 [v0_0]]) m
      obtain rfl := sj a0
      obtain rfl := a1 _ rfl
      exact ⟨_, rfl, _, a2, f.weak trivial, m⟩
    ·rintro a w ⟨_, rfl, aV, bH, f, m⟩
     refine k_seq (k_region ?_)
     refine l_as f rfl rfl fun a f => l_nil ?_
     refine k_ret ?_
     obtain rfl := sj hd
     exact ⟨[(.bool true)], ⟨f.get _ _ rfl, trivial⟩, f.defers, _, [], (GLe.trans ad (GLe.trans aS bH)), m, rfl, rfl⟩

theorem Wk.C0 {W w : World} {G : GH} {H : List Itm} {v0_0 : Value} {x0_0 : (List (List Int))} {x1 : Int} (m : Mem W G w (H)) (h0_0 : RSl (RSl (RI .i64)) G v0_0 x0_0) {y : Bool} (hd : D.C0 x0_0 x1 = some y) :
  Calls Tryd.prog 41 #[(.agg #[v0_0]), (.int .i64 x1)] w (Res W G H (fun _ Ho v => Ho = [] ∧ v = (.bool y))) := by
 refine calls_b (args := [(.agg #[v0_0]), (.int .i64 x1)]) (N := 15) [.tmp 4] Tryd.func41 rfl rfl (Nat.le_of_ble_eq_true rfl) rfl fun a f => ?_
 unfold D.C0 at hd
 refine k_seq (k_region ?_)
 refine l_box (cs := [v0_0]) m f rfl rfl rfl fun aa w a m f => l_as f rfl rfl fun a f => l_nil (k_seq (k_region ?_))
 refine l_boxAgg 0 0 (ds := [v0_0]) m Ag32 f rfl rfl rfl rfl rfl fun a f => ?_
 obtain ⟨ab, ac, hd⟩ := bind_some hd
 refine l_res f rfl rfl Tryd.call53 (Wk.S m h0_0 ac) fun ad ae af w ag m ah a f => ?_
 obtain ⟨rfl, rfl⟩ := ah
 have h0_0 := rd2 ag h0_0
 refine l_mv f rfl rfl fun a f => ?_
 obtain ⟨ai, aj, hd⟩ := bind_some hd
 refine l_cut 7 (fun a w => ∃ ak, GLe ae ak ∧ Mem W ak w (Itm.box aa 32 [v0_0] :: H) ∧ Fr a 15 [(0, (.agg #[v0_0])), (1, (.int .i64 x1)), (2, (.pointer (some ⟨aa, 0, none⟩))), (5, (.agg #[v0_0])), (6, (.bool ab)), (7, (.bool ab)), (14, (.bool ai))]) ?_ ?_
 ·rcases cond_some aj with ⟨al, aj⟩ | ⟨al, aj⟩
  ·refine l_run f rfl rfl al ?_
   refine l_mv f rfl rfl fun a f => l_run f rfl rfl al ?_
   refine l_fieldAddr Tryd.underlying32 rfl Tryd.sizeOf30 (by decide) f rfl rfl fun a f => l_run f rfl rfl al ?_
   refine l_boxCell 0 0 m Pl30 f rfl rfl rfl rfl fun a f => l_run f rfl rfl al ?_
   refine l_len Tryd.underlying30 f rfl rfl h0_0 fun a f => l_run f rfl rfl al ?_
   refine l_in f rfl rfl rfl b_sub fun a f => l_run f rfl rfl al ?_
   obtain ⟨am, an, aj⟩ := bind_some aj
   refine l_res f rfl rfl Tryd.call54 (Wk.M m  an) fun ao ap aq w ar m au a f => ?_
   obtain ⟨rfl, rfl⟩ := au
   have h0_0 := rd2 ar h0_0
   refine l_op f rfl rfl rfl (r_pickT (f.eval rfl) al (f.eval rfl)) fun a f => ?_
   obtain rfl := sj aj
   exact ⟨_, ar, m, f.weak ⟨rfl, rfl, rfl, rfl, rfl, rfl, rfl, trivial⟩⟩
  ·refine l_not' f rfl rfl rfl al fun a f => ?_
   refine l_not' f rfl rfl rfl al fun a f => l_not' f rfl rfl rfl al fun a f => l_not' f rfl rfl rfl al fun a f => l_not' f rfl rfl rfl al fun a f => l_not' f rfl rfl rfl al fun a f => l_op f rfl rfl rfl (r_pickF (f.eval rfl) al (f.eval rfl)) fun a f => ?_
   obtain rfl := sj aj
   exact ⟨_, (GLe.refl _), m, f.weak ⟨rfl, rfl, rfl, rfl, rfl, rfl, rfl, trivial⟩⟩
 ·rintro a w ⟨ak, av, m, f⟩
  have h0_0 := rd2 av h0_0
  refine l_as f rfl rfl fun a f => l_nil ?_
  refine k_ret ?_
  have m : Mem W ak w H := Mem.drop (H' := [Itm.box aa 32 [v0_0]]) m
  obtain rfl := sj hd
  exact ⟨[(.bool ai)], ⟨f.get _ _ rfl, trivial⟩, f.defers, _, [], (GLe.trans ag av), m, rfl, rfl⟩

theorem Wk.D0 {W w : World} {G : GH} {H : List Itm} {v0_0 : Value} {x0_0 : (List (List Int))} {x1 : Int} {x2 : Int} (m : Mem W G w (H)) (h0_0 : RSl (RSl (RI .i64)) G v0_0 x0_0) {y : Bool} (hd : D.D0 x0_0 x1 x2 = some y) :
  Calls Tryd.prog 22 #[(.agg #[v0_0]), (.int .i64 x1), (.int .i64 x2)] w (Res W G H (fun _ Ho v => Ho = [] ∧ v = (.bool y))) := by
 refine calls_b (args := [(.agg #[v0_0]), (.int .i64 x1), (.int .i64 x2)]) (N := 19) [.tmp 6] Tryd.func22 rfl rfl (Nat.le_of_ble_eq_true rfl) rfl fun a f => ?_
 unfold D.D0 at hd
 refine k_seq (k_region ?_)
 refine l_box (cs := [v0_0]) m f rfl rfl rfl fun aa w a m f => l_as f rfl rfl fun a f => l_nil (k_seq (k_region ?_))
 refine l_boxAgg 0 0 (ds := [v0_0]) m Ag32 f rfl rfl rfl rfl rfl fun a f => l_mv f rfl rfl fun a f => ?_
 obtain ⟨ab, ac, hd⟩ := bind_some hd
 refine l_res f rfl rfl Tryd.call41 (Wk.C0 m h0_0 ac) fun ad ae af w ag m ah a f => ?_
 obtain ⟨rfl, rfl⟩ := ah
 have h0_0 := rd2 ag h0_0
 refine l_mv f rfl rfl fun a f => ?_
 obtain ⟨ai, aj, hd⟩ := bind_some hd
 refine l_cut 8 (fun a w => ∃ ak, GLe ae ak ∧ Mem W ak w (Itm.box aa 32 [v0_0] :: H) ∧ Fr a 19 [(0, (.agg #[v0_0])), (1, (.int .i64 x1)), (2, (.int .i64 x2)), (3, (.pointer (some ⟨aa, 0, none⟩))), (7, (.agg #[v0_0])), (8, (.int .i64 x1)), (9, (.bool ab)), (10, (.bool ab)), (18, (.bool ai))]) ?_ ?_
 ·rcases cond_some aj with ⟨al, aj⟩ | ⟨al, aj⟩
  ·refine l_run f rfl rfl al ?_
   refine l_fieldAddr Tryd.underlying32 rfl Tryd.sizeOf30 (by decide) f rfl rfl fun a f => l_run f rfl rfl al ?_
   refine l_boxCell 0 0 m Pl30 f rfl rfl rfl rfl fun a f => l_run f rfl rfl al ?_
   refine l_mv f rfl rfl fun a f => l_run f rfl rfl al ?_
   obtain ⟨am, an, aj⟩ := bind_some aj
   refine l_at T30 f rfl rfl rfl h0_0 an fun ao ap a aq ar f => l_run f rfl rfl al ?_
   refine l_loadAt m Pl28 f rfl rfl aq fun a f => l_run f rfl rfl al ?_
   refine l_mv f rfl rfl fun a f => l_run f rfl rfl al ?_
   obtain ⟨au, av, aj⟩ := bind_some aj
   refine l_res f rfl rfl Tryd.call42 (Wk.u m ar av) fun aw ax ay w az m aA a f => ?_
   obtain ⟨rfl, rfl⟩ := aA
   have h0_0 := rd2 az h0_0
   have aq := At.mono az aq
   have ar := rd1 az ar
   refine l_op f rfl rfl rfl (r_pickT (f.eval rfl) al (f.eval rfl)) fun a f => ?_
   obtain rfl := sj aj
   exact ⟨_, az, m, f.weak ⟨rfl, rfl, rfl, rfl, rfl, rfl, rfl, rfl, rfl, trivial⟩⟩
  ·refine l_not' f rfl rfl rfl al fun a f => ?_
   refine l_not' f rfl rfl rfl al fun a f => l_not' f rfl rfl rfl al fun a f => l_not' f rfl rfl rfl al fun a f => l_not' f rfl rfl rfl al fun a f => l_not' f rfl rfl rfl al fun a f => l_not' f rfl rfl rfl al fun a f => l_op f rfl rfl rfl (r_pickF (f.eval rfl) al (f.eval rfl)) fun a f => ?_
   obtain rfl := sj aj
   exact ⟨_, (GLe.refl _), m, f.weak ⟨rfl, rfl, rfl, rfl, rfl, rfl, rfl, rfl, rfl, trivial⟩⟩
 ·rintro a w ⟨ak, aB, m, f⟩
  have h0_0 := rd2 aB h0_0
  refine l_as f rfl rfl fun a f => l_nil ?_
  refine k_ret ?_
  have m : Mem W ak w H := Mem.drop (H' := [Itm.box aa 32 [v0_0]]) m
  obtain rfl := sj hd
  exact ⟨[(.bool ai)], ⟨f.get _ _ rfl, trivial⟩, f.defers, _, [], (GLe.trans ag aB), m, rfl, rfl⟩

theorem Wk.s0 {W w : World} {G : GH} {H : List Itm} {v0 : Value} {v1 : Value} {x0 : (List Int)} {x1 : (List Int)} {x2 : Int} {x3 : Int} (hW : TabW W) (m : Mem W G w (H)) (h0 : RSl (RI .i64) G v0 x0) (h1 : RSl (RI .i64) G v1 x1) {y : Bool} (hd : D.s0 x0 x1 x2 x3 = some y) :
  Calls Tryd.prog 13 #[v0, v1, (.int .i64 x2), (.int .i64 x3)] w (Res W G H (fun _ Ho v => Ho = [] ∧ v = (.bool y))) := by
 refine calls_b (args := [v0, v1, (.int .i64 x2), (.int .i64 x3)]) (N := 24) [.tmp 8] Tryd.func13 rfl rfl (Nat.le_of_ble_eq_true rfl) rfl fun a f => ?_
 unfold D.s0 at hd
 refine k_seq (k_region ?_)
 refine l_as f rfl rfl fun a f => l_nil (k_seq (k_region ?_))
 refine l_mv f rfl rfl fun a f => l_mv f rfl rfl fun a f => ?_
 obtain ⟨aa, ab, hd⟩ := bind_some hd
 refine l_res f rfl rfl Tryd.call21 (Wk.V hW m h0 h1 ab) fun ac ad ae w af m ag a f => ?_
 obtain ⟨ah, ai, rfl, rfl, aj⟩ := ag
 have h0 := rd1 af h0
 have h1 := rd1 af h1
 refine l_mv f rfl rfl fun a f => l_op f rfl rfl rfl (r_extract (f.eval rfl) rfl) fun a f => l_op f rfl rfl rfl (r_extract (f.eval rfl) rfl) fun a f => l_alloc (cs := [(.slice none 0 0)]) Tryd.zeroValue32 m f rfl rfl fun ak w a m f => l_boxStore 0 0 (ds := [ah]) m Tryd.sizeOf32 f rfl rfl rfl (ones_cons (Ow.one1 1 m aj rfl) ones_nil) rfl (Nat.le_of_ble_eq_true rfl) rfl fun w m => l_as f rfl rfl fun a f => l_nil (k_seq (k_region ?_))
 refine l_mv f rfl rfl fun a f => l_mv f rfl rfl fun a f => ?_
 obtain ⟨al, am, hd⟩ := bind_some hd
 refine l_cut 5 (fun a w => ∃ an, GLe ad an ∧ Mem W an w (Itm.box ak 32 [ah] :: ai :: H) ∧ Fr a 24 [(0, v0), (1, v1), (2, (.int .i64 x2)), (3, (.int .i64 x3)), (9, (.pointer (some ⟨ak, 0, none⟩))), (10, (.bool aa.2)), (17, (.bool aa.2)), (18, (.bool aa.2)), (23, (.bool al))]) ?_ ?_
 ·rcases cond_some am with ⟨ao, am⟩ | ⟨ao, am⟩
  ·refine l_run f rfl rfl ao ?_
   refine l_boxAgg 0 0 (ds := [ah]) m Ag32 f rfl rfl rfl rfl rfl fun a f => l_run f rfl rfl ao ?_
   refine l_mv f rfl rfl fun a f => l_run f rfl rfl ao ?_
   refine l_mv f rfl rfl fun a f => l_run f rfl rfl ao ?_
   obtain ⟨ap, aq, am⟩ := bind_some am
   refine l_res f rfl rfl Tryd.call22 (Ow.lendCall (RSl.mono (RI.mono _)) 1 aj m rfl (fun ar au m av => Wk.D0 m av aq) (fun _ _ _ _ h => h)) fun aw ax ay w az m aA a f => ?_
   obtain ⟨rfl, rfl⟩ := aA
   have h0 := rd1 az h0
   have h1 := rd1 az h1
   have aj := Ow.mono (RSl.mono (RI.mono _)) az aj
   refine l_op f rfl rfl rfl (r_pickT (f.eval rfl) ao (f.eval rfl)) fun a f => ?_
   obtain rfl := sj am
   exact ⟨_, az, m, f.weak ⟨rfl, rfl, rfl, rfl, rfl, rfl, rfl, rfl, rfl, trivial⟩⟩
  ·refine l_not' f rfl rfl rfl ao fun a f => ?_
   refine l_not' f rfl rfl rfl ao fun a f => l_not' f rfl rfl rfl ao fun a f => l_not' f rfl rfl rfl ao fun a f => l_op f rfl rfl rfl (r_pickF (f.eval rfl) ao (f.eval rfl)) fun a f => ?_
   obtain rfl := sj am
   exact ⟨_, (GLe.refl _), m, f.weak ⟨rfl, rfl, rfl, rfl, rfl, rfl, rfl, rfl, rfl, trivial⟩⟩
 ·rintro a w ⟨an, aB, m, f⟩
  have h0 := rd1 aB h0
  have h1 := rd1 aB h1
  have aj := Ow.mono (RSl.mono (RI.mono _)) aB aj
  refine l_as f rfl rfl fun a f => l_nil ?_
  refine k_ret ?_
  have m : Mem W an w H := Mem.drop (H' := [Itm.box ak 32 [ah], ai]) m
  obtain rfl := sj hd
  exact ⟨[(.bool al)], ⟨f.get _ _ rfl, trivial⟩, f.defers, _, [], (GLe.trans af aB), m, rfl, rfl⟩

theorem Wk.K {W w : World} {G : GH} {H : List Itm} {v0_0 : Value} {x0_0 : (List (List Int))} {x1 : Int} (m : Mem W G w (H)) (h0_0 : RSl (RSl (RI .i64)) G v0_0 x0_0) {y : Bool} (hd : D.K x0_0 x1 = some y) :
  Calls Tryd.prog 23 #[(.agg #[v0_0]), (.int .i64 x1)] w (Res W G H (fun _ Ho v => Ho = [] ∧ v = (.bool y))) := by
 refine calls_b (args := [(.agg #[v0_0]), (.int .i64 x1)]) (N := 10) [.tmp 4] Tryd.func23 rfl rfl (Nat.le_of_ble_eq_true rfl) rfl fun a f => ?_
 unfold D.K at hd
 refine k_seq (k_region ?_)
 refine l_box (cs := [v0_0]) m f rfl rfl rfl fun aa w a m f => l_as f rfl rfl fun a f => l_nil (k_seq (k_region ?_))
 refine l_mv f rfl rfl fun a f => l_boxAgg 0 0 (ds := [v0_0]) m Ag32 f rfl rfl rfl rfl rfl fun a f => ?_
 obtain ⟨ab, ac, hd⟩ := bind_some hd
 refine l_res f rfl rfl Tryd.call27 (Wk.g m h0_0 ac) fun ad ae af w ag m ah a f => ?_
 obtain ⟨rfl, rfl⟩ := ah
 have h0_0 := rd2 ag h0_0
 refine l_in f rfl rfl rfl b_sub fun a f => ?_
 obtain ⟨ai, aj, hd⟩ := bind_some hd
 refine l_res f rfl rfl Tryd.call28 (Wk.c m  aj) fun ak al am w an m ao a f => ?_
 obtain ⟨rfl, rfl⟩ := ao
 have h0_0 := rd2 an h0_0
 refine l_as f rfl rfl fun a f => l_nil ?_
 refine k_ret ?_
 have m : Mem W al w H := Mem.drop (H' := [Itm.box aa 32 [v0_0]]) m
 obtain rfl := sj hd
 exact ⟨[(.bool ai)], ⟨f.get _ _ rfl, trivial⟩, f.defers, _, [], (GLe.trans ag an), m, rfl, rfl⟩

theorem Wk.p0 {W w : World} {G : GH} {H : List Itm} {v0_0 : Value} {x0_0 : (List (List Int))} {x1 : Int} {x2 : Int} (m : Mem W G w (H)) (h0_0 : RSl (RSl (RI .i64)) G v0_0 x0_0) {y : Bool} (hd : D.p0 x0_0 x1 x2 = some y) :
  Calls Tryd.prog 14 #[(.agg #[v0_0]), (.int .i64 x1), (.int .i64 x2)] w (Res W G H (fun _ Ho v => Ho = [] ∧ v = (.bool y))) := by
 refine calls_b (args := [(.agg #[v0_0]), (.int .i64 x1), (.int .i64 x2)]) (N := 25) [.tmp 6] Tryd.func14 rfl rfl (Nat.le_of_ble_eq_true rfl) rfl fun a f => ?_
 unfold D.p0 at hd
 refine k_seq (k_region ?_)
 refine l_box (cs := [v0_0]) m f rfl rfl rfl fun aa w a m f => l_as f rfl rfl fun a f => l_nil (k_seq (k_region ?_))
 refine l_boxAgg 0 0 (ds := [v0_0]) m Ag32 f rfl rfl rfl rfl rfl fun a f => ?_
 obtain ⟨ab, ac, hd⟩ := bind_some hd
 refine l_res f rfl rfl Tryd.call17 (Wk.q m h0_0 ac) fun ad ae af w ag m ah a f => ?_
 obtain ⟨rfl, rfl⟩ := ah
 have h0_0 := rd2 ag h0_0
 refine l_mv f rfl rfl fun a f => ?_
 obtain ⟨ai, aj, hd⟩ := bind_some hd
 refine l_cut 4 (fun a w => ∃ ak, GLe ae ak ∧ Mem W ak w (Itm.box aa 32 [v0_0] :: H) ∧ Fr a 25 [(0, (.agg #[v0_0])), (1, (.int .i64 x1)), (2, (.int .i64 x2)), (3, (.pointer (some ⟨aa, 0, none⟩))), (7, (.agg #[v0_0])), (8, (.bool ab)), (9, (.bool ab)), (13, (.bool ai))]) ?_ ?_
 ·rcases cond_some aj with ⟨al, aj⟩ | ⟨al, aj⟩
  ·refine l_run f rfl rfl al ?_
   refine l_boxAgg 0 0 (ds := [v0_0]) m Ag32 f rfl rfl rfl rfl rfl fun a f => l_run f rfl rfl al ?_
   refine l_mv f rfl rfl fun a f => l_run f rfl rfl al ?_
   obtain ⟨am, an, aj⟩ := bind_some aj
   refine l_res f rfl rfl Tryd.call23 (Wk.K m h0_0 an) fun ao ap aq w ar m au a f => ?_
   obtain ⟨rfl, rfl⟩ := au
   have h0_0 := rd2 ar h0_0
   refine l_op f rfl rfl rfl (r_pickT (f.eval rfl) al (f.eval rfl)) fun a f => ?_
   obtain rfl := sj aj
   exact ⟨_, ar, m, f.weak ⟨rfl, rfl, rfl, rfl, rfl, rfl, rfl, rfl, trivial⟩⟩
  ·refine l_not' f rfl rfl rfl al fun a f => ?_
   refine l_not' f rfl rfl rfl al fun a f => l_not' f rfl rfl rfl al fun a f => l_op f rfl rfl rfl (r_pickF (f.eval rfl) al (f.eval rfl)) fun a f => ?_
   obtain rfl := sj aj
   exact ⟨_, (GLe.refl _), m, f.weak ⟨rfl, rfl, rfl, rfl, rfl, rfl, rfl, rfl, trivial⟩⟩
 ·rintro a w ⟨ak, av, m, f⟩
  have h0_0 := rd2 av h0_0
  refine l_mv f rfl rfl fun a f => ?_
  obtain ⟨aw, ax, hd⟩ := bind_some hd
  refine l_cut 4 (fun a w => ∃ ay, GLe ak ay ∧ Mem W ay w (Itm.box aa 32 [v0_0] :: H) ∧ Fr a 25 [(0, (.agg #[v0_0])), (1, (.int .i64 x1)), (2, (.int .i64 x2)), (3, (.pointer (some ⟨aa, 0, none⟩))), (7, (.agg #[v0_0])), (8, (.bool ab)), (9, (.bool ab)), (13, (.bool ai)), (14, (.bool ai)), (18, (.bool aw))]) ?_ ?_
  ·rcases cond_some ax with ⟨az, ax⟩ | ⟨az, ax⟩
   ·refine l_run f rfl rfl az ?_
    refine l_boxAgg 0 0 (ds := [v0_0]) m Ag32 f rfl rfl rfl rfl rfl fun a f => l_run f rfl rfl az ?_
    refine l_mv f rfl rfl fun a f => l_run f rfl rfl az ?_
    obtain ⟨aA, aB, ax⟩ := bind_some ax
    refine l_res f rfl rfl Tryd.call23 (Wk.K m h0_0 aB) fun aC aD aE w aF m aG a f => ?_
    obtain ⟨rfl, rfl⟩ := aG
    have h0_0 := rd2 aF h0_0
    refine l_op f rfl rfl rfl (r_pickT (f.eval rfl) az (f.eval rfl)) fun a f => ?_
    obtain rfl := sj ax
    exact ⟨_, aF, m, f.weak ⟨rfl, rfl, rfl, rfl, rfl, rfl, rfl, rfl, rfl, rfl, trivial⟩⟩
   ·refine l_not' f rfl rfl rfl az fun a f => ?_
    refine l_not' f rfl rfl rfl az fun a f => l_not' f rfl rfl rfl az fun a f => l_op f rfl rfl rfl (r_pickF (f.eval rfl) az (f.eval rfl)) fun a f => ?_
    obtain rfl := sj ax
    exact ⟨_, (GLe.refl _), m, f.weak ⟨rfl, rfl, rfl, rfl, rfl, rfl, rfl, rfl, rfl, rfl, trivial⟩⟩
  ·rintro a w ⟨ay, aH, m, f⟩
   have h0_0 := rd2 aH h0_0
   refine l_mv f rfl rfl fun a f => ?_
   obtain ⟨aI, aJ, hd⟩ := bind_some hd
   refine l_cut 5 (fun a w => ∃ aK, GLe ay aK ∧ Mem W aK w (Itm.box aa 32 [v0_0] :: H) ∧ Fr a 25 [(0, (.agg #[v0_0])), (1, (.int .i64 x1)), (2, (.int .i64 x2)), (3, (.pointer (some ⟨aa, 0, none⟩))), (7, (.agg #[v0_0])), (8, (.bool ab)), (9, (.bool ab)), (13, (.bool ai)), (14, (.bool ai)), (18, (.bool aw)), (19, (.bool aw)), (24, (.bool aI))]) ?_ ?_
   ·rcases cond_some aJ with ⟨aL, aJ⟩ | ⟨aL, aJ⟩
    ·refine l_run f rfl rfl aL ?_
     refine l_boxAgg 0 0 (ds := [v0_0]) m Ag32 f rfl rfl rfl rfl rfl fun a f => l_run f rfl rfl aL ?_
     refine l_mv f rfl rfl fun a f => l_run f rfl rfl aL ?_
     refine l_mv f rfl rfl fun a f => l_run f rfl rfl aL ?_
     obtain ⟨aM, aN, aJ⟩ := bind_some aJ
     refine l_res f rfl rfl Tryd.call24 (Wk.G m h0_0 aN) fun aO aP aQ w aR m aS a f => ?_
     obtain ⟨rfl, rfl⟩ := aS
     have h0_0 := rd2 aR h0_0
     refine l_op f rfl rfl rfl (r_pickT (f.eval rfl) aL (f.eval rfl)) fun a f => ?_
     obtain rfl := sj aJ
     exact ⟨_, aR, m, f.weak ⟨rfl, rfl, rfl, rfl, rfl, rfl, rfl, rfl, rfl, rfl, rfl, rfl, trivial⟩⟩
    ·refine l_not' f rfl rfl rfl aL fun a f => ?_
     refine l_not' f rfl rfl rfl aL fun a f => l_not' f rfl rfl rfl aL fun a f => l_not' f rfl rfl rfl aL fun a f => l_op f rfl rfl rfl (r_pickF (f.eval rfl) aL (f.eval rfl)) fun a f => ?_
     obtain rfl := sj aJ
     exact ⟨_, (GLe.refl _), m, f.weak ⟨rfl, rfl, rfl, rfl, rfl, rfl, rfl, rfl, rfl, rfl, rfl, rfl, trivial⟩⟩
   ·rintro a w ⟨aK, aT, m, f⟩
    have h0_0 := rd2 aT h0_0
    refine l_as f rfl rfl fun a f => l_nil ?_
    refine k_ret ?_
    have m : Mem W aK w H := Mem.drop (H' := [Itm.box aa 32 [v0_0]]) m
    obtain rfl := sj hd
    exact ⟨[(.bool aI)], ⟨f.get _ _ rfl, trivial⟩, f.defers, _, [], (GLe.trans ag (GLe.trans av (GLe.trans aH aT))), m, rfl, rfl⟩

set_option maxHeartbeats 1000000 in
theorem Wk.E0 {W w : World} {G : GH} {H : List Itm} {v0 : Value} {x0 : (List Int)} (hW : TabW W) (m : Mem W G w (H)) (h0 : RSl (RI .u8) G v0 x0) {y : Bool} (hd : D.E0 x0 = some y) :
  Calls Tryd.prog 3 #[v0] w (Res W G H (fun _ Ho v => Ho = [] ∧ v = (.bool y))) := by
 refine calls_b (args := [v0]) (N := 93) [.tmp 2] Tryd.func3 rfl rfl (Nat.le_of_ble_eq_true rfl) rfl fun a f => ?_
 unfold D.E0 at hd
 refine k_seq (k_region ?_)
 refine l_as f rfl rfl fun a f => l_nil (k_seq (k_seq (k_region ?_)))
 refine l_mv f rfl rfl fun a f => ?_
 obtain ⟨aa, ab, hd⟩ := bind_some hd
 refine l_res f rfl rfl Tryd.call4 (Wk.v0 m h0 ab) fun ac ad ae w af m ag a f => ?_
 obtain ⟨rfl, rfl⟩ := ag
 have h0 := rd1 af h0
 refine l_nil ?_
 rcases cond_some hd with ⟨ah, hd⟩ | ⟨ah, hd⟩
 ·refine k_true f rfl ah ?_
  refine k_seq (k_region ?_)
  refine l_as f rfl rfl fun a f => l_nil ?_
  refine k_ret ?_
  obtain rfl := sj hd
  exact ⟨[(.bool true)], ⟨f.get _ _ rfl, trivial⟩, f.defers, _, [], af, m, rfl, rfl⟩
 ·refine k_false f rfl ah ?_
  refine k_skip ?_
  refine k_seq (k_region ?_)
  refine l_mv f rfl rfl fun a f => ?_
  obtain ⟨ai, aj, hd⟩ := bind_some hd
  refine l_res f rfl rfl Tryd.call5 (Wk.h0 m h0 aj) fun ak al am w an m ao a f => ?_
  obtain ⟨ap, aq, rfl, rfl, ar⟩ := ao
  have h0 := rd1 an h0
  refine l_as f rfl rfl fun a f => l_nil (k_seq (k_region ?_))
  refine l_mv f rfl rfl fun a f => ?_
  obtain ⟨au, av, hd⟩ := bind_some hd
  refine l_res f rfl rfl Tryd.call6 (Wk.w m ar av) fun aw ax ay w az m aA a f => ?_
  obtain ⟨aB, rfl, rfl, aC⟩ := aA
  have h0 := rd1 az h0
  refine l_in f rfl rfl rfl b_add fun a f => l_as f rfl rfl fun a f => l_nil (k_seq (k_region ?_))
  refine l_mv f rfl rfl fun a f => l_mv f rfl rfl fun a f => ?_
  obtain ⟨aD, aE, hd⟩ := bind_some hd
  refine l_res f rfl rfl Tryd.call7 (Wk.y m aC aE) fun aF aG aH w aI m aJ a f => ?_
  obtain ⟨aK, aL, aM, rfl, rfl, aN, aO⟩ := aJ
  have h0 := rd1 aI h0
  refine l_as f rfl rfl fun a f => l_nil (k_seq (k_region ?_))
  refine l_mv f rfl rfl fun a f => l_mv f rfl rfl fun a f => ?_
  have m := m.front 1 rfl
  obtain ⟨aP, aQ, hd⟩ := bind_some hd
  refine l_res f rfl rfl Tryd.call7 (Wk.y m aO aQ) fun aR aS aT w aU m aV a f => ?_
  obtain ⟨aW, aX, aY, rfl, rfl, aZ, a0⟩ := aV
  have h0 := rd1 aU h0
  have aN := od1 aU aN
  refine l_as f rfl rfl fun a f => l_nil (k_seq (k_region ?_))
  refine l_mv f rfl rfl fun a f => l_mv f rfl rfl fun a f => ?_
  have m : Mem W aS w (aL :: aX :: Itm.box aq 41 [aY, (.int .i64 aP.2.2.1), (.int .u64 aP.2.2.2)] :: H) := m.front 2 rfl
  obtain ⟨a1, a2, m, a3⟩ := Ow.stamp (RI.mono _) aN m
  have h0 := rd1 a2 h0
  have aZ := od1 a2 aZ
  have a0 := rd1 a2 a0
  obtain ⟨a4, a5, m, a6⟩ := Ow.stamp (RI.mono _) aZ m
  have h0 := rd1 a5 h0
  have a3 := rd1 a5 a3
  have a0 := rd1 a5 a0
  obtain ⟨a7, a8, hd⟩ := bind_some hd
  refine l_res f rfl rfl Tryd.call8 (Wk.U m a3 a6 a8) fun a9 ba bb w bc m bd a f => ?_
  obtain ⟨be, bf, rfl, rfl, bg⟩ := bd
  have h0 := rd1 bc h0
  have a3 := rd1 bc a3
  have a6 := rd1 bc a6
  have a0 := rd1 bc a0
  refine l_mv f rfl rfl fun a f => l_op f rfl rfl rfl (r_extract (f.eval rfl) rfl) fun a f => l_op f rfl rfl rfl (r_extract (f.eval rfl) rfl) fun a f => l_alloc (cs := [(.slice none 0 0)]) Tryd.zeroValue32 m f rfl rfl fun bh w a m f => l_boxStore 0 0 (ds := [be]) m Tryd.sizeOf32 f rfl rfl rfl (ones_cons (Ow.one1 1 m bg rfl) ones_nil) rfl (Nat.le_of_ble_eq_true rfl) rfl fun w m => l_as f rfl rfl fun a f => l_nil (k_seq (k_region ?_))
  refine l_boxAgg 0 0 (ds := [be]) m Ag32 f rfl rfl rfl rfl rfl fun a f => ?_
  have m : Mem W ba w (bf :: Itm.box bh 32 [be] :: Itm.box aq 41 [aY, (.int .i64 aP.2.2.1), (.int .u64 aP.2.2.2)] :: H) := m.front 1 rfl
  obtain ⟨bi, bj, m, bk⟩ := Ow.stamp (RSl.mono (RI.mono _)) bg m
  have h0 := rd1 bj h0
  have a3 := rd1 bj a3
  have a6 := rd1 bj a6
  have a0 := rd1 bj a0
  obtain ⟨bl, bm, hd⟩ := bind_some hd
  refine l_res f rfl rfl Tryd.call9 (Wk.f0 m bk bm) fun bn bo bp w bq m br a f => ?_
  obtain ⟨bs, bt, rfl, rfl, bu⟩ := br
  have h0 := rd1 bq h0
  have a3 := rd1 bq a3
  have a6 := rd1 bq a6
  have bk := rd2 bq bk
  have a0 := rd1 bq a0
  refine l_mv f rfl rfl fun a f => l_op f rfl rfl rfl (r_extract (f.eval rfl) rfl) fun a f => l_op f rfl rfl rfl (r_extract (f.eval rfl) rfl) fun a f => l_alloc (cs := [(.slice none 0 0)]) Tryd.zeroValue32 m f rfl rfl fun bv w a m f => l_boxStore 0 0 (ds := [bs]) m Tryd.sizeOf32 f rfl rfl rfl (ones_cons (Ow.one1 1 m bu rfl) ones_nil) rfl (Nat.le_of_ble_eq_true rfl) rfl fun w m => l_as f rfl rfl fun a f => l_nil (k_seq (k_region ?_))
  refine l_mv f rfl rfl fun a f => l_mv f rfl rfl fun a f => ?_
  obtain ⟨bw, bx, hd⟩ := bind_some hd
  refine l_res f rfl rfl Tryd.call10 (Wk.z0 hW m a3 a6 bx) fun bz bA bB w bC m bD a f => ?_
  obtain ⟨bE, bF, rfl, rfl, bG⟩ := bD
  have h0 := rd1 bC h0
  have a3 := rd1 bC a3
  have a6 := rd1 bC a6
  have bu := Ow.mono (RSl.mono (RI.mono _)) bC bu
  have bk := rd2 bC bk
  have a0 := rd1 bC a0
  refine l_as f rfl rfl fun a f => l_nil (k_seq (k_region ?_))
  refine l_mv f rfl rfl fun a f => l_mv f rfl rfl fun a f => ?_
  obtain ⟨bH, bI, hd⟩ := bind_some hd
  refine l_res f rfl rfl Tryd.call11 (Wk.G0 hW m a3 a6 bI) fun bJ bK bL w bM m bN a f => ?_
  obtain ⟨bO, bP, rfl, rfl, bQ⟩ := bN
  have h0 := rd1 bM h0
  have a3 := rd1 bM a3
  have a6 := rd1 bM a6
  have bG := od1 bM bG
  have bu := Ow.mono (RSl.mono (RI.mono _)) bM bu
  have bk := rd2 bM bk
  have a0 := rd1 bM a0
  refine l_as f rfl rfl fun a f => l_nil (k_seq (k_seq (k_region ?_)))
  refine l_mv f rfl rfl fun a f => l_own_len 1 m bG rfl Tryd.underlying28 f rfl rfl fun a f => l_boxAgg 4 0 (ds := [be]) m Ag32 f rfl rfl rfl rfl rfl fun a f => ?_
  obtain ⟨bR, bS, hd⟩ := bind_some hd
  refine l_res f rfl rfl Tryd.call12 (Wk.s m bk bS) fun bT bU bV w bW m bX a f => ?_
  obtain ⟨rfl, rfl⟩ := bX
  have h0 := rd1 bW h0
  have a3 := rd1 bW a3
  have a6 := rd1 bW a6
  have bk := rd2 bW bk
  have bQ := od1 bW bQ
  have bG := od1 bW bG
  have bu := Ow.mono (RSl.mono (RI.mono _)) bW bu
  have a0 := rd1 bW a0
  refine l_in f rfl rfl rfl b_neq fun a f => l_mv f rfl rfl fun a f => ?_
  obtain ⟨bY, bZ, hd⟩ := bind_some hd
  refine l_cut 6 (fun a w => ∃ b0, GLe bU b0 ∧ Mem W b0 w (bP :: bF :: Itm.box bv 32 [bs] :: bt :: Itm.box bh 32 [be] :: Itm.box aq 41 [aY, (.int .i64 aP.2.2.1), (.int .u64 aP.2.2.2)] :: H) ∧ Fr a 93 [(0, v0), (3, (.pointer (some ⟨aq, 0, none⟩))), (4, (.int .i64 (IntKind.i64.wrap (1 + au.1)))), (5, aK), (6, aW), (7, (.pointer (some ⟨bh, 0, none⟩))), (8, (.bool a7.2)), (9, (.pointer (some ⟨bv, 0, none⟩))), (10, (.bool bl.2)), (11, bE), (12, bO), (45, bE), (46, (.int .i64 (bw.length : Int))), (47, (.agg #[be])), (48, (.int .i64 bR)), (49, (.bool ((bw.length : Int) != bR))), (50, (.bool ((bw.length : Int) != bR))), (56, (.bool bY))]) ?_ ?_
  ·rcases cond_some bZ with ⟨b1, bZ⟩ | ⟨b1, bZ⟩
   ·refine l_not' f rfl rfl rfl b1 fun a f => ?_
    refine l_not' f rfl rfl rfl b1 fun a f => l_not' f rfl rfl rfl b1 fun a f => l_not' f rfl rfl rfl b1 fun a f => l_not' f rfl rfl rfl b1 fun a f => l_op f rfl rfl rfl (r_pickT (f.eval rfl) b1 (f.eval rfl)) fun a f => ?_
    obtain rfl := sj bZ
    exact ⟨_, (GLe.refl _), m, f.weak ⟨rfl, rfl, rfl, rfl, rfl, rfl, rfl, rfl, rfl, rfl, rfl, rfl, rfl, rfl, rfl, rfl, rfl, rfl, trivial⟩⟩
   ·refine l_run f rfl rfl b1 ?_
    refine l_mv f rfl rfl fun a f => l_run f rfl rfl b1 ?_
    refine l_own_len 0 m bQ rfl Tryd.underlying28 f rfl rfl fun a f => l_run f rfl rfl b1 ?_
    refine l_boxAgg 2 0 (ds := [bs]) m Ag32 f rfl rfl rfl rfl rfl fun a f => l_run f rfl rfl b1 ?_
    obtain ⟨b2, b3, bZ⟩ := bind_some bZ
    refine l_res f rfl rfl Tryd.call12 (Ow.lendCall (RSl.mono (RI.mono _)) 3 bu m rfl (fun b4 b5 m b6 => Wk.s m b6 b3) (fun _ _ _ _ h => h)) fun b7 b8 b9 w ca m cb a f => ?_
    obtain ⟨rfl, rfl⟩ := cb
    have h0 := rd1 ca h0
    have a3 := rd1 ca a3
    have a6 := rd1 ca a6
    have bk := rd2 ca bk
    have bQ := od1 ca bQ
    have bG := od1 ca bG
    have bu := Ow.mono (RSl.mono (RI.mono _)) ca bu
    have a0 := rd1 ca a0
    refine l_run f rfl rfl b1 ?_
    refine l_in f rfl rfl rfl b_neq fun a f => l_op f rfl rfl rfl (r_pickF (f.eval rfl) b1 (f.eval rfl)) fun a f => ?_
    obtain rfl := sj bZ
    exact ⟨_, ca, m, f.weak ⟨rfl, rfl, rfl, rfl, rfl, rfl, rfl, rfl, rfl, rfl, rfl, rfl, rfl, rfl, rfl, rfl, rfl, rfl, trivial⟩⟩
  ·rintro a w ⟨b0, cc, m, f⟩
   have h0 := rd1 cc h0
   have a3 := rd1 cc a3
   have a6 := rd1 cc a6
   have bk := rd2 cc bk
   have bQ := od1 cc bQ
   have bG := od1 cc bG
   have bu := Ow.mono (RSl.mono (RI.mono _)) cc bu
   have a0 := rd1 cc a0
   refine l_nil ?_
   rcases cond_some hd with ⟨cd, hd⟩ | ⟨cd, hd⟩
   ·refine k_true f rfl cd ?_
    refine k_seq (k_region ?_)
    refine l_as f rfl rfl fun a f => l_nil ?_
    refine k_ret ?_
    have m : Mem W b0 w H := Mem.drop (H' := [bP, bF, Itm.box bv 32 [bs], bt, Itm.box bh 32 [be], Itm.box aq 41 [aY, (.int .i64 aP.2.2.1), (.int .u64 aP.2.2.2)]]) m
    obtain rfl := sj hd
    exact ⟨[(.bool false)], ⟨f.get _ _ rfl, trivial⟩, f.defers, _, [], (GLe.trans af (GLe.trans an (GLe.trans az (GLe.trans aI (GLe.trans aU (GLe.trans a2 (GLe.trans a5 (GLe.trans bc (GLe.trans bj (GLe.trans bq (GLe.trans bC (GLe.trans bM (GLe.trans bW cc))))))))))))), m, rfl, rfl⟩
   ·refine k_false f rfl cd ?_
    refine k_skip ?_
    refine k_seq (k_seq (k_region ?_))
    refine l_as f rfl rfl fun a f => l_nil ?_
    obtain ⟨ce, cf, hd⟩ := bind_some hd
    refine k_cut (fun a w => ∃ q_609' : Unit, ce = .inl q_609' ∧ ∃ (cg : GH), GLe b0 cg ∧ Fr a 93 [] ∧ Mem W cg w (H)) ?_ ?_
    ·refine k_block ?_
     have m := m.front 1 rfl
     have m := m.front 4 rfl
     have m : Mem W b0 w (bt :: Itm.box bh 32 [be] :: bF :: bP :: Itm.box bv 32 [bs] :: Itm.box aq 41 [aY, (.int .i64 aP.2.2.1), (.int .u64 aP.2.2.2)] :: H) := m.front 4 rfl
     have m := m.front 3 rfl
     have m := m.front 3 rfl
     have m : Mem W b0 w (Itm.box bh 32 [be] :: bF :: bP :: bt :: Itm.box bv 32 [bs] :: Itm.box aq 41 [aY, (.int .i64 aP.2.2.1), (.int .u64 aP.2.2.2)] :: H) := m.front 3 rfl
     have m := m.eraseAt 5
     have m := m.eraseAt 4
     have m : Mem W b0 w (Itm.box bh 32 [be] :: bF :: bP :: H) := m.eraseAt 3
     have m := m.eraseAt 2
     refine k_loop (fun ch a w => ∃ ci : Int, ci = ch ∧ ∃ (cj : GH), GLe b0 cj ∧ Fr a 93 [(5, aK), (6, aW), (7, (.pointer (some ⟨bh, 0, none⟩))), (11, bE), (13, (.int .i64 ci))] ∧ Mem W cj w (Itm.box bh 32 [be] :: bF :: H)) cf ⟨_, rfl, _, (GLe.refl _), f.weak ⟨rfl, rfl, rfl, rfl, rfl, trivial⟩, m⟩ ?_
     clear cf f m
     rintro ch ck cl cm a w ⟨ci, rfl, cj, cn, f, m⟩
     have a3 := rd1 cn a3
     have a6 := rd1 cn a6
     have bk := rd2 cn bk
     have bG := od1 cn bG
     refine k_seq (k_seq (k_region ?_))
     refine l_mv f rfl rfl fun a f => l_mv f rfl rfl fun a f => l_own_len 1 m bG rfl Tryd.underlying28 f rfl rfl fun a f => l_in f rfl rfl rfl b_lss fun a f => l_nil ?_
     rcases cond_some cl with ⟨co, cl⟩ | ⟨co, cl⟩
     ·refine k_true f rfl co ?_
      refine k_skip ?_
      refine k_seq (k_block (k_seq (k_region ?_)))
      refine l_as f rfl rfl fun a f => l_nil ?_
      obtain ⟨cp, cq, cl⟩ := bind_some cl
      refine k_cut (fun a w => ∃ q_955' : Unit, cp = .inl q_955' ∧ ∃ (cr : GH), GLe cj cr ∧ Fr a 93 [(5, aK), (6, aW), (7, (.pointer (some ⟨bh, 0, none⟩))), (11, bE), (13, (.int .i64 ci))] ∧ Mem W cr w (Itm.box bh 32 [be] :: bF :: H)) ?_ ?_
      ·refine k_block ?_
       refine k_loop (fun ct a w => ∃ cu : Int, cu = ct ∧ ∃ (cv : GH), GLe cj cv ∧ Fr a 93 [(5, aK), (6, aW), (7, (.pointer (some ⟨bh, 0, none⟩))), (11, bE), (13, (.int .i64 ci)), (14, (.int .i64 cu))] ∧ Mem W cv w (Itm.box bh 32 [be] :: bF :: H)) cq ⟨_, rfl, _, (GLe.refl _), f.weak ⟨rfl, rfl, rfl, rfl, rfl, rfl, trivial⟩, m⟩ ?_
       clear cq f m
       rintro ct cw cx cy a w ⟨cu, rfl, cv, cz, f, m⟩
       have a3 := rd1 cz a3
       have a6 := rd1 cz a6
       have bk := rd2 cz bk
       have bG := od1 cz bG
       refine k_seq (k_seq (k_region ?_))
       refine l_mv f rfl rfl fun a f => l_mv f rfl rfl fun a f => l_in f rfl rfl rfl b_lss fun a f => l_nil ?_
       rcases cond_some cx with ⟨cA, cx⟩ | ⟨cA, cx⟩
       ·refine k_true f rfl cA ?_
        refine k_skip ?_
        refine k_seq (k_block (k_seq ?_))
        refine k_draw 25 Follows (by kernel_rfl) m ?_
        refine q_mv 0 25 rfl (by kernel_rfl) f rfl rfl rfl fun a f => q_mv 1 25 rfl (by kernel_rfl) f rfl rfl rfl fun a f => q_mv 2 25 rfl (by kernel_rfl) f rfl rfl rfl fun a f => q_mv 3 25 rfl (by kernel_rfl) f rfl rfl rfl fun a f => ?_
        obtain ⟨cB, cC, cx⟩ := bind_some cx
        refine q_own_at (i := 4) 25 1 m bG rfl T28 cC rfl (by kernel_rfl) rfl f rfl rfl rfl rfl fun cD a cE f => q_own_load (i := 5) 25 1 bG rfl Pl2 cE cC rfl (by kernel_rfl) rfl f rfl rfl rfl fun cF a cG f => ?_
        subst cG
        refine q_mv 6 25 rfl (by kernel_rfl) f rfl rfl rfl fun a f => q_mv 7 25 rfl (by kernel_rfl) f rfl rfl rfl fun a f => ?_
        obtain ⟨cH, cI, cx⟩ := bind_some cx
        refine q_own_at (i := 8) 25 1 m bG rfl T28 cI rfl (by kernel_rfl) rfl f rfl rfl rfl rfl fun cJ a cK f => q_own_load (i := 9) 25 1 bG rfl Pl2 cK cI rfl (by kernel_rfl) rfl f rfl rfl rfl fun cL a cM f => ?_
        subst cM
        obtain ⟨cN, cO, cx⟩ := bind_some cx
        refine q_call (i := 10) 25 rfl (by kernel_rfl) rfl f rfl rfl rfl Tryd.call13 (fun _ _ w cP m => Wk.s0 hW m (rd1 cP a3) (rd1 cP a6) cO) fun a f => q_p 11 25 rfl (by kernel_rfl) f rfl rfl rfl (fun _ => r_not (f.eval rfl)) fun a f => q_mv 12 25 rfl (by kernel_rfl) f rfl rfl rfl fun a f => ?_
        obtain ⟨cQ, cR, cx⟩ := bind_some cx
        refine q_cut (fuel' := 0) (listed' := #[true, true, true, true, true, true, true, true, true, true, true, true, true, true, true, true, true, true, true, true, true, true, true, true, true]) (fun a => Fr a 93 [(5, aK), (6, aW), (7, (.pointer (some ⟨bh, 0, none⟩))), (11, bE), (13, (.int .i64 ci)), (14, (.int .i64 cu)), (65, (.bool (decide (cu < ci)))), (68, aK), (69, aW), (70, bE), (71, (.int .i64 ci)), (72, cD), (73, (.int .i64 cB)), (74, bE), (75, (.int .i64 cu)), (76, cJ), (77, (.int .i64 cH)), (78, (.bool cN)), (79, (.bool (!cN))), (80, (.bool (!cN))), (92, (.bool cQ))]) ?_ ?_
        ·intro a f
         refine q_end fun cS w cT m => ?_
         have a3 := rd1 cT a3
         have a6 := rd1 cT a6
         have bk := rd2 cT bk
         have bG := od1 cT bG
         refine l_nil ?_
         rcases cond_some cx with ⟨cU, cx⟩ | ⟨cU, cx⟩
         ·refine k_true f rfl cU ?_
          refine k_seq (k_region ?_)
          refine l_as f rfl rfl fun a f => l_nil ?_
          refine k_ret ?_
          have m : Mem W cS w H := Mem.drop (H' := [Itm.box bh 32 [be], bF]) m
          obtain rfl := sj cx
          obtain rfl := cy _ rfl
          obtain rfl := sj cl
          obtain rfl := cm _ rfl
          obtain rfl := sj hd
          exact ⟨[(.bool false)], ⟨f.get _ _ rfl, trivial⟩, f.defers, _, [], (GLe.trans af (GLe.trans an (GLe.trans az (GLe.trans aI (GLe.trans aU (GLe.trans a2 (GLe.trans a5 (GLe.trans bc (GLe.trans bj (GLe.trans bq (GLe.trans bC (GLe.trans bM (GLe.trans bW (GLe.trans cc (GLe.trans cn (GLe.trans cz cT)))))))))))))))), m, rfl, rfl⟩
         ·refine k_false f rfl cU ?_
          refine k_skip ?_
          refine k_region ?_
          refine l_mv f rfl rfl fun a f => l_in f rfl rfl rfl b_add fun a f => l_as f rfl rfl fun a f => l_nil ?_
          obtain rfl := sj cx
          exact ⟨_, rfl, _, rfl, _, (GLe.trans cz cT), f.weak ⟨rfl, rfl, rfl, rfl, rfl, rfl, trivial⟩, m⟩
        ·intro cV
         rcases cond_some cR with ⟨cW, cR⟩ | ⟨cW, cR⟩
         ·refine q_ng 13 25 rfl (by kernel_rfl) f rfl rfl cW rfl fun a f => ?_
          refine q_ng 14 25 rfl (by kernel_rfl) f rfl rfl cW rfl fun a f => q_ng 15 25 rfl (by kernel_rfl) f rfl rfl cW rfl fun a f => q_ng 16 25 rfl (by kernel_rfl) f rfl rfl cW rfl fun a f => q_ng 17 25 rfl (by kernel_rfl) f rfl rfl cW rfl fun a f => q_ng 18 25 rfl (by kernel_rfl) f rfl rfl cW rfl fun a f => q_ng 19 25 rfl (by kernel_rfl) f rfl rfl cW rfl fun a f => q_ng 20 25 rfl (by kernel_rfl) f rfl rfl cW rfl fun a f => q_ng 21 25 rfl (by kernel_rfl) f rfl rfl cW rfl fun a f => q_ng 22 25 rfl (by kernel_rfl) f rfl rfl cW rfl fun a f => q_ng 23 25 rfl (by kernel_rfl) f rfl rfl cW rfl fun a f => q_p 24 25 rfl (by kernel_rfl) f rfl rfl rfl (fun _ => r_pickT (f.eval rfl) cW (f.eval rfl)) fun a f => ?_
          obtain rfl := sj cR
          exact cV _ (f.weak ⟨rfl, rfl, rfl, rfl, rfl, rfl, rfl, rfl, rfl, rfl, rfl, rfl, rfl, rfl, rfl, rfl, rfl, rfl, rfl, rfl, rfl, trivial⟩)
         ·refine q_boxAgg (i := 13) (ds := [be]) 25 0 Ag32 rfl rfl rfl rfl (by kernel_rfl) rfl f (wanted_of f rfl rfl rfl cW) rfl rfl fun a f => ?_
          refine q_mv 14 25 rfl (by kernel_rfl) f (wanted_of f rfl rfl rfl cW) rfl rfl fun a f => q_mv 15 25 rfl (by kernel_rfl) f (wanted_of f rfl rfl rfl cW) rfl rfl fun a f => ?_
          obtain ⟨cX, cY, cR⟩ := bind_some cR
          refine q_own_at (i := 16) 25 1 m bG rfl T28 cY rfl (by kernel_rfl) rfl f (wanted_of f rfl rfl rfl cW) rfl rfl rfl fun cZ a c0 f => q_own_load (i := 17) 25 1 bG rfl Pl2 c0 cY rfl (by kernel_rfl) rfl f (wanted_of f rfl rfl rfl cW) rfl rfl fun c1 a c2 f => ?_
          subst c2
          refine q_mv 18 25 rfl (by kernel_rfl) f (wanted_of f rfl rfl rfl cW) rfl rfl fun a f => q_mv 19 25 rfl (by kernel_rfl) f (wanted_of f rfl rfl rfl cW) rfl rfl fun a f => ?_
          obtain ⟨c3, c4, cR⟩ := bind_some cR
          refine q_own_at (i := 20) 25 1 m bG rfl T28 c4 rfl (by kernel_rfl) rfl f (wanted_of f rfl rfl rfl cW) rfl rfl rfl fun c5 a c6 f => q_own_load (i := 21) 25 1 bG rfl Pl2 c6 c4 rfl (by kernel_rfl) rfl f (wanted_of f rfl rfl rfl cW) rfl rfl fun c7 a c8 f => ?_
          subst c8
          obtain ⟨c9, da, cR⟩ := bind_some cR
          refine q_call (i := 22) 25 rfl (by kernel_rfl) rfl f (wanted_of f rfl rfl rfl cW) rfl rfl Tryd.call14 (fun _ _ w db m => Wk.p0 m (rd2 db bk) da) fun a f => q_p 23 25 rfl (by kernel_rfl) f (wanted_of f rfl rfl rfl cW) rfl rfl (fun _ => r_not (f.eval rfl)) fun a f => q_p 24 25 rfl (by kernel_rfl) f rfl rfl rfl (fun _ => r_pickF (f.eval rfl) cW (f.eval rfl)) fun a f => ?_
          obtain rfl := sj cR
          exact cV _ (f.weak ⟨rfl, rfl, rfl, rfl, rfl, rfl, rfl, rfl, rfl, rfl, rfl, rfl, rfl, rfl, rfl, rfl, rfl, rfl, rfl, rfl, rfl, trivial⟩)
       ·refine k_false f rfl cA ?_
        refine k_exit rfl ?_
        obtain rfl := sj cx
        obtain rfl := cy _ rfl
        exact ⟨_, rfl, _, cz, f.weak ⟨rfl, rfl, rfl, rfl, rfl, trivial⟩, m⟩
      ·rintro a w ⟨_, rfl, cr, dc, f, m⟩
       have a3 := rd1 dc a3
       have a6 := rd1 dc a6
       have bk := rd2 dc bk
       have bG := od1 dc bG
       refine k_region ?_
       refine l_mv f rfl rfl fun a f => l_in f rfl rfl rfl b_add fun a f => l_as f rfl rfl fun a f => l_nil ?_
       obtain rfl := sj cl
       exact ⟨_, rfl, _, rfl, _, (GLe.trans cn dc), f.weak ⟨rfl, rfl, rfl, rfl, rfl, trivial⟩, m⟩
     ·refine k_false f rfl co ?_
      refine k_exit rfl ?_
      have m : Mem W cj w H := Mem.drop (H' := [Itm.box bh 32 [be], bF]) m
      obtain rfl := sj cl
      obtain rfl := cm _ rfl
      exact ⟨_, rfl, _, cn, f.weak trivial, m⟩
    ·rintro a w ⟨_, rfl, cg, dd, f, m⟩
     refine k_seq (k_region ?_)
     refine l_as f rfl rfl fun a f => l_nil ?_
     refine k_ret ?_
     obtain rfl := sj hd
     exact ⟨[(.bool true)], ⟨f.get _ _ rfl, trivial⟩, f.defers, _, [], (GLe.trans af (GLe.trans an (GLe.trans az (GLe.trans aI (GLe.trans aU (GLe.trans a2 (GLe.trans a5 (GLe.trans bc (GLe.trans bj (GLe.trans bq (GLe.trans bC (GLe.trans bM (GLe.trans bW (GLe.trans cc dd)))))))))))))), m, rfl, rfl⟩

end Go.Proofs.YtebbefpdncgoiaaDoor

/- Sets of vertices as numbers: what the bit operations do to membership. Plain facts. -/
namespace Go.Sx
theorem wrap32 (n : Int) : IntKind.u32.wrap n = n % 4294967296 := by simp [IntKind.wrap, IntKind.signed, IntKind.bits]

/-- a word of 32 bits -/
def VS (s : Int) : Prop := 0 ≤ s ∧ s < 4294967296
/-- is a vertex in a set -/
def has (s : Int) (v : Nat) : Bool := s.toNat.testBit v

theorem VS.nat {s : Int} (h : VS s) : ∃ n : Nat, s = n ∧ n < 4294967296 := ⟨s.toNat, by have := h.1; omega, by have := h.1; have := h.2; omega⟩
theorem VS.zero : VS 0 := ⟨by omega, by omega⟩
theorem VS.wrap (n : Int) : VS (IntKind.u32.wrap n) := by rw [wrap32]; exact ⟨by omega, by omega⟩
theorem VS.ofNat {n : Nat} (h : n < 4294967296) : VS (n : Int) := ⟨by omega, by omega⟩
theorem has_nat (n v : Nat) : has (n : Int) v = n.testBit v := by simp [has]
theorem has_zero (v : Nat) : has 0 v = false := by simp [has]

theorem ofInt_nat (n : Nat) (h : n < 4294967296) : (BitVec.ofInt 32 (n : Int)).toNat = n := by
  rw [BitVec.toNat_ofInt]
  omega

theorem ior_nat {a b : Nat} (ha : a < 4294967296) (hb : b < 4294967296) : ior .u32 (a : Int) (b : Int) = ((a ||| b : Nat) : Int) := by
  have hw : a ||| b < 4294967296 := Nat.or_lt_two_pow (n := 32) ha hb
  show IntKind.u32.wrap (((BitVec.ofInt 32 (a : Int) ||| BitVec.ofInt 32 (b : Int)).toNat : Nat) : Int) = _
  rw [BitVec.toNat_or, ofInt_nat a ha, ofInt_nat b hb, wrap32]; omega
theorem iand_nat {a b : Nat} (ha : a < 4294967296) (hb : b < 4294967296) : iand .u32 (a : Int) (b : Int) = ((a &&& b : Nat) : Int) := by
  have hw : a &&& b < 4294967296 := Nat.and_lt_two_pow (n := 32) _ hb
  show IntKind.u32.wrap (((BitVec.ofInt 32 (a : Int) &&& BitVec.ofInt 32 (b : Int)).toNat : Nat) : Int) = _
  rw [BitVec.toNat_and, ofInt_nat a ha, ofInt_nat b hb, wrap32]; omega
theorem VS.ior (a b : Int) : VS (ior .u32 a b) := VS.wrap _
theorem VS.iand (a b : Int) : VS (iand .u32 a b) := VS.wrap _
theorem VS.iandNot (a b : Int) : VS (iandNot .u32 a b) := VS.wrap _
theorem VS.ishl (a b : Int) : VS (ishl .u32 a b) := VS.wrap _

theorem has_ior {a b : Int} (ha : VS a) (hb : VS b) (v : Nat) : has (ior .u32 a b) v = (has a v || has b v) := by
  obtain ⟨m, rfl, hm⟩ := ha.nat; obtain ⟨n, rfl, hn⟩ := hb.nat
  rw [ior_nat hm hn]; simp only [has_nat, Nat.testBit_or]
theorem has_iand {a b : Int} (ha : VS a) (hb : VS b) (v : Nat) : has (iand .u32 a b) v = (has a v && has b v) := by
  obtain ⟨m, rfl, hm⟩ := ha.nat; obtain ⟨n, rfl, hn⟩ := hb.nat
  rw [iand_nat hm hn]; simp only [has_nat, Nat.testBit_and]
theorem has_iandNot {a b : Int} (ha : VS a) (hb : VS b) (v : Nat) : has (iandNot .u32 a b) v = (has a v && !has b v) := by
  obtain ⟨m, rfl, hm⟩ := ha.nat; obtain ⟨n, rfl, hn⟩ := hb.nat
  have e : iandNot .u32 (m : Int) (n : Int) = (((BitVec.ofInt 32 (m : Int) &&& ~~~(BitVec.ofInt 32 (n : Int))).toNat : Nat) : Int) := by
    have hw := (BitVec.ofInt 32 (m : Int) &&& ~~~(BitVec.ofInt 32 (n : Int))).isLt
    show IntKind.u32.wrap (((BitVec.ofInt 32 (m : Int) &&& ~~~(BitVec.ofInt 32 (n : Int))).toNat : Nat) : Int) = _
    rw [wrap32]; omega
  rw [e, has_nat, has_nat, has_nat]
  have h1 : ∀ i, (BitVec.ofInt 32 (m : Int)).getLsbD i = m.testBit i := fun i => by rw [BitVec.getLsbD, ofInt_nat m hm]
  have h2 : ∀ i, (BitVec.ofInt 32 (n : Int)).getLsbD i = n.testBit i := fun i => by rw [BitVec.getLsbD, ofInt_nat n hn]
  rw [← BitVec.getLsbD, BitVec.getLsbD_and, BitVec.getLsbD_not, h1, h2]
  by_cases hv : v < 32
  · simp [hv]
  · have : m.testBit v = false := Nat.testBit_lt_two_pow (Nat.lt_of_lt_of_le hm (Nat.pow_le_pow_right (n := 2) (by omega) (show 32 ≤ v by omega)))
    simp [this]
theorem has_big {a : Int} (ha : VS a) {v : Nat} (hv : 32 ≤ v) : has a v = false := by
  obtain ⟨m, rfl, hm⟩ := ha.nat
  rw [has_nat]
  exact Nat.testBit_lt_two_pow (Nat.lt_of_lt_of_le hm (Nat.pow_le_pow_right (n := 2) (by omega) hv))
theorem VS.ext {a b : Int} (ha : VS a) (hb : VS b) (h : ∀ v, v < 32 → has a v = has b v) : a = b := by
  have : ∀ v, has a v = has b v := fun v => by
    by_cases hv : v < 32
    · exact h v hv
    · rw [has_big ha (by omega), has_big hb (by omega)]
  obtain ⟨m, rfl, hm⟩ := ha.nat; obtain ⟨n, rfl, hn⟩ := hb.nat
  congr 1
  apply Nat.eq_of_testBit_eq
  intro v
  have := this v
  rwa [has_nat, has_nat] at this
theorem VS.eq_zero {a : Int} (ha : VS a) : a = 0 ↔ ∀ v, v < 32 → has a v = false :=
  ⟨fun h v _ => by rw [h, has_zero], fun h => ha.ext VS.zero (fun v hv => by rw [h v hv, has_zero])⟩

/-- the set of one vertex -/
theorem one_eq {v : Nat} (hv : v < 32) : ishl .u32 1 (v : Int) = ((2 ^ v : Nat) : Int) := by
  have h : (2 : Nat) ^ v < 2 ^ 32 := Nat.pow_lt_pow_right (by omega) hv
  have h' : (2 : Nat) ^ 32 = 4294967296 := by decide
  rw [h'] at h
  show IntKind.u32.wrap (1 * 2 ^ (min ((v : Int)).toNat 32)) = _
  rw [wrap32, show min ((v : Int)).toNat 32 = v by simp; omega, Int.one_mul]
  have e : ((2 ^ v : Nat) : Int) = (2 : Int) ^ v := by simp
  rw [← e]
  generalize 2 ^ v = p at h ⊢
  omega
theorem has_one {v : Nat} (hv : v < 32) (u : Nat) : has (ishl .u32 1 (v : Int)) u = decide (u = v) := by
  rw [one_eq hv, has_nat, Nat.testBit_two_pow]
  simp [eq_comm]
/-- the numbers in a set, rising -/
def elems (s : Int) : List Int := ((List.range 32).filter (has s)).map Int.ofNat
theorem mem_elems {s : Int} {x : Int} : x ∈ elems s ↔ ∃ v : Nat, v < 32 ∧ has s v = true ∧ x = v := by
  unfold elems
  rw [List.mem_map]
  constructor
  · rintro ⟨v, hv, rfl⟩
    rw [List.mem_filter, List.mem_range] at hv
    exact ⟨v, hv.1, hv.2, rfl⟩
  · rintro ⟨v, h1, h2, rfl⟩
    exact ⟨v, List.mem_filter.2 ⟨List.mem_range.2 h1, h2⟩, rfl⟩
theorem mem_elems_nat {s : Int} (h : VS s) {v : Nat} : (v : Int) ∈ elems s ↔ has s v = true := by
  rw [mem_elems]
  constructor
  · rintro ⟨u, _, h2, h3⟩; obtain rfl : v = u := by omega
    exact h2
  · intro h2
    refine ⟨v, ?_, h2, rfl⟩
    by_cases hv : v < 32
    · exact hv
    · rw [has_big h (by omega)] at h2; cases h2
theorem elems_len (s : Int) : (elems s).length ≤ 32 := by
  unfold elems
  rw [List.length_map]
  exact Nat.le_trans (List.length_filter_le _ _) (by simp)

/-- rising lists -/
def Inc (l : List Int) : Prop := l.Pairwise (· < ·)
theorem elems_inc (s : Int) : Inc (elems s) := by
  unfold elems Inc
  rw [List.pairwise_map]
  refine List.Pairwise.filter _ ?_
  refine List.Pairwise.imp ?_ (List.pairwise_lt_range (n := 32))
  intro a b h
  show (a : Int) < (b : Int)
  omega
theorem Inc.ext : ∀ {l l' : List Int}, Inc l → Inc l' → (∀ x, x ∈ l ↔ x ∈ l') → l = l'
  | [], [], _, _, _ => rfl
  | [], y :: l', _, _, h => by have := (h y).2 (by simp); simp at this
  | x :: l, [], _, _, h => by have := (h x).1 (by simp); simp at this
  | x :: l, y :: l', h1, h2, h => by
    have h1' := List.pairwise_cons.1 h1; have h2' := List.pairwise_cons.1 h2
    have e : x = y := by
      rcases List.mem_cons.1 ((h x).1 (by simp)) with e | e
      · exact e
      · rcases List.mem_cons.1 ((h y).2 (by simp)) with e' | e'
        · exact e'.symm
        · have := h2'.1 x e; have := h1'.1 y e'; omega
    subst e
    have : l = l' := by
      refine Inc.ext h1'.2 h2'.2 (fun z => ?_)
      constructor
      · intro hz
        rcases List.mem_cons.1 ((h z).1 (List.mem_cons_of_mem _ hz)) with e | e
        · have := h1'.1 z hz; omega
        · exact e
      · intro hz
        rcases List.mem_cons.1 ((h z).2 (List.mem_cons_of_mem _ hz)) with e | e
        · have := h2'.1 z hz; omega
        · exact e
    rw [this]

/-- the least of a set, and what is left -/
theorem least_spec {s : Int} (h : VS s) (h0 : s ≠ 0) : ∃ k : Nat, k < 32 ∧ has s k = true ∧ (∀ v, v < k → has s v = false) ∧
    iand .u32 s (IntKind.u32.wrap (0 - s)) = ((2 ^ k : Nat) : Int) ∧ (∀ v, has (iand .u32 s (IntKind.u32.wrap (s - 1))) v = (has s v && !decide (v = k))) := by
  obtain ⟨m, rfl, hm⟩ := h.nat
  have hm0 : m ≠ 0 := by omega
  obtain ⟨q, hq, hk⟩ := Lib.ctzFrom_spec 32 m (by omega) hm
  have hc : Lib.ctz 32 m = Lib.ctzFrom 32 m := by unfold Lib.ctz; rw [if_neg hm0]
  obtain ⟨hl, _⟩ := Lib.lowest_bit 32 m hm0 hm
  rw [hc] at hl
  generalize Lib.ctzFrom 32 m = k at *
  have hpos : 0 < 2 ^ k := Nat.pow_pos (by omega)
  have hb : ∀ v, m.testBit v = (decide (v ≥ k) && (2 * q + 1).testBit (v - k)) := fun v => by rw [hq, Nat.mul_comm, Nat.testBit_mul_two_pow, Bool.and_comm]
  refine ⟨k, hk, ?_, fun v hv => ?_, ?_, fun v => ?_⟩
  · rw [has_nat, hb]; simp
  · rw [has_nat, hb]; simp; intro hc; omega
  · have e : IntKind.u32.wrap (0 - (m : Int)) = ((4294967296 - m : Nat) : Int) := by rw [wrap32]; omega
    rw [e, iand_nat hm (by omega)]
    rw [← hl]
  · have e : IntKind.u32.wrap ((m : Int) - 1) = ((m - 1 : Nat) : Int) := by rw [wrap32]; omega
    rw [e, iand_nat hm (by omega), has_nat, has_nat, Nat.testBit_and]
    have hm1 : m - 1 = 2 ^ k * (2 * q) + (2 ^ k - 1) := by rw [hq, Nat.mul_add]; omega
    have hb1 : (m - 1).testBit v = if v < k then true else (2 * q).testBit (v - k) := by
      rw [hm1, Nat.testBit_two_pow_mul_add _ (by omega)]
      split
      · rename_i hv; rw [Nat.testBit_two_pow_sub_one]; simp [hv]
      · rfl
    rw [hb1, hb]
    by_cases hv : v < k
    · simp [hv]; intro hc; omega
    · rw [if_neg hv]
      by_cases hvk : v = k
      · subst hvk; simp
      · obtain ⟨t, ht⟩ : ∃ t, v - k = t + 1 := ⟨v - k - 1, by omega⟩
        rw [ht, Nat.testBit_succ, Nat.testBit_succ]
        have e1 : (2 * q + 1) / 2 = q := by omega
        have e2 : 2 * q / 2 = q := by omega
        rw [e1, e2]
        simp [hvk]

theorem elems_least {s t : Int} {k : Nat} (hk : k < 32) (h1 : has s k = true) (h2 : ∀ v, v < k → has s v = false) (h3 : ∀ v, has t v = (has s v && !decide (v = k))) :
    elems s = (k : Int) :: elems t := by
  refine Inc.ext (elems_inc s) ?_ (fun x => ?_)
  · refine List.pairwise_cons.2 ⟨fun x hx => ?_, elems_inc t⟩
    obtain ⟨v, hv, h4, rfl⟩ := mem_elems.1 hx
    rw [h3] at h4
    simp at h4
    by_cases hc : v < k
    · rw [h2 v hc] at h4; simp at h4
    · omega
  · rw [List.mem_cons, mem_elems, mem_elems]
    constructor
    · rintro ⟨v, hv, h4, rfl⟩
      by_cases e : v = k
      · left; omega
      · right; exact ⟨v, hv, by rw [h3, h4]; simp [e], rfl⟩
    · rintro (rfl | ⟨v, hv, h4, rfl⟩)
      · exact ⟨k, hk, h1, rfl⟩
      · rw [h3] at h4; simp at h4
        exact ⟨v, hv, h4.1, rfl⟩
theorem elems_zero : elems 0 = [] := by
  unfold elems
  rw [List.filter_eq_nil_iff.2 (fun v _ => by simp [has_zero])]; rfl

theorem tz_table : ∀ k : Nat, k < 32 → idx tab32 (ishr .u32 (IntKind.u32.wrap (((2 ^ k : Nat) : Int) * 125613361)) 27) = some (k : Int) := by decide +kernel
end Go.Sx

namespace Go.Sx
/-- from a0 to b0 all pairs are in order, but for those from a to b -/
def Out (l : List Int) (a0 b0 a b : Int) : Prop := ∀ i j, a0 ≤ i → i < j → j < b0 → ¬ (a ≤ i ∧ j < b) → at' l i ≤ at' l j

theorem Out.keep {a0 a b b0 : Int} {l l' : List Int} (h : Rg a b l l') (h0 : 0 ≤ a0) (ha : a0 ≤ a) (hb : b ≤ b0) (c : Out l a0 b0 a b) : Out l' a0 b0 a b := by
  intro i j h1 h2 h3 h4
  by_cases hi : a ≤ i ∧ i < b
  · rw [h.out j (by omega) (by omega)]
    exact h.all (fun x => x ≤ at' l j) (fun k k1 k2 => c k j (by omega) (by omega) h3 (by omega)) i hi.1 hi.2
  · rw [h.out i (by omega) (by omega)]
    by_cases hj : a ≤ j ∧ j < b
    · exact h.all (fun x => at' l i ≤ x) (fun k k1 k2 => c i k (by omega) (by omega) (by omega) (by omega)) j hj.1 hj.2
    · rw [h.out j (by omega) (by omega)]; exact c i j h1 h2 h3 h4

theorem pdqsort_spec : ∀ (n : Nat) (l0 : List Int) (a0 b0 lim : Int), 0 ≤ a0 → a0 ≤ b0 → b0 ≤ l0.length → l0.length ≤ 1000000 → b0 - a0 ≤ 16 → b0 - a0 ≤ 12 + lim → 0 ≤ lim → lim ≤ 64 →
    (0 < a0 → ∀ k, a0 ≤ k → k < b0 → at' l0 (a0 - 1) ≤ at' l0 k) → b0 - a0 < n → ∃ l', D.x n l0 a0 b0 lim = some l' ∧ Rg a0 b0 l0 l' ∧ Srt l' a0 b0 := by
  intro n
  induction n with
  | zero => intro l0 a0 b0 lim h1 h2 h3 h4 h5 h6 h7 h8 h9 h10; omega
  | succ n ih =>
    intro l0 a0 b0 lim h1 h2 h3 h4 h5 h6 h7 h8 h9 h10
    unfold D.x
    refine loop_then (fun s => Rg a0 b0 l0 s.1 ∧ Out s.1 a0 b0 s.2.1 s.2.2.1 ∧ a0 ≤ s.2.1 ∧ s.2.1 ≤ s.2.2.1 ∧ s.2.2.1 ≤ b0 ∧ s.2.2.1 - s.2.1 ≤ 12 + s.2.2.2.1 ∧ 0 ≤ s.2.2.2.1 ∧ s.2.2.2.1 ≤ 64 ∧ (0 < s.2.1 → ∀ k, s.2.1 ≤ k → k < s.2.2.1 → at' s.1 (s.2.1 - 1) ≤ at' s.1 k))
      (fun s => (s.2.2.1 - s.2.1).toNat) (fun r => Rg a0 b0 l0 r ∧ Srt r a0 b0) ?_ ?_ ?_
    · rintro ⟨l, a, b, lm, bal, par⟩ ⟨hR, hO, g1, g2, g3, g4, g5, g6, g7⟩
      dsimp only at hR hO g1 g2 g3 g4 g5 g6 g7 ⊢
      have hll := hR.len
      have fin : ∀ l', Rg a b l l' → Srt l' a b → Rg a0 b0 l0 l' ∧ Srt l' a0 b0 := fun l' hr hs =>
        ⟨hR.trans (hr.widen g1 g3 h1), fun i j k1 k2 k3 => by
          by_cases hc : a ≤ i ∧ j < b
          · exact hs i j hc.1 k2 hc.2
          · exact (hO.keep hr h1 g1 g3) i j k1 k2 k3 hc⟩
      rw [w64 (show -9223372036854775808 ≤ b - a by omega) (by omega)]
      by_cases hs : b - a ≤ 12
      · obtain ⟨l', e, r1, r2⟩ := insertionSort_spec l a b (by omega) g2 (by omega) (by omega)
        refine ⟨.inr l', ?_, fin l' r1 r2⟩
        simp only [hs, decide_true, cond_true, e, Option.bind_some]
      · have hl0 : (lm == 0) = false := by simp; omega
        simp only [hs, decide_false, cond_false, hl0]
        refine bind_then (fun q : List Int × Int => Rg a b l q.1 ∧ b - a ≤ 13 + q.2 ∧ 0 ≤ q.2 ∧ q.2 ≤ 64) ?_ ?_
        · cases bal
          · obtain ⟨l1, e, r1⟩ := breakPatterns_spec l a b (by omega) (by omega) (by omega) (by omega) (by omega)
            refine ⟨(l1, lm - 1), ?_, r1, by dsimp only; omega, by dsimp only; omega, by dsimp only; omega⟩
            simp only [Bool.not_false, cond_true, e, Option.bind_some]
            rw [w64 (by omega) (by omega)]
          · exact ⟨(l, lm), rfl, Rg.refl _ _ _, by dsimp only; omega, by dsimp only; omega, by dsimp only; omega⟩
        rintro ⟨l1, lm1⟩ ⟨hr1, k1, k2, k3⟩
        dsimp only at hr1 k1 k2 k3 ⊢
        have hl1 := hr1.len
        obtain ⟨y, ey, c1, c2, c3⟩ := choosePivot_spec l1 a b (by omega) (by omega) (by omega) (by omega) (by omega)
        rw [ey, Option.bind_some]
        refine bind_then (fun q : List Int × Int × Int => Rg a b l q.1 ∧ a ≤ q.2.1 ∧ q.2.1 < b) ?_ ?_
        · cases (y.2.1 == 2)
          · exact ⟨_, rfl, by dsimp only; rw [c1]; exact hr1, c2, c3⟩
          · obtain ⟨l2, e2, r2⟩ := reverseRange_spec l1 a b (by omega) (by omega) (by omega) (by omega)
            rw [c1]
            simp only [cond_true, e2, Option.bind_some]
            rw [w64 (show -9223372036854775808 ≤ b - 1 by omega) (by omega), w64 (show -9223372036854775808 ≤ y.1 - a by omega) (by omega), w64 (show -9223372036854775808 ≤ b - 1 - (y.1 - a) by omega) (by omega)]
            exact ⟨_, rfl, hr1.trans r2, by dsimp only; omega, by dsimp only; omega⟩
        rintro ⟨l2, p, hint⟩ ⟨hr2, p1, p2⟩
        dsimp only at hr2 p1 p2 ⊢
        have hl2 := hr2.len
        refine bind_then (fun q : List Int ⊕ List Int => match q with | .inl q => q = l2 | .inr q => q = l2 ∧ Srt l2 a b) ?_ ?_
        · cases ((bal && par) && (hint == 1))
          · exact ⟨.inl l2, rfl, rfl⟩
          · obtain ⟨y2, e2, d1, d2⟩ := partialInsertion_spec l2 a b (by omega) (by omega) (by omega) (by omega) (by omega)
            simp only [cond_true, e2, Option.bind_some, d1]
            cases hy : y2.1
            · exact ⟨.inl l2, rfl, rfl⟩
            · exact ⟨.inr l2, rfl, rfl, d2 hy⟩
        rintro (q | q) hq
        case inr =>
          obtain ⟨rfl, hq⟩ := hq
          exact ⟨.inr q, rfl, fin q hr2 hq⟩
        dsimp only at hq ⊢
        subst hq
        have hO2 := hO.keep hr2 h1 g1 g3
        have g7' : 0 < a → ∀ k, a ≤ k → k < b → at' q (a - 1) ≤ at' q k := fun ha k m1 m2 => by
          rw [hr2.out (a - 1) (by omega) (.inl (by omega))]
          exact hr2.all (fun x => at' l (a - 1) ≤ x) (g7 ha) k m1 m2
        refine bind_then (fun c : Bool => c = true → 0 < a ∧ at' q p ≤ at' q (a - 1)) ?_ ?_
        · by_cases ha : 0 < a
          · have r1 : idx q (a - 1) = some (at' q (a - 1)) := idx_at (by omega) (by omega)
            have r2 : idx q p = some (at' q p) := idx_at (by omega) (by omega)
            rw [w64 (show -9223372036854775808 ≤ a - 1 by omega) (by omega)]
            simp only [ha, decide_true, cond_true, r1, r2, less_eq, Option.bind_some]
            exact ⟨_, rfl, fun h => ⟨by trivial, by simpa using h⟩⟩
          · simp only [ha, decide_false, cond_false]
            exact ⟨_, rfl, fun h => by cases h⟩
        intro c hc
        cases c
        · -- the pivot parts
          simp only [cond_false]
          obtain ⟨⟨mid, par', l3⟩, e3, P⟩ := partition_spec q a b p (by omega) (by omega) (by omega) p1 p2
          rw [e3, Option.bind_some]
          obtain ⟨hr3, m1, m2, m3, m4⟩ := P
          dsimp only at hr3 m1 m2 m3 m4 ⊢
          have hl3 := hr3.len
          have hO3 := hO2.keep hr3 h1 g1 g3
          have g7'' : 0 < a → ∀ k, a ≤ k → k < b → at' l3 (a - 1) ≤ at' l3 k := fun ha k n1 n2 => by
            rw [hr3.out (a - 1) (by omega) (.inl (by omega))]
            exact hr3.all (fun x => at' q (a - 1) ≤ x) (g7' ha) k n1 n2
          have hR3 : Rg a0 b0 l0 l3 := hR.trans ((hr2.trans hr3).widen g1 g3 h1)
          rw [w64 (show -9223372036854775808 ≤ mid - a by omega) (by omega), w64 (show -9223372036854775808 ≤ b - mid by omega) (by omega), w64 (show -9223372036854775808 ≤ mid + 1 by omega) (by omega)]
          by_cases hside : mid - a < b - mid
          · simp only [hside, decide_true, cond_true]
            obtain ⟨l4, e4, r4, s4⟩ := ih l3 a mid lm1 (by omega) m1 (by omega) (by omega) (by omega) (by omega) k2 k3 (fun ha k n1 n2 => g7'' ha k n1 (by omega)) (by omega)
            rw [e4, Option.bind_some]
            have hl4 := r4.len
            have em : ∀ k, mid ≤ k → at' l4 k = at' l3 k := fun k hk => r4.out k (by omega) (.inr hk)
            have lf : ∀ k, a ≤ k → k < mid → at' l4 k ≤ at' l4 mid := fun k n1 n2 => by
              rw [em mid (Int.le_refl _)]; exact r4.all (fun x => x ≤ at' l3 mid) m3 k n1 n2
            refine ⟨.inl _, rfl, ⟨hR3.trans (r4.widen g1 (by omega) h1), ?_, by dsimp only; omega, by dsimp only; omega, g3, by dsimp only; omega, k2, k3, ?_⟩, by dsimp only; omega⟩
            · have hO4 := hO3.keep (r4.widen (Int.le_refl a) (by omega) (by omega)) h1 g1 g3
              intro i j n1 n2 n3 n4
              dsimp only at n4 ⊢
              by_cases hin : a ≤ i ∧ j < b
              · by_cases hj : j < mid
                · exact s4 i j hin.1 n2 hj
                · have hi : i ≤ mid := by omega
                  have e1 : at' l4 i ≤ at' l4 mid := by
                    by_cases e : i = mid
                    · rw [e]; exact Int.le_refl _
                    · exact lf i hin.1 (by omega)
                  have e2 : at' l4 mid ≤ at' l4 j := by
                    by_cases e : j = mid
                    · rw [e]; exact Int.le_refl _
                    · rw [em mid (Int.le_refl _), em j (by omega)]; exact m4 j (by omega) hin.2
                  omega
              · exact hO4 i j n1 n2 n3 hin
            · intro _ k n1 n2
              dsimp only at n1 n2 ⊢
              rw [show mid + 1 - 1 = mid by omega, em mid (Int.le_refl _), em k (by omega)]
              exact m4 k (by omega) n2
          · simp only [hside, decide_false, cond_false]
            obtain ⟨l4, e4, r4, s4⟩ := ih l3 (mid + 1) b lm1 (by omega) (by omega) (by omega) (by omega) (by omega) (by omega) k2 k3 (fun _ k n1 n2 => by rw [show mid + 1 - 1 = mid by omega]; exact m4 k (by omega) n2) (by omega)
            rw [e4, Option.bind_some]
            have hl4 := r4.len
            have em : ∀ k, 0 ≤ k → k ≤ mid → at' l4 k = at' l3 k := fun k h0 hk => r4.out k h0 (.inl (by omega))
            have rt : ∀ k, mid < k → k < b → at' l4 mid ≤ at' l4 k := fun k n1 n2 => by
              rw [em mid (by omega) (Int.le_refl _)]; exact r4.all (fun x => at' l3 mid ≤ x) (fun k q1 q2 => m4 k (by omega) q2) k (by omega) n2
            refine ⟨.inl _, rfl, ⟨hR3.trans (r4.widen (by omega) g3 h1), ?_, g1, m1, by dsimp only; omega, by dsimp only; omega, k2, k3, ?_⟩, by dsimp only; omega⟩
            · have hO4 := hO3.keep (r4.widen (by omega) (Int.le_refl b) (by omega)) h1 g1 g3
              intro i j n1 n2 n3 n4
              dsimp only at n4 ⊢
              by_cases hin : a ≤ i ∧ j < b
              · by_cases hi : mid < i
                · exact s4 i j (by omega) n2 hin.2
                · have hj : mid ≤ j := by omega
                  have e1 : at' l4 i ≤ at' l4 mid := by
                    by_cases e : i = mid
                    · rw [e]; exact Int.le_refl _
                    · rw [em i (by omega) (by omega), em mid (by omega) (Int.le_refl _)]; exact m3 i hin.1 (by omega)
                  have e2 : at' l4 mid ≤ at' l4 j := by
                    by_cases e : j = mid
                    · rw [e]; exact Int.le_refl _
                    · exact rt j (by omega) hin.2
                  omega
              · exact hO4 i j n1 n2 n3 hin
            · intro ha k n1 n2
              dsimp only at ha n1 n2 ⊢
              rw [em (a - 1) (by omega) (by omega), em k (by omega) (by omega)]
              exact g7'' ha k n1 (by omega)
        · -- many are equal to the pivot
          simp only [cond_true]
          obtain ⟨hc1, hc2⟩ := hc rfl
          obtain ⟨⟨mid, l3⟩, e3, hr3, m1, m2, m3, m4⟩ := partitionEqual_spec q a b p (by omega) (by omega) (by omega) p1 p2
          rw [e3, Option.bind_some]
          dsimp only at hr3 m1 m2 m3 m4 ⊢
          have hl3 := hr3.len
          have hO3 := hO2.keep hr3 h1 g1 g3
          have lw : ∀ k, a ≤ k → k < b → at' q p ≤ at' l3 k := fun k n1 n2 =>
            hr3.all (fun x => at' q p ≤ x) (fun k q1 q2 => Int.le_trans hc2 (g7' hc1 k q1 q2)) k n1 n2
          refine ⟨.inl _, rfl, ⟨hR.trans ((hr2.trans hr3).widen g1 g3 h1), ?_, by dsimp only; omega, m2, g3, by dsimp only; omega, k2, k3, ?_⟩, by dsimp only; omega⟩
          · intro i j n1 n2 n3 n4
            dsimp only at n4 ⊢
            by_cases hin : a ≤ i ∧ j < b
            · have := m3 i hin.1 (by omega)
              have := lw j (by omega) hin.2
              omega
            · exact hO3 i j n1 n2 n3 hin
          · intro _ k n1 n2
            dsimp only at n1 n2 ⊢
            have := m3 (mid - 1) (by omega) (by omega)
            have := m4 k n1 n2
            omega
    · exact ⟨Rg.refl _ _ _, fun i j n1 n2 n3 n4 => by dsimp only at n4; omega, Int.le_refl _, h2, Int.le_refl _, h6, h7, h8, h9⟩
    · rintro r hr
      exact ⟨r, rfl, hr⟩
end Go.Sx

namespace Go.Sx
/-- slices.Sorted(slices.Values(l)), of a list that is not long -/
theorem sorted_spec (l : List Int) (hl : l.length ≤ 16) : ∃ y, D.j0 l = some y ∧ List.Perm y l ∧ Srt y 0 y.length := by
  unfold D.j0 D.w0 D.x0 D.y0 D.k D.m
  rw [if_pos (show l.length ≤ 1000000 by omega)]
  simp only [Option.bind_some]
  rw [wu64 (by omega) (by omega), if_pos (by omega)]
  simp only [Option.bind_some]
  have hk : ∀ k : Nat, k ≤ 16 → k ≤ 12 + Lib.bitLen k ∧ Lib.bitLen k ≤ 64 := by decide
  obtain ⟨k1, k2⟩ := hk l.length hl
  have e : ((l.length : Int)).toNat = l.length := by omega
  have hb := recFuel_big
  obtain ⟨y, hy, hr, hs⟩ := pdqsort_spec recFuel l 0 l.length (Lib.bitLen l.length : Nat) (by omega) (by omega) (by omega) (by omega) (by omega) (by omega) (by omega) (by omega) (fun h => absurd h (by omega)) (by omega)
  rw [e, hy]
  refine ⟨y, rfl, hr.perm, ?_⟩
  rw [hr.len]; exact hs
end Go.Sx



/- The program's and the reference's first helpers in closed form: sets, graphs, orders. Plain. -/
namespace Go.Sx
/-- short enough for every loop -/
def Sh {α : Type} (xs : List α) : Prop := xs.length ≤ 4294967296

theorem l1In_eq (a b c : Int) : D.c a b c = some (decide (b ≤ a) && decide (a ≤ c)) := rfl
theorem inRange_eq (a b c : Int) : D.M a b c = some (decide (b ≤ a) && decide (a ≤ c)) := rfl

theorem any_beq (xs : List Int) (n : Int) : xs.any (fun x => x == n) = decide (n ∈ xs) := by
  rw [Bool.eq_iff_iff, List.any_eq_true]; simp
theorem l1Has_eq (xs : List Int) (n : Int) (h : Sh xs) : D.i xs n = some (decide (n ∈ xs)) := by
  unfold Sh at h
  unfold D.i
  refine (loop_anyb xs.length (fun i => xs.getD i 0 == n) true (fun i hi => ?_) ?_ rfl rfl).trans ?_
  · simp only [dlt hi, cond_true, idx_nat hi, Option.bind_some, wi' hi (by omega), getD_lt hi]
    cases xs[i] == n <;> rfl
  · simp only [dnlt, cond_false]
  · rw [range_any_list xs (fun x => x == n) _ (fun i hi => by rw [getD_lt hi]), any_beq]
theorem contains_eq (xs : List Int) (n : Int) (h : Sh xs) : D.u xs n = some (decide (n ∈ xs)) := by
  unfold Sh at h
  unfold D.u D.A0
  have e : loopF (σ := Int) (ρ := (Unit) ⊕ (Int)) (fun (x_26 : Int) => cond (decide (x_26 < (xs.length : Int))) ((idx xs x_26).bind fun e_39 => cond (n == e_39) (some (.inr (.inr x_26))) (some (.inl (IntKind.i64.wrap (x_26 + 1))))) (some (.inr (.inl ())))) 0 =
      some (((List.range xs.length).findSome? (fun i => if xs.getD i 0 == n then some (Sum.inr (i : Int)) else none)).getD (.inl ())) := by
    refine loop_find xs.length _ _ (fun i hi => ?_) ?_
    · simp only [dlt hi, cond_true, idx_nat hi, Option.bind_some, wi' hi (by omega), getD_lt hi]
      rw [show (n == xs[i]) = (xs[i] == n) from Bool.beq_comm ..]
      cases xs[i] == n <;> rfl
    · simp only [dnlt, cond_false]
  rw [e, Option.bind_some]
  cases hf : (List.range xs.length).findSome? (fun i => if xs.getD i 0 == n then some (Sum.inr (i : Int) : Unit ⊕ Int) else none) with
  | none =>
    have : n ∉ xs := fun hm => by
      obtain ⟨i, hi, e⟩ := List.getElem_of_mem hm
      have := (List.findSome?_eq_none_iff.1 hf) i (List.mem_range.2 hi)
      rw [getD_lt hi, e] at this
      simp at this
    simp [this]
  | some r =>
    obtain ⟨i, hi, hr⟩ := List.exists_of_findSome?_eq_some hf
    have hi' := List.mem_range.1 hi
    rw [getD_lt hi'] at hr
    split at hr
    · rename_i hc
      cases hr
      have : n ∈ xs := by rw [← (beq_iff_eq.1 hc)]; exact List.getElem_mem _
      simp [this]
    · cases hr

/-- a set of numbers below n, as a list -/
def SetOf (xs : List Int) (n : Int) : Prop := Inc xs ∧ ∀ x ∈ xs, 0 ≤ x ∧ x < n
theorem SetOf.len : ∀ {xs : List Int} {n a : Int}, Inc xs → (∀ x ∈ xs, a ≤ x ∧ x < n) → xs = [] ∨ (xs.length : Int) ≤ n - a
  | [], _, _, _, _ => .inl rfl
  | x :: xs, n, a, h, hr => by
    right
    have h' := List.pairwise_cons.1 h
    have hx := hr x (by simp)
    rcases SetOf.len (a := x + 1) (n := n) h'.2 (fun y hy => ⟨by have := h'.1 y hy; omega, (hr y (by simp [hy])).2⟩) with e | e
    · subst e; simp; omega
    · simp; omega
theorem SetOf.length_le {xs : List Int} {n : Int} (h : SetOf xs n) (hn : 0 ≤ n) : (xs.length : Int) ≤ n := by
  rcases SetOf.len h.1 h.2 with e | e
  · subst e; simpa using hn
  · omega

theorem inc_iff (xs : List Int) : Inc xs ↔ ∀ i (hi : i + 1 < xs.length), xs[i] < xs[i + 1] := by
  unfold Inc
  constructor
  · intro h i hi
    exact List.pairwise_iff_getElem.1 h i (i + 1) (by omega) hi (by omega)
  · intro h
    rw [List.pairwise_iff_getElem]
    intro i j hi hj hij
    have key : ∀ k, ∀ hk : i + k + 1 < xs.length, xs[i] < xs[i + k + 1] := by
      intro k
      induction k with
      | zero => intro hk; exact h i hk
      | succ k ih => intro hk; have := ih (by omega); have := h (i + k + 1) hk; exact Int.lt_trans (ih (by omega)) this
    obtain ⟨k, rfl⟩ : ∃ k, j = i + k + 1 := ⟨j - i - 1, by omega⟩
    exact key k hj

def setB (xs : List Int) (n : Int) : Bool := (List.range xs.length).all fun i => (decide (0 ≤ xs.getD i 0) && decide (xs.getD i 0 ≤ n - 1)) && !(decide (0 < i) && decide (xs.getD i 0 ≤ xs.getD (i - 1) 0))
theorem setB_iff (xs : List Int) (n : Int) : setB xs n = true ↔ SetOf xs n := by
  unfold setB SetOf
  rw [all_forall, inc_iff]
  constructor
  · intro h
    refine ⟨fun i hi => ?_, fun x hx => ?_⟩
    · have := h (i + 1) hi
      simp [hi, show i < xs.length by omega] at this
      omega
    · obtain ⟨i, hi, rfl⟩ := List.getElem_of_mem hx
      have := h i hi
      simp [hi] at this
      omega
  · rintro ⟨h1, h2⟩ i hi
    have h3 := h2 _ (List.getElem_mem hi)
    simp [hi]
    refine ⟨by omega, ?_⟩
    rcases Nat.eq_zero_or_pos i with h0 | h0
    · exact .inl h0
    · right
      have := h1 (i - 1) (by omega)
      have e : i - 1 + 1 = i := by omega
      simp only [e] at this
      have e2 : xs[i - 1]?.getD 0 = xs[i - 1] := by rw [List.getElem?_eq_getElem (by omega)]; rfl
      rw [e2]; exact this

theorem increasing_eq (xs : List Int) (n : Int) (h : Sh xs) (h0 : 0 ≤ n) (hn : n ≤ 4294967296) : D.H xs n = some (setB xs n) := by
  unfold Sh at h
  unfold D.H
  refine loop_allb xs.length _ false (fun i hi => ?_) ?_ rfl rfl
  · simp only [dlt hi, cond_true, idx_nat hi, Option.bind_some, wi' hi (by omega), getD_lt hi, inRange_eq]
    rw [w64 (x := n - 1) (by omega) (by omega)]
    cases (decide (0 ≤ xs[i]) && decide (xs[i] ≤ n - 1))
    · simp
    · by_cases h0 : 0 < i
      · have e1 : IntKind.i64.wrap ((i : Int) - 1) = ((i - 1 : Nat) : Int) := by rw [w64 (by omega) (by omega)]; omega
        have hd : decide ((0 : Int) < (i : Int)) = true := by simp; omega
        simp only [Bool.not_true, cond_false, hd, cond_true, e1, idx_nat (show i - 1 < xs.length by omega), Option.bind_some, getD_lt (show i - 1 < xs.length by omega), h0, decide_true, Bool.true_and]
        cases decide (xs[i] ≤ xs[i - 1]) <;> rfl
      · have hd : decide ((0 : Int) < (i : Int)) = false := by simp; omega
        simp only [Bool.not_true, cond_false, hd, Option.bind_some, h0, decide_false, Bool.false_and, Bool.not_false, Bool.and_true, if_true]
  · simp only [dnlt, cond_false]

theorem l1Set_eq (xs : List Int) (n : Int) (h : Sh xs) (h0 : 0 ≤ n) (hn : n ≤ 4294967296) : D.i0 xs n = some (setB xs n) := by
  have hh := h
  unfold Sh at h
  unfold D.i0
  by_cases hl : n < xs.length
  · have : setB xs n = false := by
      cases hb : setB xs n
      · rfl
      · have := ((setB_iff xs n).1 hb).length_le h0; omega
    simp [hl, this]
  · simp only [hl, decide_false, cond_false]
    refine loop_allb xs.length _ false (fun i hi => ?_) ?_ rfl rfl
    · simp only [dlt hi, cond_true, idx_nat hi, Option.bind_some, wi' hi (by omega), getD_lt hi, l1In_eq]
      rw [w64 (x := n - 1) (by omega) (by omega)]
      cases (decide (0 ≤ xs[i]) && decide (xs[i] ≤ n - 1))
      · simp
      · by_cases h0 : 0 < i
        · have e1 : IntKind.i64.wrap ((i : Int) - 1) = ((i - 1 : Nat) : Int) := by rw [w64 (by omega) (by omega)]; omega
          have hd : decide ((0 : Int) < (i : Int)) = true := by simp; omega
          simp only [Bool.not_true, cond_false, hd, cond_true, e1, idx_nat (show i - 1 < xs.length by omega), Option.bind_some, getD_lt (show i - 1 < xs.length by omega), h0, decide_true, Bool.true_and]
          cases decide (xs[i] ≤ xs[i - 1]) <;> rfl
        · have hd : decide ((0 : Int) < (i : Int)) = false := by simp; omega
          simp only [Bool.not_true, cond_false, hd, Option.bind_some, h0, decide_false, Bool.false_and, Bool.not_false, Bool.and_true, if_true]
    · simp only [dnlt, cond_false]

/-- row v of a graph -/
def row (g : List (List Int)) (v : Nat) : List Int := g.getD v []
theorem row_eq {g : List (List Int)} {v : Nat} (h : v < g.length) : row g v = g[v] := getD_lt h _
def adj (g : List (List Int)) (u v : Nat) : Prop := (v : Int) ∈ row g u

/-- a valid graph -/
structure GOk (g : List (List Int)) : Prop where
  n1 : 1 ≤ g.length
  n16 : g.length ≤ 16
  rows : ∀ v, v < g.length → SetOf (row g v) g.length
  irr : ∀ v, v < g.length → ¬ adj g v v
  sym : ∀ u v, u < g.length → adj g u v → adj g v u

theorem GOk.mem {g : List (List Int)} (h : GOk g) {u : Nat} (hu : u < g.length) {x : Int} (hx : x ∈ row g u) : ∃ v : Nat, x = v ∧ v < g.length ∧ adj g u v := by
  have := (h.rows u hu).2 x hx
  refine ⟨x.toNat, by omega, by omega, ?_⟩
  unfold adj
  rw [show ((x.toNat : Nat) : Int) = x by omega]; exact hx
theorem GOk.row_len {g : List (List Int)} (h : GOk g) {u : Nat} (hu : u < g.length) : (row g u).length ≤ 16 := by
  have := (h.rows u hu).length_le (by omega)
  have := h.n16
  omega
theorem GOk.lt {g : List (List Int)} (h : GOk g) {u v : Nat} (hu : u < g.length) (ha : adj g u v) : v < g.length := by
  obtain ⟨w, h1, h2, _⟩ := h.mem hu ha
  omega

/-- short in both ways -/
def Sh2 (g : List (List Int)) : Prop := Sh g ∧ ∀ r ∈ g, Sh r
theorem Sh2.row {g : List (List Int)} (h : Sh2 g) {v : Nat} (hv : v < g.length) : Sh (row g v) := by
  rw [row_eq hv]; exact h.2 _ (List.getElem_mem hv)
theorem idx_row {g : List (List Int)} {v : Nat} (h : v < g.length) : idx g (v : Int) = some (row g v) := by rw [row_eq h, idx_nat h]

def gB1 (g : List (List Int)) : Bool := (List.range g.length).all fun v => setB (row g v) g.length && !decide ((v : Int) ∈ row g v)
def gB2 (g : List (List Int)) : Bool := (List.range g.length).all fun v => (row g v).all fun x => decide ((v : Int) ∈ row g x.toNat)
def gB (g : List (List Int)) : Bool := decide (1 ≤ g.length) && decide (g.length ≤ 16) && gB1 g && gB2 g
theorem gB_iff (g : List (List Int)) : gB g = true ↔ GOk g := by
  unfold gB gB1 gB2
  simp only [Bool.and_eq_true, decide_eq_true_eq, setB_iff, Bool.not_eq_true', decide_eq_false_iff_not, List.all_eq_true, List.mem_range]
  constructor
  · rintro ⟨⟨⟨h1, h2⟩, h3⟩, h4⟩
    refine ⟨h1, h2, fun v hv => (h3 v hv).1, fun v hv => (h3 v hv).2, fun u v hu ha => ?_⟩
    have := h4 u hu v ha
    unfold adj
    simpa using this
  · intro h
    refine ⟨⟨⟨h.n1, h.n16⟩, fun v hv => ⟨h.rows v hv, h.irr v hv⟩⟩, fun v hv x hx => ?_⟩
    obtain ⟨u, rfl, hu, ha⟩ := h.mem hv hx
    have := h.sym v u hv ha
    simpa [adj] using this

theorem spec_GraphOk_eq (g : List (List Int)) (h : Sh2 g) : D.q g = some (gB g) := by
  have hl : g.length ≤ 4294967296 := h.1
  unfold D.q D.g
  simp only [Option.bind_some, l1In_eq]
  by_cases hn : 1 ≤ g.length ∧ g.length ≤ 16
  · have e : (decide ((1 : Int) ≤ (g.length : Int)) && decide ((g.length : Int) ≤ 16)) = true := by simp; omega
    simp only [e, Bool.not_true, cond_false]
    refine (loop_ck g.length (fun v => setB (row g v) g.length && !decide ((v : Int) ∈ row g v)) (.inl ()) (.inr false) (fun v hv => ?_) ?_).trans ?_
    rotate_left
    · simp only [dnlt, cond_false]
    · show cond (gB1 g) _ _ = _
      have e4 : gB g = (gB1 g && gB2 g) := by unfold gB; simp [hn.1, hn.2]
      rw [e4]
      cases hc : gB1 g with
      | false => rfl
      | true =>
        rw [cond_true, Bool.true_and]
        refine loop_allb g.length _ false (fun v hv => ?_) ?_ rfl rfl
        · have hset : SetOf (row g v) g.length := by
            have := (all_forall _ _).1 hc v hv
            simp only [Bool.and_eq_true] at this
            exact (setB_iff _ _).1 this.1
          simp only [dlt hv, cond_true]
          refine (loop_ck (row g v).length (fun i => decide ((v : Int) ∈ row g ((row g v).getD i 0).toNat)) (.inl ()) (.inr false) (fun i hi => ?_) ?_).trans ?_
          · have hx := hset.2 _ (List.getElem_mem hi)
            have e5 : idx g (row g v)[i] = some (row g ((row g v)[i]).toNat) := by
              have := idx_row (g := g) (v := ((row g v)[i]).toNat) (by omega)
              rwa [show ((((row g v)[i]).toNat : Nat) : Int) = (row g v)[i] by omega] at this
            have hs := h.row (v := ((row g v)[i]).toNat) (by omega)
            simp only [idx_row hv, Option.bind_some, dlt hi, cond_true, idx_nat hi, e5, l1Has_eq _ _ hs, wi (show i < 4611686018427387904 by have := h.row hv; unfold Sh at this; omega), getD_lt hi]
            cases decide ((v : Int) ∈ row g ((row g v)[i]).toNat) <;> rfl
          · simp only [idx_row hv, Option.bind_some, dnlt, cond_false]
          · rw [range_all_list (row g v) (fun x => decide ((v : Int) ∈ row g x.toNat)) _ (fun i hi => by rw [getD_lt hi]), wi' hv (by omega)]
            cases (row g v).all fun x => decide ((v : Int) ∈ row g x.toNat) <;> rfl
        · simp only [dnlt, cond_false]
    · simp only [dlt hv, cond_true, idx_row hv, Option.bind_some, l1Set_eq _ _ (h.row hv) (show (0 : Int) ≤ (g.length : Int) by omega) (by omega), l1Has_eq _ _ (h.row hv), wi' hv (by omega)]
      cases setB (row g v) g.length
      · rfl
      · cases decide ((v : Int) ∈ row g v) <;> rfl
  · have e : (decide ((1 : Int) ≤ (g.length : Int)) && decide ((g.length : Int) ≤ 16)) = false := by
      rw [Bool.eq_false_iff]; simp; omega
    simp only [e, Bool.not_false, cond_true]
    unfold gB
    congr 1
    symm
    rw [Bool.eq_false_iff]
    simp
    omega

theorem impl_GraphOk_eq (g : List (List Int)) (h : Sh2 g) : D.S g = some (gB g) := by
  have hl : g.length ≤ 4294967296 := h.1
  unfold D.S
  by_cases hn : 1 ≤ g.length ∧ g.length ≤ 16
  · have e : (decide ((g.length : Int) < (1 : Int)) || decide ((16 : Int) < (g.length : Int))) = false := by simp; omega
    simp only [e, cond_false]
    refine (loop_ck g.length (fun v => setB (row g v) g.length && !decide ((v : Int) ∈ row g v)) (.inl ()) (.inr false) (fun v hv => ?_) ?_).trans ?_
    rotate_left
    · simp only [dnlt, cond_false]
    · show cond (gB1 g) _ _ = _
      have e4 : gB g = (gB1 g && gB2 g) := by unfold gB; simp [hn.1, hn.2]
      rw [e4]
      cases hc : gB1 g with
      | false => rfl
      | true =>
        rw [cond_true, Bool.true_and]
        refine loop_allb g.length _ false (fun v hv => ?_) ?_ rfl rfl
        · have hset : SetOf (row g v) g.length := by
            have := (all_forall _ _).1 hc v hv
            simp only [Bool.and_eq_true] at this
            exact (setB_iff _ _).1 this.1
          simp only [dlt hv, cond_true, idx_row hv, Option.bind_some]
          refine (loop_ck (row g v).length (fun i => decide ((v : Int) ∈ row g ((row g v).getD i 0).toNat)) (.inl ()) (.inr false) (fun i hi => ?_) ?_).trans ?_
          · have hx := hset.2 _ (List.getElem_mem hi)
            have e5 : idx g (row g v)[i] = some (row g ((row g v)[i]).toNat) := by
              have := idx_row (g := g) (v := ((row g v)[i]).toNat) (by omega)
              rwa [show ((((row g v)[i]).toNat : Nat) : Int) = (row g v)[i] by omega] at this
            have hs := h.row (v := ((row g v)[i]).toNat) (by omega)
            simp only [Option.bind_some, dlt hi, cond_true, idx_nat hi, e5, contains_eq _ _ hs, wi (show i < 4611686018427387904 by have := h.row hv; unfold Sh at this; omega), getD_lt hi]
            cases decide ((v : Int) ∈ row g ((row g v)[i]).toNat) <;> rfl
          · simp only [dnlt, cond_false]
          · rw [range_all_list (row g v) (fun x => decide ((v : Int) ∈ row g x.toNat)) _ (fun i hi => by rw [getD_lt hi]), wi' hv (by omega)]
            cases (row g v).all fun x => decide ((v : Int) ∈ row g x.toNat) <;> rfl
        · simp only [dnlt, cond_false]
    · simp only [dlt hv, cond_true, idx_row hv, Option.bind_some, increasing_eq _ _ (h.row hv) (show (0 : Int) ≤ (g.length : Int) by omega) (by omega), contains_eq _ _ (h.row hv), wi' hv (by omega)]
      cases setB (row g v) g.length
      · rfl
      · cases decide ((v : Int) ∈ row g v) <;> rfl
  · have e : (decide ((g.length : Int) < (1 : Int)) || decide ((16 : Int) < (g.length : Int))) = true := by
      simp; omega
    simp only [e, cond_true]
    unfold gB
    congr 1
    symm
    rw [Bool.eq_false_iff]
    simp
    omega
end Go.Sx

/- Orders; the program's sets as bit masks; the reference's rising lists. Plain. -/
namespace Go.Sx
/-- an order of a graph -/
structure OOk (g : List (List Int)) (o : List Int) : Prop where
  len : o.length = g.length
  rng : ∀ x ∈ o, 0 ≤ x ∧ x < g.length
  nd : o.Nodup

theorem mem_take_iff {α : Type} {l : List α} {i : Nat} {x : α} : x ∈ l.take i ↔ ∃ j, ∃ h : j < l.length, j < i ∧ l[j] = x := by
  rw [List.mem_take_iff_getElem]
  constructor
  · rintro ⟨j, h, e⟩; exact ⟨j, by omega, by omega, e⟩
  · rintro ⟨j, h, h2, e⟩; exact ⟨j, by omega, e⟩
theorem nodup_iff {l : List Int} : l.Nodup ↔ ∀ i (hi : i < l.length), l[i] ∉ l.take i := by
  constructor
  · intro h i hi hm
    obtain ⟨j, hj, hji, e⟩ := mem_take_iff.1 hm
    have := (List.pairwise_iff_getElem.1 h) j i hj hi hji
    exact this e
  · intro h
    refine List.pairwise_iff_getElem.2 (fun i j hi hj hij e => h j hj (mem_take_iff.2 ⟨i, hi, hij, e⟩))
theorem sorted_inc {y : List Int} (hs : Srt y 0 y.length) (hn : y.Nodup) : Inc y := by
  unfold Inc
  rw [List.pairwise_iff_getElem]
  intro i j hi hj hij
  have h1 := hs i j (by omega) (by omega) (by omega)
  have h2 := (List.pairwise_iff_getElem.1 hn) i j hi hj hij
  simp [at', hi, hj] at h1
  have : y[i] ≠ y[j] := h2
  omega
/-! ### masks -/
theorem impl_one_eq (v : Nat) : D.d (v : Int) = some (ishl .u32 1 (v : Int)) := by
  unfold D.d
  have : decide ((v : Int) < 0) = false := by simp
  rw [this]; rfl
theorem impl_one_eq' {x : Int} (h : 0 ≤ x) : D.d x = some (ishl .u32 1 x) := by
  have := impl_one_eq x.toNat
  rwa [show ((x.toNat : Nat) : Int) = x by omega] at this
def mk (xs : List Int) : Int := xs.foldl (fun s v => ior .u32 s (ishl .u32 1 v)) 0
theorem maskOf_eq (xs : List Int) (h : Sh xs) (h0 : ∀ x ∈ xs, 0 ≤ x) : D.N0 xs = some (mk xs) := by
  unfold Sh at h
  unfold D.N0
  refine (loop_listb xs (fun s i => (s, i)) (fun s v => ior .u32 s (ishl .u32 1 v)) (fun s => s) (fun _ => True) 0 trivial (fun s i hi _ => ⟨?_, trivial⟩) (fun s _ => ?_)).trans rfl
  · simp only [dlt hi, cond_true, idx_nat hi, Option.bind_some, wi' hi (by omega), impl_one_eq' (h0 _ (List.getElem_mem hi))]
  · simp only [dnlt, cond_false]
theorem VS_foldl_ior : ∀ (xs : List Int) (s : Int), VS s → VS (xs.foldl (fun s v => ior .u32 s (ishl .u32 1 v)) s)
  | [], s, h => h
  | x :: xs, s, _ => VS_foldl_ior xs _ (VS.ior _ _)
theorem VS.mk (xs : List Int) : VS (mk xs) := VS_foldl_ior xs 0 VS.zero
theorem has_foldl_ior (u : Nat) : ∀ (xs : List Int) (s : Int), VS s → (∀ x ∈ xs, 0 ≤ x ∧ x < 32) → has (xs.foldl (fun s v => ior .u32 s (ishl .u32 1 v)) s) u = (has s u || decide ((u : Int) ∈ xs))
  | [], s, _, _ => by simp
  | x :: xs, s, hs, h => by
    have hx := h x (by simp)
    rw [List.foldl_cons, has_foldl_ior u xs _ (VS.ior _ _) (fun y hy => h y (by simp [hy])), has_ior hs (VS.ishl _ _)]
    obtain ⟨k, rfl⟩ : ∃ k : Nat, x = k := ⟨x.toNat, by omega⟩
    rw [has_one (by omega)]
    by_cases hu : u = k
    · subst hu; simp
    · have : ¬ (u : Int) = (k : Int) := by omega
      simp [hu, this]
theorem has_mk {xs : List Int} (h : ∀ x ∈ xs, 0 ≤ x ∧ x < 32) (u : Nat) : has (mk xs) u = decide ((u : Int) ∈ xs) := by
  unfold mk; rw [has_foldl_ior u xs 0 VS.zero h, has_zero, Bool.false_or]

theorem GOk.mem0 {g : List (List Int)} (hg : GOk g) {r : List Int} (hr : r ∈ g) : r.length ≤ 16 ∧ ∀ x ∈ r, 0 ≤ x ∧ x < g.length := by
  obtain ⟨v, hv, rfl⟩ := List.getElem_of_mem hr
  rw [← row_eq hv]
  exact ⟨hg.row_len hv, (hg.rows v hv).2⟩
theorem netsOf_eq (g : List (List Int)) (hg : GOk g) : D.Q0 g = some (g.map mk) := by
  have h16 := hg.n16
  unfold D.Q0
  refine (loop_map g (fun s i => (s, i)) mk (by omega) (fun s i hi _ => ?_) (fun s => ?_)).trans rfl
  · obtain ⟨h1, h2⟩ := hg.mem0 (List.getElem_mem hi)
    simp only [dlt hi, cond_true, idx_nat hi, Option.bind_some, wi' hi (by omega), maskOf_eq g[i] (by unfold Sh; omega) (fun x hx => (h2 x hx).1)]
  · simp only [dnlt, cond_false]
theorem wide_eq (xs : List Int) (h : Sh xs) : D.L xs = some xs := by
  unfold Sh at h
  unfold D.L
  rw [makeD_zero (by omega) (by omega), Option.bind_some]
  refine (loop_map xs (fun s i => (s, i)) (fun x => x) h (fun s i hi _ => ?_) (fun s => ?_)).trans (by simp)
  · simp only [dlt hi, cond_true, idx_nat hi, Option.bind_some, wi' hi (by omega)]
  · simp only [dnlt, cond_false]

theorem least_eq {s : Int} (h : VS s) (h0 : s ≠ 0) : ∃ k : Nat, k < 32 ∧ D.T s = some (k : Int) ∧ has s k = true ∧ (∀ v, v < k → has s v = false) ∧
    (∀ v, has (iand .u32 s (IntKind.u32.wrap (s - 1))) v = (has s v && !decide (v = k))) := by
  obtain ⟨k, h1, h2, h3, h4, h5⟩ := least_spec h h0
  refine ⟨k, h1, ?_, h2, h3, h5⟩
  unfold D.T D.B0
  have e : (s == 0) = false := by simpa using h0
  simp only [e, cond_false, h4, tz_table k h1, Option.bind_some]
  rw [w64 (by omega) (by omega)]

theorem list_eq (s : Int) (h : VS s) : D.l s = some (elems s) := by
  unfold D.l
  have key : ∀ (n : Nat) (x : Int) (l : List Int), VS x → (elems x).length = n → l.length + n ≤ 32 →
      loopF (σ := Int × (List Int)) (ρ := ((List Int))) (fun (s_52 : Int × (List Int)) => match s_52 with | (x_55, l_56) => cond (x_55 != 0) ((D.T x_55).bind fun y_88 => (appendD l_56 ([y_88] : List Int)).bind fun l_99 => some (.inl ((iand .u32 x_55 (IntKind.u32.wrap (x_55 - 1))), l_99))) (some (.inr l_56))) (x, l) = some (l ++ elems x) := by
    intro n
    induction n with
    | zero =>
      intro x l hx hn _
      have e : elems x = [] := List.eq_nil_of_length_eq_zero hn
      have e0 : x = 0 := hx.eq_zero.2 fun v hv => by
        cases hc : has x v
        · rfl
        · have := mem_elems.2 ⟨v, hv, hc, rfl⟩; rw [e] at this; simp at this
      rw [e]
      refine loopF_done ?_
      have : (x != 0) = false := by simp [e0]
      simp only [this, cond_false, List.append_nil]
    | succ n ih =>
      intro x l hx hn hl
      have h0 : x ≠ 0 := by rintro rfl; rw [elems_zero] at hn; simp at hn
      obtain ⟨k, h1, h2, h3, h4, h5⟩ := least_eq hx h0
      have e := elems_least h1 h3 h4 h5
      have en : (elems (iand .u32 x (IntKind.u32.wrap (x - 1)))).length = n := by rw [e] at hn; simpa using hn
      have hstep := ih (iand .u32 x (IntKind.u32.wrap (x - 1))) (l ++ [(k : Int)]) (VS.iand _ _) en (by simp; omega)
      have e1 : (x != 0) = true := by simpa using h0
      rw [loopF_more (s' := (iand .u32 x (IntKind.u32.wrap (x - 1)), l ++ [(k : Int)]))]
      · rw [hstep, e]; simp
      · simp only [e1, cond_true, h2, Option.bind_some, appendD_ok (xs := l) (ys := [(k : Int)]) (by simp; omega)]
  have := key (elems s).length s [] h rfl (by simpa using elems_len s)
  rw [this]; simp
theorem elems_sh (s : Int) : Sh (elems s) := by have := elems_len s; unfold Sh; omega
theorem numbers_eq (s : Int) (h : VS s) : D.Q s = some (elems s) := by
  unfold D.Q
  rw [list_eq s h, Option.bind_some, wide_eq _ (elems_sh s)]; rfl
theorem results_eq (xs : List Int) (h : Sh xs) (hv : ∀ s ∈ xs, VS s) : D.M0 xs = some (xs.map elems) := by
  unfold Sh at h
  unfold D.M0
  refine (loop_map xs (fun s i => (s, i)) elems h (fun s i hi _ => ?_) (fun s => ?_)).trans rfl
  · simp only [dlt hi, cond_true, idx_nat hi, Option.bind_some, wi' hi (by omega), numbers_eq _ (hv _ (List.getElem_mem hi))]
  · simp only [dnlt, cond_false]

/-! ### rising lists -/
theorem l1Copy_eq (xs : List Int) (h : Sh xs) : D.h xs = some xs := by
  unfold Sh at h
  unfold D.h
  rw [appendD_ok (by simpa using h)]; rfl
/-- with one more -/
def into (xs : List Int) (n : Int) : List Int := if n ∈ xs then xs else xs.takeWhile (fun x => decide (x < n)) ++ n :: xs.dropWhile (fun x => decide (x < n))
theorem mem_into {xs : List Int} {n x : Int} : x ∈ into xs n ↔ x = n ∨ x ∈ xs := by
  unfold into
  split
  · constructor
    · intro h; exact .inr h
    · rintro (rfl | h)
      · assumption
      · exact h
  · have e : x ∈ xs ↔ x ∈ xs.takeWhile (fun x => decide (x < n)) ++ xs.dropWhile (fun x => decide (x < n)) := by rw [List.takeWhile_append_dropWhile]
    rw [e]; simp only [List.mem_append, List.mem_cons]
    constructor
    · rintro (h | h | h) <;> simp [h]
    · rintro (h | h | h) <;> simp [h]
theorem inc_dropWhile {xs : List Int} {n : Int} (h : Inc xs) : ∀ y ∈ xs.dropWhile (fun x => decide (x < n)), n ≤ y := by
  induction xs with
  | nil => simp
  | cons x xs ih =>
    have h' := List.pairwise_cons.1 h
    intro y hy
    rw [List.dropWhile_cons] at hy
    split at hy
    · exact ih h'.2 y hy
    · rename_i hc
      simp at hc
      rcases List.mem_cons.1 hy with rfl | hy
      · exact hc
      · have := h'.1 y hy; omega
theorem inc_takeWhile {xs : List Int} {n : Int} : ∀ y ∈ xs.takeWhile (fun x => decide (x < n)), y < n := by
  intro y hy
  induction xs with
  | nil => simp at hy
  | cons x xs ih =>
    rw [List.takeWhile_cons] at hy
    split at hy
    · rename_i hc
      rcases List.mem_cons.1 hy with rfl | hy
      · simpa using hc
      · exact ih hy
    · simp at hy
theorem Inc.into {xs : List Int} (h : Inc xs) (n : Int) : Inc (into xs n) := by
  unfold Sx.into
  split
  · exact h
  · rename_i hn
    unfold Inc
    rw [List.pairwise_append]
    refine ⟨List.Pairwise.sublist (List.takeWhile_sublist _) h, List.pairwise_cons.2 ⟨fun y hy => ?_, List.Pairwise.sublist (List.dropWhile_sublist _) h⟩, fun a ha b hb => ?_⟩
    · have h1 := inc_dropWhile h y hy
      have h2 : y ≠ n := fun e => hn (e ▸ (List.dropWhile_sublist _).mem hy)
      omega
    · have h1 := inc_takeWhile a ha
      rcases List.mem_cons.1 hb with rfl | hb
      · exact h1
      · have := inc_dropWhile h b hb; omega
end Go.Sx

/- Open vertices, bags of an order: the reference's and the program's. Plain. -/
namespace Go.Sx
theorem takeWhile_eq_take {α : Type} (p : α → Bool) : ∀ (xs : List α), xs.takeWhile p = xs.take (xs.takeWhile p).length ∧ xs.dropWhile p = xs.drop (xs.takeWhile p).length
  | [] => by simp
  | x :: xs => by
    rw [List.takeWhile_cons, List.dropWhile_cons]
    cases p x
    · simp
    · have := takeWhile_eq_take p xs
      simp only [if_true, List.length_cons, List.take_succ_cons, List.drop_succ_cons, ← this.1, ← this.2, and_self]
theorem takeWhile_get {α : Type} (p : α → Bool) : ∀ (xs : List α) (i : Nat) (h : i < (xs.takeWhile p).length) (h' : i < xs.length), p xs[i] = true
  | x :: xs, i, h, h' => by
    rw [List.takeWhile_cons] at h
    cases hp : p x
    · rw [hp] at h; simp at h
    · rw [hp] at h
      cases i with
      | zero => simpa using hp
      | succ i => simp only [if_true, List.length_cons] at h; simpa using takeWhile_get p xs i (by omega) (by simpa using h')
theorem takeWhile_stop {α : Type} (p : α → Bool) : ∀ (xs : List α) (h : (xs.takeWhile p).length < xs.length), p (xs[(xs.takeWhile p).length]) = false
  | x :: xs, h => by
    cases hp : p x
    · simp [List.takeWhile_cons, hp]
    · have h2 : (xs.takeWhile p).length < xs.length := by simpa [List.takeWhile_cons, hp] using h
      simpa [List.takeWhile_cons, hp] using takeWhile_stop p xs h2
theorem takeWhile_len_le {α : Type} (p : α → Bool) (xs : List α) : (xs.takeWhile p).length ≤ xs.length := (List.takeWhile_sublist _).length_le

theorem l1Into_eq (xs : List Int) (n : Int) (h : Inc xs) (hl : xs.length ≤ 4294967295) : D.C xs n = some (into xs n) := by
  unfold D.C
  generalize hk : (xs.takeWhile (fun x => decide (x < n))).length = k
  have hkl : k ≤ xs.length := by rw [← hk]; exact takeWhile_len_le _ _
  have htk : xs.takeWhile (fun x => decide (x < n)) = xs.take k := by rw [← hk]; exact (takeWhile_eq_take _ xs).1
  have hdk : xs.dropWhile (fun x => decide (x < n)) = xs.drop k := by rw [← hk]; exact (takeWhile_eq_take _ xs).2
  refine (loop_to (fun i => ((i : Nat) : Int)) k (k : Int) rfl (fun i hi => ?_) ?_).trans ?_
  · have hi' : i < xs.length := by omega
    have hp : decide (xs[i] < n) = true := takeWhile_get (fun x => decide (x < n)) xs i (by omega) hi'
    simp only [dlt hi', cond_true, idx_nat hi', Option.bind_some, hp, wi (show i < 4611686018427387904 by omega)]
  · by_cases hlt : k < xs.length
    · have hp : decide (xs[k] < n) = false := by
        have := takeWhile_stop (fun x => decide (x < n)) xs (by omega)
        simp only [hk] at this; exact this
      simp only [dlt hlt, cond_true, idx_nat hlt, Option.bind_some, hp, cond_false]
    · obtain rfl : k = xs.length := by omega
      simp only [dnlt, cond_false, Option.bind_some]
  · have hS1 : Sh (xs.take k) := by unfold Sh; rw [List.length_take]; omega
    have hrest : ((sliceD xs 0 (k : Int)).bind fun l_135 => (D.h l_135).bind fun y_139 => (appendD y_139 ([n] : List Int)).bind fun l_154 => (sliceD xs (k : Int) (xs.length : Int)).bind fun l_160 => (appendD l_154 l_160).bind fun l_164 => some l_164) = some (xs.take k ++ n :: xs.drop k) := by
      simp only [sliceD_pre hkl, sliceD_post hkl, Option.bind_some, l1Copy_eq _ hS1]
      rw [appendD_ok (by simp; omega), Option.bind_some, appendD_ok (by simp; omega), Option.bind_some]
      simp
    by_cases hlt : k < xs.length
    · simp only [dlt hlt, cond_true, idx_nat hlt, Option.bind_some]
      by_cases he : xs[k] = n
      · have hm : n ∈ xs := by rw [← he]; exact List.getElem_mem _
        have : (xs[k] == n) = true := by simp [he]
        simp only [this, cond_true]
        unfold into; rw [if_pos hm]
      · have : (xs[k] == n) = false := by simpa using he
        simp only [this, cond_false, hrest]
        unfold into
        rw [htk, hdk, if_neg]
        intro hm
        obtain ⟨j, hj, e⟩ := List.getElem_of_mem hm
        have hst : decide (xs[k] < n) = false := by
          have := takeWhile_stop (fun x => decide (x < n)) xs (by omega)
          simp only [hk] at this; exact this
        simp at hst
        rcases Nat.lt_trichotomy j k with h1 | h1 | h1
        · have := takeWhile_get (fun x => decide (x < n)) xs j (by omega) hj
          simp at this; omega
        · subst h1; exact he e
        · have := (List.pairwise_iff_getElem.1 h) k j hlt hj h1
          omega
    · obtain rfl : k = xs.length := by omega
      simp only [dnlt, cond_false, Option.bind_some, hrest]
      unfold into
      rw [htk, hdk, if_neg]
      intro hm
      obtain ⟨j, hj, e⟩ := List.getElem_of_mem hm
      have := takeWhile_get (fun x => decide (x < n)) xs j (by omega) hj
      simp at this; omega

end Go.Sx



/- What the laws draw with their dice: graphs that are right, orders that are right. Plain. -/
namespace Go.Sx
/-- dice in order: bytes, and a place among them -/
structure DK (b : List Int) (i : Int) : Prop where
  byte : ∀ x ∈ b, 0 ≤ x ∧ x ≤ 255
  len : b.length ≤ 4096
  i0 : 0 ≤ i
  i1 : i ≤ b.length

theorem iand_u64_le (a : Int) (n : Nat) (hn : n < 18446744073709551616) : 0 ≤ iand .u64 a (n : Int) ∧ iand .u64 a (n : Int) ≤ n := by
  have e : (BitVec.ofInt 64 (n : Int)).toNat = n := by rw [BitVec.toNat_ofInt]; omega
  have h : (BitVec.ofInt 64 a &&& BitVec.ofInt 64 (n : Int)).toNat ≤ n := by
    rw [BitVec.toNat_and, e]; exact Nat.and_le_right
  have w : ∀ m : Nat, m < 18446744073709551616 → IntKind.u64.wrap (m : Int) = m := fun m hm => by
    simp [IntKind.wrap, IntKind.signed, IntKind.bits]; omega
  have e2 : iand .u64 a (n : Int) = (((BitVec.ofInt 64 a &&& BitVec.ofInt 64 (n : Int)).toNat : Nat) : Int) := by
    show IntKind.u64.wrap (((BitVec.ofInt 64 a &&& BitVec.ofInt 64 (n : Int)).toNat : Nat) : Int) = _
    exact w _ (by omega)
  rw [e2]; omega
theorem tmod_rng {x n : Int} (hx : 0 ≤ x) (hn : 0 < n) : 0 ≤ Int.tmod x n ∧ Int.tmod x n < n :=
  ⟨Int.tmod_nonneg _ hx, Int.tmod_lt_of_pos _ hn⟩

theorem below_ok {b : List Int} {i : Int} (h : DK b i) (z n : Int) (hn : 0 < n) : ∃ r i' z', D.w b i z n = some (r, b, i', z') ∧ 0 ≤ r ∧ r < n ∧ DK b i' := by
  obtain ⟨h1, h2, h3, h4⟩ := h
  unfold D.w
  have hn0 : (n == 0) = false := by simp; omega
  have hc : ∀ y : Int, 0 ≤ iand .u64 y 16777215 ∧ iand .u64 y 16777215 ≤ 16777215 := fun y => iand_u64_le y 16777215 (by omega)
  by_cases hi : i < b.length
  · have hb := h1 _ (List.getElem_mem (show i.toNat < b.length by omega))
    simp only [hi, decide_true, cond_true, idx_int h3 hi, Option.bind_some, hn0, cond_false]
    have hy := hc (ishr .u64 (IntKind.u64.wrap ((IntKind.u64.wrap (z * 6364136223846793005)) + 1442695040888963407)) 33)
    generalize iand .u64 (ishr .u64 (IntKind.u64.wrap ((IntKind.u64.wrap (z * 6364136223846793005)) + 1442695040888963407)) 33) 16777215 = y at hy ⊢
    rw [w64 (x := y) (by omega) (by omega), w64 (x := b[i.toNat]) (by omega) (by omega), w64 (x := y + b[i.toNat]) (by omega) (by omega), w64 (x := i + 1) (by omega) (by omega)]
    have hr := tmod_rng (x := y + b[i.toNat]) (n := n) (by omega) hn
    exact ⟨_, _, _, rfl, hr.1, hr.2, h1, h2, by omega, by omega⟩
  · simp only [hi, decide_false, cond_false, hn0]
    have hy := hc (ishr .u64 (IntKind.u64.wrap ((IntKind.u64.wrap (z * 6364136223846793005)) + 1442695040888963407)) 33)
    generalize iand .u64 (ishr .u64 (IntKind.u64.wrap ((IntKind.u64.wrap (z * 6364136223846793005)) + 1442695040888963407)) 33) 16777215 = y at hy ⊢
    rw [w64 (x := y) (by omega) (by omega)]
    have hr := tmod_rng (x := y) (n := n) (by omega) hn
    exact ⟨_, _, _, rfl, hr.1, hr.2, h1, h2, h3, h4⟩

theorem below_then {b : List Int} {i : Int} (h : DK b i) (z n : Int) (hn : 0 < n) : ∃ y, D.w b i z n = some y ∧ (0 ≤ y.1 ∧ y.1 < n ∧ y.2.1 = b ∧ DK b y.2.2.1) := by
  obtain ⟨r, i', z', e, h1, h2, h3⟩ := below_ok h z n hn
  exact ⟨_, e, h1, h2, rfl, h3⟩
theorem roll_ok (code : List Int) (seed : Int) (h : ∀ x ∈ code, 0 ≤ x ∧ x ≤ 255) (hl : code.length ≤ 4096) : ∃ z, D.h0 code seed = some (code, 0, z) ∧ DK code 0 := by
  unfold D.h0
  refine ⟨_, (loop_listb code (fun s i => (i, s)) (fun s e => IntKind.u64.wrap ((IntKind.u64.wrap ((IntKind.u64.wrap (s * 1099511628211)) + (IntKind.u64.wrap e))) + 3)) (fun s => s) (fun _ => True) _ trivial (fun s i hi _ => ⟨?_, trivial⟩) (fun s _ => ?_)).trans rfl, h, hl, by omega, by omega⟩
  · simp only [dlt hi, cond_true, idx_nat hi, Option.bind_some, wi (show i < 4611686018427387904 by omega)]
  · simp only [dnlt, cond_false]

/-! ### a graph out of edges -/
theorem l1Empty_eq (n : Nat) (hn : n ≤ 16) : D.g0 (n : Int) = some (List.replicate n []) := by
  unfold D.g0
  refine (loop_to (fun i => ((i : Int), List.replicate i [])) n (List.replicate n []) (by simp) (fun i hi => ?_) ?_).trans rfl
  · simp only [dlt hi, cond_true, wi (show i < 4611686018427387904 by omega)]
    rw [appendD_ok (by simp; omega), Option.bind_some, ← List.replicate_succ']
  · simp only [dnlt, cond_false]

theorem row_set {g : List (List Int)} {u v : Nat} {r : List Int} (hu : u < g.length) : row (g.set u r) v = if v = u then r else row g v := by
  unfold row
  by_cases h : v = u
  · subst h; simp [hu]
  · rw [if_neg h, List.getD_eq_getElem?_getD, List.getElem?_set_ne (fun e => h e.symm), ← List.getD_eq_getElem?_getD]

theorem l1Link_ok {g : List (List Int)} (hg : GOk g) {u v : Nat} (hu : u < g.length) (hv : v < g.length) (huv : u ≠ v) :
    ∃ g', D.l0 g (u : Int) (v : Int) = some g' ∧ GOk g' ∧ g'.length = g.length ∧ ∀ a b, adj g' a b ↔ adj g a b ∨ (a = u ∧ b = v) ∨ (a = v ∧ b = u) := by
  have h16 := hg.n16
  have hru := hg.rows u hu; have hrv := hg.rows v hv
  have hlu := hg.row_len hu; have hlv := hg.row_len hv
  refine ⟨(g.set u (into (row g u) v)).set v (into (row g v) u), ?_, ?_⟩
  · unfold D.l0
    have e1 : row (g.set u (into (row g u) v)) v = row g v := by rw [row_set hu, if_neg (Ne.symm huv)]
    simp only [idx_row hu, Option.bind_some, l1Into_eq _ _ hru.1 (show (row g u).length ≤ 4294967295 by omega), Int.toNat_natCast]
    rw [idx_row (show v < (g.set u (into (row g u) v)).length by simpa using hv), e1]
    simp only [Option.bind_some, l1Into_eq _ _ hrv.1 (show (row g v).length ≤ 4294967295 by omega)]
  · have hrow : ∀ w, row ((g.set u (into (row g u) v)).set v (into (row g v) u)) w = if w = v then into (row g v) u else if w = u then into (row g u) v else row g w := by
      intro w
      rw [row_set (by simpa using hv), row_set hu]
    have hadj : ∀ a b, adj ((g.set u (into (row g u) v)).set v (into (row g v) u)) a b ↔ adj g a b ∨ (a = u ∧ b = v) ∨ (a = v ∧ b = u) := by
      intro a b
      unfold adj
      rw [hrow]
      by_cases ha : a = v
      · subst ha
        rw [if_pos rfl, mem_into]
        constructor
        · rintro (h | h)
          · exact .inr (.inr ⟨rfl, by omega⟩)
          · exact .inl h
        · rintro (h | ⟨h, _⟩ | ⟨_, h⟩)
          · exact .inr h
          · exact absurd h.symm huv
          · exact .inl (by omega)
      · rw [if_neg ha]
        by_cases ha' : a = u
        · subst ha'
          rw [if_pos rfl, mem_into]
          constructor
          · rintro (h | h)
            · exact .inr (.inl ⟨rfl, by omega⟩)
            · exact .inl h
          · rintro (h | ⟨_, h⟩ | ⟨h, _⟩)
            · exact .inr h
            · exact .inl (by omega)
            · exact absurd h ha
        · rw [if_neg ha']
          constructor
          · exact .inl
          · rintro (h | ⟨h, _⟩ | ⟨h, _⟩)
            · exact h
            · exact absurd h ha'
            · exact absurd h ha
    refine ⟨⟨by simpa using hg.n1, by simpa using h16, fun w hw => ?_, fun w hw => ?_, fun a b ha hab => ?_⟩, by simp, hadj⟩
    · simp only [List.length_set] at hw ⊢
      rw [hrow]
      split
      · refine ⟨hrv.1.into _, fun x hx => ?_⟩
        rcases mem_into.1 hx with rfl | hx
        · omega
        · exact hrv.2 x hx
      · split
        · refine ⟨hru.1.into _, fun x hx => ?_⟩
          rcases mem_into.1 hx with rfl | hx
          · omega
          · exact hru.2 x hx
        · exact hg.rows w hw
    · simp only [List.length_set] at hw
      rw [hadj]
      rintro (h | ⟨h1, h2⟩ | ⟨h1, h2⟩)
      · exact hg.irr w hw h
      · omega
      · omega
    · simp only [List.length_set] at ha
      rw [hadj] at hab ⊢
      rcases hab with h | h | h
      · exact .inl (hg.sym a b ha h)
      · exact .inr (.inr ⟨h.2, h.1⟩)
      · exact .inr (.inl ⟨h.2, h.1⟩)

theorem GOk.empty {n : Nat} (h1 : 1 ≤ n) (h16 : n ≤ 16) : GOk (List.replicate n []) := by
  have hr : ∀ v, row (List.replicate n []) v = [] := fun v => by
    unfold row
    rw [List.getD_eq_getElem?_getD, List.getElem?_replicate]; split <;> rfl
  refine ⟨by simpa using h1, by simpa using h16, fun v _ => ?_, fun v _ => ?_, fun u v _ h => ?_⟩
  · rw [hr]; exact ⟨by simp [Inc], by simp⟩
  · unfold adj; rw [hr]; simp
  · unfold adj at h; rw [hr] at h; simp at h

end Go.Sx

/- Drawn graphs and drawn orders are right. Plain. -/
namespace Go.Sx
theorem insert_perm (o : List Int) (c : Nat) (v : Int) : (o.take c ++ [v] ++ o.drop c).Perm (v :: o) := by
  rw [List.append_assoc]
  have h1 : (o.take c ++ ([v] ++ o.drop c)).Perm (v :: (o.take c ++ o.drop c)) := List.perm_middle
  rwa [List.take_append_drop] at h1

theorem w9Order_ok {b : List Int} {i : Int} (h : DK b i) (z : Int) (n : Nat) (h16 : n ≤ 16) :
    ∃ y, D.y b i z (n : Int) = some y ∧ (y.1.length = n ∧ (∀ x ∈ y.1, 0 ≤ x ∧ x < n) ∧ y.1.Nodup ∧ y.2.1 = b ∧ DK b y.2.2.1) := by
  unfold D.y
  refine loop_then (fun s => ∃ v : Nat, s.2.1 = (v : Int) ∧ v ≤ n ∧ s.2.2.1 = b ∧ DK b s.2.2.2.1 ∧ s.1.length = v ∧ (∀ x ∈ s.1, 0 ≤ x ∧ x < v) ∧ s.1.Nodup) (fun s => n - s.2.1.toNat)
    (fun r => r.1.length = n ∧ (∀ x ∈ r.1, 0 ≤ x ∧ x < n) ∧ r.1.Nodup ∧ r.2.1 = b ∧ DK b r.2.2.1) ?_ ⟨0, rfl, by omega, rfl, h, rfl, by simp, by simp⟩ ?_
  · rintro ⟨o, _, _, i, z⟩ ⟨v, rfl, hv, rfl, hk, hl, hr, hn⟩
    dsimp only at hk hl hr hn ⊢
    by_cases hvn : v < n
    · have ew : IntKind.i64.wrap ((o.length : Int) + 1) = (v : Int) + 1 := by rw [w64 (by omega) (by omega)]; omega
      simp only [dlt hvn, cond_true, ew]
      refine bind_then _ (below_then hk z ((v : Int) + 1) (by omega)) ?_
      rintro ⟨t, b3, i3, z3⟩ ⟨t0, t1, rfl, hk'⟩
      dsimp only at t0 t1 hk' ⊢
      obtain ⟨c, rfl⟩ : ∃ c : Nat, t = c := ⟨t.toNat, by omega⟩
      have hc : c ≤ o.length := by omega
      simp only [sliceD_pre hc, sliceD_post hc, Option.bind_some]
      rw [appendD_ok (by simp; omega), Option.bind_some, appendD_ok (by simp; omega), Option.bind_some, appendD_ok (by simp; omega), Option.bind_some, wi (show v < 4611686018427387904 by omega)]
      have hp := insert_perm o c v
      rw [List.nil_append]
      refine ⟨_, rfl, ⟨v + 1, rfl, by omega, rfl, hk', by rw [hp.length_eq]; simp; omega, fun x hx => ?_, hp.nodup_iff.2 (List.nodup_cons.2 ⟨fun hm => by have := hr _ hm; omega, hn⟩)⟩, by dsimp only; omega⟩
      rcases List.mem_cons.1 (hp.mem_iff.1 hx) with rfl | hx
      · omega
      · have := hr x hx; omega
    · obtain rfl : v = n := by omega
      simp only [dnlt, cond_false]
      exact ⟨_, rfl, hl, hr, hn, rfl, hk⟩
  · rintro ⟨o, b3, i3, z3⟩ ⟨h1, h2, h3, rfl, h5⟩
    exact ⟨_, rfl, h1, h2, h3, rfl, h5⟩
end Go.Sx



/- Drawn orders, the other way: each number is put at a drawn place, what stands there moves on. Plain. -/
namespace Go.Sx
theorem ext_getD {a b : List Int} (hl : a.length = b.length) (h : ∀ j, j < a.length → a.getD j 0 = b.getD j 0) : a = b := by
  apply List.ext_getElem hl
  intro j h1 h2
  have := h j h1
  rwa [getD_lt h1, getD_lt h2] at this
theorem getD_set (l : List Int) (i j : Nat) (x : Int) (hi : i < l.length) : (l.set i x).getD j 0 = if j = i then x else l.getD j 0 := by
  simp only [List.getD_eq_getElem?_getD, List.getElem?_set]
  by_cases h : j = i
  · subst h; simp [hi]
  · rw [if_neg (fun e => h e.symm), if_neg h]
end Go.Sx

/- Elimination: the filled neighbours and the later ones, by what they have. Plain. -/
namespace Go.Sx
/-- is w a neighbour of u, by masks -/
def nb (F : List Int) (u w : Nat) : Bool := has (F.getD u 0) w
/-- masks of a graph of n vertices -/
structure FOk (F : List Int) (n : Nat) : Prop where
  len : F.length = n
  vs : ∀ u, u < n → VS (F.getD u 0)
  lt : ∀ u w, u < n → nb F u w = true → w < n
  irr : ∀ u, u < n → nb F u u = false
  sym : ∀ u w, u < n → nb F u w = true → nb F w u = true

theorem FOk.ext {F F' : List Int} {n : Nat} (h : F.length = n) (h' : F'.length = n) (v : ∀ u, u < n → VS (F.getD u 0)) (v' : ∀ u, u < n → VS (F'.getD u 0)) (e : ∀ u w, u < n → nb F u w = nb F' u w) : F = F' := by
  refine ext_getD (by omega) (fun j hj => ?_)
  exact (v j (by omega)).ext (v' j (by omega)) (fun w _ => e j w (by omega))

theorem getD_map_mk (g : List (List Int)) (u : Nat) : (g.map mk).getD u 0 = mk (row g u) := by
  unfold row
  simp only [List.getD_eq_getElem?_getD, List.getElem?_map]
  cases g[u]? with
  | none => simp [mk]
  | some r => rfl
theorem nb_mk {g : List (List Int)} (hg : GOk g) {u w : Nat} (hu : u < g.length) : nb (g.map mk) u w = true ↔ adj g u w := by
  have h16 := hg.n16
  unfold nb
  rw [getD_map_mk, has_mk (fun x hx => by have := (hg.rows u hu).2 x hx; omega)]
  simp [adj]
theorem FOk.of {g : List (List Int)} (hg : GOk g) : FOk (g.map Sx.mk) g.length := by
  refine ⟨by simp, fun u _ => by rw [getD_map_mk]; exact VS.mk _, fun u w hu h => hg.lt hu ((nb_mk hg hu).1 h), fun u hu => ?_, fun u w hu h => ?_⟩
  · cases h : nb (g.map Sx.mk) u u
    · rfl
    · exact absurd ((nb_mk hg hu).1 h) (hg.irr u hu)
  · have ha := (nb_mk hg hu).1 h
    exact (nb_mk hg (hg.lt hu ha)).2 (hg.sym u w hu ha)

/-- the graph of masks -/
def grow (F : List Int) : List (List Int) := F.map elems
theorem row_grow (F : List Int) (u : Nat) : row (grow F) u = elems (F.getD u 0) := by
  unfold row grow
  simp only [List.getD_eq_getElem?_getD, List.getElem?_map]
  cases F[u]? with
  | none => simp [elems_zero]
  | some r => rfl
theorem adj_grow {F : List Int} {n u w : Nat} (h : FOk F n) (hu : u < n) : adj (grow F) u w ↔ nb F u w = true := by
  unfold adj nb
  rw [row_grow, mem_elems_nat (h.vs u hu)]
theorem GOk.grow {F : List Int} {n : Nat} (h : FOk F n) (h1 : 1 ≤ n) (h16 : n ≤ 16) : GOk (grow F) := by
  have hl : (Sx.grow F).length = n := by unfold Sx.grow; rw [List.length_map, h.len]
  refine ⟨by omega, by omega, fun v hv => ?_, fun v hv ha => ?_, fun u v hu ha => ?_⟩
  · rw [row_grow, hl]
    refine ⟨elems_inc _, fun x hx => ?_⟩
    obtain ⟨w, _, h2, rfl⟩ := mem_elems.1 hx
    have := h.lt v w (by omega) h2
    omega
  · rw [adj_grow h (by omega)] at ha
    rw [h.irr v (by omega)] at ha; cases ha
  · rw [adj_grow h (by omega)] at ha
    have := h.lt u v (by omega) ha
    rw [adj_grow h (by omega)]
    exact h.sym u v (by omega) ha
theorem mk_elems {s : Int} (h : VS s) : mk (elems s) = s := by
  refine (VS.mk _).ext h (fun v hv => ?_)
  rw [has_mk (fun x hx => by obtain ⟨w, h1, _, rfl⟩ := mem_elems.1 hx; omega), Bool.eq_iff_iff, decide_eq_true_eq, mem_elems_nat h]
theorem all_mask : ∀ n : Fin 17, ∀ v : Fin 32, has (IntKind.u32.wrap (ishl .u32 1 (n.val : Int) - 1)) v.val = decide (v.val < n.val) := by decide +kernel
/-- the order is a perfect elimination order -/
def PEO (F : List Int) (o : List Int) : Prop := ∀ (j : Nat) (v u w : Nat), o[j]? = some (v : Int) → nb F v u = true → nb F v w = true → (u : Int) ∉ o.take (j + 1) → (w : Int) ∉ o.take (j + 1) → u ≠ w → nb F u w = true
/-- later neighbours -/
def Lat (F L : List Int) (o : List Int) (i : Nat) : Prop := ∀ (j : Nat) (v : Nat), j < i → o[j]? = some (v : Int) → ∀ w, nb L v w = (nb F v w && decide ((w : Int) ∉ o.take (j + 1)))

structure EInv (n : Nat) (F0 o : List Int) (i : Nat) (F L : List Int) (left : Int) : Prop where
  f : FOk F n
  lenL : L.length = n
  vsL : ∀ u, u < n → VS (L.getD u 0)
  vsl : VS left
  left : ∀ v, has left v = decide (v < n ∧ (v : Int) ∉ o.take i)
  mono : ∀ u w, u < n → nb F0 u w = true → nb F u w = true
  lat : Lat F L o i
  peo : ∀ (j : Nat) (v u w : Nat), j < i → o[j]? = some (v : Int) → nb F v u = true → nb F v w = true → (u : Int) ∉ o.take (j + 1) → (w : Int) ∉ o.take (j + 1) → u ≠ w → nb F u w = true
  same : PEO F0 o → F = F0

theorem mem_take_mono {o : List Int} {j i : Nat} (h : j ≤ i) {x : Int} (hx : x ∈ o.take j) : x ∈ o.take i := by
  rw [mem_take_iff] at hx ⊢
  obtain ⟨k, h1, h2, h3⟩ := hx
  exact ⟨k, h1, by omega, h3⟩

theorem EInv.step {n : Nat} {F0 o F L : List Int} {i v : Nat} {left : Int} (h16 : n ≤ 16) (hn : ∀ x ∈ o, 0 ≤ x ∧ x < n) (hnd : o.Nodup) (hi : i < o.length) (hv : o[i] = (v : Int)) (h : EInv n F0 o i F L left) {F' : List Int}
    (hl' : F'.length = n) (hv' : ∀ u, u < n → VS (F'.getD u 0)) (h' : ∀ u w, u < n → nb F' u w = (nb F u w || (has (iand .u32 (F.getD v 0) (iandNot .u32 left (ishl .u32 1 (v : Int)))) u && has (iand .u32 (F.getD v 0) (iandNot .u32 left (ishl .u32 1 (v : Int)))) w && decide (w ≠ u)))) :
    EInv n F0 o (i + 1) F' (L.set v (iand .u32 (F.getD v 0) (iandNot .u32 left (ishl .u32 1 (v : Int))))) (iandNot .u32 left (ishl .u32 1 (v : Int))) := by
  have hvn : v < n := by have := hn _ (List.getElem_mem hi); omega
  have hvt : (v : Int) ∉ o.take i := by rw [← hv]; exact nodup_iff.1 hnd i hi
  have htk : ∀ x : Nat, ((x : Int) ∈ o.take (i + 1)) ↔ ((x : Int) ∈ o.take i ∨ x = v) := fun x => by
    rw [List.take_succ_eq_append_getElem hi, List.mem_append, hv]; simp [Int.natCast_inj]
  have hleft : ∀ w, has (iandNot .u32 left (ishl .u32 1 (v : Int))) w = decide (w < n ∧ (w : Int) ∉ o.take (i + 1)) := fun w => by
    rw [has_iandNot h.vsl (VS.ishl _ _), has_one (by omega), h.left, Bool.eq_iff_iff]
    simp only [Bool.and_eq_true, decide_eq_true_eq, Bool.not_eq_true', decide_eq_false_iff_not, htk]
    constructor
    · rintro ⟨⟨a, b⟩, c⟩; exact ⟨a, fun hh => hh.elim b c⟩
    · rintro ⟨a, b⟩; exact ⟨⟨a, fun hh => b (.inl hh)⟩, fun hh => b (.inr hh)⟩
  have hS : ∀ w, has (iand .u32 (F.getD v 0) (iandNot .u32 left (ishl .u32 1 (v : Int)))) w = (nb F v w && decide ((w : Int) ∉ o.take (i + 1))) := fun w => by
    rw [has_iand (h.f.vs v hvn) (VS.iandNot _ _), hleft, Bool.eq_iff_iff]
    show (nb F v w && _) = true ↔ _
    simp only [Bool.and_eq_true, decide_eq_true_eq]
    exact ⟨fun ⟨a, b, c⟩ => ⟨a, c⟩, fun ⟨a, c⟩ => ⟨a, h.f.lt v w hvn a, c⟩⟩
  have hlV : VS (iandNot .u32 left (ishl .u32 1 (v : Int))) := VS.iandNot _ _
  generalize iandNot .u32 left (ishl .u32 1 (v : Int)) = left' at *
  generalize hSS : iand .u32 (F.getD v 0) left' = S at *
  have hSV : VS S := by rw [← hSS]; exact VS.iand _ _
  have hSlt : ∀ w, has S w = true → w < n ∧ (w : Int) ∉ o.take (i + 1) := fun w hw => by
    rw [hS] at hw
    simp only [Bool.and_eq_true, decide_eq_true_eq] at hw
    exact ⟨h.f.lt v w hvn hw.1, hw.2⟩
  have hmono : ∀ u w, u < n → nb F u w = true → nb F' u w = true := fun u w hu hh => by rw [h' u w hu, hh]; rfl
  -- rows of those that are gone do not change
  have hold : ∀ x : Nat, x < n → (x : Int) ∈ o.take (i + 1) → ∀ w, nb F' x w = nb F x w := fun x hx hm w => by
    rw [h' x w hx]
    have : has S x = false := by
      cases hc : has S x
      · rfl
      · exact absurd hm (hSlt x hc).2
    simp [this]
  have hf' : FOk F' n := by
    refine ⟨hl', hv', fun u w hu hh => ?_, fun u hu => ?_, fun u w hu hh => ?_⟩
    · rw [h' u w hu] at hh
      simp only [Bool.or_eq_true, Bool.and_eq_true] at hh
      rcases hh with hh | ⟨⟨_, hh⟩, _⟩
      · exact h.f.lt u w hu hh
      · exact (hSlt w hh).1
    · rw [h' u u hu, h.f.irr u hu]; simp
    · rw [h' u w hu] at hh
      simp only [Bool.or_eq_true, Bool.and_eq_true, decide_eq_true_eq] at hh
      rcases hh with hh | ⟨⟨h1, h2⟩, h3⟩
      · exact hmono w u (h.f.lt u w hu hh) (h.f.sym u w hu hh)
      · rw [h' w u (hSlt w h2).1, h1, h2]
        have : decide (u ≠ w) = true := by simpa using fun e => h3 e.symm
        simp [this]
  have hjv : ∀ j (x : Nat), o[j]? = some (x : Int) → j < o.length ∧ x < n ∧ (x : Int) ∈ o.take (j + 1) := fun j x hx => by
    obtain ⟨h1, h2⟩ := List.getElem?_eq_some_iff.1 hx
    have := hn _ (List.getElem_mem h1)
    refine ⟨h1, by omega, ?_⟩
    rw [mem_take_iff]; exact ⟨j, h1, by omega, h2⟩
  refine ⟨hf', by simp [h.lenL], fun u hu => ?_, hlV, hleft, fun u w hu hh => hmono u w hu (h.mono u w hu hh), fun j x hj hx w => ?_, fun j x u w hj hx h1 h2 h3 h4 h5 => ?_, fun hp => ?_⟩
  · rw [getD_set _ _ _ _ (by rw [h.lenL]; exact hvn)]
    split
    · exact hSV
    · exact h.vsL u hu
  · obtain ⟨k1, k2, k3⟩ := hjv j x hx
    have k4 := mem_take_mono (show j + 1 ≤ i + 1 by omega) k3
    rw [hold x k2 k4 w]
    unfold nb
    rw [getD_set _ _ _ _ (by rw [h.lenL]; exact hvn)]
    by_cases hji : j = i
    · subst hji
      rw [List.getElem?_eq_getElem hi, hv] at hx
      have : x = v := by
        have : (v : Int) = (x : Int) := by simpa using hx
        omega
      subst this
      rw [if_pos rfl, hS]; rfl
    · have hne : x ≠ v := fun e => by
        subst e
        exact hvt (mem_take_mono (show j + 1 ≤ i by omega) k3)
      rw [if_neg hne]
      exact h.lat j x (by omega) hx w
  · obtain ⟨k1, k2, k3⟩ := hjv j x hx
    have k4 := mem_take_mono (show j + 1 ≤ i + 1 by omega) k3
    rw [hold x k2 k4] at h1 h2
    by_cases hji : j = i
    · subst hji
      rw [List.getElem?_eq_getElem hi, hv] at hx
      have : x = v := by
        have : (v : Int) = (x : Int) := by simpa using hx
        omega
      subst this
      have hu : has S u = true := by rw [hS, h1]; simpa using h3
      have hw : has S w = true := by rw [hS, h2]; simpa using h4
      rw [h' u w (hSlt u hu).1, hu, hw]
      have : decide (w ≠ u) = true := by simpa using fun e => h5 e.symm
      simp [this]
    · exact hmono u w (h.f.lt x u k2 h1) (h.peo j x u w (by omega) hx h1 h2 h3 h4 h5)
  · have hFF := h.same hp
    subst hFF
    refine FOk.ext hl' h.f.len hv' h.f.vs (fun u w hu => ?_)
    rw [h' u w hu, Bool.eq_iff_iff]
    simp only [Bool.or_eq_true, Bool.and_eq_true, decide_eq_true_eq]
    constructor
    · rintro (hh | ⟨⟨h1, h2⟩, h3⟩)
      · exact hh
      · have k1 := (hSlt u h1).2; have k2 := (hSlt w h2).2
        rw [hS] at h1 h2
        simp only [Bool.and_eq_true] at h1 h2
        exact hp i v u w (by rw [List.getElem?_eq_getElem hi, hv]) h1.1 h2.1 k1 k2 (fun e => h3 e.symm)
    · exact .inl

end Go.Sx

/- How many a set has. Plain. -/
namespace Go.Sx
end Go.Sx

/- Trees of bags: the reference's own check, where it answers true. Plain. -/
namespace Go.Sx
theorem nodup_le : ∀ {l m : List Int}, l.Nodup → (∀ x ∈ l, x ∈ m) → l.length ≤ m.length
  | [], _, _, _ => by simp
  | x :: l, m, h, hs => by
    have h' := List.nodup_cons.1 h
    have hx := hs x (by simp)
    have := nodup_le (l := l) (m := m.erase x) h'.2 (fun y hy => by
      have hne : y ≠ x := fun e => h'.1 (e ▸ hy)
      exact (List.mem_erase_of_ne hne).2 (hs y (by simp [hy])))
    rw [List.length_erase_of_mem hx] at this
    have hp : 0 < m.length := List.length_pos_of_mem hx
    simp; omega
theorem Inc.nodup {l : List Int} (h : Inc l) : l.Nodup := List.Pairwise.imp (fun h e => by omega) h

theorem l1All_eq (n : Nat) (hn : n ≤ 4294967295) : D.t (n : Int) = some ((List.range n).map Int.ofNat) := by
  unfold D.t
  refine (loop_to (fun i => ((List.range i).map Int.ofNat, (i : Int))) n ((List.range n).map Int.ofNat) (by simp) (fun i hi => ?_) ?_).trans rfl
  · simp only [dlt hi, cond_true, wi (show i < 4611686018427387904 by omega)]
    rw [appendD_ok (by simp; omega), Option.bind_some, List.range_succ, List.map_append]; rfl
  · simp only [dnlt, cond_false]

theorem l8Meet_eq (a b : List Int) (ha : Sh a) (hb : Sh b) : D.p a b = some (a.filter fun x => decide (x ∈ b)) := by
  unfold Sh at ha
  unfold D.p
  have key : ∀ (k i : Nat), i + k = a.length → ∃ y, (loopF (σ := (List Int) × Int) (ρ := ((List Int))) (fun (s_78 : (List Int) × Int) => match s_78 with | (l_81, x_86) => cond (decide (x_86 < (a.length : Int))) ((idx a x_86).bind fun e_127 => (D.i b e_127).bind fun y_133 => cond y_133 ((idx a x_86).bind fun e_141 => (appendD l_81 ([e_141] : List Int)).bind fun l_151 => some (.inl (l_151, (IntKind.i64.wrap (x_86 + 1))))) (some (.inl (l_81, (IntKind.i64.wrap (x_86 + 1)))))) (some (.inr l_81))) ((a.take i).filter (fun x => decide (x ∈ b)), (i : Int))) = some y ∧ y = a.filter fun x => decide (x ∈ b) := by
    intro k
    induction k with
    | zero =>
      intro i hi
      obtain rfl : i = a.length := by omega
      rw [List.take_length]
      exact ⟨_, loopF_done (by simp only [dnlt, cond_false]), rfl⟩
    | succ k ih =>
      intro i hi
      have hil : i < a.length := by omega
      obtain ⟨y, h1, h2⟩ := ih (i + 1) (by omega)
      refine ⟨y, ?_, h2⟩
      rw [loopF_more]
      · exact h1
      · have hlen : ((a.take i).filter (fun x => decide (x ∈ b))).length ≤ i := Nat.le_trans (List.length_filter_le _ _) (by simp; omega)
        rw [List.take_succ_eq_append_getElem hil, List.filter_append]
        simp only [dlt hil, cond_true, idx_nat hil, Option.bind_some, l1Has_eq b _ hb, wi (show i < 4611686018427387904 by omega)]
        by_cases hc : a[i] ∈ b
        · simp only [hc, decide_true, cond_true, List.filter_cons, if_true, List.filter_nil]
          rw [appendD_ok (by simp; omega)]; rfl
        · simp [hc]
  obtain ⟨y, h1, rfl⟩ := key a.length 0 (by omega)
  simp only [List.take_zero, List.filter_nil] at h1
  rw [show ((0 : Nat) : Int) = 0 from rfl] at h1
  rw [h1]; rfl
/-- which bags have a vertex -/
def withV (bags : List (List Int)) (v : Int) : List Int := ((List.range bags.length).filter fun b => decide (v ∈ bags.getD b [])).map Int.ofNat
/-- linked -/
def Lk (links : List (List Int)) (x y : Int) : Prop := [x, y] ∈ links ∨ [y, x] ∈ links
/-- m has the first of sel, and with each what is linked in sel -/
structure Closed (links : List (List Int)) (sel m : List Int) : Prop where
  sub : ∀ x ∈ m, x ∈ sel
  first : ∀ x, sel.head? = some x → x ∈ m
  step : ∀ x ∈ m, ∀ y ∈ sel, Lk links x y → y ∈ m

/-- all of sel hangs together -/
def Conn (links : List (List Int)) (sel : List Int) : Prop := ∀ m, Closed links sel m → ∀ x ∈ sel, x ∈ m
end Go.Sx

/- A tree of bags that is right, by the reference's own check. Plain. -/
namespace Go.Sx
/-- a link of two bags, the lesser one first -/
def LinkIn (n : Nat) (l : List Int) : Prop := ∃ a b : Nat, l = [(a : Int), (b : Int)] ∧ a < b ∧ b < n

/-- what a tree of bags of a graph is -/
structure TB (g bags links : List (List Int)) : Prop where
  n1 : 1 ≤ bags.length
  n16 : bags.length ≤ 16
  many : links.length + 1 = bags.length
  lks : ∀ l ∈ links, LinkIn bags.length l
  sets : ∀ b ∈ bags, SetOf b g.length
  tree : Conn links ((List.range bags.length).map Int.ofNat)
  edges : ∀ u v : Nat, u < g.length → adj g u v → ∃ b ∈ bags, (u : Int) ∈ b ∧ (v : Int) ∈ b
  some : ∀ v, v < g.length → withV bags v ≠ []
  conn : ∀ v, v < g.length → Conn links (withV bags v)

end Go.Sx

/- The edges of a graph, listed by the program and by the reference; the filled graph of an order. Plain. -/
namespace Go.Sx
theorem GOk.sh2 {g : List (List Int)} (hg : GOk g) : Sh2 g := by
  have h16 := hg.n16
  exact ⟨by unfold Sh; omega, fun r hr => by have := (hg.mem0 hr).1; unfold Sh; omega⟩
theorem gB_true {g : List (List Int)} (hg : GOk g) : gB g = true := (gB_iff g).2 hg
theorem nets_graph_eq (F : List Int) (h : F.length ≤ 16) (hV : ∀ u, u < F.length → VS (F.getD u 0)) : D.m0 F = some (grow F) := by
  unfold D.m0
  refine (loop_map F (fun s i => (i, s)) elems (by omega) (fun s i hi _ => ?_) (fun s => ?_)).trans rfl
  · have := hV i hi
    rw [getD_lt hi] at this
    simp only [dlt hi, cond_true, idx_nat hi, Option.bind_some, numbers_eq _ this, wi (show i < 4611686018427387904 by omega)]
  · simp only [dnlt, cond_false]

theorem OOk.sh {g : List (List Int)} {o : List Int} (hg : GOk g) (ho : OOk g o) : Sh o := by
  have := hg.n16; have := ho.len; unfold Sh; omega
/-- what filling comes to -/
structure Fill (g : List (List Int)) (o F L : List Int) : Prop where
  elim : D.g1 (g.map mk) o = some (F, L)
  f : FOk F g.length
  lenL : L.length = g.length
  vsL : ∀ u, u < g.length → VS (L.getD u 0)
  mono : ∀ u w, u < g.length → adj g u w → nb F u w = true
  lat : Lat F L o g.length
  peo : PEO F o
  same : PEO (g.map mk) o → F = g.map mk

theorem grow_len (F : List Int) : (grow F).length = F.length := by simp [grow]
end Go.Sx

/- Who is left, cliques, and the reference's perfect orders, where there is one. Plain. -/
namespace Go.Sx
theorem l1Edge_eq (g : List (List Int)) (hg : GOk g) {u : Nat} (hu : u < g.length) (w : Int) : D.G g (u : Int) w = some (decide (w ∈ row g u)) := by
  unfold D.G
  rw [idx_row hu, Option.bind_some, l1Has_eq _ _ (hg.sh2.row hu)]; rfl

end Go.Sx

/- 'laws.FnFill' comes to true. Plain. -/
namespace Go.Sx
theorem l1There_eq {g : List (List Int)} (hg : GOk g) {u : Nat} (hu : u < g.length) : D.K g (u : Int) = some true := by
  have := hg.n16
  unfold D.K D.g
  simp only [Option.bind_some, l1In_eq]
  rw [w64 (by omega) (by omega)]
  simp; omega
theorem spec_EdgeIn_true {g : List (List Int)} (hg : GOk g) {u v : Nat} (hu : u < g.length) (ha : adj g u v) : D.p0 g (u : Int) (v : Int) = some true := by
  unfold D.p0
  rw [spec_GraphOk_eq g hg.sh2, gB_true hg]
  simp only [Option.bind_some, cond_true, l1There_eq hg hu, l1There_eq hg (hg.lt hu ha), l1Edge_eq g hg hu]
  rw [decide_eq_true (show (v : Int) ∈ row g u from ha)]

end Go.Sx

/- Sets in the order of their elements, and by size first: what the program's comparisons say, by a key. Plain. -/
namespace Go.Sx
/-- comparing lists -/
def cz : List Int → List Int → Int
  | [], [] => 0
  | [], _ :: _ => -1
  | _ :: _, [] => 1
  | a :: x, b :: y => if a < b then -1 else if b < a then 1 else cz x y
theorem cz_range : ∀ x y, cz x y = -1 ∨ cz x y = 0 ∨ cz x y = 1
  | [], [] => .inr (.inl rfl)
  | [], _ :: _ => .inl rfl
  | _ :: _, [] => .inr (.inr rfl)
  | a :: x, b :: y => by
    unfold cz
    split
    · exact .inl rfl
    · split
      · exact .inr (.inr rfl)
      · exact cz_range x y
theorem cmp_int (a b : Int) : D.N a b = some (if a < b then -1 else if b < a then 1 else 0) := by
  unfold D.N D.f
  simp only [bne_self_eq_false, Option.bind_some, cond_false]
  by_cases h : a < b
  · simp [h]
  · by_cases h2 : b < a <;> simp [h, h2]
theorem compare_eq (x y : List Int) (hx : Sh x) (hy : Sh y) : D.P x y = some (cz x y) := by
  unfold Sh at hx hy
  unfold D.P
  have key : ∀ (K : Unit ⊕ Int → Option Int), K (.inl ()) = cond (decide ((x.length : Int) < (y.length : Int))) (some (-1)) (some 0) → (∀ z, K (.inr z) = some z) → ∀ (k i : Nat), i + k = x.length → (i ≤ y.length) → (loopF (σ := Int) (ρ := (Unit) ⊕ (Int)) (fun (x_54 : Int) => cond (decide (x_54 < (x.length : Int))) ((idx x x_54).bind fun e_81 => cond (decide ((y.length : Int) ≤ x_54)) (some (.inr (.inr 1))) ((idx y x_54).bind fun e_88 => (D.N e_81 e_88).bind fun y_94 => cond (y_94 != 0) (some (.inr (.inr y_94))) (some (.inl (IntKind.i64.wrap (x_54 + 1)))))) (some (.inr (.inl ())))) (i : Int)).bind K = some (cz (x.drop i) (y.drop i)) := by
    intro K hK1 hK2 k
    induction k with
    | zero =>
      intro i hi hiy
      obtain rfl : i = x.length := by omega
      rw [loopF_done (r := Sum.inl ()) (by simp only [dnlt, cond_false])]
      simp only [Option.bind_some, List.drop_length, hK1]
      by_cases h : x.length < y.length
      · have e : decide ((x.length : Int) < (y.length : Int)) = true := by simp; omega
        rw [e, cond_true, List.drop_eq_getElem_cons h]; rfl
      · have e : decide ((x.length : Int) < (y.length : Int)) = false := by simp; omega
        rw [e, cond_false, List.drop_eq_nil_of_le (by omega)]; rfl
    | succ k ih =>
      intro i hi hiy
      have hix : i < x.length := by omega
      by_cases h : i < y.length
      · have e : decide ((y.length : Int) ≤ (i : Int)) = false := by simp; omega
        rw [List.drop_eq_getElem_cons hix, List.drop_eq_getElem_cons h]
        by_cases h1 : x[i] < y[i]
        · rw [loopF_done (r := Sum.inr (-1)) (by simp only [dlt hix, cond_true, idx_nat hix, idx_nat h, Option.bind_some, e, cond_false, cmp_int, h1, if_true]; rfl), Option.bind_some, hK2]
          simp [cz, h1]
        · by_cases h2 : y[i] < x[i]
          · rw [loopF_done (r := Sum.inr 1) (by simp only [dlt hix, cond_true, idx_nat hix, idx_nat h, Option.bind_some, e, cond_false, cmp_int, h1, h2, if_true, if_false]; rfl), Option.bind_some, hK2]
            simp [cz, h1, h2]
          · rw [loopF_more (s' := ((i + 1 : Nat) : Int)) (by simp only [dlt hix, cond_true, idx_nat hix, idx_nat h, Option.bind_some, e, cond_false, cmp_int, h1, h2, if_false, wi (show i < 4611686018427387904 by omega)]; rfl), ih (i + 1) (by omega) (by omega)]
            simp [cz, h1, h2]
      · obtain rfl : i = y.length := by omega
        have e : decide ((y.length : Int) ≤ (y.length : Int)) = true := by simp
        rw [loopF_done (r := Sum.inr 1) (by simp only [dlt hix, cond_true, idx_nat hix, Option.bind_some, e]), Option.bind_some, hK2]
        simp only [List.drop_length]
        rw [List.drop_eq_getElem_cons hix]; rfl
  exact key _ rfl (fun _ => rfl) x.length 0 (by omega) (by omega)

/-! ### a key for lists -/
def lk : Nat → List Int → Int
  | 0, _ => 0
  | _ + 1, [] => 0
  | d + 1, a :: l => (a + 1) * 33 ^ d + lk d l
theorem pow33 (d : Nat) : (1 : Int) ≤ 33 ^ d := by
  have : (0 : Int) < 33 ^ d := Int.pow_pos (by omega)
  omega
theorem lk_bound : ∀ (d : Nat) (l : List Int), (∀ x ∈ l, 0 ≤ x ∧ x < 32) → 0 ≤ lk d l ∧ lk d l < 33 ^ d
  | 0, l, _ => by simp [lk]
  | d + 1, [], _ => by have := pow33 (d + 1); simp only [lk]; omega
  | d + 1, a :: l, h => by
    have h1 := lk_bound d l (fun x hx => h x (List.mem_cons_of_mem _ hx))
    have ha := h a (by simp)
    have hp := pow33 d
    simp only [lk]
    generalize hq : (33 : Int) ^ d = p at *
    have e : (33 : Int) ^ (d + 1) = p * 33 := by rw [← hq, Int.pow_succ]
    rw [e]
    have h2 : (a + 1) * p ≤ 32 * p := Int.mul_le_mul_of_nonneg_right (by omega) (by omega)
    have h3 : 0 ≤ (a + 1) * p := Int.mul_nonneg (by omega) (by omega)
    omega
theorem lk_cmp : ∀ (d : Nat) (x y : List Int), x.length ≤ d → y.length ≤ d → (∀ z ∈ x, 0 ≤ z ∧ z < 32) → (∀ z ∈ y, 0 ≤ z ∧ z < 32) → (cz x y < 0 ↔ lk d x < lk d y)
  | d, [], [], _, _, _, _ => by cases d <;> simp [cz, lk]
  | 0, _ :: _, _, h, _, _, _ => by simp at h
  | 0, _, _ :: _, _, h, _, _ => by simp at h
  | d + 1, [], b :: y, _, h, _, hy => by
    have h1 := lk_bound d y (fun x hx => hy x (List.mem_cons_of_mem _ hx))
    have hb := hy b (by simp)
    have hp := pow33 d
    simp only [cz, lk]
    have h3 : 1 * (33 : Int) ^ d ≤ (b + 1) * 33 ^ d := Int.mul_le_mul_of_nonneg_right (by omega) (by omega)
    constructor
    · intro _; omega
    · intro _; omega
  | d + 1, a :: x, [], h, _, hx, _ => by
    have h1 := lk_bound d x (fun z hz => hx z (List.mem_cons_of_mem _ hz))
    have ha := hx a (by simp)
    have hp := pow33 d
    simp only [cz, lk]
    have h3 : 1 * (33 : Int) ^ d ≤ (a + 1) * 33 ^ d := Int.mul_le_mul_of_nonneg_right (by omega) (by omega)
    constructor
    · intro hc; omega
    · intro hc; omega
  | d + 1, a :: x, b :: y, hlx, hly, hx, hy => by
    have ih := lk_cmp d x y (by simpa using hlx) (by simpa using hly) (fun z hz => hx z (List.mem_cons_of_mem _ hz)) (fun z hz => hy z (List.mem_cons_of_mem _ hz))
    have h1 := lk_bound d x (fun z hz => hx z (List.mem_cons_of_mem _ hz))
    have h2 := lk_bound d y (fun z hz => hy z (List.mem_cons_of_mem _ hz))
    have hp := pow33 d
    simp only [cz, lk]
    by_cases hab : a < b
    · rw [if_pos hab]
      have h3 : (a + 1 + 1) * (33 : Int) ^ d ≤ (b + 1) * 33 ^ d := Int.mul_le_mul_of_nonneg_right (by omega) (by omega)
      have h4 : (a + 1 + 1) * (33 : Int) ^ d = (a + 1) * 33 ^ d + 33 ^ d := by rw [Int.add_mul (a + 1) 1, Int.one_mul]
      constructor
      · intro _; omega
      · intro _; omega
    · by_cases hba : b < a
      · rw [if_neg hab, if_pos hba]
        have h3 : (b + 1 + 1) * (33 : Int) ^ d ≤ (a + 1) * 33 ^ d := Int.mul_le_mul_of_nonneg_right (by omega) (by omega)
        have h4 : (b + 1 + 1) * (33 : Int) ^ d = (b + 1) * 33 ^ d + 33 ^ d := by rw [Int.add_mul (b + 1) 1, Int.one_mul]
        constructor
        · intro hc; omega
        · intro hc; omega
      · rw [if_neg hab, if_neg hba]
        obtain rfl : a = b := by omega
        rw [ih]; omega
theorem cz_zero : ∀ x y, cz x y = 0 ↔ x = y
  | [], [] => by simp [cz]
  | [], _ :: _ => by simp [cz]
  | _ :: _, [] => by simp [cz]
  | a :: x, b :: y => by
    unfold cz
    by_cases h : a < b
    · simp [h]; omega
    · by_cases h2 : b < a
      · simp [h, h2]; omega
      · obtain rfl : a = b := by omega
        simp [cz_zero x y]
theorem cz_anti : ∀ x y, cz y x = - cz x y
  | [], [] => rfl
  | [], _ :: _ => rfl
  | _ :: _, [] => rfl
  | a :: x, b :: y => by
    unfold cz
    by_cases h : a < b
    · have h2 : ¬ b < a := by omega
      simp [h, h2]
    · by_cases h2 : b < a
      · simp [h, h2]
      · simp [h, h2, cz_anti x y]
theorem lk_inj {d : Nat} {x y : List Int} (hx : x.length ≤ d) (hy : y.length ≤ d) (h1 : ∀ z ∈ x, 0 ≤ z ∧ z < 32) (h2 : ∀ z ∈ y, 0 ≤ z ∧ z < 32) (h : lk d x = lk d y) : x = y := by
  have a := lk_cmp d x y hx hy h1 h2
  have b := lk_cmp d y x hy hx h2 h1
  rw [cz_anti x y] at b
  rw [← cz_zero]
  rcases cz_range x y with e | e | e <;> omega

/-! ### the two comparisons of sets -/
theorem elems_rng (s : Int) : ∀ z ∈ elems s, 0 ≤ z ∧ z < 32 := fun z hz => by
  obtain ⟨v, h1, _, rfl⟩ := mem_elems.1 hz; omega
def lkey (s : Int) : Int := lk 32 (elems s)
theorem elems_inj {s t : Int} (hs : VS s) (ht : VS t) (h : elems s = elems t) : s = t := by rw [← mk_elems hs, ← mk_elems ht, h]
theorem lkey_inj {s t : Int} (hs : VS s) (ht : VS t) (h : lkey s = lkey t) : s = t :=
  elems_inj hs ht (lk_inj (elems_len s) (elems_len t) (elems_rng s) (elems_rng t) h)
theorem compareSets_eq {s t : Int} (hs : VS s) (ht : VS t) : D.b s t = some (cz (elems s) (elems t)) := by
  unfold D.b
  rw [list_eq s hs, Option.bind_some, list_eq t ht, Option.bind_some, compare_eq _ _ (elems_sh s) (elems_sh t)]
  rfl
noncomputable abbrev byLex : Gs.Srtd Int where
  dflt := 0
  key := lkey
  good := VS
  cmp := D.b
  law := fun s t hs ht => ⟨_, compareSets_eq hs ht, by rw [decide_eq_decide]; exact lk_cmp 32 _ _ (elems_len s) (elems_len t) (elems_rng s) (elems_rng t)⟩
/-- a list that rises by an injective key is the only one of its elements -/
theorem rise_unique {k : Int → Int} : ∀ {l l' : List Int}, l.Pairwise (fun a b => k a < k b) → l'.Pairwise (fun a b => k a < k b) → (∀ x, x ∈ l ↔ x ∈ l') → l = l'
  | [], [], _, _, _ => rfl
  | [], y :: l', _, _, h => by have := (h y).2 (by simp); simp at this
  | x :: l, [], _, _, h => by have := (h x).1 (by simp); simp at this
  | x :: l, y :: l', h1, h2, h => by
    have h1' := List.pairwise_cons.1 h1; have h2' := List.pairwise_cons.1 h2
    have e : x = y := by
      rcases List.mem_cons.1 ((h x).1 (by simp)) with e | e
      · exact e
      · rcases List.mem_cons.1 ((h y).2 (by simp)) with e' | e'
        · exact e'.symm
        · have := h2'.1 x e; have := h1'.1 y e'; omega
    subst e
    have : l = l' := by
      refine rise_unique h1'.2 h2'.2 (fun z => ?_)
      constructor
      · intro hz
        rcases List.mem_cons.1 ((h z).1 (List.mem_cons_of_mem _ hz)) with e | e
        · subst e; have := h1'.1 z hz; omega
        · exact e
      · intro hz
        rcases List.mem_cons.1 ((h z).2 (List.mem_cons_of_mem _ hz)) with e | e
        · subst e; have := h2'.1 z hz; omega
        · exact e
    rw [this]
/-- what sorting comes to: the things in the order of their keys -/
theorem sorted_rise (I : Gs.Srtd Int) (hinj : ∀ x y, I.good x → I.good y → I.key x = I.key y → x = y) (l : List Int) (hG : ∀ x ∈ l, I.good x) (hn : l.Nodup) (hlen : l.length ≤ 1000000) :
    ∃ l', DG.Sort I.cmp l = some l' ∧ List.Perm l' l ∧ l'.Pairwise (fun a b => I.key a < I.key b) := by
  obtain ⟨l', e, hp, hs⟩ := @Gs.sort_spec Int I l hG hlen
  refine ⟨l', e, hp, ?_⟩
  rw [List.pairwise_iff_getElem]
  intro i j hi hj hij
  have h := hs i j (by omega) (by omega) (by omega)
  unfold Gs.at' Gs.el at h
  rw [Int.toNat_natCast, Int.toNat_natCast, getD_lt hi, getD_lt hj] at h
  have hne : l'[i] ≠ l'[j] := fun e => by
    have hn' := hp.nodup_iff.2 hn
    have := (List.nodup_iff_pairwise_ne.1 hn')
    exact (List.pairwise_iff_getElem.1 this) i j hi hj hij e
  have g1 := hG _ (hp.mem_iff.1 (List.getElem_mem hi))
  have g2 := hG _ (hp.mem_iff.1 (List.getElem_mem hj))
  have hk : I.key l'[i] ≠ I.key l'[j] := fun e => hne (hinj _ _ g1 g2 e)
  omega
end Go.Sx

/- Sorts by a comparison are one sort. Plain, made by program. -/
namespace Go.Sx
theorem se_insertionSort_impl_vset_impl_compareSets : D.c1 = DG.insertionSort D.b := by kernel_rfl
theorem se_heapSort_impl_vset_impl_compareSets : D.b1 = DG.heapSort D.b := by kernel_rfl
theorem se_breakPatterns_impl_vset_impl_compareSets : D.X0 = DG.breakPatterns D.b := by kernel_rfl
theorem se_choosePivot_impl_vset_impl_compareSets : D.a1 = DG.choosePivot D.b := by kernel_rfl
theorem se_reverseRange_impl_vset_impl_compareSets : D.Y0 = DG.reverseRange D.b := by kernel_rfl
theorem se_partialInsertionSort_impl_vset_impl_compareSets : D.Z0 = DG.partialInsertionSort D.b := by kernel_rfl
theorem se_partitionEqual_impl_vset_impl_compareSets : D.U0 = DG.partitionEqual D.b := by kernel_rfl
theorem se_partition_impl_vset_impl_compareSets : D.d1 = DG.partition D.b := by kernel_rfl
theorem se_pdqsort_impl_vset_impl_compareSets : ∀ (n : Nat) x a b c, D.H0 n x a b c = DG.pdqsortR D.b n x a b c
  | 0, _, _, _, _ => rfl
  | n + 1, x, a, b, c => by
    unfold D.H0 DG.pdqsortR
    rw [se_insertionSort_impl_vset_impl_compareSets, se_heapSort_impl_vset_impl_compareSets, se_breakPatterns_impl_vset_impl_compareSets, se_choosePivot_impl_vset_impl_compareSets, se_reverseRange_impl_vset_impl_compareSets, se_partialInsertionSort_impl_vset_impl_compareSets, se_partitionEqual_impl_vset_impl_compareSets, se_partition_impl_vset_impl_compareSets, funext (fun x => funext fun a => funext fun b => funext fun c => se_pdqsort_impl_vset_impl_compareSets n x a b c)]
    kernel_rfl
theorem se_impl_vset_impl_compareSets (x) : D.R0 x = DG.Sort D.b x := by
  unfold D.R0 DG.Sort D.R DG.pdqsort
  simp only [se_pdqsort_impl_vset_impl_compareSets]
end Go.Sx

/- Sums over the first numbers, counted pairs; the first least of a list. Plain. -/
namespace Go.Sx
/-! ### sums -/
def sumN (f : Nat → Nat) : Nat → Nat
  | 0 => 0
  | n + 1 => sumN f n + f n
def bit (b : Bool) : Nat := if b then 1 else 0
/-- pairs that are so, by rows -/
def S2 (n : Nat) (p : Nat → Nat → Bool) : Nat := sumN (fun u => sumN (fun w => bit (p u w)) n) n
/-! ### the first least of a list -/
def ast (f : Int → Int) (s : Int × Int) (v : Int) : Int × Int := if s.1 < 0 ∨ f v < s.2 then (v, f v) else s
def amin (f : Int → Int) (l : List Int) : Int × Int := l.foldl (ast f) (-1, 0)
theorem ast_run (f : Int → Int) : ∀ (l : List Int) (b : Int), 0 ≤ b → (∀ x ∈ l, 0 ≤ x) → ∃ c, l.foldl (ast f) (b, f b) = (c, f c) ∧ (c = b ∨ c ∈ l) ∧ 0 ≤ c ∧ f c ≤ f b ∧ ∀ x ∈ l, f c ≤ f x
  | [], b, hb, _ => ⟨b, rfl, .inl rfl, hb, Int.le_refl _, by simp⟩
  | x :: l, b, hb, hl => by
    have hx := hl x (by simp)
    have hl' := fun y hy => hl y (List.mem_cons_of_mem x hy)
    rw [List.foldl_cons]
    by_cases hc : f x < f b
    · have e : ast f (b, f b) x = (x, f x) := by unfold ast; rw [if_pos (.inr hc)]
      rw [e]
      obtain ⟨c, h1, h2, h3, h4, h5⟩ := ast_run f l x hx hl'
      refine ⟨c, h1, .inr ?_, h3, by omega, fun y hy => ?_⟩
      · rcases h2 with rfl | h2
        · simp
        · exact List.mem_cons_of_mem _ h2
      · rcases List.mem_cons.1 hy with rfl | hy
        · exact h4
        · exact h5 y hy
    · have e : ast f (b, f b) x = (b, f b) := by unfold ast; rw [if_neg (fun h => h.elim (fun h => by dsimp only at h; omega) hc)]
      rw [e]
      obtain ⟨c, h1, h2, h3, h4, h5⟩ := ast_run f l b hb hl'
      refine ⟨c, h1, ?_, h3, h4, fun y hy => ?_⟩
      · rcases h2 with h2 | h2
        · exact .inl h2
        · exact .inr (List.mem_cons_of_mem _ h2)
      · rcases List.mem_cons.1 hy with rfl | hy
        · omega
        · exact h5 y hy
theorem ast_first (f : Int → Int) (x : Int) : ast f (-1, 0) x = (x, f x) := by unfold ast; rw [if_pos (.inl (by decide))]
theorem amin_ok (f : Int → Int) {l : List Int} (hne : l ≠ []) (hl : ∀ x ∈ l, 0 ≤ x) : ∃ c, amin f l = (c, f c) ∧ c ∈ l ∧ ∀ x ∈ l, f c ≤ f x := by
  cases l with
  | nil => exact absurd rfl hne
  | cons x l =>
    unfold amin
    rw [List.foldl_cons, ast_first]
    obtain ⟨c, h1, h2, h3, h4, h5⟩ := ast_run f l x (hl x (by simp)) (fun y hy => hl y (List.mem_cons_of_mem _ hy))
    refine ⟨c, h1, ?_, fun y hy => ?_⟩
    · rcases h2 with rfl | h2
      · simp
      · exact List.mem_cons_of_mem _ h2
    · rcases List.mem_cons.1 hy with rfl | hy
      · exact h4
      · exact h5 y hy
theorem elems_nonneg (s : Int) : ∀ x ∈ elems s, 0 ≤ x := fun x hx => by
  obtain ⟨v, _, _, rfl⟩ := mem_elems.1 hx; omega
def full (n : Nat) : Int := IntKind.u32.wrap (ishl .u32 1 (n : Int) - 1)
theorem full_vs (n : Nat) : VS (full n) := VS.wrap _
theorem has_full {n : Nat} (h : n ≤ 16) (v : Nat) : has (full n) v = decide (v < n) := by
  by_cases hv : v < 32
  · exact all_mask ⟨n, by omega⟩ ⟨v, hv⟩
  · rw [has_big (full_vs n) (by omega)]; symm; simp; omega
theorem nets_all_full (F : List Int) : D.J0 F = some (full F.length) := by
  unfold D.J0 D.W0
  have : decide ((F.length : Int) < 0) = false := by simp
  rw [this]; rfl
end Go.Sx

/- PathDecomp: the reference's and the program's are one. Plain. -/
namespace Go.Sx
section
variable {g : List (List Int)} {o : List Int} (hg : GOk g) (ho : OOk g o)
include hg ho
end

end Go.Sx

/- The bags of an order are a tree of bags, as wide as the order's separation; FnPathDecomp, plain. -/
namespace Go.Sx
section
variable {g : List (List Int)} {o : List Int} (hg : GOk g) (ho : OOk g o)
include hg ho

/-- the greatest of the first ones -/
def mx (f : Nat → Int) : Nat → Int
  | 0 => 0
  | n + 1 => max (mx f n) (f n)

end

end Go.Sx

/- The degeneracy: what both compute, and that no order's width is below it. Plain. -/
namespace Go.Sx
/-- neighbours within a set -/
def dg (g : List (List Int)) (s : Int) (v : Int) : Int := ((elems (iand .u32 (mk (row g v.toNat)) s)).length : Int)
/-- a set of some of the first vertices, of that many -/
structure SQ (n : Nat) (s : Int) (k : Nat) : Prop where
  vs : VS s
  lt : ∀ v, has s v = true → v < n
  card : (elems s).length = k
theorem SQ.ne {n k : Nat} {s : Int} (h : SQ n s (k + 1)) : elems s ≠ [] := fun e => by have := h.card; rw [e] at this; simp at this
theorem SQ.z {n : Nat} {s : Int} (h : SQ n s 0) : s = 0 := by
  rw [h.vs.eq_zero]
  intro v hv
  cases hc : has s v
  · rfl
  · have : (v : Int) ∈ elems s := (mem_elems_nat h.vs).2 hc
    have h0 := h.card
    rw [List.length_eq_zero_iff] at h0
    rw [h0] at this; simp at this
/-- the first least -/
theorem SQ.min {n k : Nat} {s : Int} (h : SQ n s (k + 1)) (f : Int → Int) : ∃ c : Nat, c < n ∧ has s c = true ∧ amin f (elems s) = ((c : Int), f c) ∧ ∀ v : Nat, has s v = true → f c ≤ f v := by
  obtain ⟨c, h1, h2, h3⟩ := amin_ok f h.ne (elems_nonneg s)
  obtain ⟨v, _, h5, rfl⟩ := mem_elems.1 h2
  exact ⟨v, h.lt v h5, h5, h1, fun w hw => h3 w ((mem_elems_nat h.vs).2 hw)⟩
end Go.Sx
