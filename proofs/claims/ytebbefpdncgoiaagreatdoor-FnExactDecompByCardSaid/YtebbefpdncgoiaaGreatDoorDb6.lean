/- Parts of the proof: LCW. -/
import Derived.Test.YtebbefpdncgoiaaGreatDoorDb5
import Derived.Test.YtebbefpdncgoiaaGreatDoorProg
import Derived.KernelRfl
set_option linter.unusedVariables false
set_option linter.unusedSimpArgs false
set_option linter.unusedSectionVars false
set_option maxRecDepth 100000
namespace Go.Proofs.YtebbefpdncgoiaaGreatDoor
open Go Go.Sx
theorem Ag27 : Agg Tryz.prog 27 2 := ⟨Tryz.isAgg27, Tryz.sizeOf27⟩
theorem T73 : SlT Tryz.prog 73 76 1 4 (.int .u32 0) := ⟨Tryz.underlying73, Tryz.t76, by kernel_rfl, by kernel_rfl, by kernel_rfl, by kernel_rfl⟩
theorem T94 : SlT Tryz.prog 94 3 1 8 (.int .i64 0) := ⟨Tryz.underlying94, Tryz.t3, by kernel_rfl, by kernel_rfl, by kernel_rfl, by kernel_rfl⟩
theorem Pl76 : Plain Tryz.prog 76 := Tryz.isAgg76

theorem Wk.spec_l1Min {W w : World} {G : GH} {H : List Itm} {x0 : Int} {x1 : Int} (m : Mem W G w (H))  {y : Int} (hd : D.spec_l1Min x0 x1 = some y) :
  Calls Tryz.prog 112 #[(.int .i64 x0), (.int .i64 x1)] w (Res W G H (fun _ Ho v => Ho = [] ∧ v = (.int .i64 y))) := by
 refine calls_b (args := [(.int .i64 x0), (.int .i64 x1)]) (N := 10) [.tmp 4] Tryz.func112 rfl rfl (Nat.le_of_ble_eq_true rfl) rfl fun a f => ?_
 unfold D.spec_l1Min at hd
 refine k_seq (k_region ?_)
 refine l_as f rfl rfl fun a f => l_nil (k_seq (k_seq (k_region ?_)))
 refine l_mv f rfl rfl fun a f => l_mv f rfl rfl fun a f => l_in f rfl rfl rfl b_lss fun a f => l_nil ?_
 rcases cond_some hd with ⟨aa, hd⟩ | ⟨aa, hd⟩
 ·refine k_true f rfl aa ?_
  refine k_seq (k_region ?_)
  refine l_mv f rfl rfl fun a f => l_as f rfl rfl fun a f => l_nil ?_
  refine k_ret ?_
  obtain rfl := sj hd
  exact ⟨[(.int .i64 x0)], ⟨f.get _ _ rfl, trivial⟩, f.defers, _, [], (GLe.refl _), m, rfl, rfl⟩
 ·refine k_false f rfl aa ?_
  refine k_skip ?_
  refine k_seq (k_region ?_)
  refine l_mv f rfl rfl fun a f => l_as f rfl rfl fun a f => l_nil ?_
  refine k_ret ?_
  obtain rfl := sj hd
  exact ⟨[(.int .i64 x1)], ⟨f.get _ _ rfl, trivial⟩, f.defers, _, [], (GLe.refl _), m, rfl, rfl⟩

theorem Wk.spec_l1Max {W w : World} {G : GH} {H : List Itm} {x0 : Int} {x1 : Int} (m : Mem W G w (H))  {y : Int} (hd : D.spec_l1Max x0 x1 = some y) :
  Calls Tryz.prog 102 #[(.int .i64 x0), (.int .i64 x1)] w (Res W G H (fun _ Ho v => Ho = [] ∧ v = (.int .i64 y))) := by
 refine calls_b (args := [(.int .i64 x0), (.int .i64 x1)]) (N := 10) [.tmp 4] Tryz.func102 rfl rfl (Nat.le_of_ble_eq_true rfl) rfl fun a f => ?_
 unfold D.spec_l1Max at hd
 refine k_seq (k_region ?_)
 refine l_as f rfl rfl fun a f => l_nil (k_seq (k_seq (k_region ?_)))
 refine l_mv f rfl rfl fun a f => l_mv f rfl rfl fun a f => l_in f rfl rfl rfl b_gtr fun a f => l_nil ?_
 rcases cond_some hd with ⟨aa, hd⟩ | ⟨aa, hd⟩
 ·refine k_true f rfl aa ?_
  refine k_seq (k_region ?_)
  refine l_mv f rfl rfl fun a f => l_as f rfl rfl fun a f => l_nil ?_
  refine k_ret ?_
  obtain rfl := sj hd
  exact ⟨[(.int .i64 x0)], ⟨f.get _ _ rfl, trivial⟩, f.defers, _, [], (GLe.refl _), m, rfl, rfl⟩
 ·refine k_false f rfl aa ?_
  refine k_skip ?_
  refine k_seq (k_region ?_)
  refine l_mv f rfl rfl fun a f => l_as f rfl rfl fun a f => l_nil ?_
  refine k_ret ?_
  obtain rfl := sj hd
  exact ⟨[(.int .i64 x1)], ⟨f.get _ _ rfl, trivial⟩, f.defers, _, [], (GLe.refl _), m, rfl, rfl⟩

theorem Wk.spec_l1Less {W w : World} {G : GH} {H : List Itm} {v0 : Value} {v1 : Value} {x0 : (List Int)} {x1 : (List Int)} (m : Mem W G w (H)) (h0 : RSl (RI .i64) G v0 x0) (h1 : RSl (RI .i64) G v1 x1) {y : Bool} (hd : D.spec_l1Less x0 x1 = some y) :
  Calls Tryz.prog 113 #[v0, v1] w (Res W G H (fun _ Ho v => Ho = [] ∧ v = (.bool y))) := by
 refine calls_b (args := [v0, v1]) (N := 40) [.tmp 4] Tryz.func113 rfl rfl (Nat.le_of_ble_eq_true rfl) rfl fun a f => ?_
 unfold D.spec_l1Less at hd
 refine k_seq (k_region ?_)
 refine l_as f rfl rfl fun a f => l_nil (k_seq (k_seq (k_region ?_)))
 refine l_mv f rfl rfl fun a f => l_len Tryz.underlying42 f rfl rfl h0 fun a f => l_mv f rfl rfl fun a f => l_len Tryz.underlying42 f rfl rfl h1 fun a f => l_in f rfl rfl rfl b_neq fun a f => l_nil ?_
 rcases cond_some hd with ⟨aa, hd⟩ | ⟨aa, hd⟩
 ·refine k_true f rfl aa ?_
  refine k_seq (k_region ?_)
  refine l_mv f rfl rfl fun a f => l_len Tryz.underlying42 f rfl rfl h0 fun a f => l_mv f rfl rfl fun a f => l_len Tryz.underlying42 f rfl rfl h1 fun a f => l_in f rfl rfl rfl b_lss fun a f => l_as f rfl rfl fun a f => l_nil ?_
  refine k_ret ?_
  obtain rfl := sj hd
  exact ⟨[(.bool (decide ((x0.length : Int) < (x1.length : Int))))], ⟨f.get _ _ rfl, trivial⟩, f.defers, _, [], (GLe.refl _), m, rfl, rfl⟩
 ·refine k_false f rfl aa ?_
  refine k_skip ?_
  refine k_seq (k_seq (k_region ?_))
  refine l_as f rfl rfl fun a f => l_nil ?_
  obtain ⟨ab, ac, hd⟩ := bind_some hd
  refine k_cut (fun a w => ∃ q_64' : Unit, ab = .inl q_64' ∧ ∃ (ad : GH), GLe G ad ∧ Fr a 40 [] ∧ Mem W ad w (H)) ?_ ?_
  ·refine k_block ?_
   refine k_loop (fun ae a w => ∃ af : Int, af = ae ∧ ∃ (ag : GH), GLe G ag ∧ Fr a 40 [(0, v0), (1, v1), (5, (.int .i64 af))] ∧ Mem W ag w (H)) ac ⟨_, rfl, _, (GLe.refl _), f.weak ⟨rfl, rfl, rfl, trivial⟩, m⟩ ?_
   clear ac f m
   rintro ae ah ai aj a w ⟨af, rfl, ag, ak, f, m⟩
   have h0 := rd1 ak h0
   have h1 := rd1 ak h1
   refine k_seq (k_seq (k_region ?_))
   refine l_mv f rfl rfl fun a f => l_mv f rfl rfl fun a f => l_len Tryz.underlying42 f rfl rfl h0 fun a f => l_in f rfl rfl rfl b_lss fun a f => l_nil ?_
   rcases cond_some ai with ⟨al, ai⟩ | ⟨al, ai⟩
   ·refine k_true f rfl al ?_
    refine k_skip ?_
    refine k_seq (k_block (k_seq ?_))
    refine k_draw 9 Follows (by kernel_rfl) m ?_
    refine q_mv 0 9 rfl (by kernel_rfl) f rfl rfl rfl fun a f => q_mv 1 9 rfl (by kernel_rfl) f rfl rfl rfl fun a f => ?_
    obtain ⟨am, an, ai⟩ := bind_some ai
    refine q_at (i := 2) 9 T42 h0 an rfl (by kernel_rfl) rfl f rfl rfl rfl rfl fun ao ap a aq ar f => ?_
    subst ar
    refine q_loadAt (i := 3) 9 Pl2 aq rfl (by kernel_rfl) rfl f rfl rfl rfl fun a f => q_mv 4 9 rfl (by kernel_rfl) f rfl rfl rfl fun a f => q_mv 5 9 rfl (by kernel_rfl) f rfl rfl rfl fun a f => ?_
    obtain ⟨au, av, ai⟩ := bind_some ai
    refine q_at (i := 6) 9 T42 h1 av rfl (by kernel_rfl) rfl f rfl rfl rfl rfl fun aw ax a ay az f => ?_
    subst az
    refine q_loadAt (i := 7) 9 Pl2 ay rfl (by kernel_rfl) rfl f rfl rfl rfl fun a f => q_p 8 9 rfl (by kernel_rfl) f rfl rfl rfl (fun _ => r_int (f.eval rfl) (f.eval rfl) b_neq) fun a f => q_end fun aA w aB m => ?_
    have h0 := rd1 aB h0
    have h1 := rd1 aB h1
    have aq := At.mono aB aq
    have ay := At.mono aB ay
    refine l_nil ?_
    rcases cond_some ai with ⟨aC, ai⟩ | ⟨aC, ai⟩
    ·refine k_true f rfl aC ?_
     refine k_seq ?_
     refine k_draw 10 Follows (by kernel_rfl) m ?_
     refine q_mv 0 10 rfl (by kernel_rfl) f rfl rfl rfl fun a f => q_mv 1 10 rfl (by kernel_rfl) f rfl rfl rfl fun a f => ?_
     obtain ⟨aD, aE, ai⟩ := bind_some ai
     refine q_at (i := 2) 10 T42 h0 aE rfl (by kernel_rfl) rfl f rfl rfl rfl rfl fun aF aG a aH aI f => ?_
     subst aI
     refine q_loadAt (i := 3) 10 Pl2 aH rfl (by kernel_rfl) rfl f rfl rfl rfl fun a f => q_mv 4 10 rfl (by kernel_rfl) f rfl rfl rfl fun a f => q_mv 5 10 rfl (by kernel_rfl) f rfl rfl rfl fun a f => ?_
     obtain ⟨aJ, aK, ai⟩ := bind_some ai
     refine q_at (i := 6) 10 T42 h1 aK rfl (by kernel_rfl) rfl f rfl rfl rfl rfl fun aL aM a aN aO f => ?_
     subst aO
     refine q_loadAt (i := 7) 10 Pl2 aN rfl (by kernel_rfl) rfl f rfl rfl rfl fun a f => q_p 8 10 rfl (by kernel_rfl) f rfl rfl rfl (fun _ => r_int (f.eval rfl) (f.eval rfl) b_lss) fun a f => q_p 9 10 rfl (by kernel_rfl) f rfl rfl rfl (fun _ => r_assign (f.eval rfl)) fun a f => q_end fun aP w aQ m => ?_
     have h0 := rd1 aQ h0
     have h1 := rd1 aQ h1
     have aH := At.mono aQ aH
     have aN := At.mono aQ aN
     refine l_nil ?_
     refine k_ret ?_
     obtain rfl := sj ai
     obtain rfl := aj _ rfl
     obtain rfl := sj hd
     exact ⟨[(.bool (decide (aD < aJ)))], ⟨f.get _ _ rfl, trivial⟩, f.defers, _, [], (GLe.trans ak (GLe.trans aB aQ)), m, rfl, rfl⟩
    ·refine k_false f rfl aC ?_
     refine k_skip ?_
     refine k_region ?_
     refine l_mv f rfl rfl fun a f => l_in f rfl rfl rfl b_add fun a f => l_as f rfl rfl fun a f => l_nil ?_
     obtain rfl := sj ai
     exact ⟨_, rfl, _, rfl, _, (GLe.trans ak aB), f.weak ⟨rfl, rfl, rfl, trivial⟩, m⟩
   ·refine k_false f rfl al ?_
    refine k_exit rfl ?_
    obtain rfl := sj ai
    obtain rfl := aj _ rfl
    exact ⟨_, rfl, _, ak, f.weak trivial, m⟩
  ·rintro a w ⟨_, rfl, ad, aR, f, m⟩
   refine k_seq (k_region ?_)
   refine l_as f rfl rfl fun a f => l_nil ?_
   refine k_ret ?_
   obtain rfl := sj hd
   exact ⟨[(.bool false)], ⟨f.get _ _ rfl, trivial⟩, f.defers, _, [], aR, m, rfl, rfl⟩

theorem Wk.spec_l9Link {W w : World} {G : GH} {H : List Itm} {v0 : Value} {x0 : (List (List Int))} {x1 : Int} {x2 : Int} (m : Mem W G w (H)) (h0 : RSl (RSl (RI .i64)) G v0 x0) {y : ((List (List Int)))} (hd : D.spec_l9Link x0 x1 x2 = some y) :
  Calls Tryz.prog 46 #[v0, (.int .i64 x1), (.int .i64 x2)] w (Res W G H (fun G' Ho v => ∃ r0 : Value, ∃ i0 : Itm, Ho = [i0] ∧ r0 = v ∧ Ow (RSl (RI .i64)) 42 G' i0 r0 y)) := by
 refine calls_b (args := [v0, (.int .i64 x1), (.int .i64 x2)]) (N := 53) [.tmp 6] Tryz.func46 rfl rfl (Nat.le_of_ble_eq_true rfl) rfl fun a f => ?_
 unfold D.spec_l9Link at hd
 refine k_seq (k_region ?_)
 refine l_as f rfl rfl fun a f => l_nil (k_seq (k_region ?_))
 refine l_mv f rfl rfl fun a f => l_mv f rfl rfl fun a f => ?_
 obtain ⟨aa, ab, hd⟩ := bind_some hd
 refine l_res f rfl rfl Tryz.call112 (Wk.spec_l1Min m  ab) fun ac ad ae w af m ag a f => ?_
 obtain ⟨rfl, rfl⟩ := ag
 have h0 := rd2 af h0
 refine l_mv f rfl rfl fun a f => l_mv f rfl rfl fun a f => ?_
 obtain ⟨ah, ai, hd⟩ := bind_some hd
 refine l_res f rfl rfl Tryz.call102 (Wk.spec_l1Max m  ai) fun aj ak al w am m an a f => ?_
 obtain ⟨rfl, rfl⟩ := an
 have h0 := rd2 am h0
 refine l_slit (R := (RI .i64)) (xs := ([aa, ah] : List Int)) (RI.one _) m T42 f rfl rfl rfl (by decide) (All2.cons rfl (All2.cons rfl (All2.nil _))) fun ao ap w a m aq f => l_as f rfl rfl fun a f => l_nil (k_seq (k_region ?_))
 refine l_slit (R := (RSl (RI .i64))) (xs := ([] : List (List Int))) (RSl.one _) m T22 f rfl rfl rfl (by decide) (All2.nil _) fun ar au w a m av f => l_as f rfl rfl fun a f => l_nil (k_seq (k_region ?_))
 refine l_as f rfl rfl fun a f => l_nil (k_seq (k_seq (k_region ?_)))
 refine l_as f rfl rfl fun a f => l_nil ?_
 have m := m.front 1 rfl
 obtain ⟨aw, ax, m, ay⟩ := Ow.stamp (RI.mono _) aq m
 have h0 := rd2 ax h0
 have av := Ow.mono (RSl.mono (RI.mono _)) ax av
 obtain ⟨az, aA, hd⟩ := bind_some hd
 refine k_cut (fun a w => ∃ aB : List Int, ∃ aC : List (List Int), ∃ aD : Bool, (aB, aC, aD) = az ∧ ∃ (aE : GH) (aF : Value) (aG : Value) (aH : Itm), GLe aw aE ∧ Fr a 53 [(7, aF), (8, aG), (9, (.bool aD))] ∧ Mem W aE w (aH :: H) ∧ RSl (RI .i64) aE aF aB ∧ Ow (RSl (RI .i64)) 42 aE aH aG aC) ?_ ?_
 ·refine k_block ?_
  refine k_loop (fun aI a w => ∃ aJ : List Int, ∃ aK : List (List Int), ∃ aL : Bool, ∃ aM : Int, (aJ, aK, aL, aM) = aI ∧ ∃ (aN : GH) (aO : Value) (aP : Value) (aQ : Itm), GLe aw aN ∧ Fr a 53 [(0, v0), (7, aO), (8, aP), (9, (.bool aL)), (10, (.int .i64 aM))] ∧ Mem W aN w (aQ :: H) ∧ RSl (RI .i64) aN aO aJ ∧ Ow (RSl (RI .i64)) 42 aN aQ aP aK) aA ⟨_, _, _, _, rfl, _, ap, au, ar, (GLe.refl _), f.weak ⟨rfl, rfl, rfl, rfl, rfl, trivial⟩, m, ay, av⟩ ?_
  clear aA f m
  rintro aI aR aS aT a w ⟨aJ, aK, aL, aM, rfl, aN, aO, aP, aQ, aU, f, m, aV, aW⟩
  have h0 := rd2 aU h0
  refine k_seq (k_seq (k_region ?_))
  refine l_mv f rfl rfl fun a f => l_mv f rfl rfl fun a f => l_len Tryz.underlying22 f rfl rfl h0 fun a f => l_in f rfl rfl rfl b_lss fun a f => l_nil ?_
  rcases cond_some aS with ⟨aX, aS⟩ | ⟨aX, aS⟩
  ·refine k_true f rfl aX ?_
   refine k_skip ?_
   refine k_seq (k_block (k_seq (k_seq (k_region ?_))))
   refine l_mv f rfl rfl fun a f => l_op f rfl rfl rfl (r_not (f.eval rfl)) fun a f => l_mv f rfl rfl fun a f => ?_
   obtain ⟨aY, aZ, aS⟩ := bind_some aS
   refine l_cut 7 (fun a w => ∃ a0, GLe aN a0 ∧ Mem W a0 w (aQ :: H) ∧ Fr a 53 [(0, v0), (7, aO), (8, aP), (9, (.bool aL)), (10, (.int .i64 aM)), (22, (.bool (decide (aM < (x0.length : Int))))), (25, (.bool aL)), (26, (.bool (!aL))), (27, (.bool (!aL))), (34, (.bool aY))]) ?_ ?_
   ·rcases cond_some aZ with ⟨a1, aZ⟩ | ⟨a1, aZ⟩
    ·refine l_run f rfl rfl a1 ?_
     refine l_mv f rfl rfl fun a f => l_run f rfl rfl a1 ?_
     refine l_mv f rfl rfl fun a f => l_run f rfl rfl a1 ?_
     refine l_mv f rfl rfl fun a f => l_run f rfl rfl a1 ?_
     obtain ⟨a2, a3, aZ⟩ := bind_some aZ
     refine l_at T22 f rfl rfl rfl h0 a3 fun a4 a5 a a6 a7 f => l_run f rfl rfl a1 ?_
     refine l_loadAt m Pl42 f rfl rfl a6 fun a f => l_run f rfl rfl a1 ?_
     obtain ⟨a8, a9, aZ⟩ := bind_some aZ
     refine l_res f rfl rfl Tryz.call113 (Wk.spec_l1Less m aV a7 a9) fun ba bb bc w bd m be a f => ?_
     obtain ⟨rfl, rfl⟩ := be
     have h0 := rd2 bd h0
     have aV := rd1 bd aV
     have a6 := At.mono bd a6
     have a7 := rd1 bd a7
     have aW := Ow.mono (RSl.mono (RI.mono _)) bd aW
     refine l_op f rfl rfl rfl (r_pickT (f.eval rfl) a1 (f.eval rfl)) fun a f => ?_
     obtain rfl := sj aZ
     exact ⟨_, bd, m, f.weak ⟨rfl, rfl, rfl, rfl, rfl, rfl, rfl, rfl, rfl, rfl, trivial⟩⟩
    ·refine l_not' f rfl rfl rfl a1 fun a f => ?_
     refine l_not' f rfl rfl rfl a1 fun a f => l_not' f rfl rfl rfl a1 fun a f => l_not' f rfl rfl rfl a1 fun a f => l_not' f rfl rfl rfl a1 fun a f => l_not' f rfl rfl rfl a1 fun a f => l_op f rfl rfl rfl (r_pickF (f.eval rfl) a1 (f.eval rfl)) fun a f => ?_
     obtain rfl := sj aZ
     exact ⟨_, (GLe.refl _), m, f.weak ⟨rfl, rfl, rfl, rfl, rfl, rfl, rfl, rfl, rfl, rfl, trivial⟩⟩
   ·rintro a w ⟨a0, bf, m, f⟩
    have h0 := rd2 bf h0
    have aV := rd1 bf aV
    have aW := Ow.mono (RSl.mono (RI.mono _)) bf aW
    refine l_nil ?_
    rcases cond_some aS with ⟨bg, aS⟩ | ⟨bg, aS⟩
    ·refine k_true f rfl bg ?_
     refine k_seq (k_region ?_)
     refine l_mv f rfl rfl fun a f => l_mv f rfl rfl fun a f => l_slit (R := (RSl (RI .i64))) (xs := ([aJ] : List (List Int))) (RSl.one _) m T22 f rfl rfl rfl (by decide) (All2.cons aV (All2.nil _)) fun bh bi w a m bj f => ?_
     obtain ⟨bk, bl, aS⟩ := bind_some aS
     refine l_append (RSl.one _) 1 m aW rfl T22 rfl (by decide) f rfl rfl rfl (Ow.src (j := 0) bj m rfl) bl fun bm bn w a m bo f => l_as f rfl rfl fun a f => l_nil (k_region ?_)
     refine l_as f rfl rfl fun a f => l_nil (k_region ?_)
     refine l_mv f rfl rfl fun a f => l_mv f rfl rfl fun a f => l_mv f rfl rfl fun a f => ?_
     obtain ⟨bp, bq, aS⟩ := bind_some aS
     refine l_at T22 f rfl rfl rfl h0 bq fun br bs a bt bu f => l_loadAt m Pl42 f rfl rfl bt fun a f => l_slit (R := (RSl (RI .i64))) (xs := ([bp] : List (List Int))) (RSl.one _) m T22 f rfl rfl rfl (by decide) (All2.cons bu (All2.nil _)) fun bv bw w a m bx f => ?_
     obtain ⟨bz, bA, aS⟩ := bind_some aS
     refine l_append (RSl.one _) 2 m bo rfl T22 rfl (by decide) f rfl rfl rfl (Ow.src (j := 0) bx m rfl) bA fun bB bC w a m bD f => l_as f rfl rfl fun a f => l_nil (k_region ?_)
     refine l_mv f rfl rfl fun a f => l_in f rfl rfl rfl b_add fun a f => l_as f rfl rfl fun a f => l_nil ?_
     have m := m.front 2 rfl
     have m := m.eraseAt 2
     have m := m.eraseAt 1
     obtain rfl := sj aS
     exact ⟨_, rfl, _, _, _, _, rfl, _, aO, bC, bB, (GLe.trans aU bf), f.weak ⟨rfl, rfl, rfl, rfl, rfl, trivial⟩, m, aV, bD⟩
    ·refine k_false f rfl bg ?_
     refine k_skip ?_
     refine k_region ?_
     refine l_mv f rfl rfl fun a f => l_mv f rfl rfl fun a f => l_mv f rfl rfl fun a f => ?_
     obtain ⟨bE, bF, aS⟩ := bind_some aS
     refine l_at T22 f rfl rfl rfl h0 bF fun bG bH a bI bJ f => l_loadAt m Pl42 f rfl rfl bI fun a f => l_slit (R := (RSl (RI .i64))) (xs := ([bE] : List (List Int))) (RSl.one _) m T22 f rfl rfl rfl (by decide) (All2.cons bJ (All2.nil _)) fun bK bL w a m bM f => ?_
     obtain ⟨bN, bO, aS⟩ := bind_some aS
     refine l_append (RSl.one _) 1 m aW rfl T22 rfl (by decide) f rfl rfl rfl (Ow.src (j := 0) bM m rfl) bO fun bP bQ w a m bR f => l_as f rfl rfl fun a f => l_nil (k_region ?_)
     refine l_mv f rfl rfl fun a f => l_in f rfl rfl rfl b_add fun a f => l_as f rfl rfl fun a f => l_nil ?_
     have m := m.front 1 rfl
     have m := m.eraseAt 1
     obtain rfl := sj aS
     exact ⟨_, rfl, _, _, _, _, rfl, _, aO, bQ, bP, (GLe.trans aU bf), f.weak ⟨rfl, rfl, rfl, rfl, rfl, trivial⟩, m, aV, bR⟩
  ·refine k_false f rfl aX ?_
   refine k_exit rfl ?_
   obtain rfl := sj aS
   obtain rfl := aT _ rfl
   exact ⟨_, _, _, rfl, _, aO, aP, aQ, aU, f.weak ⟨rfl, rfl, rfl, trivial⟩, m, aV, aW⟩
 ·rintro a w ⟨aB, aC, aD, rfl, aE, aF, aG, aH, bS, f, m, bT, bU⟩
  refine k_seq (k_seq (k_region ?_))
  refine l_mv f rfl rfl fun a f => l_op f rfl rfl rfl (r_not (f.eval rfl)) fun a f => l_nil ?_
  rcases cond_some hd with ⟨bV, hd⟩ | ⟨bV, hd⟩
  ·refine k_true f rfl bV ?_
   refine k_region ?_
   refine l_mv f rfl rfl fun a f => l_mv f rfl rfl fun a f => l_slit (R := (RSl (RI .i64))) (xs := ([aB] : List (List Int))) (RSl.one _) m T22 f rfl rfl rfl (by decide) (All2.cons bT (All2.nil _)) fun bW bX w a m bY f => ?_
   obtain ⟨bZ, b0, hd⟩ := bind_some hd
   refine l_append (RSl.one _) 1 m bU rfl T22 rfl (by decide) f rfl rfl rfl (Ow.src (j := 0) bY m rfl) b0 fun b1 b2 w a m b3 f => l_as f rfl rfl fun a f => l_nil (k_seq (k_region ?_))
   refine l_mv f rfl rfl fun a f => l_as f rfl rfl fun a f => l_nil ?_
   refine k_ret ?_
   have m := m.front 1 rfl
   have m := m.eraseAt 1
   obtain rfl := sj hd
   exact ⟨[b2], ⟨f.get _ _ rfl, trivial⟩, f.defers, _, [b1], (GLe.trans af (GLe.trans am (GLe.trans ax bS))), m, _, _, rfl, rfl, b3⟩
  ·refine k_false f rfl bV ?_
   refine k_skip ?_
   refine k_seq (k_region ?_)
   refine l_mv f rfl rfl fun a f => l_as f rfl rfl fun a f => l_nil ?_
   refine k_ret ?_
   obtain rfl := sj hd
   exact ⟨[aG], ⟨f.get _ _ rfl, trivial⟩, f.defers, _, [aH], (GLe.trans af (GLe.trans am (GLe.trans ax bS))), m, _, _, rfl, rfl, bU⟩

theorem Wk.spec_DecompBy {W w : World} {G : GH} {H : List Itm} {v0_0 : Value} {v1 : Value} {x0_0 : (List (List Int))} {x1 : (List Int)} (m : Mem W G w (H)) (h0_0 : RSl (RSl (RI .i64)) G v0_0 x0_0) (h1 : RSl (RI .i64) G v1 x1) {y : ((List (List Int))) × ((List (List Int))) × Bool} (hd : D.spec_DecompBy x0_0 x1 = some y) :
  Calls Tryz.prog 21 #[(.agg #[v0_0]), v1] w (Res W G H (fun G' Ho v => ∃ r0 : Value, ∃ i0 : Itm, ∃ r2 : Value, ∃ i2 : Itm, Ho = [i0, i2] ∧ v = .tuple #[(.agg #[r0, r2]), (.bool y.2.2)] ∧ Ow (RSl (RI .i64)) 42 G' i0 r0 y.1 ∧ Ow (RSl (RI .i64)) 42 G' i2 r2 y.2.1)) := by
 refine calls_b (args := [(.agg #[v0_0]), v1]) (N := 78) [.cell 4 27, .tmp 5] Tryz.func21 rfl rfl (Nat.le_of_ble_eq_true rfl) rfl fun a f => ?_
 unfold D.spec_DecompBy at hd
 refine k_seq (k_region ?_)
 refine l_box (cs := [v0_0]) m f rfl rfl rfl fun aa w a m f => l_alloc (cs := [(.slice none 0 0), (.slice none 0 0)]) Tryz.zeroValue27 m f rfl rfl fun ab w a m f => l_as f rfl rfl fun a f => l_nil (k_seq (k_seq (k_region ?_)))
 refine l_boxAgg 1 0 (ds := [v0_0]) m Ag30 f rfl rfl rfl rfl rfl fun a f => l_mv f rfl rfl fun a f => ?_
 obtain ⟨ac, ad, hd⟩ := bind_some hd
 refine l_res f rfl rfl Tryz.call41 (Wk.spec_OrderOk m h0_0 h1 ad) fun ae af ag w ah m ai a f => ?_
 obtain ⟨rfl, rfl⟩ := ai
 have h0_0 := rd2 ah h0_0
 have h1 := rd1 ah h1
 refine l_op f rfl rfl rfl (r_not (f.eval rfl)) fun a f => l_nil ?_
 rcases cond_some hd with ⟨aj, hd⟩ | ⟨aj, hd⟩
 ·refine k_true f rfl aj ?_
  refine k_seq (k_region ?_)
  have ak : ∀ w, (Instr.build 27 #[]).run Tryz.prog w = .ok (.agg #[(.slice none 0 0), (.slice none 0 0)]) w := by intro w; simp [Instr.build, Instr.fill, cells_int, cells_bool, cells_string, cells_slice, cells_pointer, cells_agg]
  refine l_build f rfl rfl ak fun a f => l_boxStore 0 0 (ds := [(.slice none 0 0), (.slice none 0 0)]) m Tryz.sizeOf27 f rfl rfl rfl (ones_cons rfl (ones_cons rfl ones_nil)) rfl (Nat.le_of_ble_eq_true rfl) rfl fun w m => l_as f rfl rfl fun a f => l_nil ?_
  refine k_ret ?_
  obtain ⟨al, m, am⟩ := Ow.nil (RSl (RI .i64)) 42 m
  obtain ⟨an, m, ao⟩ := Ow.nil (RSl (RI .i64)) 42 m
  have ap := rr_agg (P := Tryz.prog) 2 m Ag27 f (s := 4) rfl rfl rfl
  have m := m.front 1 rfl
  have m := m.eraseAt 3
  have m := m.eraseAt 2
  obtain rfl := sj hd
  exact ⟨[(.agg #[(.slice none 0 0), (.slice none 0 0)]), (.bool false)], ⟨ap, f.get _ _ rfl, trivial⟩, f.defers, _, [al, an], ah, m, _, _, _, _, rfl, rfl, am, ao⟩
 ·refine k_false f rfl aj ?_
  refine k_skip ?_
  refine k_seq (k_region ?_)
  refine l_boxAgg 1 0 (ds := [v0_0]) m Ag30 f rfl rfl rfl rfl rfl fun a f => l_mv f rfl rfl fun a f => ?_
  obtain ⟨aq, ar, hd⟩ := bind_some hd
  refine l_res f rfl rfl Tryz.call67 (Wk.spec_l7Later m h0_0 h1 ar) fun au av aw w ax m ay a f => ?_
  obtain ⟨az, aA, rfl, rfl, aB⟩ := ay
  have h0_0 := rd2 ax h0_0
  have h1 := rd1 ax h1
  refine l_as f rfl rfl fun a f => l_nil (k_seq (k_region ?_))
  have aC : ∀ w, (Instr.build 27 #[]).run Tryz.prog w = .ok (.agg #[(.slice none 0 0), (.slice none 0 0)]) w := by intro w; simp [Instr.build, Instr.fill, cells_int, cells_bool, cells_string, cells_slice, cells_pointer, cells_agg]
  refine l_build f rfl rfl aC fun a f => l_alloc (cs := [(.slice none 0 0), (.slice none 0 0)]) Tryz.zeroValue27 m f rfl rfl fun aD w a m f => l_boxStore 0 0 (ds := [(.slice none 0 0), (.slice none 0 0)]) m Tryz.sizeOf27 f rfl rfl rfl (ones_cons rfl (ones_cons rfl ones_nil)) rfl (Nat.le_of_ble_eq_true rfl) rfl fun w m => l_nil (k_seq (k_region ?_))
  refine l_mv f rfl rfl fun a f => l_len Tryz.underlying42 f rfl rfl h1 fun a f => l_as f rfl rfl fun a f => l_nil (k_seq (k_seq (k_region ?_)))
  refine l_as f rfl rfl fun a f => l_nil ?_
  obtain ⟨aE, m, aF⟩ := Ow.nil (RSl (RI .i64)) 42 m
  obtain ⟨aG, m, aH⟩ := Ow.nil (RSl (RI .i64)) 42 m
  obtain ⟨aI, aJ, hd⟩ := bind_some hd
  refine k_cut (fun a w => ∃ aK : List (List Int), ∃ aL : List (List Int), (aK, aL) = aI ∧ ∃ (aM : GH) (aN : Value) (aO : Itm) (aP : Value) (aQ : Itm), GLe av aM ∧ Fr a 78 [(4, (.pointer (some ⟨ab, 0, none⟩))), (7, (.pointer (some ⟨aD, 0, none⟩)))] ∧ Mem W aM w (Itm.box ab 27 [(.slice none 0 0), (.slice none 0 0)] :: Itm.box aD 27 [aN, aP] :: aO :: aQ :: H) ∧ Ow (RSl (RI .i64)) 42 aM aO aN aK ∧ Ow (RSl (RI .i64)) 42 aM aQ aP aL) ?_ ?_
  ·refine k_block ?_
   have m := m.front 1 rfl
   have m := m.front 3 rfl
   have m : Mem W av w (Itm.box aD 27 [(.slice none 0 0), (.slice none 0 0)] :: aA :: aE :: aG :: Itm.box ab 27 [(.slice none 0 0), (.slice none 0 0)] :: Itm.box aa 30 [v0_0] :: H) := m.front 3 rfl
   have m := m.front 4 rfl
   have m : Mem W av w (Itm.box ab 27 [(.slice none 0 0), (.slice none 0 0)] :: Itm.box aD 27 [(.slice none 0 0), (.slice none 0 0)] :: aA :: aE :: aG :: H) := m.eraseAt 5
   refine k_loop (fun aR a w => ∃ aS : Int, ∃ aT : List (List Int), ∃ aU : List (List Int), (aS, aT, aU) = aR ∧ ∃ (aV : GH) (aW : Value) (aX : Itm) (aY : Value) (aZ : Itm), GLe av aV ∧ Fr a 78 [(1, v1), (4, (.pointer (some ⟨ab, 0, none⟩))), (6, az), (7, (.pointer (some ⟨aD, 0, none⟩))), (8, (.int .i64 (x1.length : Int))), (9, (.int .i64 aS))] ∧ Mem W aV w (Itm.box ab 27 [(.slice none 0 0), (.slice none 0 0)] :: Itm.box aD 27 [aW, aY] :: aA :: aX :: aZ :: H) ∧ Ow (RSl (RI .i64)) 42 aV aX aW aT ∧ Ow (RSl (RI .i64)) 42 aV aZ aY aU) aJ ⟨_, _, _, rfl, _, (.slice none 0 0), aE, (.slice none 0 0), aG, (GLe.refl _), f.weak ⟨rfl, rfl, rfl, rfl, rfl, rfl, trivial⟩, m, aF, aH⟩ ?_
   clear aJ f m
   rintro aR a0 a1 a2 a w ⟨aS, aT, aU, rfl, aV, aW, aX, aY, aZ, a3, f, m, a4, a5⟩
   have h1 := rd1 a3 h1
   have aB := Ow.mono (RSl.mono (RI.mono _)) a3 aB
   refine k_seq (k_seq (k_region ?_))
   refine l_mv f rfl rfl fun a f => l_mv f rfl rfl fun a f => l_in f rfl rfl rfl b_lss fun a f => l_nil ?_
   rcases cond_some a1 with ⟨a6, a1⟩ | ⟨a6, a1⟩
   ·refine k_true f rfl a6 ?_
    refine k_skip ?_
    refine k_seq (k_block (k_seq (k_region ?_)))
    refine l_mv f rfl rfl fun a f => l_mv f rfl rfl fun a f => l_mv f rfl rfl fun a f => ?_
    obtain ⟨a7, a8, a1⟩ := bind_some a1
    refine l_at T42 f rfl rfl rfl h1 a8 fun a9 ba a bb bc f => ?_
    subst bc
    refine l_loadAt m Pl2 f rfl rfl bb fun a f => ?_
    obtain ⟨bd, be, a1⟩ := bind_some a1
    refine l_own_at 2 m aB rfl T22 f rfl rfl rfl be fun bf a bg f => l_own_load 2 m aB rfl Pl42 f rfl rfl bg be fun bh a bi f => l_as f rfl rfl fun a f => l_nil (k_seq ?_)
    refine k_draw 10 Follows (by kernel_rfl) m ?_
    refine q_fieldAddr (i := 0) 10 Tryz.underlying27 rfl Tryz.sizeOf22 (by decide) rfl (by kernel_rfl) rfl f rfl rfl rfl fun a f => q_boxCell (i := 1) 10 1 Pl22 rfl rfl rfl (by kernel_rfl) rfl f rfl rfl rfl fun a f => q_mv 2 10 rfl (by kernel_rfl) f rfl rfl rfl fun a f => q_mv 4 10 rfl (by kernel_rfl) f rfl rfl rfl fun a f => q_mv 5 10 rfl (by kernel_rfl) f rfl rfl rfl fun a f => ?_
    obtain ⟨bj, bk, a1⟩ := bind_some a1
    refine q_at (i := 6) 10 T42 h1 bk rfl (by kernel_rfl) rfl f rfl rfl rfl rfl fun bl bm a bn bo f => ?_
    subst bo
    refine q_loadAt (i := 7) 10 Pl2 bn rfl (by kernel_rfl) rfl f rfl rfl rfl fun a f => q_one (i := 3) rfl (by kernel_rfl) rfl fun bp w bq m br br => ?_
    have h1 := rd1 bq h1
    have bi := rd1 bq bi
    have bn := At.mono bq bn
    have aB := Ow.mono (RSl.mono (RI.mono _)) bq aB
    have a4 := Ow.mono (RSl.mono (RI.mono _)) bq a4
    have a5 := Ow.mono (RSl.mono (RI.mono _)) bq a5
    obtain ⟨bs, bt, a1⟩ := bind_some a1
    refine l_res f rfl rfl Tryz.call69 (Wk.spec_l1Copy m bi bt) fun bu bv bw w bx m bz a f => ?_
    obtain ⟨bA, bB, rfl, rfl, bC⟩ := bz
    have h1 := rd1 bx h1
    have bi := rd1 bx bi
    have bn := At.mono bx bn
    have aB := Ow.mono (RSl.mono (RI.mono _)) bx aB
    have a4 := Ow.mono (RSl.mono (RI.mono _)) bx a4
    have a5 := Ow.mono (RSl.mono (RI.mono _)) bx a5
    refine l_nil ?_
    refine br bv [bB] _ _ bx m ?_
    refine q_one (i := 8) rfl (by kernel_rfl) rfl fun bD w bE m bF bF => ?_
    have h1 := rd1 bE h1
    have bi := rd1 bE bi
    have bn := At.mono bE bn
    have bC := od1 bE bC
    have aB := Ow.mono (RSl.mono (RI.mono _)) bE aB
    have a4 := Ow.mono (RSl.mono (RI.mono _)) bE a4
    have a5 := Ow.mono (RSl.mono (RI.mono _)) bE a5
    obtain ⟨bG, bH, m, bI⟩ := Ow.stamp (RI.mono _) bC m
    have h1 := rd1 bH h1
    have bi := rd1 bH bi
    have bn := At.mono bH bn
    have aB := Ow.mono (RSl.mono (RI.mono _)) bH aB
    have a4 := Ow.mono (RSl.mono (RI.mono _)) bH a4
    have a5 := Ow.mono (RSl.mono (RI.mono _)) bH a5
    obtain ⟨bJ, bK, a1⟩ := bind_some a1
    refine l_res f rfl rfl Tryz.call68 (Wk.spec_l1Into m bI bK) fun bL bM bN w bO m bP a f => ?_
    obtain ⟨bQ, rfl, rfl, bR⟩ := bP
    have h1 := rd1 bO h1
    have bi := rd1 bO bi
    have bI := rd1 bO bI
    have bn := At.mono bO bn
    have aB := Ow.mono (RSl.mono (RI.mono _)) bO aB
    have a4 := Ow.mono (RSl.mono (RI.mono _)) bO a4
    have a5 := Ow.mono (RSl.mono (RI.mono _)) bO a5
    refine l_nil ?_
    refine bF bM [] _ _ (GLe.trans bH bO) m ?_
    refine q_one (i := 9) rfl (by kernel_rfl) rfl fun bS w bT m bU bU => ?_
    have h1 := rd1 bT h1
    have bi := rd1 bT bi
    have bI := rd1 bT bI
    have bn := At.mono bT bn
    have bR := rd1 bT bR
    have aB := Ow.mono (RSl.mono (RI.mono _)) bT aB
    have a4 := Ow.mono (RSl.mono (RI.mono _)) bT a4
    have a5 := Ow.mono (RSl.mono (RI.mono _)) bT a5
    refine l_slit (R := (RSl (RI .i64))) (xs := ([bJ] : List (List Int))) (RSl.one _) m T22 f rfl rfl rfl (by decide) (All2.cons bR (All2.nil _)) fun bV bW w a m bX f => l_nil ?_
    refine bU bS [bV] _ _ (GLe.refl _) m ?_
    refine q_end fun bY w bZ m => ?_
    have h1 := rd1 bZ h1
    have bi := rd1 bZ bi
    have bI := rd1 bZ bI
    have bn := At.mono bZ bn
    have bR := rd1 bZ bR
    have bX := Ow.mono (RSl.mono (RI.mono _)) bZ bX
    have aB := Ow.mono (RSl.mono (RI.mono _)) bZ aB
    have a4 := Ow.mono (RSl.mono (RI.mono _)) bZ a4
    have a5 := Ow.mono (RSl.mono (RI.mono _)) bZ a5
    obtain ⟨b0, b1, a1⟩ := bind_some a1
    refine l_append (RSl.one _) 4 m a4 rfl T22 rfl (by decide) f rfl rfl rfl (Ow.src (j := 0) bX m rfl) b1 fun b2 b3 w a m b4 f => l_fieldAddr Tryz.underlying27 rfl Tryz.sizeOf22 (by decide) f rfl rfl fun a f => l_boxStore 2 0 (ds := [b3]) m Tryz.sizeOf22 f rfl rfl (Ow.cells 4 m b4 rfl) (ones_cons (Ow.one1 4 m b4 rfl) ones_nil) rfl (Nat.le_of_ble_eq_true rfl) rfl fun w m => l_nil (k_seq (k_region ?_))
    refine l_mv f rfl rfl fun a f => l_in f rfl rfl rfl b_add fun a f => l_as f rfl rfl fun a f => l_nil (k_seq ?_)
    obtain ⟨b5, b6, a1⟩ := bind_some a1
    refine k_cut (fun a w => ∃ b7 : Int, b7 = b5 ∧ ∃ (b8 : GH), GLe bY b8 ∧ Fr a 78 [(1, v1), (4, (.pointer (some ⟨ab, 0, none⟩))), (6, az), (7, (.pointer (some ⟨aD, 0, none⟩))), (8, (.int .i64 (x1.length : Int))), (9, (.int .i64 aS)), (11, (.int .i64 b7))] ∧ Mem W b8 w (Itm.box ab 27 [(.slice none 0 0), (.slice none 0 0)] :: Itm.box aD 27 [b3, aY] :: aA :: b2 :: aZ :: H)) ?_ ?_
    ·refine k_block ?_
     have m := m.front 5 rfl
     have m := m.front 5 rfl
     have m : Mem W bY w (aA :: b2 :: aZ :: bV :: Itm.box ab 27 [(.slice none 0 0), (.slice none 0 0)] :: Itm.box aD 27 [b3, aY] :: H) := m.front 5 rfl
     have m := m.front 5 rfl
     have m := m.front 5 rfl
     have m : Mem W bY w (Itm.box ab 27 [(.slice none 0 0), (.slice none 0 0)] :: Itm.box aD 27 [b3, aY] :: aA :: b2 :: aZ :: H) := m.eraseAt 5
     refine k_loop (fun b9 a w => ∃ ca : Int, ca = b9 ∧ ∃ (cb : GH), GLe bY cb ∧ Fr a 78 [(1, v1), (4, (.pointer (some ⟨ab, 0, none⟩))), (6, az), (7, (.pointer (some ⟨aD, 0, none⟩))), (8, (.int .i64 (x1.length : Int))), (9, (.int .i64 aS)), (10, bh), (11, (.int .i64 ca))] ∧ Mem W cb w (Itm.box ab 27 [(.slice none 0 0), (.slice none 0 0)] :: Itm.box aD 27 [b3, aY] :: aA :: b2 :: aZ :: H)) b6 ⟨_, rfl, _, (GLe.refl _), f.weak ⟨rfl, rfl, rfl, rfl, rfl, rfl, rfl, rfl, trivial⟩, m⟩ ?_
     clear b6 f m
     rintro b9 cc cd ce a w ⟨ca, rfl, cb, cf, f, m⟩
     have h1 := rd1 cf h1
     have bi := rd1 cf bi
     have aB := Ow.mono (RSl.mono (RI.mono _)) cf aB
     have b4 := Ow.mono (RSl.mono (RI.mono _)) cf b4
     have a5 := Ow.mono (RSl.mono (RI.mono _)) cf a5
     refine k_seq (k_seq (k_region ?_))
     refine l_mv f rfl rfl fun a f => l_mv f rfl rfl fun a f => l_in f rfl rfl rfl b_lss fun a f => l_mv f rfl rfl fun a f => ?_
     refine l_cut 4 (fun a w => ∃ cg, GLe cb cg ∧ Mem W cg w (Itm.box ab 27 [(.slice none 0 0), (.slice none 0 0)] :: Itm.box aD 27 [b3, aY] :: aA :: b2 :: aZ :: H) ∧ Fr a 78 [(1, v1), (4, (.pointer (some ⟨ab, 0, none⟩))), (6, az), (7, (.pointer (some ⟨aD, 0, none⟩))), (8, (.int .i64 (x1.length : Int))), (9, (.int .i64 aS)), (10, bh), (11, (.int .i64 ca)), (49, (.int .i64 ca)), (50, (.int .i64 (x1.length : Int))), (51, (.bool (decide (ca < (x1.length : Int))))), (52, (.bool (decide (ca < (x1.length : Int))))), (56, (.bool ((decide (ca < (x1.length : Int))) && (decide ((0 : Int) < (bd.length : Int))))))]) ?_ ?_
     ·rcases Bool.eq_false_or_eq_true (decide (ca < (x1.length : Int))) with ch | ch
      ·refine l_run f rfl rfl ch ?_
       refine l_mv f rfl rfl fun a f => l_run f rfl rfl ch ?_
       refine l_len Tryz.underlying42 f rfl rfl bi fun a f => l_run f rfl rfl ch ?_
       refine l_in f rfl rfl rfl b_gtr fun a f => l_op f rfl rfl rfl (r_pickT (f.eval rfl) ch (f.eval rfl)) fun a f => ?_
       exact ⟨_, (GLe.refl _), m, f.weak ⟨rfl, rfl, rfl, rfl, rfl, rfl, rfl, rfl, rfl, rfl, rfl, rfl, by rw [ch]; rfl, trivial⟩⟩
      ·refine l_not' f rfl rfl rfl ch fun a f => ?_
       refine l_not' f rfl rfl rfl ch fun a f => l_not' f rfl rfl rfl ch fun a f => l_op f rfl rfl rfl (r_pickF (f.eval rfl) ch (f.eval rfl)) fun a f => ?_
       exact ⟨_, (GLe.refl _), m, f.weak ⟨rfl, rfl, rfl, rfl, rfl, rfl, rfl, rfl, rfl, rfl, rfl, rfl, by rw [ch]; rfl, trivial⟩⟩
     ·rintro a w ⟨cg, ci, m, f⟩
      have h1 := rd1 ci h1
      have bi := rd1 ci bi
      have aB := Ow.mono (RSl.mono (RI.mono _)) ci aB
      have b4 := Ow.mono (RSl.mono (RI.mono _)) ci b4
      have a5 := Ow.mono (RSl.mono (RI.mono _)) ci a5
      refine l_mv f rfl rfl fun a f => ?_
      obtain ⟨cj, ck, cd⟩ := bind_some cd
      refine l_cut 8 (fun a w => ∃ cl, GLe cg cl ∧ Mem W cl w (Itm.box ab 27 [(.slice none 0 0), (.slice none 0 0)] :: Itm.box aD 27 [b3, aY] :: aA :: b2 :: aZ :: H) ∧ Fr a 78 [(1, v1), (4, (.pointer (some ⟨ab, 0, none⟩))), (6, az), (7, (.pointer (some ⟨aD, 0, none⟩))), (8, (.int .i64 (x1.length : Int))), (9, (.int .i64 aS)), (10, bh), (11, (.int .i64 ca)), (49, (.int .i64 ca)), (50, (.int .i64 (x1.length : Int))), (51, (.bool (decide (ca < (x1.length : Int))))), (52, (.bool (decide (ca < (x1.length : Int))))), (56, (.bool ((decide (ca < (x1.length : Int))) && (decide ((0 : Int) < (bd.length : Int)))))), (57, (.bool ((decide (ca < (x1.length : Int))) && (decide ((0 : Int) < (bd.length : Int)))))), (65, (.bool cj))]) ?_ ?_
      ·rcases cond_some ck with ⟨cm, ck⟩ | ⟨cm, ck⟩
       ·refine l_run f rfl rfl cm ?_
        refine l_mv f rfl rfl fun a f => l_run f rfl rfl cm ?_
        refine l_mv f rfl rfl fun a f => l_run f rfl rfl cm ?_
        refine l_mv f rfl rfl fun a f => l_run f rfl rfl cm ?_
        obtain ⟨cn, co, ck⟩ := bind_some ck
        refine l_at T42 f rfl rfl rfl h1 co fun cp cq a cr ct f => ?_
        subst ct
        refine l_run f rfl rfl cm ?_
        refine l_loadAt m Pl2 f rfl rfl cr fun a f => l_run f rfl rfl cm ?_
        obtain ⟨cu, cv, ck⟩ := bind_some ck
        refine l_res f rfl rfl Tryz.call70 (Wk.spec_l1Has m bi cv) fun cw cx cy w cz m cA a f => ?_
        obtain ⟨rfl, rfl⟩ := cA
        have h1 := rd1 cz h1
        have bi := rd1 cz bi
        have cr := At.mono cz cr
        have aB := Ow.mono (RSl.mono (RI.mono _)) cz aB
        have b4 := Ow.mono (RSl.mono (RI.mono _)) cz b4
        have a5 := Ow.mono (RSl.mono (RI.mono _)) cz a5
        refine l_run f rfl rfl cm ?_
        refine l_op f rfl rfl rfl (r_not (f.eval rfl)) fun a f => l_op f rfl rfl rfl (r_pickT (f.eval rfl) cm (f.eval rfl)) fun a f => ?_
        obtain rfl := sj ck
        exact ⟨_, cz, m, f.weak ⟨rfl, rfl, rfl, rfl, rfl, rfl, rfl, rfl, rfl, rfl, rfl, rfl, rfl, rfl, rfl, trivial⟩⟩
       ·refine l_not' f rfl rfl rfl cm fun a f => ?_
        refine l_not' f rfl rfl rfl cm fun a f => l_not' f rfl rfl rfl cm fun a f => l_not' f rfl rfl rfl cm fun a f => l_not' f rfl rfl rfl cm fun a f => l_not' f rfl rfl rfl cm fun a f => l_not' f rfl rfl rfl cm fun a f => l_op f rfl rfl rfl (r_pickF (f.eval rfl) cm (f.eval rfl)) fun a f => ?_
        obtain rfl := sj ck
        exact ⟨_, (GLe.refl _), m, f.weak ⟨rfl, rfl, rfl, rfl, rfl, rfl, rfl, rfl, rfl, rfl, rfl, rfl, rfl, rfl, rfl, trivial⟩⟩
      ·rintro a w ⟨cl, cB, m, f⟩
       have h1 := rd1 cB h1
       have bi := rd1 cB bi
       have aB := Ow.mono (RSl.mono (RI.mono _)) cB aB
       have b4 := Ow.mono (RSl.mono (RI.mono _)) cB b4
       have a5 := Ow.mono (RSl.mono (RI.mono _)) cB a5
       refine l_nil ?_
       rcases cond_some cd with ⟨cC, cd⟩ | ⟨cC, cd⟩
       ·refine k_true f rfl cC ?_
        refine k_skip ?_
        refine k_block (k_region ?_)
        refine l_mv f rfl rfl fun a f => l_in f rfl rfl rfl b_add fun a f => l_as f rfl rfl fun a f => l_nil ?_
        obtain rfl := sj cd
        exact ⟨_, rfl, _, rfl, _, (GLe.trans cf (GLe.trans ci cB)), f.weak ⟨rfl, rfl, rfl, rfl, rfl, rfl, rfl, rfl, trivial⟩, m⟩
       ·refine k_false f rfl cC ?_
        refine k_exit rfl ?_
        obtain rfl := sj cd
        obtain rfl := ce _ rfl
        exact ⟨_, rfl, _, (GLe.trans cf (GLe.trans ci cB)), f.weak ⟨rfl, rfl, rfl, rfl, rfl, rfl, rfl, trivial⟩, m⟩
    ·rintro a w ⟨b7, rfl, b8, cD, f, m⟩
     have h1 := rd1 cD h1
     have aB := Ow.mono (RSl.mono (RI.mono _)) cD aB
     have b4 := Ow.mono (RSl.mono (RI.mono _)) cD b4
     have a5 := Ow.mono (RSl.mono (RI.mono _)) cD a5
     refine k_seq (k_region ?_)
     refine l_mv f rfl rfl fun a f => l_mv f rfl rfl fun a f => l_in f rfl rfl rfl b_lss fun a f => l_nil ?_
     rcases cond_some a1 with ⟨cE, a1⟩ | ⟨cE, a1⟩
     ·refine k_true f rfl cE ?_
      refine k_region ?_
      refine l_fieldAddr Tryz.underlying27 rfl Tryz.sizeOf22 (by decide) f rfl rfl fun a f => l_boxCell 1 1 m Pl22 f rfl rfl rfl rfl fun a f => l_mv f rfl rfl fun a f => l_mv f rfl rfl fun a f => ?_
      have m : Mem W b8 w (aZ :: Itm.box ab 27 [(.slice none 0 0), (.slice none 0 0)] :: Itm.box aD 27 [b3, aY] :: aA :: b2 :: H) := m.front 4 rfl
      obtain ⟨cF, cG, m, cH⟩ := Ow.stamp (RSl.mono (RI.mono _)) a5 m
      have h1 := rd1 cG h1
      have aB := Ow.mono (RSl.mono (RI.mono _)) cG aB
      have b4 := Ow.mono (RSl.mono (RI.mono _)) cG b4
      obtain ⟨cI, cJ, a1⟩ := bind_some a1
      refine l_res f rfl rfl Tryz.call46 (Wk.spec_l9Link m cH cJ) fun cK cL cM w cN m cO a f => ?_
      obtain ⟨cP, cQ, rfl, rfl, cR⟩ := cO
      have h1 := rd1 cN h1
      have cH := rd2 cN cH
      have aB := Ow.mono (RSl.mono (RI.mono _)) cN aB
      have b4 := Ow.mono (RSl.mono (RI.mono _)) cN b4
      refine l_fieldAddr Tryz.underlying27 rfl Tryz.sizeOf22 (by decide) f rfl rfl fun a f => l_boxStore 2 1 (ds := [cP]) m Tryz.sizeOf22 f rfl rfl (Ow.cells 0 m cR rfl) (ones_cons (Ow.one1 0 m cR rfl) ones_nil) rfl (Nat.le_of_ble_eq_true rfl) rfl fun w m => l_nil (k_region ?_)
      refine l_mv f rfl rfl fun a f => l_in f rfl rfl rfl b_add fun a f => l_as f rfl rfl fun a f => l_nil ?_
      have m := m.front 4 rfl
      have m := m.front 4 rfl
      have m : Mem W cL w (Itm.box aD 27 [b3, cP] :: aA :: b2 :: cQ :: Itm.box ab 27 [(.slice none 0 0), (.slice none 0 0)] :: H) := m.front 4 rfl
      have m : Mem W cL w (Itm.box ab 27 [(.slice none 0 0), (.slice none 0 0)] :: Itm.box aD 27 [b3, cP] :: aA :: b2 :: cQ :: H) := m.front 4 rfl
      obtain rfl := sj a1
      exact ⟨_, rfl, _, _, _, rfl, _, b3, b2, cP, cQ, (GLe.trans a3 (GLe.trans bq (GLe.trans bx (GLe.trans bE (GLe.trans bH (GLe.trans bO (GLe.trans bT (GLe.trans bZ (GLe.trans cD (GLe.trans cG cN)))))))))), f.weak ⟨rfl, rfl, rfl, rfl, rfl, rfl, trivial⟩, m, b4, cR⟩
     ·refine k_false f rfl cE ?_
      refine k_skip ?_
      refine k_region ?_
      refine l_mv f rfl rfl fun a f => l_in f rfl rfl rfl b_add fun a f => l_as f rfl rfl fun a f => l_nil ?_
      obtain rfl := sj a1
      exact ⟨_, rfl, _, _, _, rfl, _, b3, b2, aY, aZ, (GLe.trans a3 (GLe.trans bq (GLe.trans bx (GLe.trans bE (GLe.trans bH (GLe.trans bO (GLe.trans bT (GLe.trans bZ cD)))))))), f.weak ⟨rfl, rfl, rfl, rfl, rfl, rfl, trivial⟩, m, b4, a5⟩
   ·refine k_false f rfl a6 ?_
    refine k_exit rfl ?_
    have m := m.front 4 rfl
    have m := m.front 4 rfl
    have m : Mem W aV w (Itm.box aD 27 [aW, aY] :: aX :: aZ :: Itm.box ab 27 [(.slice none 0 0), (.slice none 0 0)] :: aA :: H) := m.front 3 rfl
    have m := m.front 3 rfl
    have m : Mem W aV w (Itm.box ab 27 [(.slice none 0 0), (.slice none 0 0)] :: Itm.box aD 27 [aW, aY] :: aX :: aZ :: H) := m.eraseAt 4
    obtain rfl := sj a1
    obtain rfl := a2 _ rfl
    exact ⟨_, _, rfl, _, aW, aX, aY, aZ, a3, f.weak ⟨rfl, rfl, trivial⟩, m, a4, a5⟩
  ·rintro a w ⟨aK, aL, rfl, aM, aN, aO, aP, aQ, cS, f, m, cT, cU⟩
   refine k_seq (k_region ?_)
   refine l_boxAgg 1 0 (ds := [aN, aP]) m Ag27 f rfl rfl rfl rfl rfl fun a f => l_boxStore 0 0 (ds := [aN, aP]) m Tryz.sizeOf27 f rfl rfl rfl (ones_cons (Ow.one1 2 m cT rfl) (ones_cons (Ow.one1 3 m cU rfl) ones_nil)) rfl (Nat.le_of_ble_eq_true rfl) rfl fun w m => l_as f rfl rfl fun a f => l_nil ?_
   refine k_ret ?_
   have cV := rr_agg (P := Tryz.prog) 0 m Ag27 f (s := 4) rfl rfl rfl
   have m := m.front 3 rfl
   have m := m.front 3 rfl
   have m : Mem W aM w (aO :: aQ :: Itm.box ab 27 [aN, aP] :: H) := m.eraseAt 3
   have m := m.eraseAt 2
   obtain rfl := sj hd
   exact ⟨[(.agg #[aN, aP]), (.bool true)], ⟨cV, f.get _ _ rfl, trivial⟩, f.defers, _, [aO, aQ], (GLe.trans ah (GLe.trans ax cS)), m, _, _, _, _, rfl, rfl, cT, cU⟩

theorem Wk.impl_inRange {W w : World} {G : GH} {H : List Itm} {x0 : Int} {x1 : Int} {x2 : Int} (m : Mem W G w (H))  {y : Bool} (hd : D.impl_inRange x0 x1 x2 = some y) :
  Calls Tryz.prog 146 #[(.int .i64 x0), (.int .i64 x1), (.int .i64 x2)] w (Res W G H (fun _ Ho v => Ho = [] ∧ v = (.bool y))) := by
 refine calls_b (args := [(.int .i64 x0), (.int .i64 x1), (.int .i64 x2)]) (N := 15) [.tmp 6] Tryz.func146 rfl rfl (Nat.le_of_ble_eq_true rfl) rfl fun a f => ?_
 unfold D.impl_inRange at hd
 refine k_seq (k_region ?_)
 refine l_as f rfl rfl fun a f => l_nil (k_seq (k_region ?_))
 refine l_mv f rfl rfl fun a f => l_mv f rfl rfl fun a f => l_in f rfl rfl rfl b_leq fun a f => l_mv f rfl rfl fun a f => ?_
 refine l_cut 4 (fun a w => ∃ aa, GLe G aa ∧ Mem W aa w (H) ∧ Fr a 15 [(0, (.int .i64 x0)), (1, (.int .i64 x1)), (2, (.int .i64 x2)), (7, (.int .i64 x1)), (8, (.int .i64 x0)), (9, (.bool (decide (x1 ≤ x0)))), (10, (.bool (decide (x1 ≤ x0)))), (14, (.bool ((decide (x1 ≤ x0)) && (decide (x0 ≤ x2)))))]) ?_ ?_
 ·rcases Bool.eq_false_or_eq_true (decide (x1 ≤ x0)) with ab | ab
  ·refine l_run f rfl rfl ab ?_
   refine l_mv f rfl rfl fun a f => l_run f rfl rfl ab ?_
   refine l_mv f rfl rfl fun a f => l_run f rfl rfl ab ?_
   refine l_in f rfl rfl rfl b_leq fun a f => l_op f rfl rfl rfl (r_pickT (f.eval rfl) ab (f.eval rfl)) fun a f => ?_
   exact ⟨_, (GLe.refl _), m, f.weak ⟨rfl, rfl, rfl, rfl, rfl, rfl, rfl, by rw [ab]; rfl, trivial⟩⟩
  ·refine l_not' f rfl rfl rfl ab fun a f => ?_
   refine l_not' f rfl rfl rfl ab fun a f => l_not' f rfl rfl rfl ab fun a f => l_op f rfl rfl rfl (r_pickF (f.eval rfl) ab (f.eval rfl)) fun a f => ?_
   exact ⟨_, (GLe.refl _), m, f.weak ⟨rfl, rfl, rfl, rfl, rfl, rfl, rfl, by rw [ab]; rfl, trivial⟩⟩
 ·rintro a w ⟨aa, ac, m, f⟩
  refine l_as f rfl rfl fun a f => l_nil ?_
  refine k_ret ?_
  obtain rfl := sj hd
  exact ⟨[(.bool ((decide (x1 ≤ x0)) && (decide (x0 ≤ x2))))], ⟨f.get _ _ rfl, trivial⟩, f.defers, _, [], ac, m, rfl, rfl⟩

theorem Wk.impl_increasing {W w : World} {G : GH} {H : List Itm} {v0 : Value} {x0 : (List Int)} {x1 : Int} (m : Mem W G w (H)) (h0 : RSl (RI .i64) G v0 x0) {y : Bool} (hd : D.impl_increasing x0 x1 = some y) :
  Calls Tryz.prog 95 #[v0, (.int .i64 x1)] w (Res W G H (fun _ Ho v => Ho = [] ∧ v = (.bool y))) := by
 refine calls_b (args := [v0, (.int .i64 x1)]) (N := 33) [.tmp 4] Tryz.func95 rfl rfl (Nat.le_of_ble_eq_true rfl) rfl fun a f => ?_
 unfold D.impl_increasing at hd
 refine k_seq (k_region ?_)
 refine l_as f rfl rfl fun a f => l_nil (k_seq (k_seq (k_region ?_)))
 refine l_mv f rfl rfl fun a f => l_len Tryz.underlying42 f rfl rfl h0 fun a f => l_mv f rfl rfl fun a f => l_nil ?_
 obtain ⟨aa, ab, hd⟩ := bind_some hd
 refine k_cut (fun a w => ∃ q_181' : Unit, aa = .inl q_181' ∧ ∃ (ac : GH), GLe G ac ∧ Fr a 33 [] ∧ Mem W ac w (H)) ?_ ?_
 ·refine k_block ?_
  refine k_loop (fun ad a w => ∃ ae : Int, ae = ad ∧ ∃ (af : GH), GLe G af ∧ Fr a 33 [(0, v0), (1, (.int .i64 x1)), (7, v0), (8, (.int .i64 (x0.length : Int))), (9, (.int .i64 ae))] ∧ Mem W af w (H)) ab ⟨_, rfl, _, (GLe.refl _), f.weak ⟨rfl, rfl, rfl, rfl, rfl, trivial⟩, m⟩ ?_
  clear ab f m
  rintro ad ag ah ai a w ⟨ae, rfl, af, aj, f, m⟩
  have h0 := rd1 aj h0
  refine k_seq (k_region ?_)
  refine l_in f rfl rfl rfl b_lss fun a f => l_nil (k_seq ?_)
  rcases cond_some ah with ⟨ak, ah⟩ | ⟨ak, ah⟩
  ·refine k_true f rfl ak ?_
   refine k_skip ?_
   refine k_seq (k_block (k_seq (k_region ?_)))
   refine l_mv f rfl rfl fun a f => ?_
   obtain ⟨al, am, ah⟩ := bind_some ah
   refine l_at T42 f rfl rfl rfl h0 am fun an ao a ap aq f => ?_
   subst aq
   refine l_loadAt m Pl2 f rfl rfl ap fun a f => l_as f rfl rfl fun a f => l_as f rfl rfl fun a f => l_nil (k_seq (k_region ?_))
   refine l_mv f rfl rfl fun a f => l_mv f rfl rfl fun a f => l_in f rfl rfl rfl b_sub fun a f => ?_
   obtain ⟨ar, au, ah⟩ := bind_some ah
   refine l_res f rfl rfl Tryz.call146 (Wk.impl_inRange m  au) fun av aw ax w ay m az a f => ?_
   obtain ⟨rfl, rfl⟩ := az
   have h0 := rd1 ay h0
   refine l_op f rfl rfl rfl (r_not (f.eval rfl)) fun a f => l_mv f rfl rfl fun a f => ?_
   obtain ⟨aA, aB, ah⟩ := bind_some ah
   refine l_cut 12 (fun a w => ∃ aC, GLe aw aC ∧ Mem W aC w (H) ∧ Fr a 33 [(0, v0), (1, (.int .i64 x1)), (5, (.int .i64 ae)), (6, (.int .i64 al)), (7, v0), (8, (.int .i64 (x0.length : Int))), (9, (.int .i64 ae)), (14, (.int .i64 al)), (15, (.int .i64 x1)), (16, (.int .i64 (IntKind.i64.wrap (x1 - 1)))), (17, (.bool ar)), (18, (.bool (!ar))), (19, (.bool (!ar))), (31, (.bool aA))]) ?_ ?_
   ·rcases cond_some aB with ⟨aD, aB⟩ | ⟨aD, aB⟩
    ·refine l_not' f rfl rfl rfl aD fun a f => ?_
     refine l_not' f rfl rfl rfl aD fun a f => l_not' f rfl rfl rfl aD fun a f => l_notU f rfl rfl rfl fun a f => l_notU f rfl rfl rfl fun a f => l_notU f rfl rfl rfl fun a f => l_notU f rfl rfl rfl fun a f => l_notU f rfl rfl rfl fun a f => l_notU f rfl rfl rfl fun a f => l_notU f rfl rfl rfl fun a f => l_not' f rfl rfl rfl aD fun a f => l_op f rfl rfl rfl (r_pickT (f.eval rfl) aD (f.eval rfl)) fun a f => ?_
     obtain rfl := sj aB
     exact ⟨_, (GLe.refl _), m, f.weak ⟨rfl, rfl, rfl, rfl, rfl, rfl, rfl, rfl, rfl, rfl, rfl, rfl, rfl, rfl, trivial⟩⟩
    ·refine l_run f rfl rfl aD ?_
     refine l_mv f rfl rfl fun a f => l_run f rfl rfl aD ?_
     refine l_in f rfl rfl rfl b_gtr fun a f => l_run f rfl rfl aD ?_
     refine l_mv f rfl rfl fun a f => ?_
     obtain ⟨aE, aF, aB⟩ := bind_some aB
     refine l_cut 8 (fun a w => ∃ aG, GLe aw aG ∧ Mem W aG w (H) ∧ Fr a 33 [(0, v0), (1, (.int .i64 x1)), (5, (.int .i64 ae)), (6, (.int .i64 al)), (7, v0), (8, (.int .i64 (x0.length : Int))), (9, (.int .i64 ae)), (14, (.int .i64 al)), (15, (.int .i64 x1)), (16, (.int .i64 (IntKind.i64.wrap (x1 - 1)))), (17, (.bool ar)), (18, (.bool (!ar))), (19, (.bool (!ar))), (20, (.int .i64 ae)), (21, (.bool (decide ((0 : Int) < ae)))), (22, (.bool (decide ((0 : Int) < ae)))), (30, (.bool aE))]) ?_ ?_
     ·rcases cond_some aF with ⟨aH, aF⟩ | ⟨aH, aF⟩
      ·refine l_run f rfl rfl aH ?_
       refine l_mv f rfl rfl fun a f => l_run f rfl rfl aH ?_
       refine l_mv f rfl rfl fun a f => l_run f rfl rfl aH ?_
       refine l_in f rfl rfl rfl b_sub fun a f => l_run f rfl rfl aH ?_
       obtain ⟨aI, aJ, aF⟩ := bind_some aF
       refine l_at T42 f rfl rfl rfl h0 aJ fun aK aL a aM aN f => ?_
       subst aN
       refine l_run f rfl rfl aH ?_
       refine l_loadAt m Pl2 f rfl rfl aM fun a f => l_run f rfl rfl aH ?_
       refine l_mv f rfl rfl fun a f => l_run f rfl rfl aH ?_
       refine l_in f rfl rfl rfl b_geq fun a f => l_run f rfl rfl aD ?_
       refine l_op f rfl rfl rfl (r_pickT (f.eval rfl) aH (f.eval rfl)) fun a f => ?_
       obtain rfl := sj aF
       exact ⟨_, (GLe.refl _), m, f.weak ⟨rfl, rfl, rfl, rfl, rfl, rfl, rfl, rfl, rfl, rfl, rfl, rfl, rfl, rfl, rfl, rfl, rfl, trivial⟩⟩
      ·refine l_not' f rfl rfl rfl aH fun a f => ?_
       refine l_not' f rfl rfl rfl aH fun a f => l_not' f rfl rfl rfl aH fun a f => l_not' f rfl rfl rfl aH fun a f => l_not' f rfl rfl rfl aH fun a f => l_not' f rfl rfl rfl aH fun a f => l_not' f rfl rfl rfl aH fun a f => l_run f rfl rfl aD ?_
       refine l_op f rfl rfl rfl (r_pickF (f.eval rfl) aH (f.eval rfl)) fun a f => ?_
       obtain rfl := sj aF
       exact ⟨_, (GLe.refl _), m, f.weak ⟨rfl, rfl, rfl, rfl, rfl, rfl, rfl, rfl, rfl, rfl, rfl, rfl, rfl, rfl, rfl, rfl, rfl, trivial⟩⟩
     ·rintro a w ⟨aG, aO, m, f⟩
      have h0 := rd1 aO h0
      refine l_op f rfl rfl rfl (r_pickF (f.eval rfl) aD (f.eval rfl)) fun a f => ?_
      obtain rfl := sj aB
      exact ⟨_, aO, m, f.weak ⟨rfl, rfl, rfl, rfl, rfl, rfl, rfl, rfl, rfl, rfl, rfl, rfl, rfl, rfl, trivial⟩⟩
   ·rintro a w ⟨aC, aP, m, f⟩
    have h0 := rd1 aP h0
    refine l_nil ?_
    rcases cond_some ah with ⟨aQ, ah⟩ | ⟨aQ, ah⟩
    ·refine k_true f rfl aQ ?_
     refine k_seq (k_region ?_)
     refine l_as f rfl rfl fun a f => l_nil ?_
     refine k_ret ?_
     obtain rfl := sj ah
     obtain rfl := ai _ rfl
     obtain rfl := sj hd
     exact ⟨[(.bool false)], ⟨f.get _ _ rfl, trivial⟩, f.defers, _, [], (GLe.trans aj (GLe.trans ay aP)), m, rfl, rfl⟩
    ·refine k_false f rfl aQ ?_
     refine k_skip ?_
     refine k_region ?_
     refine l_in f rfl rfl rfl b_add fun a f => l_mv f rfl rfl fun a f => l_nil ?_
     obtain rfl := sj ah
     exact ⟨_, rfl, _, rfl, _, (GLe.trans aj (GLe.trans ay aP)), f.weak ⟨rfl, rfl, rfl, rfl, rfl, trivial⟩, m⟩
  ·refine k_false f rfl ak ?_
   refine k_exit rfl ?_
   obtain rfl := sj ah
   obtain rfl := ai _ rfl
   exact ⟨_, rfl, _, aj, f.weak trivial, m⟩
 ·rintro a w ⟨_, rfl, ac, aR, f, m⟩
  refine k_seq (k_region ?_)
  refine l_as f rfl rfl fun a f => l_nil ?_
  refine k_ret ?_
  obtain rfl := sj hd
  exact ⟨[(.bool true)], ⟨f.get _ _ rfl, trivial⟩, f.defers, _, [], aR, m, rfl, rfl⟩

theorem Wk.impl_GraphOk {W w : World} {G : GH} {H : List Itm} {v0_0 : Value} {x0_0 : (List (List Int))} (m : Mem W G w (H)) (h0_0 : RSl (RSl (RI .i64)) G v0_0 x0_0) {y : Bool} (hd : D.impl_GraphOk x0_0 = some y) :
  Calls Tryz.prog 93 #[(.agg #[v0_0])] w (Res W G H (fun _ Ho v => Ho = [] ∧ v = (.bool y))) := by
 refine calls_b (args := [(.agg #[v0_0])]) (N := 61) [.tmp 2] Tryz.func93 rfl rfl (Nat.le_of_ble_eq_true rfl) rfl fun a f => ?_
 unfold D.impl_GraphOk at hd
 refine k_seq (k_region ?_)
 refine l_box (cs := [v0_0]) m f rfl rfl rfl fun aa w a m f => l_as f rfl rfl fun a f => l_nil (k_seq (k_region ?_))
 refine l_fieldAddr Tryz.underlying30 rfl Tryz.sizeOf22 (by decide) f rfl rfl fun a f => l_boxCell 0 0 m Pl22 f rfl rfl rfl rfl fun a f => l_len Tryz.underlying22 f rfl rfl h0_0 fun a f => l_as f rfl rfl fun a f => l_nil (k_seq (k_seq (k_region ?_)))
 refine l_mv f rfl rfl fun a f => l_in f rfl rfl rfl b_lss fun a f => l_mv f rfl rfl fun a f => ?_
 refine l_cut 3 (fun a w => ∃ ab, GLe G ab ∧ Mem W ab w (Itm.box aa 30 [v0_0] :: H) ∧ Fr a 61 [(0, (.agg #[v0_0])), (1, (.pointer (some ⟨aa, 0, none⟩))), (3, (.int .i64 (x0_0.length : Int))), (13, (.int .i64 (x0_0.length : Int))), (14, (.bool (decide ((x0_0.length : Int) < 1)))), (15, (.bool (decide ((x0_0.length : Int) < 1)))), (18, (.bool ((decide ((x0_0.length : Int) < 1)) || (decide ((16 : Int) < (x0_0.length : Int))))))]) ?_ ?_
 ·rcases Bool.eq_false_or_eq_true (decide ((x0_0.length : Int) < 1)) with ac | ac
  ·refine l_not' f rfl rfl rfl ac fun a f => ?_
   refine l_not' f rfl rfl rfl ac fun a f => l_op f rfl rfl rfl (r_pickT (f.eval rfl) ac (f.eval rfl)) fun a f => ?_
   exact ⟨_, (GLe.refl _), m, f.weak ⟨rfl, rfl, rfl, rfl, rfl, rfl, by rw [ac]; rfl, trivial⟩⟩
  ·refine l_run f rfl rfl ac ?_
   refine l_mv f rfl rfl fun a f => l_run f rfl rfl ac ?_
   refine l_in f rfl rfl rfl b_gtr fun a f => l_op f rfl rfl rfl (r_pickF (f.eval rfl) ac (f.eval rfl)) fun a f => ?_
   exact ⟨_, (GLe.refl _), m, f.weak ⟨rfl, rfl, rfl, rfl, rfl, rfl, by rw [ac]; rfl, trivial⟩⟩
 ·rintro a w ⟨ab, ad, m, f⟩
  have h0_0 := rd2 ad h0_0
  refine l_nil ?_
  rcases cond_some hd with ⟨ae, hd⟩ | ⟨ae, hd⟩
  ·refine k_true f rfl ae ?_
   refine k_seq (k_region ?_)
   refine l_as f rfl rfl fun a f => l_nil ?_
   refine k_ret ?_
   have m : Mem W ab w H := Mem.drop (H' := [Itm.box aa 30 [v0_0]]) m
   obtain rfl := sj hd
   exact ⟨[(.bool false)], ⟨f.get _ _ rfl, trivial⟩, f.defers, _, [], ad, m, rfl, rfl⟩
  ·refine k_false f rfl ae ?_
   refine k_skip ?_
   refine k_seq (k_seq (k_region ?_))
   refine l_fieldAddr Tryz.underlying30 rfl Tryz.sizeOf22 (by decide) f rfl rfl fun a f => l_boxCell 0 0 m Pl22 f rfl rfl rfl rfl fun a f => l_len Tryz.underlying22 f rfl rfl h0_0 fun a f => l_mv f rfl rfl fun a f => l_nil ?_
   obtain ⟨af, ag, hd⟩ := bind_some hd
   refine k_cut (fun a w => ∃ q_91' : Unit, af = .inl q_91' ∧ ∃ (ah : GH), GLe ab ah ∧ Fr a 61 [(1, (.pointer (some ⟨aa, 0, none⟩)))] ∧ Mem W ah w (Itm.box aa 30 [v0_0] :: H)) ?_ ?_
   ·refine k_block ?_
    refine k_loop (fun ai a w => ∃ aj : Int, aj = ai ∧ ∃ (ak : GH), GLe ab ak ∧ Fr a 61 [(1, (.pointer (some ⟨aa, 0, none⟩))), (3, (.int .i64 (x0_0.length : Int))), (20, v0_0), (21, (.int .i64 (x0_0.length : Int))), (22, (.int .i64 aj))] ∧ Mem W ak w (Itm.box aa 30 [v0_0] :: H)) ag ⟨_, rfl, _, (GLe.refl _), f.weak ⟨rfl, rfl, rfl, rfl, rfl, trivial⟩, m⟩ ?_
    clear ag f m
    rintro ai al am an a w ⟨aj, rfl, ak, ao, f, m⟩
    have h0_0 := rd2 ao h0_0
    refine k_seq (k_region ?_)
    refine l_in f rfl rfl rfl b_lss fun a f => l_nil (k_seq ?_)
    rcases cond_some am with ⟨ap, am⟩ | ⟨ap, am⟩
    ·refine k_true f rfl ap ?_
     refine k_skip ?_
     refine k_seq (k_block (k_seq (k_region ?_)))
     refine l_mv f rfl rfl fun a f => ?_
     obtain ⟨aq, ar, am⟩ := bind_some am
     refine l_at T22 f rfl rfl rfl h0_0 ar fun au av a aw ax f => l_loadAt m Pl42 f rfl rfl aw fun a f => l_as f rfl rfl fun a f => l_as f rfl rfl fun a f => l_nil (k_seq (k_region ?_))
     refine l_mv f rfl rfl fun a f => l_mv f rfl rfl fun a f => ?_
     obtain ⟨ay, az, am⟩ := bind_some am
     refine l_res f rfl rfl Tryz.call95 (Wk.impl_increasing m ax az) fun aA aB aC w aD m aE a f => ?_
     obtain ⟨rfl, rfl⟩ := aE
     have ax := rd1 aD ax
     have h0_0 := rd2 aD h0_0
     refine l_op f rfl rfl rfl (r_not (f.eval rfl)) fun a f => l_mv f rfl rfl fun a f => ?_
     obtain ⟨aF, aG, am⟩ := bind_some am
     refine l_cut 4 (fun a w => ∃ aH, GLe aB aH ∧ Mem W aH w (Itm.box aa 30 [v0_0] :: H) ∧ Fr a 61 [(1, (.pointer (some ⟨aa, 0, none⟩))), (3, (.int .i64 (x0_0.length : Int))), (4, (.int .i64 aj)), (5, av), (20, v0_0), (21, (.int .i64 (x0_0.length : Int))), (22, (.int .i64 aj)), (27, av), (28, (.int .i64 (x0_0.length : Int))), (29, (.bool ay)), (30, (.bool (!ay))), (31, (.bool (!ay))), (35, (.bool aF))]) ?_ ?_
     ·rcases cond_some aG with ⟨aI, aG⟩ | ⟨aI, aG⟩
      ·refine l_not' f rfl rfl rfl aI fun a f => ?_
       refine l_not' f rfl rfl rfl aI fun a f => l_not' f rfl rfl rfl aI fun a f => l_op f rfl rfl rfl (r_pickT (f.eval rfl) aI (f.eval rfl)) fun a f => ?_
       obtain rfl := sj aG
       exact ⟨_, (GLe.refl _), m, f.weak ⟨rfl, rfl, rfl, rfl, rfl, rfl, rfl, rfl, rfl, rfl, rfl, rfl, rfl, trivial⟩⟩
      ·refine l_run f rfl rfl aI ?_
       refine l_mv f rfl rfl fun a f => l_run f rfl rfl aI ?_
       refine l_mv f rfl rfl fun a f => l_run f rfl rfl aI ?_
       obtain ⟨aJ, aK, aG⟩ := bind_some aG
       refine l_res f rfl rfl Tryz.call109 (Wk.slices_Contains_int64_int64 m ax aK) fun aL aM aN w aO m aP a f => ?_
       obtain ⟨rfl, rfl⟩ := aP
       have ax := rd1 aO ax
       have h0_0 := rd2 aO h0_0
       refine l_op f rfl rfl rfl (r_pickF (f.eval rfl) aI (f.eval rfl)) fun a f => ?_
       obtain rfl := sj aG
       exact ⟨_, aO, m, f.weak ⟨rfl, rfl, rfl, rfl, rfl, rfl, rfl, rfl, rfl, rfl, rfl, rfl, rfl, trivial⟩⟩
     ·rintro a w ⟨aH, aQ, m, f⟩
      have ax := rd1 aQ ax
      have h0_0 := rd2 aQ h0_0
      refine l_nil ?_
      rcases cond_some am with ⟨aR, am⟩ | ⟨aR, am⟩
      ·refine k_true f rfl aR ?_
       refine k_seq (k_region ?_)
       refine l_as f rfl rfl fun a f => l_nil ?_
       refine k_ret ?_
       have m : Mem W aH w H := Mem.drop (H' := [Itm.box aa 30 [v0_0]]) m
       obtain rfl := sj am
       obtain rfl := an _ rfl
       obtain rfl := sj hd
       exact ⟨[(.bool false)], ⟨f.get _ _ rfl, trivial⟩, f.defers, _, [], (GLe.trans ad (GLe.trans ao (GLe.trans aD aQ))), m, rfl, rfl⟩
      ·refine k_false f rfl aR ?_
       refine k_skip ?_
       refine k_region ?_
       refine l_in f rfl rfl rfl b_add fun a f => l_mv f rfl rfl fun a f => l_nil ?_
       obtain rfl := sj am
       exact ⟨_, rfl, _, rfl, _, (GLe.trans ao (GLe.trans aD aQ)), f.weak ⟨rfl, rfl, rfl, rfl, rfl, trivial⟩, m⟩
    ·refine k_false f rfl ap ?_
     refine k_exit rfl ?_
     obtain rfl := sj am
     obtain rfl := an _ rfl
     exact ⟨_, rfl, _, ao, f.weak ⟨rfl, trivial⟩, m⟩
   ·rintro a w ⟨_, rfl, ah, aS, f, m⟩
    have h0_0 := rd2 aS h0_0
    refine k_seq (k_seq (k_region ?_))
    refine l_fieldAddr Tryz.underlying30 rfl Tryz.sizeOf22 (by decide) f rfl rfl fun a f => l_boxCell 0 0 m Pl22 f rfl rfl rfl rfl fun a f => l_len Tryz.underlying22 f rfl rfl h0_0 fun a f => l_mv f rfl rfl fun a f => l_nil ?_
    obtain ⟨aT, aU, hd⟩ := bind_some hd
    refine k_cut (fun a w => ∃ q_394' : Unit, aT = .inl q_394' ∧ ∃ (aV : GH), GLe ah aV ∧ Fr a 61 [] ∧ Mem W aV w (H)) ?_ ?_
    ·refine k_block ?_
     refine k_loop (fun aW a w => ∃ aX : Int, aX = aW ∧ ∃ (aY : GH), GLe ah aY ∧ Fr a 61 [(1, (.pointer (some ⟨aa, 0, none⟩))), (38, v0_0), (39, (.int .i64 (x0_0.length : Int))), (40, (.int .i64 aX))] ∧ Mem W aY w (Itm.box aa 30 [v0_0] :: H)) aU ⟨_, rfl, _, (GLe.refl _), f.weak ⟨rfl, rfl, rfl, rfl, trivial⟩, m⟩ ?_
     clear aU f m
     rintro aW aZ a0 a1 a w ⟨aX, rfl, aY, a2, f, m⟩
     have h0_0 := rd2 a2 h0_0
     refine k_seq (k_region ?_)
     refine l_in f rfl rfl rfl b_lss fun a f => l_nil (k_seq ?_)
     rcases cond_some a0 with ⟨a3, a0⟩ | ⟨a3, a0⟩
     ·refine k_true f rfl a3 ?_
      refine k_skip ?_
      refine k_seq (k_block (k_seq (k_region ?_)))
      refine l_mv f rfl rfl fun a f => ?_
      obtain ⟨a4, a5, a0⟩ := bind_some a0
      refine l_at T22 f rfl rfl rfl h0_0 a5 fun a6 a7 a a8 a9 f => l_loadAt m Pl42 f rfl rfl a8 fun a f => l_as f rfl rfl fun a f => l_as f rfl rfl fun a f => l_nil (k_seq (k_region ?_))
      refine l_mv f rfl rfl fun a f => l_len Tryz.underlying42 f rfl rfl a9 fun a f => l_mv f rfl rfl fun a f => l_nil ?_
      obtain ⟨ba, bb, a0⟩ := bind_some a0
      refine k_cut (fun a w => ∃ q_560' : Unit, ba = .inl q_560' ∧ ∃ (bc : GH), GLe aY bc ∧ Fr a 61 [(1, (.pointer (some ⟨aa, 0, none⟩))), (38, v0_0), (39, (.int .i64 (x0_0.length : Int))), (40, (.int .i64 aX))] ∧ Mem W bc w (Itm.box aa 30 [v0_0] :: H)) ?_ ?_
      ·refine k_block ?_
       refine k_loop (fun bd a w => ∃ be : Int, be = bd ∧ ∃ (bf : GH), GLe aY bf ∧ Fr a 61 [(1, (.pointer (some ⟨aa, 0, none⟩))), (6, (.int .i64 aX)), (38, v0_0), (39, (.int .i64 (x0_0.length : Int))), (40, (.int .i64 aX)), (45, a7), (46, (.int .i64 (a4.length : Int))), (47, (.int .i64 be))] ∧ Mem W bf w (Itm.box aa 30 [v0_0] :: H)) bb ⟨_, rfl, _, (GLe.refl _), f.weak ⟨rfl, rfl, rfl, rfl, rfl, rfl, rfl, rfl, trivial⟩, m⟩ ?_
       clear bb f m
       rintro bd bg bh bi a w ⟨be, rfl, bf, bj, f, m⟩
       have h0_0 := rd2 bj h0_0
       have a9 := rd1 bj a9
       refine k_seq (k_region ?_)
       refine l_in f rfl rfl rfl b_lss fun a f => l_nil (k_seq ?_)
       rcases cond_some bh with ⟨bk, bh⟩ | ⟨bk, bh⟩
       ·refine k_true f rfl bk ?_
        refine k_skip ?_
        refine k_seq (k_block (k_seq (k_region ?_)))
        obtain ⟨bl, bm, bh⟩ := bind_some bh
        refine l_at T42 f rfl rfl rfl a9 bm fun bn bo a bp bq f => ?_
        subst bq
        refine l_loadAt m Pl2 f rfl rfl bp fun a f => l_as f rfl rfl fun a f => l_nil (k_seq (k_region ?_))
        refine l_fieldAddr Tryz.underlying30 rfl Tryz.sizeOf22 (by decide) f rfl rfl fun a f => l_boxCell 0 0 m Pl22 f rfl rfl rfl rfl fun a f => l_mv f rfl rfl fun a f => ?_
        obtain ⟨br, bs, bh⟩ := bind_some bh
        refine l_at T22 f rfl rfl rfl h0_0 bs fun bt bu a bv bw f => l_loadAt m Pl42 f rfl rfl bv fun a f => l_mv f rfl rfl fun a f => ?_
        obtain ⟨bx, bz, bh⟩ := bind_some bh
        refine l_res f rfl rfl Tryz.call109 (Wk.slices_Contains_int64_int64 m bw bz) fun bA bB bC w bD m bE a f => ?_
        obtain ⟨rfl, rfl⟩ := bE
        have h0_0 := rd2 bD h0_0
        have a9 := rd1 bD a9
        have bv := At.mono bD bv
        have bw := rd1 bD bw
        refine l_op f rfl rfl rfl (r_not (f.eval rfl)) fun a f => l_nil ?_
        rcases cond_some bh with ⟨bF, bh⟩ | ⟨bF, bh⟩
        ·refine k_true f rfl bF ?_
         refine k_seq (k_region ?_)
         refine l_as f rfl rfl fun a f => l_nil ?_
         refine k_ret ?_
         have m : Mem W bB w H := Mem.drop (H' := [Itm.box aa 30 [v0_0]]) m
         obtain rfl := sj bh
         obtain rfl := bi _ rfl
         obtain rfl := sj a0
         obtain rfl := a1 _ rfl
         obtain rfl := sj hd
         exact ⟨[(.bool false)], ⟨f.get _ _ rfl, trivial⟩, f.defers, _, [], (GLe.trans ad (GLe.trans aS (GLe.trans a2 (GLe.trans bj bD)))), m, rfl, rfl⟩
        ·refine k_false f rfl bF ?_
         refine k_skip ?_
         refine k_region ?_
         refine l_in f rfl rfl rfl b_add fun a f => l_mv f rfl rfl fun a f => l_nil ?_
         obtain rfl := sj bh
         exact ⟨_, rfl, _, rfl, _, (GLe.trans bj bD), f.weak ⟨rfl, rfl, rfl, rfl, rfl, rfl, rfl, rfl, trivial⟩, m⟩
       ·refine k_false f rfl bk ?_
        refine k_exit rfl ?_
        obtain rfl := sj bh
        obtain rfl := bi _ rfl
        exact ⟨_, rfl, _, bj, f.weak ⟨rfl, rfl, rfl, rfl, trivial⟩, m⟩
      ·rintro a w ⟨_, rfl, bc, bG, f, m⟩
       have h0_0 := rd2 bG h0_0
       refine k_region ?_
       refine l_in f rfl rfl rfl b_add fun a f => l_mv f rfl rfl fun a f => l_nil ?_
       obtain rfl := sj a0
       exact ⟨_, rfl, _, rfl, _, (GLe.trans a2 bG), f.weak ⟨rfl, rfl, rfl, rfl, trivial⟩, m⟩
     ·refine k_false f rfl a3 ?_
      refine k_exit rfl ?_
      have m : Mem W aY w H := Mem.drop (H' := [Itm.box aa 30 [v0_0]]) m
      obtain rfl := sj a0
      obtain rfl := a1 _ rfl
      exact ⟨_, rfl, _, a2, f.weak trivial, m⟩
    ·rintro a w ⟨_, rfl, aV, bH, f, m⟩
     refine k_seq (k_region ?_)
     refine l_as f rfl rfl fun a f => l_nil ?_
     refine k_ret ?_
     obtain rfl := sj hd
     exact ⟨[(.bool true)], ⟨f.get _ _ rfl, trivial⟩, f.defers, _, [], (GLe.trans ad (GLe.trans aS bH)), m, rfl, rfl⟩

theorem Wk.impl_OrderOk {W w : World} {G : GH} {H : List Itm} {v0_0 : Value} {v1 : Value} {x0_0 : (List (List Int))} {x1 : (List Int)} (m : Mem W G w (H)) (h0_0 : RSl (RSl (RI .i64)) G v0_0 x0_0) (h1 : RSl (RI .i64) G v1 x1) {y : Bool} (hd : D.impl_OrderOk x0_0 x1 = some y) :
  Calls Tryz.prog 71 #[(.agg #[v0_0]), v1] w (Res W G H (fun _ Ho v => Ho = [] ∧ v = (.bool y))) := by
 refine calls_b (args := [(.agg #[v0_0]), v1]) (N := 25) [.tmp 4] Tryz.func71 rfl rfl (Nat.le_of_ble_eq_true rfl) rfl fun a f => ?_
 unfold D.impl_OrderOk at hd
 refine k_seq (k_region ?_)
 refine l_box (cs := [v0_0]) m f rfl rfl rfl fun aa w a m f => l_as f rfl rfl fun a f => l_nil (k_seq (k_seq (k_region ?_)))
 refine l_boxAgg 0 0 (ds := [v0_0]) m Ag30 f rfl rfl rfl rfl rfl fun a f => ?_
 obtain ⟨ab, ac, hd⟩ := bind_some hd
 refine l_res f rfl rfl Tryz.call93 (Wk.impl_GraphOk m h0_0 ac) fun ad ae af w ag m ah a f => ?_
 obtain ⟨rfl, rfl⟩ := ah
 have h0_0 := rd2 ag h0_0
 have h1 := rd1 ag h1
 refine l_op f rfl rfl rfl (r_not (f.eval rfl)) fun a f => l_mv f rfl rfl fun a f => ?_
 refine l_cut 7 (fun a w => ∃ ai, GLe ae ai ∧ Mem W ai w (Itm.box aa 30 [v0_0] :: H) ∧ Fr a 25 [(0, (.agg #[v0_0])), (1, v1), (2, (.pointer (some ⟨aa, 0, none⟩))), (6, (.agg #[v0_0])), (7, (.bool ab)), (8, (.bool (!ab))), (9, (.bool (!ab))), (16, (.bool ((!ab) || ((x1.length : Int) != (x0_0.length : Int)))))]) ?_ ?_
 ·rcases Bool.eq_false_or_eq_true (!ab) with aj | aj
  ·refine l_not' f rfl rfl rfl aj fun a f => ?_
   refine l_not' f rfl rfl rfl aj fun a f => l_not' f rfl rfl rfl aj fun a f => l_not' f rfl rfl rfl aj fun a f => l_not' f rfl rfl rfl aj fun a f => l_not' f rfl rfl rfl aj fun a f => l_op f rfl rfl rfl (r_pickT (f.eval rfl) aj (f.eval rfl)) fun a f => ?_
   exact ⟨_, (GLe.refl _), m, f.weak ⟨rfl, rfl, rfl, rfl, rfl, rfl, rfl, by rw [aj]; rfl, trivial⟩⟩
  ·refine l_run f rfl rfl aj ?_
   refine l_mv f rfl rfl fun a f => l_run f rfl rfl aj ?_
   refine l_len Tryz.underlying42 f rfl rfl h1 fun a f => l_run f rfl rfl aj ?_
   refine l_fieldAddr Tryz.underlying30 rfl Tryz.sizeOf22 (by decide) f rfl rfl fun a f => l_run f rfl rfl aj ?_
   refine l_boxCell 0 0 m Pl22 f rfl rfl rfl rfl fun a f => l_run f rfl rfl aj ?_
   refine l_len Tryz.underlying22 f rfl rfl h0_0 fun a f => l_run f rfl rfl aj ?_
   refine l_in f rfl rfl rfl b_neq fun a f => l_op f rfl rfl rfl (r_pickF (f.eval rfl) aj (f.eval rfl)) fun a f => ?_
   exact ⟨_, (GLe.refl _), m, f.weak ⟨rfl, rfl, rfl, rfl, rfl, rfl, rfl, by rw [aj]; rfl, trivial⟩⟩
 ·rintro a w ⟨ai, ak, m, f⟩
  have h0_0 := rd2 ak h0_0
  have h1 := rd1 ak h1
  refine l_nil ?_
  rcases cond_some hd with ⟨al, hd⟩ | ⟨al, hd⟩
  ·refine k_true f rfl al ?_
   refine k_seq (k_region ?_)
   refine l_as f rfl rfl fun a f => l_nil ?_
   refine k_ret ?_
   have m : Mem W ai w H := Mem.drop (H' := [Itm.box aa 30 [v0_0]]) m
   obtain rfl := sj hd
   exact ⟨[(.bool false)], ⟨f.get _ _ rfl, trivial⟩, f.defers, _, [], (GLe.trans ag ak), m, rfl, rfl⟩
  ·refine k_false f rfl al ?_
   refine k_skip ?_
   refine k_seq (k_region ?_)
   refine l_mv f rfl rfl fun a f => l_res f rfl rfl Tryz.call134 (Wk.slices_Values_int64_int64 m h1) fun am an ao w ap m aq a f => ?_
   obtain ⟨ar, rfl, rfl⟩ := aq
   have h0_0 := rd2 ap h0_0
   have h1 := rd1 ap h1
   obtain ⟨au, av, hd⟩ := bind_some hd
   refine l_res f rfl rfl Tryz.call133 (Wk.slices_Sorted_int64 m h1 av) fun aw ax ay w az m aA a f => ?_
   obtain ⟨aB, aC, rfl, rfl, aD⟩ := aA
   have h0_0 := rd2 az h0_0
   have h1 := rd1 az h1
   refine l_as f rfl rfl fun a f => l_nil (k_seq (k_region ?_))
   refine l_mv f rfl rfl fun a f => l_fieldAddr Tryz.underlying30 rfl Tryz.sizeOf22 (by decide) f rfl rfl fun a f => l_boxCell 1 0 m Pl22 f rfl rfl rfl rfl fun a f => l_len Tryz.underlying22 f rfl rfl h0_0 fun a f => ?_
   obtain ⟨aE, aF, hd⟩ := bind_some hd
   refine l_res f rfl rfl Tryz.call95 (Ow.lendCall (RI.mono _) 0 aD m rfl (fun aG aH m aI => Wk.impl_increasing m aI aF) (fun _ _ _ _ h => h)) fun aJ aK aL w aM m aN a f => ?_
   obtain ⟨rfl, rfl⟩ := aN
   have h0_0 := rd2 aM h0_0
   have h1 := rd1 aM h1
   have aD := od1 aM aD
   refine l_as f rfl rfl fun a f => l_nil ?_
   refine k_ret ?_
   have m : Mem W aK w H := Mem.drop (H' := [aC, Itm.box aa 30 [v0_0]]) m
   obtain rfl := sj hd
   exact ⟨[(.bool aE)], ⟨f.get _ _ rfl, trivial⟩, f.defers, _, [], (GLe.trans ag (GLe.trans ak (GLe.trans ap (GLe.trans az aM)))), m, rfl, rfl⟩

theorem Wk.impl_one {W w : World} {G : GH} {H : List Itm} {x0 : Int} (m : Mem W G w (H))  {y : Int} (hd : D.impl_one x0 = some y) :
  Calls Tryz.prog 100 #[(.int .i64 x0)] w (Res W G H (fun _ Ho v => Ho = [] ∧ v = (.int .u32 y))) := by
 refine calls_b (args := [(.int .i64 x0)]) (N := 5) [.tmp 2] Tryz.func100 rfl rfl (Nat.le_of_ble_eq_true rfl) rfl fun a f => ?_
 unfold D.impl_one at hd
 refine k_seq (k_region ?_)
 refine l_as f rfl rfl fun a f => l_nil (k_seq (k_region ?_))
 refine l_mv f rfl rfl fun a f => ?_
 obtain ⟨aa, hd⟩ := cond_none hd
 refine l_op f rfl rfl rfl (r_shl (f.eval rfl) (f.eval rfl) aa) fun a f => l_as f rfl rfl fun a f => l_nil ?_
 refine k_ret ?_
 obtain rfl := sj hd
 exact ⟨[(.int .u32 (ishl .u32 1 x0))], ⟨f.get _ _ rfl, trivial⟩, f.defers, _, [], (GLe.refl _), m, rfl, rfl⟩

theorem Wk.impl_maskOf {W w : World} {G : GH} {H : List Itm} {v0 : Value} {x0 : (List Int)} (m : Mem W G w (H)) (h0 : RSl (RI .i64) G v0 x0) {y : Int} (hd : D.impl_maskOf x0 = some y) :
  Calls Tryz.prog 118 #[v0] w (Res W G H (fun _ Ho v => Ho = [] ∧ v = (.int .u32 y))) := by
 refine calls_b (args := [v0]) (N := 18) [.tmp 2] Tryz.func118 rfl rfl (Nat.le_of_ble_eq_true rfl) rfl fun a f => ?_
 unfold D.impl_maskOf at hd
 refine k_seq (k_region ?_)
 refine l_as f rfl rfl fun a f => l_nil (k_seq (k_region ?_))
 refine l_as f rfl rfl fun a f => l_nil (k_seq (k_seq (k_region ?_)))
 refine l_mv f rfl rfl fun a f => l_len Tryz.underlying42 f rfl rfl h0 fun a f => l_mv f rfl rfl fun a f => l_nil ?_
 obtain ⟨aa, ab, hd⟩ := bind_some hd
 refine k_cut (fun a w => ∃ ac : Int, ac = aa ∧ ∃ (ad : GH), GLe G ad ∧ Fr a 18 [(3, (.int .u32 ac))] ∧ Mem W ad w (H)) ?_ ?_
 ·refine k_block ?_
  refine k_loop (fun ae a w => ∃ af : Int, ∃ ag : Int, (af, ag) = ae ∧ ∃ (ah : GH), GLe G ah ∧ Fr a 18 [(3, (.int .u32 af)), (6, v0), (7, (.int .i64 (x0.length : Int))), (8, (.int .i64 ag))] ∧ Mem W ah w (H)) ab ⟨_, _, rfl, _, (GLe.refl _), f.weak ⟨rfl, rfl, rfl, rfl, trivial⟩, m⟩ ?_
  clear ab f m
  rintro ae ai aj ak a w ⟨af, ag, rfl, ah, al, f, m⟩
  have h0 := rd1 al h0
  refine k_seq (k_region ?_)
  refine l_in f rfl rfl rfl b_lss fun a f => l_nil (k_seq ?_)
  rcases cond_some aj with ⟨am, aj⟩ | ⟨am, aj⟩
  ·refine k_true f rfl am ?_
   refine k_skip ?_
   refine k_seq (k_block (k_seq (k_region ?_)))
   obtain ⟨an, ao, aj⟩ := bind_some aj
   refine l_at T42 f rfl rfl rfl h0 ao fun ap aq a ar au f => ?_
   subst au
   refine l_loadAt m Pl2 f rfl rfl ar fun a f => l_as f rfl rfl fun a f => l_nil (k_region ?_)
   refine l_mv f rfl rfl fun a f => l_mv f rfl rfl fun a f => ?_
   obtain ⟨av, aw, aj⟩ := bind_some aj
   refine l_res f rfl rfl Tryz.call100 (Wk.impl_one m  aw) fun ax ay az w aA m aB a f => ?_
   obtain ⟨rfl, rfl⟩ := aB
   have h0 := rd1 aA h0
   refine l_in f rfl rfl rfl b_or fun a f => l_as f rfl rfl fun a f => l_nil (k_region ?_)
   refine l_in f rfl rfl rfl b_add fun a f => l_mv f rfl rfl fun a f => l_nil ?_
   obtain rfl := sj aj
   exact ⟨_, rfl, _, _, rfl, _, (GLe.trans al aA), f.weak ⟨rfl, rfl, rfl, rfl, trivial⟩, m⟩
  ·refine k_false f rfl am ?_
   refine k_exit rfl ?_
   obtain rfl := sj aj
   obtain rfl := ak _ rfl
   exact ⟨_, rfl, _, al, f.weak ⟨rfl, trivial⟩, m⟩
 ·rintro a w ⟨ac, rfl, ad, aC, f, m⟩
  refine k_seq (k_region ?_)
  refine l_mv f rfl rfl fun a f => l_as f rfl rfl fun a f => l_nil ?_
  refine k_ret ?_
  obtain rfl := sj hd
  exact ⟨[(.int .u32 ac)], ⟨f.get _ _ rfl, trivial⟩, f.defers, _, [], aC, m, rfl, rfl⟩

theorem Wk.impl_netsOf {W w : World} {G : GH} {H : List Itm} {v0_0 : Value} {x0_0 : (List (List Int))} (m : Mem W G w (H)) (h0_0 : RSl (RSl (RI .i64)) G v0_0 x0_0) {y : ((List Int))} (hd : D.impl_netsOf x0_0 = some y) :
  Calls Tryz.prog 50 #[(.agg #[v0_0])] w (Res W G H (fun G' Ho v => ∃ r0 : Value, ∃ i0 : Itm, Ho = [i0] ∧ r0 = v ∧ Ow (RI .u32) 76 G' i0 r0 y)) := by
 refine calls_b (args := [(.agg #[v0_0])]) (N := 21) [.tmp 2] Tryz.func50 rfl rfl (Nat.le_of_ble_eq_true rfl) rfl fun a f => ?_
 unfold D.impl_netsOf at hd
 refine k_seq (k_region ?_)
 refine l_box (cs := [v0_0]) m f rfl rfl rfl fun aa w a m f => l_as f rfl rfl fun a f => l_nil (k_seq (k_region ?_))
 refine l_slit (R := (RI .u32)) (xs := ([] : List Int)) (RI.one _) m T73 f rfl rfl rfl (by decide) (All2.nil _) fun ab ac w a m ad f => l_as f rfl rfl fun a f => l_nil (k_seq (k_seq (k_region ?_)))
 refine l_fieldAddr Tryz.underlying30 rfl Tryz.sizeOf22 (by decide) f rfl rfl fun a f => l_boxCell 1 0 m Pl22 f rfl rfl rfl rfl fun a f => l_len Tryz.underlying22 f rfl rfl h0_0 fun a f => l_mv f rfl rfl fun a f => l_nil ?_
 obtain ⟨ae, af, hd⟩ := bind_some hd
 refine k_cut (fun a w => ∃ ag : List Int, ag = ae ∧ ∃ (ah : GH) (ai : Value) (aj : Itm), GLe G ah ∧ Fr a 21 [(3, ai)] ∧ Mem W ah w (aj :: H) ∧ Ow (RI .u32) 76 ah aj ai ag) ?_ ?_
 ·refine k_block ?_
  have m := m.eraseAt 1
  refine k_loop (fun ak a w => ∃ al : List Int, ∃ am : Int, (al, am) = ak ∧ ∃ (an : GH) (ao : Value) (ap : Itm), GLe G an ∧ Fr a 21 [(3, ao), (8, v0_0), (9, (.int .i64 (x0_0.length : Int))), (10, (.int .i64 am))] ∧ Mem W an w (ap :: H) ∧ Ow (RI .u32) 76 an ap ao al) af ⟨_, _, rfl, _, ac, ab, (GLe.refl _), f.weak ⟨rfl, rfl, rfl, rfl, trivial⟩, m, ad⟩ ?_
  clear af f m
  rintro ak aq ar au a w ⟨al, am, rfl, an, ao, ap, av, f, m, aw⟩
  have h0_0 := rd2 av h0_0
  refine k_seq (k_region ?_)
  refine l_in f rfl rfl rfl b_lss fun a f => l_nil (k_seq ?_)
  rcases cond_some ar with ⟨ax, ar⟩ | ⟨ax, ar⟩
  ·refine k_true f rfl ax ?_
   refine k_skip ?_
   refine k_seq (k_block (k_seq (k_region ?_)))
   obtain ⟨ay, az, ar⟩ := bind_some ar
   refine l_at T22 f rfl rfl rfl h0_0 az fun aA aB a aC aD f => l_loadAt m Pl42 f rfl rfl aC fun a f => l_as f rfl rfl fun a f => l_nil (k_region ?_)
   refine l_mv f rfl rfl fun a f => l_mv f rfl rfl fun a f => ?_
   obtain ⟨aE, aF, ar⟩ := bind_some ar
   refine l_res f rfl rfl Tryz.call118 (Wk.impl_maskOf m aD aF) fun aG aH aI w aJ m aK a f => ?_
   obtain ⟨rfl, rfl⟩ := aK
   have aD := rd1 aJ aD
   have h0_0 := rd2 aJ h0_0
   have aw := od1 aJ aw
   refine l_slit (R := (RI .u32)) (xs := ([aE] : List Int)) (RI.one _) m T73 f rfl rfl rfl (by decide) (All2.cons rfl (All2.nil _)) fun aL aM w a m aN f => ?_
   obtain ⟨aO, aP, ar⟩ := bind_some ar
   refine l_append (RI.one _) 1 m aw rfl T73 rfl (by decide) f rfl rfl rfl (Ow.src (j := 0) aN m rfl) aP fun aQ aR w a m aS f => l_as f rfl rfl fun a f => l_nil (k_region ?_)
   refine l_in f rfl rfl rfl b_add fun a f => l_mv f rfl rfl fun a f => l_nil ?_
   have m := m.front 1 rfl
   have m := m.eraseAt 1
   obtain rfl := sj ar
   exact ⟨_, rfl, _, _, rfl, _, aR, aQ, (GLe.trans av aJ), f.weak ⟨rfl, rfl, rfl, rfl, trivial⟩, m, aS⟩
  ·refine k_false f rfl ax ?_
   refine k_exit rfl ?_
   obtain rfl := sj ar
   obtain rfl := au _ rfl
   exact ⟨_, rfl, _, ao, ap, av, f.weak ⟨rfl, trivial⟩, m, aw⟩
 ·rintro a w ⟨ag, rfl, ah, ai, aj, aT, f, m, aU⟩
  refine k_seq (k_region ?_)
  refine l_mv f rfl rfl fun a f => l_as f rfl rfl fun a f => l_nil ?_
  refine k_ret ?_
  obtain rfl := sj hd
  exact ⟨[ai], ⟨f.get _ _ rfl, trivial⟩, f.defers, _, [aj], aT, m, _, _, rfl, rfl, aU⟩

theorem Wk.impl_narrow {W w : World} {G : GH} {H : List Itm} {v0 : Value} {x0 : (List Int)} (m : Mem W G w (H)) (h0 : RSl (RI .i64) G v0 x0) {y : ((List Int))} (hd : D.impl_narrow x0 = some y) :
  Calls Tryz.prog 73 #[v0] w (Res W G H (fun G' Ho v => ∃ r0 : Value, ∃ i0 : Itm, Ho = [i0] ∧ r0 = v ∧ Ow (RI .i64) 3 G' i0 r0 y)) := by
 refine calls_b (args := [v0]) (N := 21) [.tmp 2] Tryz.func73 rfl rfl (Nat.le_of_ble_eq_true rfl) rfl fun a f => ?_
 unfold D.impl_narrow at hd
 refine k_seq (k_region ?_)
 refine l_as f rfl rfl fun a f => l_nil (k_seq (k_region ?_))
 refine l_mv f rfl rfl fun a f => l_len Tryz.underlying42 f rfl rfl h0 fun a f => ?_
 obtain ⟨aa, ab, hd⟩ := bind_some hd
 refine l_make (R := (RI .i64)) m T94 rfl (by decide) rfl f rfl rfl rfl ab fun ac ad w a m ae f => l_as f rfl rfl fun a f => l_nil (k_seq (k_seq (k_region ?_)))
 refine l_mv f rfl rfl fun a f => l_len Tryz.underlying42 f rfl rfl h0 fun a f => l_mv f rfl rfl fun a f => l_nil ?_
 obtain ⟨af, ag, hd⟩ := bind_some hd
 refine k_cut (fun a w => ∃ ah : List Int, ah = af ∧ ∃ (ai : GH) (aj : Value) (ak : Itm), GLe G ai ∧ Fr a 21 [(3, aj)] ∧ Mem W ai w (ak :: H) ∧ Ow (RI .i64) 3 ai ak aj ah) ?_ ?_
 ·refine k_block ?_
  refine k_loop (fun al a w => ∃ am : List Int, ∃ an : Int, (am, an) = al ∧ ∃ (ao : GH) (ap : Value) (aq : Itm), GLe G ao ∧ Fr a 21 [(3, ap), (9, v0), (10, (.int .i64 (x0.length : Int))), (11, (.int .i64 an))] ∧ Mem W ao w (aq :: H) ∧ Ow (RI .i64) 3 ao aq ap am) ag ⟨_, _, rfl, _, ad, ac, (GLe.refl _), f.weak ⟨rfl, rfl, rfl, rfl, trivial⟩, m, ae⟩ ?_
  clear ag f m
  rintro al ar au av a w ⟨am, an, rfl, ao, ap, aq, aw, f, m, ax⟩
  have h0 := rd1 aw h0
  refine k_seq (k_region ?_)
  refine l_in f rfl rfl rfl b_lss fun a f => l_nil (k_seq ?_)
  rcases cond_some au with ⟨ay, au⟩ | ⟨ay, au⟩
  ·refine k_true f rfl ay ?_
   refine k_skip ?_
   refine k_seq (k_block (k_seq (k_region ?_)))
   obtain ⟨az, aA, au⟩ := bind_some au
   refine l_at T42 f rfl rfl rfl h0 aA fun aB aC a aD aE f => ?_
   subst aE
   refine l_loadAt m Pl2 f rfl rfl aD fun a f => l_as f rfl rfl fun a f => l_nil (k_region ?_)
   refine l_mv f rfl rfl fun a f => l_mv f rfl rfl fun a f => l_slit (R := (RI .i64)) (xs := ([az] : List Int)) (RI.one _) m T94 f rfl rfl rfl (by decide) (All2.cons rfl (All2.nil _)) fun aF aG w a m aH f => ?_
   obtain ⟨aI, aJ, au⟩ := bind_some au
   refine l_append (RI.one _) 1 m ax rfl T94 rfl (by decide) f rfl rfl rfl (Ow.src (j := 0) aH m rfl) aJ fun aK aL w a m aM f => l_as f rfl rfl fun a f => l_nil (k_region ?_)
   refine l_in f rfl rfl rfl b_add fun a f => l_mv f rfl rfl fun a f => l_nil ?_
   have m := m.front 1 rfl
   have m := m.eraseAt 1
   obtain rfl := sj au
   exact ⟨_, rfl, _, _, rfl, _, aL, aK, aw, f.weak ⟨rfl, rfl, rfl, rfl, trivial⟩, m, aM⟩
  ·refine k_false f rfl ay ?_
   refine k_exit rfl ?_
   obtain rfl := sj au
   obtain rfl := av _ rfl
   exact ⟨_, rfl, _, ap, aq, aw, f.weak ⟨rfl, trivial⟩, m, ax⟩
 ·rintro a w ⟨ah, rfl, ai, aj, ak, aN, f, m, aO⟩
  refine k_seq (k_region ?_)
  refine l_mv f rfl rfl fun a f => l_as f rfl rfl fun a f => l_nil ?_
  refine k_ret ?_
  obtain rfl := sj hd
  exact ⟨[aj], ⟨f.get _ _ rfl, trivial⟩, f.defers, _, [ak], aN, m, _, _, rfl, rfl, aO⟩

theorem Wk.impl_firstOf {W w : World} {G : GH} {H : List Itm} {x0 : Int} (m : Mem W G w (H))  {y : Int} (hd : D.impl_firstOf x0 = some y) :
  Calls Tryz.prog 120 #[(.int .i64 x0)] w (Res W G H (fun _ Ho v => Ho = [] ∧ v = (.int .u32 y))) := by
 refine calls_b (args := [(.int .i64 x0)]) (N := 6) [.tmp 2] Tryz.func120 rfl rfl (Nat.le_of_ble_eq_true rfl) rfl fun a f => ?_
 unfold D.impl_firstOf at hd
 refine k_seq (k_region ?_)
 refine l_as f rfl rfl fun a f => l_nil (k_seq (k_region ?_))
 refine l_mv f rfl rfl fun a f => ?_
 obtain ⟨aa, hd⟩ := cond_none hd
 refine l_op f rfl rfl rfl (r_shl (f.eval rfl) (f.eval rfl) aa) fun a f => l_in f rfl rfl rfl b_sub fun a f => l_as f rfl rfl fun a f => l_nil ?_
 refine k_ret ?_
 obtain rfl := sj hd
 exact ⟨[(.int .u32 (IntKind.u32.wrap ((ishl .u32 1 x0) - 1)))], ⟨f.get _ _ rfl, trivial⟩, f.defers, _, [], (GLe.refl _), m, rfl, rfl⟩

theorem Wk.impl_nets_all {W w : World} {G : GH} {H : List Itm} {v0 : Value} {x0 : (List Int)} (m : Mem W G w (H)) (h0 : RSl (RI .u32) G v0 x0) {y : Int} (hd : D.impl_nets_all x0 = some y) :
  Calls Tryz.prog 53 #[v0] w (Res W G H (fun _ Ho v => Ho = [] ∧ v = (.int .u32 y))) := by
 refine calls_b (args := [v0]) (N := 6) [.tmp 2] Tryz.func53 rfl rfl (Nat.le_of_ble_eq_true rfl) rfl fun a f => ?_
 unfold D.impl_nets_all at hd
 refine k_seq (k_region ?_)
 refine l_as f rfl rfl fun a f => l_nil (k_seq (k_region ?_))
 refine l_mv f rfl rfl fun a f => l_len Tryz.underlying73 f rfl rfl h0 fun a f => ?_
 obtain ⟨aa, ab, hd⟩ := bind_some hd
 refine l_res f rfl rfl Tryz.call120 (Wk.impl_firstOf m  ab) fun ac ad ae w af m ag a f => ?_
 obtain ⟨rfl, rfl⟩ := ag
 have h0 := rd1 af h0
 refine l_as f rfl rfl fun a f => l_nil ?_
 refine k_ret ?_
 obtain rfl := sj hd
 exact ⟨[(.int .u32 aa)], ⟨f.get _ _ rfl, trivial⟩, f.defers, _, [], af, m, rfl, rfl⟩

theorem Wk.impl_vset_least {W w : World} {G : GH} {H : List Itm} {x0 : Int} (hW : TabW W) (m : Mem W G w (H))  {y : Int} (hd : D.impl_vset_least x0 = some y) :
  Calls Tryz.prog 147 #[(.int .u32 x0)] w (Res W G H (fun _ Ho v => Ho = [] ∧ v = (.int .i64 y))) := by
 refine calls_b (args := [(.int .u32 x0)]) (N := 5) [.tmp 2] Tryz.func147 rfl rfl (Nat.le_of_ble_eq_true rfl) rfl fun a f => ?_
 unfold D.impl_vset_least at hd
 refine k_seq (k_region ?_)
 refine l_as f rfl rfl fun a f => l_nil (k_seq (k_region ?_))
 refine l_mv f rfl rfl fun a f => ?_
 obtain ⟨aa, ab, hd⟩ := bind_some hd
 refine l_res f rfl rfl Tryz.call179 (Wk.math_bits_TrailingZeros32 hW m  ab) fun ac ad ae w af m ag a f => ?_
 obtain ⟨rfl, rfl⟩ := ag
 refine l_as f rfl rfl fun a f => l_nil ?_
 refine k_ret ?_
 obtain rfl := sj hd
 exact ⟨[(.int .i64 aa)], ⟨f.get _ _ rfl, trivial⟩, f.defers, _, [], af, m, rfl, rfl⟩

theorem Wk.impl_vset_list {W w : World} {G : GH} {H : List Itm} {x0 : Int} (hW : TabW W) (m : Mem W G w (H))  {y : ((List Int))} (hd : D.impl_vset_list x0 = some y) :
  Calls Tryz.prog 103 #[(.int .u32 x0)] w (Res W G H (fun G' Ho v => ∃ r0 : Value, ∃ i0 : Itm, Ho = [i0] ∧ r0 = v ∧ Ow (RI .i64) 3 G' i0 r0 y)) := by
 refine calls_b (args := [(.int .u32 x0)]) (N := 17) [.tmp 2] Tryz.func103 rfl rfl (Nat.le_of_ble_eq_true rfl) rfl fun a f => ?_
 unfold D.impl_vset_list at hd
 refine k_seq (k_region ?_)
 refine l_as f rfl rfl fun a f => l_nil (k_seq (k_region ?_))
 refine l_slit (R := (RI .i64)) (xs := ([] : List Int)) (RI.one _) m T94 f rfl rfl rfl (by decide) (All2.nil _) fun aa ab w a m ac f => l_as f rfl rfl fun a f => l_nil (k_seq ?_)
 obtain ⟨ad, ae, hd⟩ := bind_some hd
 refine k_cut (fun a w => ∃ af : List Int, af = ad ∧ ∃ (ag : GH) (ah : Value) (ai : Itm), GLe G ag ∧ Fr a 17 [(3, ah)] ∧ Mem W ag w (ai :: H) ∧ Ow (RI .i64) 3 ag ai ah af) ?_ ?_
 ·refine k_block ?_
  refine k_loop (fun aj a w => ∃ ak : Int, ∃ al : List Int, (ak, al) = aj ∧ ∃ (am : GH) (an : Value) (ao : Itm), GLe G am ∧ Fr a 17 [(0, (.int .u32 ak)), (3, an)] ∧ Mem W am w (ao :: H) ∧ Ow (RI .i64) 3 am ao an al) ae ⟨_, _, rfl, _, ab, aa, (GLe.refl _), f.weak ⟨rfl, rfl, trivial⟩, m, ac⟩ ?_
  clear ae f m
  rintro aj ap aq ar a w ⟨ak, al, rfl, am, an, ao, au, f, m, av⟩
  refine k_seq (k_seq (k_region ?_))
  refine l_mv f rfl rfl fun a f => l_in f rfl rfl rfl b_neq fun a f => l_nil ?_
  rcases cond_some aq with ⟨aw, aq⟩ | ⟨aw, aq⟩
  ·refine k_true f rfl aw ?_
   refine k_skip ?_
   refine k_seq (k_block (k_region ?_))
   refine l_mv f rfl rfl fun a f => l_mv f rfl rfl fun a f => ?_
   obtain ⟨ax, ay, aq⟩ := bind_some aq
   refine l_res f rfl rfl Tryz.call147 (Wk.impl_vset_least hW m  ay) fun az aA aB w aC m aD a f => ?_
   obtain ⟨rfl, rfl⟩ := aD
   have av := od1 aC av
   refine l_slit (R := (RI .i64)) (xs := ([ax] : List Int)) (RI.one _) m T94 f rfl rfl rfl (by decide) (All2.cons rfl (All2.nil _)) fun aE aF w a m aG f => ?_
   obtain ⟨aH, aI, aq⟩ := bind_some aq
   refine l_append (RI.one _) 1 m av rfl T94 rfl (by decide) f rfl rfl rfl (Ow.src (j := 0) aG m rfl) aI fun aJ aK w a m aL f => l_as f rfl rfl fun a f => l_nil (k_region ?_)
   refine l_mv f rfl rfl fun a f => l_mv f rfl rfl fun a f => l_in f rfl rfl rfl b_sub fun a f => l_in f rfl rfl rfl b_and fun a f => l_as f rfl rfl fun a f => l_nil ?_
   have m := m.front 1 rfl
   have m := m.eraseAt 1
   obtain rfl := sj aq
   exact ⟨_, rfl, _, _, rfl, _, aK, aJ, (GLe.trans au aC), f.weak ⟨rfl, rfl, trivial⟩, m, aL⟩
  ·refine k_false f rfl aw ?_
   refine k_exit rfl ?_
   obtain rfl := sj aq
   obtain rfl := ar _ rfl
   exact ⟨_, rfl, _, an, ao, au, f.weak ⟨rfl, trivial⟩, m, av⟩
 ·rintro a w ⟨af, rfl, ag, ah, ai, aM, f, m, aN⟩
  refine k_seq (k_region ?_)
  refine l_mv f rfl rfl fun a f => l_as f rfl rfl fun a f => l_nil ?_
  refine k_ret ?_
  obtain rfl := sj hd
  exact ⟨[ah], ⟨f.get _ _ rfl, trivial⟩, f.defers, _, [ai], aM, m, _, _, rfl, rfl, aN⟩

theorem Wk.impl_elimination {W w : World} {G : GH} {H : List Itm} {v0 : Value} {v1 : Value} {x0 : (List Int)} {x1 : (List Int)} (hW : TabW W) (m : Mem W G w (H)) (h0 : RSl (RI .u32) G v0 x0) (h1 : RSl (RI .i64) G v1 x1) {y : ((List Int)) × ((List Int))} (hd : D.impl_elimination x0 x1 = some y) :
  Calls Tryz.prog 135 #[v0, v1] w (Res W G H (fun G' Ho v => ∃ r0 : Value, ∃ i0 : Itm, ∃ r2 : Value, ∃ i2 : Itm, Ho = [i0, i2] ∧ v = .tuple #[r0, r2] ∧ Ow (RI .u32) 76 G' i0 r0 y.1 ∧ Ow (RI .u32) 76 G' i2 r2 y.2)) := by
 refine calls_b (args := [v0, v1]) (N := 67) [.tmp 4, .tmp 5] Tryz.func135 rfl rfl (Nat.le_of_ble_eq_true rfl) rfl fun a f => ?_
 unfold D.impl_elimination at hd
 refine k_seq (k_region ?_)
 refine l_as f rfl rfl fun a f => l_as f rfl rfl fun a f => l_nil (k_seq ?_)
 obtain ⟨aa, ab, hd⟩ := bind_some hd
 refine k_cut (fun a w => ∃ ac : List Int, ∃ ad : List Int, ∃ ae : Int, (ac, ad, ae) = aa ∧ ∃ (af : GH) (ag : Value) (ah : Itm) (ai : Value) (aj : Itm), GLe G af ∧ Fr a 67 [(1, v1), (6, ag), (7, ai), (8, (.int .u32 ae))] ∧ Mem W af w (ah :: aj :: H) ∧ Ow (RI .u32) 76 af ah ag ac ∧ Ow (RI .u32) 76 af aj ai ad) ?_ ?_
 ·refine k_draw 9 Follows (by kernel_rfl) m ?_
  refine q_mv 1 9 rfl (by kernel_rfl) f rfl rfl rfl fun a f => q_mv 3 9 rfl (by kernel_rfl) f rfl rfl rfl fun a f => q_len (i := 4) 9 Tryz.underlying73 h0 rfl (by kernel_rfl) rfl f rfl rfl rfl fun a f => q_mv 6 9 rfl (by kernel_rfl) f rfl rfl rfl fun a f => q_two (i := 0) (j := 5) (l1 := #[true, true, false, true, true, false, true, false, false, false, false]) (l2 := #[false, true, false, true, true, true, true, false, false, false, false]) rfl rfl (by kernel_rfl) rfl rfl ?_ ?_
  ·intro ak w al m am am
   have h0 := rd1 al h0
   have h1 := rd1 al h1
   refine l_slit (R := (RI .u32)) (xs := ([] : List Int)) (RI.one _) m T73 f rfl rfl rfl (by decide) (All2.nil _) fun an ao w a m ap f => l_nil ?_
   refine am ak [an] _ _ (GLe.refl _) m ?_
   refine q_two (i := 2) (j := 5) (l1 := #[true, true, true, true, true, false, true, false, false, false, false]) (l2 := #[true, true, false, true, true, true, true, false, false, false, false]) rfl rfl (by kernel_rfl) rfl rfl ?_ ?_
   ·intro aq w ar m au au
    have h0 := rd1 ar h0
    have h1 := rd1 ar h1
    have ap := od1 ar ap
    obtain ⟨av, aw, ab⟩ := bind_some ab
    refine l_append (RI.one _) 0 m ap rfl T73 rfl (by decide) f rfl rfl rfl (h0.src m) aw fun ax ay w a m az f => l_nil ?_
    refine au aq [ax] _ _ (GLe.refl _) m ?_
    obtain ⟨aA, aB, ab⟩ := bind_some ab
    refine q_call (i := 7) 9 rfl (by kernel_rfl) rfl f rfl rfl rfl Tryz.call53 (fun _ _ w aC m => Wk.impl_nets_all m (rd1 aC h0) aB) fun a f => q_p 8 9 rfl (by kernel_rfl) f rfl rfl rfl (fun _ => r_assign (f.eval rfl)) fun a f => q_one (i := 5) rfl (by kernel_rfl) rfl fun aD w aE m aF aF => ?_
    have h0 := rd1 aE h0
    have h1 := rd1 aE h1
    have az := od1 aE az
    obtain ⟨aG, aH, ab⟩ := bind_some ab
    refine l_make (R := (RI .u32)) m T73 rfl (by decide) rfl f rfl rfl rfl aH fun aI aJ w a m aK f => l_nil ?_
    refine aF aD [aI, ax] _ _ (GLe.refl _) m ?_
    refine q_end fun aL w aM m => ?_
    have h0 := rd1 aM h0
    have h1 := rd1 aM h1
    have aK := od1 aM aK
    have az := od1 aM az
    refine l_as f rfl rfl fun a f => l_as f rfl rfl fun a f => l_nil ?_
    have m := m.front 1 rfl
    obtain rfl := sj ab
    exact ⟨_, _, _, rfl, _, ay, ax, aJ, aI, (GLe.trans al (GLe.trans ar (GLe.trans aE aM))), f.weak ⟨rfl, rfl, rfl, rfl, trivial⟩, m, az, aK⟩
   ·intro aD w aE m aF aF
    obtain ⟨av, aw, ab⟩ := bind_some ab
    obtain ⟨aA, aB, ab⟩ := bind_some ab
    obtain ⟨aG, aH, ab⟩ := bind_some ab
    have h0 := rd1 aE h0
    have h1 := rd1 aE h1
    have ap := od1 aE ap
    refine l_make (R := (RI .u32)) m T73 rfl (by decide) rfl f rfl rfl rfl aH fun aI aJ w a m aK f => l_nil ?_
    refine aF aD [aI, an] _ _ (GLe.refl _) m ?_
    refine q_one (i := 2) rfl (by kernel_rfl) rfl fun aq w ar m au au => ?_
    have h0 := rd1 ar h0
    have h1 := rd1 ar h1
    have aK := od1 ar aK
    have ap := od1 ar ap
    refine l_append (RI.one _) 1 m ap rfl T73 rfl (by decide) f rfl rfl rfl (h0.src m) aw fun ax ay w a m az f => l_nil ?_
    refine au aq [aI, ax] _ _ (GLe.refl _) m ?_
    refine q_call (i := 7) 9 rfl (by kernel_rfl) rfl f rfl rfl rfl Tryz.call53 (fun _ _ w aC m => Wk.impl_nets_all m (rd1 aC h0) aB) fun a f => q_p 8 9 rfl (by kernel_rfl) f rfl rfl rfl (fun _ => r_assign (f.eval rfl)) fun a f => q_end fun aL w aM m => ?_
    have h0 := rd1 aM h0
    have h1 := rd1 aM h1
    have aK := od1 aM aK
    have az := od1 aM az
    refine l_as f rfl rfl fun a f => l_as f rfl rfl fun a f => l_nil ?_
    have m := m.front 1 rfl
    obtain rfl := sj ab
    exact ⟨_, _, _, rfl, _, ay, ax, aJ, aI, (GLe.trans al (GLe.trans aE (GLe.trans ar aM))), f.weak ⟨rfl, rfl, rfl, rfl, trivial⟩, m, az, aK⟩
  ·intro aD w aE m aF aF
   obtain ⟨av, aw, ab⟩ := bind_some ab
   obtain ⟨aA, aB, ab⟩ := bind_some ab
   obtain ⟨aG, aH, ab⟩ := bind_some ab
   have h0 := rd1 aE h0
   have h1 := rd1 aE h1
   refine l_make (R := (RI .u32)) m T73 rfl (by decide) rfl f rfl rfl rfl aH fun aI aJ w a m aK f => l_nil ?_
   refine aF aD [aI] _ _ (GLe.refl _) m ?_
   refine q_one (i := 0) rfl (by kernel_rfl) rfl fun ak w al m am am => ?_
   have h0 := rd1 al h0
   have h1 := rd1 al h1
   have aK := od1 al aK
   refine l_slit (R := (RI .u32)) (xs := ([] : List Int)) (RI.one _) m T73 f rfl rfl rfl (by decide) (All2.nil _) fun an ao w a m ap f => l_nil ?_
   refine am ak [an, aI] _ _ (GLe.refl _) m ?_
   refine q_one (i := 2) rfl (by kernel_rfl) rfl fun aq w ar m au au => ?_
   have h0 := rd1 ar h0
   have h1 := rd1 ar h1
   have ap := od1 ar ap
   have aK := od1 ar aK
   refine l_append (RI.one _) 0 m ap rfl T73 rfl (by decide) f rfl rfl rfl (h0.src m) aw fun ax ay w a m az f => l_nil ?_
   refine au aq [ax, aI] _ _ (GLe.refl _) m ?_
   refine q_call (i := 7) 9 rfl (by kernel_rfl) rfl f rfl rfl rfl Tryz.call53 (fun _ _ w aC m => Wk.impl_nets_all m (rd1 aC h0) aB) fun a f => q_p 8 9 rfl (by kernel_rfl) f rfl rfl rfl (fun _ => r_assign (f.eval rfl)) fun a f => q_end fun aL w aM m => ?_
   have h0 := rd1 aM h0
   have h1 := rd1 aM h1
   have az := od1 aM az
   have aK := od1 aM aK
   refine l_as f rfl rfl fun a f => l_as f rfl rfl fun a f => l_nil ?_
   obtain rfl := sj ab
   exact ⟨_, _, _, rfl, _, ay, ax, aJ, aI, (GLe.trans aE (GLe.trans al (GLe.trans ar aM))), f.weak ⟨rfl, rfl, rfl, rfl, trivial⟩, m, az, aK⟩
 ·rintro a w ⟨ac, ad, ae, rfl, af, ag, ah, ai, aj, aN, f, m, aO, aP⟩
  have h1 := rd1 aN h1
  refine k_seq (k_seq (k_region ?_))
  refine l_mv f rfl rfl fun a f => l_len Tryz.underlying94 f rfl rfl h1 fun a f => l_mv f rfl rfl fun a f => l_nil ?_
  obtain ⟨aQ, aR, hd⟩ := bind_some hd
  refine k_cut (fun a w => ∃ aS : List Int, ∃ aT : List Int, (aS, aT) = aQ ∧ ∃ (aU : GH) (aV : Itm) (aW : Itm), GLe af aU ∧ Fr a 67 [(6, ag), (7, ai)] ∧ Mem W aU w (aV :: aW :: H) ∧ Ow (RI .u32) 76 aU aV ag aS ∧ Ow (RI .u32) 76 aU aW ai aT) ?_ ?_
  ·refine k_block ?_
   refine k_loop (fun aX a w => ∃ aY : List Int, ∃ aZ : List Int, ∃ a0 : Int, ∃ a1 : Int, (aY, aZ, a0, a1) = aX ∧ ∃ (a2 : GH) (a3 : Itm) (a4 : Itm), GLe af a2 ∧ Fr a 67 [(6, ag), (7, ai), (8, (.int .u32 a0)), (21, v1), (22, (.int .i64 (x1.length : Int))), (23, (.int .i64 a1))] ∧ Mem W a2 w (a3 :: a4 :: H) ∧ Ow (RI .u32) 76 a2 a3 ag aY ∧ Ow (RI .u32) 76 a2 a4 ai aZ) aR ⟨_, _, _, _, rfl, _, ah, aj, (GLe.refl _), f.weak ⟨rfl, rfl, rfl, rfl, rfl, rfl, trivial⟩, m, aO, aP⟩ ?_
   clear aR f m
   rintro aX a5 a6 a7 a w ⟨aY, aZ, a0, a1, rfl, a2, a3, a4, a8, f, m, a9, ba⟩
   have h1 := rd1 a8 h1
   refine k_seq (k_region ?_)
   refine l_in f rfl rfl rfl b_lss fun a f => l_nil (k_seq ?_)
   rcases cond_some a6 with ⟨bb, a6⟩ | ⟨bb, a6⟩
   ·refine k_true f rfl bb ?_
    refine k_skip ?_
    refine k_seq (k_block (k_seq (k_region ?_)))
    obtain ⟨bc, bd, a6⟩ := bind_some a6
    refine l_at T94 f rfl rfl rfl h1 bd fun be bf a bg bh f => ?_
    subst bh
    refine l_loadAt m Pl3 f rfl rfl bg fun a f => l_as f rfl rfl fun a f => l_nil (k_seq (k_region ?_))
    refine l_mv f rfl rfl fun a f => l_mv f rfl rfl fun a f => ?_
    obtain ⟨bi, bj, a6⟩ := bind_some a6
    refine l_res f rfl rfl Tryz.call100 (Wk.impl_one m  bj) fun bk bl bm w bn m bo a f => ?_
    obtain ⟨rfl, rfl⟩ := bo
    have h1 := rd1 bn h1
    have a9 := od1 bn a9
    have ba := od1 bn ba
    refine l_in f rfl rfl rfl b_andNot fun a f => l_as f rfl rfl fun a f => l_nil (k_seq (k_region ?_))
    refine l_mv f rfl rfl fun a f => l_mv f rfl rfl fun a f => l_mv f rfl rfl fun a f => l_mv f rfl rfl fun a f => ?_
    obtain ⟨bp, bq, a6⟩ := bind_some a6
    refine l_own_at 0 m a9 rfl T73 f rfl rfl rfl bq fun br a bs f => l_own_load 0 m a9 rfl Pl76 f rfl rfl bs bq fun bt a bu f => ?_
    subst bu
    refine l_mv f rfl rfl fun a f => l_in f rfl rfl rfl b_and fun a f => ?_
    obtain ⟨bv, bw, a6⟩ := bind_some a6
    refine l_own_at 1 m ba rfl T73 f rfl rfl rfl bw fun bx a bz f => l_own_store 1 m ba rfl Tryz.sizeOf76 f rfl rfl bz bw rfl rfl rfl fun bA w m bB => l_nil (k_seq (k_region ?_))
    refine l_mv f rfl rfl fun a f => l_mv f rfl rfl fun a f => ?_
    obtain ⟨bC, bD, a6⟩ := bind_some a6
    refine l_own_at 1 m bB rfl T73 f rfl rfl rfl bD fun bE a bF f => l_own_load 1 m bB rfl Pl76 f rfl rfl bF bD fun bG a bH f => ?_
    subst bH
    obtain ⟨bI, bJ, a6⟩ := bind_some a6
    refine l_res f rfl rfl Tryz.call103 (Wk.impl_vset_list hW m  bJ) fun bK bL bM w bN m bO a f => ?_
    obtain ⟨bP, bQ, rfl, rfl, bR⟩ := bO
    have h1 := rd1 bN h1
    have a9 := od1 bN a9
    have bB := od1 bN bB
    refine l_own_len 0 m bR rfl Tryz.underlying94 f rfl rfl fun a f => l_mv f rfl rfl fun a f => l_nil ?_
    obtain ⟨bS, bT, a6⟩ := bind_some a6
    refine k_cut (fun a w => ∃ bU : List Int, bU = bS ∧ ∃ (bV : GH) (bW : Itm), GLe bL bV ∧ Fr a 67 [(6, ag), (7, ai), (8, (.int .u32 (iandNot .u32 a0 bi))), (21, v1), (22, (.int .i64 (x1.length : Int))), (23, (.int .i64 a1))] ∧ Mem W bV w (bW :: bA :: H) ∧ Ow (RI .u32) 76 bV bW ag bU) ?_ ?_
    ·refine k_block ?_
     have m := m.front 2 rfl
     have m := m.front 2 rfl
     refine k_loop (fun bX a w => ∃ bY : List Int, ∃ bZ : Int, (bY, bZ) = bX ∧ ∃ (b0 : GH) (b1 : Itm), GLe bL b0 ∧ Fr a 67 [(6, ag), (7, ai), (8, (.int .u32 (iandNot .u32 a0 bi))), (10, (.int .i64 bc)), (21, v1), (22, (.int .i64 (x1.length : Int))), (23, (.int .i64 a1)), (44, bP), (45, (.int .i64 (bI.length : Int))), (46, (.int .i64 bZ))] ∧ Mem W b0 w (b1 :: bA :: bQ :: H) ∧ Ow (RI .u32) 76 b0 b1 ag bY) bT ⟨_, _, rfl, _, a3, (GLe.refl _), f.weak ⟨rfl, rfl, rfl, rfl, rfl, rfl, rfl, rfl, rfl, rfl, trivial⟩, m, a9⟩ ?_
     clear bT f m
     rintro bX b2 b3 b4 a w ⟨bY, bZ, rfl, b0, b1, b5, f, m, b6⟩
     have h1 := rd1 b5 h1
     have bB := od1 b5 bB
     have bR := od1 b5 bR
     refine k_seq (k_region ?_)
     refine l_in f rfl rfl rfl b_lss fun a f => l_nil (k_seq ?_)
     rcases cond_some b3 with ⟨b7, b3⟩ | ⟨b7, b3⟩
     ·refine k_true f rfl b7 ?_
      refine k_skip ?_
      refine k_seq (k_block (k_seq (k_region ?_)))
      obtain ⟨b8, b9, b3⟩ := bind_some b3
      refine l_own_at 2 m bR rfl T94 f rfl rfl rfl b9 fun ca a cb f => l_own_load 2 m bR rfl Pl3 f rfl rfl cb b9 fun cc a cd f => ?_
      subst cd
      refine l_as f rfl rfl fun a f => l_nil ?_
      refine k_draw 13 Follows (by kernel_rfl) m ?_
      refine q_mv 0 13 rfl (by kernel_rfl) f rfl rfl rfl fun a f => q_mv 1 13 rfl (by kernel_rfl) f rfl rfl rfl fun a f => ?_
      obtain ⟨ce, cf, b3⟩ := bind_some b3
      refine q_own_at (i := 2) 13 0 m b6 rfl T73 cf rfl (by kernel_rfl) rfl f rfl rfl rfl rfl fun cg a ch f => q_own_load (i := 3) 13 0 b6 rfl Pl76 ch cf rfl (by kernel_rfl) rfl f rfl rfl rfl fun ci a cj f => ?_
      subst cj
      refine q_mv 4 13 rfl (by kernel_rfl) f rfl rfl rfl fun a f => q_mv 5 13 rfl (by kernel_rfl) f rfl rfl rfl fun a f => ?_
      obtain ⟨ck, cl, b3⟩ := bind_some b3
      refine q_own_at (i := 6) 13 1 m bB rfl T73 cl rfl (by kernel_rfl) rfl f rfl rfl rfl rfl fun cm a cn f => q_own_load (i := 7) 13 1 bB rfl Pl76 cn cl rfl (by kernel_rfl) rfl f rfl rfl rfl fun co a cp f => ?_
      subst cp
      refine q_mv 8 13 rfl (by kernel_rfl) f rfl rfl rfl fun a f => ?_
      obtain ⟨cq, cr, b3⟩ := bind_some b3
      refine q_call (i := 9) 13 rfl (by kernel_rfl) rfl f rfl rfl rfl Tryz.call100 (fun _ _ w cs m => Wk.impl_one m  cr) fun a f => q_p 10 13 rfl (by kernel_rfl) f rfl rfl rfl (fun _ => r_int (f.eval rfl) (f.eval rfl) b_andNot) fun a f => q_p 11 13 rfl (by kernel_rfl) f rfl rfl rfl (fun _ => r_int (f.eval rfl) (f.eval rfl) b_or) fun a f => ?_
      obtain ⟨ct, cu, b3⟩ := bind_some b3
      refine q_own_at (i := 12) 13 0 m b6 rfl T73 cu rfl (by kernel_rfl) rfl f rfl rfl rfl rfl fun cv a cw f => q_end fun cx w cy m => ?_
      have h1 := rd1 cy h1
      have b6 := od1 cy b6
      have bB := od1 cy bB
      have bR := od1 cy bR
      refine l_own_store 0 m b6 rfl Tryz.sizeOf76 f rfl rfl cw cu rfl rfl rfl fun cz w m cA => l_nil (k_region ?_)
      refine l_in f rfl rfl rfl b_add fun a f => l_mv f rfl rfl fun a f => l_nil ?_
      obtain rfl := sj b3
      exact ⟨_, rfl, _, _, rfl, _, cz, (GLe.trans b5 cy), f.weak ⟨rfl, rfl, rfl, rfl, rfl, rfl, rfl, rfl, rfl, rfl, trivial⟩, m, cA⟩
     ·refine k_false f rfl b7 ?_
      refine k_exit rfl ?_
      have m := m.eraseAt 2
      obtain rfl := sj b3
      obtain rfl := b4 _ rfl
      exact ⟨_, rfl, _, b1, b5, f.weak ⟨rfl, rfl, rfl, rfl, rfl, rfl, trivial⟩, m, b6⟩
    ·rintro a w ⟨bU, rfl, bV, bW, cB, f, m, cC⟩
     have h1 := rd1 cB h1
     have bB := od1 cB bB
     refine k_region ?_
     refine l_in f rfl rfl rfl b_add fun a f => l_mv f rfl rfl fun a f => l_nil ?_
     obtain rfl := sj a6
     exact ⟨_, rfl, _, _, _, _, rfl, _, bW, bA, (GLe.trans a8 (GLe.trans bn (GLe.trans bN cB))), f.weak ⟨rfl, rfl, rfl, rfl, rfl, rfl, trivial⟩, m, cC, bB⟩
   ·refine k_false f rfl bb ?_
    refine k_exit rfl ?_
    obtain rfl := sj a6
    obtain rfl := a7 _ rfl
    exact ⟨_, _, rfl, _, a3, a4, a8, f.weak ⟨rfl, rfl, trivial⟩, m, a9, ba⟩
  ·rintro a w ⟨aS, aT, rfl, aU, aV, aW, cD, f, m, cE, cF⟩
   refine k_seq (k_region ?_)
   refine l_mv f rfl rfl fun a f => l_mv f rfl rfl fun a f => l_as f rfl rfl fun a f => l_as f rfl rfl fun a f => l_nil ?_
   refine k_ret ?_
   obtain rfl := sj hd
   exact ⟨[ag, ai], ⟨f.get _ _ rfl, f.get _ _ rfl, trivial⟩, f.defers, _, [aV, aW], (GLe.trans aN cD), m, _, _, _, _, rfl, rfl, cE, cF⟩

theorem Wk.impl_wide {W w : World} {G : GH} {H : List Itm} {v0 : Value} {x0 : (List Int)} (m : Mem W G w (H)) (h0 : RSl (RI .i64) G v0 x0) {y : ((List Int))} (hd : D.impl_wide x0 = some y) :
  Calls Tryz.prog 107 #[v0] w (Res W G H (fun G' Ho v => ∃ r0 : Value, ∃ i0 : Itm, Ho = [i0] ∧ r0 = v ∧ Ow (RI .i64) 2 G' i0 r0 y)) := by
 refine calls_b (args := [v0]) (N := 21) [.tmp 2] Tryz.func107 rfl rfl (Nat.le_of_ble_eq_true rfl) rfl fun a f => ?_
 unfold D.impl_wide at hd
 refine k_seq (k_region ?_)
 refine l_as f rfl rfl fun a f => l_nil (k_seq (k_region ?_))
 refine l_mv f rfl rfl fun a f => l_len Tryz.underlying94 f rfl rfl h0 fun a f => ?_
 obtain ⟨aa, ab, hd⟩ := bind_some hd
 refine l_make (R := (RI .i64)) m T42 rfl (by decide) rfl f rfl rfl rfl ab fun ac ad w a m ae f => l_as f rfl rfl fun a f => l_nil (k_seq (k_seq (k_region ?_)))
 refine l_mv f rfl rfl fun a f => l_len Tryz.underlying94 f rfl rfl h0 fun a f => l_mv f rfl rfl fun a f => l_nil ?_
 obtain ⟨af, ag, hd⟩ := bind_some hd
 refine k_cut (fun a w => ∃ ah : List Int, ah = af ∧ ∃ (ai : GH) (aj : Value) (ak : Itm), GLe G ai ∧ Fr a 21 [(3, aj)] ∧ Mem W ai w (ak :: H) ∧ Ow (RI .i64) 2 ai ak aj ah) ?_ ?_
 ·refine k_block ?_
  refine k_loop (fun al a w => ∃ am : List Int, ∃ an : Int, (am, an) = al ∧ ∃ (ao : GH) (ap : Value) (aq : Itm), GLe G ao ∧ Fr a 21 [(3, ap), (9, v0), (10, (.int .i64 (x0.length : Int))), (11, (.int .i64 an))] ∧ Mem W ao w (aq :: H) ∧ Ow (RI .i64) 2 ao aq ap am) ag ⟨_, _, rfl, _, ad, ac, (GLe.refl _), f.weak ⟨rfl, rfl, rfl, rfl, trivial⟩, m, ae⟩ ?_
  clear ag f m
  rintro al ar au av a w ⟨am, an, rfl, ao, ap, aq, aw, f, m, ax⟩
  have h0 := rd1 aw h0
  refine k_seq (k_region ?_)
  refine l_in f rfl rfl rfl b_lss fun a f => l_nil (k_seq ?_)
  rcases cond_some au with ⟨ay, au⟩ | ⟨ay, au⟩
  ·refine k_true f rfl ay ?_
   refine k_skip ?_
   refine k_seq (k_block (k_seq (k_region ?_)))
   obtain ⟨az, aA, au⟩ := bind_some au
   refine l_at T94 f rfl rfl rfl h0 aA fun aB aC a aD aE f => ?_
   subst aE
   refine l_loadAt m Pl3 f rfl rfl aD fun a f => l_as f rfl rfl fun a f => l_nil (k_region ?_)
   refine l_mv f rfl rfl fun a f => l_mv f rfl rfl fun a f => l_slit (R := (RI .i64)) (xs := ([az] : List Int)) (RI.one _) m T42 f rfl rfl rfl (by decide) (All2.cons rfl (All2.nil _)) fun aF aG w a m aH f => ?_
   obtain ⟨aI, aJ, au⟩ := bind_some au
   refine l_append (RI.one _) 1 m ax rfl T42 rfl (by decide) f rfl rfl rfl (Ow.src (j := 0) aH m rfl) aJ fun aK aL w a m aM f => l_as f rfl rfl fun a f => l_nil (k_region ?_)
   refine l_in f rfl rfl rfl b_add fun a f => l_mv f rfl rfl fun a f => l_nil ?_
   have m := m.front 1 rfl
   have m := m.eraseAt 1
   obtain rfl := sj au
   exact ⟨_, rfl, _, _, rfl, _, aL, aK, aw, f.weak ⟨rfl, rfl, rfl, rfl, trivial⟩, m, aM⟩
  ·refine k_false f rfl ay ?_
   refine k_exit rfl ?_
   obtain rfl := sj au
   obtain rfl := av _ rfl
   exact ⟨_, rfl, _, ap, aq, aw, f.weak ⟨rfl, trivial⟩, m, ax⟩
 ·rintro a w ⟨ah, rfl, ai, aj, ak, aN, f, m, aO⟩
  refine k_seq (k_region ?_)
  refine l_mv f rfl rfl fun a f => l_as f rfl rfl fun a f => l_nil ?_
  refine k_ret ?_
  obtain rfl := sj hd
  exact ⟨[aj], ⟨f.get _ _ rfl, trivial⟩, f.defers, _, [ak], aN, m, _, _, rfl, rfl, aO⟩

theorem Wk.impl_vset_numbers {W w : World} {G : GH} {H : List Itm} {x0 : Int} (hW : TabW W) (m : Mem W G w (H))  {y : ((List Int))} (hd : D.impl_vset_numbers x0 = some y) :
  Calls Tryz.prog 124 #[(.int .u32 x0)] w (Res W G H (fun G' Ho v => ∃ r0 : Value, ∃ i0 : Itm, Ho = [i0] ∧ r0 = v ∧ Ow (RI .i64) 2 G' i0 r0 y)) := by
 refine calls_b (args := [(.int .u32 x0)]) (N := 6) [.tmp 2] Tryz.func124 rfl rfl (Nat.le_of_ble_eq_true rfl) rfl fun a f => ?_
 unfold D.impl_vset_numbers at hd
 refine k_seq (k_region ?_)
 refine l_as f rfl rfl fun a f => l_nil (k_seq (k_region ?_))
 refine l_mv f rfl rfl fun a f => ?_
 obtain ⟨aa, ab, hd⟩ := bind_some hd
 refine l_res f rfl rfl Tryz.call103 (Wk.impl_vset_list hW m  ab) fun ac ad ae w af m ag a f => ?_
 obtain ⟨ah, ai, rfl, rfl, aj⟩ := ag
 obtain ⟨ak, al, hd⟩ := bind_some hd
 refine l_res f rfl rfl Tryz.call107 (Ow.lendCall (RI.mono _) 0 aj m rfl (fun am an m ao => Wk.impl_wide m ao al) (fun _ G' _ _ ⟨a0, a1, e1, e2, o0⟩ => ⟨a0, a1, e1, e2, Ow.free (RI.free _) G' o0⟩)) fun ap aq ar w au m av a f => ?_
 obtain ⟨aw, ax, rfl, rfl, ay⟩ := av
 have aj := od1 au aj
 refine l_as f rfl rfl fun a f => l_nil ?_
 refine k_ret ?_
 have m := m.eraseAt 1
 obtain rfl := sj hd
 exact ⟨[aw], ⟨f.get _ _ rfl, trivial⟩, f.defers, _, [ax], (GLe.trans af au), m, _, _, rfl, rfl, ay⟩

theorem Wk.impl_sortedLink {W w : World} {G : GH} {H : List Itm} {x0 : Int} {x1 : Int} (m : Mem W G w (H))  {y : ((List Int))} (hd : D.impl_sortedLink x0 x1 = some y) :
  Calls Tryz.prog 56 #[(.int .i64 x0), (.int .i64 x1)] w (Res W G H (fun G' Ho v => ∃ r0 : Value, ∃ i0 : Itm, Ho = [i0] ∧ r0 = v ∧ Ow (RI .i64) 2 G' i0 r0 y)) := by
 refine calls_b (args := [(.int .i64 x0), (.int .i64 x1)]) (N := 12) [.tmp 4] Tryz.func56 rfl rfl (Nat.le_of_ble_eq_true rfl) rfl fun a f => ?_
 unfold D.impl_sortedLink at hd
 refine k_seq (k_region ?_)
 refine l_as f rfl rfl fun a f => l_nil (k_seq (k_region ?_))
 refine l_mv f rfl rfl fun a f => l_mv f rfl rfl fun a f => l_op f rfl rfl rfl (r_min2 (f.eval rfl) (f.eval rfl)) fun a f => l_mv f rfl rfl fun a f => l_mv f rfl rfl fun a f => l_op f rfl rfl rfl (r_max2 (f.eval rfl) (f.eval rfl)) fun a f => l_slit (R := (RI .i64)) (xs := ([(if x1 < x0 then x1 else x0), (if x0 < x1 then x1 else x0)] : List Int)) (RI.one _) m T42 f rfl rfl rfl (by decide) (All2.cons rfl (All2.cons rfl (All2.nil _))) fun aa ab w a m ac f => l_as f rfl rfl fun a f => l_nil ?_
 refine k_ret ?_
 obtain rfl := sj hd
 exact ⟨[ab], ⟨f.get _ _ rfl, trivial⟩, f.defers, _, [aa], (GLe.refl _), m, _, _, rfl, rfl, ac⟩

theorem Wk.slices_insertionSortCmpFunc_int64__slices_Compare_int64_int64 {W w : World} {G : GH} {H : List Itm} {v0 : Value} {it0 : Itm} {x0 : (List (Value × List Int))} {x1 : Int} {x2 : Int} (m : Mem W G w (it0 :: H)) (o0 : Ow (RTg (RI .i64)) 42 G it0 v0 x0) {y : ((List (Value × List Int)))} (hd : D.slices_insertionSortCmpFunc_int64__slices_Compare_int64_int64 x0 x1 x2 = some y) :
  Calls Tryz.prog 154 #[v0, (.int .i64 x1), (.int .i64 x2), (.func (.func 58) #[] #[])] w (Res W G H (fun G' Ho _ => ∃ i0 : Itm, Ho = [i0] ∧ Ow (RTg (RI .i64)) 42 G' i0 v0 y)) := by
 refine calls_b (args := [v0, (.int .i64 x1), (.int .i64 x2), (.func (.func 58) #[] #[])]) (N := 53) [] Tryz.func154 rfl rfl (Nat.le_of_ble_eq_true rfl) rfl fun a f => ?_
 unfold D.slices_insertionSortCmpFunc_int64__slices_Compare_int64_int64 at hd
 refine k_seq (k_region ?_)
 refine l_mv f rfl rfl fun a f => l_in f rfl rfl rfl b_add fun a f => l_as f rfl rfl fun a f => l_nil ?_
 obtain ⟨aa, ab, hd⟩ := bind_some hd
 refine k_cut (fun a w => ∃ ac : List (Value × List Int), ac = aa ∧ ∃ (ad : GH) (ae : Itm), GLe G ad ∧ Fr a 53 [] ∧ Mem W ad w (ae :: H) ∧ Ow (RTg (RI .i64)) 42 ad ae v0 ac) ?_ ?_
 ·refine k_block ?_
  refine k_loop (fun af a w => ∃ ag : List (Value × List Int), ∃ ah : Int, (ag, ah) = af ∧ ∃ (ai : GH) (aj : Itm), GLe G ai ∧ Fr a 53 [(0, v0), (1, (.int .i64 x1)), (2, (.int .i64 x2)), (3, (.func (.func 58) #[] #[])), (8, (.int .i64 ah))] ∧ Mem W ai w (aj :: H) ∧ Ow (RTg (RI .i64)) 42 ai aj v0 ag) ab ⟨_, _, rfl, _, it0, (GLe.refl _), f.weak ⟨rfl, rfl, rfl, rfl, rfl, trivial⟩, m, o0⟩ ?_
  clear ab f m
  rintro af ak al am a w ⟨ag, ah, rfl, ai, aj, an, f, m, ao⟩
  refine k_seq (k_seq (k_region ?_))
  refine l_mv f rfl rfl fun a f => l_mv f rfl rfl fun a f => l_in f rfl rfl rfl b_lss fun a f => l_nil ?_
  rcases cond_some al with ⟨ap, al⟩ | ⟨ap, al⟩
  ·refine k_true f rfl ap ?_
   refine k_skip ?_
   refine k_seq (k_block (k_seq (k_region ?_)))
   refine l_mv f rfl rfl fun a f => l_as f rfl rfl fun a f => l_nil ?_
   obtain ⟨aq, ar, al⟩ := bind_some al
   refine k_cut (fun a w => ∃ au : List (Value × List Int), au = aq ∧ ∃ (av : GH) (aw : Itm), GLe ai av ∧ Fr a 53 [(0, v0), (1, (.int .i64 x1)), (2, (.int .i64 x2)), (3, (.func (.func 58) #[] #[])), (8, (.int .i64 ah))] ∧ Mem W av w (aw :: H) ∧ Ow (RTg (RI .i64)) 42 av aw v0 au) ?_ ?_
   ·refine k_block ?_
    refine k_loop (fun ax a w => ∃ ay : List (Value × List Int), ∃ az : Int, (ay, az) = ax ∧ ∃ (aA : GH) (aB : Itm), GLe ai aA ∧ Fr a 53 [(0, v0), (1, (.int .i64 x1)), (2, (.int .i64 x2)), (3, (.func (.func 58) #[] #[])), (8, (.int .i64 ah)), (9, (.int .i64 az))] ∧ Mem W aA w (aB :: H) ∧ Ow (RTg (RI .i64)) 42 aA aB v0 ay) ar ⟨_, _, rfl, _, aj, (GLe.refl _), f.weak ⟨rfl, rfl, rfl, rfl, rfl, rfl, trivial⟩, m, ao⟩ ?_
    clear ar f m
    rintro ax aC aD aE a w ⟨ay, az, rfl, aA, aB, aF, f, m, aG⟩
    refine k_seq (k_seq ?_)
    refine k_draw 17 Follows (by kernel_rfl) m ?_
    refine q_mv 0 17 rfl (by kernel_rfl) f rfl rfl rfl fun a f => q_mv 1 17 rfl (by kernel_rfl) f rfl rfl rfl fun a f => q_p 2 17 rfl (by kernel_rfl) f rfl rfl rfl (fun _ => r_int (f.eval rfl) (f.eval rfl) b_gtr) fun a f => q_mv 3 17 rfl (by kernel_rfl) f rfl rfl rfl fun a f => ?_
    obtain ⟨aH, aI, aD⟩ := bind_some aD
    refine q_cut (fuel' := 0) (listed' := #[true, true, true, true, true, true, true, true, true, true, true, true, true, true, true, true, true]) (fun a => Fr a 53 [(0, v0), (1, (.int .i64 x1)), (2, (.int .i64 x2)), (3, (.func (.func 58) #[] #[])), (8, (.int .i64 ah)), (9, (.int .i64 az)), (18, (.int .i64 az)), (19, (.int .i64 x1)), (20, (.bool (decide (x1 < az)))), (21, (.bool (decide (x1 < az)))), (34, (.bool aH))]) ?_ ?_
    ·intro a f
     refine q_end fun aJ w aK m => ?_
     have aG := Ow.mono (RTg.mono (RI.mono _)) aK aG
     refine l_nil ?_
     rcases cond_some aD with ⟨aL, aD⟩ | ⟨aL, aD⟩
     ·refine k_true f rfl aL ?_
      refine k_skip ?_
      refine k_seq (k_block ?_)
      refine k_draw0 Follows m ?_
      refine p_p 2 rfl (by kernel_rfl) f rfl rfl rfl (fun _ => r_move (f.eval rfl)) fun a f => p_p 3 rfl (by kernel_rfl) f rfl rfl rfl (fun _ => r_move (f.eval rfl)) fun a f => p_p 4 rfl (by kernel_rfl) f rfl rfl rfl (fun _ => r_int (f.eval rfl) (f.eval rfl) b_sub) fun a f => k_draw1 28015 12 (by kernel_rfl) rfl ?_
      refine q_mv 0 28015 rfl (by kernel_rfl) f rfl rfl rfl fun a f => q_mv 1 28015 rfl (by kernel_rfl) f rfl rfl rfl fun a f => q_mv 5 28015 rfl (by kernel_rfl) f rfl rfl rfl fun a f => q_mv 6 28015 rfl (by kernel_rfl) f rfl rfl rfl fun a f => q_p 7 28015 rfl (by kernel_rfl) f rfl rfl rfl (fun _ => r_int (f.eval rfl) (f.eval rfl) b_sub) fun a f => ?_
      obtain ⟨aM, aN, aD⟩ := bind_some aD
      refine q_own_at (i := 8) 28015 0 m aG rfl T22 aN rfl (by kernel_rfl) rfl f rfl rfl rfl rfl fun aO a aP f => q_own_load (i := 9) 28015 0 aG rfl Pl42 aP aN rfl (by kernel_rfl) rfl f rfl rfl rfl fun aQ a aR f => q_mv 10 28015 rfl (by kernel_rfl) f rfl rfl rfl fun a f => q_mv 11 28015 rfl (by kernel_rfl) f rfl rfl rfl fun a f => ?_
      obtain ⟨aS, aT, aD⟩ := bind_some aD
      refine q_own_at (i := 12) 28015 0 m aG rfl T22 aT rfl (by kernel_rfl) rfl f rfl rfl rfl rfl fun aU a aV f => q_own_load (i := 13) 28015 0 aG rfl Pl42 aV aT rfl (by kernel_rfl) rfl f rfl rfl rfl fun aW a aX f => ?_
      obtain ⟨aY, aZ, aD⟩ := bind_some aD
      refine q_own_at (i := 14) 28015 0 m aG rfl T22 aZ rfl (by kernel_rfl) rfl f rfl rfl rfl rfl fun a0 a a1 f => q_end fun a2 w a3 m => ?_
      have aR := (RTg.mono (RI.mono _)) _ _ _ _ a3 aR
      have aX := (RTg.mono (RI.mono _)) _ _ _ _ a3 aX
      have aG := Ow.mono (RTg.mono (RI.mono _)) a3 aG
      refine l_own_store 0 m aG rfl Tryz.sizeOf42 f rfl rfl a1 aZ aR.cells aR.one1 aR fun a4 w m a5 => ?_
      obtain ⟨a6, a7, aD⟩ := bind_some aD
      refine l_own_at 0 m a5 rfl T22 f rfl rfl rfl a7 fun a8 a a9 f => l_own_store 0 m a5 rfl Tryz.sizeOf42 f rfl rfl a9 a7 aX.cells aX.one1 aX fun ba w m bb => l_nil (k_region ?_)
      refine l_mv f rfl rfl fun a f => l_in f rfl rfl rfl b_sub fun a f => l_as f rfl rfl fun a f => l_nil ?_
      obtain rfl := sj aD
      exact ⟨_, rfl, _, _, rfl, _, ba, (GLe.trans aF (GLe.trans aK a3)), f.weak ⟨rfl, rfl, rfl, rfl, rfl, rfl, trivial⟩, m, bb⟩
     ·refine k_false f rfl aL ?_
      refine k_exit rfl ?_
      obtain rfl := sj aD
      obtain rfl := aE _ rfl
      exact ⟨_, rfl, _, aB, (GLe.trans aF aK), f.weak ⟨rfl, rfl, rfl, rfl, rfl, trivial⟩, m, aG⟩
    ·intro bc
     rcases cond_some aI with ⟨bd, aI⟩ | ⟨bd, aI⟩
     ·refine q_mv 4 17 rfl (by kernel_rfl) f (wanted_of f rfl rfl rfl bd) rfl rfl fun a f => ?_
      refine q_mv 5 17 rfl (by kernel_rfl) f (wanted_of f rfl rfl rfl bd) rfl rfl fun a f => q_mv 6 17 rfl (by kernel_rfl) f (wanted_of f rfl rfl rfl bd) rfl rfl fun a f => ?_
      obtain ⟨be, bf, aI⟩ := bind_some aI
      refine q_own_at (i := 7) 17 0 m aG rfl T22 bf rfl (by kernel_rfl) rfl f (wanted_of f rfl rfl rfl bd) rfl rfl rfl fun bg a bh f => q_own_load (i := 8) 17 0 aG rfl Pl42 bh bf rfl (by kernel_rfl) rfl f (wanted_of f rfl rfl rfl bd) rfl rfl fun bi a bj f => q_mv 9 17 rfl (by kernel_rfl) f (wanted_of f rfl rfl rfl bd) rfl rfl fun a f => q_mv 10 17 rfl (by kernel_rfl) f (wanted_of f rfl rfl rfl bd) rfl rfl fun a f => q_p 11 17 rfl (by kernel_rfl) f (wanted_of f rfl rfl rfl bd) rfl rfl (fun _ => r_int (f.eval rfl) (f.eval rfl) b_sub) fun a f => ?_
      obtain ⟨bk, bl, aI⟩ := bind_some aI
      refine q_own_at (i := 12) 17 0 m aG rfl T22 bl rfl (by kernel_rfl) rfl f (wanted_of f rfl rfl rfl bd) rfl rfl rfl fun bm a bn f => q_own_load (i := 13) 17 0 aG rfl Pl42 bn bl rfl (by kernel_rfl) rfl f (wanted_of f rfl rfl rfl bd) rfl rfl fun bo a bp f => ?_
      obtain ⟨bq, br, aI⟩ := bind_some aI
      refine q_callv (i := 14) 17 rfl (by kernel_rfl) rfl f (wanted_of f rfl rfl rfl bd) rfl rfl rfl Tryz.call58 (fun _ _ w bs m => Wk.slices_Compare_int64_int64 m (rd1 bs (bj.2)) (rd1 bs (bp.2)) br) fun a f => q_p 15 17 rfl (by kernel_rfl) f (wanted_of f rfl rfl rfl bd) rfl rfl (fun _ => r_int (f.eval rfl) (f.eval rfl) b_lss) fun a f => q_p 16 17 rfl (by kernel_rfl) f rfl rfl rfl (fun _ => r_pickT (f.eval rfl) bd (f.eval rfl)) fun a f => ?_
      obtain rfl := sj aI
      exact bc _ (f.weak ⟨rfl, rfl, rfl, rfl, rfl, rfl, rfl, rfl, rfl, rfl, rfl, trivial⟩)
     ·refine q_ng 4 17 rfl (by kernel_rfl) f rfl rfl bd rfl fun a f => ?_
      refine q_ng 5 17 rfl (by kernel_rfl) f rfl rfl bd rfl fun a f => q_ng 6 17 rfl (by kernel_rfl) f rfl rfl bd rfl fun a f => q_ng 7 17 rfl (by kernel_rfl) f rfl rfl bd rfl fun a f => q_ng 8 17 rfl (by kernel_rfl) f rfl rfl bd rfl fun a f => q_ng 9 17 rfl (by kernel_rfl) f rfl rfl bd rfl fun a f => q_ng 10 17 rfl (by kernel_rfl) f rfl rfl bd rfl fun a f => q_ng 11 17 rfl (by kernel_rfl) f rfl rfl bd rfl fun a f => q_ng 12 17 rfl (by kernel_rfl) f rfl rfl bd rfl fun a f => q_ng 13 17 rfl (by kernel_rfl) f rfl rfl bd rfl fun a f => q_ng 14 17 rfl (by kernel_rfl) f rfl rfl bd rfl fun a f => q_ng 15 17 rfl (by kernel_rfl) f rfl rfl bd rfl fun a f => q_p 16 17 rfl (by kernel_rfl) f rfl rfl rfl (fun _ => r_pickF (f.eval rfl) bd (f.eval rfl)) fun a f => ?_
      obtain rfl := sj aI
      exact bc _ (f.weak ⟨rfl, rfl, rfl, rfl, rfl, rfl, rfl, rfl, rfl, rfl, rfl, trivial⟩)
   ·rintro a w ⟨au, rfl, av, aw, bt, f, m, bu⟩
    refine k_region ?_
    refine l_mv f rfl rfl fun a f => l_in f rfl rfl rfl b_add fun a f => l_as f rfl rfl fun a f => l_nil ?_
    obtain rfl := sj al
    exact ⟨_, rfl, _, _, rfl, _, aw, (GLe.trans an bt), f.weak ⟨rfl, rfl, rfl, rfl, rfl, trivial⟩, m, bu⟩
  ·refine k_false f rfl ap ?_
   refine k_exit rfl ?_
   obtain rfl := sj al
   obtain rfl := am _ rfl
   exact ⟨_, rfl, _, aj, an, f.weak trivial, m, ao⟩
 ·rintro a w ⟨ac, rfl, ad, ae, bv, f, m, bw⟩
  obtain rfl := sj hd
  exact ⟨[], trivial, f.defers, _, [ae], bv, m, _, rfl, bw⟩

theorem Wk.slices_siftDownCmpFunc_int64__slices_Compare_int64_int64 {W w : World} {G : GH} {H : List Itm} {v0 : Value} {it0 : Itm} {x0 : (List (Value × List Int))} {x1 : Int} {x2 : Int} {x3 : Int} (m : Mem W G w (it0 :: H)) (o0 : Ow (RTg (RI .i64)) 42 G it0 v0 x0) {y : ((List (Value × List Int)))} (hd : D.slices_siftDownCmpFunc_int64__slices_Compare_int64_int64 x0 x1 x2 x3 = some y) :
  Calls Tryz.prog 189 #[v0, (.int .i64 x1), (.int .i64 x2), (.int .i64 x3), (.func (.func 58) #[] #[])] w (Res W G H (fun G' Ho _ => ∃ i0 : Itm, Ho = [i0] ∧ Ow (RTg (RI .i64)) 42 G' i0 v0 y)) := by
 refine calls_b (args := [v0, (.int .i64 x1), (.int .i64 x2), (.int .i64 x3), (.func (.func 58) #[] #[])]) (N := 82) [] Tryz.func189 rfl rfl (Nat.le_of_ble_eq_true rfl) rfl fun a f => ?_
 unfold D.slices_siftDownCmpFunc_int64__slices_Compare_int64_int64 at hd
 refine k_seq (k_region ?_)
 refine l_mv f rfl rfl fun a f => l_as f rfl rfl fun a f => l_nil ?_
 obtain ⟨aa, ab, hd⟩ := bind_some hd
 refine k_cut (fun a w => ∃ q_182' : (List (Value × List Int)), aa = .inl q_182' ∧ ∃ ac : List (Value × List Int), ac = q_182' ∧ ∃ (ad : GH) (ae : Itm), GLe G ad ∧ Fr a 82 [] ∧ Mem W ad w (ae :: H) ∧ Ow (RTg (RI .i64)) 42 ad ae v0 ac) ?_ ?_
 ·refine k_block ?_
  refine k_loop (fun af a w => ∃ ag : List (Value × List Int), ∃ ah : Int, (ag, ah) = af ∧ ∃ (ai : GH) (aj : Itm), GLe G ai ∧ Fr a 82 [(0, v0), (2, (.int .i64 x2)), (3, (.int .i64 x3)), (4, (.func (.func 58) #[] #[])), (10, (.int .i64 ah))] ∧ Mem W ai w (aj :: H) ∧ Ow (RTg (RI .i64)) 42 ai aj v0 ag) ab ⟨_, _, rfl, _, it0, (GLe.refl _), f.weak ⟨rfl, rfl, rfl, rfl, rfl, trivial⟩, m, o0⟩ ?_
  clear ab f m
  rintro af ak al am a w ⟨ag, ah, rfl, ai, aj, an, f, m, ao⟩
  refine k_block (k_seq (k_region ?_))
  refine l_mv f rfl rfl fun a f => l_in f rfl rfl rfl b_mul fun a f => l_in f rfl rfl rfl b_add fun a f => l_as f rfl rfl fun a f => l_nil (k_seq (k_seq (k_region ?_)))
  refine l_mv f rfl rfl fun a f => l_mv f rfl rfl fun a f => l_in f rfl rfl rfl b_geq fun a f => l_nil ?_
  rcases cond_some al with ⟨ap, al⟩ | ⟨ap, al⟩
  ·refine k_true f rfl ap ?_
   refine k_exit rfl ?_
   obtain rfl := sj al
   obtain rfl := am _ rfl
   exact ⟨_, rfl, _, rfl, _, aj, an, f.weak trivial, m, ao⟩
  ·refine k_false f rfl ap ?_
   refine k_skip ?_
   refine k_seq (k_seq ?_)
   refine k_draw 22 Follows (by kernel_rfl) m ?_
   refine q_mv 0 22 rfl (by kernel_rfl) f rfl rfl rfl fun a f => q_p 1 22 rfl (by kernel_rfl) f rfl rfl rfl (fun _ => r_int (f.eval rfl) (f.eval rfl) b_add) fun a f => q_mv 2 22 rfl (by kernel_rfl) f rfl rfl rfl fun a f => q_p 3 22 rfl (by kernel_rfl) f rfl rfl rfl (fun _ => r_int (f.eval rfl) (f.eval rfl) b_lss) fun a f => q_mv 4 22 rfl (by kernel_rfl) f rfl rfl rfl fun a f => ?_
   obtain ⟨aq, ar, al⟩ := bind_some al
   refine q_cut (fuel' := 0) (listed' := #[true, true, true, true, true, true, true, true, true, true, true, true, true, true, true, true, true, true, true, true, true, true]) (fun a => Fr a 82 [(0, v0), (2, (.int .i64 x2)), (3, (.int .i64 x3)), (4, (.func (.func 58) #[] #[])), (10, (.int .i64 ah)), (11, (.int .i64 (IntKind.i64.wrap ((IntKind.i64.wrap (2 * ah)) + 1)))), (18, (.bool (decide (x2 ≤ (IntKind.i64.wrap ((IntKind.i64.wrap (2 * ah)) + 1)))))), (19, (.int .i64 (IntKind.i64.wrap ((IntKind.i64.wrap (2 * ah)) + 1)))), (20, (.int .i64 (IntKind.i64.wrap ((IntKind.i64.wrap ((IntKind.i64.wrap (2 * ah)) + 1)) + 1)))), (21, (.int .i64 x2)), (22, (.bool (decide ((IntKind.i64.wrap ((IntKind.i64.wrap ((IntKind.i64.wrap (2 * ah)) + 1)) + 1)) < x2)))), (23, (.bool (decide ((IntKind.i64.wrap ((IntKind.i64.wrap ((IntKind.i64.wrap (2 * ah)) + 1)) + 1)) < x2)))), (40, (.bool aq))]) ?_ ?_
   ·intro a f
    refine q_end fun au w av m => ?_
    have ao := Ow.mono (RTg.mono (RI.mono _)) av ao
    refine l_nil ?_
    obtain ⟨aw, ax, al⟩ := bind_some al
    refine k_cut (fun a w => ∃ ay : Int, ay = aw ∧ ∃ (az : GH), GLe au az ∧ Fr a 82 [(0, v0), (2, (.int .i64 x2)), (3, (.int .i64 x3)), (4, (.func (.func 58) #[] #[])), (10, (.int .i64 ah)), (11, (.int .i64 ay))] ∧ Mem W az w (aj :: H)) ?_ ?_
    ·rcases cond_some ax with ⟨aA, ax⟩ | ⟨aA, ax⟩
     ·refine k_true f rfl aA ?_
      refine k_region ?_
      refine l_mv f rfl rfl fun a f => l_in f rfl rfl rfl b_add fun a f => l_as f rfl rfl fun a f => l_nil ?_
      obtain rfl := sj ax
      exact ⟨_, rfl, _, (GLe.refl _), f.weak ⟨rfl, rfl, rfl, rfl, rfl, rfl, trivial⟩, m⟩
     ·refine k_false f rfl aA ?_
      refine k_skip ?_
      obtain rfl := sj ax
      exact ⟨_, rfl, _, (GLe.refl _), f.weak ⟨rfl, rfl, rfl, rfl, rfl, rfl, trivial⟩, m⟩
    ·rintro a w ⟨ay, rfl, az, aB, f, m⟩
     have ao := Ow.mono (RTg.mono (RI.mono _)) aB ao
     refine k_seq (k_seq ?_)
     refine k_draw 16 Follows (by kernel_rfl) m ?_
     refine q_mv 0 16 rfl (by kernel_rfl) f rfl rfl rfl fun a f => q_mv 1 16 rfl (by kernel_rfl) f rfl rfl rfl fun a f => q_mv 2 16 rfl (by kernel_rfl) f rfl rfl rfl fun a f => q_mv 3 16 rfl (by kernel_rfl) f rfl rfl rfl fun a f => q_p 4 16 rfl (by kernel_rfl) f rfl rfl rfl (fun _ => r_int (f.eval rfl) (f.eval rfl) b_add) fun a f => ?_
     obtain ⟨aC, aD, al⟩ := bind_some al
     refine q_own_at (i := 5) 16 0 m ao rfl T22 aD rfl (by kernel_rfl) rfl f rfl rfl rfl rfl fun aE a aF f => q_own_load (i := 6) 16 0 ao rfl Pl42 aF aD rfl (by kernel_rfl) rfl f rfl rfl rfl fun aG a aH f => q_mv 7 16 rfl (by kernel_rfl) f rfl rfl rfl fun a f => q_mv 8 16 rfl (by kernel_rfl) f rfl rfl rfl fun a f => q_mv 9 16 rfl (by kernel_rfl) f rfl rfl rfl fun a f => q_p 10 16 rfl (by kernel_rfl) f rfl rfl rfl (fun _ => r_int (f.eval rfl) (f.eval rfl) b_add) fun a f => ?_
     obtain ⟨aI, aJ, al⟩ := bind_some al
     refine q_own_at (i := 11) 16 0 m ao rfl T22 aJ rfl (by kernel_rfl) rfl f rfl rfl rfl rfl fun aK a aL f => q_own_load (i := 12) 16 0 ao rfl Pl42 aL aJ rfl (by kernel_rfl) rfl f rfl rfl rfl fun aM a aN f => ?_
     obtain ⟨aO, aP, al⟩ := bind_some al
     refine q_callv (i := 13) 16 rfl (by kernel_rfl) rfl f rfl rfl rfl rfl Tryz.call58 (fun _ _ w aQ m => Wk.slices_Compare_int64_int64 m (rd1 aQ (aH.2)) (rd1 aQ (aN.2)) aP) fun a f => q_p 14 16 rfl (by kernel_rfl) f rfl rfl rfl (fun _ => r_int (f.eval rfl) (f.eval rfl) b_lss) fun a f => q_p 15 16 rfl (by kernel_rfl) f rfl rfl rfl (fun _ => r_not (f.eval rfl)) fun a f => q_end fun aR w aS m => ?_
     have aH := (RTg.mono (RI.mono _)) _ _ _ _ aS aH
     have aN := (RTg.mono (RI.mono _)) _ _ _ _ aS aN
     have ao := Ow.mono (RTg.mono (RI.mono _)) aS ao
     refine l_nil ?_
     rcases cond_some al with ⟨aT, al⟩ | ⟨aT, al⟩
     ·refine k_true f rfl aT ?_
      refine k_ret ?_
      obtain rfl := sj al
      obtain rfl := am _ rfl
      obtain rfl := sj hd
      exact ⟨[], trivial, f.defers, _, [aj], (GLe.trans an (GLe.trans av (GLe.trans aB aS))), m, _, rfl, ao⟩
     ·refine k_false f rfl aT ?_
      refine k_skip ?_
      refine k_seq ?_
      refine k_draw0 Follows m ?_
      refine p_p 4 rfl (by kernel_rfl) f rfl rfl rfl (fun _ => r_move (f.eval rfl)) fun a f => p_p 5 rfl (by kernel_rfl) f rfl rfl rfl (fun _ => r_move (f.eval rfl)) fun a f => p_p 6 rfl (by kernel_rfl) f rfl rfl rfl (fun _ => r_move (f.eval rfl)) fun a f => p_p 7 rfl (by kernel_rfl) f rfl rfl rfl (fun _ => r_int (f.eval rfl) (f.eval rfl) b_add) fun a f => k_draw1 240021 17 (by kernel_rfl) rfl ?_
      refine q_mv 0 240021 rfl (by kernel_rfl) f rfl rfl rfl fun a f => q_mv 1 240021 rfl (by kernel_rfl) f rfl rfl rfl fun a f => q_mv 2 240021 rfl (by kernel_rfl) f rfl rfl rfl fun a f => q_p 3 240021 rfl (by kernel_rfl) f rfl rfl rfl (fun _ => r_int (f.eval rfl) (f.eval rfl) b_add) fun a f => q_mv 8 240021 rfl (by kernel_rfl) f rfl rfl rfl fun a f => q_mv 9 240021 rfl (by kernel_rfl) f rfl rfl rfl fun a f => q_mv 10 240021 rfl (by kernel_rfl) f rfl rfl rfl fun a f => q_p 11 240021 rfl (by kernel_rfl) f rfl rfl rfl (fun _ => r_int (f.eval rfl) (f.eval rfl) b_add) fun a f => ?_
      obtain ⟨aU, aV, al⟩ := bind_some al
      refine q_own_at (i := 12) 240021 0 m ao rfl T22 aV rfl (by kernel_rfl) rfl f rfl rfl rfl rfl fun aW a aX f => q_own_load (i := 13) 240021 0 ao rfl Pl42 aX aV rfl (by kernel_rfl) rfl f rfl rfl rfl fun aY a aZ f => q_mv 14 240021 rfl (by kernel_rfl) f rfl rfl rfl fun a f => q_mv 15 240021 rfl (by kernel_rfl) f rfl rfl rfl fun a f => q_mv 16 240021 rfl (by kernel_rfl) f rfl rfl rfl fun a f => q_p 17 240021 rfl (by kernel_rfl) f rfl rfl rfl (fun _ => r_int (f.eval rfl) (f.eval rfl) b_add) fun a f => ?_
      obtain ⟨a0, a1, al⟩ := bind_some al
      refine q_own_at (i := 18) 240021 0 m ao rfl T22 a1 rfl (by kernel_rfl) rfl f rfl rfl rfl rfl fun a2 a a3 f => q_own_load (i := 19) 240021 0 ao rfl Pl42 a3 a1 rfl (by kernel_rfl) rfl f rfl rfl rfl fun a4 a a5 f => ?_
      obtain ⟨a6, a7, al⟩ := bind_some al
      refine q_own_at (i := 20) 240021 0 m ao rfl T22 a7 rfl (by kernel_rfl) rfl f rfl rfl rfl rfl fun a8 a a9 f => q_end fun ba w bb m => ?_
      have aZ := (RTg.mono (RI.mono _)) _ _ _ _ bb aZ
      have a5 := (RTg.mono (RI.mono _)) _ _ _ _ bb a5
      have ao := Ow.mono (RTg.mono (RI.mono _)) bb ao
      refine l_own_store 0 m ao rfl Tryz.sizeOf42 f rfl rfl a9 a7 aZ.cells aZ.one1 aZ fun bc w m bd => ?_
      obtain ⟨be, bf, al⟩ := bind_some al
      refine l_own_at 0 m bd rfl T22 f rfl rfl rfl bf fun bg a bh f => l_own_store 0 m bd rfl Tryz.sizeOf42 f rfl rfl bh bf a5.cells a5.one1 a5 fun bi w m bj => l_nil (k_region ?_)
      refine l_mv f rfl rfl fun a f => l_as f rfl rfl fun a f => l_nil ?_
      obtain rfl := sj al
      exact ⟨_, rfl, _, _, rfl, _, bi, (GLe.trans an (GLe.trans av (GLe.trans aB (GLe.trans aS bb)))), f.weak ⟨rfl, rfl, rfl, rfl, rfl, trivial⟩, m, bj⟩
   ·intro bk
    rcases cond_some ar with ⟨bl, ar⟩ | ⟨bl, ar⟩
    ·refine q_mv 5 22 rfl (by kernel_rfl) f (wanted_of f rfl rfl rfl bl) rfl rfl fun a f => ?_
     refine q_mv 6 22 rfl (by kernel_rfl) f (wanted_of f rfl rfl rfl bl) rfl rfl fun a f => q_mv 7 22 rfl (by kernel_rfl) f (wanted_of f rfl rfl rfl bl) rfl rfl fun a f => q_mv 8 22 rfl (by kernel_rfl) f (wanted_of f rfl rfl rfl bl) rfl rfl fun a f => q_p 9 22 rfl (by kernel_rfl) f (wanted_of f rfl rfl rfl bl) rfl rfl (fun _ => r_int (f.eval rfl) (f.eval rfl) b_add) fun a f => ?_
     obtain ⟨bm, bn, ar⟩ := bind_some ar
     refine q_own_at (i := 10) 22 0 m ao rfl T22 bn rfl (by kernel_rfl) rfl f (wanted_of f rfl rfl rfl bl) rfl rfl rfl fun bo a bp f => q_own_load (i := 11) 22 0 ao rfl Pl42 bp bn rfl (by kernel_rfl) rfl f (wanted_of f rfl rfl rfl bl) rfl rfl fun bq a br f => q_mv 12 22 rfl (by kernel_rfl) f (wanted_of f rfl rfl rfl bl) rfl rfl fun a f => q_mv 13 22 rfl (by kernel_rfl) f (wanted_of f rfl rfl rfl bl) rfl rfl fun a f => q_mv 14 22 rfl (by kernel_rfl) f (wanted_of f rfl rfl rfl bl) rfl rfl fun a f => q_p 15 22 rfl (by kernel_rfl) f (wanted_of f rfl rfl rfl bl) rfl rfl (fun _ => r_int (f.eval rfl) (f.eval rfl) b_add) fun a f => q_p 16 22 rfl (by kernel_rfl) f (wanted_of f rfl rfl rfl bl) rfl rfl (fun _ => r_int (f.eval rfl) (f.eval rfl) b_add) fun a f => ?_
     obtain ⟨bs, bt, ar⟩ := bind_some ar
     refine q_own_at (i := 17) 22 0 m ao rfl T22 bt rfl (by kernel_rfl) rfl f (wanted_of f rfl rfl rfl bl) rfl rfl rfl fun bu a bv f => q_own_load (i := 18) 22 0 ao rfl Pl42 bv bt rfl (by kernel_rfl) rfl f (wanted_of f rfl rfl rfl bl) rfl rfl fun bw a bx f => ?_
     obtain ⟨bz, bA, ar⟩ := bind_some ar
     refine q_callv (i := 19) 22 rfl (by kernel_rfl) rfl f (wanted_of f rfl rfl rfl bl) rfl rfl rfl Tryz.call58 (fun _ _ w bB m => Wk.slices_Compare_int64_int64 m (rd1 bB (br.2)) (rd1 bB (bx.2)) bA) fun a f => q_p 20 22 rfl (by kernel_rfl) f (wanted_of f rfl rfl rfl bl) rfl rfl (fun _ => r_int (f.eval rfl) (f.eval rfl) b_lss) fun a f => q_p 21 22 rfl (by kernel_rfl) f rfl rfl rfl (fun _ => r_pickT (f.eval rfl) bl (f.eval rfl)) fun a f => ?_
     obtain rfl := sj ar
     exact bk _ (f.weak ⟨rfl, rfl, rfl, rfl, rfl, rfl, rfl, rfl, rfl, rfl, rfl, rfl, rfl, trivial⟩)
    ·refine q_ng 5 22 rfl (by kernel_rfl) f rfl rfl bl rfl fun a f => ?_
     refine q_ng 6 22 rfl (by kernel_rfl) f rfl rfl bl rfl fun a f => q_ng 7 22 rfl (by kernel_rfl) f rfl rfl bl rfl fun a f => q_ng 8 22 rfl (by kernel_rfl) f rfl rfl bl rfl fun a f => q_ng 9 22 rfl (by kernel_rfl) f rfl rfl bl rfl fun a f => q_ng 10 22 rfl (by kernel_rfl) f rfl rfl bl rfl fun a f => q_ng 11 22 rfl (by kernel_rfl) f rfl rfl bl rfl fun a f => q_ng 12 22 rfl (by kernel_rfl) f rfl rfl bl rfl fun a f => q_ng 13 22 rfl (by kernel_rfl) f rfl rfl bl rfl fun a f => q_ng 14 22 rfl (by kernel_rfl) f rfl rfl bl rfl fun a f => q_ng 15 22 rfl (by kernel_rfl) f rfl rfl bl rfl fun a f => q_ng 16 22 rfl (by kernel_rfl) f rfl rfl bl rfl fun a f => q_ng 17 22 rfl (by kernel_rfl) f rfl rfl bl rfl fun a f => q_ng 18 22 rfl (by kernel_rfl) f rfl rfl bl rfl fun a f => q_ng 19 22 rfl (by kernel_rfl) f rfl rfl bl rfl fun a f => q_ng 20 22 rfl (by kernel_rfl) f rfl rfl bl rfl fun a f => ?_
     refine q_p 21 22 rfl (by kernel_rfl) f rfl rfl rfl (fun _ => r_pickF (f.eval rfl) bl (f.eval rfl)) fun a f => ?_
     obtain rfl := sj ar
     exact bk _ (f.weak ⟨rfl, rfl, rfl, rfl, rfl, rfl, rfl, rfl, rfl, rfl, rfl, rfl, rfl, trivial⟩)
 ·rintro a w ⟨_, rfl, ac, rfl, ad, ae, bC, f, m, bD⟩
  obtain rfl := sj hd
  exact ⟨[], trivial, f.defers, _, [ae], bC, m, _, rfl, bD⟩

theorem Wk.slices_heapSortCmpFunc_int64__slices_Compare_int64_int64 {W w : World} {G : GH} {H : List Itm} {v0 : Value} {it0 : Itm} {x0 : (List (Value × List Int))} {x1 : Int} {x2 : Int} (m : Mem W G w (it0 :: H)) (o0 : Ow (RTg (RI .i64)) 42 G it0 v0 x0) {y : ((List (Value × List Int)))} (hd : D.slices_heapSortCmpFunc_int64__slices_Compare_int64_int64 x0 x1 x2 = some y) :
  Calls Tryz.prog 155 #[v0, (.int .i64 x1), (.int .i64 x2), (.func (.func 58) #[] #[])] w (Res W G H (fun G' Ho _ => ∃ i0 : Itm, Ho = [i0] ∧ Ow (RTg (RI .i64)) 42 G' i0 v0 y)) := by
 refine calls_b (args := [v0, (.int .i64 x1), (.int .i64 x2), (.func (.func 58) #[] #[])]) (N := 60) [] Tryz.func155 rfl rfl (Nat.le_of_ble_eq_true rfl) rfl fun a f => ?_
 unfold D.slices_heapSortCmpFunc_int64__slices_Compare_int64_int64 at hd
 refine k_seq (k_region ?_)
 refine l_mv f rfl rfl fun a f => l_as f rfl rfl fun a f => l_nil (k_seq (k_region ?_))
 refine l_as f rfl rfl fun a f => l_nil (k_seq (k_region ?_))
 refine l_mv f rfl rfl fun a f => l_mv f rfl rfl fun a f => l_in f rfl rfl rfl b_sub fun a f => l_as f rfl rfl fun a f => l_nil (k_seq (k_seq (k_region ?_)))
 refine l_mv f rfl rfl fun a f => l_in f rfl rfl rfl b_sub fun a f => l_in f rfl rfl rfl (b_quo rfl) fun a f => l_as f rfl rfl fun a f => l_nil ?_
 obtain ⟨aa, ab, hd⟩ := bind_some hd
 refine k_cut (fun a w => ∃ ac : List (Value × List Int), ac = aa ∧ ∃ (ad : GH) (ae : Itm), GLe G ad ∧ Fr a 60 [(0, v0), (3, (.func (.func 58) #[] #[])), (8, (.int .i64 x1)), (9, (.int .i64 0)), (10, (.int .i64 (IntKind.i64.wrap (x2 - x1))))] ∧ Mem W ad w (ae :: H) ∧ Ow (RTg (RI .i64)) 42 ad ae v0 ac) ?_ ?_
 ·refine k_block ?_
  refine k_loop (fun af a w => ∃ ag : List (Value × List Int), ∃ ah : Int, (ag, ah) = af ∧ ∃ (ai : GH) (aj : Itm), GLe G ai ∧ Fr a 60 [(0, v0), (3, (.func (.func 58) #[] #[])), (8, (.int .i64 x1)), (9, (.int .i64 0)), (10, (.int .i64 (IntKind.i64.wrap (x2 - x1)))), (11, (.int .i64 ah))] ∧ Mem W ai w (aj :: H) ∧ Ow (RTg (RI .i64)) 42 ai aj v0 ag) ab ⟨_, _, rfl, _, it0, (GLe.refl _), f.weak ⟨rfl, rfl, rfl, rfl, rfl, rfl, trivial⟩, m, o0⟩ ?_
  clear ab f m
  rintro af ak al am a w ⟨ag, ah, rfl, ai, aj, an, f, m, ao⟩
  refine k_seq (k_seq (k_region ?_))
  refine l_mv f rfl rfl fun a f => l_in f rfl rfl rfl b_geq fun a f => l_nil ?_
  rcases cond_some al with ⟨ap, al⟩ | ⟨ap, al⟩
  ·refine k_true f rfl ap ?_
   refine k_skip ?_
   refine k_seq (k_block (k_region ?_))
   refine l_mv f rfl rfl fun a f => l_mv f rfl rfl fun a f => l_mv f rfl rfl fun a f => l_mv f rfl rfl fun a f => l_mv f rfl rfl fun a f => ?_
   obtain ⟨aq, ar, al⟩ := bind_some al
   refine l_res f rfl rfl Tryz.call189 (Wk.slices_siftDownCmpFunc_int64__slices_Compare_int64_int64 m ao ar) fun au av aw w ax m ay a f => ?_
   obtain ⟨az, rfl, aA⟩ := ay
   refine l_nil (k_region ?_)
   refine l_mv f rfl rfl fun a f => l_in f rfl rfl rfl b_sub fun a f => l_as f rfl rfl fun a f => l_nil ?_
   obtain rfl := sj al
   exact ⟨_, rfl, _, _, rfl, _, az, (GLe.trans an ax), f.weak ⟨rfl, rfl, rfl, rfl, rfl, rfl, trivial⟩, m, aA⟩
  ·refine k_false f rfl ap ?_
   refine k_exit rfl ?_
   obtain rfl := sj al
   obtain rfl := am _ rfl
   exact ⟨_, rfl, _, aj, an, f.weak ⟨rfl, rfl, rfl, rfl, rfl, trivial⟩, m, ao⟩
 ·rintro a w ⟨ac, rfl, ad, ae, aB, f, m, aC⟩
  refine k_seq (k_region ?_)
  refine l_mv f rfl rfl fun a f => l_in f rfl rfl rfl b_sub fun a f => l_as f rfl rfl fun a f => l_nil ?_
  obtain ⟨aD, aE, hd⟩ := bind_some hd
  refine k_cut (fun a w => ∃ aF : List (Value × List Int), aF = aD ∧ ∃ (aG : GH) (aH : Itm), GLe ad aG ∧ Fr a 60 [] ∧ Mem W aG w (aH :: H) ∧ Ow (RTg (RI .i64)) 42 aG aH v0 aF) ?_ ?_
  ·refine k_block ?_
   refine k_loop (fun aI a w => ∃ aJ : List (Value × List Int), ∃ aK : Int, (aJ, aK) = aI ∧ ∃ (aL : GH) (aM : Itm), GLe ad aL ∧ Fr a 60 [(0, v0), (3, (.func (.func 58) #[] #[])), (8, (.int .i64 x1)), (9, (.int .i64 0)), (12, (.int .i64 aK))] ∧ Mem W aL w (aM :: H) ∧ Ow (RTg (RI .i64)) 42 aL aM v0 aJ) aE ⟨_, _, rfl, _, ae, (GLe.refl _), f.weak ⟨rfl, rfl, rfl, rfl, rfl, trivial⟩, m, aC⟩ ?_
   clear aE f m
   rintro aI aN aO aP a w ⟨aJ, aK, rfl, aL, aM, aQ, f, m, aR⟩
   refine k_seq (k_seq (k_region ?_))
   refine l_mv f rfl rfl fun a f => l_in f rfl rfl rfl b_geq fun a f => l_nil ?_
   rcases cond_some aO with ⟨aS, aO⟩ | ⟨aS, aO⟩
   ·refine k_true f rfl aS ?_
    refine k_skip ?_
    refine k_seq (k_block (k_seq ?_))
    refine k_draw0 Follows m ?_
    refine p_p 2 rfl (by kernel_rfl) f rfl rfl rfl (fun _ => r_move (f.eval rfl)) fun a f => p_p 3 rfl (by kernel_rfl) f rfl rfl rfl (fun _ => r_move (f.eval rfl)) fun a f => p_p 4 rfl (by kernel_rfl) f rfl rfl rfl (fun _ => r_move (f.eval rfl)) fun a f => p_p 5 rfl (by kernel_rfl) f rfl rfl rfl (fun _ => r_int (f.eval rfl) (f.eval rfl) b_add) fun a f => k_draw1 60017 13 (by kernel_rfl) rfl ?_
    refine q_mv 0 60017 rfl (by kernel_rfl) f rfl rfl rfl fun a f => q_mv 1 60017 rfl (by kernel_rfl) f rfl rfl rfl fun a f => q_mv 6 60017 rfl (by kernel_rfl) f rfl rfl rfl fun a f => q_mv 7 60017 rfl (by kernel_rfl) f rfl rfl rfl fun a f => q_mv 8 60017 rfl (by kernel_rfl) f rfl rfl rfl fun a f => q_p 9 60017 rfl (by kernel_rfl) f rfl rfl rfl (fun _ => r_int (f.eval rfl) (f.eval rfl) b_add) fun a f => ?_
    obtain ⟨aT, aU, aO⟩ := bind_some aO
    refine q_own_at (i := 10) 60017 0 m aR rfl T22 aU rfl (by kernel_rfl) rfl f rfl rfl rfl rfl fun aV a aW f => q_own_load (i := 11) 60017 0 aR rfl Pl42 aW aU rfl (by kernel_rfl) rfl f rfl rfl rfl fun aX a aY f => q_mv 12 60017 rfl (by kernel_rfl) f rfl rfl rfl fun a f => q_mv 13 60017 rfl (by kernel_rfl) f rfl rfl rfl fun a f => ?_
    obtain ⟨aZ, a0, aO⟩ := bind_some aO
    refine q_own_at (i := 14) 60017 0 m aR rfl T22 a0 rfl (by kernel_rfl) rfl f rfl rfl rfl rfl fun a1 a a2 f => q_own_load (i := 15) 60017 0 aR rfl Pl42 a2 a0 rfl (by kernel_rfl) rfl f rfl rfl rfl fun a3 a a4 f => ?_
    obtain ⟨a5, a6, aO⟩ := bind_some aO
    refine q_own_at (i := 16) 60017 0 m aR rfl T22 a6 rfl (by kernel_rfl) rfl f rfl rfl rfl rfl fun a7 a a8 f => q_end fun a9 w ba m => ?_
    have aY := (RTg.mono (RI.mono _)) _ _ _ _ ba aY
    have a4 := (RTg.mono (RI.mono _)) _ _ _ _ ba a4
    have aR := Ow.mono (RTg.mono (RI.mono _)) ba aR
    refine l_own_store 0 m aR rfl Tryz.sizeOf42 f rfl rfl a8 a6 aY.cells aY.one1 aY fun bb w m bc => ?_
    obtain ⟨bd, be, aO⟩ := bind_some aO
    refine l_own_at 0 m bc rfl T22 f rfl rfl rfl be fun bf a bg f => l_own_store 0 m bc rfl Tryz.sizeOf42 f rfl rfl bg be a4.cells a4.one1 a4 fun bh w m bi => l_nil (k_region ?_)
    refine l_mv f rfl rfl fun a f => l_mv f rfl rfl fun a f => l_mv f rfl rfl fun a f => l_mv f rfl rfl fun a f => l_mv f rfl rfl fun a f => ?_
    obtain ⟨bj, bk, aO⟩ := bind_some aO
    refine l_res f rfl rfl Tryz.call189 (Wk.slices_siftDownCmpFunc_int64__slices_Compare_int64_int64 m bi bk) fun bl bm bn w bo m bp a f => ?_
    obtain ⟨bq, rfl, br⟩ := bp
    refine l_nil (k_region ?_)
    refine l_mv f rfl rfl fun a f => l_in f rfl rfl rfl b_sub fun a f => l_as f rfl rfl fun a f => l_nil ?_
    obtain rfl := sj aO
    exact ⟨_, rfl, _, _, rfl, _, bq, (GLe.trans aQ (GLe.trans ba bo)), f.weak ⟨rfl, rfl, rfl, rfl, rfl, trivial⟩, m, br⟩
   ·refine k_false f rfl aS ?_
    refine k_exit rfl ?_
    obtain rfl := sj aO
    obtain rfl := aP _ rfl
    exact ⟨_, rfl, _, aM, aQ, f.weak trivial, m, aR⟩
  ·rintro a w ⟨aF, rfl, aG, aH, bs, f, m, bt⟩
   obtain rfl := sj hd
   exact ⟨[], trivial, f.defers, _, [aH], (GLe.trans aB bs), m, _, rfl, bt⟩

theorem Wk.slices_breakPatternsCmpFunc_int64__slices_Compare_int64_int64 {W w : World} {G : GH} {H : List Itm} {v0 : Value} {it0 : Itm} {x0 : (List (Value × List Int))} {x1 : Int} {x2 : Int} (m : Mem W G w (it0 :: H)) (o0 : Ow (RTg (RI .i64)) 42 G it0 v0 x0) {y : ((List (Value × List Int)))} (hd : D.slices_breakPatternsCmpFunc_int64__slices_Compare_int64_int64 x0 x1 x2 = some y) :
  Calls Tryz.prog 156 #[v0, (.int .i64 x1), (.int .i64 x2), (.func (.func 58) #[] #[])] w (Res W G H (fun G' Ho _ => ∃ i0 : Itm, Ho = [i0] ∧ Ow (RTg (RI .i64)) 42 G' i0 v0 y)) := by
 refine calls_b (args := [v0, (.int .i64 x1), (.int .i64 x2), (.func (.func 58) #[] #[])]) (N := 67) [] Tryz.func156 rfl rfl (Nat.le_of_ble_eq_true rfl) rfl fun a f => ?_
 unfold D.slices_breakPatternsCmpFunc_int64__slices_Compare_int64_int64 at hd
 refine k_seq (k_region ?_)
 refine l_mv f rfl rfl fun a f => l_mv f rfl rfl fun a f => l_in f rfl rfl rfl b_sub fun a f => l_as f rfl rfl fun a f => l_nil (k_seq (k_region ?_))
 refine l_mv f rfl rfl fun a f => l_in f rfl rfl rfl b_geq fun a f => l_nil ?_
 rcases cond_some hd with ⟨aa, hd⟩ | ⟨aa, hd⟩
 ·refine k_true f rfl aa ?_
  refine k_seq (k_region ?_)
  refine l_mv f rfl rfl fun a f => l_op f rfl rfl rfl (r_conv (f.eval rfl) ⟨_, Tryz.underlying3⟩ Tryz.underlying190) fun a f => l_alloc (cs := [(.int .u64 0)]) Tryz.zeroValue190 m f rfl rfl fun ab w a m f => l_boxStore 0 0 (ds := [(.int .u64 (IntKind.u64.wrap (IntKind.i64.wrap (x2 - x1))))]) m Tryz.sizeOf190 f rfl rfl rfl (ones_cons rfl ones_nil) rfl (Nat.le_of_ble_eq_true rfl) rfl fun w m => l_nil (k_seq (k_region ?_))
  refine l_mv f rfl rfl fun a f => ?_
  obtain ⟨ac, ad, hd⟩ := bind_some hd
  refine l_res f rfl rfl Tryz.call190 (Wk.slices_nextPowerOfTwo m  ad) fun ae af ag w ah m ai a f => ?_
  obtain ⟨rfl, rfl⟩ := ai
  have o0 := Ow.mono (RTg.mono (RI.mono _)) ah o0
  refine l_as f rfl rfl fun a f => l_nil (k_seq (k_region ?_))
  refine l_mv f rfl rfl fun a f => l_mv f rfl rfl fun a f => l_in f rfl rfl rfl (b_quo rfl) fun a f => l_in f rfl rfl rfl b_mul fun a f => l_in f rfl rfl rfl b_add fun a f => l_in f rfl rfl rfl b_sub fun a f => l_as f rfl rfl fun a f => l_nil ?_
  obtain ⟨aj, ak, hd⟩ := bind_some hd
  refine k_cut (fun a w => ∃ al : List (Value × List Int), al = aj ∧ ∃ (am : GH) (an : Itm), GLe af am ∧ Fr a 67 [] ∧ Mem W am w (an :: H) ∧ Ow (RTg (RI .i64)) 42 am an v0 al) ?_ ?_
  ·refine k_block ?_
   refine k_loop (fun ao a w => ∃ ap : List (Value × List Int), ∃ aq : Int, ∃ ar : Int, (ap, aq, ar) = ao ∧ ∃ (au : GH) (av : Itm), GLe af au ∧ Fr a 67 [(0, v0), (1, (.int .i64 x1)), (8, (.int .i64 (IntKind.i64.wrap (x2 - x1)))), (9, (.pointer (some ⟨ab, 0, none⟩))), (10, (.int .u64 ac)), (11, (.int .i64 aq))] ∧ Mem W au w (Itm.box ab 190 [(.int .u64 ar)] :: av :: H) ∧ Ow (RTg (RI .i64)) 42 au av v0 ap) ak ⟨_, _, _, rfl, _, it0, (GLe.refl _), f.weak ⟨rfl, rfl, rfl, rfl, rfl, rfl, trivial⟩, m, o0⟩ ?_
   clear ak f m
   rintro ao aw ax ay a w ⟨ap, aq, ar, rfl, au, av, az, f, m, aA⟩
   refine k_seq (k_seq (k_region ?_))
   refine l_mv f rfl rfl fun a f => l_mv f rfl rfl fun a f => l_mv f rfl rfl fun a f => l_in f rfl rfl rfl (b_quo rfl) fun a f => l_in f rfl rfl rfl b_mul fun a f => l_in f rfl rfl rfl b_add fun a f => l_in f rfl rfl rfl b_add fun a f => l_in f rfl rfl rfl b_leq fun a f => l_nil ?_
   rcases cond_some ax with ⟨aB, ax⟩ | ⟨aB, ax⟩
   ·refine k_true f rfl aB ?_
    refine k_skip ?_
    refine k_seq (k_block (k_seq (k_region ?_)))
    obtain ⟨aC, aD, ax⟩ := bind_some ax
    refine l_res f rfl rfl Tryz.call191 (Wk.slices_xorshift_Next m  aD) fun aE aF aG w aH m aI a f => ?_
    obtain ⟨rfl, rfl⟩ := aI
    have aA := Ow.mono (RTg.mono (RI.mono _)) aH aA
    refine l_mv f rfl rfl fun a f => l_in f rfl rfl rfl b_sub fun a f => l_in f rfl rfl rfl b_and fun a f => l_op f rfl rfl rfl (r_conv (f.eval rfl) ⟨_, Tryz.underlying135⟩ Tryz.underlying3) fun a f => l_as f rfl rfl fun a f => l_nil (k_seq (k_seq (k_region ?_)))
    refine l_mv f rfl rfl fun a f => l_mv f rfl rfl fun a f => l_in f rfl rfl rfl b_geq fun a f => l_nil ?_
    obtain ⟨aJ, aK, ax⟩ := bind_some ax
    refine k_cut (fun a w => ∃ aL : Int, aL = aJ ∧ ∃ (aM : GH), GLe aF aM ∧ Fr a 67 [(0, v0), (1, (.int .i64 x1)), (8, (.int .i64 (IntKind.i64.wrap (x2 - x1)))), (9, (.pointer (some ⟨ab, 0, none⟩))), (10, (.int .u64 ac)), (11, (.int .i64 aq)), (12, (.int .i64 aL))] ∧ Mem W aM w (Itm.box ab 190 [(.int .u64 aC.2)] :: av :: H)) ?_ ?_
    ·rcases cond_some aK with ⟨aN, aK⟩ | ⟨aN, aK⟩
     ·refine k_true f rfl aN ?_
      refine k_region ?_
      refine l_mv f rfl rfl fun a f => l_mv f rfl rfl fun a f => l_in f rfl rfl rfl b_sub fun a f => l_as f rfl rfl fun a f => l_nil ?_
      obtain rfl := sj aK
      exact ⟨_, rfl, _, (GLe.refl _), f.weak ⟨rfl, rfl, rfl, rfl, rfl, rfl, rfl, trivial⟩, m⟩
     ·refine k_false f rfl aN ?_
      refine k_skip ?_
      obtain rfl := sj aK
      exact ⟨_, rfl, _, (GLe.refl _), f.weak ⟨rfl, rfl, rfl, rfl, rfl, rfl, rfl, trivial⟩, m⟩
    ·rintro a w ⟨aL, rfl, aM, aO, f, m⟩
     have aA := Ow.mono (RTg.mono (RI.mono _)) aO aA
     refine k_draw0 Follows m ?_
     refine p_p 2 rfl (by kernel_rfl) f rfl rfl rfl (fun _ => r_move (f.eval rfl)) fun a f => p_p 3 rfl (by kernel_rfl) f rfl rfl rfl (fun _ => r_move (f.eval rfl)) fun a f => p_p 4 rfl (by kernel_rfl) f rfl rfl rfl (fun _ => r_move (f.eval rfl)) fun a f => p_p 5 rfl (by kernel_rfl) f rfl rfl rfl (fun _ => r_int (f.eval rfl) (f.eval rfl) b_add) fun a f => k_draw1 60017 13 (by kernel_rfl) rfl ?_
     refine q_mv 0 60017 rfl (by kernel_rfl) f rfl rfl rfl fun a f => q_mv 1 60017 rfl (by kernel_rfl) f rfl rfl rfl fun a f => q_mv 6 60017 rfl (by kernel_rfl) f rfl rfl rfl fun a f => q_mv 7 60017 rfl (by kernel_rfl) f rfl rfl rfl fun a f => q_mv 8 60017 rfl (by kernel_rfl) f rfl rfl rfl fun a f => q_p 9 60017 rfl (by kernel_rfl) f rfl rfl rfl (fun _ => r_int (f.eval rfl) (f.eval rfl) b_add) fun a f => ?_
     obtain ⟨aP, aQ, ax⟩ := bind_some ax
     refine q_own_at (i := 10) 60017 1 m aA rfl T22 aQ rfl (by kernel_rfl) rfl f rfl rfl rfl rfl fun aR a aS f => q_own_load (i := 11) 60017 1 aA rfl Pl42 aS aQ rfl (by kernel_rfl) rfl f rfl rfl rfl fun aT a aU f => q_mv 12 60017 rfl (by kernel_rfl) f rfl rfl rfl fun a f => q_mv 13 60017 rfl (by kernel_rfl) f rfl rfl rfl fun a f => ?_
     obtain ⟨aV, aW, ax⟩ := bind_some ax
     refine q_own_at (i := 14) 60017 1 m aA rfl T22 aW rfl (by kernel_rfl) rfl f rfl rfl rfl rfl fun aX a aY f => q_own_load (i := 15) 60017 1 aA rfl Pl42 aY aW rfl (by kernel_rfl) rfl f rfl rfl rfl fun aZ a a0 f => ?_
     obtain ⟨a1, a2, ax⟩ := bind_some ax
     refine q_own_at (i := 16) 60017 1 m aA rfl T22 a2 rfl (by kernel_rfl) rfl f rfl rfl rfl rfl fun a3 a a4 f => q_end fun a5 w a6 m => ?_
     have aU := (RTg.mono (RI.mono _)) _ _ _ _ a6 aU
     have a0 := (RTg.mono (RI.mono _)) _ _ _ _ a6 a0
     have aA := Ow.mono (RTg.mono (RI.mono _)) a6 aA
     refine l_own_store 1 m aA rfl Tryz.sizeOf42 f rfl rfl a4 a2 aU.cells aU.one1 aU fun a7 w m a8 => ?_
     obtain ⟨a9, ba, ax⟩ := bind_some ax
     refine l_own_at 1 m a8 rfl T22 f rfl rfl rfl ba fun bb a bc f => l_own_store 1 m a8 rfl Tryz.sizeOf42 f rfl rfl bc ba a0.cells a0.one1 a0 fun bd w m be => l_nil (k_region ?_)
     refine l_mv f rfl rfl fun a f => l_in f rfl rfl rfl b_add fun a f => l_as f rfl rfl fun a f => l_nil ?_
     obtain rfl := sj ax
     exact ⟨_, rfl, _, _, _, rfl, _, bd, (GLe.trans az (GLe.trans aH (GLe.trans aO a6))), f.weak ⟨rfl, rfl, rfl, rfl, rfl, rfl, trivial⟩, m, be⟩
   ·refine k_false f rfl aB ?_
    refine k_exit rfl ?_
    have m := m.front 1 rfl
    have m := m.eraseAt 1
    obtain rfl := sj ax
    obtain rfl := ay _ rfl
    exact ⟨_, rfl, _, av, az, f.weak trivial, m, aA⟩
  ·rintro a w ⟨al, rfl, am, an, bf, f, m, bg⟩
   obtain rfl := sj hd
   exact ⟨[], trivial, f.defers, _, [an], (GLe.trans ah bf), m, _, rfl, bg⟩
 ·refine k_false f rfl aa ?_
  refine k_skip ?_
  obtain rfl := sj hd
  exact ⟨[], trivial, f.defers, _, [it0], (GLe.refl _), m, _, rfl, o0⟩

theorem Wk.slices_order2CmpFunc_int64__slices_Compare_int64_int64 {W w : World} {G : GH} {H : List Itm} {v0 : Value} {it0 : Itm} {b3 : Nat} {x0 : (List (Value × List Int))} {x1 : Int} {x2 : Int} {x3_0 : Int} (m : Mem W G w (it0 :: Itm.box b3 3 [(.int .i64 x3_0)] :: H)) (o0 : Ow (RTg (RI .i64)) 42 G it0 v0 x0) {y : Int × Int × ((List (Value × List Int))) × Int} (hd : D.slices_order2CmpFunc_int64__slices_Compare_int64_int64 x0 x1 x2 x3_0 = some y) :
  Calls Tryz.prog 206 #[v0, (.int .i64 x1), (.int .i64 x2), (.pointer (some ⟨b3, 0, none⟩)), (.func (.func 58) #[] #[])] w (Res W G H (fun G' Ho v => ∃ i0 : Itm, Ho = [i0, Itm.box b3 3 [(.int .i64 y.2.2.2)]] ∧ v = .tuple #[(.int .i64 y.1), (.int .i64 y.2.1)] ∧ Ow (RTg (RI .i64)) 42 G' i0 v0 y.2.2.1)) := by
 refine calls_b (args := [v0, (.int .i64 x1), (.int .i64 x2), (.pointer (some ⟨b3, 0, none⟩)), (.func (.func 58) #[] #[])]) (N := 32) [.tmp 10, .tmp 11] Tryz.func206 rfl rfl (Nat.le_of_ble_eq_true rfl) rfl fun a f => ?_
 unfold D.slices_order2CmpFunc_int64__slices_Compare_int64_int64 at hd
 refine k_seq (k_region ?_)
 refine l_as f rfl rfl fun a f => l_as f rfl rfl fun a f => l_nil (k_seq (k_seq ?_))
 refine k_draw 11 Follows (by kernel_rfl) m ?_
 refine q_mv 0 11 rfl (by kernel_rfl) f rfl rfl rfl fun a f => q_mv 1 11 rfl (by kernel_rfl) f rfl rfl rfl fun a f => q_mv 2 11 rfl (by kernel_rfl) f rfl rfl rfl fun a f => ?_
 obtain ⟨aa, ab, hd⟩ := bind_some hd
 refine q_own_at (i := 3) 11 0 m o0 rfl T22 ab rfl (by kernel_rfl) rfl f rfl rfl rfl rfl fun ac a ad f => q_own_load (i := 4) 11 0 o0 rfl Pl42 ad ab rfl (by kernel_rfl) rfl f rfl rfl rfl fun ae a af f => q_mv 5 11 rfl (by kernel_rfl) f rfl rfl rfl fun a f => q_mv 6 11 rfl (by kernel_rfl) f rfl rfl rfl fun a f => ?_
 obtain ⟨ag, ah, hd⟩ := bind_some hd
 refine q_own_at (i := 7) 11 0 m o0 rfl T22 ah rfl (by kernel_rfl) rfl f rfl rfl rfl rfl fun ai a aj f => q_own_load (i := 8) 11 0 o0 rfl Pl42 aj ah rfl (by kernel_rfl) rfl f rfl rfl rfl fun ak a al f => ?_
 obtain ⟨am, an, hd⟩ := bind_some hd
 refine q_callv (i := 9) 11 rfl (by kernel_rfl) rfl f rfl rfl rfl rfl Tryz.call58 (fun _ _ w ao m => Wk.slices_Compare_int64_int64 m (rd1 ao (af.2)) (rd1 ao (al.2)) an) fun a f => q_p 10 11 rfl (by kernel_rfl) f rfl rfl rfl (fun _ => r_int (f.eval rfl) (f.eval rfl) b_lss) fun a f => q_end fun ap w aq m => ?_
 have af := (RTg.mono (RI.mono _)) _ _ _ _ aq af
 have al := (RTg.mono (RI.mono _)) _ _ _ _ aq al
 have o0 := Ow.mono (RTg.mono (RI.mono _)) aq o0
 refine l_nil ?_
 rcases cond_some hd with ⟨ar, hd⟩ | ⟨ar, hd⟩
 ·refine k_true f rfl ar ?_
  refine k_seq (k_region ?_)
  refine l_mv f rfl rfl fun a f => l_op f rfl rfl rfl (r_nilCheck (f.eval rfl)) fun a f => l_boxCell 1 0 m Pl3 f rfl rfl rfl rfl fun a f => l_in f rfl rfl rfl b_add fun a f => l_op f rfl rfl rfl (r_nilCheck (f.eval rfl)) fun a f => l_boxStore 1 0 (ds := [(.int .i64 (IntKind.i64.wrap (x3_0 + 1)))]) m Tryz.sizeOf3 f rfl rfl rfl (ones_cons rfl ones_nil) rfl (Nat.le_of_ble_eq_true rfl) rfl fun w m => l_nil (k_seq (k_region ?_))
  refine l_mv f rfl rfl fun a f => l_mv f rfl rfl fun a f => l_as f rfl rfl fun a f => l_as f rfl rfl fun a f => l_nil ?_
  refine k_ret ?_
  obtain rfl := sj hd
  exact ⟨[(.int .i64 x2), (.int .i64 x1)], ⟨f.get _ _ rfl, f.get _ _ rfl, trivial⟩, f.defers, _, [it0, Itm.box b3 3 [(.int .i64 (IntKind.i64.wrap (x3_0 + 1)))]], aq, m, _, rfl, rfl, o0⟩
 ·refine k_false f rfl ar ?_
  refine k_skip ?_
  refine k_seq (k_region ?_)
  refine l_mv f rfl rfl fun a f => l_mv f rfl rfl fun a f => l_as f rfl rfl fun a f => l_as f rfl rfl fun a f => l_nil ?_
  refine k_ret ?_
  obtain rfl := sj hd
  exact ⟨[(.int .i64 x1), (.int .i64 x2)], ⟨f.get _ _ rfl, f.get _ _ rfl, trivial⟩, f.defers, _, [it0, Itm.box b3 3 [(.int .i64 x3_0)]], aq, m, _, rfl, rfl, o0⟩

theorem Wk.slices_medianCmpFunc_int64__slices_Compare_int64_int64 {W w : World} {G : GH} {H : List Itm} {v0 : Value} {it0 : Itm} {b4 : Nat} {x0 : (List (Value × List Int))} {x1 : Int} {x2 : Int} {x3 : Int} {x4_0 : Int} (m : Mem W G w (it0 :: Itm.box b4 3 [(.int .i64 x4_0)] :: H)) (o0 : Ow (RTg (RI .i64)) 42 G it0 v0 x0) {y : Int × ((List (Value × List Int))) × Int} (hd : D.slices_medianCmpFunc_int64__slices_Compare_int64_int64 x0 x1 x2 x3 x4_0 = some y) :
  Calls Tryz.prog 193 #[v0, (.int .i64 x1), (.int .i64 x2), (.int .i64 x3), (.pointer (some ⟨b4, 0, none⟩)), (.func (.func 58) #[] #[])] w (Res W G H (fun G' Ho v => ∃ i0 : Itm, Ho = [i0, Itm.box b4 3 [(.int .i64 y.2.2)]] ∧ v = (.int .i64 y.1) ∧ Ow (RTg (RI .i64)) 42 G' i0 v0 y.2.1)) := by
 refine calls_b (args := [v0, (.int .i64 x1), (.int .i64 x2), (.int .i64 x3), (.pointer (some ⟨b4, 0, none⟩)), (.func (.func 58) #[] #[])]) (N := 41) [.tmp 12] Tryz.func193 rfl rfl (Nat.le_of_ble_eq_true rfl) rfl fun a f => ?_
 unfold D.slices_medianCmpFunc_int64__slices_Compare_int64_int64 at hd
 refine k_seq (k_region ?_)
 refine l_as f rfl rfl fun a f => l_nil (k_seq (k_region ?_))
 refine l_mv f rfl rfl fun a f => l_mv f rfl rfl fun a f => l_mv f rfl rfl fun a f => l_mv f rfl rfl fun a f => l_mv f rfl rfl fun a f => ?_
 obtain ⟨aa, ab, hd⟩ := bind_some hd
 refine l_res f rfl rfl Tryz.call206 (Wk.slices_order2CmpFunc_int64__slices_Compare_int64_int64 m o0 ab) fun ac ad ae w af m ag a f => ?_
 obtain ⟨ah, rfl, rfl, ai⟩ := ag
 refine l_mv f rfl rfl fun a f => l_op f rfl rfl rfl (r_extract (f.eval rfl) rfl) fun a f => l_op f rfl rfl rfl (r_extract (f.eval rfl) rfl) fun a f => l_as f rfl rfl fun a f => l_as f rfl rfl fun a f => l_nil (k_seq (k_region ?_))
 refine l_mv f rfl rfl fun a f => l_mv f rfl rfl fun a f => l_mv f rfl rfl fun a f => l_mv f rfl rfl fun a f => l_mv f rfl rfl fun a f => ?_
 obtain ⟨aj, ak, hd⟩ := bind_some hd
 refine l_res f rfl rfl Tryz.call206 (Wk.slices_order2CmpFunc_int64__slices_Compare_int64_int64 m ai ak) fun al am an w ao m ap a f => ?_
 obtain ⟨aq, rfl, rfl, ar⟩ := ap
 refine l_mv f rfl rfl fun a f => l_op f rfl rfl rfl (r_extract (f.eval rfl) rfl) fun a f => l_op f rfl rfl rfl (r_extract (f.eval rfl) rfl) fun a f => l_as f rfl rfl fun a f => l_as f rfl rfl fun a f => l_nil (k_seq (k_region ?_))
 refine l_mv f rfl rfl fun a f => l_mv f rfl rfl fun a f => l_mv f rfl rfl fun a f => l_mv f rfl rfl fun a f => l_mv f rfl rfl fun a f => ?_
 obtain ⟨au, av, hd⟩ := bind_some hd
 refine l_res f rfl rfl Tryz.call206 (Wk.slices_order2CmpFunc_int64__slices_Compare_int64_int64 m ar av) fun aw ax ay w az m aA a f => ?_
 obtain ⟨aB, rfl, rfl, aC⟩ := aA
 refine l_mv f rfl rfl fun a f => l_op f rfl rfl rfl (r_extract (f.eval rfl) rfl) fun a f => l_op f rfl rfl rfl (r_extract (f.eval rfl) rfl) fun a f => l_as f rfl rfl fun a f => l_as f rfl rfl fun a f => l_nil (k_seq (k_region ?_))
 refine l_mv f rfl rfl fun a f => l_as f rfl rfl fun a f => l_nil ?_
 refine k_ret ?_
 obtain rfl := sj hd
 exact ⟨[(.int .i64 au.2.1)], ⟨f.get _ _ rfl, trivial⟩, f.defers, _, [aB, Itm.box b4 3 [(.int .i64 au.2.2.2)]], (GLe.trans af (GLe.trans ao az)), m, _, rfl, rfl, aC⟩

theorem Wk.slices_medianAdjacentCmpFunc_int64__slices_Compare_int64_int64 {W w : World} {G : GH} {H : List Itm} {v0 : Value} {it0 : Itm} {b2 : Nat} {x0 : (List (Value × List Int))} {x1 : Int} {x2_0 : Int} (m : Mem W G w (it0 :: Itm.box b2 3 [(.int .i64 x2_0)] :: H)) (o0 : Ow (RTg (RI .i64)) 42 G it0 v0 x0) {y : Int × ((List (Value × List Int))) × Int} (hd : D.slices_medianAdjacentCmpFunc_int64__slices_Compare_int64_int64 x0 x1 x2_0 = some y) :
  Calls Tryz.prog 192 #[v0, (.int .i64 x1), (.pointer (some ⟨b2, 0, none⟩)), (.func (.func 58) #[] #[])] w (Res W G H (fun G' Ho v => ∃ i0 : Itm, Ho = [i0, Itm.box b2 3 [(.int .i64 y.2.2)]] ∧ v = (.int .i64 y.1) ∧ Ow (RTg (RI .i64)) 42 G' i0 v0 y.2.1)) := by
 refine calls_b (args := [v0, (.int .i64 x1), (.pointer (some ⟨b2, 0, none⟩)), (.func (.func 58) #[] #[])]) (N := 18) [.tmp 8] Tryz.func192 rfl rfl (Nat.le_of_ble_eq_true rfl) rfl fun a f => ?_
 unfold D.slices_medianAdjacentCmpFunc_int64__slices_Compare_int64_int64 at hd
 refine k_seq (k_region ?_)
 refine l_as f rfl rfl fun a f => l_nil (k_seq (k_region ?_))
 refine l_mv f rfl rfl fun a f => l_mv f rfl rfl fun a f => l_in f rfl rfl rfl b_sub fun a f => l_mv f rfl rfl fun a f => l_mv f rfl rfl fun a f => l_in f rfl rfl rfl b_add fun a f => l_mv f rfl rfl fun a f => l_mv f rfl rfl fun a f => ?_
 obtain ⟨aa, ab, hd⟩ := bind_some hd
 refine l_res f rfl rfl Tryz.call193 (Wk.slices_medianCmpFunc_int64__slices_Compare_int64_int64 m o0 ab) fun ac ad ae w af m ag a f => ?_
 obtain ⟨ah, rfl, rfl, ai⟩ := ag
 refine l_as f rfl rfl fun a f => l_nil ?_
 refine k_ret ?_
 obtain rfl := sj hd
 exact ⟨[(.int .i64 aa.1)], ⟨f.get _ _ rfl, trivial⟩, f.defers, _, [ah, Itm.box b2 3 [(.int .i64 aa.2.2)]], af, m, _, rfl, rfl, ai⟩

theorem Wk.slices_choosePivotCmpFunc_int64__slices_Compare_int64_int64 {W w : World} {G : GH} {H : List Itm} {v0 : Value} {it0 : Itm} {x0 : (List (Value × List Int))} {x1 : Int} {x2 : Int} (m : Mem W G w (it0 :: H)) (o0 : Ow (RTg (RI .i64)) 42 G it0 v0 x0) {y : Int × Int × ((List (Value × List Int)))} (hd : D.slices_choosePivotCmpFunc_int64__slices_Compare_int64_int64 x0 x1 x2 = some y) :
  Calls Tryz.prog 157 #[v0, (.int .i64 x1), (.int .i64 x2), (.func (.func 58) #[] #[])] w (Res W G H (fun G' Ho v => ∃ i0 : Itm, Ho = [i0] ∧ v = .tuple #[(.int .i64 y.1), (.int .i64 y.2.1)] ∧ Ow (RTg (RI .i64)) 42 G' i0 v0 y.2.2)) := by
 refine calls_b (args := [v0, (.int .i64 x1), (.int .i64 x2), (.func (.func 58) #[] #[])]) (N := 63) [.tmp 8, .tmp 9] Tryz.func157 rfl rfl (Nat.le_of_ble_eq_true rfl) rfl fun a f => ?_
 unfold D.slices_choosePivotCmpFunc_int64__slices_Compare_int64_int64 at hd
 refine k_seq (k_region ?_)
 refine l_as f rfl rfl fun a f => l_as f rfl rfl fun a f => l_nil (k_seq (k_region ?_))
 refine l_mv f rfl rfl fun a f => l_mv f rfl rfl fun a f => l_in f rfl rfl rfl b_sub fun a f => l_as f rfl rfl fun a f => l_nil (k_seq (k_region ?_))
 refine l_alloc (cs := [(.int .i64 0)]) Tryz.zeroValue3 m f rfl rfl fun aa w a m f => l_nil (k_seq (k_region ?_))
 refine l_mv f rfl rfl fun a f => l_mv f rfl rfl fun a f => l_in f rfl rfl rfl (b_quo rfl) fun a f => l_in f rfl rfl rfl b_mul fun a f => l_in f rfl rfl rfl b_add fun a f => l_as f rfl rfl fun a f => l_nil (k_seq (k_region ?_))
 refine l_mv f rfl rfl fun a f => l_mv f rfl rfl fun a f => l_in f rfl rfl rfl (b_quo rfl) fun a f => l_in f rfl rfl rfl b_mul fun a f => l_in f rfl rfl rfl b_add fun a f => l_as f rfl rfl fun a f => l_nil (k_seq (k_region ?_))
 refine l_mv f rfl rfl fun a f => l_mv f rfl rfl fun a f => l_in f rfl rfl rfl (b_quo rfl) fun a f => l_in f rfl rfl rfl b_mul fun a f => l_in f rfl rfl rfl b_add fun a f => l_as f rfl rfl fun a f => l_nil (k_seq (k_seq (k_region ?_)))
 refine l_mv f rfl rfl fun a f => l_in f rfl rfl rfl b_geq fun a f => l_nil ?_
 rcases cond_some hd with ⟨ab, hd⟩ | ⟨ab, hd⟩
 ·refine k_true f rfl ab ?_
  refine k_seq (k_seq (k_region ?_))
  refine l_mv f rfl rfl fun a f => l_in f rfl rfl rfl b_geq fun a f => l_nil ?_
  obtain ⟨ac, ad, hd⟩ := bind_some hd
  refine k_cut (fun a w => ∃ ae : List (Value × List Int), ∃ af : Int, ∃ ag : Int, ∃ ah : Int, ∃ ai : Int, (ae, af, ag, ah, ai) = ac ∧ ∃ (aj : GH) (ak : Itm), GLe G aj ∧ Fr a 63 [(0, v0), (3, (.func (.func 58) #[] #[])), (11, (.pointer (some ⟨aa, 0, none⟩))), (12, (.int .i64 af)), (13, (.int .i64 ag)), (14, (.int .i64 ah))] ∧ Mem W aj w (Itm.box aa 3 [(.int .i64 ai)] :: ak :: H) ∧ Ow (RTg (RI .i64)) 42 aj ak v0 ae) ?_ ?_
  ·rcases cond_some ad with ⟨al, ad⟩ | ⟨al, ad⟩
   ·refine k_true f rfl al ?_
    refine k_seq (k_region ?_)
    refine l_mv f rfl rfl fun a f => l_mv f rfl rfl fun a f => l_mv f rfl rfl fun a f => ?_
    have m := m.front 1 rfl
    obtain ⟨am, an, ad⟩ := bind_some ad
    refine l_res f rfl rfl Tryz.call192 (Wk.slices_medianAdjacentCmpFunc_int64__slices_Compare_int64_int64 m o0 an) fun ao ap aq w ar m au a f => ?_
    obtain ⟨av, rfl, rfl, aw⟩ := au
    refine l_as f rfl rfl fun a f => l_nil (k_seq (k_region ?_))
    refine l_mv f rfl rfl fun a f => l_mv f rfl rfl fun a f => l_mv f rfl rfl fun a f => ?_
    obtain ⟨ax, ay, ad⟩ := bind_some ad
    refine l_res f rfl rfl Tryz.call192 (Wk.slices_medianAdjacentCmpFunc_int64__slices_Compare_int64_int64 m aw ay) fun az aA aB w aC m aD a f => ?_
    obtain ⟨aE, rfl, rfl, aF⟩ := aD
    refine l_as f rfl rfl fun a f => l_nil (k_region ?_)
    refine l_mv f rfl rfl fun a f => l_mv f rfl rfl fun a f => l_mv f rfl rfl fun a f => ?_
    obtain ⟨aG, aH, ad⟩ := bind_some ad
    refine l_res f rfl rfl Tryz.call192 (Wk.slices_medianAdjacentCmpFunc_int64__slices_Compare_int64_int64 m aF aH) fun aI aJ aK w aL m aM a f => ?_
    obtain ⟨aN, rfl, rfl, aO⟩ := aM
    refine l_as f rfl rfl fun a f => l_nil ?_
    have m := m.front 1 rfl
    obtain rfl := sj ad
    exact ⟨_, _, _, _, _, rfl, _, aN, (GLe.trans ar (GLe.trans aC aL)), f.weak ⟨rfl, rfl, rfl, rfl, rfl, rfl, trivial⟩, m, aO⟩
   ·refine k_false f rfl al ?_
    refine k_skip ?_
    obtain rfl := sj ad
    exact ⟨_, _, _, _, _, rfl, _, it0, (GLe.refl _), f.weak ⟨rfl, rfl, rfl, rfl, rfl, rfl, trivial⟩, m, o0⟩
  ·rintro a w ⟨ae, af, ag, ah, ai, rfl, aj, ak, aP, f, m, aQ⟩
   refine k_region ?_
   refine l_mv f rfl rfl fun a f => l_mv f rfl rfl fun a f => l_mv f rfl rfl fun a f => l_mv f rfl rfl fun a f => l_mv f rfl rfl fun a f => ?_
   have m := m.front 1 rfl
   obtain ⟨aR, aS, hd⟩ := bind_some hd
   refine l_res f rfl rfl Tryz.call193 (Wk.slices_medianCmpFunc_int64__slices_Compare_int64_int64 m aQ aS) fun aT aU aV w aW m aX a f => ?_
   obtain ⟨aY, rfl, rfl, aZ⟩ := aX
   refine l_as f rfl rfl fun a f => l_nil (k_seq (k_region ?_))
   refine l_boxCell 1 0 m Pl3 f rfl rfl rfl rfl fun a f => l_nil (k_block (k_seq (k_region ?_)))
   refine l_in f rfl rfl rfl b_eql fun a f => l_as f rfl rfl fun a f => l_nil ?_
   rcases cond_some hd with ⟨a0, hd⟩ | ⟨a0, hd⟩
   ·refine k_true f rfl a0 ?_
    refine k_seq (k_region ?_)
    refine l_mv f rfl rfl fun a f => l_as f rfl rfl fun a f => l_as f rfl rfl fun a f => l_nil ?_
    refine k_ret ?_
    have m := m.eraseAt 1
    obtain rfl := sj hd
    exact ⟨[(.int .i64 aR.1), (.int .i64 1)], ⟨f.get _ _ rfl, f.get _ _ rfl, trivial⟩, f.defers, _, [aY], (GLe.trans aP aW), m, _, rfl, rfl, aZ⟩
   ·refine k_false f rfl a0 ?_
    refine k_seq (k_region ?_)
    refine l_in f rfl rfl rfl b_eql fun a f => l_as f rfl rfl fun a f => l_nil ?_
    rcases cond_some hd with ⟨a1, hd⟩ | ⟨a1, hd⟩
    ·refine k_true f rfl a1 ?_
     refine k_seq (k_region ?_)
     refine l_mv f rfl rfl fun a f => l_as f rfl rfl fun a f => l_as f rfl rfl fun a f => l_nil ?_
     refine k_ret ?_
     have m := m.eraseAt 1
     obtain rfl := sj hd
     exact ⟨[(.int .i64 aR.1), (.int .i64 2)], ⟨f.get _ _ rfl, f.get _ _ rfl, trivial⟩, f.defers, _, [aY], (GLe.trans aP aW), m, _, rfl, rfl, aZ⟩
    ·refine k_false f rfl a1 ?_
     refine k_seq (k_region ?_)
     refine l_mv f rfl rfl fun a f => l_as f rfl rfl fun a f => l_as f rfl rfl fun a f => l_nil ?_
     refine k_ret ?_
     have m := m.eraseAt 1
     obtain rfl := sj hd
     exact ⟨[(.int .i64 aR.1), (.int .i64 0)], ⟨f.get _ _ rfl, f.get _ _ rfl, trivial⟩, f.defers, _, [aY], (GLe.trans aP aW), m, _, rfl, rfl, aZ⟩
 ·refine k_false f rfl ab ?_
  refine k_skip ?_
  refine k_seq (k_region ?_)
  refine l_boxCell 0 0 m Pl3 f rfl rfl rfl rfl fun a f => l_nil (k_block (k_seq (k_region ?_)))
  refine l_in f rfl rfl rfl b_eql fun a f => l_as f rfl rfl fun a f => l_nil ?_
  rcases cond_some hd with ⟨a2, hd⟩ | ⟨a2, hd⟩
  ·refine k_true f rfl a2 ?_
   refine k_seq (k_region ?_)
   refine l_mv f rfl rfl fun a f => l_as f rfl rfl fun a f => l_as f rfl rfl fun a f => l_nil ?_
   refine k_ret ?_
   have m := m.front 1 rfl
   have m := m.eraseAt 1
   obtain rfl := sj hd
   exact ⟨[(.int .i64 (IntKind.i64.wrap (x1 + (IntKind.i64.wrap ((IntKind.i64.wrap (Int.tdiv (IntKind.i64.wrap (x2 - x1)) 4)) * 2))))), (.int .i64 1)], ⟨f.get _ _ rfl, f.get _ _ rfl, trivial⟩, f.defers, _, [it0], (GLe.refl _), m, _, rfl, rfl, o0⟩
  ·refine k_false f rfl a2 ?_
   refine k_seq (k_region ?_)
   refine l_in f rfl rfl rfl b_eql fun a f => l_as f rfl rfl fun a f => l_nil ?_
   rcases cond_some hd with ⟨a3, hd⟩ | ⟨a3, hd⟩
   ·refine k_true f rfl a3 ?_
    refine k_seq (k_region ?_)
    refine l_mv f rfl rfl fun a f => l_as f rfl rfl fun a f => l_as f rfl rfl fun a f => l_nil ?_
    refine k_ret ?_
    have m := m.front 1 rfl
    have m := m.eraseAt 1
    obtain rfl := sj hd
    exact ⟨[(.int .i64 (IntKind.i64.wrap (x1 + (IntKind.i64.wrap ((IntKind.i64.wrap (Int.tdiv (IntKind.i64.wrap (x2 - x1)) 4)) * 2))))), (.int .i64 2)], ⟨f.get _ _ rfl, f.get _ _ rfl, trivial⟩, f.defers, _, [it0], (GLe.refl _), m, _, rfl, rfl, o0⟩
   ·refine k_false f rfl a3 ?_
    refine k_seq (k_region ?_)
    refine l_mv f rfl rfl fun a f => l_as f rfl rfl fun a f => l_as f rfl rfl fun a f => l_nil ?_
    refine k_ret ?_
    have m := m.front 1 rfl
    have m := m.eraseAt 1
    obtain rfl := sj hd
    exact ⟨[(.int .i64 (IntKind.i64.wrap (x1 + (IntKind.i64.wrap ((IntKind.i64.wrap (Int.tdiv (IntKind.i64.wrap (x2 - x1)) 4)) * 2))))), (.int .i64 0)], ⟨f.get _ _ rfl, f.get _ _ rfl, trivial⟩, f.defers, _, [it0], (GLe.refl _), m, _, rfl, rfl, o0⟩

theorem Wk.slices_reverseRangeCmpFunc_int64__slices_Compare_int64_int64 {W w : World} {G : GH} {H : List Itm} {v0 : Value} {it0 : Itm} {x0 : (List (Value × List Int))} {x1 : Int} {x2 : Int} (m : Mem W G w (it0 :: H)) (o0 : Ow (RTg (RI .i64)) 42 G it0 v0 x0) {y : ((List (Value × List Int)))} (hd : D.slices_reverseRangeCmpFunc_int64__slices_Compare_int64_int64 x0 x1 x2 = some y) :
  Calls Tryz.prog 158 #[v0, (.int .i64 x1), (.int .i64 x2), (.func (.func 58) #[] #[])] w (Res W G H (fun G' Ho _ => ∃ i0 : Itm, Ho = [i0] ∧ Ow (RTg (RI .i64)) 42 G' i0 v0 y)) := by
 refine calls_b (args := [v0, (.int .i64 x1), (.int .i64 x2), (.func (.func 58) #[] #[])]) (N := 34) [] Tryz.func158 rfl rfl (Nat.le_of_ble_eq_true rfl) rfl fun a f => ?_
 unfold D.slices_reverseRangeCmpFunc_int64__slices_Compare_int64_int64 at hd
 refine k_seq (k_region ?_)
 refine l_mv f rfl rfl fun a f => l_as f rfl rfl fun a f => l_nil (k_seq (k_region ?_))
 refine l_mv f rfl rfl fun a f => l_in f rfl rfl rfl b_sub fun a f => l_as f rfl rfl fun a f => l_nil ?_
 obtain ⟨aa, ab, hd⟩ := bind_some hd
 refine k_cut (fun a w => ∃ ac : List (Value × List Int), ac = aa ∧ ∃ (ad : GH) (ae : Itm), GLe G ad ∧ Fr a 34 [] ∧ Mem W ad w (ae :: H) ∧ Ow (RTg (RI .i64)) 42 ad ae v0 ac) ?_ ?_
 ·refine k_block ?_
  refine k_loop (fun af a w => ∃ ag : List (Value × List Int), ∃ ah : Int, ∃ ai : Int, (ag, ah, ai) = af ∧ ∃ (aj : GH) (ak : Itm), GLe G aj ∧ Fr a 34 [(0, v0), (8, (.int .i64 ah)), (9, (.int .i64 ai))] ∧ Mem W aj w (ak :: H) ∧ Ow (RTg (RI .i64)) 42 aj ak v0 ag) ab ⟨_, _, _, rfl, _, it0, (GLe.refl _), f.weak ⟨rfl, rfl, rfl, trivial⟩, m, o0⟩ ?_
  clear ab f m
  rintro af al am an a w ⟨ag, ah, ai, rfl, aj, ak, ao, f, m, ap⟩
  refine k_seq (k_seq (k_region ?_))
  refine l_mv f rfl rfl fun a f => l_mv f rfl rfl fun a f => l_in f rfl rfl rfl b_lss fun a f => l_nil ?_
  rcases cond_some am with ⟨aq, am⟩ | ⟨aq, am⟩
  ·refine k_true f rfl aq ?_
   refine k_skip ?_
   refine k_block (k_seq ?_)
   refine k_draw0 Follows m ?_
   refine p_p 2 rfl (by kernel_rfl) f rfl rfl rfl (fun _ => r_move (f.eval rfl)) fun a f => p_p 3 rfl (by kernel_rfl) f rfl rfl rfl (fun _ => r_move (f.eval rfl)) fun a f => k_draw1 12013 11 (by kernel_rfl) rfl ?_
   refine q_mv 0 12013 rfl (by kernel_rfl) f rfl rfl rfl fun a f => q_mv 1 12013 rfl (by kernel_rfl) f rfl rfl rfl fun a f => q_mv 4 12013 rfl (by kernel_rfl) f rfl rfl rfl fun a f => q_mv 5 12013 rfl (by kernel_rfl) f rfl rfl rfl fun a f => ?_
   obtain ⟨ar, au, am⟩ := bind_some am
   refine q_own_at (i := 6) 12013 0 m ap rfl T22 au rfl (by kernel_rfl) rfl f rfl rfl rfl rfl fun av a aw f => q_own_load (i := 7) 12013 0 ap rfl Pl42 aw au rfl (by kernel_rfl) rfl f rfl rfl rfl fun ax a ay f => q_mv 8 12013 rfl (by kernel_rfl) f rfl rfl rfl fun a f => q_mv 9 12013 rfl (by kernel_rfl) f rfl rfl rfl fun a f => ?_
   obtain ⟨az, aA, am⟩ := bind_some am
   refine q_own_at (i := 10) 12013 0 m ap rfl T22 aA rfl (by kernel_rfl) rfl f rfl rfl rfl rfl fun aB a aC f => q_own_load (i := 11) 12013 0 ap rfl Pl42 aC aA rfl (by kernel_rfl) rfl f rfl rfl rfl fun aD a aE f => ?_
   obtain ⟨aF, aG, am⟩ := bind_some am
   refine q_own_at (i := 12) 12013 0 m ap rfl T22 aG rfl (by kernel_rfl) rfl f rfl rfl rfl rfl fun aH a aI f => q_end fun aJ w aK m => ?_
   have ay := (RTg.mono (RI.mono _)) _ _ _ _ aK ay
   have aE := (RTg.mono (RI.mono _)) _ _ _ _ aK aE
   have ap := Ow.mono (RTg.mono (RI.mono _)) aK ap
   refine l_own_store 0 m ap rfl Tryz.sizeOf42 f rfl rfl aI aG ay.cells ay.one1 ay fun aL w m aM => ?_
   obtain ⟨aN, aO, am⟩ := bind_some am
   refine l_own_at 0 m aM rfl T22 f rfl rfl rfl aO fun aP a aQ f => l_own_store 0 m aM rfl Tryz.sizeOf42 f rfl rfl aQ aO aE.cells aE.one1 aE fun aR w m aS => l_nil (k_seq (k_region ?_))
   refine l_mv f rfl rfl fun a f => l_in f rfl rfl rfl b_add fun a f => l_as f rfl rfl fun a f => l_nil (k_region ?_)
   refine l_mv f rfl rfl fun a f => l_in f rfl rfl rfl b_sub fun a f => l_as f rfl rfl fun a f => l_nil ?_
   obtain rfl := sj am
   exact ⟨_, rfl, _, _, _, rfl, _, aR, (GLe.trans ao aK), f.weak ⟨rfl, rfl, rfl, trivial⟩, m, aS⟩
  ·refine k_false f rfl aq ?_
   refine k_exit rfl ?_
   obtain rfl := sj am
   obtain rfl := an _ rfl
   exact ⟨_, rfl, _, ak, ao, f.weak trivial, m, ap⟩
 ·rintro a w ⟨ac, rfl, ad, ae, aT, f, m, aU⟩
  obtain rfl := sj hd
  exact ⟨[], trivial, f.defers, _, [ae], aT, m, _, rfl, aU⟩

theorem Wk.slices_partialInsertionSortCmpFunc_int64__slices_Compare_int64_int64 {W w : World} {G : GH} {H : List Itm} {v0 : Value} {it0 : Itm} {x0 : (List (Value × List Int))} {x1 : Int} {x2 : Int} (m : Mem W G w (it0 :: H)) (o0 : Ow (RTg (RI .i64)) 42 G it0 v0 x0) {y : Bool × ((List (Value × List Int)))} (hd : D.slices_partialInsertionSortCmpFunc_int64__slices_Compare_int64_int64 x0 x1 x2 = some y) :
  Calls Tryz.prog 159 #[v0, (.int .i64 x1), (.int .i64 x2), (.func (.func 58) #[] #[])] w (Res W G H (fun G' Ho v => ∃ i0 : Itm, Ho = [i0] ∧ v = (.bool y.1) ∧ Ow (RTg (RI .i64)) 42 G' i0 v0 y.2)) := by
 refine calls_b (args := [v0, (.int .i64 x1), (.int .i64 x2), (.func (.func 58) #[] #[])]) (N := 141) [.tmp 8] Tryz.func159 rfl rfl (Nat.le_of_ble_eq_true rfl) rfl fun a f => ?_
 unfold D.slices_partialInsertionSortCmpFunc_int64__slices_Compare_int64_int64 at hd
 refine k_seq (k_region ?_)
 refine l_as f rfl rfl fun a f => l_nil (k_seq (k_region ?_))
 refine l_mv f rfl rfl fun a f => l_in f rfl rfl rfl b_add fun a f => l_as f rfl rfl fun a f => l_nil (k_seq (k_seq (k_region ?_)))
 refine l_as f rfl rfl fun a f => l_nil ?_
 obtain ⟨aa, ab, hd⟩ := bind_some hd
 refine k_cut (fun a w => ∃ q_1621' : (List (Value × List Int)), aa = .inl q_1621' ∧ ∃ ac : List (Value × List Int), ac = q_1621' ∧ ∃ (ad : GH) (ae : Itm), GLe G ad ∧ Fr a 141 [] ∧ Mem W ad w (ae :: H) ∧ Ow (RTg (RI .i64)) 42 ad ae v0 ac) ?_ ?_
 ·refine k_block ?_
  refine k_loop (fun af a w => ∃ ag : List (Value × List Int), ∃ ah : Int, ∃ ai : Int, (ag, ah, ai) = af ∧ ∃ (aj : GH) (ak : Itm), GLe G aj ∧ Fr a 141 [(0, v0), (1, (.int .i64 x1)), (2, (.int .i64 x2)), (3, (.func (.func 58) #[] #[])), (9, (.int .i64 ah)), (10, (.int .i64 ai))] ∧ Mem W aj w (ak :: H) ∧ Ow (RTg (RI .i64)) 42 aj ak v0 ag) ab ⟨_, _, _, rfl, _, it0, (GLe.refl _), f.weak ⟨rfl, rfl, rfl, rfl, rfl, rfl, trivial⟩, m, o0⟩ ?_
  clear ab f m
  rintro af al am an a w ⟨ag, ah, ai, rfl, aj, ak, ao, f, m, ap⟩
  refine k_seq (k_seq (k_region ?_))
  refine l_mv f rfl rfl fun a f => l_in f rfl rfl rfl b_lss fun a f => l_nil ?_
  rcases cond_some am with ⟨aq, am⟩ | ⟨aq, am⟩
  ·refine k_true f rfl aq ?_
   refine k_skip ?_
   refine k_seq (k_block (k_seq ?_))
   obtain ⟨ar, au, am⟩ := bind_some am
   refine k_cut (fun a w => ∃ av : Int, av = ar ∧ ∃ (aw : GH), GLe aj aw ∧ Fr a 141 [(0, v0), (1, (.int .i64 x1)), (2, (.int .i64 x2)), (3, (.func (.func 58) #[] #[])), (9, (.int .i64 av)), (10, (.int .i64 ai))] ∧ Mem W aw w (ak :: H)) ?_ ?_
   ·refine k_block ?_
    refine k_loop (fun ax a w => ∃ ay : Int, ay = ax ∧ ∃ (az : GH), GLe aj az ∧ Fr a 141 [(0, v0), (1, (.int .i64 x1)), (2, (.int .i64 x2)), (3, (.func (.func 58) #[] #[])), (9, (.int .i64 ay)), (10, (.int .i64 ai))] ∧ Mem W az w (ak :: H)) au ⟨_, rfl, _, (GLe.refl _), f.weak ⟨rfl, rfl, rfl, rfl, rfl, rfl, trivial⟩, m⟩ ?_
    clear au f m
    rintro ax aA aB aC a w ⟨ay, rfl, az, aD, f, m⟩
    have ap := Ow.mono (RTg.mono (RI.mono _)) aD ap
    refine k_seq (k_seq ?_)
    refine k_draw 18 Follows (by kernel_rfl) m ?_
    refine q_mv 0 18 rfl (by kernel_rfl) f rfl rfl rfl fun a f => q_mv 1 18 rfl (by kernel_rfl) f rfl rfl rfl fun a f => q_p 2 18 rfl (by kernel_rfl) f rfl rfl rfl (fun _ => r_int (f.eval rfl) (f.eval rfl) b_lss) fun a f => q_mv 3 18 rfl (by kernel_rfl) f rfl rfl rfl fun a f => ?_
    obtain ⟨aE, aF, aB⟩ := bind_some aB
    refine q_cut (fuel' := 0) (listed' := #[true, true, true, true, true, true, true, true, true, true, true, true, true, true, true, true, true, true]) (fun a => Fr a 141 [(0, v0), (1, (.int .i64 x1)), (2, (.int .i64 x2)), (3, (.func (.func 58) #[] #[])), (9, (.int .i64 ay)), (10, (.int .i64 ai)), (19, (.int .i64 ay)), (20, (.int .i64 x2)), (21, (.bool (decide (ay < x2)))), (22, (.bool (decide (ay < x2)))), (36, (.bool aE))]) ?_ ?_
    ·intro a f
     refine q_end fun aG w aH m => ?_
     have ap := Ow.mono (RTg.mono (RI.mono _)) aH ap
     refine l_nil ?_
     rcases cond_some aB with ⟨aI, aB⟩ | ⟨aI, aB⟩
     ·refine k_true f rfl aI ?_
      refine k_skip ?_
      refine k_block (k_region ?_)
      refine l_mv f rfl rfl fun a f => l_in f rfl rfl rfl b_add fun a f => l_as f rfl rfl fun a f => l_nil ?_
      obtain rfl := sj aB
      exact ⟨_, rfl, _, rfl, _, (GLe.trans aD aH), f.weak ⟨rfl, rfl, rfl, rfl, rfl, rfl, trivial⟩, m⟩
     ·refine k_false f rfl aI ?_
      refine k_exit rfl ?_
      obtain rfl := sj aB
      obtain rfl := aC _ rfl
      exact ⟨_, rfl, _, (GLe.trans aD aH), f.weak ⟨rfl, rfl, rfl, rfl, rfl, rfl, trivial⟩, m⟩
    ·intro aJ
     rcases cond_some aF with ⟨aK, aF⟩ | ⟨aK, aF⟩
     ·refine q_mv 4 18 rfl (by kernel_rfl) f (wanted_of f rfl rfl rfl aK) rfl rfl fun a f => ?_
      refine q_mv 5 18 rfl (by kernel_rfl) f (wanted_of f rfl rfl rfl aK) rfl rfl fun a f => q_mv 6 18 rfl (by kernel_rfl) f (wanted_of f rfl rfl rfl aK) rfl rfl fun a f => ?_
      obtain ⟨aL, aM, aF⟩ := bind_some aF
      refine q_own_at (i := 7) 18 0 m ap rfl T22 aM rfl (by kernel_rfl) rfl f (wanted_of f rfl rfl rfl aK) rfl rfl rfl fun aN a aO f => q_own_load (i := 8) 18 0 ap rfl Pl42 aO aM rfl (by kernel_rfl) rfl f (wanted_of f rfl rfl rfl aK) rfl rfl fun aP a aQ f => q_mv 9 18 rfl (by kernel_rfl) f (wanted_of f rfl rfl rfl aK) rfl rfl fun a f => q_mv 10 18 rfl (by kernel_rfl) f (wanted_of f rfl rfl rfl aK) rfl rfl fun a f => q_p 11 18 rfl (by kernel_rfl) f (wanted_of f rfl rfl rfl aK) rfl rfl (fun _ => r_int (f.eval rfl) (f.eval rfl) b_sub) fun a f => ?_
      obtain ⟨aR, aS, aF⟩ := bind_some aF
      refine q_own_at (i := 12) 18 0 m ap rfl T22 aS rfl (by kernel_rfl) rfl f (wanted_of f rfl rfl rfl aK) rfl rfl rfl fun aT a aU f => q_own_load (i := 13) 18 0 ap rfl Pl42 aU aS rfl (by kernel_rfl) rfl f (wanted_of f rfl rfl rfl aK) rfl rfl fun aV a aW f => ?_
      obtain ⟨aX, aY, aF⟩ := bind_some aF
      refine q_callv (i := 14) 18 rfl (by kernel_rfl) rfl f (wanted_of f rfl rfl rfl aK) rfl rfl rfl Tryz.call58 (fun _ _ w aZ m => Wk.slices_Compare_int64_int64 m (rd1 aZ (aQ.2)) (rd1 aZ (aW.2)) aY) fun a f => q_p 15 18 rfl (by kernel_rfl) f (wanted_of f rfl rfl rfl aK) rfl rfl (fun _ => r_int (f.eval rfl) (f.eval rfl) b_lss) fun a f => q_p 16 18 rfl (by kernel_rfl) f (wanted_of f rfl rfl rfl aK) rfl rfl (fun _ => r_not (f.eval rfl)) fun a f => q_p 17 18 rfl (by kernel_rfl) f rfl rfl rfl (fun _ => r_pickT (f.eval rfl) aK (f.eval rfl)) fun a f => ?_
      obtain rfl := sj aF
      exact aJ _ (f.weak ⟨rfl, rfl, rfl, rfl, rfl, rfl, rfl, rfl, rfl, rfl, rfl, trivial⟩)
     ·refine q_ng 4 18 rfl (by kernel_rfl) f rfl rfl aK rfl fun a f => ?_
      refine q_ng 5 18 rfl (by kernel_rfl) f rfl rfl aK rfl fun a f => q_ng 6 18 rfl (by kernel_rfl) f rfl rfl aK rfl fun a f => q_ng 7 18 rfl (by kernel_rfl) f rfl rfl aK rfl fun a f => q_ng 8 18 rfl (by kernel_rfl) f rfl rfl aK rfl fun a f => q_ng 9 18 rfl (by kernel_rfl) f rfl rfl aK rfl fun a f => q_ng 10 18 rfl (by kernel_rfl) f rfl rfl aK rfl fun a f => q_ng 11 18 rfl (by kernel_rfl) f rfl rfl aK rfl fun a f => q_ng 12 18 rfl (by kernel_rfl) f rfl rfl aK rfl fun a f => q_ng 13 18 rfl (by kernel_rfl) f rfl rfl aK rfl fun a f => q_ng 14 18 rfl (by kernel_rfl) f rfl rfl aK rfl fun a f => q_ng 15 18 rfl (by kernel_rfl) f rfl rfl aK rfl fun a f => q_ng 16 18 rfl (by kernel_rfl) f rfl rfl aK rfl fun a f => q_p 17 18 rfl (by kernel_rfl) f rfl rfl rfl (fun _ => r_pickF (f.eval rfl) aK (f.eval rfl)) fun a f => ?_
      obtain rfl := sj aF
      exact aJ _ (f.weak ⟨rfl, rfl, rfl, rfl, rfl, rfl, rfl, rfl, rfl, rfl, rfl, trivial⟩)
   ·rintro a w ⟨av, rfl, aw, a0, f, m⟩
    have ap := Ow.mono (RTg.mono (RI.mono _)) a0 ap
    refine k_seq (k_seq (k_region ?_))
    refine l_mv f rfl rfl fun a f => l_mv f rfl rfl fun a f => l_in f rfl rfl rfl b_eql fun a f => l_nil ?_
    rcases cond_some am with ⟨a1, am⟩ | ⟨a1, am⟩
    ·refine k_true f rfl a1 ?_
     refine k_seq (k_region ?_)
     refine l_as f rfl rfl fun a f => l_nil ?_
     refine k_ret ?_
     obtain rfl := sj am
     obtain rfl := an _ rfl
     obtain rfl := sj hd
     exact ⟨[(.bool true)], ⟨f.get _ _ rfl, trivial⟩, f.defers, _, [ak], (GLe.trans ao a0), m, _, rfl, rfl, ap⟩
    ·refine k_false f rfl a1 ?_
     refine k_skip ?_
     refine k_seq (k_seq (k_region ?_))
     refine l_mv f rfl rfl fun a f => l_mv f rfl rfl fun a f => l_in f rfl rfl rfl b_sub fun a f => l_in f rfl rfl rfl b_lss fun a f => l_nil ?_
     rcases cond_some am with ⟨a2, am⟩ | ⟨a2, am⟩
     ·refine k_true f rfl a2 ?_
      refine k_seq (k_region ?_)
      refine l_as f rfl rfl fun a f => l_nil ?_
      refine k_ret ?_
      obtain rfl := sj am
      obtain rfl := an _ rfl
      obtain rfl := sj hd
      exact ⟨[(.bool false)], ⟨f.get _ _ rfl, trivial⟩, f.defers, _, [ak], (GLe.trans ao a0), m, _, rfl, rfl, ap⟩
     ·refine k_false f rfl a2 ?_
      refine k_skip ?_
      refine k_seq ?_
      refine k_draw0 Follows m ?_
      refine p_p 2 rfl (by kernel_rfl) f rfl rfl rfl (fun _ => r_move (f.eval rfl)) fun a f => p_p 3 rfl (by kernel_rfl) f rfl rfl rfl (fun _ => r_move (f.eval rfl)) fun a f => p_p 4 rfl (by kernel_rfl) f rfl rfl rfl (fun _ => r_int (f.eval rfl) (f.eval rfl) b_sub) fun a f => k_draw1 28015 12 (by kernel_rfl) rfl ?_
      refine q_mv 0 28015 rfl (by kernel_rfl) f rfl rfl rfl fun a f => q_mv 1 28015 rfl (by kernel_rfl) f rfl rfl rfl fun a f => q_mv 5 28015 rfl (by kernel_rfl) f rfl rfl rfl fun a f => q_mv 6 28015 rfl (by kernel_rfl) f rfl rfl rfl fun a f => q_p 7 28015 rfl (by kernel_rfl) f rfl rfl rfl (fun _ => r_int (f.eval rfl) (f.eval rfl) b_sub) fun a f => ?_
      obtain ⟨a3, a4, am⟩ := bind_some am
      refine q_own_at (i := 8) 28015 0 m ap rfl T22 a4 rfl (by kernel_rfl) rfl f rfl rfl rfl rfl fun a5 a a6 f => q_own_load (i := 9) 28015 0 ap rfl Pl42 a6 a4 rfl (by kernel_rfl) rfl f rfl rfl rfl fun a7 a a8 f => q_mv 10 28015 rfl (by kernel_rfl) f rfl rfl rfl fun a f => q_mv 11 28015 rfl (by kernel_rfl) f rfl rfl rfl fun a f => ?_
      obtain ⟨a9, ba, am⟩ := bind_some am
      refine q_own_at (i := 12) 28015 0 m ap rfl T22 ba rfl (by kernel_rfl) rfl f rfl rfl rfl rfl fun bb a bc f => q_own_load (i := 13) 28015 0 ap rfl Pl42 bc ba rfl (by kernel_rfl) rfl f rfl rfl rfl fun bd a be f => ?_
      obtain ⟨bf, bg, am⟩ := bind_some am
      refine q_own_at (i := 14) 28015 0 m ap rfl T22 bg rfl (by kernel_rfl) rfl f rfl rfl rfl rfl fun bh a bi f => q_end fun bj w bk m => ?_
      have a8 := (RTg.mono (RI.mono _)) _ _ _ _ bk a8
      have be := (RTg.mono (RI.mono _)) _ _ _ _ bk be
      have ap := Ow.mono (RTg.mono (RI.mono _)) bk ap
      refine l_own_store 0 m ap rfl Tryz.sizeOf42 f rfl rfl bi bg a8.cells a8.one1 a8 fun bl w m bm => ?_
      obtain ⟨bn, bo, am⟩ := bind_some am
      refine l_own_at 0 m bm rfl T22 f rfl rfl rfl bo fun bp a bq f => l_own_store 0 m bm rfl Tryz.sizeOf42 f rfl rfl bq bo be.cells be.one1 be fun br w m bs => l_nil (k_seq (k_seq (k_region ?_)))
      refine l_mv f rfl rfl fun a f => l_mv f rfl rfl fun a f => l_in f rfl rfl rfl b_sub fun a f => l_in f rfl rfl rfl b_geq fun a f => l_nil ?_
      obtain ⟨bt, bu, am⟩ := bind_some am
      refine k_cut (fun a w => ∃ bv : List (Value × List Int), bv = bt ∧ ∃ (bw : GH) (bx : Itm), GLe bj bw ∧ Fr a 141 [(0, v0), (1, (.int .i64 x1)), (2, (.int .i64 x2)), (3, (.func (.func 58) #[] #[])), (9, (.int .i64 av)), (10, (.int .i64 ai))] ∧ Mem W bw w (bx :: H) ∧ Ow (RTg (RI .i64)) 42 bw bx v0 bv) ?_ ?_
      ·rcases cond_some bu with ⟨bz, bu⟩ | ⟨bz, bu⟩
       ·refine k_true f rfl bz ?_
        refine k_seq (k_region ?_)
        refine l_mv f rfl rfl fun a f => l_in f rfl rfl rfl b_sub fun a f => l_as f rfl rfl fun a f => l_nil ?_
        obtain ⟨bA, bB, bu⟩ := bind_some bu
        refine k_cut (fun a w => ∃ bC : List (Value × List Int), bC = bA ∧ ∃ (bD : GH) (bE : Itm), GLe bj bD ∧ Fr a 141 [(0, v0), (1, (.int .i64 x1)), (2, (.int .i64 x2)), (3, (.func (.func 58) #[] #[])), (9, (.int .i64 av)), (10, (.int .i64 ai))] ∧ Mem W bD w (bE :: H) ∧ Ow (RTg (RI .i64)) 42 bD bE v0 bC) ?_ ?_
        ·refine k_block ?_
         refine k_loop (fun bF a w => ∃ bG : List (Value × List Int), ∃ bH : Int, (bG, bH) = bF ∧ ∃ (bI : GH) (bJ : Itm), GLe bj bI ∧ Fr a 141 [(0, v0), (1, (.int .i64 x1)), (2, (.int .i64 x2)), (3, (.func (.func 58) #[] #[])), (9, (.int .i64 av)), (10, (.int .i64 ai)), (11, (.int .i64 bH))] ∧ Mem W bI w (bJ :: H) ∧ Ow (RTg (RI .i64)) 42 bI bJ v0 bG) bB ⟨_, _, rfl, _, br, (GLe.refl _), f.weak ⟨rfl, rfl, rfl, rfl, rfl, rfl, rfl, trivial⟩, m, bs⟩ ?_
         clear bB f m
         rintro bF bK bL bM a w ⟨bG, bH, rfl, bI, bJ, bN, f, m, bO⟩
         refine k_seq (k_seq (k_region ?_))
         refine l_mv f rfl rfl fun a f => l_in f rfl rfl rfl b_geq fun a f => l_nil ?_
         rcases cond_some bL with ⟨bP, bL⟩ | ⟨bP, bL⟩
         ·refine k_true f rfl bP ?_
          refine k_skip ?_
          refine k_seq (k_block (k_seq (k_seq ?_)))
          refine k_draw 13 Follows (by kernel_rfl) m ?_
          refine q_mv 0 13 rfl (by kernel_rfl) f rfl rfl rfl fun a f => q_mv 1 13 rfl (by kernel_rfl) f rfl rfl rfl fun a f => q_mv 2 13 rfl (by kernel_rfl) f rfl rfl rfl fun a f => ?_
          obtain ⟨bQ, bR, bL⟩ := bind_some bL
          refine q_own_at (i := 3) 13 0 m bO rfl T22 bR rfl (by kernel_rfl) rfl f rfl rfl rfl rfl fun bS a bT f => q_own_load (i := 4) 13 0 bO rfl Pl42 bT bR rfl (by kernel_rfl) rfl f rfl rfl rfl fun bU a bV f => q_mv 5 13 rfl (by kernel_rfl) f rfl rfl rfl fun a f => q_mv 6 13 rfl (by kernel_rfl) f rfl rfl rfl fun a f => q_p 7 13 rfl (by kernel_rfl) f rfl rfl rfl (fun _ => r_int (f.eval rfl) (f.eval rfl) b_sub) fun a f => ?_
          obtain ⟨bW, bX, bL⟩ := bind_some bL
          refine q_own_at (i := 8) 13 0 m bO rfl T22 bX rfl (by kernel_rfl) rfl f rfl rfl rfl rfl fun bY a bZ f => q_own_load (i := 9) 13 0 bO rfl Pl42 bZ bX rfl (by kernel_rfl) rfl f rfl rfl rfl fun b0 a b1 f => ?_
          obtain ⟨b2, b3, bL⟩ := bind_some bL
          refine q_callv (i := 10) 13 rfl (by kernel_rfl) rfl f rfl rfl rfl rfl Tryz.call58 (fun _ _ w b4 m => Wk.slices_Compare_int64_int64 m (rd1 b4 (bV.2)) (rd1 b4 (b1.2)) b3) fun a f => q_p 11 13 rfl (by kernel_rfl) f rfl rfl rfl (fun _ => r_int (f.eval rfl) (f.eval rfl) b_lss) fun a f => q_p 12 13 rfl (by kernel_rfl) f rfl rfl rfl (fun _ => r_not (f.eval rfl)) fun a f => q_end fun b5 w b6 m => ?_
          have bV := (RTg.mono (RI.mono _)) _ _ _ _ b6 bV
          have b1 := (RTg.mono (RI.mono _)) _ _ _ _ b6 b1
          have bO := Ow.mono (RTg.mono (RI.mono _)) b6 bO
          refine l_nil ?_
          rcases cond_some bL with ⟨b7, bL⟩ | ⟨b7, bL⟩
          ·refine k_true f rfl b7 ?_
           refine k_exit rfl ?_
           obtain rfl := sj bL
           obtain rfl := bM _ rfl
           exact ⟨_, rfl, _, bJ, (GLe.trans bN b6), f.weak ⟨rfl, rfl, rfl, rfl, rfl, rfl, trivial⟩, m, bO⟩
          ·refine k_false f rfl b7 ?_
           refine k_skip ?_
           refine k_draw0 Follows m ?_
           refine p_p 2 rfl (by kernel_rfl) f rfl rfl rfl (fun _ => r_move (f.eval rfl)) fun a f => p_p 3 rfl (by kernel_rfl) f rfl rfl rfl (fun _ => r_move (f.eval rfl)) fun a f => p_p 4 rfl (by kernel_rfl) f rfl rfl rfl (fun _ => r_int (f.eval rfl) (f.eval rfl) b_sub) fun a f => k_draw1 28015 12 (by kernel_rfl) rfl ?_
           refine q_mv 0 28015 rfl (by kernel_rfl) f rfl rfl rfl fun a f => q_mv 1 28015 rfl (by kernel_rfl) f rfl rfl rfl fun a f => q_mv 5 28015 rfl (by kernel_rfl) f rfl rfl rfl fun a f => q_mv 6 28015 rfl (by kernel_rfl) f rfl rfl rfl fun a f => q_p 7 28015 rfl (by kernel_rfl) f rfl rfl rfl (fun _ => r_int (f.eval rfl) (f.eval rfl) b_sub) fun a f => ?_
           obtain ⟨b8, b9, bL⟩ := bind_some bL
           refine q_own_at (i := 8) 28015 0 m bO rfl T22 b9 rfl (by kernel_rfl) rfl f rfl rfl rfl rfl fun ca a cb f => q_own_load (i := 9) 28015 0 bO rfl Pl42 cb b9 rfl (by kernel_rfl) rfl f rfl rfl rfl fun cc a cd f => q_mv 10 28015 rfl (by kernel_rfl) f rfl rfl rfl fun a f => q_mv 11 28015 rfl (by kernel_rfl) f rfl rfl rfl fun a f => ?_
           obtain ⟨ce, cf, bL⟩ := bind_some bL
           refine q_own_at (i := 12) 28015 0 m bO rfl T22 cf rfl (by kernel_rfl) rfl f rfl rfl rfl rfl fun cg a ch f => q_own_load (i := 13) 28015 0 bO rfl Pl42 ch cf rfl (by kernel_rfl) rfl f rfl rfl rfl fun ci a cj f => ?_
           obtain ⟨ck, cl, bL⟩ := bind_some bL
           refine q_own_at (i := 14) 28015 0 m bO rfl T22 cl rfl (by kernel_rfl) rfl f rfl rfl rfl rfl fun cm a cn f => q_end fun co w cp m => ?_
           have cd := (RTg.mono (RI.mono _)) _ _ _ _ cp cd
           have cj := (RTg.mono (RI.mono _)) _ _ _ _ cp cj
           have bO := Ow.mono (RTg.mono (RI.mono _)) cp bO
           refine l_own_store 0 m bO rfl Tryz.sizeOf42 f rfl rfl cn cl cd.cells cd.one1 cd fun cq w m cr => ?_
           obtain ⟨cs, ct, bL⟩ := bind_some bL
           refine l_own_at 0 m cr rfl T22 f rfl rfl rfl ct fun cu a cv f => l_own_store 0 m cr rfl Tryz.sizeOf42 f rfl rfl cv ct cj.cells cj.one1 cj fun cw w m cx => l_nil (k_region ?_)
           refine l_mv f rfl rfl fun a f => l_in f rfl rfl rfl b_sub fun a f => l_as f rfl rfl fun a f => l_nil ?_
           obtain rfl := sj bL
           exact ⟨_, rfl, _, _, rfl, _, cw, (GLe.trans bN (GLe.trans b6 cp)), f.weak ⟨rfl, rfl, rfl, rfl, rfl, rfl, rfl, trivial⟩, m, cx⟩
         ·refine k_false f rfl bP ?_
          refine k_exit rfl ?_
          obtain rfl := sj bL
          obtain rfl := bM _ rfl
          exact ⟨_, rfl, _, bJ, bN, f.weak ⟨rfl, rfl, rfl, rfl, rfl, rfl, trivial⟩, m, bO⟩
        ·rintro a w ⟨bC, rfl, bD, bE, cy, f, m, cz⟩
         obtain rfl := sj bu
         exact ⟨_, rfl, _, bE, cy, f.weak ⟨rfl, rfl, rfl, rfl, rfl, rfl, trivial⟩, m, cz⟩
       ·refine k_false f rfl bz ?_
        refine k_skip ?_
        obtain rfl := sj bu
        exact ⟨_, rfl, _, br, (GLe.refl _), f.weak ⟨rfl, rfl, rfl, rfl, rfl, rfl, trivial⟩, m, bs⟩
      ·rintro a w ⟨bv, rfl, bw, bx, cA, f, m, cB⟩
       refine k_seq (k_region ?_)
       refine l_mv f rfl rfl fun a f => l_mv f rfl rfl fun a f => l_in f rfl rfl rfl b_sub fun a f => l_in f rfl rfl rfl b_geq fun a f => l_nil ?_
       rcases cond_some am with ⟨cC, am⟩ | ⟨cC, am⟩
       ·refine k_true f rfl cC ?_
        refine k_seq (k_region ?_)
        refine l_mv f rfl rfl fun a f => l_in f rfl rfl rfl b_add fun a f => l_as f rfl rfl fun a f => l_nil ?_
        obtain ⟨cD, cE, am⟩ := bind_some am
        refine k_cut (fun a w => ∃ cF : List (Value × List Int), cF = cD ∧ ∃ (cG : GH) (cH : Itm), GLe bw cG ∧ Fr a 141 [(0, v0), (1, (.int .i64 x1)), (2, (.int .i64 x2)), (3, (.func (.func 58) #[] #[])), (9, (.int .i64 av)), (10, (.int .i64 ai))] ∧ Mem W cG w (cH :: H) ∧ Ow (RTg (RI .i64)) 42 cG cH v0 cF) ?_ ?_
        ·refine k_block ?_
         refine k_loop (fun cI a w => ∃ cJ : List (Value × List Int), ∃ cK : Int, (cJ, cK) = cI ∧ ∃ (cL : GH) (cM : Itm), GLe bw cL ∧ Fr a 141 [(0, v0), (1, (.int .i64 x1)), (2, (.int .i64 x2)), (3, (.func (.func 58) #[] #[])), (9, (.int .i64 av)), (10, (.int .i64 ai)), (12, (.int .i64 cK))] ∧ Mem W cL w (cM :: H) ∧ Ow (RTg (RI .i64)) 42 cL cM v0 cJ) cE ⟨_, _, rfl, _, bx, (GLe.refl _), f.weak ⟨rfl, rfl, rfl, rfl, rfl, rfl, rfl, trivial⟩, m, cB⟩ ?_
         clear cE f m
         rintro cI cN cO cP a w ⟨cJ, cK, rfl, cL, cM, cQ, f, m, cR⟩
         refine k_seq (k_seq (k_region ?_))
         refine l_mv f rfl rfl fun a f => l_mv f rfl rfl fun a f => l_in f rfl rfl rfl b_lss fun a f => l_nil ?_
         rcases cond_some cO with ⟨cS, cO⟩ | ⟨cS, cO⟩
         ·refine k_true f rfl cS ?_
          refine k_skip ?_
          refine k_seq (k_block (k_seq (k_seq ?_)))
          refine k_draw 13 Follows (by kernel_rfl) m ?_
          refine q_mv 0 13 rfl (by kernel_rfl) f rfl rfl rfl fun a f => q_mv 1 13 rfl (by kernel_rfl) f rfl rfl rfl fun a f => q_mv 2 13 rfl (by kernel_rfl) f rfl rfl rfl fun a f => ?_
          obtain ⟨cT, cU, cO⟩ := bind_some cO
          refine q_own_at (i := 3) 13 0 m cR rfl T22 cU rfl (by kernel_rfl) rfl f rfl rfl rfl rfl fun cV a cW f => q_own_load (i := 4) 13 0 cR rfl Pl42 cW cU rfl (by kernel_rfl) rfl f rfl rfl rfl fun cX a cY f => q_mv 5 13 rfl (by kernel_rfl) f rfl rfl rfl fun a f => q_mv 6 13 rfl (by kernel_rfl) f rfl rfl rfl fun a f => q_p 7 13 rfl (by kernel_rfl) f rfl rfl rfl (fun _ => r_int (f.eval rfl) (f.eval rfl) b_sub) fun a f => ?_
          obtain ⟨cZ, c0, cO⟩ := bind_some cO
          refine q_own_at (i := 8) 13 0 m cR rfl T22 c0 rfl (by kernel_rfl) rfl f rfl rfl rfl rfl fun c1 a c2 f => q_own_load (i := 9) 13 0 cR rfl Pl42 c2 c0 rfl (by kernel_rfl) rfl f rfl rfl rfl fun c3 a c4 f => ?_
          obtain ⟨c5, c6, cO⟩ := bind_some cO
          refine q_callv (i := 10) 13 rfl (by kernel_rfl) rfl f rfl rfl rfl rfl Tryz.call58 (fun _ _ w c7 m => Wk.slices_Compare_int64_int64 m (rd1 c7 (cY.2)) (rd1 c7 (c4.2)) c6) fun a f => q_p 11 13 rfl (by kernel_rfl) f rfl rfl rfl (fun _ => r_int (f.eval rfl) (f.eval rfl) b_lss) fun a f => q_p 12 13 rfl (by kernel_rfl) f rfl rfl rfl (fun _ => r_not (f.eval rfl)) fun a f => q_end fun c8 w c9 m => ?_
          have cY := (RTg.mono (RI.mono _)) _ _ _ _ c9 cY
          have c4 := (RTg.mono (RI.mono _)) _ _ _ _ c9 c4
          have cR := Ow.mono (RTg.mono (RI.mono _)) c9 cR
          refine l_nil ?_
          rcases cond_some cO with ⟨da, cO⟩ | ⟨da, cO⟩
          ·refine k_true f rfl da ?_
           refine k_exit rfl ?_
           obtain rfl := sj cO
           obtain rfl := cP _ rfl
           exact ⟨_, rfl, _, cM, (GLe.trans cQ c9), f.weak ⟨rfl, rfl, rfl, rfl, rfl, rfl, trivial⟩, m, cR⟩
          ·refine k_false f rfl da ?_
           refine k_skip ?_
           refine k_draw0 Follows m ?_
           refine p_p 2 rfl (by kernel_rfl) f rfl rfl rfl (fun _ => r_move (f.eval rfl)) fun a f => p_p 3 rfl (by kernel_rfl) f rfl rfl rfl (fun _ => r_move (f.eval rfl)) fun a f => p_p 4 rfl (by kernel_rfl) f rfl rfl rfl (fun _ => r_int (f.eval rfl) (f.eval rfl) b_sub) fun a f => k_draw1 28015 12 (by kernel_rfl) rfl ?_
           refine q_mv 0 28015 rfl (by kernel_rfl) f rfl rfl rfl fun a f => q_mv 1 28015 rfl (by kernel_rfl) f rfl rfl rfl fun a f => q_mv 5 28015 rfl (by kernel_rfl) f rfl rfl rfl fun a f => q_mv 6 28015 rfl (by kernel_rfl) f rfl rfl rfl fun a f => q_p 7 28015 rfl (by kernel_rfl) f rfl rfl rfl (fun _ => r_int (f.eval rfl) (f.eval rfl) b_sub) fun a f => ?_
           obtain ⟨db, dc, cO⟩ := bind_some cO
           refine q_own_at (i := 8) 28015 0 m cR rfl T22 dc rfl (by kernel_rfl) rfl f rfl rfl rfl rfl fun dd a de f => q_own_load (i := 9) 28015 0 cR rfl Pl42 de dc rfl (by kernel_rfl) rfl f rfl rfl rfl fun df a dg f => q_mv 10 28015 rfl (by kernel_rfl) f rfl rfl rfl fun a f => q_mv 11 28015 rfl (by kernel_rfl) f rfl rfl rfl fun a f => ?_
           obtain ⟨dh, di, cO⟩ := bind_some cO
           refine q_own_at (i := 12) 28015 0 m cR rfl T22 di rfl (by kernel_rfl) rfl f rfl rfl rfl rfl fun dj a dk f => q_own_load (i := 13) 28015 0 cR rfl Pl42 dk di rfl (by kernel_rfl) rfl f rfl rfl rfl fun dl a dm f => ?_
           obtain ⟨dn, dp, cO⟩ := bind_some cO
           refine q_own_at (i := 14) 28015 0 m cR rfl T22 dp rfl (by kernel_rfl) rfl f rfl rfl rfl rfl fun dq a dr f => q_end fun ds w dt m => ?_
           have dg := (RTg.mono (RI.mono _)) _ _ _ _ dt dg
           have dm := (RTg.mono (RI.mono _)) _ _ _ _ dt dm
           have cR := Ow.mono (RTg.mono (RI.mono _)) dt cR
           refine l_own_store 0 m cR rfl Tryz.sizeOf42 f rfl rfl dr dp dg.cells dg.one1 dg fun du w m dv => ?_
           obtain ⟨dw, dx, cO⟩ := bind_some cO
           refine l_own_at 0 m dv rfl T22 f rfl rfl rfl dx fun dy a dz f => l_own_store 0 m dv rfl Tryz.sizeOf42 f rfl rfl dz dx dm.cells dm.one1 dm fun dA w m dB => l_nil (k_region ?_)
           refine l_mv f rfl rfl fun a f => l_in f rfl rfl rfl b_add fun a f => l_as f rfl rfl fun a f => l_nil ?_
           obtain rfl := sj cO
           exact ⟨_, rfl, _, _, rfl, _, dA, (GLe.trans cQ (GLe.trans c9 dt)), f.weak ⟨rfl, rfl, rfl, rfl, rfl, rfl, rfl, trivial⟩, m, dB⟩
         ·refine k_false f rfl cS ?_
          refine k_exit rfl ?_
          obtain rfl := sj cO
          obtain rfl := cP _ rfl
          exact ⟨_, rfl, _, cM, cQ, f.weak ⟨rfl, rfl, rfl, rfl, rfl, rfl, trivial⟩, m, cR⟩
        ·rintro a w ⟨cF, rfl, cG, cH, dC, f, m, dD⟩
         refine k_region ?_
         refine l_mv f rfl rfl fun a f => l_in f rfl rfl rfl b_add fun a f => l_as f rfl rfl fun a f => l_nil ?_
         obtain rfl := sj am
         exact ⟨_, rfl, _, _, _, rfl, _, cH, (GLe.trans ao (GLe.trans a0 (GLe.trans bk (GLe.trans cA dC)))), f.weak ⟨rfl, rfl, rfl, rfl, rfl, rfl, trivial⟩, m, dD⟩
       ·refine k_false f rfl cC ?_
        refine k_skip ?_
        refine k_region ?_
        refine l_mv f rfl rfl fun a f => l_in f rfl rfl rfl b_add fun a f => l_as f rfl rfl fun a f => l_nil ?_
        obtain rfl := sj am
        exact ⟨_, rfl, _, _, _, rfl, _, bx, (GLe.trans ao (GLe.trans a0 (GLe.trans bk cA))), f.weak ⟨rfl, rfl, rfl, rfl, rfl, rfl, trivial⟩, m, cB⟩
  ·refine k_false f rfl aq ?_
   refine k_exit rfl ?_
   obtain rfl := sj am
   obtain rfl := an _ rfl
   exact ⟨_, rfl, _, rfl, _, ak, ao, f.weak trivial, m, ap⟩
 ·rintro a w ⟨_, rfl, ac, rfl, ad, ae, dE, f, m, dF⟩
  refine k_seq (k_region ?_)
  refine l_as f rfl rfl fun a f => l_nil ?_
  refine k_ret ?_
  obtain rfl := sj hd
  exact ⟨[(.bool false)], ⟨f.get _ _ rfl, trivial⟩, f.defers, _, [ae], dE, m, _, rfl, rfl, dF⟩

theorem Wk.slices_partitionEqualCmpFunc_int64__slices_Compare_int64_int64 {W w : World} {G : GH} {H : List Itm} {v0 : Value} {it0 : Itm} {x0 : (List (Value × List Int))} {x1 : Int} {x2 : Int} {x3 : Int} (m : Mem W G w (it0 :: H)) (o0 : Ow (RTg (RI .i64)) 42 G it0 v0 x0) {y : Int × ((List (Value × List Int)))} (hd : D.slices_partitionEqualCmpFunc_int64__slices_Compare_int64_int64 x0 x1 x2 x3 = some y) :
  Calls Tryz.prog 160 #[v0, (.int .i64 x1), (.int .i64 x2), (.int .i64 x3), (.func (.func 58) #[] #[])] w (Res W G H (fun G' Ho v => ∃ i0 : Itm, Ho = [i0] ∧ v = (.int .i64 y.1) ∧ Ow (RTg (RI .i64)) 42 G' i0 v0 y.2)) := by
 refine calls_b (args := [v0, (.int .i64 x1), (.int .i64 x2), (.int .i64 x3), (.func (.func 58) #[] #[])]) (N := 90) [.tmp 10] Tryz.func160 rfl rfl (Nat.le_of_ble_eq_true rfl) rfl fun a f => ?_
 unfold D.slices_partitionEqualCmpFunc_int64__slices_Compare_int64_int64 at hd
 refine k_seq (k_region ?_)
 refine l_as f rfl rfl fun a f => l_nil (k_seq ?_)
 refine k_draw0 Follows m ?_
 refine p_p 2 rfl (by kernel_rfl) f rfl rfl rfl (fun _ => r_move (f.eval rfl)) fun a f => p_p 3 rfl (by kernel_rfl) f rfl rfl rfl (fun _ => r_move (f.eval rfl)) fun a f => k_draw1 12013 11 (by kernel_rfl) rfl ?_
 refine q_mv 0 12013 rfl (by kernel_rfl) f rfl rfl rfl fun a f => q_mv 1 12013 rfl (by kernel_rfl) f rfl rfl rfl fun a f => q_mv 4 12013 rfl (by kernel_rfl) f rfl rfl rfl fun a f => q_mv 5 12013 rfl (by kernel_rfl) f rfl rfl rfl fun a f => ?_
 obtain ⟨aa, ab, hd⟩ := bind_some hd
 refine q_own_at (i := 6) 12013 0 m o0 rfl T22 ab rfl (by kernel_rfl) rfl f rfl rfl rfl rfl fun ac a ad f => q_own_load (i := 7) 12013 0 o0 rfl Pl42 ad ab rfl (by kernel_rfl) rfl f rfl rfl rfl fun ae a af f => q_mv 8 12013 rfl (by kernel_rfl) f rfl rfl rfl fun a f => q_mv 9 12013 rfl (by kernel_rfl) f rfl rfl rfl fun a f => ?_
 obtain ⟨ag, ah, hd⟩ := bind_some hd
 refine q_own_at (i := 10) 12013 0 m o0 rfl T22 ah rfl (by kernel_rfl) rfl f rfl rfl rfl rfl fun ai a aj f => q_own_load (i := 11) 12013 0 o0 rfl Pl42 aj ah rfl (by kernel_rfl) rfl f rfl rfl rfl fun ak a al f => ?_
 obtain ⟨am, an, hd⟩ := bind_some hd
 refine q_own_at (i := 12) 12013 0 m o0 rfl T22 an rfl (by kernel_rfl) rfl f rfl rfl rfl rfl fun ao a ap f => q_end fun aq w ar m => ?_
 have af := (RTg.mono (RI.mono _)) _ _ _ _ ar af
 have al := (RTg.mono (RI.mono _)) _ _ _ _ ar al
 have o0 := Ow.mono (RTg.mono (RI.mono _)) ar o0
 refine l_own_store 0 m o0 rfl Tryz.sizeOf42 f rfl rfl ap an af.cells af.one1 af fun au w m av => ?_
 obtain ⟨aw, ax, hd⟩ := bind_some hd
 refine l_own_at 0 m av rfl T22 f rfl rfl rfl ax fun ay a az f => l_own_store 0 m av rfl Tryz.sizeOf42 f rfl rfl az ax al.cells al.one1 al fun aA w m aB => l_nil (k_seq (k_region ?_))
 refine l_mv f rfl rfl fun a f => l_in f rfl rfl rfl b_add fun a f => l_mv f rfl rfl fun a f => l_in f rfl rfl rfl b_sub fun a f => l_as f rfl rfl fun a f => l_as f rfl rfl fun a f => l_nil (k_seq ?_)
 obtain ⟨aC, aD, hd⟩ := bind_some hd
 refine k_cut (fun a w => ∃ aE : List (Value × List Int), ∃ aF : Int, (aE, aF) = aC ∧ ∃ (aG : GH) (aH : Itm), GLe aq aG ∧ Fr a 90 [(11, (.int .i64 aF))] ∧ Mem W aG w (aH :: H) ∧ Ow (RTg (RI .i64)) 42 aG aH v0 aE) ?_ ?_
 ·refine k_block ?_
  refine k_loop (fun aI a w => ∃ aJ : List (Value × List Int), ∃ aK : Int, ∃ aL : Int, (aJ, aK, aL) = aI ∧ ∃ (aM : GH) (aN : Itm), GLe aq aM ∧ Fr a 90 [(0, v0), (1, (.int .i64 x1)), (4, (.func (.func 58) #[] #[])), (11, (.int .i64 aK)), (12, (.int .i64 aL))] ∧ Mem W aM w (aN :: H) ∧ Ow (RTg (RI .i64)) 42 aM aN v0 aJ) aD ⟨_, _, _, rfl, _, aA, (GLe.refl _), f.weak ⟨rfl, rfl, rfl, rfl, rfl, trivial⟩, m, aB⟩ ?_
  clear aD f m
  rintro aI aO aP aQ a w ⟨aJ, aK, aL, rfl, aM, aN, aR, f, m, aS⟩
  refine k_block (k_seq ?_)
  obtain ⟨aT, aU, aP⟩ := bind_some aP
  refine k_cut (fun a w => ∃ aV : Int, aV = aT ∧ ∃ (aW : GH), GLe aM aW ∧ Fr a 90 [(0, v0), (1, (.int .i64 x1)), (4, (.func (.func 58) #[] #[])), (11, (.int .i64 aV)), (12, (.int .i64 aL))] ∧ Mem W aW w (aN :: H)) ?_ ?_
  ·refine k_block ?_
   refine k_loop (fun aX a w => ∃ aY : Int, aY = aX ∧ ∃ (aZ : GH), GLe aM aZ ∧ Fr a 90 [(0, v0), (1, (.int .i64 x1)), (4, (.func (.func 58) #[] #[])), (11, (.int .i64 aY)), (12, (.int .i64 aL))] ∧ Mem W aZ w (aN :: H)) aU ⟨_, rfl, _, (GLe.refl _), f.weak ⟨rfl, rfl, rfl, rfl, rfl, trivial⟩, m⟩ ?_
   clear aU f m
   rintro aX a0 a1 a2 a w ⟨aY, rfl, aZ, a3, f, m⟩
   have aS := Ow.mono (RTg.mono (RI.mono _)) a3 aS
   refine k_seq (k_seq ?_)
   refine k_draw 17 Follows (by kernel_rfl) m ?_
   refine q_mv 0 17 rfl (by kernel_rfl) f rfl rfl rfl fun a f => q_mv 1 17 rfl (by kernel_rfl) f rfl rfl rfl fun a f => q_p 2 17 rfl (by kernel_rfl) f rfl rfl rfl (fun _ => r_int (f.eval rfl) (f.eval rfl) b_leq) fun a f => q_mv 3 17 rfl (by kernel_rfl) f rfl rfl rfl fun a f => ?_
   obtain ⟨a4, a5, a1⟩ := bind_some a1
   refine q_cut (fuel' := 0) (listed' := #[true, true, true, true, true, true, true, true, true, true, true, true, true, true, true, true, true]) (fun a => Fr a 90 [(0, v0), (1, (.int .i64 x1)), (4, (.func (.func 58) #[] #[])), (11, (.int .i64 aY)), (12, (.int .i64 aL)), (31, (.int .i64 aY)), (32, (.int .i64 aL)), (33, (.bool (decide (aY ≤ aL)))), (34, (.bool (decide (aY ≤ aL)))), (47, (.bool a4))]) ?_ ?_
   ·intro a f
    refine q_end fun a6 w a7 m => ?_
    have aS := Ow.mono (RTg.mono (RI.mono _)) a7 aS
    refine l_nil ?_
    rcases cond_some a1 with ⟨a8, a1⟩ | ⟨a8, a1⟩
    ·refine k_true f rfl a8 ?_
     refine k_skip ?_
     refine k_block (k_region ?_)
     refine l_mv f rfl rfl fun a f => l_in f rfl rfl rfl b_add fun a f => l_as f rfl rfl fun a f => l_nil ?_
     obtain rfl := sj a1
     exact ⟨_, rfl, _, rfl, _, (GLe.trans a3 a7), f.weak ⟨rfl, rfl, rfl, rfl, rfl, trivial⟩, m⟩
    ·refine k_false f rfl a8 ?_
     refine k_exit rfl ?_
     obtain rfl := sj a1
     obtain rfl := a2 _ rfl
     exact ⟨_, rfl, _, (GLe.trans a3 a7), f.weak ⟨rfl, rfl, rfl, rfl, rfl, trivial⟩, m⟩
   ·intro a9
    rcases cond_some a5 with ⟨ba, a5⟩ | ⟨ba, a5⟩
    ·refine q_mv 4 17 rfl (by kernel_rfl) f (wanted_of f rfl rfl rfl ba) rfl rfl fun a f => ?_
     refine q_mv 5 17 rfl (by kernel_rfl) f (wanted_of f rfl rfl rfl ba) rfl rfl fun a f => q_mv 6 17 rfl (by kernel_rfl) f (wanted_of f rfl rfl rfl ba) rfl rfl fun a f => ?_
     obtain ⟨bb, bc, a5⟩ := bind_some a5
     refine q_own_at (i := 7) 17 0 m aS rfl T22 bc rfl (by kernel_rfl) rfl f (wanted_of f rfl rfl rfl ba) rfl rfl rfl fun bd a be f => q_own_load (i := 8) 17 0 aS rfl Pl42 be bc rfl (by kernel_rfl) rfl f (wanted_of f rfl rfl rfl ba) rfl rfl fun bf a bg f => q_mv 9 17 rfl (by kernel_rfl) f (wanted_of f rfl rfl rfl ba) rfl rfl fun a f => q_mv 10 17 rfl (by kernel_rfl) f (wanted_of f rfl rfl rfl ba) rfl rfl fun a f => ?_
     obtain ⟨bh, bi, a5⟩ := bind_some a5
     refine q_own_at (i := 11) 17 0 m aS rfl T22 bi rfl (by kernel_rfl) rfl f (wanted_of f rfl rfl rfl ba) rfl rfl rfl fun bj a bk f => q_own_load (i := 12) 17 0 aS rfl Pl42 bk bi rfl (by kernel_rfl) rfl f (wanted_of f rfl rfl rfl ba) rfl rfl fun bl a bm f => ?_
     obtain ⟨bn, bo, a5⟩ := bind_some a5
     refine q_callv (i := 13) 17 rfl (by kernel_rfl) rfl f (wanted_of f rfl rfl rfl ba) rfl rfl rfl Tryz.call58 (fun _ _ w bp m => Wk.slices_Compare_int64_int64 m (rd1 bp (bg.2)) (rd1 bp (bm.2)) bo) fun a f => q_p 14 17 rfl (by kernel_rfl) f (wanted_of f rfl rfl rfl ba) rfl rfl (fun _ => r_int (f.eval rfl) (f.eval rfl) b_lss) fun a f => q_p 15 17 rfl (by kernel_rfl) f (wanted_of f rfl rfl rfl ba) rfl rfl (fun _ => r_not (f.eval rfl)) fun a f => q_p 16 17 rfl (by kernel_rfl) f rfl rfl rfl (fun _ => r_pickT (f.eval rfl) ba (f.eval rfl)) fun a f => ?_
     obtain rfl := sj a5
     exact a9 _ (f.weak ⟨rfl, rfl, rfl, rfl, rfl, rfl, rfl, rfl, rfl, rfl, trivial⟩)
    ·refine q_ng 4 17 rfl (by kernel_rfl) f rfl rfl ba rfl fun a f => ?_
     refine q_ng 5 17 rfl (by kernel_rfl) f rfl rfl ba rfl fun a f => q_ng 6 17 rfl (by kernel_rfl) f rfl rfl ba rfl fun a f => q_ng 7 17 rfl (by kernel_rfl) f rfl rfl ba rfl fun a f => q_ng 8 17 rfl (by kernel_rfl) f rfl rfl ba rfl fun a f => q_ng 9 17 rfl (by kernel_rfl) f rfl rfl ba rfl fun a f => q_ng 10 17 rfl (by kernel_rfl) f rfl rfl ba rfl fun a f => q_ng 11 17 rfl (by kernel_rfl) f rfl rfl ba rfl fun a f => q_ng 12 17 rfl (by kernel_rfl) f rfl rfl ba rfl fun a f => q_ng 13 17 rfl (by kernel_rfl) f rfl rfl ba rfl fun a f => q_ng 14 17 rfl (by kernel_rfl) f rfl rfl ba rfl fun a f => q_ng 15 17 rfl (by kernel_rfl) f rfl rfl ba rfl fun a f => q_p 16 17 rfl (by kernel_rfl) f rfl rfl rfl (fun _ => r_pickF (f.eval rfl) ba (f.eval rfl)) fun a f => ?_
     obtain rfl := sj a5
     exact a9 _ (f.weak ⟨rfl, rfl, rfl, rfl, rfl, rfl, rfl, rfl, rfl, rfl, trivial⟩)
  ·rintro a w ⟨aV, rfl, aW, bq, f, m⟩
   have aS := Ow.mono (RTg.mono (RI.mono _)) bq aS
   refine k_seq ?_
   obtain ⟨br, bs, aP⟩ := bind_some aP
   refine k_cut (fun a w => ∃ bt : Int, bt = br ∧ ∃ (bu : GH), GLe aW bu ∧ Fr a 90 [(0, v0), (1, (.int .i64 x1)), (4, (.func (.func 58) #[] #[])), (11, (.int .i64 aV)), (12, (.int .i64 bt))] ∧ Mem W bu w (aN :: H)) ?_ ?_
   ·refine k_block ?_
    refine k_loop (fun bv a w => ∃ bw : Int, bw = bv ∧ ∃ (bx : GH), GLe aW bx ∧ Fr a 90 [(0, v0), (1, (.int .i64 x1)), (4, (.func (.func 58) #[] #[])), (11, (.int .i64 aV)), (12, (.int .i64 bw))] ∧ Mem W bx w (aN :: H)) bs ⟨_, rfl, _, (GLe.refl _), f.weak ⟨rfl, rfl, rfl, rfl, rfl, trivial⟩, m⟩ ?_
    clear bs f m
    rintro bv bz bA bB a w ⟨bw, rfl, bx, bC, f, m⟩
    have aS := Ow.mono (RTg.mono (RI.mono _)) bC aS
    refine k_seq (k_seq ?_)
    refine k_draw 16 Follows (by kernel_rfl) m ?_
    refine q_mv 0 16 rfl (by kernel_rfl) f rfl rfl rfl fun a f => q_mv 1 16 rfl (by kernel_rfl) f rfl rfl rfl fun a f => q_p 2 16 rfl (by kernel_rfl) f rfl rfl rfl (fun _ => r_int (f.eval rfl) (f.eval rfl) b_leq) fun a f => q_mv 3 16 rfl (by kernel_rfl) f rfl rfl rfl fun a f => ?_
    obtain ⟨bD, bE, bA⟩ := bind_some bA
    refine q_cut (fuel' := 0) (listed' := #[true, true, true, true, true, true, true, true, true, true, true, true, true, true, true, true]) (fun a => Fr a 90 [(0, v0), (1, (.int .i64 x1)), (4, (.func (.func 58) #[] #[])), (11, (.int .i64 aV)), (12, (.int .i64 bw)), (50, (.int .i64 aV)), (51, (.int .i64 bw)), (52, (.bool (decide (aV ≤ bw)))), (53, (.bool (decide (aV ≤ bw)))), (65, (.bool bD))]) ?_ ?_
    ·intro a f
     refine q_end fun bF w bG m => ?_
     have aS := Ow.mono (RTg.mono (RI.mono _)) bG aS
     refine l_nil ?_
     rcases cond_some bA with ⟨bH, bA⟩ | ⟨bH, bA⟩
     ·refine k_true f rfl bH ?_
      refine k_skip ?_
      refine k_block (k_region ?_)
      refine l_mv f rfl rfl fun a f => l_in f rfl rfl rfl b_sub fun a f => l_as f rfl rfl fun a f => l_nil ?_
      obtain rfl := sj bA
      exact ⟨_, rfl, _, rfl, _, (GLe.trans bC bG), f.weak ⟨rfl, rfl, rfl, rfl, rfl, trivial⟩, m⟩
     ·refine k_false f rfl bH ?_
      refine k_exit rfl ?_
      obtain rfl := sj bA
      obtain rfl := bB _ rfl
      exact ⟨_, rfl, _, (GLe.trans bC bG), f.weak ⟨rfl, rfl, rfl, rfl, rfl, trivial⟩, m⟩
    ·intro bI
     rcases cond_some bE with ⟨bJ, bE⟩ | ⟨bJ, bE⟩
     ·refine q_mv 4 16 rfl (by kernel_rfl) f (wanted_of f rfl rfl rfl bJ) rfl rfl fun a f => ?_
      refine q_mv 5 16 rfl (by kernel_rfl) f (wanted_of f rfl rfl rfl bJ) rfl rfl fun a f => q_mv 6 16 rfl (by kernel_rfl) f (wanted_of f rfl rfl rfl bJ) rfl rfl fun a f => ?_
      obtain ⟨bK, bL, bE⟩ := bind_some bE
      refine q_own_at (i := 7) 16 0 m aS rfl T22 bL rfl (by kernel_rfl) rfl f (wanted_of f rfl rfl rfl bJ) rfl rfl rfl fun bM a bN f => q_own_load (i := 8) 16 0 aS rfl Pl42 bN bL rfl (by kernel_rfl) rfl f (wanted_of f rfl rfl rfl bJ) rfl rfl fun bO a bP f => q_mv 9 16 rfl (by kernel_rfl) f (wanted_of f rfl rfl rfl bJ) rfl rfl fun a f => q_mv 10 16 rfl (by kernel_rfl) f (wanted_of f rfl rfl rfl bJ) rfl rfl fun a f => ?_
      obtain ⟨bQ, bR, bE⟩ := bind_some bE
      refine q_own_at (i := 11) 16 0 m aS rfl T22 bR rfl (by kernel_rfl) rfl f (wanted_of f rfl rfl rfl bJ) rfl rfl rfl fun bS a bT f => q_own_load (i := 12) 16 0 aS rfl Pl42 bT bR rfl (by kernel_rfl) rfl f (wanted_of f rfl rfl rfl bJ) rfl rfl fun bU a bV f => ?_
      obtain ⟨bW, bX, bE⟩ := bind_some bE
      refine q_callv (i := 13) 16 rfl (by kernel_rfl) rfl f (wanted_of f rfl rfl rfl bJ) rfl rfl rfl Tryz.call58 (fun _ _ w bY m => Wk.slices_Compare_int64_int64 m (rd1 bY (bP.2)) (rd1 bY (bV.2)) bX) fun a f => q_p 14 16 rfl (by kernel_rfl) f (wanted_of f rfl rfl rfl bJ) rfl rfl (fun _ => r_int (f.eval rfl) (f.eval rfl) b_lss) fun a f => q_p 15 16 rfl (by kernel_rfl) f rfl rfl rfl (fun _ => r_pickT (f.eval rfl) bJ (f.eval rfl)) fun a f => ?_
      obtain rfl := sj bE
      exact bI _ (f.weak ⟨rfl, rfl, rfl, rfl, rfl, rfl, rfl, rfl, rfl, rfl, trivial⟩)
     ·refine q_ng 4 16 rfl (by kernel_rfl) f rfl rfl bJ rfl fun a f => ?_
      refine q_ng 5 16 rfl (by kernel_rfl) f rfl rfl bJ rfl fun a f => q_ng 6 16 rfl (by kernel_rfl) f rfl rfl bJ rfl fun a f => q_ng 7 16 rfl (by kernel_rfl) f rfl rfl bJ rfl fun a f => q_ng 8 16 rfl (by kernel_rfl) f rfl rfl bJ rfl fun a f => q_ng 9 16 rfl (by kernel_rfl) f rfl rfl bJ rfl fun a f => q_ng 10 16 rfl (by kernel_rfl) f rfl rfl bJ rfl fun a f => q_ng 11 16 rfl (by kernel_rfl) f rfl rfl bJ rfl fun a f => q_ng 12 16 rfl (by kernel_rfl) f rfl rfl bJ rfl fun a f => q_ng 13 16 rfl (by kernel_rfl) f rfl rfl bJ rfl fun a f => q_ng 14 16 rfl (by kernel_rfl) f rfl rfl bJ rfl fun a f => q_p 15 16 rfl (by kernel_rfl) f rfl rfl rfl (fun _ => r_pickF (f.eval rfl) bJ (f.eval rfl)) fun a f => ?_
      obtain rfl := sj bE
      exact bI _ (f.weak ⟨rfl, rfl, rfl, rfl, rfl, rfl, rfl, rfl, rfl, rfl, trivial⟩)
   ·rintro a w ⟨bt, rfl, bu, bZ, f, m⟩
    have aS := Ow.mono (RTg.mono (RI.mono _)) bZ aS
    refine k_seq (k_seq (k_region ?_))
    refine l_mv f rfl rfl fun a f => l_mv f rfl rfl fun a f => l_in f rfl rfl rfl b_gtr fun a f => l_nil ?_
    rcases cond_some aP with ⟨b0, aP⟩ | ⟨b0, aP⟩
    ·refine k_true f rfl b0 ?_
     refine k_exit rfl ?_
     obtain rfl := sj aP
     obtain rfl := aQ _ rfl
     exact ⟨_, _, rfl, _, aN, (GLe.trans aR (GLe.trans bq bZ)), f.weak ⟨rfl, trivial⟩, m, aS⟩
    ·refine k_false f rfl b0 ?_
     refine k_skip ?_
     refine k_seq ?_
     refine k_draw0 Follows m ?_
     refine p_p 2 rfl (by kernel_rfl) f rfl rfl rfl (fun _ => r_move (f.eval rfl)) fun a f => p_p 3 rfl (by kernel_rfl) f rfl rfl rfl (fun _ => r_move (f.eval rfl)) fun a f => k_draw1 12013 11 (by kernel_rfl) rfl ?_
     refine q_mv 0 12013 rfl (by kernel_rfl) f rfl rfl rfl fun a f => q_mv 1 12013 rfl (by kernel_rfl) f rfl rfl rfl fun a f => q_mv 4 12013 rfl (by kernel_rfl) f rfl rfl rfl fun a f => q_mv 5 12013 rfl (by kernel_rfl) f rfl rfl rfl fun a f => ?_
     obtain ⟨b1, b2, aP⟩ := bind_some aP
     refine q_own_at (i := 6) 12013 0 m aS rfl T22 b2 rfl (by kernel_rfl) rfl f rfl rfl rfl rfl fun b3 a b4 f => q_own_load (i := 7) 12013 0 aS rfl Pl42 b4 b2 rfl (by kernel_rfl) rfl f rfl rfl rfl fun b5 a b6 f => q_mv 8 12013 rfl (by kernel_rfl) f rfl rfl rfl fun a f => q_mv 9 12013 rfl (by kernel_rfl) f rfl rfl rfl fun a f => ?_
     obtain ⟨b7, b8, aP⟩ := bind_some aP
     refine q_own_at (i := 10) 12013 0 m aS rfl T22 b8 rfl (by kernel_rfl) rfl f rfl rfl rfl rfl fun b9 a ca f => q_own_load (i := 11) 12013 0 aS rfl Pl42 ca b8 rfl (by kernel_rfl) rfl f rfl rfl rfl fun cb a cc f => ?_
     obtain ⟨cd, ce, aP⟩ := bind_some aP
     refine q_own_at (i := 12) 12013 0 m aS rfl T22 ce rfl (by kernel_rfl) rfl f rfl rfl rfl rfl fun cf a cg f => q_end fun ch w ci m => ?_
     have b6 := (RTg.mono (RI.mono _)) _ _ _ _ ci b6
     have cc := (RTg.mono (RI.mono _)) _ _ _ _ ci cc
     have aS := Ow.mono (RTg.mono (RI.mono _)) ci aS
     refine l_own_store 0 m aS rfl Tryz.sizeOf42 f rfl rfl cg ce b6.cells b6.one1 b6 fun cj w m ck => ?_
     obtain ⟨cl, cm, aP⟩ := bind_some aP
     refine l_own_at 0 m ck rfl T22 f rfl rfl rfl cm fun cn a co f => l_own_store 0 m ck rfl Tryz.sizeOf42 f rfl rfl co cm cc.cells cc.one1 cc fun cp w m cq => l_nil (k_seq (k_region ?_))
     refine l_mv f rfl rfl fun a f => l_in f rfl rfl rfl b_add fun a f => l_as f rfl rfl fun a f => l_nil (k_region ?_)
     refine l_mv f rfl rfl fun a f => l_in f rfl rfl rfl b_sub fun a f => l_as f rfl rfl fun a f => l_nil ?_
     obtain rfl := sj aP
     exact ⟨_, rfl, _, _, _, rfl, _, cp, (GLe.trans aR (GLe.trans bq (GLe.trans bZ ci))), f.weak ⟨rfl, rfl, rfl, rfl, rfl, trivial⟩, m, cq⟩
 ·rintro a w ⟨aE, aF, rfl, aG, aH, cr, f, m, cs⟩
  refine k_seq (k_region ?_)
  refine l_mv f rfl rfl fun a f => l_as f rfl rfl fun a f => l_nil ?_
  refine k_ret ?_
  obtain rfl := sj hd
  exact ⟨[(.int .i64 aF)], ⟨f.get _ _ rfl, trivial⟩, f.defers, _, [aH], (GLe.trans ar cr), m, _, rfl, rfl, cs⟩


end Go.Proofs.YtebbefpdncgoiaaGreatDoor
