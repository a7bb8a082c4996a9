/- Parts of the proof: PAW. -/
import Derived.Test.YtkffjeaefgfnnaaDoorPr2
import Derived.Test.YtkffjeaefgfnnaaDoorProg
import Derived.KernelRfl
set_option linter.unusedVariables false
set_option linter.unusedSimpArgs false
set_option linter.unusedSectionVars false
set_option maxRecDepth 100000
namespace Go.Proofs.YtkffjeaefgfnnaaDoor
open Go Go.Sx
theorem Follows : Tryd.prog.follows .mixedOrders = true := by kernel_rfl
theorem Pl2 : Plain Tryd.prog 2 := Tryd.isAgg2
theorem T32 : SlT Tryd.prog 32 2 1 8 (.int .i64 0) := ⟨Tryd.underlying32, Tryd.t2, by kernel_rfl, by kernel_rfl, by kernel_rfl, by kernel_rfl⟩
theorem Pl5 : Plain Tryd.prog 5 := Tryd.isAgg5
theorem Pl139 : Plain Tryd.prog 139 := Tryd.isAgg139
theorem Pl3 : Plain Tryd.prog 3 := Tryd.isAgg3

theorem Wk.x0 {W w : World} {G : GH} {H : List Itm} {v0 : Value} {x0 : (List Int)} {x1 : Int} (m : Mem W G w (H)) (h0 : RSl (RI .i64) G v0 x0) {y : Int} (hd : D.x0 x0 x1 = some y) :
  Calls Tryd.prog 88 #[v0, (.int .i64 x1)] w (Res W G H (fun _ Ho v => Ho = [] ∧ v = (.int .i64 y))) := by
 refine calls_b (args := [v0, (.int .i64 x1)]) (N := 19) [.tmp 4] Tryd.func88 rfl rfl (Nat.le_of_ble_eq_true rfl) rfl fun a f => ?_
 unfold D.x0 at hd
 refine k_seq (k_region ?_)
 refine l_as f rfl rfl fun a f => l_nil (k_seq (k_seq (k_region ?_)))
 refine l_mv f rfl rfl fun a f => l_len Tryd.underlying32 f rfl rfl h0 fun a f => l_mv f rfl rfl fun a f => l_nil ?_
 obtain ⟨aa, ab, hd⟩ := bind_some hd
 refine k_cut (fun a w => ∃ q_19' : Unit, aa = .inl q_19' ∧ ∃ (ac : GH), GLe G ac ∧ Fr a 19 [] ∧ Mem W ac w (H)) ?_ ?_
 ·refine k_block ?_
  refine k_loop (fun ad a w => ∃ ae : Int, ae = ad ∧ ∃ (af : GH), GLe G af ∧ Fr a 19 [(0, v0), (1, (.int .i64 x1)), (7, (.int .i64 (x0.length : Int))), (8, (.int .i64 ae))] ∧ Mem W af w (H)) ab ⟨_, rfl, _, (GLe.refl _), f.weak ⟨rfl, rfl, rfl, rfl, trivial⟩, m⟩ ?_
  clear ab f m
  rintro ad ag ah ai a w ⟨ae, rfl, af, aj, f, m⟩
  have h0 := rd1 aj h0
  refine k_seq (k_region ?_)
  refine l_in f rfl rfl rfl b_lss fun a f => l_nil (k_seq ?_)
  rcases cond_some ah with ⟨ak, ah⟩ | ⟨ak, ah⟩
  ·refine k_true f rfl ak ?_
   refine k_skip ?_
   refine k_seq (k_block (k_seq (k_region ?_)))
   refine l_mv f rfl rfl fun a f => l_as f rfl rfl fun a f => l_nil (k_seq (k_region ?_))
   refine l_mv f rfl rfl fun a f => l_mv f rfl rfl fun a f => l_mv f rfl rfl fun a f => ?_
   obtain ⟨al, am, ah⟩ := bind_some ah
   refine l_at T32 f rfl rfl rfl h0 am fun an ao a ap aq f => ?_
   subst aq
   refine l_loadAt m Pl2 f rfl rfl ap fun a f => l_in f rfl rfl rfl b_eql fun a f => l_nil ?_
   rcases cond_some ah with ⟨ar, ah⟩ | ⟨ar, ah⟩
   ·refine k_true f rfl ar ?_
    refine k_seq (k_region ?_)
    refine l_mv f rfl rfl fun a f => l_as f rfl rfl fun a f => l_nil ?_
    refine k_ret ?_
    obtain rfl := sj ah
    obtain rfl := ai _ rfl
    obtain rfl := sj hd
    exact ⟨[(.int .i64 ae)], ⟨f.get _ _ rfl, trivial⟩, f.defers, _, [], aj, m, rfl, rfl⟩
   ·refine k_false f rfl ar ?_
    refine k_skip ?_
    refine k_region ?_
    refine l_in f rfl rfl rfl b_add fun a f => l_mv f rfl rfl fun a f => l_nil ?_
    obtain rfl := sj ah
    exact ⟨_, rfl, _, rfl, _, aj, f.weak ⟨rfl, rfl, rfl, rfl, trivial⟩, m⟩
  ·refine k_false f rfl ak ?_
   refine k_exit rfl ?_
   obtain rfl := sj ah
   obtain rfl := ai _ rfl
   exact ⟨_, rfl, _, aj, f.weak trivial, m⟩
 ·rintro a w ⟨_, rfl, ac, au, f, m⟩
  refine k_seq (k_region ?_)
  refine l_as f rfl rfl fun a f => l_nil ?_
  refine k_ret ?_
  obtain rfl := sj hd
  exact ⟨[(.int .i64 (-1))], ⟨f.get _ _ rfl, trivial⟩, f.defers, _, [], au, m, rfl, rfl⟩

theorem Wk.F {W w : World} {G : GH} {H : List Itm} {v0 : Value} {x0 : (List Int)} {x1 : Int} (m : Mem W G w (H)) (h0 : RSl (RI .i64) G v0 x0) {y : Bool} (hd : D.F x0 x1 = some y) :
  Calls Tryd.prog 68 #[v0, (.int .i64 x1)] w (Res W G H (fun _ Ho v => Ho = [] ∧ v = (.bool y))) := by
 refine calls_b (args := [v0, (.int .i64 x1)]) (N := 9) [.tmp 4] Tryd.func68 rfl rfl (Nat.le_of_ble_eq_true rfl) rfl fun a f => ?_
 unfold D.F at hd
 refine k_seq (k_region ?_)
 refine l_as f rfl rfl fun a f => l_nil (k_seq (k_region ?_))
 refine l_mv f rfl rfl fun a f => l_mv f rfl rfl fun a f => ?_
 obtain ⟨aa, ab, hd⟩ := bind_some hd
 refine l_res f rfl rfl Tryd.call88 (Wk.x0 m h0 ab) fun ac ad ae w af m ag a f => ?_
 obtain ⟨rfl, rfl⟩ := ag
 have h0 := rd1 af h0
 refine l_in f rfl rfl rfl b_geq fun a f => l_as f rfl rfl fun a f => l_nil ?_
 refine k_ret ?_
 obtain rfl := sj hd
 exact ⟨[(.bool (decide ((0 : Int) ≤ aa)))], ⟨f.get _ _ rfl, trivial⟩, f.defers, _, [], af, m, rfl, rfl⟩

theorem Wk.u0 {W w : World} {G : GH} {H : List Itm} {x0 : Int} (hW : TabW W) (m : Mem W G w (H))  {y : Int} (hd : D.u0 x0 = some y) :
  Calls Tryd.prog 92 #[(.int .u32 x0)] w (Res W G H (fun _ Ho v => Ho = [] ∧ v = (.int .i64 y))) := by
 refine calls_b (args := [(.int .u32 x0)]) (N := 14) [.tmp 2] Tryd.func92 rfl rfl (Nat.le_of_ble_eq_true rfl) rfl fun a f => ?_
 unfold D.u0 at hd
 refine k_seq (k_region ?_)
 refine l_as f rfl rfl fun a f => l_nil (k_seq (k_seq (k_region ?_)))
 refine l_mv f rfl rfl fun a f => l_in f rfl rfl rfl b_eql fun a f => l_nil ?_
 rcases cond_some hd with ⟨aa, hd⟩ | ⟨aa, hd⟩
 ·refine k_true f rfl aa ?_
  refine k_seq (k_region ?_)
  refine l_as f rfl rfl fun a f => l_nil ?_
  refine k_ret ?_
  obtain rfl := sj hd
  exact ⟨[(.int .i64 32)], ⟨f.get _ _ rfl, trivial⟩, f.defers, _, [], (GLe.refl _), m, rfl, rfl⟩
 ·refine k_false f rfl aa ?_
  refine k_skip ?_
  refine k_seq (k_region ?_)
  refine l_mv f rfl rfl fun a f => l_mv f rfl rfl fun a f => l_op f rfl rfl rfl (r_neg (f.eval rfl)) fun a f => l_in f rfl rfl rfl b_and fun a f => l_in f rfl rfl rfl b_mul fun a f => l_op f rfl rfl rfl (r_shr (f.eval rfl) (f.eval rfl) (by decide)) fun a f => ?_
  obtain ⟨ab, ac, hd⟩ := bind_some hd
  refine l_tab hW m Tryd.underlying130 Tryd.sizeOf5 f rfl rfl ac fun ad a ae f => l_loadAt m Pl5 f rfl rfl ae fun a f => l_op f rfl rfl rfl (r_conv (f.eval rfl) ⟨_, Tryd.underlying5⟩ Tryd.underlying3) fun a f => l_as f rfl rfl fun a f => l_nil ?_
  refine k_ret ?_
  obtain rfl := sj hd
  exact ⟨[(.int .i64 (IntKind.i64.wrap ab))], ⟨f.get _ _ rfl, trivial⟩, f.defers, _, [], (GLe.refl _), m, rfl, rfl⟩

theorem Wk.y0 {W w : World} {G : GH} {H : List Itm} {v0 : Value} {b0 : Nat} {x0 : (List Int)} (m : Mem W G w (Itm.box b0 32 [v0] :: H)) (h0 : RSl (RI .i64) G v0 x0) {y : ((List Int))} (hd : D.y0 x0 = some y) :
  Calls Tryd.prog 73 #[(.func (.func 75) #[] #[(.pointer (some ⟨b0, 0, none⟩))])] w (Res W G H (fun G' Ho v => ∃ r0 : Value, ∃ i0 : Itm, Ho = [i0] ∧ r0 = v ∧ Ow (RI .i64) 2 G' i0 r0 y)) := by
 refine calls_b (args := [(.func (.func 75) #[] #[(.pointer (some ⟨b0, 0, none⟩))])]) (N := 5) [.tmp 2] Tryd.func73 rfl rfl (Nat.le_of_ble_eq_true rfl) rfl fun a f => ?_
 unfold D.y0 at hd
 refine k_seq (k_region ?_)
 refine l_as f rfl rfl fun a f => l_nil (k_seq (k_region ?_))
 refine l_mv f rfl rfl fun a f => ?_
 obtain ⟨aa, ab, hd⟩ := bind_some hd
 refine l_res f rfl rfl Tryd.call89 (Wk.D0 m h0 ab) fun ac ad ae w af m ag a f => ?_
 obtain ⟨ah, ai, rfl, rfl, aj⟩ := ag
 refine l_as f rfl rfl fun a f => l_nil ?_
 refine k_ret ?_
 obtain rfl := sj hd
 exact ⟨[ah], ⟨f.get _ _ rfl, trivial⟩, f.defers, _, [ai], af, m, _, _, rfl, rfl, aj⟩

theorem Wk.Q {W w : World} {G : GH} {H : List Itm} {x0 : Int} (m : Mem W G w (H))  {y : Bool} (hd : D.Q x0 = some y) :
  Calls Tryd.prog 124 #[(.int .i64 x0)] w (Res W G H (fun _ Ho v => Ho = [] ∧ v = (.bool y))) := by
 refine calls_b (args := [(.int .i64 x0)]) (N := 6) [.tmp 2] Tryd.func124 rfl rfl (Nat.le_of_ble_eq_true rfl) rfl fun a f => ?_
 unfold D.Q at hd
 refine k_seq (k_region ?_)
 refine l_as f rfl rfl fun a f => l_nil (k_seq (k_region ?_))
 refine l_mv f rfl rfl fun a f => l_mv f rfl rfl fun a f => l_in f rfl rfl rfl b_neq fun a f => l_as f rfl rfl fun a f => l_nil ?_
 refine k_ret ?_
 obtain rfl := sj hd
 exact ⟨[(.bool (x0 != x0))], ⟨f.get _ _ rfl, trivial⟩, f.defers, _, [], (GLe.refl _), m, rfl, rfl⟩

theorem Wk.a {W w : World} {G : GH} {H : List Itm} {x0 : Int} {x1 : Int} (m : Mem W G w (H))  {y : Bool} (hd : D.a x0 x1 = some y) :
  Calls Tryd.prog 108 #[(.int .i64 x0), (.int .i64 x1)] w (Res W G H (fun _ Ho v => Ho = [] ∧ v = (.bool y))) := by
 refine calls_b (args := [(.int .i64 x0), (.int .i64 x1)]) (N := 17) [.tmp 4] Tryd.func108 rfl rfl (Nat.le_of_ble_eq_true rfl) rfl fun a f => ?_
 unfold D.a at hd
 refine k_seq (k_region ?_)
 refine l_as f rfl rfl fun a f => l_nil (k_seq (k_region ?_))
 refine l_mv f rfl rfl fun a f => ?_
 obtain ⟨aa, ab, hd⟩ := bind_some hd
 refine l_res f rfl rfl Tryd.call124 (Wk.Q m  ab) fun ac ad ae w af m ag a f => ?_
 obtain ⟨rfl, rfl⟩ := ag
 refine l_mv f rfl rfl fun a f => ?_
 obtain ⟨ah, ai, hd⟩ := bind_some hd
 refine l_cut 4 (fun a w => ∃ aj, GLe ad aj ∧ Mem W aj w (H) ∧ Fr a 17 [(0, (.int .i64 x0)), (1, (.int .i64 x1)), (5, (.int .i64 x0)), (6, (.bool aa)), (7, (.bool aa)), (11, (.bool ah))]) ?_ ?_
 ·rcases cond_some ai with ⟨ak, ai⟩ | ⟨ak, ai⟩
  ·refine l_run f rfl rfl ak ?_
   refine l_mv f rfl rfl fun a f => l_run f rfl rfl ak ?_
   obtain ⟨al, am, ai⟩ := bind_some ai
   refine l_res f rfl rfl Tryd.call124 (Wk.Q m  am) fun an ao ap w aq m ar a f => ?_
   obtain ⟨rfl, rfl⟩ := ar
   refine l_run f rfl rfl ak ?_
   refine l_op f rfl rfl rfl (r_not (f.eval rfl)) fun a f => l_op f rfl rfl rfl (r_pickT (f.eval rfl) ak (f.eval rfl)) fun a f => ?_
   obtain rfl := sj ai
   exact ⟨_, aq, m, f.weak ⟨rfl, rfl, rfl, rfl, rfl, rfl, trivial⟩⟩
  ·refine l_not' f rfl rfl rfl ak fun a f => ?_
   refine l_not' f rfl rfl rfl ak fun a f => l_not' f rfl rfl rfl ak fun a f => l_op f rfl rfl rfl (r_pickF (f.eval rfl) ak (f.eval rfl)) fun a f => ?_
   obtain rfl := sj ai
   exact ⟨_, (GLe.refl _), m, f.weak ⟨rfl, rfl, rfl, rfl, rfl, rfl, trivial⟩⟩
 ·rintro a w ⟨aj, au, m, f⟩
  refine l_mv f rfl rfl fun a f => ?_
  refine l_cut 4 (fun a w => ∃ av, GLe aj av ∧ Mem W av w (H) ∧ Fr a 17 [(0, (.int .i64 x0)), (1, (.int .i64 x1)), (5, (.int .i64 x0)), (6, (.bool aa)), (7, (.bool aa)), (11, (.bool ah)), (12, (.bool ah)), (16, (.bool (ah || (decide (x0 < x1)))))]) ?_ ?_
  ·rcases Bool.eq_false_or_eq_true ah with aw | aw
   ·refine l_not' f rfl rfl rfl aw fun a f => ?_
    refine l_not' f rfl rfl rfl aw fun a f => l_not' f rfl rfl rfl aw fun a f => l_op f rfl rfl rfl (r_pickT (f.eval rfl) aw (f.eval rfl)) fun a f => ?_
    exact ⟨_, (GLe.refl _), m, f.weak ⟨rfl, rfl, rfl, rfl, rfl, rfl, rfl, by rw [aw]; rfl, trivial⟩⟩
   ·refine l_run f rfl rfl aw ?_
    refine l_mv f rfl rfl fun a f => l_run f rfl rfl aw ?_
    refine l_mv f rfl rfl fun a f => l_run f rfl rfl aw ?_
    refine l_in f rfl rfl rfl b_lss fun a f => l_op f rfl rfl rfl (r_pickF (f.eval rfl) aw (f.eval rfl)) fun a f => ?_
    exact ⟨_, (GLe.refl _), m, f.weak ⟨rfl, rfl, rfl, rfl, rfl, rfl, rfl, by rw [aw]; rfl, trivial⟩⟩
  ·rintro a w ⟨av, ax, m, f⟩
   refine l_as f rfl rfl fun a f => l_nil ?_
   refine k_ret ?_
   obtain rfl := sj hd
   exact ⟨[(.bool (ah || (decide (x0 < x1))))], ⟨f.get _ _ rfl, trivial⟩, f.defers, _, [], (GLe.trans af (GLe.trans au ax)), m, rfl, rfl⟩

theorem Wk.V {W w : World} {G : GH} {H : List Itm} {v0 : Value} {it0 : Itm} {x0 : (List Int)} {x1 : Int} {x2 : Int} (m : Mem W G w (it0 :: H)) (o0 : Ow (RI .i64) 2 G it0 v0 x0) {y : ((List Int))} (hd : D.V x0 x1 x2 = some y) :
  Calls Tryd.prog 102 #[v0, (.int .i64 x1), (.int .i64 x2)] w (Res W G H (fun G' Ho _ => ∃ i0 : Itm, Ho = [i0] ∧ Ow (RI .i64) 2 G' i0 v0 y)) := by
 refine calls_b (args := [v0, (.int .i64 x1), (.int .i64 x2)]) (N := 49) [] Tryd.func102 rfl rfl (Nat.le_of_ble_eq_true rfl) rfl fun a f => ?_
 unfold D.V at hd
 refine k_seq (k_region ?_)
 refine l_mv f rfl rfl fun a f => l_in f rfl rfl rfl b_add fun a f => l_as f rfl rfl fun a f => l_nil ?_
 obtain ⟨aa, ab, hd⟩ := bind_some hd
 refine k_cut (fun a w => ∃ ac : List Int, ac = aa ∧ ∃ (ad : GH) (ae : Itm), GLe G ad ∧ Fr a 49 [] ∧ Mem W ad w (ae :: H) ∧ Ow (RI .i64) 2 ad ae v0 ac) ?_ ?_
 ·refine k_block ?_
  refine k_loop (fun af a w => ∃ ag : List Int, ∃ ah : Int, (ag, ah) = af ∧ ∃ (ai : GH) (aj : Itm), GLe G ai ∧ Fr a 49 [(0, v0), (1, (.int .i64 x1)), (2, (.int .i64 x2)), (6, (.int .i64 ah))] ∧ Mem W ai w (aj :: H) ∧ Ow (RI .i64) 2 ai aj v0 ag) ab ⟨_, _, rfl, _, it0, (GLe.refl _), f.weak ⟨rfl, rfl, rfl, rfl, trivial⟩, m, o0⟩ ?_
  clear ab f m
  rintro af ak al am a w ⟨ag, ah, rfl, ai, aj, an, f, m, ao⟩
  refine k_seq (k_seq (k_region ?_))
  refine l_mv f rfl rfl fun a f => l_mv f rfl rfl fun a f => l_in f rfl rfl rfl b_lss fun a f => l_nil ?_
  rcases cond_some al with ⟨ap, al⟩ | ⟨ap, al⟩
  ·refine k_true f rfl ap ?_
   refine k_skip ?_
   refine k_seq (k_block (k_seq (k_region ?_)))
   refine l_mv f rfl rfl fun a f => l_as f rfl rfl fun a f => l_nil ?_
   obtain ⟨aq, ar, al⟩ := bind_some al
   refine k_cut (fun a w => ∃ au : List Int, au = aq ∧ ∃ (av : GH) (aw : Itm), GLe ai av ∧ Fr a 49 [(0, v0), (1, (.int .i64 x1)), (2, (.int .i64 x2)), (6, (.int .i64 ah))] ∧ Mem W av w (aw :: H) ∧ Ow (RI .i64) 2 av aw v0 au) ?_ ?_
   ·refine k_block ?_
    refine k_loop (fun ax a w => ∃ ay : List Int, ∃ az : Int, (ay, az) = ax ∧ ∃ (aA : GH) (aB : Itm), GLe ai aA ∧ Fr a 49 [(0, v0), (1, (.int .i64 x1)), (2, (.int .i64 x2)), (6, (.int .i64 ah)), (7, (.int .i64 az))] ∧ Mem W aA w (aB :: H) ∧ Ow (RI .i64) 2 aA aB v0 ay) ar ⟨_, _, rfl, _, aj, (GLe.refl _), f.weak ⟨rfl, rfl, rfl, rfl, rfl, trivial⟩, m, ao⟩ ?_
    clear ar f m
    rintro ax aC aD aE a w ⟨ay, az, rfl, aA, aB, aF, f, m, aG⟩
    refine k_seq (k_seq ?_)
    refine k_draw 15 Follows (by kernel_rfl) m ?_
    refine q_mv 0 15 rfl (by kernel_rfl) f rfl rfl rfl fun a f => q_mv 1 15 rfl (by kernel_rfl) f rfl rfl rfl fun a f => q_p 2 15 rfl (by kernel_rfl) f rfl rfl rfl (fun _ => r_int (f.eval rfl) (f.eval rfl) b_gtr) fun a f => q_mv 3 15 rfl (by kernel_rfl) f rfl rfl rfl fun a f => ?_
    obtain ⟨aH, aI, aD⟩ := bind_some aD
    refine q_cut (fuel' := 0) (listed' := #[true, true, true, true, true, true, true, true, true, true, true, true, true, true, true]) (fun a => Fr a 49 [(0, v0), (1, (.int .i64 x1)), (2, (.int .i64 x2)), (6, (.int .i64 ah)), (7, (.int .i64 az)), (16, (.int .i64 az)), (17, (.int .i64 x1)), (18, (.bool (decide (x1 < az)))), (19, (.bool (decide (x1 < az)))), (30, (.bool aH))]) ?_ ?_
    ·intro a f
     refine q_end fun aJ w aK m => ?_
     have aG := od1 aK aG
     refine l_nil ?_
     rcases cond_some aD with ⟨aL, aD⟩ | ⟨aL, aD⟩
     ·refine k_true f rfl aL ?_
      refine k_skip ?_
      refine k_seq (k_block ?_)
      refine k_draw0 Follows m ?_
      refine p_p 2 rfl (by kernel_rfl) f rfl rfl rfl (fun _ => r_move (f.eval rfl)) fun a f => p_p 3 rfl (by kernel_rfl) f rfl rfl rfl (fun _ => r_move (f.eval rfl)) fun a f => p_p 4 rfl (by kernel_rfl) f rfl rfl rfl (fun _ => r_int (f.eval rfl) (f.eval rfl) b_sub) fun a f => k_draw1 28015 12 (by kernel_rfl) rfl ?_
      refine q_mv 0 28015 rfl (by kernel_rfl) f rfl rfl rfl fun a f => q_mv 1 28015 rfl (by kernel_rfl) f rfl rfl rfl fun a f => q_mv 5 28015 rfl (by kernel_rfl) f rfl rfl rfl fun a f => q_mv 6 28015 rfl (by kernel_rfl) f rfl rfl rfl fun a f => q_p 7 28015 rfl (by kernel_rfl) f rfl rfl rfl (fun _ => r_int (f.eval rfl) (f.eval rfl) b_sub) fun a f => ?_
      obtain ⟨aM, aN, aD⟩ := bind_some aD
      refine q_own_at (i := 8) 28015 0 m aG rfl T32 aN rfl (by kernel_rfl) rfl f rfl rfl rfl rfl fun aO a aP f => q_own_load (i := 9) 28015 0 aG rfl Pl2 aP aN rfl (by kernel_rfl) rfl f rfl rfl rfl fun aQ a aR f => ?_
      subst aR
      refine q_mv 10 28015 rfl (by kernel_rfl) f rfl rfl rfl fun a f => q_mv 11 28015 rfl (by kernel_rfl) f rfl rfl rfl fun a f => ?_
      obtain ⟨aS, aT, aD⟩ := bind_some aD
      refine q_own_at (i := 12) 28015 0 m aG rfl T32 aT rfl (by kernel_rfl) rfl f rfl rfl rfl rfl fun aU a aV f => q_own_load (i := 13) 28015 0 aG rfl Pl2 aV aT rfl (by kernel_rfl) rfl f rfl rfl rfl fun aW a aX f => ?_
      subst aX
      obtain ⟨aY, aZ, aD⟩ := bind_some aD
      refine q_own_at (i := 14) 28015 0 m aG rfl T32 aZ rfl (by kernel_rfl) rfl f rfl rfl rfl rfl fun a0 a a1 f => q_end fun a2 w a3 m => ?_
      have aG := od1 a3 aG
      refine l_own_store 0 m aG rfl Tryd.sizeOf2 f rfl rfl a1 aZ rfl rfl rfl fun a4 w m a5 => ?_
      obtain ⟨a6, a7, aD⟩ := bind_some aD
      refine l_own_at 0 m a5 rfl T32 f rfl rfl rfl a7 fun a8 a a9 f => l_own_store 0 m a5 rfl Tryd.sizeOf2 f rfl rfl a9 a7 rfl rfl rfl fun ba w m bb => l_nil (k_region ?_)
      refine l_mv f rfl rfl fun a f => l_in f rfl rfl rfl b_sub fun a f => l_as f rfl rfl fun a f => l_nil ?_
      obtain rfl := sj aD
      exact ⟨_, rfl, _, _, rfl, _, ba, (GLe.trans aF (GLe.trans aK a3)), f.weak ⟨rfl, rfl, rfl, rfl, rfl, trivial⟩, m, bb⟩
     ·refine k_false f rfl aL ?_
      refine k_exit rfl ?_
      obtain rfl := sj aD
      obtain rfl := aE _ rfl
      exact ⟨_, rfl, _, aB, (GLe.trans aF aK), f.weak ⟨rfl, rfl, rfl, rfl, trivial⟩, m, aG⟩
    ·intro bc
     rcases cond_some aI with ⟨bd, aI⟩ | ⟨bd, aI⟩
     ·refine q_mv 4 15 rfl (by kernel_rfl) f (wanted_of f rfl rfl rfl bd) rfl rfl fun a f => ?_
      refine q_mv 5 15 rfl (by kernel_rfl) f (wanted_of f rfl rfl rfl bd) rfl rfl fun a f => ?_
      obtain ⟨be, bf, aI⟩ := bind_some aI
      refine q_own_at (i := 6) 15 0 m aG rfl T32 bf rfl (by kernel_rfl) rfl f (wanted_of f rfl rfl rfl bd) rfl rfl rfl fun bg a bh f => q_own_load (i := 7) 15 0 aG rfl Pl2 bh bf rfl (by kernel_rfl) rfl f (wanted_of f rfl rfl rfl bd) rfl rfl fun bi a bj f => ?_
      subst bj
      refine q_mv 8 15 rfl (by kernel_rfl) f (wanted_of f rfl rfl rfl bd) rfl rfl fun a f => q_mv 9 15 rfl (by kernel_rfl) f (wanted_of f rfl rfl rfl bd) rfl rfl fun a f => q_p 10 15 rfl (by kernel_rfl) f (wanted_of f rfl rfl rfl bd) rfl rfl (fun _ => r_int (f.eval rfl) (f.eval rfl) b_sub) fun a f => ?_
      obtain ⟨bk, bl, aI⟩ := bind_some aI
      refine q_own_at (i := 11) 15 0 m aG rfl T32 bl rfl (by kernel_rfl) rfl f (wanted_of f rfl rfl rfl bd) rfl rfl rfl fun bm a bn f => q_own_load (i := 12) 15 0 aG rfl Pl2 bn bl rfl (by kernel_rfl) rfl f (wanted_of f rfl rfl rfl bd) rfl rfl fun bo a bp f => ?_
      subst bp
      obtain ⟨bq, br, aI⟩ := bind_some aI
      refine q_call (i := 13) 15 rfl (by kernel_rfl) rfl f (wanted_of f rfl rfl rfl bd) rfl rfl Tryd.call108 (fun _ _ w bs m => Wk.a m  br) fun a f => q_p 14 15 rfl (by kernel_rfl) f rfl rfl rfl (fun _ => r_pickT (f.eval rfl) bd (f.eval rfl)) fun a f => ?_
      obtain rfl := sj aI
      exact bc _ (f.weak ⟨rfl, rfl, rfl, rfl, rfl, rfl, rfl, rfl, rfl, rfl, trivial⟩)
     ·refine q_ng 4 15 rfl (by kernel_rfl) f rfl rfl bd rfl fun a f => ?_
      refine q_ng 5 15 rfl (by kernel_rfl) f rfl rfl bd rfl fun a f => q_ng 6 15 rfl (by kernel_rfl) f rfl rfl bd rfl fun a f => q_ng 7 15 rfl (by kernel_rfl) f rfl rfl bd rfl fun a f => q_ng 8 15 rfl (by kernel_rfl) f rfl rfl bd rfl fun a f => q_ng 9 15 rfl (by kernel_rfl) f rfl rfl bd rfl fun a f => q_ng 10 15 rfl (by kernel_rfl) f rfl rfl bd rfl fun a f => q_ng 11 15 rfl (by kernel_rfl) f rfl rfl bd rfl fun a f => q_ng 12 15 rfl (by kernel_rfl) f rfl rfl bd rfl fun a f => q_ng 13 15 rfl (by kernel_rfl) f rfl rfl bd rfl fun a f => q_p 14 15 rfl (by kernel_rfl) f rfl rfl rfl (fun _ => r_pickF (f.eval rfl) bd (f.eval rfl)) fun a f => ?_
      obtain rfl := sj aI
      exact bc _ (f.weak ⟨rfl, rfl, rfl, rfl, rfl, rfl, rfl, rfl, rfl, rfl, trivial⟩)
   ·rintro a w ⟨au, rfl, av, aw, bt, f, m, bu⟩
    refine k_region ?_
    refine l_mv f rfl rfl fun a f => l_in f rfl rfl rfl b_add fun a f => l_as f rfl rfl fun a f => l_nil ?_
    obtain rfl := sj al
    exact ⟨_, rfl, _, _, rfl, _, aw, (GLe.trans an bt), f.weak ⟨rfl, rfl, rfl, rfl, trivial⟩, m, bu⟩
  ·refine k_false f rfl ap ?_
   refine k_exit rfl ?_
   obtain rfl := sj al
   obtain rfl := am _ rfl
   exact ⟨_, rfl, _, aj, an, f.weak trivial, m, ao⟩
 ·rintro a w ⟨ac, rfl, ad, ae, bv, f, m, bw⟩
  obtain rfl := sj hd
  exact ⟨[], trivial, f.defers, _, [ae], bv, m, _, rfl, bw⟩

theorem Wk.W {W w : World} {G : GH} {H : List Itm} {v0 : Value} {it0 : Itm} {x0 : (List Int)} {x1 : Int} {x2 : Int} {x3 : Int} (m : Mem W G w (it0 :: H)) (o0 : Ow (RI .i64) 2 G it0 v0 x0) {y : ((List Int))} (hd : D.W x0 x1 x2 x3 = some y) :
  Calls Tryd.prog 119 #[v0, (.int .i64 x1), (.int .i64 x2), (.int .i64 x3)] w (Res W G H (fun G' Ho _ => ∃ i0 : Itm, Ho = [i0] ∧ Ow (RI .i64) 2 G' i0 v0 y)) := by
 refine calls_b (args := [v0, (.int .i64 x1), (.int .i64 x2), (.int .i64 x3)]) (N := 76) [] Tryd.func119 rfl rfl (Nat.le_of_ble_eq_true rfl) rfl fun a f => ?_
 unfold D.W at hd
 refine k_seq (k_region ?_)
 refine l_mv f rfl rfl fun a f => l_as f rfl rfl fun a f => l_nil ?_
 obtain ⟨aa, ab, hd⟩ := bind_some hd
 refine k_cut (fun a w => ∃ q_182' : (List Int), aa = .inl q_182' ∧ ∃ ac : List Int, ac = q_182' ∧ ∃ (ad : GH) (ae : Itm), GLe G ad ∧ Fr a 76 [] ∧ Mem W ad w (ae :: H) ∧ Ow (RI .i64) 2 ad ae v0 ac) ?_ ?_
 ·refine k_block ?_
  refine k_loop (fun af a w => ∃ ag : List Int, ∃ ah : Int, (ag, ah) = af ∧ ∃ (ai : GH) (aj : Itm), GLe G ai ∧ Fr a 76 [(0, v0), (2, (.int .i64 x2)), (3, (.int .i64 x3)), (8, (.int .i64 ah))] ∧ Mem W ai w (aj :: H) ∧ Ow (RI .i64) 2 ai aj v0 ag) ab ⟨_, _, rfl, _, it0, (GLe.refl _), f.weak ⟨rfl, rfl, rfl, rfl, trivial⟩, m, o0⟩ ?_
  clear ab f m
  rintro af ak al am a w ⟨ag, ah, rfl, ai, aj, an, f, m, ao⟩
  refine k_block (k_seq (k_region ?_))
  refine l_mv f rfl rfl fun a f => l_in f rfl rfl rfl b_mul fun a f => l_in f rfl rfl rfl b_add fun a f => l_as f rfl rfl fun a f => l_nil (k_seq (k_seq (k_region ?_)))
  refine l_mv f rfl rfl fun a f => l_mv f rfl rfl fun a f => l_in f rfl rfl rfl b_geq fun a f => l_nil ?_
  rcases cond_some al with ⟨ap, al⟩ | ⟨ap, al⟩
  ·refine k_true f rfl ap ?_
   refine k_exit rfl ?_
   obtain rfl := sj al
   obtain rfl := am _ rfl
   exact ⟨_, rfl, _, rfl, _, aj, an, f.weak trivial, m, ao⟩
  ·refine k_false f rfl ap ?_
   refine k_skip ?_
   refine k_seq (k_seq ?_)
   refine k_draw 20 Follows (by kernel_rfl) m ?_
   refine q_mv 0 20 rfl (by kernel_rfl) f rfl rfl rfl fun a f => q_p 1 20 rfl (by kernel_rfl) f rfl rfl rfl (fun _ => r_int (f.eval rfl) (f.eval rfl) b_add) fun a f => q_mv 2 20 rfl (by kernel_rfl) f rfl rfl rfl fun a f => q_p 3 20 rfl (by kernel_rfl) f rfl rfl rfl (fun _ => r_int (f.eval rfl) (f.eval rfl) b_lss) fun a f => q_mv 4 20 rfl (by kernel_rfl) f rfl rfl rfl fun a f => ?_
   obtain ⟨aq, ar, al⟩ := bind_some al
   refine q_cut (fuel' := 0) (listed' := #[true, true, true, true, true, true, true, true, true, true, true, true, true, true, true, true, true, true, true, true]) (fun a => Fr a 76 [(0, v0), (2, (.int .i64 x2)), (3, (.int .i64 x3)), (8, (.int .i64 ah)), (9, (.int .i64 (IntKind.i64.wrap ((IntKind.i64.wrap (2 * ah)) + 1)))), (16, (.bool (decide (x2 ≤ (IntKind.i64.wrap ((IntKind.i64.wrap (2 * ah)) + 1)))))), (17, (.int .i64 (IntKind.i64.wrap ((IntKind.i64.wrap (2 * ah)) + 1)))), (18, (.int .i64 (IntKind.i64.wrap ((IntKind.i64.wrap ((IntKind.i64.wrap (2 * ah)) + 1)) + 1)))), (19, (.int .i64 x2)), (20, (.bool (decide ((IntKind.i64.wrap ((IntKind.i64.wrap ((IntKind.i64.wrap (2 * ah)) + 1)) + 1)) < x2)))), (21, (.bool (decide ((IntKind.i64.wrap ((IntKind.i64.wrap ((IntKind.i64.wrap (2 * ah)) + 1)) + 1)) < x2)))), (36, (.bool aq))]) ?_ ?_
   ·intro a f
    refine q_end fun au w av m => ?_
    have ao := od1 av ao
    refine l_nil ?_
    obtain ⟨aw, ax, al⟩ := bind_some al
    refine k_cut (fun a w => ∃ ay : Int, ay = aw ∧ ∃ (az : GH), GLe au az ∧ Fr a 76 [(0, v0), (2, (.int .i64 x2)), (3, (.int .i64 x3)), (8, (.int .i64 ah)), (9, (.int .i64 ay))] ∧ Mem W az w (aj :: H)) ?_ ?_
    ·rcases cond_some ax with ⟨aA, ax⟩ | ⟨aA, ax⟩
     ·refine k_true f rfl aA ?_
      refine k_region ?_
      refine l_mv f rfl rfl fun a f => l_in f rfl rfl rfl b_add fun a f => l_as f rfl rfl fun a f => l_nil ?_
      obtain rfl := sj ax
      exact ⟨_, rfl, _, (GLe.refl _), f.weak ⟨rfl, rfl, rfl, rfl, rfl, trivial⟩, m⟩
     ·refine k_false f rfl aA ?_
      refine k_skip ?_
      obtain rfl := sj ax
      exact ⟨_, rfl, _, (GLe.refl _), f.weak ⟨rfl, rfl, rfl, rfl, rfl, trivial⟩, m⟩
    ·rintro a w ⟨ay, rfl, az, aB, f, m⟩
     have ao := od1 aB ao
     refine k_seq (k_seq ?_)
     refine k_draw 14 Follows (by kernel_rfl) m ?_
     refine q_mv 0 14 rfl (by kernel_rfl) f rfl rfl rfl fun a f => q_mv 1 14 rfl (by kernel_rfl) f rfl rfl rfl fun a f => q_mv 2 14 rfl (by kernel_rfl) f rfl rfl rfl fun a f => q_p 3 14 rfl (by kernel_rfl) f rfl rfl rfl (fun _ => r_int (f.eval rfl) (f.eval rfl) b_add) fun a f => ?_
     obtain ⟨aC, aD, al⟩ := bind_some al
     refine q_own_at (i := 4) 14 0 m ao rfl T32 aD rfl (by kernel_rfl) rfl f rfl rfl rfl rfl fun aE a aF f => q_own_load (i := 5) 14 0 ao rfl Pl2 aF aD rfl (by kernel_rfl) rfl f rfl rfl rfl fun aG a aH f => ?_
     subst aH
     refine q_mv 6 14 rfl (by kernel_rfl) f rfl rfl rfl fun a f => q_mv 7 14 rfl (by kernel_rfl) f rfl rfl rfl fun a f => q_mv 8 14 rfl (by kernel_rfl) f rfl rfl rfl fun a f => q_p 9 14 rfl (by kernel_rfl) f rfl rfl rfl (fun _ => r_int (f.eval rfl) (f.eval rfl) b_add) fun a f => ?_
     obtain ⟨aI, aJ, al⟩ := bind_some al
     refine q_own_at (i := 10) 14 0 m ao rfl T32 aJ rfl (by kernel_rfl) rfl f rfl rfl rfl rfl fun aK a aL f => q_own_load (i := 11) 14 0 ao rfl Pl2 aL aJ rfl (by kernel_rfl) rfl f rfl rfl rfl fun aM a aN f => ?_
     subst aN
     obtain ⟨aO, aP, al⟩ := bind_some al
     refine q_call (i := 12) 14 rfl (by kernel_rfl) rfl f rfl rfl rfl Tryd.call108 (fun _ _ w aQ m => Wk.a m  aP) fun a f => q_p 13 14 rfl (by kernel_rfl) f rfl rfl rfl (fun _ => r_not (f.eval rfl)) fun a f => q_end fun aR w aS m => ?_
     have ao := od1 aS ao
     refine l_nil ?_
     rcases cond_some al with ⟨aT, al⟩ | ⟨aT, al⟩
     ·refine k_true f rfl aT ?_
      refine k_ret ?_
      obtain rfl := sj al
      obtain rfl := am _ rfl
      obtain rfl := sj hd
      exact ⟨[], trivial, f.defers, _, [aj], (GLe.trans an (GLe.trans av (GLe.trans aB aS))), m, _, rfl, ao⟩
     ·refine k_false f rfl aT ?_
      refine k_skip ?_
      refine k_seq ?_
      refine k_draw0 Follows m ?_
      refine p_p 4 rfl (by kernel_rfl) f rfl rfl rfl (fun _ => r_move (f.eval rfl)) fun a f => p_p 5 rfl (by kernel_rfl) f rfl rfl rfl (fun _ => r_move (f.eval rfl)) fun a f => p_p 6 rfl (by kernel_rfl) f rfl rfl rfl (fun _ => r_move (f.eval rfl)) fun a f => p_p 7 rfl (by kernel_rfl) f rfl rfl rfl (fun _ => r_int (f.eval rfl) (f.eval rfl) b_add) fun a f => k_draw1 240021 17 (by kernel_rfl) rfl ?_
      refine q_mv 0 240021 rfl (by kernel_rfl) f rfl rfl rfl fun a f => q_mv 1 240021 rfl (by kernel_rfl) f rfl rfl rfl fun a f => q_mv 2 240021 rfl (by kernel_rfl) f rfl rfl rfl fun a f => q_p 3 240021 rfl (by kernel_rfl) f rfl rfl rfl (fun _ => r_int (f.eval rfl) (f.eval rfl) b_add) fun a f => q_mv 8 240021 rfl (by kernel_rfl) f rfl rfl rfl fun a f => q_mv 9 240021 rfl (by kernel_rfl) f rfl rfl rfl fun a f => q_mv 10 240021 rfl (by kernel_rfl) f rfl rfl rfl fun a f => q_p 11 240021 rfl (by kernel_rfl) f rfl rfl rfl (fun _ => r_int (f.eval rfl) (f.eval rfl) b_add) fun a f => ?_
      obtain ⟨aU, aV, al⟩ := bind_some al
      refine q_own_at (i := 12) 240021 0 m ao rfl T32 aV rfl (by kernel_rfl) rfl f rfl rfl rfl rfl fun aW a aX f => q_own_load (i := 13) 240021 0 ao rfl Pl2 aX aV rfl (by kernel_rfl) rfl f rfl rfl rfl fun aY a aZ f => ?_
      subst aZ
      refine q_mv 14 240021 rfl (by kernel_rfl) f rfl rfl rfl fun a f => q_mv 15 240021 rfl (by kernel_rfl) f rfl rfl rfl fun a f => q_mv 16 240021 rfl (by kernel_rfl) f rfl rfl rfl fun a f => q_p 17 240021 rfl (by kernel_rfl) f rfl rfl rfl (fun _ => r_int (f.eval rfl) (f.eval rfl) b_add) fun a f => ?_
      obtain ⟨a0, a1, al⟩ := bind_some al
      refine q_own_at (i := 18) 240021 0 m ao rfl T32 a1 rfl (by kernel_rfl) rfl f rfl rfl rfl rfl fun a2 a a3 f => q_own_load (i := 19) 240021 0 ao rfl Pl2 a3 a1 rfl (by kernel_rfl) rfl f rfl rfl rfl fun a4 a a5 f => ?_
      subst a5
      obtain ⟨a6, a7, al⟩ := bind_some al
      refine q_own_at (i := 20) 240021 0 m ao rfl T32 a7 rfl (by kernel_rfl) rfl f rfl rfl rfl rfl fun a8 a a9 f => q_end fun ba w bb m => ?_
      have ao := od1 bb ao
      refine l_own_store 0 m ao rfl Tryd.sizeOf2 f rfl rfl a9 a7 rfl rfl rfl fun bc w m bd => ?_
      obtain ⟨be, bf, al⟩ := bind_some al
      refine l_own_at 0 m bd rfl T32 f rfl rfl rfl bf fun bg a bh f => l_own_store 0 m bd rfl Tryd.sizeOf2 f rfl rfl bh bf rfl rfl rfl fun bi w m bj => l_nil (k_region ?_)
      refine l_mv f rfl rfl fun a f => l_as f rfl rfl fun a f => l_nil ?_
      obtain rfl := sj al
      exact ⟨_, rfl, _, _, rfl, _, bi, (GLe.trans an (GLe.trans av (GLe.trans aB (GLe.trans aS bb)))), f.weak ⟨rfl, rfl, rfl, rfl, trivial⟩, m, bj⟩
   ·intro bk
    rcases cond_some ar with ⟨bl, ar⟩ | ⟨bl, ar⟩
    ·refine q_mv 5 20 rfl (by kernel_rfl) f (wanted_of f rfl rfl rfl bl) rfl rfl fun a f => ?_
     refine q_mv 6 20 rfl (by kernel_rfl) f (wanted_of f rfl rfl rfl bl) rfl rfl fun a f => q_mv 7 20 rfl (by kernel_rfl) f (wanted_of f rfl rfl rfl bl) rfl rfl fun a f => q_p 8 20 rfl (by kernel_rfl) f (wanted_of f rfl rfl rfl bl) rfl rfl (fun _ => r_int (f.eval rfl) (f.eval rfl) b_add) fun a f => ?_
     obtain ⟨bm, bn, ar⟩ := bind_some ar
     refine q_own_at (i := 9) 20 0 m ao rfl T32 bn rfl (by kernel_rfl) rfl f (wanted_of f rfl rfl rfl bl) rfl rfl rfl fun bo a bp f => q_own_load (i := 10) 20 0 ao rfl Pl2 bp bn rfl (by kernel_rfl) rfl f (wanted_of f rfl rfl rfl bl) rfl rfl fun bq a br f => ?_
     subst br
     refine q_mv 11 20 rfl (by kernel_rfl) f (wanted_of f rfl rfl rfl bl) rfl rfl fun a f => q_mv 12 20 rfl (by kernel_rfl) f (wanted_of f rfl rfl rfl bl) rfl rfl fun a f => q_mv 13 20 rfl (by kernel_rfl) f (wanted_of f rfl rfl rfl bl) rfl rfl fun a f => q_p 14 20 rfl (by kernel_rfl) f (wanted_of f rfl rfl rfl bl) rfl rfl (fun _ => r_int (f.eval rfl) (f.eval rfl) b_add) fun a f => q_p 15 20 rfl (by kernel_rfl) f (wanted_of f rfl rfl rfl bl) rfl rfl (fun _ => r_int (f.eval rfl) (f.eval rfl) b_add) fun a f => ?_
     obtain ⟨bs, bt, ar⟩ := bind_some ar
     refine q_own_at (i := 16) 20 0 m ao rfl T32 bt rfl (by kernel_rfl) rfl f (wanted_of f rfl rfl rfl bl) rfl rfl rfl fun bu a bv f => q_own_load (i := 17) 20 0 ao rfl Pl2 bv bt rfl (by kernel_rfl) rfl f (wanted_of f rfl rfl rfl bl) rfl rfl fun bw a bx f => ?_
     subst bx
     obtain ⟨bz, bA, ar⟩ := bind_some ar
     refine q_call (i := 18) 20 rfl (by kernel_rfl) rfl f (wanted_of f rfl rfl rfl bl) rfl rfl Tryd.call108 (fun _ _ w bB m => Wk.a m  bA) fun a f => q_p 19 20 rfl (by kernel_rfl) f rfl rfl rfl (fun _ => r_pickT (f.eval rfl) bl (f.eval rfl)) fun a f => ?_
     obtain rfl := sj ar
     exact bk _ (f.weak ⟨rfl, rfl, rfl, rfl, rfl, rfl, rfl, rfl, rfl, rfl, rfl, rfl, trivial⟩)
    ·refine q_ng 5 20 rfl (by kernel_rfl) f rfl rfl bl rfl fun a f => ?_
     refine q_ng 6 20 rfl (by kernel_rfl) f rfl rfl bl rfl fun a f => q_ng 7 20 rfl (by kernel_rfl) f rfl rfl bl rfl fun a f => q_ng 8 20 rfl (by kernel_rfl) f rfl rfl bl rfl fun a f => q_ng 9 20 rfl (by kernel_rfl) f rfl rfl bl rfl fun a f => q_ng 10 20 rfl (by kernel_rfl) f rfl rfl bl rfl fun a f => q_ng 11 20 rfl (by kernel_rfl) f rfl rfl bl rfl fun a f => q_ng 12 20 rfl (by kernel_rfl) f rfl rfl bl rfl fun a f => q_ng 13 20 rfl (by kernel_rfl) f rfl rfl bl rfl fun a f => q_ng 14 20 rfl (by kernel_rfl) f rfl rfl bl rfl fun a f => q_ng 15 20 rfl (by kernel_rfl) f rfl rfl bl rfl fun a f => q_ng 16 20 rfl (by kernel_rfl) f rfl rfl bl rfl fun a f => q_ng 17 20 rfl (by kernel_rfl) f rfl rfl bl rfl fun a f => q_ng 18 20 rfl (by kernel_rfl) f rfl rfl bl rfl fun a f => q_p 19 20 rfl (by kernel_rfl) f rfl rfl rfl (fun _ => r_pickF (f.eval rfl) bl (f.eval rfl)) fun a f => ?_
     obtain rfl := sj ar
     exact bk _ (f.weak ⟨rfl, rfl, rfl, rfl, rfl, rfl, rfl, rfl, rfl, rfl, rfl, rfl, trivial⟩)
 ·rintro a w ⟨_, rfl, ac, rfl, ad, ae, bC, f, m, bD⟩
  obtain rfl := sj hd
  exact ⟨[], trivial, f.defers, _, [ae], bC, m, _, rfl, bD⟩

theorem Wk.G0 {W w : World} {G : GH} {H : List Itm} {v0 : Value} {it0 : Itm} {x0 : (List Int)} {x1 : Int} {x2 : Int} (m : Mem W G w (it0 :: H)) (o0 : Ow (RI .i64) 2 G it0 v0 x0) {y : ((List Int))} (hd : D.G0 x0 x1 x2 = some y) :
  Calls Tryd.prog 103 #[v0, (.int .i64 x1), (.int .i64 x2)] w (Res W G H (fun G' Ho _ => ∃ i0 : Itm, Ho = [i0] ∧ Ow (RI .i64) 2 G' i0 v0 y)) := by
 refine calls_b (args := [v0, (.int .i64 x1), (.int .i64 x2)]) (N := 56) [] Tryd.func103 rfl rfl (Nat.le_of_ble_eq_true rfl) rfl fun a f => ?_
 unfold D.G0 at hd
 refine k_seq (k_region ?_)
 refine l_mv f rfl rfl fun a f => l_as f rfl rfl fun a f => l_nil (k_seq (k_region ?_))
 refine l_as f rfl rfl fun a f => l_nil (k_seq (k_region ?_))
 refine l_mv f rfl rfl fun a f => l_mv f rfl rfl fun a f => l_in f rfl rfl rfl b_sub fun a f => l_as f rfl rfl fun a f => l_nil (k_seq (k_seq (k_region ?_)))
 refine l_mv f rfl rfl fun a f => l_in f rfl rfl rfl b_sub fun a f => l_in f rfl rfl rfl (b_quo rfl) fun a f => l_as f rfl rfl fun a f => l_nil ?_
 obtain ⟨aa, ab, hd⟩ := bind_some hd
 refine k_cut (fun a w => ∃ ac : List Int, ac = aa ∧ ∃ (ad : GH) (ae : Itm), GLe G ad ∧ Fr a 56 [(0, v0), (6, (.int .i64 x1)), (7, (.int .i64 0)), (8, (.int .i64 (IntKind.i64.wrap (x2 - x1))))] ∧ Mem W ad w (ae :: H) ∧ Ow (RI .i64) 2 ad ae v0 ac) ?_ ?_
 ·refine k_block ?_
  refine k_loop (fun af a w => ∃ ag : List Int, ∃ ah : Int, (ag, ah) = af ∧ ∃ (ai : GH) (aj : Itm), GLe G ai ∧ Fr a 56 [(0, v0), (6, (.int .i64 x1)), (7, (.int .i64 0)), (8, (.int .i64 (IntKind.i64.wrap (x2 - x1)))), (9, (.int .i64 ah))] ∧ Mem W ai w (aj :: H) ∧ Ow (RI .i64) 2 ai aj v0 ag) ab ⟨_, _, rfl, _, it0, (GLe.refl _), f.weak ⟨rfl, rfl, rfl, rfl, rfl, trivial⟩, m, o0⟩ ?_
  clear ab f m
  rintro af ak al am a w ⟨ag, ah, rfl, ai, aj, an, f, m, ao⟩
  refine k_seq (k_seq (k_region ?_))
  refine l_mv f rfl rfl fun a f => l_in f rfl rfl rfl b_geq fun a f => l_nil ?_
  rcases cond_some al with ⟨ap, al⟩ | ⟨ap, al⟩
  ·refine k_true f rfl ap ?_
   refine k_skip ?_
   refine k_seq (k_block (k_region ?_))
   refine l_mv f rfl rfl fun a f => l_mv f rfl rfl fun a f => l_mv f rfl rfl fun a f => l_mv f rfl rfl fun a f => ?_
   obtain ⟨aq, ar, al⟩ := bind_some al
   refine l_res f rfl rfl Tryd.call119 (Wk.W m ao ar) fun au av aw w ax m ay a f => ?_
   obtain ⟨az, rfl, aA⟩ := ay
   refine l_nil (k_region ?_)
   refine l_mv f rfl rfl fun a f => l_in f rfl rfl rfl b_sub fun a f => l_as f rfl rfl fun a f => l_nil ?_
   obtain rfl := sj al
   exact ⟨_, rfl, _, _, rfl, _, az, (GLe.trans an ax), f.weak ⟨rfl, rfl, rfl, rfl, rfl, trivial⟩, m, aA⟩
  ·refine k_false f rfl ap ?_
   refine k_exit rfl ?_
   obtain rfl := sj al
   obtain rfl := am _ rfl
   exact ⟨_, rfl, _, aj, an, f.weak ⟨rfl, rfl, rfl, rfl, trivial⟩, m, ao⟩
 ·rintro a w ⟨ac, rfl, ad, ae, aB, f, m, aC⟩
  refine k_seq (k_region ?_)
  refine l_mv f rfl rfl fun a f => l_in f rfl rfl rfl b_sub fun a f => l_as f rfl rfl fun a f => l_nil ?_
  obtain ⟨aD, aE, hd⟩ := bind_some hd
  refine k_cut (fun a w => ∃ aF : List Int, aF = aD ∧ ∃ (aG : GH) (aH : Itm), GLe ad aG ∧ Fr a 56 [] ∧ Mem W aG w (aH :: H) ∧ Ow (RI .i64) 2 aG aH v0 aF) ?_ ?_
  ·refine k_block ?_
   refine k_loop (fun aI a w => ∃ aJ : List Int, ∃ aK : Int, (aJ, aK) = aI ∧ ∃ (aL : GH) (aM : Itm), GLe ad aL ∧ Fr a 56 [(0, v0), (6, (.int .i64 x1)), (7, (.int .i64 0)), (10, (.int .i64 aK))] ∧ Mem W aL w (aM :: H) ∧ Ow (RI .i64) 2 aL aM v0 aJ) aE ⟨_, _, rfl, _, ae, (GLe.refl _), f.weak ⟨rfl, rfl, rfl, rfl, trivial⟩, m, aC⟩ ?_
   clear aE f m
   rintro aI aN aO aP a w ⟨aJ, aK, rfl, aL, aM, aQ, f, m, aR⟩
   refine k_seq (k_seq (k_region ?_))
   refine l_mv f rfl rfl fun a f => l_in f rfl rfl rfl b_geq fun a f => l_nil ?_
   rcases cond_some aO with ⟨aS, aO⟩ | ⟨aS, aO⟩
   ·refine k_true f rfl aS ?_
    refine k_skip ?_
    refine k_seq (k_block (k_seq ?_))
    refine k_draw0 Follows m ?_
    refine p_p 2 rfl (by kernel_rfl) f rfl rfl rfl (fun _ => r_move (f.eval rfl)) fun a f => p_p 3 rfl (by kernel_rfl) f rfl rfl rfl (fun _ => r_move (f.eval rfl)) fun a f => p_p 4 rfl (by kernel_rfl) f rfl rfl rfl (fun _ => r_move (f.eval rfl)) fun a f => p_p 5 rfl (by kernel_rfl) f rfl rfl rfl (fun _ => r_int (f.eval rfl) (f.eval rfl) b_add) fun a f => k_draw1 60017 13 (by kernel_rfl) rfl ?_
    refine q_mv 0 60017 rfl (by kernel_rfl) f rfl rfl rfl fun a f => q_mv 1 60017 rfl (by kernel_rfl) f rfl rfl rfl fun a f => q_mv 6 60017 rfl (by kernel_rfl) f rfl rfl rfl fun a f => q_mv 7 60017 rfl (by kernel_rfl) f rfl rfl rfl fun a f => q_mv 8 60017 rfl (by kernel_rfl) f rfl rfl rfl fun a f => q_p 9 60017 rfl (by kernel_rfl) f rfl rfl rfl (fun _ => r_int (f.eval rfl) (f.eval rfl) b_add) fun a f => ?_
    obtain ⟨aT, aU, aO⟩ := bind_some aO
    refine q_own_at (i := 10) 60017 0 m aR rfl T32 aU rfl (by kernel_rfl) rfl f rfl rfl rfl rfl fun aV a aW f => q_own_load (i := 11) 60017 0 aR rfl Pl2 aW aU rfl (by kernel_rfl) rfl f rfl rfl rfl fun aX a aY f => ?_
    subst aY
    refine q_mv 12 60017 rfl (by kernel_rfl) f rfl rfl rfl fun a f => q_mv 13 60017 rfl (by kernel_rfl) f rfl rfl rfl fun a f => ?_
    obtain ⟨aZ, a0, aO⟩ := bind_some aO
    refine q_own_at (i := 14) 60017 0 m aR rfl T32 a0 rfl (by kernel_rfl) rfl f rfl rfl rfl rfl fun a1 a a2 f => q_own_load (i := 15) 60017 0 aR rfl Pl2 a2 a0 rfl (by kernel_rfl) rfl f rfl rfl rfl fun a3 a a4 f => ?_
    subst a4
    obtain ⟨a5, a6, aO⟩ := bind_some aO
    refine q_own_at (i := 16) 60017 0 m aR rfl T32 a6 rfl (by kernel_rfl) rfl f rfl rfl rfl rfl fun a7 a a8 f => q_end fun a9 w ba m => ?_
    have aR := od1 ba aR
    refine l_own_store 0 m aR rfl Tryd.sizeOf2 f rfl rfl a8 a6 rfl rfl rfl fun bb w m bc => ?_
    obtain ⟨bd, be, aO⟩ := bind_some aO
    refine l_own_at 0 m bc rfl T32 f rfl rfl rfl be fun bf a bg f => l_own_store 0 m bc rfl Tryd.sizeOf2 f rfl rfl bg be rfl rfl rfl fun bh w m bi => l_nil (k_region ?_)
    refine l_mv f rfl rfl fun a f => l_mv f rfl rfl fun a f => l_mv f rfl rfl fun a f => l_mv f rfl rfl fun a f => ?_
    obtain ⟨bj, bk, aO⟩ := bind_some aO
    refine l_res f rfl rfl Tryd.call119 (Wk.W m bi bk) fun bl bm bn w bo m bp a f => ?_
    obtain ⟨bq, rfl, br⟩ := bp
    refine l_nil (k_region ?_)
    refine l_mv f rfl rfl fun a f => l_in f rfl rfl rfl b_sub fun a f => l_as f rfl rfl fun a f => l_nil ?_
    obtain rfl := sj aO
    exact ⟨_, rfl, _, _, rfl, _, bq, (GLe.trans aQ (GLe.trans ba bo)), f.weak ⟨rfl, rfl, rfl, rfl, trivial⟩, m, br⟩
   ·refine k_false f rfl aS ?_
    refine k_exit rfl ?_
    obtain rfl := sj aO
    obtain rfl := aP _ rfl
    exact ⟨_, rfl, _, aM, aQ, f.weak trivial, m, aR⟩
  ·rintro a w ⟨aF, rfl, aG, aH, bs, f, m, bt⟩
   obtain rfl := sj hd
   exact ⟨[], trivial, f.defers, _, [aH], (GLe.trans aB bs), m, _, rfl, bt⟩

theorem Wk.U {W w : World} {G : GH} {H : List Itm} {x0 : Int} (m : Mem W G w (H))  {y : Int} (hd : D.U x0 = some y) :
  Calls Tryd.prog 120 #[(.int .i64 x0)] w (Res W G H (fun _ Ho v => Ho = [] ∧ v = (.int .u64 y))) := by
 refine calls_b (args := [(.int .i64 x0)]) (N := 7) [.tmp 2] Tryd.func120 rfl rfl (Nat.le_of_ble_eq_true rfl) rfl fun a f => ?_
 unfold D.U at hd
 refine k_seq (k_region ?_)
 refine l_as f rfl rfl fun a f => l_nil (k_seq (k_region ?_))
 refine l_mv f rfl rfl fun a f => l_op f rfl rfl rfl (r_conv (f.eval rfl) ⟨_, Tryd.underlying3⟩ Tryd.underlying84) fun a f => ?_
 obtain ⟨aa, ab, hd⟩ := bind_some hd
 refine l_res f rfl rfl Tryd.call91 (Wk.G m  ab) fun ac ad ae w af m ag a f => ?_
 obtain ⟨rfl, rfl⟩ := ag
 obtain ⟨ah, hd⟩ := cond_none hd
 refine l_op f rfl rfl rfl (r_shl (f.eval rfl) (f.eval rfl) ah) fun a f => l_as f rfl rfl fun a f => l_nil ?_
 refine k_ret ?_
 obtain rfl := sj hd
 exact ⟨[(.int .u64 (ishl .u64 1 aa))], ⟨f.get _ _ rfl, trivial⟩, f.defers, _, [], af, m, rfl, rfl⟩

theorem Wk.E0 {W w : World} {G : GH} {H : List Itm} {b0 : Nat} {x0_0 : Int} (m : Mem W G w (Itm.box b0 139 [(.int .u64 x0_0)] :: H))  {y : Int × Int} (hd : D.E0 x0_0 = some y) :
  Calls Tryd.prog 121 #[(.pointer (some ⟨b0, 0, none⟩))] w (Res W G H (fun _ Ho v => Ho = [Itm.box b0 139 [(.int .u64 y.2)]] ∧ v = (.int .u64 y.1))) := by
 refine calls_b (args := [(.pointer (some ⟨b0, 0, none⟩))]) (N := 33) [.tmp 2] Tryd.func121 rfl rfl (Nat.le_of_ble_eq_true rfl) rfl fun a f => ?_
 unfold D.E0 at hd
 refine k_seq (k_region ?_)
 refine l_as f rfl rfl fun a f => l_nil (k_seq ?_)
 refine k_draw 9 Follows (by kernel_rfl) m ?_
 refine q_mv 0 9 rfl (by kernel_rfl) f rfl rfl rfl fun a f => q_p 1 9 rfl (by kernel_rfl) f rfl rfl rfl (fun _ => r_nilCheck (f.eval rfl)) fun a f => q_boxCell (i := 2) 9 0 Pl139 rfl rfl rfl (by kernel_rfl) rfl f rfl rfl rfl fun a f => q_mv 3 9 rfl (by kernel_rfl) f rfl rfl rfl fun a f => q_p 4 9 rfl (by kernel_rfl) f rfl rfl rfl (fun _ => r_nilCheck (f.eval rfl)) fun a f => q_boxCell (i := 5) 9 0 Pl139 rfl rfl rfl (by kernel_rfl) rfl f rfl rfl rfl fun a f => q_p 6 9 rfl (by kernel_rfl) f rfl rfl rfl (fun _ => r_shl (f.eval rfl) (f.eval rfl) (by decide)) fun a f => q_p 7 9 rfl (by kernel_rfl) f rfl rfl rfl (fun _ => r_int (f.eval rfl) (f.eval rfl) b_xor) fun a f => q_p 8 9 rfl (by kernel_rfl) f rfl rfl rfl (fun _ => r_nilCheck (f.eval rfl)) fun a f => q_end fun aa w ab m => l_boxStore 0 0 (ds := [(.int .u64 (ixor .u64 x0_0 (ishl .u64 x0_0 13)))]) m Tryd.sizeOf139 f rfl rfl rfl (ones_cons rfl ones_nil) rfl (Nat.le_of_ble_eq_true rfl) rfl fun w m => ?_
 refine l_nil (k_seq ?_)
 refine k_draw 9 Follows (by kernel_rfl) m ?_
 refine q_mv 0 9 rfl (by kernel_rfl) f rfl rfl rfl fun a f => q_p 1 9 rfl (by kernel_rfl) f rfl rfl rfl (fun _ => r_nilCheck (f.eval rfl)) fun a f => q_boxCell (i := 2) 9 0 Pl139 rfl rfl rfl (by kernel_rfl) rfl f rfl rfl rfl fun a f => q_mv 3 9 rfl (by kernel_rfl) f rfl rfl rfl fun a f => q_p 4 9 rfl (by kernel_rfl) f rfl rfl rfl (fun _ => r_nilCheck (f.eval rfl)) fun a f => q_boxCell (i := 5) 9 0 Pl139 rfl rfl rfl (by kernel_rfl) rfl f rfl rfl rfl fun a f => q_p 6 9 rfl (by kernel_rfl) f rfl rfl rfl (fun _ => r_shr (f.eval rfl) (f.eval rfl) (by decide)) fun a f => q_p 7 9 rfl (by kernel_rfl) f rfl rfl rfl (fun _ => r_int (f.eval rfl) (f.eval rfl) b_xor) fun a f => q_p 8 9 rfl (by kernel_rfl) f rfl rfl rfl (fun _ => r_nilCheck (f.eval rfl)) fun a f => q_end fun ac w ad m => l_boxStore 0 0 (ds := [(.int .u64 (ixor .u64 (ixor .u64 x0_0 (ishl .u64 x0_0 13)) (ishr .u64 (ixor .u64 x0_0 (ishl .u64 x0_0 13)) 7)))]) m Tryd.sizeOf139 f rfl rfl rfl (ones_cons rfl ones_nil) rfl (Nat.le_of_ble_eq_true rfl) rfl fun w m => ?_
 refine l_nil (k_seq ?_)
 refine k_draw 9 Follows (by kernel_rfl) m ?_
 refine q_mv 0 9 rfl (by kernel_rfl) f rfl rfl rfl fun a f => q_p 1 9 rfl (by kernel_rfl) f rfl rfl rfl (fun _ => r_nilCheck (f.eval rfl)) fun a f => q_boxCell (i := 2) 9 0 Pl139 rfl rfl rfl (by kernel_rfl) rfl f rfl rfl rfl fun a f => q_mv 3 9 rfl (by kernel_rfl) f rfl rfl rfl fun a f => q_p 4 9 rfl (by kernel_rfl) f rfl rfl rfl (fun _ => r_nilCheck (f.eval rfl)) fun a f => q_boxCell (i := 5) 9 0 Pl139 rfl rfl rfl (by kernel_rfl) rfl f rfl rfl rfl fun a f => q_p 6 9 rfl (by kernel_rfl) f rfl rfl rfl (fun _ => r_shl (f.eval rfl) (f.eval rfl) (by decide)) fun a f => q_p 7 9 rfl (by kernel_rfl) f rfl rfl rfl (fun _ => r_int (f.eval rfl) (f.eval rfl) b_xor) fun a f => q_p 8 9 rfl (by kernel_rfl) f rfl rfl rfl (fun _ => r_nilCheck (f.eval rfl)) fun a f => q_end fun ae w af m => l_boxStore 0 0 (ds := [(.int .u64 (ixor .u64 (ixor .u64 (ixor .u64 x0_0 (ishl .u64 x0_0 13)) (ishr .u64 (ixor .u64 x0_0 (ishl .u64 x0_0 13)) 7)) (ishl .u64 (ixor .u64 (ixor .u64 x0_0 (ishl .u64 x0_0 13)) (ishr .u64 (ixor .u64 x0_0 (ishl .u64 x0_0 13)) 7)) 17)))]) m Tryd.sizeOf139 f rfl rfl rfl (ones_cons rfl ones_nil) rfl (Nat.le_of_ble_eq_true rfl) rfl fun w m => ?_
 refine l_nil (k_seq (k_region ?_))
 refine l_mv f rfl rfl fun a f => l_op f rfl rfl rfl (r_nilCheck (f.eval rfl)) fun a f => l_boxCell 0 0 m Pl139 f rfl rfl rfl rfl fun a f => l_as f rfl rfl fun a f => l_nil ?_
 refine k_ret ?_
 obtain rfl := sj hd
 exact ⟨[(.int .u64 (ixor .u64 (ixor .u64 (ixor .u64 x0_0 (ishl .u64 x0_0 13)) (ishr .u64 (ixor .u64 x0_0 (ishl .u64 x0_0 13)) 7)) (ishl .u64 (ixor .u64 (ixor .u64 x0_0 (ishl .u64 x0_0 13)) (ishr .u64 (ixor .u64 x0_0 (ishl .u64 x0_0 13)) 7)) 17)))], ⟨f.get _ _ rfl, trivial⟩, f.defers, _, [Itm.box b0 139 [(.int .u64 (ixor .u64 (ixor .u64 (ixor .u64 x0_0 (ishl .u64 x0_0 13)) (ishr .u64 (ixor .u64 x0_0 (ishl .u64 x0_0 13)) 7)) (ishl .u64 (ixor .u64 (ixor .u64 x0_0 (ishl .u64 x0_0 13)) (ishr .u64 (ixor .u64 x0_0 (ishl .u64 x0_0 13)) 7)) 17)))]], (GLe.trans ab (GLe.trans ad af)), m, rfl, rfl⟩

theorem Wk.h0 {W w : World} {G : GH} {H : List Itm} {v0 : Value} {it0 : Itm} {x0 : (List Int)} {x1 : Int} {x2 : Int} (m : Mem W G w (it0 :: H)) (o0 : Ow (RI .i64) 2 G it0 v0 x0) {y : ((List Int))} (hd : D.h0 x0 x1 x2 = some y) :
  Calls Tryd.prog 104 #[v0, (.int .i64 x1), (.int .i64 x2)] w (Res W G H (fun G' Ho _ => ∃ i0 : Itm, Ho = [i0] ∧ Ow (RI .i64) 2 G' i0 v0 y)) := by
 refine calls_b (args := [v0, (.int .i64 x1), (.int .i64 x2)]) (N := 65) [] Tryd.func104 rfl rfl (Nat.le_of_ble_eq_true rfl) rfl fun a f => ?_
 unfold D.h0 at hd
 refine k_seq (k_region ?_)
 refine l_mv f rfl rfl fun a f => l_mv f rfl rfl fun a f => l_in f rfl rfl rfl b_sub fun a f => l_as f rfl rfl fun a f => l_nil (k_seq (k_region ?_))
 refine l_mv f rfl rfl fun a f => l_in f rfl rfl rfl b_geq fun a f => l_nil ?_
 rcases cond_some hd with ⟨aa, hd⟩ | ⟨aa, hd⟩
 ·refine k_true f rfl aa ?_
  refine k_seq (k_region ?_)
  refine l_mv f rfl rfl fun a f => l_op f rfl rfl rfl (r_conv (f.eval rfl) ⟨_, Tryd.underlying3⟩ Tryd.underlying139) fun a f => l_alloc (cs := [(.int .u64 0)]) Tryd.zeroValue139 m f rfl rfl fun ab w a m f => l_boxStore 0 0 (ds := [(.int .u64 (IntKind.u64.wrap (IntKind.i64.wrap (x2 - x1))))]) m Tryd.sizeOf139 f rfl rfl rfl (ones_cons rfl ones_nil) rfl (Nat.le_of_ble_eq_true rfl) rfl fun w m => l_nil (k_seq (k_region ?_))
  refine l_mv f rfl rfl fun a f => ?_
  obtain ⟨ac, ad, hd⟩ := bind_some hd
  refine l_res f rfl rfl Tryd.call120 (Wk.U m  ad) fun ae af ag w ah m ai a f => ?_
  obtain ⟨rfl, rfl⟩ := ai
  have o0 := od1 ah o0
  refine l_as f rfl rfl fun a f => l_nil (k_seq (k_region ?_))
  refine l_mv f rfl rfl fun a f => l_mv f rfl rfl fun a f => l_in f rfl rfl rfl (b_quo rfl) fun a f => l_in f rfl rfl rfl b_mul fun a f => l_in f rfl rfl rfl b_add fun a f => l_in f rfl rfl rfl b_sub fun a f => l_as f rfl rfl fun a f => l_nil ?_
  obtain ⟨aj, ak, hd⟩ := bind_some hd
  refine k_cut (fun a w => ∃ al : List Int, al = aj ∧ ∃ (am : GH) (an : Itm), GLe af am ∧ Fr a 65 [] ∧ Mem W am w (an :: H) ∧ Ow (RI .i64) 2 am an v0 al) ?_ ?_
  ·refine k_block ?_
   refine k_loop (fun ao a w => ∃ ap : List Int, ∃ aq : Int, ∃ ar : Int, (ap, aq, ar) = ao ∧ ∃ (au : GH) (av : Itm), GLe af au ∧ Fr a 65 [(0, v0), (1, (.int .i64 x1)), (6, (.int .i64 (IntKind.i64.wrap (x2 - x1)))), (7, (.pointer (some ⟨ab, 0, none⟩))), (8, (.int .u64 ac)), (9, (.int .i64 aq))] ∧ Mem W au w (Itm.box ab 139 [(.int .u64 ar)] :: av :: H) ∧ Ow (RI .i64) 2 au av v0 ap) ak ⟨_, _, _, rfl, _, it0, (GLe.refl _), f.weak ⟨rfl, rfl, rfl, rfl, rfl, rfl, trivial⟩, m, o0⟩ ?_
   clear ak f m
   rintro ao aw ax ay a w ⟨ap, aq, ar, rfl, au, av, az, f, m, aA⟩
   refine k_seq (k_seq (k_region ?_))
   refine l_mv f rfl rfl fun a f => l_mv f rfl rfl fun a f => l_mv f rfl rfl fun a f => l_in f rfl rfl rfl (b_quo rfl) fun a f => l_in f rfl rfl rfl b_mul fun a f => l_in f rfl rfl rfl b_add fun a f => l_in f rfl rfl rfl b_add fun a f => l_in f rfl rfl rfl b_leq fun a f => l_nil ?_
   rcases cond_some ax with ⟨aB, ax⟩ | ⟨aB, ax⟩
   ·refine k_true f rfl aB ?_
    refine k_skip ?_
    refine k_seq (k_block (k_seq (k_region ?_)))
    obtain ⟨aC, aD, ax⟩ := bind_some ax
    refine l_res f rfl rfl Tryd.call121 (Wk.E0 m  aD) fun aE aF aG w aH m aI a f => ?_
    obtain ⟨rfl, rfl⟩ := aI
    have aA := od1 aH aA
    refine l_mv f rfl rfl fun a f => l_in f rfl rfl rfl b_sub fun a f => l_in f rfl rfl rfl b_and fun a f => l_op f rfl rfl rfl (r_conv (f.eval rfl) ⟨_, Tryd.underlying84⟩ Tryd.underlying3) fun a f => l_as f rfl rfl fun a f => l_nil (k_seq (k_seq (k_region ?_)))
    refine l_mv f rfl rfl fun a f => l_mv f rfl rfl fun a f => l_in f rfl rfl rfl b_geq fun a f => l_nil ?_
    obtain ⟨aJ, aK, ax⟩ := bind_some ax
    refine k_cut (fun a w => ∃ aL : Int, aL = aJ ∧ ∃ (aM : GH), GLe aF aM ∧ Fr a 65 [(0, v0), (1, (.int .i64 x1)), (6, (.int .i64 (IntKind.i64.wrap (x2 - x1)))), (7, (.pointer (some ⟨ab, 0, none⟩))), (8, (.int .u64 ac)), (9, (.int .i64 aq)), (10, (.int .i64 aL))] ∧ Mem W aM w (Itm.box ab 139 [(.int .u64 aC.2)] :: av :: H)) ?_ ?_
    ·rcases cond_some aK with ⟨aN, aK⟩ | ⟨aN, aK⟩
     ·refine k_true f rfl aN ?_
      refine k_region ?_
      refine l_mv f rfl rfl fun a f => l_mv f rfl rfl fun a f => l_in f rfl rfl rfl b_sub fun a f => l_as f rfl rfl fun a f => l_nil ?_
      obtain rfl := sj aK
      exact ⟨_, rfl, _, (GLe.refl _), f.weak ⟨rfl, rfl, rfl, rfl, rfl, rfl, rfl, trivial⟩, m⟩
     ·refine k_false f rfl aN ?_
      refine k_skip ?_
      obtain rfl := sj aK
      exact ⟨_, rfl, _, (GLe.refl _), f.weak ⟨rfl, rfl, rfl, rfl, rfl, rfl, rfl, trivial⟩, m⟩
    ·rintro a w ⟨aL, rfl, aM, aO, f, m⟩
     have aA := od1 aO aA
     refine k_draw0 Follows m ?_
     refine p_p 2 rfl (by kernel_rfl) f rfl rfl rfl (fun _ => r_move (f.eval rfl)) fun a f => p_p 3 rfl (by kernel_rfl) f rfl rfl rfl (fun _ => r_move (f.eval rfl)) fun a f => p_p 4 rfl (by kernel_rfl) f rfl rfl rfl (fun _ => r_move (f.eval rfl)) fun a f => p_p 5 rfl (by kernel_rfl) f rfl rfl rfl (fun _ => r_int (f.eval rfl) (f.eval rfl) b_add) fun a f => k_draw1 60017 13 (by kernel_rfl) rfl ?_
     refine q_mv 0 60017 rfl (by kernel_rfl) f rfl rfl rfl fun a f => q_mv 1 60017 rfl (by kernel_rfl) f rfl rfl rfl fun a f => q_mv 6 60017 rfl (by kernel_rfl) f rfl rfl rfl fun a f => q_mv 7 60017 rfl (by kernel_rfl) f rfl rfl rfl fun a f => q_mv 8 60017 rfl (by kernel_rfl) f rfl rfl rfl fun a f => q_p 9 60017 rfl (by kernel_rfl) f rfl rfl rfl (fun _ => r_int (f.eval rfl) (f.eval rfl) b_add) fun a f => ?_
     obtain ⟨aP, aQ, ax⟩ := bind_some ax
     refine q_own_at (i := 10) 60017 1 m aA rfl T32 aQ rfl (by kernel_rfl) rfl f rfl rfl rfl rfl fun aR a aS f => q_own_load (i := 11) 60017 1 aA rfl Pl2 aS aQ rfl (by kernel_rfl) rfl f rfl rfl rfl fun aT a aU f => ?_
     subst aU
     refine q_mv 12 60017 rfl (by kernel_rfl) f rfl rfl rfl fun a f => q_mv 13 60017 rfl (by kernel_rfl) f rfl rfl rfl fun a f => ?_
     obtain ⟨aV, aW, ax⟩ := bind_some ax
     refine q_own_at (i := 14) 60017 1 m aA rfl T32 aW rfl (by kernel_rfl) rfl f rfl rfl rfl rfl fun aX a aY f => q_own_load (i := 15) 60017 1 aA rfl Pl2 aY aW rfl (by kernel_rfl) rfl f rfl rfl rfl fun aZ a a0 f => ?_
     subst a0
     obtain ⟨a1, a2, ax⟩ := bind_some ax
     refine q_own_at (i := 16) 60017 1 m aA rfl T32 a2 rfl (by kernel_rfl) rfl f rfl rfl rfl rfl fun a3 a a4 f => q_end fun a5 w a6 m => ?_
     have aA := od1 a6 aA
     refine l_own_store 1 m aA rfl Tryd.sizeOf2 f rfl rfl a4 a2 rfl rfl rfl fun a7 w m a8 => ?_
     obtain ⟨a9, ba, ax⟩ := bind_some ax
     refine l_own_at 1 m a8 rfl T32 f rfl rfl rfl ba fun bb a bc f => l_own_store 1 m a8 rfl Tryd.sizeOf2 f rfl rfl bc ba rfl rfl rfl fun bd w m be => l_nil (k_region ?_)
     refine l_mv f rfl rfl fun a f => l_in f rfl rfl rfl b_add fun a f => l_as f rfl rfl fun a f => l_nil ?_
     obtain rfl := sj ax
     exact ⟨_, rfl, _, _, _, rfl, _, bd, (GLe.trans az (GLe.trans aH (GLe.trans aO a6))), f.weak ⟨rfl, rfl, rfl, rfl, rfl, rfl, trivial⟩, m, be⟩
   ·refine k_false f rfl aB ?_
    refine k_exit rfl ?_
    have m := m.front 1 rfl
    have m := m.eraseAt 1
    obtain rfl := sj ax
    obtain rfl := ay _ rfl
    exact ⟨_, rfl, _, av, az, f.weak trivial, m, aA⟩
  ·rintro a w ⟨al, rfl, am, an, bf, f, m, bg⟩
   obtain rfl := sj hd
   exact ⟨[], trivial, f.defers, _, [an], (GLe.trans ah bf), m, _, rfl, bg⟩
 ·refine k_false f rfl aa ?_
  refine k_skip ?_
  obtain rfl := sj hd
  exact ⟨[], trivial, f.defers, _, [it0], (GLe.refl _), m, _, rfl, o0⟩

theorem Wk.s {W w : World} {G : GH} {H : List Itm} {v0 : Value} {it0 : Itm} {b3 : Nat} {x0 : (List Int)} {x1 : Int} {x2 : Int} {x3_0 : Int} (m : Mem W G w (it0 :: Itm.box b3 3 [(.int .i64 x3_0)] :: H)) (o0 : Ow (RI .i64) 2 G it0 v0 x0) {y : Int × Int × ((List Int)) × Int} (hd : D.s x0 x1 x2 x3_0 = some y) :
  Calls Tryd.prog 132 #[v0, (.int .i64 x1), (.int .i64 x2), (.pointer (some ⟨b3, 0, none⟩))] w (Res W G H (fun G' Ho v => ∃ i0 : Itm, Ho = [i0, Itm.box b3 3 [(.int .i64 y.2.2.2)]] ∧ v = .tuple #[(.int .i64 y.1), (.int .i64 y.2.1)] ∧ Ow (RI .i64) 2 G' i0 v0 y.2.2.1)) := by
 refine calls_b (args := [v0, (.int .i64 x1), (.int .i64 x2), (.pointer (some ⟨b3, 0, none⟩))]) (N := 28) [.tmp 8, .tmp 9] Tryd.func132 rfl rfl (Nat.le_of_ble_eq_true rfl) rfl fun a f => ?_
 unfold D.s at hd
 refine k_seq (k_region ?_)
 refine l_as f rfl rfl fun a f => l_as f rfl rfl fun a f => l_nil (k_seq (k_seq ?_))
 refine k_draw 9 Follows (by kernel_rfl) m ?_
 refine q_mv 0 9 rfl (by kernel_rfl) f rfl rfl rfl fun a f => q_mv 1 9 rfl (by kernel_rfl) f rfl rfl rfl fun a f => ?_
 obtain ⟨aa, ab, hd⟩ := bind_some hd
 refine q_own_at (i := 2) 9 0 m o0 rfl T32 ab rfl (by kernel_rfl) rfl f rfl rfl rfl rfl fun ac a ad f => q_own_load (i := 3) 9 0 o0 rfl Pl2 ad ab rfl (by kernel_rfl) rfl f rfl rfl rfl fun ae a af f => ?_
 subst af
 refine q_mv 4 9 rfl (by kernel_rfl) f rfl rfl rfl fun a f => q_mv 5 9 rfl (by kernel_rfl) f rfl rfl rfl fun a f => ?_
 obtain ⟨ag, ah, hd⟩ := bind_some hd
 refine q_own_at (i := 6) 9 0 m o0 rfl T32 ah rfl (by kernel_rfl) rfl f rfl rfl rfl rfl fun ai a aj f => q_own_load (i := 7) 9 0 o0 rfl Pl2 aj ah rfl (by kernel_rfl) rfl f rfl rfl rfl fun ak a al f => ?_
 subst al
 obtain ⟨am, an, hd⟩ := bind_some hd
 refine q_call (i := 8) 9 rfl (by kernel_rfl) rfl f rfl rfl rfl Tryd.call108 (fun _ _ w ao m => Wk.a m  an) fun a f => q_end fun ap w aq m => ?_
 have o0 := od1 aq o0
 refine l_nil ?_
 rcases cond_some hd with ⟨ar, hd⟩ | ⟨ar, hd⟩
 ·refine k_true f rfl ar ?_
  refine k_seq (k_region ?_)
  refine l_mv f rfl rfl fun a f => l_op f rfl rfl rfl (r_nilCheck (f.eval rfl)) fun a f => l_boxCell 1 0 m Pl3 f rfl rfl rfl rfl fun a f => l_in f rfl rfl rfl b_add fun a f => l_op f rfl rfl rfl (r_nilCheck (f.eval rfl)) fun a f => l_boxStore 1 0 (ds := [(.int .i64 (IntKind.i64.wrap (x3_0 + 1)))]) m Tryd.sizeOf3 f rfl rfl rfl (ones_cons rfl ones_nil) rfl (Nat.le_of_ble_eq_true rfl) rfl fun w m => l_nil (k_seq (k_region ?_))
  refine l_mv f rfl rfl fun a f => l_mv f rfl rfl fun a f => l_as f rfl rfl fun a f => l_as f rfl rfl fun a f => l_nil ?_
  refine k_ret ?_
  obtain rfl := sj hd
  exact ⟨[(.int .i64 x2), (.int .i64 x1)], ⟨f.get _ _ rfl, f.get _ _ rfl, trivial⟩, f.defers, _, [it0, Itm.box b3 3 [(.int .i64 (IntKind.i64.wrap (x3_0 + 1)))]], aq, m, _, rfl, rfl, o0⟩
 ·refine k_false f rfl ar ?_
  refine k_skip ?_
  refine k_seq (k_region ?_)
  refine l_mv f rfl rfl fun a f => l_mv f rfl rfl fun a f => l_as f rfl rfl fun a f => l_as f rfl rfl fun a f => l_nil ?_
  refine k_ret ?_
  obtain rfl := sj hd
  exact ⟨[(.int .i64 x1), (.int .i64 x2)], ⟨f.get _ _ rfl, f.get _ _ rfl, trivial⟩, f.defers, _, [it0, Itm.box b3 3 [(.int .i64 x3_0)]], aq, m, _, rfl, rfl, o0⟩

theorem Wk.C {W w : World} {G : GH} {H : List Itm} {v0 : Value} {it0 : Itm} {b4 : Nat} {x0 : (List Int)} {x1 : Int} {x2 : Int} {x3 : Int} {x4_0 : Int} (m : Mem W G w (it0 :: Itm.box b4 3 [(.int .i64 x4_0)] :: H)) (o0 : Ow (RI .i64) 2 G it0 v0 x0) {y : Int × ((List Int)) × Int} (hd : D.C x0 x1 x2 x3 x4_0 = some y) :
  Calls Tryd.prog 123 #[v0, (.int .i64 x1), (.int .i64 x2), (.int .i64 x3), (.pointer (some ⟨b4, 0, none⟩))] w (Res W G H (fun G' Ho v => ∃ i0 : Itm, Ho = [i0, Itm.box b4 3 [(.int .i64 y.2.2)]] ∧ v = (.int .i64 y.1) ∧ Ow (RI .i64) 2 G' i0 v0 y.2.1)) := by
 refine calls_b (args := [v0, (.int .i64 x1), (.int .i64 x2), (.int .i64 x3), (.pointer (some ⟨b4, 0, none⟩))]) (N := 36) [.tmp 10] Tryd.func123 rfl rfl (Nat.le_of_ble_eq_true rfl) rfl fun a f => ?_
 unfold D.C at hd
 refine k_seq (k_region ?_)
 refine l_as f rfl rfl fun a f => l_nil (k_seq (k_region ?_))
 refine l_mv f rfl rfl fun a f => l_mv f rfl rfl fun a f => l_mv f rfl rfl fun a f => l_mv f rfl rfl fun a f => ?_
 obtain ⟨aa, ab, hd⟩ := bind_some hd
 refine l_res f rfl rfl Tryd.call132 (Wk.s m o0 ab) fun ac ad ae w af m ag a f => ?_
 obtain ⟨ah, rfl, rfl, ai⟩ := ag
 refine l_mv f rfl rfl fun a f => l_op f rfl rfl rfl (r_extract (f.eval rfl) rfl) fun a f => l_op f rfl rfl rfl (r_extract (f.eval rfl) rfl) fun a f => l_as f rfl rfl fun a f => l_as f rfl rfl fun a f => l_nil (k_seq (k_region ?_))
 refine l_mv f rfl rfl fun a f => l_mv f rfl rfl fun a f => l_mv f rfl rfl fun a f => l_mv f rfl rfl fun a f => ?_
 obtain ⟨aj, ak, hd⟩ := bind_some hd
 refine l_res f rfl rfl Tryd.call132 (Wk.s m ai ak) fun al am an w ao m ap a f => ?_
 obtain ⟨aq, rfl, rfl, ar⟩ := ap
 refine l_mv f rfl rfl fun a f => l_op f rfl rfl rfl (r_extract (f.eval rfl) rfl) fun a f => l_op f rfl rfl rfl (r_extract (f.eval rfl) rfl) fun a f => l_as f rfl rfl fun a f => l_as f rfl rfl fun a f => l_nil (k_seq (k_region ?_))
 refine l_mv f rfl rfl fun a f => l_mv f rfl rfl fun a f => l_mv f rfl rfl fun a f => l_mv f rfl rfl fun a f => ?_
 obtain ⟨au, av, hd⟩ := bind_some hd
 refine l_res f rfl rfl Tryd.call132 (Wk.s m ar av) fun aw ax ay w az m aA a f => ?_
 obtain ⟨aB, rfl, rfl, aC⟩ := aA
 refine l_mv f rfl rfl fun a f => l_op f rfl rfl rfl (r_extract (f.eval rfl) rfl) fun a f => l_op f rfl rfl rfl (r_extract (f.eval rfl) rfl) fun a f => l_as f rfl rfl fun a f => l_as f rfl rfl fun a f => l_nil (k_seq (k_region ?_))
 refine l_mv f rfl rfl fun a f => l_as f rfl rfl fun a f => l_nil ?_
 refine k_ret ?_
 obtain rfl := sj hd
 exact ⟨[(.int .i64 au.2.1)], ⟨f.get _ _ rfl, trivial⟩, f.defers, _, [aB, Itm.box b4 3 [(.int .i64 au.2.2.2)]], (GLe.trans af (GLe.trans ao az)), m, _, rfl, rfl, aC⟩

theorem Wk.L {W w : World} {G : GH} {H : List Itm} {v0 : Value} {it0 : Itm} {b2 : Nat} {x0 : (List Int)} {x1 : Int} {x2_0 : Int} (m : Mem W G w (it0 :: Itm.box b2 3 [(.int .i64 x2_0)] :: H)) (o0 : Ow (RI .i64) 2 G it0 v0 x0) {y : Int × ((List Int)) × Int} (hd : D.L x0 x1 x2_0 = some y) :
  Calls Tryd.prog 122 #[v0, (.int .i64 x1), (.pointer (some ⟨b2, 0, none⟩))] w (Res W G H (fun G' Ho v => ∃ i0 : Itm, Ho = [i0, Itm.box b2 3 [(.int .i64 y.2.2)]] ∧ v = (.int .i64 y.1) ∧ Ow (RI .i64) 2 G' i0 v0 y.2.1)) := by
 refine calls_b (args := [v0, (.int .i64 x1), (.pointer (some ⟨b2, 0, none⟩))]) (N := 15) [.tmp 6] Tryd.func122 rfl rfl (Nat.le_of_ble_eq_true rfl) rfl fun a f => ?_
 unfold D.L at hd
 refine k_seq (k_region ?_)
 refine l_as f rfl rfl fun a f => l_nil (k_seq (k_region ?_))
 refine l_mv f rfl rfl fun a f => l_mv f rfl rfl fun a f => l_in f rfl rfl rfl b_sub fun a f => l_mv f rfl rfl fun a f => l_mv f rfl rfl fun a f => l_in f rfl rfl rfl b_add fun a f => l_mv f rfl rfl fun a f => ?_
 obtain ⟨aa, ab, hd⟩ := bind_some hd
 refine l_res f rfl rfl Tryd.call123 (Wk.C m o0 ab) fun ac ad ae w af m ag a f => ?_
 obtain ⟨ah, rfl, rfl, ai⟩ := ag
 refine l_as f rfl rfl fun a f => l_nil ?_
 refine k_ret ?_
 obtain rfl := sj hd
 exact ⟨[(.int .i64 aa.1)], ⟨f.get _ _ rfl, trivial⟩, f.defers, _, [ah, Itm.box b2 3 [(.int .i64 aa.2.2)]], af, m, _, rfl, rfl, ai⟩

theorem Wk.m0 {W w : World} {G : GH} {H : List Itm} {v0 : Value} {it0 : Itm} {x0 : (List Int)} {x1 : Int} {x2 : Int} (m : Mem W G w (it0 :: H)) (o0 : Ow (RI .i64) 2 G it0 v0 x0) {y : Int × Int × ((List Int))} (hd : D.m0 x0 x1 x2 = some y) :
  Calls Tryd.prog 105 #[v0, (.int .i64 x1), (.int .i64 x2)] w (Res W G H (fun G' Ho v => ∃ i0 : Itm, Ho = [i0] ∧ v = .tuple #[(.int .i64 y.1), (.int .i64 y.2.1)] ∧ Ow (RI .i64) 2 G' i0 v0 y.2.2)) := by
 refine calls_b (args := [v0, (.int .i64 x1), (.int .i64 x2)]) (N := 57) [.tmp 6, .tmp 7] Tryd.func105 rfl rfl (Nat.le_of_ble_eq_true rfl) rfl fun a f => ?_
 unfold D.m0 at hd
 refine k_seq (k_region ?_)
 refine l_as f rfl rfl fun a f => l_as f rfl rfl fun a f => l_nil (k_seq (k_region ?_))
 refine l_mv f rfl rfl fun a f => l_mv f rfl rfl fun a f => l_in f rfl rfl rfl b_sub fun a f => l_as f rfl rfl fun a f => l_nil (k_seq (k_region ?_))
 refine l_alloc (cs := [(.int .i64 0)]) Tryd.zeroValue3 m f rfl rfl fun aa w a m f => l_nil (k_seq (k_region ?_))
 refine l_mv f rfl rfl fun a f => l_mv f rfl rfl fun a f => l_in f rfl rfl rfl (b_quo rfl) fun a f => l_in f rfl rfl rfl b_mul fun a f => l_in f rfl rfl rfl b_add fun a f => l_as f rfl rfl fun a f => l_nil (k_seq (k_region ?_))
 refine l_mv f rfl rfl fun a f => l_mv f rfl rfl fun a f => l_in f rfl rfl rfl (b_quo rfl) fun a f => l_in f rfl rfl rfl b_mul fun a f => l_in f rfl rfl rfl b_add fun a f => l_as f rfl rfl fun a f => l_nil (k_seq (k_region ?_))
 refine l_mv f rfl rfl fun a f => l_mv f rfl rfl fun a f => l_in f rfl rfl rfl (b_quo rfl) fun a f => l_in f rfl rfl rfl b_mul fun a f => l_in f rfl rfl rfl b_add fun a f => l_as f rfl rfl fun a f => l_nil (k_seq (k_seq (k_region ?_)))
 refine l_mv f rfl rfl fun a f => l_in f rfl rfl rfl b_geq fun a f => l_nil ?_
 rcases cond_some hd with ⟨ab, hd⟩ | ⟨ab, hd⟩
 ·refine k_true f rfl ab ?_
  refine k_seq (k_seq (k_region ?_))
  refine l_mv f rfl rfl fun a f => l_in f rfl rfl rfl b_geq fun a f => l_nil ?_
  obtain ⟨ac, ad, hd⟩ := bind_some hd
  refine k_cut (fun a w => ∃ ae : List Int, ∃ af : Int, ∃ ag : Int, ∃ ah : Int, ∃ ai : Int, (ae, af, ag, ah, ai) = ac ∧ ∃ (aj : GH) (ak : Itm), GLe G aj ∧ Fr a 57 [(0, v0), (9, (.pointer (some ⟨aa, 0, none⟩))), (10, (.int .i64 af)), (11, (.int .i64 ag)), (12, (.int .i64 ah))] ∧ Mem W aj w (Itm.box aa 3 [(.int .i64 ai)] :: ak :: H) ∧ Ow (RI .i64) 2 aj ak v0 ae) ?_ ?_
  ·rcases cond_some ad with ⟨al, ad⟩ | ⟨al, ad⟩
   ·refine k_true f rfl al ?_
    refine k_seq (k_region ?_)
    refine l_mv f rfl rfl fun a f => l_mv f rfl rfl fun a f => ?_
    have m := m.front 1 rfl
    obtain ⟨am, an, ad⟩ := bind_some ad
    refine l_res f rfl rfl Tryd.call122 (Wk.L m o0 an) fun ao ap aq w ar m au a f => ?_
    obtain ⟨av, rfl, rfl, aw⟩ := au
    refine l_as f rfl rfl fun a f => l_nil (k_seq (k_region ?_))
    refine l_mv f rfl rfl fun a f => l_mv f rfl rfl fun a f => ?_
    obtain ⟨ax, ay, ad⟩ := bind_some ad
    refine l_res f rfl rfl Tryd.call122 (Wk.L m aw ay) fun az aA aB w aC m aD a f => ?_
    obtain ⟨aE, rfl, rfl, aF⟩ := aD
    refine l_as f rfl rfl fun a f => l_nil (k_region ?_)
    refine l_mv f rfl rfl fun a f => l_mv f rfl rfl fun a f => ?_
    obtain ⟨aG, aH, ad⟩ := bind_some ad
    refine l_res f rfl rfl Tryd.call122 (Wk.L m aF aH) fun aI aJ aK w aL m aM a f => ?_
    obtain ⟨aN, rfl, rfl, aO⟩ := aM
    refine l_as f rfl rfl fun a f => l_nil ?_
    have m := m.front 1 rfl
    obtain rfl := sj ad
    exact ⟨_, _, _, _, _, rfl, _, aN, (GLe.trans ar (GLe.trans aC aL)), f.weak ⟨rfl, rfl, rfl, rfl, rfl, trivial⟩, m, aO⟩
   ·refine k_false f rfl al ?_
    refine k_skip ?_
    obtain rfl := sj ad
    exact ⟨_, _, _, _, _, rfl, _, it0, (GLe.refl _), f.weak ⟨rfl, rfl, rfl, rfl, rfl, trivial⟩, m, o0⟩
  ·rintro a w ⟨ae, af, ag, ah, ai, rfl, aj, ak, aP, f, m, aQ⟩
   refine k_region ?_
   refine l_mv f rfl rfl fun a f => l_mv f rfl rfl fun a f => l_mv f rfl rfl fun a f => l_mv f rfl rfl fun a f => ?_
   have m := m.front 1 rfl
   obtain ⟨aR, aS, hd⟩ := bind_some hd
   refine l_res f rfl rfl Tryd.call123 (Wk.C m aQ aS) fun aT aU aV w aW m aX a f => ?_
   obtain ⟨aY, rfl, rfl, aZ⟩ := aX
   refine l_as f rfl rfl fun a f => l_nil (k_seq (k_region ?_))
   refine l_boxCell 1 0 m Pl3 f rfl rfl rfl rfl fun a f => l_nil (k_block (k_seq (k_region ?_)))
   refine l_in f rfl rfl rfl b_eql fun a f => l_as f rfl rfl fun a f => l_nil ?_
   rcases cond_some hd with ⟨a0, hd⟩ | ⟨a0, hd⟩
   ·refine k_true f rfl a0 ?_
    refine k_seq (k_region ?_)
    refine l_mv f rfl rfl fun a f => l_as f rfl rfl fun a f => l_as f rfl rfl fun a f => l_nil ?_
    refine k_ret ?_
    have m := m.eraseAt 1
    obtain rfl := sj hd
    exact ⟨[(.int .i64 aR.1), (.int .i64 1)], ⟨f.get _ _ rfl, f.get _ _ rfl, trivial⟩, f.defers, _, [aY], (GLe.trans aP aW), m, _, rfl, rfl, aZ⟩
   ·refine k_false f rfl a0 ?_
    refine k_seq (k_region ?_)
    refine l_in f rfl rfl rfl b_eql fun a f => l_as f rfl rfl fun a f => l_nil ?_
    rcases cond_some hd with ⟨a1, hd⟩ | ⟨a1, hd⟩
    ·refine k_true f rfl a1 ?_
     refine k_seq (k_region ?_)
     refine l_mv f rfl rfl fun a f => l_as f rfl rfl fun a f => l_as f rfl rfl fun a f => l_nil ?_
     refine k_ret ?_
     have m := m.eraseAt 1
     obtain rfl := sj hd
     exact ⟨[(.int .i64 aR.1), (.int .i64 2)], ⟨f.get _ _ rfl, f.get _ _ rfl, trivial⟩, f.defers, _, [aY], (GLe.trans aP aW), m, _, rfl, rfl, aZ⟩
    ·refine k_false f rfl a1 ?_
     refine k_seq (k_region ?_)
     refine l_mv f rfl rfl fun a f => l_as f rfl rfl fun a f => l_as f rfl rfl fun a f => l_nil ?_
     refine k_ret ?_
     have m := m.eraseAt 1
     obtain rfl := sj hd
     exact ⟨[(.int .i64 aR.1), (.int .i64 0)], ⟨f.get _ _ rfl, f.get _ _ rfl, trivial⟩, f.defers, _, [aY], (GLe.trans aP aW), m, _, rfl, rfl, aZ⟩
 ·refine k_false f rfl ab ?_
  refine k_skip ?_
  refine k_seq (k_region ?_)
  refine l_boxCell 0 0 m Pl3 f rfl rfl rfl rfl fun a f => l_nil (k_block (k_seq (k_region ?_)))
  refine l_in f rfl rfl rfl b_eql fun a f => l_as f rfl rfl fun a f => l_nil ?_
  rcases cond_some hd with ⟨a2, hd⟩ | ⟨a2, hd⟩
  ·refine k_true f rfl a2 ?_
   refine k_seq (k_region ?_)
   refine l_mv f rfl rfl fun a f => l_as f rfl rfl fun a f => l_as f rfl rfl fun a f => l_nil ?_
   refine k_ret ?_
   have m := m.front 1 rfl
   have m := m.eraseAt 1
   obtain rfl := sj hd
   exact ⟨[(.int .i64 (IntKind.i64.wrap (x1 + (IntKind.i64.wrap ((IntKind.i64.wrap (Int.tdiv (IntKind.i64.wrap (x2 - x1)) 4)) * 2))))), (.int .i64 1)], ⟨f.get _ _ rfl, f.get _ _ rfl, trivial⟩, f.defers, _, [it0], (GLe.refl _), m, _, rfl, rfl, o0⟩
  ·refine k_false f rfl a2 ?_
   refine k_seq (k_region ?_)
   refine l_in f rfl rfl rfl b_eql fun a f => l_as f rfl rfl fun a f => l_nil ?_
   rcases cond_some hd with ⟨a3, hd⟩ | ⟨a3, hd⟩
   ·refine k_true f rfl a3 ?_
    refine k_seq (k_region ?_)
    refine l_mv f rfl rfl fun a f => l_as f rfl rfl fun a f => l_as f rfl rfl fun a f => l_nil ?_
    refine k_ret ?_
    have m := m.front 1 rfl
    have m := m.eraseAt 1
    obtain rfl := sj hd
    exact ⟨[(.int .i64 (IntKind.i64.wrap (x1 + (IntKind.i64.wrap ((IntKind.i64.wrap (Int.tdiv (IntKind.i64.wrap (x2 - x1)) 4)) * 2))))), (.int .i64 2)], ⟨f.get _ _ rfl, f.get _ _ rfl, trivial⟩, f.defers, _, [it0], (GLe.refl _), m, _, rfl, rfl, o0⟩
   ·refine k_false f rfl a3 ?_
    refine k_seq (k_region ?_)
    refine l_mv f rfl rfl fun a f => l_as f rfl rfl fun a f => l_as f rfl rfl fun a f => l_nil ?_
    refine k_ret ?_
    have m := m.front 1 rfl
    have m := m.eraseAt 1
    obtain rfl := sj hd
    exact ⟨[(.int .i64 (IntKind.i64.wrap (x1 + (IntKind.i64.wrap ((IntKind.i64.wrap (Int.tdiv (IntKind.i64.wrap (x2 - x1)) 4)) * 2))))), (.int .i64 0)], ⟨f.get _ _ rfl, f.get _ _ rfl, trivial⟩, f.defers, _, [it0], (GLe.refl _), m, _, rfl, rfl, o0⟩

theorem Wk.X {W w : World} {G : GH} {H : List Itm} {v0 : Value} {it0 : Itm} {x0 : (List Int)} {x1 : Int} {x2 : Int} (m : Mem W G w (it0 :: H)) (o0 : Ow (RI .i64) 2 G it0 v0 x0) {y : ((List Int))} (hd : D.X x0 x1 x2 = some y) :
  Calls Tryd.prog 106 #[v0, (.int .i64 x1), (.int .i64 x2)] w (Res W G H (fun G' Ho _ => ∃ i0 : Itm, Ho = [i0] ∧ Ow (RI .i64) 2 G' i0 v0 y)) := by
 refine calls_b (args := [v0, (.int .i64 x1), (.int .i64 x2)]) (N := 32) [] Tryd.func106 rfl rfl (Nat.le_of_ble_eq_true rfl) rfl fun a f => ?_
 unfold D.X at hd
 refine k_seq (k_region ?_)
 refine l_mv f rfl rfl fun a f => l_as f rfl rfl fun a f => l_nil (k_seq (k_region ?_))
 refine l_mv f rfl rfl fun a f => l_in f rfl rfl rfl b_sub fun a f => l_as f rfl rfl fun a f => l_nil ?_
 obtain ⟨aa, ab, hd⟩ := bind_some hd
 refine k_cut (fun a w => ∃ ac : List Int, ac = aa ∧ ∃ (ad : GH) (ae : Itm), GLe G ad ∧ Fr a 32 [] ∧ Mem W ad w (ae :: H) ∧ Ow (RI .i64) 2 ad ae v0 ac) ?_ ?_
 ·refine k_block ?_
  refine k_loop (fun af a w => ∃ ag : List Int, ∃ ah : Int, ∃ ai : Int, (ag, ah, ai) = af ∧ ∃ (aj : GH) (ak : Itm), GLe G aj ∧ Fr a 32 [(0, v0), (6, (.int .i64 ah)), (7, (.int .i64 ai))] ∧ Mem W aj w (ak :: H) ∧ Ow (RI .i64) 2 aj ak v0 ag) ab ⟨_, _, _, rfl, _, it0, (GLe.refl _), f.weak ⟨rfl, rfl, rfl, trivial⟩, m, o0⟩ ?_
  clear ab f m
  rintro af al am an a w ⟨ag, ah, ai, rfl, aj, ak, ao, f, m, ap⟩
  refine k_seq (k_seq (k_region ?_))
  refine l_mv f rfl rfl fun a f => l_mv f rfl rfl fun a f => l_in f rfl rfl rfl b_lss fun a f => l_nil ?_
  rcases cond_some am with ⟨aq, am⟩ | ⟨aq, am⟩
  ·refine k_true f rfl aq ?_
   refine k_skip ?_
   refine k_block (k_seq ?_)
   refine k_draw0 Follows m ?_
   refine p_p 2 rfl (by kernel_rfl) f rfl rfl rfl (fun _ => r_move (f.eval rfl)) fun a f => p_p 3 rfl (by kernel_rfl) f rfl rfl rfl (fun _ => r_move (f.eval rfl)) fun a f => k_draw1 12013 11 (by kernel_rfl) rfl ?_
   refine q_mv 0 12013 rfl (by kernel_rfl) f rfl rfl rfl fun a f => q_mv 1 12013 rfl (by kernel_rfl) f rfl rfl rfl fun a f => q_mv 4 12013 rfl (by kernel_rfl) f rfl rfl rfl fun a f => q_mv 5 12013 rfl (by kernel_rfl) f rfl rfl rfl fun a f => ?_
   obtain ⟨ar, au, am⟩ := bind_some am
   refine q_own_at (i := 6) 12013 0 m ap rfl T32 au rfl (by kernel_rfl) rfl f rfl rfl rfl rfl fun av a aw f => q_own_load (i := 7) 12013 0 ap rfl Pl2 aw au rfl (by kernel_rfl) rfl f rfl rfl rfl fun ax a ay f => ?_
   subst ay
   refine q_mv 8 12013 rfl (by kernel_rfl) f rfl rfl rfl fun a f => q_mv 9 12013 rfl (by kernel_rfl) f rfl rfl rfl fun a f => ?_
   obtain ⟨az, aA, am⟩ := bind_some am
   refine q_own_at (i := 10) 12013 0 m ap rfl T32 aA rfl (by kernel_rfl) rfl f rfl rfl rfl rfl fun aB a aC f => q_own_load (i := 11) 12013 0 ap rfl Pl2 aC aA rfl (by kernel_rfl) rfl f rfl rfl rfl fun aD a aE f => ?_
   subst aE
   obtain ⟨aF, aG, am⟩ := bind_some am
   refine q_own_at (i := 12) 12013 0 m ap rfl T32 aG rfl (by kernel_rfl) rfl f rfl rfl rfl rfl fun aH a aI f => q_end fun aJ w aK m => ?_
   have ap := od1 aK ap
   refine l_own_store 0 m ap rfl Tryd.sizeOf2 f rfl rfl aI aG rfl rfl rfl fun aL w m aM => ?_
   obtain ⟨aN, aO, am⟩ := bind_some am
   refine l_own_at 0 m aM rfl T32 f rfl rfl rfl aO fun aP a aQ f => l_own_store 0 m aM rfl Tryd.sizeOf2 f rfl rfl aQ aO rfl rfl rfl fun aR w m aS => l_nil (k_seq (k_region ?_))
   refine l_mv f rfl rfl fun a f => l_in f rfl rfl rfl b_add fun a f => l_as f rfl rfl fun a f => l_nil (k_region ?_)
   refine l_mv f rfl rfl fun a f => l_in f rfl rfl rfl b_sub fun a f => l_as f rfl rfl fun a f => l_nil ?_
   obtain rfl := sj am
   exact ⟨_, rfl, _, _, _, rfl, _, aR, (GLe.trans ao aK), f.weak ⟨rfl, rfl, rfl, trivial⟩, m, aS⟩
  ·refine k_false f rfl aq ?_
   refine k_exit rfl ?_
   obtain rfl := sj am
   obtain rfl := an _ rfl
   exact ⟨_, rfl, _, ak, ao, f.weak trivial, m, ap⟩
 ·rintro a w ⟨ac, rfl, ad, ae, aT, f, m, aU⟩
  obtain rfl := sj hd
  exact ⟨[], trivial, f.defers, _, [ae], aT, m, _, rfl, aU⟩

theorem Wk.j0 {W w : World} {G : GH} {H : List Itm} {v0 : Value} {it0 : Itm} {x0 : (List Int)} {x1 : Int} {x2 : Int} (m : Mem W G w (it0 :: H)) (o0 : Ow (RI .i64) 2 G it0 v0 x0) {y : Bool × ((List Int))} (hd : D.j0 x0 x1 x2 = some y) :
  Calls Tryd.prog 107 #[v0, (.int .i64 x1), (.int .i64 x2)] w (Res W G H (fun G' Ho v => ∃ i0 : Itm, Ho = [i0] ∧ v = (.bool y.1) ∧ Ow (RI .i64) 2 G' i0 v0 y.2)) := by
 refine calls_b (args := [v0, (.int .i64 x1), (.int .i64 x2)]) (N := 133) [.tmp 6] Tryd.func107 rfl rfl (Nat.le_of_ble_eq_true rfl) rfl fun a f => ?_
 unfold D.j0 at hd
 refine k_seq (k_region ?_)
 refine l_as f rfl rfl fun a f => l_nil (k_seq (k_region ?_))
 refine l_mv f rfl rfl fun a f => l_in f rfl rfl rfl b_add fun a f => l_as f rfl rfl fun a f => l_nil (k_seq (k_seq (k_region ?_)))
 refine l_as f rfl rfl fun a f => l_nil ?_
 obtain ⟨aa, ab, hd⟩ := bind_some hd
 refine k_cut (fun a w => ∃ q_1621' : (List Int), aa = .inl q_1621' ∧ ∃ ac : List Int, ac = q_1621' ∧ ∃ (ad : GH) (ae : Itm), GLe G ad ∧ Fr a 133 [] ∧ Mem W ad w (ae :: H) ∧ Ow (RI .i64) 2 ad ae v0 ac) ?_ ?_
 ·refine k_block ?_
  refine k_loop (fun af a w => ∃ ag : List Int, ∃ ah : Int, ∃ ai : Int, (ag, ah, ai) = af ∧ ∃ (aj : GH) (ak : Itm), GLe G aj ∧ Fr a 133 [(0, v0), (1, (.int .i64 x1)), (2, (.int .i64 x2)), (7, (.int .i64 ah)), (8, (.int .i64 ai))] ∧ Mem W aj w (ak :: H) ∧ Ow (RI .i64) 2 aj ak v0 ag) ab ⟨_, _, _, rfl, _, it0, (GLe.refl _), f.weak ⟨rfl, rfl, rfl, rfl, rfl, trivial⟩, m, o0⟩ ?_
  clear ab f m
  rintro af al am an a w ⟨ag, ah, ai, rfl, aj, ak, ao, f, m, ap⟩
  refine k_seq (k_seq (k_region ?_))
  refine l_mv f rfl rfl fun a f => l_in f rfl rfl rfl b_lss fun a f => l_nil ?_
  rcases cond_some am with ⟨aq, am⟩ | ⟨aq, am⟩
  ·refine k_true f rfl aq ?_
   refine k_skip ?_
   refine k_seq (k_block (k_seq ?_))
   obtain ⟨ar, au, am⟩ := bind_some am
   refine k_cut (fun a w => ∃ av : Int, av = ar ∧ ∃ (aw : GH), GLe aj aw ∧ Fr a 133 [(0, v0), (1, (.int .i64 x1)), (2, (.int .i64 x2)), (7, (.int .i64 av)), (8, (.int .i64 ai))] ∧ Mem W aw w (ak :: H)) ?_ ?_
   ·refine k_block ?_
    refine k_loop (fun ax a w => ∃ ay : Int, ay = ax ∧ ∃ (az : GH), GLe aj az ∧ Fr a 133 [(0, v0), (1, (.int .i64 x1)), (2, (.int .i64 x2)), (7, (.int .i64 ay)), (8, (.int .i64 ai))] ∧ Mem W az w (ak :: H)) au ⟨_, rfl, _, (GLe.refl _), f.weak ⟨rfl, rfl, rfl, rfl, rfl, trivial⟩, m⟩ ?_
    clear au f m
    rintro ax aA aB aC a w ⟨ay, rfl, az, aD, f, m⟩
    have ap := od1 aD ap
    refine k_seq (k_seq ?_)
    refine k_draw 16 Follows (by kernel_rfl) m ?_
    refine q_mv 0 16 rfl (by kernel_rfl) f rfl rfl rfl fun a f => q_mv 1 16 rfl (by kernel_rfl) f rfl rfl rfl fun a f => q_p 2 16 rfl (by kernel_rfl) f rfl rfl rfl (fun _ => r_int (f.eval rfl) (f.eval rfl) b_lss) fun a f => q_mv 3 16 rfl (by kernel_rfl) f rfl rfl rfl fun a f => ?_
    obtain ⟨aE, aF, aB⟩ := bind_some aB
    refine q_cut (fuel' := 0) (listed' := #[true, true, true, true, true, true, true, true, true, true, true, true, true, true, true, true]) (fun a => Fr a 133 [(0, v0), (1, (.int .i64 x1)), (2, (.int .i64 x2)), (7, (.int .i64 ay)), (8, (.int .i64 ai)), (17, (.int .i64 ay)), (18, (.int .i64 x2)), (19, (.bool (decide (ay < x2)))), (20, (.bool (decide (ay < x2)))), (32, (.bool aE))]) ?_ ?_
    ·intro a f
     refine q_end fun aG w aH m => ?_
     have ap := od1 aH ap
     refine l_nil ?_
     rcases cond_some aB with ⟨aI, aB⟩ | ⟨aI, aB⟩
     ·refine k_true f rfl aI ?_
      refine k_skip ?_
      refine k_block (k_region ?_)
      refine l_mv f rfl rfl fun a f => l_in f rfl rfl rfl b_add fun a f => l_as f rfl rfl fun a f => l_nil ?_
      obtain rfl := sj aB
      exact ⟨_, rfl, _, rfl, _, (GLe.trans aD aH), f.weak ⟨rfl, rfl, rfl, rfl, rfl, trivial⟩, m⟩
     ·refine k_false f rfl aI ?_
      refine k_exit rfl ?_
      obtain rfl := sj aB
      obtain rfl := aC _ rfl
      exact ⟨_, rfl, _, (GLe.trans aD aH), f.weak ⟨rfl, rfl, rfl, rfl, rfl, trivial⟩, m⟩
    ·intro aJ
     rcases cond_some aF with ⟨aK, aF⟩ | ⟨aK, aF⟩
     ·refine q_mv 4 16 rfl (by kernel_rfl) f (wanted_of f rfl rfl rfl aK) rfl rfl fun a f => ?_
      refine q_mv 5 16 rfl (by kernel_rfl) f (wanted_of f rfl rfl rfl aK) rfl rfl fun a f => ?_
      obtain ⟨aL, aM, aF⟩ := bind_some aF
      refine q_own_at (i := 6) 16 0 m ap rfl T32 aM rfl (by kernel_rfl) rfl f (wanted_of f rfl rfl rfl aK) rfl rfl rfl fun aN a aO f => q_own_load (i := 7) 16 0 ap rfl Pl2 aO aM rfl (by kernel_rfl) rfl f (wanted_of f rfl rfl rfl aK) rfl rfl fun aP a aQ f => ?_
      subst aQ
      refine q_mv 8 16 rfl (by kernel_rfl) f (wanted_of f rfl rfl rfl aK) rfl rfl fun a f => q_mv 9 16 rfl (by kernel_rfl) f (wanted_of f rfl rfl rfl aK) rfl rfl fun a f => q_p 10 16 rfl (by kernel_rfl) f (wanted_of f rfl rfl rfl aK) rfl rfl (fun _ => r_int (f.eval rfl) (f.eval rfl) b_sub) fun a f => ?_
      obtain ⟨aR, aS, aF⟩ := bind_some aF
      refine q_own_at (i := 11) 16 0 m ap rfl T32 aS rfl (by kernel_rfl) rfl f (wanted_of f rfl rfl rfl aK) rfl rfl rfl fun aT a aU f => q_own_load (i := 12) 16 0 ap rfl Pl2 aU aS rfl (by kernel_rfl) rfl f (wanted_of f rfl rfl rfl aK) rfl rfl fun aV a aW f => ?_
      subst aW
      obtain ⟨aX, aY, aF⟩ := bind_some aF
      refine q_call (i := 13) 16 rfl (by kernel_rfl) rfl f (wanted_of f rfl rfl rfl aK) rfl rfl Tryd.call108 (fun _ _ w aZ m => Wk.a m  aY) fun a f => q_p 14 16 rfl (by kernel_rfl) f (wanted_of f rfl rfl rfl aK) rfl rfl (fun _ => r_not (f.eval rfl)) fun a f => q_p 15 16 rfl (by kernel_rfl) f rfl rfl rfl (fun _ => r_pickT (f.eval rfl) aK (f.eval rfl)) fun a f => ?_
      obtain rfl := sj aF
      exact aJ _ (f.weak ⟨rfl, rfl, rfl, rfl, rfl, rfl, rfl, rfl, rfl, rfl, trivial⟩)
     ·refine q_ng 4 16 rfl (by kernel_rfl) f rfl rfl aK rfl fun a f => ?_
      refine q_ng 5 16 rfl (by kernel_rfl) f rfl rfl aK rfl fun a f => q_ng 6 16 rfl (by kernel_rfl) f rfl rfl aK rfl fun a f => q_ng 7 16 rfl (by kernel_rfl) f rfl rfl aK rfl fun a f => q_ng 8 16 rfl (by kernel_rfl) f rfl rfl aK rfl fun a f => q_ng 9 16 rfl (by kernel_rfl) f rfl rfl aK rfl fun a f => q_ng 10 16 rfl (by kernel_rfl) f rfl rfl aK rfl fun a f => q_ng 11 16 rfl (by kernel_rfl) f rfl rfl aK rfl fun a f => q_ng 12 16 rfl (by kernel_rfl) f rfl rfl aK rfl fun a f => q_ng 13 16 rfl (by kernel_rfl) f rfl rfl aK rfl fun a f => q_ng 14 16 rfl (by kernel_rfl) f rfl rfl aK rfl fun a f => q_p 15 16 rfl (by kernel_rfl) f rfl rfl rfl (fun _ => r_pickF (f.eval rfl) aK (f.eval rfl)) fun a f => ?_
      obtain rfl := sj aF
      exact aJ _ (f.weak ⟨rfl, rfl, rfl, rfl, rfl, rfl, rfl, rfl, rfl, rfl, trivial⟩)
   ·rintro a w ⟨av, rfl, aw, a0, f, m⟩
    have ap := od1 a0 ap
    refine k_seq (k_seq (k_region ?_))
    refine l_mv f rfl rfl fun a f => l_mv f rfl rfl fun a f => l_in f rfl rfl rfl b_eql fun a f => l_nil ?_
    rcases cond_some am with ⟨a1, am⟩ | ⟨a1, am⟩
    ·refine k_true f rfl a1 ?_
     refine k_seq (k_region ?_)
     refine l_as f rfl rfl fun a f => l_nil ?_
     refine k_ret ?_
     obtain rfl := sj am
     obtain rfl := an _ rfl
     obtain rfl := sj hd
     exact ⟨[(.bool true)], ⟨f.get _ _ rfl, trivial⟩, f.defers, _, [ak], (GLe.trans ao a0), m, _, rfl, rfl, ap⟩
    ·refine k_false f rfl a1 ?_
     refine k_skip ?_
     refine k_seq (k_seq (k_region ?_))
     refine l_mv f rfl rfl fun a f => l_mv f rfl rfl fun a f => l_in f rfl rfl rfl b_sub fun a f => l_in f rfl rfl rfl b_lss fun a f => l_nil ?_
     rcases cond_some am with ⟨a2, am⟩ | ⟨a2, am⟩
     ·refine k_true f rfl a2 ?_
      refine k_seq (k_region ?_)
      refine l_as f rfl rfl fun a f => l_nil ?_
      refine k_ret ?_
      obtain rfl := sj am
      obtain rfl := an _ rfl
      obtain rfl := sj hd
      exact ⟨[(.bool false)], ⟨f.get _ _ rfl, trivial⟩, f.defers, _, [ak], (GLe.trans ao a0), m, _, rfl, rfl, ap⟩
     ·refine k_false f rfl a2 ?_
      refine k_skip ?_
      refine k_seq ?_
      refine k_draw0 Follows m ?_
      refine p_p 2 rfl (by kernel_rfl) f rfl rfl rfl (fun _ => r_move (f.eval rfl)) fun a f => p_p 3 rfl (by kernel_rfl) f rfl rfl rfl (fun _ => r_move (f.eval rfl)) fun a f => p_p 4 rfl (by kernel_rfl) f rfl rfl rfl (fun _ => r_int (f.eval rfl) (f.eval rfl) b_sub) fun a f => k_draw1 28015 12 (by kernel_rfl) rfl ?_
      refine q_mv 0 28015 rfl (by kernel_rfl) f rfl rfl rfl fun a f => q_mv 1 28015 rfl (by kernel_rfl) f rfl rfl rfl fun a f => q_mv 5 28015 rfl (by kernel_rfl) f rfl rfl rfl fun a f => q_mv 6 28015 rfl (by kernel_rfl) f rfl rfl rfl fun a f => q_p 7 28015 rfl (by kernel_rfl) f rfl rfl rfl (fun _ => r_int (f.eval rfl) (f.eval rfl) b_sub) fun a f => ?_
      obtain ⟨a3, a4, am⟩ := bind_some am
      refine q_own_at (i := 8) 28015 0 m ap rfl T32 a4 rfl (by kernel_rfl) rfl f rfl rfl rfl rfl fun a5 a a6 f => q_own_load (i := 9) 28015 0 ap rfl Pl2 a6 a4 rfl (by kernel_rfl) rfl f rfl rfl rfl fun a7 a a8 f => ?_
      subst a8
      refine q_mv 10 28015 rfl (by kernel_rfl) f rfl rfl rfl fun a f => q_mv 11 28015 rfl (by kernel_rfl) f rfl rfl rfl fun a f => ?_
      obtain ⟨a9, ba, am⟩ := bind_some am
      refine q_own_at (i := 12) 28015 0 m ap rfl T32 ba rfl (by kernel_rfl) rfl f rfl rfl rfl rfl fun bb a bc f => q_own_load (i := 13) 28015 0 ap rfl Pl2 bc ba rfl (by kernel_rfl) rfl f rfl rfl rfl fun bd a be f => ?_
      subst be
      obtain ⟨bf, bg, am⟩ := bind_some am
      refine q_own_at (i := 14) 28015 0 m ap rfl T32 bg rfl (by kernel_rfl) rfl f rfl rfl rfl rfl fun bh a bi f => q_end fun bj w bk m => ?_
      have ap := od1 bk ap
      refine l_own_store 0 m ap rfl Tryd.sizeOf2 f rfl rfl bi bg rfl rfl rfl fun bl w m bm => ?_
      obtain ⟨bn, bo, am⟩ := bind_some am
      refine l_own_at 0 m bm rfl T32 f rfl rfl rfl bo fun bp a bq f => l_own_store 0 m bm rfl Tryd.sizeOf2 f rfl rfl bq bo rfl rfl rfl fun br w m bs => l_nil (k_seq (k_seq (k_region ?_)))
      refine l_mv f rfl rfl fun a f => l_mv f rfl rfl fun a f => l_in f rfl rfl rfl b_sub fun a f => l_in f rfl rfl rfl b_geq fun a f => l_nil ?_
      obtain ⟨bt, bu, am⟩ := bind_some am
      refine k_cut (fun a w => ∃ bv : List Int, bv = bt ∧ ∃ (bw : GH) (bx : Itm), GLe bj bw ∧ Fr a 133 [(0, v0), (1, (.int .i64 x1)), (2, (.int .i64 x2)), (7, (.int .i64 av)), (8, (.int .i64 ai))] ∧ Mem W bw w (bx :: H) ∧ Ow (RI .i64) 2 bw bx v0 bv) ?_ ?_
      ·rcases cond_some bu with ⟨bz, bu⟩ | ⟨bz, bu⟩
       ·refine k_true f rfl bz ?_
        refine k_seq (k_region ?_)
        refine l_mv f rfl rfl fun a f => l_in f rfl rfl rfl b_sub fun a f => l_as f rfl rfl fun a f => l_nil ?_
        obtain ⟨bA, bB, bu⟩ := bind_some bu
        refine k_cut (fun a w => ∃ bC : List Int, bC = bA ∧ ∃ (bD : GH) (bE : Itm), GLe bj bD ∧ Fr a 133 [(0, v0), (1, (.int .i64 x1)), (2, (.int .i64 x2)), (7, (.int .i64 av)), (8, (.int .i64 ai))] ∧ Mem W bD w (bE :: H) ∧ Ow (RI .i64) 2 bD bE v0 bC) ?_ ?_
        ·refine k_block ?_
         refine k_loop (fun bF a w => ∃ bG : List Int, ∃ bH : Int, (bG, bH) = bF ∧ ∃ (bI : GH) (bJ : Itm), GLe bj bI ∧ Fr a 133 [(0, v0), (1, (.int .i64 x1)), (2, (.int .i64 x2)), (7, (.int .i64 av)), (8, (.int .i64 ai)), (9, (.int .i64 bH))] ∧ Mem W bI w (bJ :: H) ∧ Ow (RI .i64) 2 bI bJ v0 bG) bB ⟨_, _, rfl, _, br, (GLe.refl _), f.weak ⟨rfl, rfl, rfl, rfl, rfl, rfl, trivial⟩, m, bs⟩ ?_
         clear bB f m
         rintro bF bK bL bM a w ⟨bG, bH, rfl, bI, bJ, bN, f, m, bO⟩
         refine k_seq (k_seq (k_region ?_))
         refine l_mv f rfl rfl fun a f => l_in f rfl rfl rfl b_geq fun a f => l_nil ?_
         rcases cond_some bL with ⟨bP, bL⟩ | ⟨bP, bL⟩
         ·refine k_true f rfl bP ?_
          refine k_skip ?_
          refine k_seq (k_block (k_seq (k_seq ?_)))
          refine k_draw 11 Follows (by kernel_rfl) m ?_
          refine q_mv 0 11 rfl (by kernel_rfl) f rfl rfl rfl fun a f => q_mv 1 11 rfl (by kernel_rfl) f rfl rfl rfl fun a f => ?_
          obtain ⟨bQ, bR, bL⟩ := bind_some bL
          refine q_own_at (i := 2) 11 0 m bO rfl T32 bR rfl (by kernel_rfl) rfl f rfl rfl rfl rfl fun bS a bT f => q_own_load (i := 3) 11 0 bO rfl Pl2 bT bR rfl (by kernel_rfl) rfl f rfl rfl rfl fun bU a bV f => ?_
          subst bV
          refine q_mv 4 11 rfl (by kernel_rfl) f rfl rfl rfl fun a f => q_mv 5 11 rfl (by kernel_rfl) f rfl rfl rfl fun a f => q_p 6 11 rfl (by kernel_rfl) f rfl rfl rfl (fun _ => r_int (f.eval rfl) (f.eval rfl) b_sub) fun a f => ?_
          obtain ⟨bW, bX, bL⟩ := bind_some bL
          refine q_own_at (i := 7) 11 0 m bO rfl T32 bX rfl (by kernel_rfl) rfl f rfl rfl rfl rfl fun bY a bZ f => q_own_load (i := 8) 11 0 bO rfl Pl2 bZ bX rfl (by kernel_rfl) rfl f rfl rfl rfl fun b0 a b1 f => ?_
          subst b1
          obtain ⟨b2, b3, bL⟩ := bind_some bL
          refine q_call (i := 9) 11 rfl (by kernel_rfl) rfl f rfl rfl rfl Tryd.call108 (fun _ _ w b4 m => Wk.a m  b3) fun a f => q_p 10 11 rfl (by kernel_rfl) f rfl rfl rfl (fun _ => r_not (f.eval rfl)) fun a f => q_end fun b5 w b6 m => ?_
          have bO := od1 b6 bO
          refine l_nil ?_
          rcases cond_some bL with ⟨b7, bL⟩ | ⟨b7, bL⟩
          ·refine k_true f rfl b7 ?_
           refine k_exit rfl ?_
           obtain rfl := sj bL
           obtain rfl := bM _ rfl
           exact ⟨_, rfl, _, bJ, (GLe.trans bN b6), f.weak ⟨rfl, rfl, rfl, rfl, rfl, trivial⟩, m, bO⟩
          ·refine k_false f rfl b7 ?_
           refine k_skip ?_
           refine k_draw0 Follows m ?_
           refine p_p 2 rfl (by kernel_rfl) f rfl rfl rfl (fun _ => r_move (f.eval rfl)) fun a f => p_p 3 rfl (by kernel_rfl) f rfl rfl rfl (fun _ => r_move (f.eval rfl)) fun a f => p_p 4 rfl (by kernel_rfl) f rfl rfl rfl (fun _ => r_int (f.eval rfl) (f.eval rfl) b_sub) fun a f => k_draw1 28015 12 (by kernel_rfl) rfl ?_
           refine q_mv 0 28015 rfl (by kernel_rfl) f rfl rfl rfl fun a f => q_mv 1 28015 rfl (by kernel_rfl) f rfl rfl rfl fun a f => q_mv 5 28015 rfl (by kernel_rfl) f rfl rfl rfl fun a f => q_mv 6 28015 rfl (by kernel_rfl) f rfl rfl rfl fun a f => q_p 7 28015 rfl (by kernel_rfl) f rfl rfl rfl (fun _ => r_int (f.eval rfl) (f.eval rfl) b_sub) fun a f => ?_
           obtain ⟨b8, b9, bL⟩ := bind_some bL
           refine q_own_at (i := 8) 28015 0 m bO rfl T32 b9 rfl (by kernel_rfl) rfl f rfl rfl rfl rfl fun ca a cb f => q_own_load (i := 9) 28015 0 bO rfl Pl2 cb b9 rfl (by kernel_rfl) rfl f rfl rfl rfl fun cc a cd f => ?_
           subst cd
           refine q_mv 10 28015 rfl (by kernel_rfl) f rfl rfl rfl fun a f => q_mv 11 28015 rfl (by kernel_rfl) f rfl rfl rfl fun a f => ?_
           obtain ⟨ce, cf, bL⟩ := bind_some bL
           refine q_own_at (i := 12) 28015 0 m bO rfl T32 cf rfl (by kernel_rfl) rfl f rfl rfl rfl rfl fun cg a ch f => q_own_load (i := 13) 28015 0 bO rfl Pl2 ch cf rfl (by kernel_rfl) rfl f rfl rfl rfl fun ci a cj f => ?_
           subst cj
           obtain ⟨ck, cl, bL⟩ := bind_some bL
           refine q_own_at (i := 14) 28015 0 m bO rfl T32 cl rfl (by kernel_rfl) rfl f rfl rfl rfl rfl fun cm a cn f => q_end fun co w cp m => ?_
           have bO := od1 cp bO
           refine l_own_store 0 m bO rfl Tryd.sizeOf2 f rfl rfl cn cl rfl rfl rfl fun cq w m cr => ?_
           obtain ⟨cs, ct, bL⟩ := bind_some bL
           refine l_own_at 0 m cr rfl T32 f rfl rfl rfl ct fun cu a cv f => l_own_store 0 m cr rfl Tryd.sizeOf2 f rfl rfl cv ct rfl rfl rfl fun cw w m cx => l_nil (k_region ?_)
           refine l_mv f rfl rfl fun a f => l_in f rfl rfl rfl b_sub fun a f => l_as f rfl rfl fun a f => l_nil ?_
           obtain rfl := sj bL
           exact ⟨_, rfl, _, _, rfl, _, cw, (GLe.trans bN (GLe.trans b6 cp)), f.weak ⟨rfl, rfl, rfl, rfl, rfl, rfl, trivial⟩, m, cx⟩
         ·refine k_false f rfl bP ?_
          refine k_exit rfl ?_
          obtain rfl := sj bL
          obtain rfl := bM _ rfl
          exact ⟨_, rfl, _, bJ, bN, f.weak ⟨rfl, rfl, rfl, rfl, rfl, trivial⟩, m, bO⟩
        ·rintro a w ⟨bC, rfl, bD, bE, cy, f, m, cz⟩
         obtain rfl := sj bu
         exact ⟨_, rfl, _, bE, cy, f.weak ⟨rfl, rfl, rfl, rfl, rfl, trivial⟩, m, cz⟩
       ·refine k_false f rfl bz ?_
        refine k_skip ?_
        obtain rfl := sj bu
        exact ⟨_, rfl, _, br, (GLe.refl _), f.weak ⟨rfl, rfl, rfl, rfl, rfl, trivial⟩, m, bs⟩
      ·rintro a w ⟨bv, rfl, bw, bx, cA, f, m, cB⟩
       refine k_seq (k_region ?_)
       refine l_mv f rfl rfl fun a f => l_mv f rfl rfl fun a f => l_in f rfl rfl rfl b_sub fun a f => l_in f rfl rfl rfl b_geq fun a f => l_nil ?_
       rcases cond_some am with ⟨cC, am⟩ | ⟨cC, am⟩
       ·refine k_true f rfl cC ?_
        refine k_seq (k_region ?_)
        refine l_mv f rfl rfl fun a f => l_in f rfl rfl rfl b_add fun a f => l_as f rfl rfl fun a f => l_nil ?_
        obtain ⟨cD, cE, am⟩ := bind_some am
        refine k_cut (fun a w => ∃ cF : List Int, cF = cD ∧ ∃ (cG : GH) (cH : Itm), GLe bw cG ∧ Fr a 133 [(0, v0), (1, (.int .i64 x1)), (2, (.int .i64 x2)), (7, (.int .i64 av)), (8, (.int .i64 ai))] ∧ Mem W cG w (cH :: H) ∧ Ow (RI .i64) 2 cG cH v0 cF) ?_ ?_
        ·refine k_block ?_
         refine k_loop (fun cI a w => ∃ cJ : List Int, ∃ cK : Int, (cJ, cK) = cI ∧ ∃ (cL : GH) (cM : Itm), GLe bw cL ∧ Fr a 133 [(0, v0), (1, (.int .i64 x1)), (2, (.int .i64 x2)), (7, (.int .i64 av)), (8, (.int .i64 ai)), (10, (.int .i64 cK))] ∧ Mem W cL w (cM :: H) ∧ Ow (RI .i64) 2 cL cM v0 cJ) cE ⟨_, _, rfl, _, bx, (GLe.refl _), f.weak ⟨rfl, rfl, rfl, rfl, rfl, rfl, trivial⟩, m, cB⟩ ?_
         clear cE f m
         rintro cI cN cO cP a w ⟨cJ, cK, rfl, cL, cM, cQ, f, m, cR⟩
         refine k_seq (k_seq (k_region ?_))
         refine l_mv f rfl rfl fun a f => l_mv f rfl rfl fun a f => l_in f rfl rfl rfl b_lss fun a f => l_nil ?_
         rcases cond_some cO with ⟨cS, cO⟩ | ⟨cS, cO⟩
         ·refine k_true f rfl cS ?_
          refine k_skip ?_
          refine k_seq (k_block (k_seq (k_seq ?_)))
          refine k_draw 11 Follows (by kernel_rfl) m ?_
          refine q_mv 0 11 rfl (by kernel_rfl) f rfl rfl rfl fun a f => q_mv 1 11 rfl (by kernel_rfl) f rfl rfl rfl fun a f => ?_
          obtain ⟨cT, cU, cO⟩ := bind_some cO
          refine q_own_at (i := 2) 11 0 m cR rfl T32 cU rfl (by kernel_rfl) rfl f rfl rfl rfl rfl fun cV a cW f => q_own_load (i := 3) 11 0 cR rfl Pl2 cW cU rfl (by kernel_rfl) rfl f rfl rfl rfl fun cX a cY f => ?_
          subst cY
          refine q_mv 4 11 rfl (by kernel_rfl) f rfl rfl rfl fun a f => q_mv 5 11 rfl (by kernel_rfl) f rfl rfl rfl fun a f => q_p 6 11 rfl (by kernel_rfl) f rfl rfl rfl (fun _ => r_int (f.eval rfl) (f.eval rfl) b_sub) fun a f => ?_
          obtain ⟨cZ, c0, cO⟩ := bind_some cO
          refine q_own_at (i := 7) 11 0 m cR rfl T32 c0 rfl (by kernel_rfl) rfl f rfl rfl rfl rfl fun c1 a c2 f => q_own_load (i := 8) 11 0 cR rfl Pl2 c2 c0 rfl (by kernel_rfl) rfl f rfl rfl rfl fun c3 a c4 f => ?_
          subst c4
          obtain ⟨c5, c6, cO⟩ := bind_some cO
          refine q_call (i := 9) 11 rfl (by kernel_rfl) rfl f rfl rfl rfl Tryd.call108 (fun _ _ w c7 m => Wk.a m  c6) fun a f => q_p 10 11 rfl (by kernel_rfl) f rfl rfl rfl (fun _ => r_not (f.eval rfl)) fun a f => q_end fun c8 w c9 m => ?_
          have cR := od1 c9 cR
          refine l_nil ?_
          rcases cond_some cO with ⟨da, cO⟩ | ⟨da, cO⟩
          ·refine k_true f rfl da ?_
           refine k_exit rfl ?_
           obtain rfl := sj cO
           obtain rfl := cP _ rfl
           exact ⟨_, rfl, _, cM, (GLe.trans cQ c9), f.weak ⟨rfl, rfl, rfl, rfl, rfl, trivial⟩, m, cR⟩
          ·refine k_false f rfl da ?_
           refine k_skip ?_
           refine k_draw0 Follows m ?_
           refine p_p 2 rfl (by kernel_rfl) f rfl rfl rfl (fun _ => r_move (f.eval rfl)) fun a f => p_p 3 rfl (by kernel_rfl) f rfl rfl rfl (fun _ => r_move (f.eval rfl)) fun a f => p_p 4 rfl (by kernel_rfl) f rfl rfl rfl (fun _ => r_int (f.eval rfl) (f.eval rfl) b_sub) fun a f => k_draw1 28015 12 (by kernel_rfl) rfl ?_
           refine q_mv 0 28015 rfl (by kernel_rfl) f rfl rfl rfl fun a f => q_mv 1 28015 rfl (by kernel_rfl) f rfl rfl rfl fun a f => q_mv 5 28015 rfl (by kernel_rfl) f rfl rfl rfl fun a f => q_mv 6 28015 rfl (by kernel_rfl) f rfl rfl rfl fun a f => q_p 7 28015 rfl (by kernel_rfl) f rfl rfl rfl (fun _ => r_int (f.eval rfl) (f.eval rfl) b_sub) fun a f => ?_
           obtain ⟨db, dc, cO⟩ := bind_some cO
           refine q_own_at (i := 8) 28015 0 m cR rfl T32 dc rfl (by kernel_rfl) rfl f rfl rfl rfl rfl fun dd a de f => q_own_load (i := 9) 28015 0 cR rfl Pl2 de dc rfl (by kernel_rfl) rfl f rfl rfl rfl fun df a dg f => ?_
           subst dg
           refine q_mv 10 28015 rfl (by kernel_rfl) f rfl rfl rfl fun a f => q_mv 11 28015 rfl (by kernel_rfl) f rfl rfl rfl fun a f => ?_
           obtain ⟨dh, di, cO⟩ := bind_some cO
           refine q_own_at (i := 12) 28015 0 m cR rfl T32 di rfl (by kernel_rfl) rfl f rfl rfl rfl rfl fun dj a dk f => q_own_load (i := 13) 28015 0 cR rfl Pl2 dk di rfl (by kernel_rfl) rfl f rfl rfl rfl fun dl a dm f => ?_
           subst dm
           obtain ⟨dn, dp, cO⟩ := bind_some cO
           refine q_own_at (i := 14) 28015 0 m cR rfl T32 dp rfl (by kernel_rfl) rfl f rfl rfl rfl rfl fun dq a dr f => q_end fun ds w dt m => ?_
           have cR := od1 dt cR
           refine l_own_store 0 m cR rfl Tryd.sizeOf2 f rfl rfl dr dp rfl rfl rfl fun du w m dv => ?_
           obtain ⟨dw, dx, cO⟩ := bind_some cO
           refine l_own_at 0 m dv rfl T32 f rfl rfl rfl dx fun dy a dz f => l_own_store 0 m dv rfl Tryd.sizeOf2 f rfl rfl dz dx rfl rfl rfl fun dA w m dB => l_nil (k_region ?_)
           refine l_mv f rfl rfl fun a f => l_in f rfl rfl rfl b_add fun a f => l_as f rfl rfl fun a f => l_nil ?_
           obtain rfl := sj cO
           exact ⟨_, rfl, _, _, rfl, _, dA, (GLe.trans cQ (GLe.trans c9 dt)), f.weak ⟨rfl, rfl, rfl, rfl, rfl, rfl, trivial⟩, m, dB⟩
         ·refine k_false f rfl cS ?_
          refine k_exit rfl ?_
          obtain rfl := sj cO
          obtain rfl := cP _ rfl
          exact ⟨_, rfl, _, cM, cQ, f.weak ⟨rfl, rfl, rfl, rfl, rfl, trivial⟩, m, cR⟩
        ·rintro a w ⟨cF, rfl, cG, cH, dC, f, m, dD⟩
         refine k_region ?_
         refine l_mv f rfl rfl fun a f => l_in f rfl rfl rfl b_add fun a f => l_as f rfl rfl fun a f => l_nil ?_
         obtain rfl := sj am
         exact ⟨_, rfl, _, _, _, rfl, _, cH, (GLe.trans ao (GLe.trans a0 (GLe.trans bk (GLe.trans cA dC)))), f.weak ⟨rfl, rfl, rfl, rfl, rfl, trivial⟩, m, dD⟩
       ·refine k_false f rfl cC ?_
        refine k_skip ?_
        refine k_region ?_
        refine l_mv f rfl rfl fun a f => l_in f rfl rfl rfl b_add fun a f => l_as f rfl rfl fun a f => l_nil ?_
        obtain rfl := sj am
        exact ⟨_, rfl, _, _, _, rfl, _, bx, (GLe.trans ao (GLe.trans a0 (GLe.trans bk cA))), f.weak ⟨rfl, rfl, rfl, rfl, rfl, trivial⟩, m, cB⟩
  ·refine k_false f rfl aq ?_
   refine k_exit rfl ?_
   obtain rfl := sj am
   obtain rfl := an _ rfl
   exact ⟨_, rfl, _, rfl, _, ak, ao, f.weak trivial, m, ap⟩
 ·rintro a w ⟨_, rfl, ac, rfl, ad, ae, dE, f, m, dF⟩
  refine k_seq (k_region ?_)
  refine l_as f rfl rfl fun a f => l_nil ?_
  refine k_ret ?_
  obtain rfl := sj hd
  exact ⟨[(.bool false)], ⟨f.get _ _ rfl, trivial⟩, f.defers, _, [ae], dE, m, _, rfl, rfl, dF⟩

theorem Wk.i0 {W w : World} {G : GH} {H : List Itm} {v0 : Value} {it0 : Itm} {x0 : (List Int)} {x1 : Int} {x2 : Int} {x3 : Int} (m : Mem W G w (it0 :: H)) (o0 : Ow (RI .i64) 2 G it0 v0 x0) {y : Int × ((List Int))} (hd : D.i0 x0 x1 x2 x3 = some y) :
  Calls Tryd.prog 109 #[v0, (.int .i64 x1), (.int .i64 x2), (.int .i64 x3)] w (Res W G H (fun G' Ho v => ∃ i0 : Itm, Ho = [i0] ∧ v = (.int .i64 y.1) ∧ Ow (RI .i64) 2 G' i0 v0 y.2)) := by
 refine calls_b (args := [v0, (.int .i64 x1), (.int .i64 x2), (.int .i64 x3)]) (N := 84) [.tmp 8] Tryd.func109 rfl rfl (Nat.le_of_ble_eq_true rfl) rfl fun a f => ?_
 unfold D.i0 at hd
 refine k_seq (k_region ?_)
 refine l_as f rfl rfl fun a f => l_nil (k_seq ?_)
 refine k_draw0 Follows m ?_
 refine p_p 2 rfl (by kernel_rfl) f rfl rfl rfl (fun _ => r_move (f.eval rfl)) fun a f => p_p 3 rfl (by kernel_rfl) f rfl rfl rfl (fun _ => r_move (f.eval rfl)) fun a f => k_draw1 12013 11 (by kernel_rfl) rfl ?_
 refine q_mv 0 12013 rfl (by kernel_rfl) f rfl rfl rfl fun a f => q_mv 1 12013 rfl (by kernel_rfl) f rfl rfl rfl fun a f => q_mv 4 12013 rfl (by kernel_rfl) f rfl rfl rfl fun a f => q_mv 5 12013 rfl (by kernel_rfl) f rfl rfl rfl fun a f => ?_
 obtain ⟨aa, ab, hd⟩ := bind_some hd
 refine q_own_at (i := 6) 12013 0 m o0 rfl T32 ab rfl (by kernel_rfl) rfl f rfl rfl rfl rfl fun ac a ad f => q_own_load (i := 7) 12013 0 o0 rfl Pl2 ad ab rfl (by kernel_rfl) rfl f rfl rfl rfl fun ae a af f => ?_
 subst af
 refine q_mv 8 12013 rfl (by kernel_rfl) f rfl rfl rfl fun a f => q_mv 9 12013 rfl (by kernel_rfl) f rfl rfl rfl fun a f => ?_
 obtain ⟨ag, ah, hd⟩ := bind_some hd
 refine q_own_at (i := 10) 12013 0 m o0 rfl T32 ah rfl (by kernel_rfl) rfl f rfl rfl rfl rfl fun ai a aj f => q_own_load (i := 11) 12013 0 o0 rfl Pl2 aj ah rfl (by kernel_rfl) rfl f rfl rfl rfl fun ak a al f => ?_
 subst al
 obtain ⟨am, an, hd⟩ := bind_some hd
 refine q_own_at (i := 12) 12013 0 m o0 rfl T32 an rfl (by kernel_rfl) rfl f rfl rfl rfl rfl fun ao a ap f => q_end fun aq w ar m => ?_
 have o0 := od1 ar o0
 refine l_own_store 0 m o0 rfl Tryd.sizeOf2 f rfl rfl ap an rfl rfl rfl fun au w m av => ?_
 obtain ⟨aw, ax, hd⟩ := bind_some hd
 refine l_own_at 0 m av rfl T32 f rfl rfl rfl ax fun ay a az f => l_own_store 0 m av rfl Tryd.sizeOf2 f rfl rfl az ax rfl rfl rfl fun aA w m aB => l_nil (k_seq (k_region ?_))
 refine l_mv f rfl rfl fun a f => l_in f rfl rfl rfl b_add fun a f => l_mv f rfl rfl fun a f => l_in f rfl rfl rfl b_sub fun a f => l_as f rfl rfl fun a f => l_as f rfl rfl fun a f => l_nil (k_seq ?_)
 obtain ⟨aC, aD, hd⟩ := bind_some hd
 refine k_cut (fun a w => ∃ aE : List Int, ∃ aF : Int, (aE, aF) = aC ∧ ∃ (aG : GH) (aH : Itm), GLe aq aG ∧ Fr a 84 [(9, (.int .i64 aF))] ∧ Mem W aG w (aH :: H) ∧ Ow (RI .i64) 2 aG aH v0 aE) ?_ ?_
 ·refine k_block ?_
  refine k_loop (fun aI a w => ∃ aJ : List Int, ∃ aK : Int, ∃ aL : Int, (aJ, aK, aL) = aI ∧ ∃ (aM : GH) (aN : Itm), GLe aq aM ∧ Fr a 84 [(0, v0), (1, (.int .i64 x1)), (9, (.int .i64 aK)), (10, (.int .i64 aL))] ∧ Mem W aM w (aN :: H) ∧ Ow (RI .i64) 2 aM aN v0 aJ) aD ⟨_, _, _, rfl, _, aA, (GLe.refl _), f.weak ⟨rfl, rfl, rfl, rfl, trivial⟩, m, aB⟩ ?_
  clear aD f m
  rintro aI aO aP aQ a w ⟨aJ, aK, aL, rfl, aM, aN, aR, f, m, aS⟩
  refine k_block (k_seq ?_)
  obtain ⟨aT, aU, aP⟩ := bind_some aP
  refine k_cut (fun a w => ∃ aV : Int, aV = aT ∧ ∃ (aW : GH), GLe aM aW ∧ Fr a 84 [(0, v0), (1, (.int .i64 x1)), (9, (.int .i64 aV)), (10, (.int .i64 aL))] ∧ Mem W aW w (aN :: H)) ?_ ?_
  ·refine k_block ?_
   refine k_loop (fun aX a w => ∃ aY : Int, aY = aX ∧ ∃ (aZ : GH), GLe aM aZ ∧ Fr a 84 [(0, v0), (1, (.int .i64 x1)), (9, (.int .i64 aY)), (10, (.int .i64 aL))] ∧ Mem W aZ w (aN :: H)) aU ⟨_, rfl, _, (GLe.refl _), f.weak ⟨rfl, rfl, rfl, rfl, trivial⟩, m⟩ ?_
   clear aU f m
   rintro aX a0 a1 a2 a w ⟨aY, rfl, aZ, a3, f, m⟩
   have aS := od1 a3 aS
   refine k_seq (k_seq ?_)
   refine k_draw 15 Follows (by kernel_rfl) m ?_
   refine q_mv 0 15 rfl (by kernel_rfl) f rfl rfl rfl fun a f => q_mv 1 15 rfl (by kernel_rfl) f rfl rfl rfl fun a f => q_p 2 15 rfl (by kernel_rfl) f rfl rfl rfl (fun _ => r_int (f.eval rfl) (f.eval rfl) b_leq) fun a f => q_mv 3 15 rfl (by kernel_rfl) f rfl rfl rfl fun a f => ?_
   obtain ⟨a4, a5, a1⟩ := bind_some a1
   refine q_cut (fuel' := 0) (listed' := #[true, true, true, true, true, true, true, true, true, true, true, true, true, true, true]) (fun a => Fr a 84 [(0, v0), (1, (.int .i64 x1)), (9, (.int .i64 aY)), (10, (.int .i64 aL)), (29, (.int .i64 aY)), (30, (.int .i64 aL)), (31, (.bool (decide (aY ≤ aL)))), (32, (.bool (decide (aY ≤ aL)))), (43, (.bool a4))]) ?_ ?_
   ·intro a f
    refine q_end fun a6 w a7 m => ?_
    have aS := od1 a7 aS
    refine l_nil ?_
    rcases cond_some a1 with ⟨a8, a1⟩ | ⟨a8, a1⟩
    ·refine k_true f rfl a8 ?_
     refine k_skip ?_
     refine k_block (k_region ?_)
     refine l_mv f rfl rfl fun a f => l_in f rfl rfl rfl b_add fun a f => l_as f rfl rfl fun a f => l_nil ?_
     obtain rfl := sj a1
     exact ⟨_, rfl, _, rfl, _, (GLe.trans a3 a7), f.weak ⟨rfl, rfl, rfl, rfl, trivial⟩, m⟩
    ·refine k_false f rfl a8 ?_
     refine k_exit rfl ?_
     obtain rfl := sj a1
     obtain rfl := a2 _ rfl
     exact ⟨_, rfl, _, (GLe.trans a3 a7), f.weak ⟨rfl, rfl, rfl, rfl, trivial⟩, m⟩
   ·intro a9
    rcases cond_some a5 with ⟨ba, a5⟩ | ⟨ba, a5⟩
    ·refine q_mv 4 15 rfl (by kernel_rfl) f (wanted_of f rfl rfl rfl ba) rfl rfl fun a f => ?_
     refine q_mv 5 15 rfl (by kernel_rfl) f (wanted_of f rfl rfl rfl ba) rfl rfl fun a f => ?_
     obtain ⟨bb, bc, a5⟩ := bind_some a5
     refine q_own_at (i := 6) 15 0 m aS rfl T32 bc rfl (by kernel_rfl) rfl f (wanted_of f rfl rfl rfl ba) rfl rfl rfl fun bd a be f => q_own_load (i := 7) 15 0 aS rfl Pl2 be bc rfl (by kernel_rfl) rfl f (wanted_of f rfl rfl rfl ba) rfl rfl fun bf a bg f => ?_
     subst bg
     refine q_mv 8 15 rfl (by kernel_rfl) f (wanted_of f rfl rfl rfl ba) rfl rfl fun a f => q_mv 9 15 rfl (by kernel_rfl) f (wanted_of f rfl rfl rfl ba) rfl rfl fun a f => ?_
     obtain ⟨bh, bi, a5⟩ := bind_some a5
     refine q_own_at (i := 10) 15 0 m aS rfl T32 bi rfl (by kernel_rfl) rfl f (wanted_of f rfl rfl rfl ba) rfl rfl rfl fun bj a bk f => q_own_load (i := 11) 15 0 aS rfl Pl2 bk bi rfl (by kernel_rfl) rfl f (wanted_of f rfl rfl rfl ba) rfl rfl fun bl a bm f => ?_
     subst bm
     obtain ⟨bn, bo, a5⟩ := bind_some a5
     refine q_call (i := 12) 15 rfl (by kernel_rfl) rfl f (wanted_of f rfl rfl rfl ba) rfl rfl Tryd.call108 (fun _ _ w bp m => Wk.a m  bo) fun a f => q_p 13 15 rfl (by kernel_rfl) f (wanted_of f rfl rfl rfl ba) rfl rfl (fun _ => r_not (f.eval rfl)) fun a f => q_p 14 15 rfl (by kernel_rfl) f rfl rfl rfl (fun _ => r_pickT (f.eval rfl) ba (f.eval rfl)) fun a f => ?_
     obtain rfl := sj a5
     exact a9 _ (f.weak ⟨rfl, rfl, rfl, rfl, rfl, rfl, rfl, rfl, rfl, trivial⟩)
    ·refine q_ng 4 15 rfl (by kernel_rfl) f rfl rfl ba rfl fun a f => ?_
     refine q_ng 5 15 rfl (by kernel_rfl) f rfl rfl ba rfl fun a f => q_ng 6 15 rfl (by kernel_rfl) f rfl rfl ba rfl fun a f => q_ng 7 15 rfl (by kernel_rfl) f rfl rfl ba rfl fun a f => q_ng 8 15 rfl (by kernel_rfl) f rfl rfl ba rfl fun a f => q_ng 9 15 rfl (by kernel_rfl) f rfl rfl ba rfl fun a f => q_ng 10 15 rfl (by kernel_rfl) f rfl rfl ba rfl fun a f => q_ng 11 15 rfl (by kernel_rfl) f rfl rfl ba rfl fun a f => q_ng 12 15 rfl (by kernel_rfl) f rfl rfl ba rfl fun a f => q_ng 13 15 rfl (by kernel_rfl) f rfl rfl ba rfl fun a f => q_p 14 15 rfl (by kernel_rfl) f rfl rfl rfl (fun _ => r_pickF (f.eval rfl) ba (f.eval rfl)) fun a f => ?_
     obtain rfl := sj a5
     exact a9 _ (f.weak ⟨rfl, rfl, rfl, rfl, rfl, rfl, rfl, rfl, rfl, trivial⟩)
  ·rintro a w ⟨aV, rfl, aW, bq, f, m⟩
   have aS := od1 bq aS
   refine k_seq ?_
   obtain ⟨br, bs, aP⟩ := bind_some aP
   refine k_cut (fun a w => ∃ bt : Int, bt = br ∧ ∃ (bu : GH), GLe aW bu ∧ Fr a 84 [(0, v0), (1, (.int .i64 x1)), (9, (.int .i64 aV)), (10, (.int .i64 bt))] ∧ Mem W bu w (aN :: H)) ?_ ?_
   ·refine k_block ?_
    refine k_loop (fun bv a w => ∃ bw : Int, bw = bv ∧ ∃ (bx : GH), GLe aW bx ∧ Fr a 84 [(0, v0), (1, (.int .i64 x1)), (9, (.int .i64 aV)), (10, (.int .i64 bw))] ∧ Mem W bx w (aN :: H)) bs ⟨_, rfl, _, (GLe.refl _), f.weak ⟨rfl, rfl, rfl, rfl, trivial⟩, m⟩ ?_
    clear bs f m
    rintro bv bz bA bB a w ⟨bw, rfl, bx, bC, f, m⟩
    have aS := od1 bC aS
    refine k_seq (k_seq ?_)
    refine k_draw 14 Follows (by kernel_rfl) m ?_
    refine q_mv 0 14 rfl (by kernel_rfl) f rfl rfl rfl fun a f => q_mv 1 14 rfl (by kernel_rfl) f rfl rfl rfl fun a f => q_p 2 14 rfl (by kernel_rfl) f rfl rfl rfl (fun _ => r_int (f.eval rfl) (f.eval rfl) b_leq) fun a f => q_mv 3 14 rfl (by kernel_rfl) f rfl rfl rfl fun a f => ?_
    obtain ⟨bD, bE, bA⟩ := bind_some bA
    refine q_cut (fuel' := 0) (listed' := #[true, true, true, true, true, true, true, true, true, true, true, true, true, true]) (fun a => Fr a 84 [(0, v0), (1, (.int .i64 x1)), (9, (.int .i64 aV)), (10, (.int .i64 bw)), (46, (.int .i64 aV)), (47, (.int .i64 bw)), (48, (.bool (decide (aV ≤ bw)))), (49, (.bool (decide (aV ≤ bw)))), (59, (.bool bD))]) ?_ ?_
    ·intro a f
     refine q_end fun bF w bG m => ?_
     have aS := od1 bG aS
     refine l_nil ?_
     rcases cond_some bA with ⟨bH, bA⟩ | ⟨bH, bA⟩
     ·refine k_true f rfl bH ?_
      refine k_skip ?_
      refine k_block (k_region ?_)
      refine l_mv f rfl rfl fun a f => l_in f rfl rfl rfl b_sub fun a f => l_as f rfl rfl fun a f => l_nil ?_
      obtain rfl := sj bA
      exact ⟨_, rfl, _, rfl, _, (GLe.trans bC bG), f.weak ⟨rfl, rfl, rfl, rfl, trivial⟩, m⟩
     ·refine k_false f rfl bH ?_
      refine k_exit rfl ?_
      obtain rfl := sj bA
      obtain rfl := bB _ rfl
      exact ⟨_, rfl, _, (GLe.trans bC bG), f.weak ⟨rfl, rfl, rfl, rfl, trivial⟩, m⟩
    ·intro bI
     rcases cond_some bE with ⟨bJ, bE⟩ | ⟨bJ, bE⟩
     ·refine q_mv 4 14 rfl (by kernel_rfl) f (wanted_of f rfl rfl rfl bJ) rfl rfl fun a f => ?_
      refine q_mv 5 14 rfl (by kernel_rfl) f (wanted_of f rfl rfl rfl bJ) rfl rfl fun a f => ?_
      obtain ⟨bK, bL, bE⟩ := bind_some bE
      refine q_own_at (i := 6) 14 0 m aS rfl T32 bL rfl (by kernel_rfl) rfl f (wanted_of f rfl rfl rfl bJ) rfl rfl rfl fun bM a bN f => q_own_load (i := 7) 14 0 aS rfl Pl2 bN bL rfl (by kernel_rfl) rfl f (wanted_of f rfl rfl rfl bJ) rfl rfl fun bO a bP f => ?_
      subst bP
      refine q_mv 8 14 rfl (by kernel_rfl) f (wanted_of f rfl rfl rfl bJ) rfl rfl fun a f => q_mv 9 14 rfl (by kernel_rfl) f (wanted_of f rfl rfl rfl bJ) rfl rfl fun a f => ?_
      obtain ⟨bQ, bR, bE⟩ := bind_some bE
      refine q_own_at (i := 10) 14 0 m aS rfl T32 bR rfl (by kernel_rfl) rfl f (wanted_of f rfl rfl rfl bJ) rfl rfl rfl fun bS a bT f => q_own_load (i := 11) 14 0 aS rfl Pl2 bT bR rfl (by kernel_rfl) rfl f (wanted_of f rfl rfl rfl bJ) rfl rfl fun bU a bV f => ?_
      subst bV
      obtain ⟨bW, bX, bE⟩ := bind_some bE
      refine q_call (i := 12) 14 rfl (by kernel_rfl) rfl f (wanted_of f rfl rfl rfl bJ) rfl rfl Tryd.call108 (fun _ _ w bY m => Wk.a m  bX) fun a f => q_p 13 14 rfl (by kernel_rfl) f rfl rfl rfl (fun _ => r_pickT (f.eval rfl) bJ (f.eval rfl)) fun a f => ?_
      obtain rfl := sj bE
      exact bI _ (f.weak ⟨rfl, rfl, rfl, rfl, rfl, rfl, rfl, rfl, rfl, trivial⟩)
     ·refine q_ng 4 14 rfl (by kernel_rfl) f rfl rfl bJ rfl fun a f => ?_
      refine q_ng 5 14 rfl (by kernel_rfl) f rfl rfl bJ rfl fun a f => q_ng 6 14 rfl (by kernel_rfl) f rfl rfl bJ rfl fun a f => q_ng 7 14 rfl (by kernel_rfl) f rfl rfl bJ rfl fun a f => q_ng 8 14 rfl (by kernel_rfl) f rfl rfl bJ rfl fun a f => q_ng 9 14 rfl (by kernel_rfl) f rfl rfl bJ rfl fun a f => q_ng 10 14 rfl (by kernel_rfl) f rfl rfl bJ rfl fun a f => q_ng 11 14 rfl (by kernel_rfl) f rfl rfl bJ rfl fun a f => q_ng 12 14 rfl (by kernel_rfl) f rfl rfl bJ rfl fun a f => q_p 13 14 rfl (by kernel_rfl) f rfl rfl rfl (fun _ => r_pickF (f.eval rfl) bJ (f.eval rfl)) fun a f => ?_
      obtain rfl := sj bE
      exact bI _ (f.weak ⟨rfl, rfl, rfl, rfl, rfl, rfl, rfl, rfl, rfl, trivial⟩)
   ·rintro a w ⟨bt, rfl, bu, bZ, f, m⟩
    have aS := od1 bZ aS
    refine k_seq (k_seq (k_region ?_))
    refine l_mv f rfl rfl fun a f => l_mv f rfl rfl fun a f => l_in f rfl rfl rfl b_gtr fun a f => l_nil ?_
    rcases cond_some aP with ⟨b0, aP⟩ | ⟨b0, aP⟩
    ·refine k_true f rfl b0 ?_
     refine k_exit rfl ?_
     obtain rfl := sj aP
     obtain rfl := aQ _ rfl
     exact ⟨_, _, rfl, _, aN, (GLe.trans aR (GLe.trans bq bZ)), f.weak ⟨rfl, trivial⟩, m, aS⟩
    ·refine k_false f rfl b0 ?_
     refine k_skip ?_
     refine k_seq ?_
     refine k_draw0 Follows m ?_
     refine p_p 2 rfl (by kernel_rfl) f rfl rfl rfl (fun _ => r_move (f.eval rfl)) fun a f => p_p 3 rfl (by kernel_rfl) f rfl rfl rfl (fun _ => r_move (f.eval rfl)) fun a f => k_draw1 12013 11 (by kernel_rfl) rfl ?_
     refine q_mv 0 12013 rfl (by kernel_rfl) f rfl rfl rfl fun a f => q_mv 1 12013 rfl (by kernel_rfl) f rfl rfl rfl fun a f => q_mv 4 12013 rfl (by kernel_rfl) f rfl rfl rfl fun a f => q_mv 5 12013 rfl (by kernel_rfl) f rfl rfl rfl fun a f => ?_
     obtain ⟨b1, b2, aP⟩ := bind_some aP
     refine q_own_at (i := 6) 12013 0 m aS rfl T32 b2 rfl (by kernel_rfl) rfl f rfl rfl rfl rfl fun b3 a b4 f => q_own_load (i := 7) 12013 0 aS rfl Pl2 b4 b2 rfl (by kernel_rfl) rfl f rfl rfl rfl fun b5 a b6 f => ?_
     subst b6
     refine q_mv 8 12013 rfl (by kernel_rfl) f rfl rfl rfl fun a f => q_mv 9 12013 rfl (by kernel_rfl) f rfl rfl rfl fun a f => ?_
     obtain ⟨b7, b8, aP⟩ := bind_some aP
     refine q_own_at (i := 10) 12013 0 m aS rfl T32 b8 rfl (by kernel_rfl) rfl f rfl rfl rfl rfl fun b9 a ca f => q_own_load (i := 11) 12013 0 aS rfl Pl2 ca b8 rfl (by kernel_rfl) rfl f rfl rfl rfl fun cb a cc f => ?_
     subst cc
     obtain ⟨cd, ce, aP⟩ := bind_some aP
     refine q_own_at (i := 12) 12013 0 m aS rfl T32 ce rfl (by kernel_rfl) rfl f rfl rfl rfl rfl fun cf a cg f => q_end fun ch w ci m => ?_
     have aS := od1 ci aS
     refine l_own_store 0 m aS rfl Tryd.sizeOf2 f rfl rfl cg ce rfl rfl rfl fun cj w m ck => ?_
     obtain ⟨cl, cm, aP⟩ := bind_some aP
     refine l_own_at 0 m ck rfl T32 f rfl rfl rfl cm fun cn a co f => l_own_store 0 m ck rfl Tryd.sizeOf2 f rfl rfl co cm rfl rfl rfl fun cp w m cq => l_nil (k_seq (k_region ?_))
     refine l_mv f rfl rfl fun a f => l_in f rfl rfl rfl b_add fun a f => l_as f rfl rfl fun a f => l_nil (k_region ?_)
     refine l_mv f rfl rfl fun a f => l_in f rfl rfl rfl b_sub fun a f => l_as f rfl rfl fun a f => l_nil ?_
     obtain rfl := sj aP
     exact ⟨_, rfl, _, _, _, rfl, _, cp, (GLe.trans aR (GLe.trans bq (GLe.trans bZ ci))), f.weak ⟨rfl, rfl, rfl, rfl, trivial⟩, m, cq⟩
 ·rintro a w ⟨aE, aF, rfl, aG, aH, cr, f, m, cs⟩
  refine k_seq (k_region ?_)
  refine l_mv f rfl rfl fun a f => l_as f rfl rfl fun a f => l_nil ?_
  refine k_ret ?_
  obtain rfl := sj hd
  exact ⟨[(.int .i64 aF)], ⟨f.get _ _ rfl, trivial⟩, f.defers, _, [aH], (GLe.trans ar cr), m, _, rfl, rfl, cs⟩

theorem Wk.s0 {W w : World} {G : GH} {H : List Itm} {v0 : Value} {it0 : Itm} {x0 : (List Int)} {x1 : Int} {x2 : Int} {x3 : Int} (m : Mem W G w (it0 :: H)) (o0 : Ow (RI .i64) 2 G it0 v0 x0) {y : Int × Bool × ((List Int))} (hd : D.s0 x0 x1 x2 x3 = some y) :
  Calls Tryd.prog 110 #[v0, (.int .i64 x1), (.int .i64 x2), (.int .i64 x3)] w (Res W G H (fun G' Ho v => ∃ i0 : Itm, Ho = [i0] ∧ v = .tuple #[(.int .i64 y.1), (.bool y.2.1)] ∧ Ow (RI .i64) 2 G' i0 v0 y.2.2)) := by
 refine calls_b (args := [v0, (.int .i64 x1), (.int .i64 x2), (.int .i64 x3)]) (N := 168) [.tmp 8, .tmp 9] Tryd.func110 rfl rfl (Nat.le_of_ble_eq_true rfl) rfl fun a f => ?_
 unfold D.s0 at hd
 refine k_seq (k_region ?_)
 refine l_as f rfl rfl fun a f => l_as f rfl rfl fun a f => l_nil (k_seq ?_)
 refine k_draw0 Follows m ?_
 refine p_p 2 rfl (by kernel_rfl) f rfl rfl rfl (fun _ => r_move (f.eval rfl)) fun a f => p_p 3 rfl (by kernel_rfl) f rfl rfl rfl (fun _ => r_move (f.eval rfl)) fun a f => k_draw1 12013 11 (by kernel_rfl) rfl ?_
 refine q_mv 0 12013 rfl (by kernel_rfl) f rfl rfl rfl fun a f => q_mv 1 12013 rfl (by kernel_rfl) f rfl rfl rfl fun a f => q_mv 4 12013 rfl (by kernel_rfl) f rfl rfl rfl fun a f => q_mv 5 12013 rfl (by kernel_rfl) f rfl rfl rfl fun a f => ?_
 obtain ⟨aa, ab, hd⟩ := bind_some hd
 refine q_own_at (i := 6) 12013 0 m o0 rfl T32 ab rfl (by kernel_rfl) rfl f rfl rfl rfl rfl fun ac a ad f => q_own_load (i := 7) 12013 0 o0 rfl Pl2 ad ab rfl (by kernel_rfl) rfl f rfl rfl rfl fun ae a af f => ?_
 subst af
 refine q_mv 8 12013 rfl (by kernel_rfl) f rfl rfl rfl fun a f => q_mv 9 12013 rfl (by kernel_rfl) f rfl rfl rfl fun a f => ?_
 obtain ⟨ag, ah, hd⟩ := bind_some hd
 refine q_own_at (i := 10) 12013 0 m o0 rfl T32 ah rfl (by kernel_rfl) rfl f rfl rfl rfl rfl fun ai a aj f => q_own_load (i := 11) 12013 0 o0 rfl Pl2 aj ah rfl (by kernel_rfl) rfl f rfl rfl rfl fun ak a al f => ?_
 subst al
 obtain ⟨am, an, hd⟩ := bind_some hd
 refine q_own_at (i := 12) 12013 0 m o0 rfl T32 an rfl (by kernel_rfl) rfl f rfl rfl rfl rfl fun ao a ap f => q_end fun aq w ar m => ?_
 have o0 := od1 ar o0
 refine l_own_store 0 m o0 rfl Tryd.sizeOf2 f rfl rfl ap an rfl rfl rfl fun au w m av => ?_
 obtain ⟨aw, ax, hd⟩ := bind_some hd
 refine l_own_at 0 m av rfl T32 f rfl rfl rfl ax fun ay a az f => l_own_store 0 m av rfl Tryd.sizeOf2 f rfl rfl az ax rfl rfl rfl fun aA w m aB => l_nil (k_seq (k_region ?_))
 refine l_mv f rfl rfl fun a f => l_in f rfl rfl rfl b_add fun a f => l_mv f rfl rfl fun a f => l_in f rfl rfl rfl b_sub fun a f => l_as f rfl rfl fun a f => l_as f rfl rfl fun a f => l_nil (k_seq ?_)
 obtain ⟨aC, aD, hd⟩ := bind_some hd
 refine k_cut (fun a w => ∃ aE : Int, aE = aC ∧ ∃ (aF : GH), GLe aq aF ∧ Fr a 168 [(0, v0), (1, (.int .i64 x1)), (10, (.int .i64 aE)), (11, (.int .i64 (IntKind.i64.wrap (x2 - 1))))] ∧ Mem W aF w (aA :: H)) ?_ ?_
 ·refine k_block ?_
  refine k_loop (fun aG a w => ∃ aH : Int, aH = aG ∧ ∃ (aI : GH), GLe aq aI ∧ Fr a 168 [(0, v0), (1, (.int .i64 x1)), (10, (.int .i64 aH)), (11, (.int .i64 (IntKind.i64.wrap (x2 - 1))))] ∧ Mem W aI w (aA :: H)) aD ⟨_, rfl, _, (GLe.refl _), f.weak ⟨rfl, rfl, rfl, rfl, trivial⟩, m⟩ ?_
  clear aD f m
  rintro aG aJ aK aL a w ⟨aH, rfl, aI, aM, f, m⟩
  have aB := od1 aM aB
  refine k_seq (k_seq ?_)
  refine k_draw 14 Follows (by kernel_rfl) m ?_
  refine q_mv 0 14 rfl (by kernel_rfl) f rfl rfl rfl fun a f => q_mv 1 14 rfl (by kernel_rfl) f rfl rfl rfl fun a f => q_p 2 14 rfl (by kernel_rfl) f rfl rfl rfl (fun _ => r_int (f.eval rfl) (f.eval rfl) b_leq) fun a f => q_mv 3 14 rfl (by kernel_rfl) f rfl rfl rfl fun a f => ?_
  obtain ⟨aN, aO, aK⟩ := bind_some aK
  refine q_cut (fuel' := 0) (listed' := #[true, true, true, true, true, true, true, true, true, true, true, true, true, true]) (fun a => Fr a 168 [(0, v0), (1, (.int .i64 x1)), (10, (.int .i64 aH)), (11, (.int .i64 (IntKind.i64.wrap (x2 - 1)))), (30, (.int .i64 aH)), (31, (.int .i64 (IntKind.i64.wrap (x2 - 1)))), (32, (.bool (decide (aH ≤ (IntKind.i64.wrap (x2 - 1)))))), (33, (.bool (decide (aH ≤ (IntKind.i64.wrap (x2 - 1)))))), (43, (.bool aN))]) ?_ ?_
  ·intro a f
   refine q_end fun aP w aQ m => ?_
   have aB := od1 aQ aB
   refine l_nil ?_
   rcases cond_some aK with ⟨aR, aK⟩ | ⟨aR, aK⟩
   ·refine k_true f rfl aR ?_
    refine k_skip ?_
    refine k_block (k_region ?_)
    refine l_mv f rfl rfl fun a f => l_in f rfl rfl rfl b_add fun a f => l_as f rfl rfl fun a f => l_nil ?_
    obtain rfl := sj aK
    exact ⟨_, rfl, _, rfl, _, (GLe.trans aM aQ), f.weak ⟨rfl, rfl, rfl, rfl, trivial⟩, m⟩
   ·refine k_false f rfl aR ?_
    refine k_exit rfl ?_
    obtain rfl := sj aK
    obtain rfl := aL _ rfl
    exact ⟨_, rfl, _, (GLe.trans aM aQ), f.weak ⟨rfl, rfl, rfl, rfl, trivial⟩, m⟩
  ·intro aS
   rcases cond_some aO with ⟨aT, aO⟩ | ⟨aT, aO⟩
   ·refine q_mv 4 14 rfl (by kernel_rfl) f (wanted_of f rfl rfl rfl aT) rfl rfl fun a f => ?_
    refine q_mv 5 14 rfl (by kernel_rfl) f (wanted_of f rfl rfl rfl aT) rfl rfl fun a f => ?_
    obtain ⟨aU, aV, aO⟩ := bind_some aO
    refine q_own_at (i := 6) 14 0 m aB rfl T32 aV rfl (by kernel_rfl) rfl f (wanted_of f rfl rfl rfl aT) rfl rfl rfl fun aW a aX f => q_own_load (i := 7) 14 0 aB rfl Pl2 aX aV rfl (by kernel_rfl) rfl f (wanted_of f rfl rfl rfl aT) rfl rfl fun aY a aZ f => ?_
    subst aZ
    refine q_mv 8 14 rfl (by kernel_rfl) f (wanted_of f rfl rfl rfl aT) rfl rfl fun a f => q_mv 9 14 rfl (by kernel_rfl) f (wanted_of f rfl rfl rfl aT) rfl rfl fun a f => ?_
    obtain ⟨a0, a1, aO⟩ := bind_some aO
    refine q_own_at (i := 10) 14 0 m aB rfl T32 a1 rfl (by kernel_rfl) rfl f (wanted_of f rfl rfl rfl aT) rfl rfl rfl fun a2 a a3 f => q_own_load (i := 11) 14 0 aB rfl Pl2 a3 a1 rfl (by kernel_rfl) rfl f (wanted_of f rfl rfl rfl aT) rfl rfl fun a4 a a5 f => ?_
    subst a5
    obtain ⟨a6, a7, aO⟩ := bind_some aO
    refine q_call (i := 12) 14 rfl (by kernel_rfl) rfl f (wanted_of f rfl rfl rfl aT) rfl rfl Tryd.call108 (fun _ _ w a8 m => Wk.a m  a7) fun a f => q_p 13 14 rfl (by kernel_rfl) f rfl rfl rfl (fun _ => r_pickT (f.eval rfl) aT (f.eval rfl)) fun a f => ?_
    obtain rfl := sj aO
    exact aS _ (f.weak ⟨rfl, rfl, rfl, rfl, rfl, rfl, rfl, rfl, rfl, trivial⟩)
   ·refine q_ng 4 14 rfl (by kernel_rfl) f rfl rfl aT rfl fun a f => ?_
    refine q_ng 5 14 rfl (by kernel_rfl) f rfl rfl aT rfl fun a f => q_ng 6 14 rfl (by kernel_rfl) f rfl rfl aT rfl fun a f => q_ng 7 14 rfl (by kernel_rfl) f rfl rfl aT rfl fun a f => q_ng 8 14 rfl (by kernel_rfl) f rfl rfl aT rfl fun a f => q_ng 9 14 rfl (by kernel_rfl) f rfl rfl aT rfl fun a f => q_ng 10 14 rfl (by kernel_rfl) f rfl rfl aT rfl fun a f => q_ng 11 14 rfl (by kernel_rfl) f rfl rfl aT rfl fun a f => q_ng 12 14 rfl (by kernel_rfl) f rfl rfl aT rfl fun a f => q_p 13 14 rfl (by kernel_rfl) f rfl rfl rfl (fun _ => r_pickF (f.eval rfl) aT (f.eval rfl)) fun a f => ?_
    obtain rfl := sj aO
    exact aS _ (f.weak ⟨rfl, rfl, rfl, rfl, rfl, rfl, rfl, rfl, rfl, trivial⟩)
 ·rintro a w ⟨aE, rfl, aF, a9, f, m⟩
  have aB := od1 a9 aB
  refine k_seq ?_
  obtain ⟨ba, bb, hd⟩ := bind_some hd
  refine k_cut (fun a w => ∃ bc : Int, bc = ba ∧ ∃ (bd : GH), GLe aF bd ∧ Fr a 168 [(0, v0), (1, (.int .i64 x1)), (10, (.int .i64 aE)), (11, (.int .i64 bc))] ∧ Mem W bd w (aA :: H)) ?_ ?_
  ·refine k_block ?_
   refine k_loop (fun be a w => ∃ bf : Int, bf = be ∧ ∃ (bg : GH), GLe aF bg ∧ Fr a 168 [(0, v0), (1, (.int .i64 x1)), (10, (.int .i64 aE)), (11, (.int .i64 bf))] ∧ Mem W bg w (aA :: H)) bb ⟨_, rfl, _, (GLe.refl _), f.weak ⟨rfl, rfl, rfl, rfl, trivial⟩, m⟩ ?_
   clear bb f m
   rintro be bh bi bj a w ⟨bf, rfl, bg, bk, f, m⟩
   have aB := od1 bk aB
   refine k_seq (k_seq ?_)
   refine k_draw 15 Follows (by kernel_rfl) m ?_
   refine q_mv 0 15 rfl (by kernel_rfl) f rfl rfl rfl fun a f => q_mv 1 15 rfl (by kernel_rfl) f rfl rfl rfl fun a f => q_p 2 15 rfl (by kernel_rfl) f rfl rfl rfl (fun _ => r_int (f.eval rfl) (f.eval rfl) b_leq) fun a f => q_mv 3 15 rfl (by kernel_rfl) f rfl rfl rfl fun a f => ?_
   obtain ⟨bl, bm, bi⟩ := bind_some bi
   refine q_cut (fuel' := 0) (listed' := #[true, true, true, true, true, true, true, true, true, true, true, true, true, true, true]) (fun a => Fr a 168 [(0, v0), (1, (.int .i64 x1)), (10, (.int .i64 aE)), (11, (.int .i64 bf)), (46, (.int .i64 aE)), (47, (.int .i64 bf)), (48, (.bool (decide (aE ≤ bf)))), (49, (.bool (decide (aE ≤ bf)))), (60, (.bool bl))]) ?_ ?_
   ·intro a f
    refine q_end fun bn w bo m => ?_
    have aB := od1 bo aB
    refine l_nil ?_
    rcases cond_some bi with ⟨bp, bi⟩ | ⟨bp, bi⟩
    ·refine k_true f rfl bp ?_
     refine k_skip ?_
     refine k_block (k_region ?_)
     refine l_mv f rfl rfl fun a f => l_in f rfl rfl rfl b_sub fun a f => l_as f rfl rfl fun a f => l_nil ?_
     obtain rfl := sj bi
     exact ⟨_, rfl, _, rfl, _, (GLe.trans bk bo), f.weak ⟨rfl, rfl, rfl, rfl, trivial⟩, m⟩
    ·refine k_false f rfl bp ?_
     refine k_exit rfl ?_
     obtain rfl := sj bi
     obtain rfl := bj _ rfl
     exact ⟨_, rfl, _, (GLe.trans bk bo), f.weak ⟨rfl, rfl, rfl, rfl, trivial⟩, m⟩
   ·intro bq
    rcases cond_some bm with ⟨br, bm⟩ | ⟨br, bm⟩
    ·refine q_mv 4 15 rfl (by kernel_rfl) f (wanted_of f rfl rfl rfl br) rfl rfl fun a f => ?_
     refine q_mv 5 15 rfl (by kernel_rfl) f (wanted_of f rfl rfl rfl br) rfl rfl fun a f => ?_
     obtain ⟨bs, bt, bm⟩ := bind_some bm
     refine q_own_at (i := 6) 15 0 m aB rfl T32 bt rfl (by kernel_rfl) rfl f (wanted_of f rfl rfl rfl br) rfl rfl rfl fun bu a bv f => q_own_load (i := 7) 15 0 aB rfl Pl2 bv bt rfl (by kernel_rfl) rfl f (wanted_of f rfl rfl rfl br) rfl rfl fun bw a bx f => ?_
     subst bx
     refine q_mv 8 15 rfl (by kernel_rfl) f (wanted_of f rfl rfl rfl br) rfl rfl fun a f => q_mv 9 15 rfl (by kernel_rfl) f (wanted_of f rfl rfl rfl br) rfl rfl fun a f => ?_
     obtain ⟨bz, bA, bm⟩ := bind_some bm
     refine q_own_at (i := 10) 15 0 m aB rfl T32 bA rfl (by kernel_rfl) rfl f (wanted_of f rfl rfl rfl br) rfl rfl rfl fun bB a bC f => q_own_load (i := 11) 15 0 aB rfl Pl2 bC bA rfl (by kernel_rfl) rfl f (wanted_of f rfl rfl rfl br) rfl rfl fun bD a bE f => ?_
     subst bE
     obtain ⟨bF, bG, bm⟩ := bind_some bm
     refine q_call (i := 12) 15 rfl (by kernel_rfl) rfl f (wanted_of f rfl rfl rfl br) rfl rfl Tryd.call108 (fun _ _ w bH m => Wk.a m  bG) fun a f => q_p 13 15 rfl (by kernel_rfl) f (wanted_of f rfl rfl rfl br) rfl rfl (fun _ => r_not (f.eval rfl)) fun a f => q_p 14 15 rfl (by kernel_rfl) f rfl rfl rfl (fun _ => r_pickT (f.eval rfl) br (f.eval rfl)) fun a f => ?_
     obtain rfl := sj bm
     exact bq _ (f.weak ⟨rfl, rfl, rfl, rfl, rfl, rfl, rfl, rfl, rfl, trivial⟩)
    ·refine q_ng 4 15 rfl (by kernel_rfl) f rfl rfl br rfl fun a f => ?_
     refine q_ng 5 15 rfl (by kernel_rfl) f rfl rfl br rfl fun a f => q_ng 6 15 rfl (by kernel_rfl) f rfl rfl br rfl fun a f => q_ng 7 15 rfl (by kernel_rfl) f rfl rfl br rfl fun a f => q_ng 8 15 rfl (by kernel_rfl) f rfl rfl br rfl fun a f => q_ng 9 15 rfl (by kernel_rfl) f rfl rfl br rfl fun a f => q_ng 10 15 rfl (by kernel_rfl) f rfl rfl br rfl fun a f => q_ng 11 15 rfl (by kernel_rfl) f rfl rfl br rfl fun a f => q_ng 12 15 rfl (by kernel_rfl) f rfl rfl br rfl fun a f => q_ng 13 15 rfl (by kernel_rfl) f rfl rfl br rfl fun a f => q_p 14 15 rfl (by kernel_rfl) f rfl rfl rfl (fun _ => r_pickF (f.eval rfl) br (f.eval rfl)) fun a f => ?_
     obtain rfl := sj bm
     exact bq _ (f.weak ⟨rfl, rfl, rfl, rfl, rfl, rfl, rfl, rfl, rfl, trivial⟩)
  ·rintro a w ⟨bc, rfl, bd, bI, f, m⟩
   have aB := od1 bI aB
   refine k_seq (k_seq (k_region ?_))
   refine l_mv f rfl rfl fun a f => l_mv f rfl rfl fun a f => l_in f rfl rfl rfl b_gtr fun a f => l_nil ?_
   rcases cond_some hd with ⟨bJ, hd⟩ | ⟨bJ, hd⟩
   ·refine k_true f rfl bJ ?_
    refine k_seq ?_
    refine k_draw0 Follows m ?_
    refine p_p 2 rfl (by kernel_rfl) f rfl rfl rfl (fun _ => r_move (f.eval rfl)) fun a f => p_p 3 rfl (by kernel_rfl) f rfl rfl rfl (fun _ => r_move (f.eval rfl)) fun a f => k_draw1 12013 11 (by kernel_rfl) rfl ?_
    refine q_mv 0 12013 rfl (by kernel_rfl) f rfl rfl rfl fun a f => q_mv 1 12013 rfl (by kernel_rfl) f rfl rfl rfl fun a f => q_mv 4 12013 rfl (by kernel_rfl) f rfl rfl rfl fun a f => q_mv 5 12013 rfl (by kernel_rfl) f rfl rfl rfl fun a f => ?_
    obtain ⟨bK, bL, hd⟩ := bind_some hd
    refine q_own_at (i := 6) 12013 0 m aB rfl T32 bL rfl (by kernel_rfl) rfl f rfl rfl rfl rfl fun bM a bN f => q_own_load (i := 7) 12013 0 aB rfl Pl2 bN bL rfl (by kernel_rfl) rfl f rfl rfl rfl fun bO a bP f => ?_
    subst bP
    refine q_mv 8 12013 rfl (by kernel_rfl) f rfl rfl rfl fun a f => q_mv 9 12013 rfl (by kernel_rfl) f rfl rfl rfl fun a f => ?_
    obtain ⟨bQ, bR, hd⟩ := bind_some hd
    refine q_own_at (i := 10) 12013 0 m aB rfl T32 bR rfl (by kernel_rfl) rfl f rfl rfl rfl rfl fun bS a bT f => q_own_load (i := 11) 12013 0 aB rfl Pl2 bT bR rfl (by kernel_rfl) rfl f rfl rfl rfl fun bU a bV f => ?_
    subst bV
    obtain ⟨bW, bX, hd⟩ := bind_some hd
    refine q_own_at (i := 12) 12013 0 m aB rfl T32 bX rfl (by kernel_rfl) rfl f rfl rfl rfl rfl fun bY a bZ f => q_end fun b0 w b1 m => ?_
    have aB := od1 b1 aB
    refine l_own_store 0 m aB rfl Tryd.sizeOf2 f rfl rfl bZ bX rfl rfl rfl fun b2 w m b3 => ?_
    obtain ⟨b4, b5, hd⟩ := bind_some hd
    refine l_own_at 0 m b3 rfl T32 f rfl rfl rfl b5 fun b6 a b7 f => l_own_store 0 m b3 rfl Tryd.sizeOf2 f rfl rfl b7 b5 rfl rfl rfl fun b8 w m b9 => l_nil (k_seq (k_region ?_))
    refine l_mv f rfl rfl fun a f => l_as f rfl rfl fun a f => l_as f rfl rfl fun a f => l_nil ?_
    refine k_ret ?_
    obtain rfl := sj hd
    exact ⟨[(.int .i64 bc), (.bool true)], ⟨f.get _ _ rfl, f.get _ _ rfl, trivial⟩, f.defers, _, [b8], (GLe.trans ar (GLe.trans a9 (GLe.trans bI b1))), m, _, rfl, rfl, b9⟩
   ·refine k_false f rfl bJ ?_
    refine k_skip ?_
    refine k_seq ?_
    refine k_draw0 Follows m ?_
    refine p_p 2 rfl (by kernel_rfl) f rfl rfl rfl (fun _ => r_move (f.eval rfl)) fun a f => p_p 3 rfl (by kernel_rfl) f rfl rfl rfl (fun _ => r_move (f.eval rfl)) fun a f => k_draw1 12013 11 (by kernel_rfl) rfl ?_
    refine q_mv 0 12013 rfl (by kernel_rfl) f rfl rfl rfl fun a f => q_mv 1 12013 rfl (by kernel_rfl) f rfl rfl rfl fun a f => q_mv 4 12013 rfl (by kernel_rfl) f rfl rfl rfl fun a f => q_mv 5 12013 rfl (by kernel_rfl) f rfl rfl rfl fun a f => ?_
    obtain ⟨ca, cb, hd⟩ := bind_some hd
    refine q_own_at (i := 6) 12013 0 m aB rfl T32 cb rfl (by kernel_rfl) rfl f rfl rfl rfl rfl fun cc a cd f => q_own_load (i := 7) 12013 0 aB rfl Pl2 cd cb rfl (by kernel_rfl) rfl f rfl rfl rfl fun ce a cf f => ?_
    subst cf
    refine q_mv 8 12013 rfl (by kernel_rfl) f rfl rfl rfl fun a f => q_mv 9 12013 rfl (by kernel_rfl) f rfl rfl rfl fun a f => ?_
    obtain ⟨cg, ch, hd⟩ := bind_some hd
    refine q_own_at (i := 10) 12013 0 m aB rfl T32 ch rfl (by kernel_rfl) rfl f rfl rfl rfl rfl fun ci a cj f => q_own_load (i := 11) 12013 0 aB rfl Pl2 cj ch rfl (by kernel_rfl) rfl f rfl rfl rfl fun ck a cl f => ?_
    subst cl
    obtain ⟨cm, cn, hd⟩ := bind_some hd
    refine q_own_at (i := 12) 12013 0 m aB rfl T32 cn rfl (by kernel_rfl) rfl f rfl rfl rfl rfl fun co a cp f => q_end fun cq w cr m => ?_
    have aB := od1 cr aB
    refine l_own_store 0 m aB rfl Tryd.sizeOf2 f rfl rfl cp cn rfl rfl rfl fun cs w m ct => ?_
    obtain ⟨cu, cv, hd⟩ := bind_some hd
    refine l_own_at 0 m ct rfl T32 f rfl rfl rfl cv fun cw a cx f => l_own_store 0 m ct rfl Tryd.sizeOf2 f rfl rfl cx cv rfl rfl rfl fun cy w m cz => l_nil (k_seq (k_region ?_))
    refine l_mv f rfl rfl fun a f => l_in f rfl rfl rfl b_add fun a f => l_as f rfl rfl fun a f => l_nil (k_seq (k_region ?_))
    refine l_mv f rfl rfl fun a f => l_in f rfl rfl rfl b_sub fun a f => l_as f rfl rfl fun a f => l_nil (k_seq ?_)
    obtain ⟨cA, cB, hd⟩ := bind_some hd
    refine k_cut (fun a w => ∃ cC : List Int, ∃ cD : Int, (cC, cD) = cA ∧ ∃ (cE : GH) (cF : Itm), GLe cq cE ∧ Fr a 168 [(0, v0), (1, (.int .i64 x1)), (11, (.int .i64 cD))] ∧ Mem W cE w (cF :: H) ∧ Ow (RI .i64) 2 cE cF v0 cC) ?_ ?_
    ·refine k_block ?_
     refine k_loop (fun cG a w => ∃ cH : List Int, ∃ cI : Int, ∃ cJ : Int, (cH, cI, cJ) = cG ∧ ∃ (cK : GH) (cL : Itm), GLe cq cK ∧ Fr a 168 [(0, v0), (1, (.int .i64 x1)), (10, (.int .i64 cI)), (11, (.int .i64 cJ))] ∧ Mem W cK w (cL :: H) ∧ Ow (RI .i64) 2 cK cL v0 cH) cB ⟨_, _, _, rfl, _, cy, (GLe.refl _), f.weak ⟨rfl, rfl, rfl, rfl, trivial⟩, m, cz⟩ ?_
     clear cB f m
     rintro cG cM cN cO a w ⟨cH, cI, cJ, rfl, cK, cL, cP, f, m, cQ⟩
     refine k_block (k_seq ?_)
     obtain ⟨cR, cS, cN⟩ := bind_some cN
     refine k_cut (fun a w => ∃ cT : Int, cT = cR ∧ ∃ (cU : GH), GLe cK cU ∧ Fr a 168 [(0, v0), (1, (.int .i64 x1)), (10, (.int .i64 cT)), (11, (.int .i64 cJ))] ∧ Mem W cU w (cL :: H)) ?_ ?_
     ·refine k_block ?_
      refine k_loop (fun cV a w => ∃ cW : Int, cW = cV ∧ ∃ (cX : GH), GLe cK cX ∧ Fr a 168 [(0, v0), (1, (.int .i64 x1)), (10, (.int .i64 cW)), (11, (.int .i64 cJ))] ∧ Mem W cX w (cL :: H)) cS ⟨_, rfl, _, (GLe.refl _), f.weak ⟨rfl, rfl, rfl, rfl, trivial⟩, m⟩ ?_
      clear cS f m
      rintro cV cY cZ c0 a w ⟨cW, rfl, cX, c1, f, m⟩
      have cQ := od1 c1 cQ
      refine k_seq (k_seq ?_)
      refine k_draw 14 Follows (by kernel_rfl) m ?_
      refine q_mv 0 14 rfl (by kernel_rfl) f rfl rfl rfl fun a f => q_mv 1 14 rfl (by kernel_rfl) f rfl rfl rfl fun a f => q_p 2 14 rfl (by kernel_rfl) f rfl rfl rfl (fun _ => r_int (f.eval rfl) (f.eval rfl) b_leq) fun a f => q_mv 3 14 rfl (by kernel_rfl) f rfl rfl rfl fun a f => ?_
      obtain ⟨c2, c3, cZ⟩ := bind_some cZ
      refine q_cut (fuel' := 0) (listed' := #[true, true, true, true, true, true, true, true, true, true, true, true, true, true]) (fun a => Fr a 168 [(0, v0), (1, (.int .i64 x1)), (10, (.int .i64 cW)), (11, (.int .i64 cJ)), (99, (.int .i64 cW)), (100, (.int .i64 cJ)), (101, (.bool (decide (cW ≤ cJ)))), (102, (.bool (decide (cW ≤ cJ)))), (112, (.bool c2))]) ?_ ?_
      ·intro a f
       refine q_end fun c4 w c5 m => ?_
       have cQ := od1 c5 cQ
       refine l_nil ?_
       rcases cond_some cZ with ⟨c6, cZ⟩ | ⟨c6, cZ⟩
       ·refine k_true f rfl c6 ?_
        refine k_skip ?_
        refine k_block (k_region ?_)
        refine l_mv f rfl rfl fun a f => l_in f rfl rfl rfl b_add fun a f => l_as f rfl rfl fun a f => l_nil ?_
        obtain rfl := sj cZ
        exact ⟨_, rfl, _, rfl, _, (GLe.trans c1 c5), f.weak ⟨rfl, rfl, rfl, rfl, trivial⟩, m⟩
       ·refine k_false f rfl c6 ?_
        refine k_exit rfl ?_
        obtain rfl := sj cZ
        obtain rfl := c0 _ rfl
        exact ⟨_, rfl, _, (GLe.trans c1 c5), f.weak ⟨rfl, rfl, rfl, rfl, trivial⟩, m⟩
      ·intro c7
       rcases cond_some c3 with ⟨c8, c3⟩ | ⟨c8, c3⟩
       ·refine q_mv 4 14 rfl (by kernel_rfl) f (wanted_of f rfl rfl rfl c8) rfl rfl fun a f => ?_
        refine q_mv 5 14 rfl (by kernel_rfl) f (wanted_of f rfl rfl rfl c8) rfl rfl fun a f => ?_
        obtain ⟨c9, da, c3⟩ := bind_some c3
        refine q_own_at (i := 6) 14 0 m cQ rfl T32 da rfl (by kernel_rfl) rfl f (wanted_of f rfl rfl rfl c8) rfl rfl rfl fun db a dc f => q_own_load (i := 7) 14 0 cQ rfl Pl2 dc da rfl (by kernel_rfl) rfl f (wanted_of f rfl rfl rfl c8) rfl rfl fun dd a de f => ?_
        subst de
        refine q_mv 8 14 rfl (by kernel_rfl) f (wanted_of f rfl rfl rfl c8) rfl rfl fun a f => q_mv 9 14 rfl (by kernel_rfl) f (wanted_of f rfl rfl rfl c8) rfl rfl fun a f => ?_
        obtain ⟨df, dg, c3⟩ := bind_some c3
        refine q_own_at (i := 10) 14 0 m cQ rfl T32 dg rfl (by kernel_rfl) rfl f (wanted_of f rfl rfl rfl c8) rfl rfl rfl fun dh a di f => q_own_load (i := 11) 14 0 cQ rfl Pl2 di dg rfl (by kernel_rfl) rfl f (wanted_of f rfl rfl rfl c8) rfl rfl fun dj a dk f => ?_
        subst dk
        obtain ⟨dl, dm, c3⟩ := bind_some c3
        refine q_call (i := 12) 14 rfl (by kernel_rfl) rfl f (wanted_of f rfl rfl rfl c8) rfl rfl Tryd.call108 (fun _ _ w dn m => Wk.a m  dm) fun a f => q_p 13 14 rfl (by kernel_rfl) f rfl rfl rfl (fun _ => r_pickT (f.eval rfl) c8 (f.eval rfl)) fun a f => ?_
        obtain rfl := sj c3
        exact c7 _ (f.weak ⟨rfl, rfl, rfl, rfl, rfl, rfl, rfl, rfl, rfl, trivial⟩)
       ·refine q_ng 4 14 rfl (by kernel_rfl) f rfl rfl c8 rfl fun a f => ?_
        refine q_ng 5 14 rfl (by kernel_rfl) f rfl rfl c8 rfl fun a f => q_ng 6 14 rfl (by kernel_rfl) f rfl rfl c8 rfl fun a f => q_ng 7 14 rfl (by kernel_rfl) f rfl rfl c8 rfl fun a f => q_ng 8 14 rfl (by kernel_rfl) f rfl rfl c8 rfl fun a f => q_ng 9 14 rfl (by kernel_rfl) f rfl rfl c8 rfl fun a f => q_ng 10 14 rfl (by kernel_rfl) f rfl rfl c8 rfl fun a f => q_ng 11 14 rfl (by kernel_rfl) f rfl rfl c8 rfl fun a f => q_ng 12 14 rfl (by kernel_rfl) f rfl rfl c8 rfl fun a f => q_p 13 14 rfl (by kernel_rfl) f rfl rfl rfl (fun _ => r_pickF (f.eval rfl) c8 (f.eval rfl)) fun a f => ?_
        obtain rfl := sj c3
        exact c7 _ (f.weak ⟨rfl, rfl, rfl, rfl, rfl, rfl, rfl, rfl, rfl, trivial⟩)
     ·rintro a w ⟨cT, rfl, cU, dp, f, m⟩
      have cQ := od1 dp cQ
      refine k_seq ?_
      obtain ⟨dq, dr, cN⟩ := bind_some cN
      refine k_cut (fun a w => ∃ ds : Int, ds = dq ∧ ∃ (dt : GH), GLe cU dt ∧ Fr a 168 [(0, v0), (1, (.int .i64 x1)), (10, (.int .i64 cT)), (11, (.int .i64 ds))] ∧ Mem W dt w (cL :: H)) ?_ ?_
      ·refine k_block ?_
       refine k_loop (fun du a w => ∃ dv : Int, dv = du ∧ ∃ (dw : GH), GLe cU dw ∧ Fr a 168 [(0, v0), (1, (.int .i64 x1)), (10, (.int .i64 cT)), (11, (.int .i64 dv))] ∧ Mem W dw w (cL :: H)) dr ⟨_, rfl, _, (GLe.refl _), f.weak ⟨rfl, rfl, rfl, rfl, trivial⟩, m⟩ ?_
       clear dr f m
       rintro du dx dy dz a w ⟨dv, rfl, dw, dA, f, m⟩
       have cQ := od1 dA cQ
       refine k_seq (k_seq ?_)
       refine k_draw 15 Follows (by kernel_rfl) m ?_
       refine q_mv 0 15 rfl (by kernel_rfl) f rfl rfl rfl fun a f => q_mv 1 15 rfl (by kernel_rfl) f rfl rfl rfl fun a f => q_p 2 15 rfl (by kernel_rfl) f rfl rfl rfl (fun _ => r_int (f.eval rfl) (f.eval rfl) b_leq) fun a f => q_mv 3 15 rfl (by kernel_rfl) f rfl rfl rfl fun a f => ?_
       obtain ⟨dB, dC, dy⟩ := bind_some dy
       refine q_cut (fuel' := 0) (listed' := #[true, true, true, true, true, true, true, true, true, true, true, true, true, true, true]) (fun a => Fr a 168 [(0, v0), (1, (.int .i64 x1)), (10, (.int .i64 cT)), (11, (.int .i64 dv)), (115, (.int .i64 cT)), (116, (.int .i64 dv)), (117, (.bool (decide (cT ≤ dv)))), (118, (.bool (decide (cT ≤ dv)))), (129, (.bool dB))]) ?_ ?_
       ·intro a f
        refine q_end fun dD w dE m => ?_
        have cQ := od1 dE cQ
        refine l_nil ?_
        rcases cond_some dy with ⟨dF, dy⟩ | ⟨dF, dy⟩
        ·refine k_true f rfl dF ?_
         refine k_skip ?_
         refine k_block (k_region ?_)
         refine l_mv f rfl rfl fun a f => l_in f rfl rfl rfl b_sub fun a f => l_as f rfl rfl fun a f => l_nil ?_
         obtain rfl := sj dy
         exact ⟨_, rfl, _, rfl, _, (GLe.trans dA dE), f.weak ⟨rfl, rfl, rfl, rfl, trivial⟩, m⟩
        ·refine k_false f rfl dF ?_
         refine k_exit rfl ?_
         obtain rfl := sj dy
         obtain rfl := dz _ rfl
         exact ⟨_, rfl, _, (GLe.trans dA dE), f.weak ⟨rfl, rfl, rfl, rfl, trivial⟩, m⟩
       ·intro dG
        rcases cond_some dC with ⟨dH, dC⟩ | ⟨dH, dC⟩
        ·refine q_mv 4 15 rfl (by kernel_rfl) f (wanted_of f rfl rfl rfl dH) rfl rfl fun a f => ?_
         refine q_mv 5 15 rfl (by kernel_rfl) f (wanted_of f rfl rfl rfl dH) rfl rfl fun a f => ?_
         obtain ⟨dI, dJ, dC⟩ := bind_some dC
         refine q_own_at (i := 6) 15 0 m cQ rfl T32 dJ rfl (by kernel_rfl) rfl f (wanted_of f rfl rfl rfl dH) rfl rfl rfl fun dK a dL f => q_own_load (i := 7) 15 0 cQ rfl Pl2 dL dJ rfl (by kernel_rfl) rfl f (wanted_of f rfl rfl rfl dH) rfl rfl fun dM a dN f => ?_
         subst dN
         refine q_mv 8 15 rfl (by kernel_rfl) f (wanted_of f rfl rfl rfl dH) rfl rfl fun a f => q_mv 9 15 rfl (by kernel_rfl) f (wanted_of f rfl rfl rfl dH) rfl rfl fun a f => ?_
         obtain ⟨dO, dP, dC⟩ := bind_some dC
         refine q_own_at (i := 10) 15 0 m cQ rfl T32 dP rfl (by kernel_rfl) rfl f (wanted_of f rfl rfl rfl dH) rfl rfl rfl fun dQ a dR f => q_own_load (i := 11) 15 0 cQ rfl Pl2 dR dP rfl (by kernel_rfl) rfl f (wanted_of f rfl rfl rfl dH) rfl rfl fun dS a dT f => ?_
         subst dT
         obtain ⟨dU, dV, dC⟩ := bind_some dC
         refine q_call (i := 12) 15 rfl (by kernel_rfl) rfl f (wanted_of f rfl rfl rfl dH) rfl rfl Tryd.call108 (fun _ _ w dW m => Wk.a m  dV) fun a f => q_p 13 15 rfl (by kernel_rfl) f (wanted_of f rfl rfl rfl dH) rfl rfl (fun _ => r_not (f.eval rfl)) fun a f => q_p 14 15 rfl (by kernel_rfl) f rfl rfl rfl (fun _ => r_pickT (f.eval rfl) dH (f.eval rfl)) fun a f => ?_
         obtain rfl := sj dC
         exact dG _ (f.weak ⟨rfl, rfl, rfl, rfl, rfl, rfl, rfl, rfl, rfl, trivial⟩)
        ·refine q_ng 4 15 rfl (by kernel_rfl) f rfl rfl dH rfl fun a f => ?_
         refine q_ng 5 15 rfl (by kernel_rfl) f rfl rfl dH rfl fun a f => q_ng 6 15 rfl (by kernel_rfl) f rfl rfl dH rfl fun a f => q_ng 7 15 rfl (by kernel_rfl) f rfl rfl dH rfl fun a f => q_ng 8 15 rfl (by kernel_rfl) f rfl rfl dH rfl fun a f => q_ng 9 15 rfl (by kernel_rfl) f rfl rfl dH rfl fun a f => q_ng 10 15 rfl (by kernel_rfl) f rfl rfl dH rfl fun a f => q_ng 11 15 rfl (by kernel_rfl) f rfl rfl dH rfl fun a f => q_ng 12 15 rfl (by kernel_rfl) f rfl rfl dH rfl fun a f => q_ng 13 15 rfl (by kernel_rfl) f rfl rfl dH rfl fun a f => q_p 14 15 rfl (by kernel_rfl) f rfl rfl rfl (fun _ => r_pickF (f.eval rfl) dH (f.eval rfl)) fun a f => ?_
         obtain rfl := sj dC
         exact dG _ (f.weak ⟨rfl, rfl, rfl, rfl, rfl, rfl, rfl, rfl, rfl, trivial⟩)
      ·rintro a w ⟨ds, rfl, dt, dX, f, m⟩
       have cQ := od1 dX cQ
       refine k_seq (k_seq (k_region ?_))
       refine l_mv f rfl rfl fun a f => l_mv f rfl rfl fun a f => l_in f rfl rfl rfl b_gtr fun a f => l_nil ?_
       rcases cond_some cN with ⟨dY, cN⟩ | ⟨dY, cN⟩
       ·refine k_true f rfl dY ?_
        refine k_exit rfl ?_
        obtain rfl := sj cN
        obtain rfl := cO _ rfl
        exact ⟨_, _, rfl, _, cL, (GLe.trans cP (GLe.trans dp dX)), f.weak ⟨rfl, rfl, rfl, trivial⟩, m, cQ⟩
       ·refine k_false f rfl dY ?_
        refine k_skip ?_
        refine k_seq ?_
        refine k_draw0 Follows m ?_
        refine p_p 2 rfl (by kernel_rfl) f rfl rfl rfl (fun _ => r_move (f.eval rfl)) fun a f => p_p 3 rfl (by kernel_rfl) f rfl rfl rfl (fun _ => r_move (f.eval rfl)) fun a f => k_draw1 12013 11 (by kernel_rfl) rfl ?_
        refine q_mv 0 12013 rfl (by kernel_rfl) f rfl rfl rfl fun a f => q_mv 1 12013 rfl (by kernel_rfl) f rfl rfl rfl fun a f => q_mv 4 12013 rfl (by kernel_rfl) f rfl rfl rfl fun a f => q_mv 5 12013 rfl (by kernel_rfl) f rfl rfl rfl fun a f => ?_
        obtain ⟨dZ, d0, cN⟩ := bind_some cN
        refine q_own_at (i := 6) 12013 0 m cQ rfl T32 d0 rfl (by kernel_rfl) rfl f rfl rfl rfl rfl fun d1 a d2 f => q_own_load (i := 7) 12013 0 cQ rfl Pl2 d2 d0 rfl (by kernel_rfl) rfl f rfl rfl rfl fun d3 a d4 f => ?_
        subst d4
        refine q_mv 8 12013 rfl (by kernel_rfl) f rfl rfl rfl fun a f => q_mv 9 12013 rfl (by kernel_rfl) f rfl rfl rfl fun a f => ?_
        obtain ⟨d5, d6, cN⟩ := bind_some cN
        refine q_own_at (i := 10) 12013 0 m cQ rfl T32 d6 rfl (by kernel_rfl) rfl f rfl rfl rfl rfl fun d7 a d8 f => q_own_load (i := 11) 12013 0 cQ rfl Pl2 d8 d6 rfl (by kernel_rfl) rfl f rfl rfl rfl fun d9 a ea f => ?_
        subst ea
        obtain ⟨eb, ec, cN⟩ := bind_some cN
        refine q_own_at (i := 12) 12013 0 m cQ rfl T32 ec rfl (by kernel_rfl) rfl f rfl rfl rfl rfl fun ed a ee f => q_end fun ef w eg m => ?_
        have cQ := od1 eg cQ
        refine l_own_store 0 m cQ rfl Tryd.sizeOf2 f rfl rfl ee ec rfl rfl rfl fun eh w m ei => ?_
        obtain ⟨ej, ek, cN⟩ := bind_some cN
        refine l_own_at 0 m ei rfl T32 f rfl rfl rfl ek fun el a em f => l_own_store 0 m ei rfl Tryd.sizeOf2 f rfl rfl em ek rfl rfl rfl fun en w m eo => l_nil (k_seq (k_region ?_))
        refine l_mv f rfl rfl fun a f => l_in f rfl rfl rfl b_add fun a f => l_as f rfl rfl fun a f => l_nil (k_region ?_)
        refine l_mv f rfl rfl fun a f => l_in f rfl rfl rfl b_sub fun a f => l_as f rfl rfl fun a f => l_nil ?_
        obtain rfl := sj cN
        exact ⟨_, rfl, _, _, _, rfl, _, en, (GLe.trans cP (GLe.trans dp (GLe.trans dX eg))), f.weak ⟨rfl, rfl, rfl, rfl, trivial⟩, m, eo⟩
    ·rintro a w ⟨cC, cD, rfl, cE, cF, ep, f, m, eq⟩
     refine k_seq ?_
     refine k_draw0 Follows m ?_
     refine p_p 2 rfl (by kernel_rfl) f rfl rfl rfl (fun _ => r_move (f.eval rfl)) fun a f => p_p 3 rfl (by kernel_rfl) f rfl rfl rfl (fun _ => r_move (f.eval rfl)) fun a f => k_draw1 12013 11 (by kernel_rfl) rfl ?_
     refine q_mv 0 12013 rfl (by kernel_rfl) f rfl rfl rfl fun a f => q_mv 1 12013 rfl (by kernel_rfl) f rfl rfl rfl fun a f => q_mv 4 12013 rfl (by kernel_rfl) f rfl rfl rfl fun a f => q_mv 5 12013 rfl (by kernel_rfl) f rfl rfl rfl fun a f => ?_
     obtain ⟨er, es, hd⟩ := bind_some hd
     refine q_own_at (i := 6) 12013 0 m eq rfl T32 es rfl (by kernel_rfl) rfl f rfl rfl rfl rfl fun et a eu f => q_own_load (i := 7) 12013 0 eq rfl Pl2 eu es rfl (by kernel_rfl) rfl f rfl rfl rfl fun ev a ew f => ?_
     subst ew
     refine q_mv 8 12013 rfl (by kernel_rfl) f rfl rfl rfl fun a f => q_mv 9 12013 rfl (by kernel_rfl) f rfl rfl rfl fun a f => ?_
     obtain ⟨ex, ey, hd⟩ := bind_some hd
     refine q_own_at (i := 10) 12013 0 m eq rfl T32 ey rfl (by kernel_rfl) rfl f rfl rfl rfl rfl fun ez a eA f => q_own_load (i := 11) 12013 0 eq rfl Pl2 eA ey rfl (by kernel_rfl) rfl f rfl rfl rfl fun eB a eC f => ?_
     subst eC
     obtain ⟨eD, eE, hd⟩ := bind_some hd
     refine q_own_at (i := 12) 12013 0 m eq rfl T32 eE rfl (by kernel_rfl) rfl f rfl rfl rfl rfl fun eF a eG f => q_end fun eH w eI m => ?_
     have eq := od1 eI eq
     refine l_own_store 0 m eq rfl Tryd.sizeOf2 f rfl rfl eG eE rfl rfl rfl fun eJ w m eK => ?_
     obtain ⟨eL, eM, hd⟩ := bind_some hd
     refine l_own_at 0 m eK rfl T32 f rfl rfl rfl eM fun eN a eO f => l_own_store 0 m eK rfl Tryd.sizeOf2 f rfl rfl eO eM rfl rfl rfl fun eP w m eQ => l_nil (k_seq (k_region ?_))
     refine l_mv f rfl rfl fun a f => l_as f rfl rfl fun a f => l_as f rfl rfl fun a f => l_nil ?_
     refine k_ret ?_
     obtain rfl := sj hd
     exact ⟨[(.int .i64 cD), (.bool false)], ⟨f.get _ _ rfl, f.get _ _ rfl, trivial⟩, f.defers, _, [eP], (GLe.trans ar (GLe.trans a9 (GLe.trans bI (GLe.trans cr (GLe.trans ep eI))))), m, _, rfl, rfl, eQ⟩

theorem Wk.w {W : World} (n : Nat) : ∀ {w : World} {G : GH} {H : List Itm} {v0 : Value} {it0 : Itm} {x0 : (List Int)} {x1 : Int} {x2 : Int} {x3 : Int} (m : Mem W G w (it0 :: H)) (o0 : Ow (RI .i64) 2 G it0 v0 x0) {y : ((List Int))} (hd : D.w n x0 x1 x2 x3 = some y),
  Calls Tryd.prog 90 #[v0, (.int .i64 x1), (.int .i64 x2), (.int .i64 x3)] w (Res W G H (fun G' Ho _ => ∃ i0 : Itm, Ho = [i0] ∧ Ow (RI .i64) 2 G' i0 v0 y)) := by
 induction n with
 | zero => intros; rename_i hd; simp [D.w] at hd
 | succ fuel ih =>
  intro w G H v0 it0 x0 x1 x2 x3 m o0 y hd
  refine calls_b (args := [v0, (.int .i64 x1), (.int .i64 x2), (.int .i64 x3)]) (N := 134) [] Tryd.func90 rfl rfl (Nat.le_of_ble_eq_true rfl) rfl fun a f => ?_
  unfold D.w at hd
  refine k_seq (k_region ?_)
  refine l_as f rfl rfl fun a f => l_nil (k_seq (k_region ?_))
  refine l_as f rfl rfl fun a f => l_nil ?_
  obtain ⟨aa, ab, hd⟩ := bind_some hd
  refine k_block ?_
  refine k_loop (fun ac a w => ∃ ad : List Int, ∃ ae : Int, ∃ af : Int, ∃ ag : Int, ∃ ah : Bool, ∃ ai : Bool, (ad, ae, af, ag, ah, ai) = ac ∧ ∃ (aj : GH) (ak : Itm), GLe G aj ∧ Fr a 134 [(0, v0), (1, (.int .i64 ae)), (2, (.int .i64 af)), (3, (.int .i64 ag)), (8, (.bool ah)), (9, (.bool ai))] ∧ Mem W aj w (ak :: H) ∧ Ow (RI .i64) 2 aj ak v0 ad) ab ⟨_, _, _, _, _, _, rfl, _, it0, (GLe.refl _), f.weak ⟨rfl, rfl, rfl, rfl, rfl, rfl, trivial⟩, m, o0⟩ ?_
  clear ab f m
  rintro ac al am an a w ⟨ad, ae, af, ag, ah, ai, rfl, aj, ak, ao, f, m, ap⟩
  refine k_block (k_seq (k_region ?_))
  refine l_mv f rfl rfl fun a f => l_mv f rfl rfl fun a f => l_in f rfl rfl rfl b_sub fun a f => l_as f rfl rfl fun a f => l_nil (k_seq (k_seq (k_region ?_)))
  refine l_mv f rfl rfl fun a f => l_in f rfl rfl rfl b_leq fun a f => l_nil ?_
  rcases cond_some am with ⟨aq, am⟩ | ⟨aq, am⟩
  ·refine k_true f rfl aq ?_
   refine k_seq (k_region ?_)
   refine l_mv f rfl rfl fun a f => l_mv f rfl rfl fun a f => l_mv f rfl rfl fun a f => ?_
   obtain ⟨ar, au, am⟩ := bind_some am
   refine l_res f rfl rfl Tryd.call102 (Wk.V m ap au) fun av aw ax w ay m az a f => ?_
   obtain ⟨aA, rfl, aB⟩ := az
   refine l_nil ?_
   refine k_ret ?_
   obtain rfl := sj am
   obtain rfl := an _ rfl
   obtain rfl := sj hd
   exact ⟨[], trivial, f.defers, _, [aA], (GLe.trans ao ay), m, _, rfl, aB⟩
  ·refine k_false f rfl aq ?_
   refine k_skip ?_
   refine k_seq (k_seq (k_region ?_))
   refine l_mv f rfl rfl fun a f => l_in f rfl rfl rfl b_eql fun a f => l_nil ?_
   rcases cond_some am with ⟨aC, am⟩ | ⟨aC, am⟩
   ·refine k_true f rfl aC ?_
    refine k_seq (k_region ?_)
    refine l_mv f rfl rfl fun a f => l_mv f rfl rfl fun a f => l_mv f rfl rfl fun a f => ?_
    obtain ⟨aD, aE, am⟩ := bind_some am
    refine l_res f rfl rfl Tryd.call103 (Wk.G0 m ap aE) fun aF aG aH w aI m aJ a f => ?_
    obtain ⟨aK, rfl, aL⟩ := aJ
    refine l_nil ?_
    refine k_ret ?_
    obtain rfl := sj am
    obtain rfl := an _ rfl
    obtain rfl := sj hd
    exact ⟨[], trivial, f.defers, _, [aK], (GLe.trans ao aI), m, _, rfl, aL⟩
   ·refine k_false f rfl aC ?_
    refine k_skip ?_
    refine k_seq (k_seq (k_region ?_))
    refine l_mv f rfl rfl fun a f => l_op f rfl rfl rfl (r_not (f.eval rfl)) fun a f => l_nil ?_
    obtain ⟨aM, aN, am⟩ := bind_some am
    refine k_cut (fun a w => ∃ aO : List Int, ∃ aP : Int, (aO, aP) = aM ∧ ∃ (aQ : GH) (aR : Itm), GLe aj aQ ∧ Fr a 134 [(0, v0), (1, (.int .i64 ae)), (2, (.int .i64 af)), (3, (.int .i64 aP)), (8, (.bool ah)), (9, (.bool ai)), (10, (.int .i64 (IntKind.i64.wrap (af - ae))))] ∧ Mem W aQ w (aR :: H) ∧ Ow (RI .i64) 2 aQ aR v0 aO) ?_ ?_
    ·rcases cond_some aN with ⟨aS, aN⟩ | ⟨aS, aN⟩
     ·refine k_true f rfl aS ?_
      refine k_seq (k_region ?_)
      refine l_mv f rfl rfl fun a f => l_mv f rfl rfl fun a f => l_mv f rfl rfl fun a f => ?_
      obtain ⟨aT, aU, aN⟩ := bind_some aN
      refine l_res f rfl rfl Tryd.call104 (Wk.h0 m ap aU) fun aV aW aX w aY m aZ a f => ?_
      obtain ⟨a0, rfl, a1⟩ := aZ
      refine l_nil (k_region ?_)
      refine l_mv f rfl rfl fun a f => l_in f rfl rfl rfl b_sub fun a f => l_as f rfl rfl fun a f => l_nil ?_
      obtain rfl := sj aN
      exact ⟨_, _, rfl, _, a0, aY, f.weak ⟨rfl, rfl, rfl, rfl, rfl, rfl, rfl, trivial⟩, m, a1⟩
     ·refine k_false f rfl aS ?_
      refine k_skip ?_
      obtain rfl := sj aN
      exact ⟨_, _, rfl, _, ak, (GLe.refl _), f.weak ⟨rfl, rfl, rfl, rfl, rfl, rfl, rfl, trivial⟩, m, ap⟩
    ·rintro a w ⟨aO, aP, rfl, aQ, aR, a2, f, m, a3⟩
     refine k_seq (k_region ?_)
     refine l_mv f rfl rfl fun a f => l_mv f rfl rfl fun a f => l_mv f rfl rfl fun a f => ?_
     obtain ⟨a4, a5, am⟩ := bind_some am
     refine l_res f rfl rfl Tryd.call105 (Wk.m0 m a3 a5) fun a6 a7 a8 w a9 m ba a f => ?_
     obtain ⟨bb, rfl, rfl, bc⟩ := ba
     refine l_mv f rfl rfl fun a f => l_op f rfl rfl rfl (r_extract (f.eval rfl) rfl) fun a f => l_op f rfl rfl rfl (r_extract (f.eval rfl) rfl) fun a f => l_as f rfl rfl fun a f => l_as f rfl rfl fun a f => l_nil (k_seq (k_seq (k_region ?_)))
     refine l_mv f rfl rfl fun a f => l_in f rfl rfl rfl b_eql fun a f => l_nil ?_
     obtain ⟨bd, be, am⟩ := bind_some am
     refine k_cut (fun a w => ∃ bf : List Int, ∃ bg : Int, ∃ bh : Int, (bf, bg, bh) = bd ∧ ∃ (bi : GH) (bj : Itm), GLe a7 bi ∧ Fr a 134 [(0, v0), (1, (.int .i64 ae)), (2, (.int .i64 af)), (3, (.int .i64 aP)), (8, (.bool ah)), (9, (.bool ai)), (10, (.int .i64 (IntKind.i64.wrap (af - ae)))), (11, (.int .i64 bg)), (12, (.int .i64 bh))] ∧ Mem W bi w (bj :: H) ∧ Ow (RI .i64) 2 bi bj v0 bf) ?_ ?_
     ·rcases cond_some be with ⟨bk, be⟩ | ⟨bk, be⟩
      ·refine k_true f rfl bk ?_
       refine k_seq (k_region ?_)
       refine l_mv f rfl rfl fun a f => l_mv f rfl rfl fun a f => l_mv f rfl rfl fun a f => ?_
       obtain ⟨bl, bm, be⟩ := bind_some be
       refine l_res f rfl rfl Tryd.call106 (Wk.X m bc bm) fun bn bo bp w bq m br a f => ?_
       obtain ⟨bs, rfl, bt⟩ := br
       refine l_nil (k_seq (k_region ?_))
       refine l_mv f rfl rfl fun a f => l_in f rfl rfl rfl b_sub fun a f => l_mv f rfl rfl fun a f => l_mv f rfl rfl fun a f => l_in f rfl rfl rfl b_sub fun a f => l_in f rfl rfl rfl b_sub fun a f => l_as f rfl rfl fun a f => l_nil (k_region ?_)
       refine l_as f rfl rfl fun a f => l_nil ?_
       obtain rfl := sj be
       exact ⟨_, _, _, rfl, _, bs, bq, f.weak ⟨rfl, rfl, rfl, rfl, rfl, rfl, rfl, rfl, rfl, trivial⟩, m, bt⟩
      ·refine k_false f rfl bk ?_
       refine k_skip ?_
       obtain rfl := sj be
       exact ⟨_, _, _, rfl, _, bb, (GLe.refl _), f.weak ⟨rfl, rfl, rfl, rfl, rfl, rfl, rfl, rfl, rfl, trivial⟩, m, bc⟩
     ·rintro a w ⟨bf, bg, bh, rfl, bi, bj, bu, f, m, bv⟩
      refine k_seq (k_seq (k_region ?_))
      refine l_mv f rfl rfl fun a f => l_mv f rfl rfl fun a f => ?_
      refine l_cut 2 (fun a w => ∃ bw, GLe bi bw ∧ Mem W bw w (bj :: H) ∧ Fr a 134 [(0, v0), (1, (.int .i64 ae)), (2, (.int .i64 af)), (3, (.int .i64 aP)), (8, (.bool ah)), (9, (.bool ai)), (10, (.int .i64 (IntKind.i64.wrap (af - ae)))), (11, (.int .i64 bg)), (12, (.int .i64 bh)), (61, (.bool ah)), (62, (.bool ah)), (64, (.bool (ah && ai)))]) ?_ ?_
      ·rcases Bool.eq_false_or_eq_true ah with bx | bx
       ·refine l_run f rfl rfl bx ?_
        refine l_mv f rfl rfl fun a f => l_op f rfl rfl rfl (r_pickT (f.eval rfl) bx (f.eval rfl)) fun a f => ?_
        exact ⟨_, (GLe.refl _), m, f.weak ⟨rfl, rfl, rfl, rfl, rfl, rfl, rfl, rfl, rfl, rfl, rfl, by rw [bx]; rfl, trivial⟩⟩
       ·refine l_not' f rfl rfl rfl bx fun a f => ?_
        refine l_op f rfl rfl rfl (r_pickF (f.eval rfl) bx (f.eval rfl)) fun a f => ?_
        exact ⟨_, (GLe.refl _), m, f.weak ⟨rfl, rfl, rfl, rfl, rfl, rfl, rfl, rfl, rfl, rfl, rfl, by rw [bx]; rfl, trivial⟩⟩
      ·rintro a w ⟨bw, bz, m, f⟩
       have bv := od1 bz bv
       refine l_mv f rfl rfl fun a f => ?_
       refine l_cut 3 (fun a w => ∃ bA, GLe bw bA ∧ Mem W bA w (bj :: H) ∧ Fr a 134 [(0, v0), (1, (.int .i64 ae)), (2, (.int .i64 af)), (3, (.int .i64 aP)), (8, (.bool ah)), (9, (.bool ai)), (10, (.int .i64 (IntKind.i64.wrap (af - ae)))), (11, (.int .i64 bg)), (12, (.int .i64 bh)), (61, (.bool ah)), (62, (.bool ah)), (64, (.bool (ah && ai))), (65, (.bool (ah && ai))), (68, (.bool ((ah && ai) && (bh == 1))))]) ?_ ?_
       ·rcases Bool.eq_false_or_eq_true (ah && ai) with bB | bB
        ·refine l_run f rfl rfl bB ?_
         refine l_mv f rfl rfl fun a f => l_run f rfl rfl bB ?_
         refine l_in f rfl rfl rfl b_eql fun a f => l_op f rfl rfl rfl (r_pickT (f.eval rfl) bB (f.eval rfl)) fun a f => ?_
         exact ⟨_, (GLe.refl _), m, f.weak ⟨rfl, rfl, rfl, rfl, rfl, rfl, rfl, rfl, rfl, rfl, rfl, rfl, rfl, by rw [bB]; rfl, trivial⟩⟩
        ·refine l_not' f rfl rfl rfl bB fun a f => ?_
         refine l_not' f rfl rfl rfl bB fun a f => l_op f rfl rfl rfl (r_pickF (f.eval rfl) bB (f.eval rfl)) fun a f => ?_
         exact ⟨_, (GLe.refl _), m, f.weak ⟨rfl, rfl, rfl, rfl, rfl, rfl, rfl, rfl, rfl, rfl, rfl, rfl, rfl, by rw [bB]; rfl, trivial⟩⟩
       ·rintro a w ⟨bA, bC, m, f⟩
        have bv := od1 bC bv
        refine l_nil ?_
        obtain ⟨bD, bE, am⟩ := bind_some am
        refine k_cut (fun a w => ∃ j_513' : (List Int), bD = .inl j_513' ∧ ∃ bF : List Int, bF = j_513' ∧ ∃ (bG : GH) (bH : Itm), GLe bA bG ∧ Fr a 134 [(0, v0), (1, (.int .i64 ae)), (2, (.int .i64 af)), (3, (.int .i64 aP)), (8, (.bool ah)), (9, (.bool ai)), (10, (.int .i64 (IntKind.i64.wrap (af - ae)))), (11, (.int .i64 bg))] ∧ Mem W bG w (bH :: H) ∧ Ow (RI .i64) 2 bG bH v0 bF) ?_ ?_
        ·rcases cond_some bE with ⟨bI, bE⟩ | ⟨bI, bE⟩
         ·refine k_true f rfl bI ?_
          refine k_seq (k_region ?_)
          refine l_mv f rfl rfl fun a f => l_mv f rfl rfl fun a f => l_mv f rfl rfl fun a f => ?_
          obtain ⟨bJ, bK, bE⟩ := bind_some bE
          refine l_res f rfl rfl Tryd.call107 (Wk.j0 m bv bK) fun bL bM bN w bO m bP a f => ?_
          obtain ⟨bQ, rfl, rfl, bR⟩ := bP
          refine l_nil ?_
          rcases cond_some bE with ⟨bS, bE⟩ | ⟨bS, bE⟩
          ·refine k_true f rfl bS ?_
           refine k_ret ?_
           obtain rfl := sj bE
           obtain rfl := sj am
           obtain rfl := an _ rfl
           obtain rfl := sj hd
           exact ⟨[], trivial, f.defers, _, [bQ], (GLe.trans ao (GLe.trans a2 (GLe.trans a9 (GLe.trans bu (GLe.trans bz (GLe.trans bC bO)))))), m, _, rfl, bR⟩
          ·refine k_false f rfl bS ?_
           refine k_skip ?_
           obtain rfl := sj bE
           exact ⟨_, rfl, _, rfl, _, bQ, bO, f.weak ⟨rfl, rfl, rfl, rfl, rfl, rfl, rfl, rfl, trivial⟩, m, bR⟩
         ·refine k_false f rfl bI ?_
          refine k_skip ?_
          obtain rfl := sj bE
          exact ⟨_, rfl, _, rfl, _, bj, (GLe.refl _), f.weak ⟨rfl, rfl, rfl, rfl, rfl, rfl, rfl, rfl, trivial⟩, m, bv⟩
        ·rintro a w ⟨_, rfl, bF, rfl, bG, bH, bT, f, m, bU⟩
         refine k_seq (k_seq ?_)
         refine k_draw 15 Follows (by kernel_rfl) m ?_
         refine q_mv 0 15 rfl (by kernel_rfl) f rfl rfl rfl fun a f => q_p 1 15 rfl (by kernel_rfl) f rfl rfl rfl (fun _ => r_int (f.eval rfl) (f.eval rfl) b_gtr) fun a f => q_mv 2 15 rfl (by kernel_rfl) f rfl rfl rfl fun a f => ?_
         obtain ⟨bV, bW, am⟩ := bind_some am
         refine q_cut (fuel' := 0) (listed' := #[true, true, true, true, true, true, true, true, true, true, true, true, true, true, true]) (fun a => Fr a 134 [(0, v0), (1, (.int .i64 ae)), (2, (.int .i64 af)), (3, (.int .i64 aP)), (8, (.bool ah)), (9, (.bool ai)), (10, (.int .i64 (IntKind.i64.wrap (af - ae)))), (11, (.int .i64 bg)), (73, (.int .i64 ae)), (74, (.bool (decide ((0 : Int) < ae)))), (75, (.bool (decide ((0 : Int) < ae)))), (87, (.bool bV))]) ?_ ?_
         ·intro a f
          refine q_end fun bX w bY m => ?_
          have bU := od1 bY bU
          refine l_nil ?_
          rcases cond_some am with ⟨bZ, am⟩ | ⟨bZ, am⟩
          ·refine k_true f rfl bZ ?_
           refine k_seq (k_region ?_)
           refine l_mv f rfl rfl fun a f => l_mv f rfl rfl fun a f => l_mv f rfl rfl fun a f => l_mv f rfl rfl fun a f => ?_
           obtain ⟨b0, b1, am⟩ := bind_some am
           refine l_res f rfl rfl Tryd.call109 (Wk.i0 m bU b1) fun b2 b3 b4 w b5 m b6 a f => ?_
           obtain ⟨b7, rfl, rfl, b8⟩ := b6
           refine l_as f rfl rfl fun a f => l_nil (k_seq (k_region ?_))
           refine l_mv f rfl rfl fun a f => l_as f rfl rfl fun a f => l_nil ?_
           refine k_exit rfl ?_
           obtain rfl := sj am
           exact ⟨_, rfl, _, _, _, _, _, _, rfl, _, b7, (GLe.trans ao (GLe.trans a2 (GLe.trans a9 (GLe.trans bu (GLe.trans bz (GLe.trans bC (GLe.trans bT (GLe.trans bY b5)))))))), f.weak ⟨rfl, rfl, rfl, rfl, rfl, rfl, trivial⟩, m, b8⟩
          ·refine k_false f rfl bZ ?_
           refine k_skip ?_
           refine k_seq (k_region ?_)
           refine l_mv f rfl rfl fun a f => l_mv f rfl rfl fun a f => l_mv f rfl rfl fun a f => l_mv f rfl rfl fun a f => ?_
           obtain ⟨b9, ca, am⟩ := bind_some am
           refine l_res f rfl rfl Tryd.call110 (Wk.s0 m bU ca) fun cb cc cd w ce m cf a f => ?_
           obtain ⟨cg, rfl, rfl, ch⟩ := cf
           refine l_mv f rfl rfl fun a f => l_op f rfl rfl rfl (r_extract (f.eval rfl) rfl) fun a f => l_op f rfl rfl rfl (r_extract (f.eval rfl) rfl) fun a f => l_as f rfl rfl fun a f => l_as f rfl rfl fun a f => l_nil (k_seq (k_region ?_))
           refine l_mv f rfl rfl fun a f => l_as f rfl rfl fun a f => l_nil (k_seq (k_region ?_))
           refine l_mv f rfl rfl fun a f => l_mv f rfl rfl fun a f => l_in f rfl rfl rfl b_sub fun a f => l_mv f rfl rfl fun a f => l_mv f rfl rfl fun a f => l_in f rfl rfl rfl b_sub fun a f => l_as f rfl rfl fun a f => l_as f rfl rfl fun a f => l_nil (k_seq (k_region ?_))
           refine l_mv f rfl rfl fun a f => l_in f rfl rfl rfl (b_quo rfl) fun a f => l_as f rfl rfl fun a f => l_nil (k_seq (k_region ?_))
           refine l_mv f rfl rfl fun a f => l_mv f rfl rfl fun a f => l_in f rfl rfl rfl b_lss fun a f => l_nil ?_
           rcases cond_some am with ⟨ci, am⟩ | ⟨ci, am⟩
           ·refine k_true f rfl ci ?_
            refine k_seq (k_region ?_)
            refine l_mv f rfl rfl fun a f => l_mv f rfl rfl fun a f => l_in f rfl rfl rfl b_geq fun a f => l_as f rfl rfl fun a f => l_nil (k_seq (k_region ?_))
            refine l_mv f rfl rfl fun a f => l_mv f rfl rfl fun a f => l_mv f rfl rfl fun a f => l_mv f rfl rfl fun a f => ?_
            obtain ⟨cj, ck, am⟩ := bind_some am
            refine l_res f rfl rfl Tryd.call90 (ih m ch ck) fun cl cm cn w co m cp a f => ?_
            obtain ⟨cq, rfl, cr⟩ := cp
            refine l_nil (k_region ?_)
            refine l_mv f rfl rfl fun a f => l_in f rfl rfl rfl b_add fun a f => l_as f rfl rfl fun a f => l_nil ?_
            obtain rfl := sj am
            exact ⟨_, rfl, _, _, _, _, _, _, rfl, _, cq, (GLe.trans ao (GLe.trans a2 (GLe.trans a9 (GLe.trans bu (GLe.trans bz (GLe.trans bC (GLe.trans bT (GLe.trans bY (GLe.trans ce co))))))))), f.weak ⟨rfl, rfl, rfl, rfl, rfl, rfl, trivial⟩, m, cr⟩
           ·refine k_false f rfl ci ?_
            refine k_seq (k_region ?_)
            refine l_mv f rfl rfl fun a f => l_mv f rfl rfl fun a f => l_in f rfl rfl rfl b_geq fun a f => l_as f rfl rfl fun a f => l_nil (k_seq (k_region ?_))
            refine l_mv f rfl rfl fun a f => l_mv f rfl rfl fun a f => l_in f rfl rfl rfl b_add fun a f => l_mv f rfl rfl fun a f => l_mv f rfl rfl fun a f => ?_
            obtain ⟨cs, ct, am⟩ := bind_some am
            refine l_res f rfl rfl Tryd.call90 (ih m ch ct) fun cu cv cw w cx m cy a f => ?_
            obtain ⟨cz, rfl, cA⟩ := cy
            refine l_nil (k_region ?_)
            refine l_mv f rfl rfl fun a f => l_as f rfl rfl fun a f => l_nil ?_
            obtain rfl := sj am
            exact ⟨_, rfl, _, _, _, _, _, _, rfl, _, cz, (GLe.trans ao (GLe.trans a2 (GLe.trans a9 (GLe.trans bu (GLe.trans bz (GLe.trans bC (GLe.trans bT (GLe.trans bY (GLe.trans ce cx))))))))), f.weak ⟨rfl, rfl, rfl, rfl, rfl, rfl, trivial⟩, m, cA⟩
         ·intro cB
          rcases cond_some bW with ⟨cC, bW⟩ | ⟨cC, bW⟩
          ·refine q_mv 3 15 rfl (by kernel_rfl) f (wanted_of f rfl rfl rfl cC) rfl rfl fun a f => ?_
           refine q_mv 4 15 rfl (by kernel_rfl) f (wanted_of f rfl rfl rfl cC) rfl rfl fun a f => q_p 5 15 rfl (by kernel_rfl) f (wanted_of f rfl rfl rfl cC) rfl rfl (fun _ => r_int (f.eval rfl) (f.eval rfl) b_sub) fun a f => ?_
           obtain ⟨cD, cE, bW⟩ := bind_some bW
           refine q_own_at (i := 6) 15 0 m bU rfl T32 cE rfl (by kernel_rfl) rfl f (wanted_of f rfl rfl rfl cC) rfl rfl rfl fun cF a cG f => q_own_load (i := 7) 15 0 bU rfl Pl2 cG cE rfl (by kernel_rfl) rfl f (wanted_of f rfl rfl rfl cC) rfl rfl fun cH a cI f => ?_
           subst cI
           refine q_mv 8 15 rfl (by kernel_rfl) f (wanted_of f rfl rfl rfl cC) rfl rfl fun a f => q_mv 9 15 rfl (by kernel_rfl) f (wanted_of f rfl rfl rfl cC) rfl rfl fun a f => ?_
           obtain ⟨cJ, cK, bW⟩ := bind_some bW
           refine q_own_at (i := 10) 15 0 m bU rfl T32 cK rfl (by kernel_rfl) rfl f (wanted_of f rfl rfl rfl cC) rfl rfl rfl fun cL a cM f => q_own_load (i := 11) 15 0 bU rfl Pl2 cM cK rfl (by kernel_rfl) rfl f (wanted_of f rfl rfl rfl cC) rfl rfl fun cN a cO f => ?_
           subst cO
           obtain ⟨cP, cQ, bW⟩ := bind_some bW
           refine q_call (i := 12) 15 rfl (by kernel_rfl) rfl f (wanted_of f rfl rfl rfl cC) rfl rfl Tryd.call108 (fun _ _ w cR m => Wk.a m  cQ) fun a f => q_p 13 15 rfl (by kernel_rfl) f (wanted_of f rfl rfl rfl cC) rfl rfl (fun _ => r_not (f.eval rfl)) fun a f => q_p 14 15 rfl (by kernel_rfl) f rfl rfl rfl (fun _ => r_pickT (f.eval rfl) cC (f.eval rfl)) fun a f => ?_
           obtain rfl := sj bW
           exact cB _ (f.weak ⟨rfl, rfl, rfl, rfl, rfl, rfl, rfl, rfl, rfl, rfl, rfl, rfl, trivial⟩)
          ·refine q_ng 3 15 rfl (by kernel_rfl) f rfl rfl cC rfl fun a f => ?_
           refine q_ng 4 15 rfl (by kernel_rfl) f rfl rfl cC rfl fun a f => q_ng 5 15 rfl (by kernel_rfl) f rfl rfl cC rfl fun a f => q_ng 6 15 rfl (by kernel_rfl) f rfl rfl cC rfl fun a f => q_ng 7 15 rfl (by kernel_rfl) f rfl rfl cC rfl fun a f => q_ng 8 15 rfl (by kernel_rfl) f rfl rfl cC rfl fun a f => q_ng 9 15 rfl (by kernel_rfl) f rfl rfl cC rfl fun a f => q_ng 10 15 rfl (by kernel_rfl) f rfl rfl cC rfl fun a f => q_ng 11 15 rfl (by kernel_rfl) f rfl rfl cC rfl fun a f => q_ng 12 15 rfl (by kernel_rfl) f rfl rfl cC rfl fun a f => q_ng 13 15 rfl (by kernel_rfl) f rfl rfl cC rfl fun a f => q_p 14 15 rfl (by kernel_rfl) f rfl rfl rfl (fun _ => r_pickF (f.eval rfl) cC (f.eval rfl)) fun a f => ?_
           obtain rfl := sj bW
           exact cB _ (f.weak ⟨rfl, rfl, rfl, rfl, rfl, rfl, rfl, rfl, rfl, rfl, rfl, rfl, trivial⟩)

theorem Wk.j {W w : World} {G : GH} {H : List Itm} {v0 : Value} {it0 : Itm} {x0 : (List Int)} {x1 : Int} {x2 : Int} {x3 : Int} (m : Mem W G w (it0 :: H)) (o0 : Ow (RI .i64) 2 G it0 v0 x0) {y : ((List Int))} (hd : D.j x0 x1 x2 x3 = some y) :
  Calls Tryd.prog 90 #[v0, (.int .i64 x1), (.int .i64 x2), (.int .i64 x3)] w (Res W G H (fun G' Ho _ => ∃ i0 : Itm, Ho = [i0] ∧ Ow (RI .i64) 2 G' i0 v0 y)) := by
 exact Wk.w recFuel m o0 hd

theorem Wk.F0 {W w : World} {G : GH} {H : List Itm} {v0 : Value} {it0 : Itm} {x0 : (List Int)} (m : Mem W G w (it0 :: H)) (o0 : Ow (RI .i64) 2 G it0 v0 x0) {y : ((List Int))} (hd : D.F0 x0 = some y) :
  Calls Tryd.prog 74 #[v0] w (Res W G H (fun G' Ho _ => ∃ i0 : Itm, Ho = [i0] ∧ Ow (RI .i64) 2 G' i0 v0 y)) := by
 refine calls_b (args := [v0]) (N := 11) [] Tryd.func74 rfl rfl (Nat.le_of_ble_eq_true rfl) rfl fun a f => ?_
 unfold D.F0 at hd
 refine k_seq (k_region ?_)
 refine l_mv f rfl rfl fun a f => l_own_len 0 m o0 rfl Tryd.underlying32 f rfl rfl fun a f => l_as f rfl rfl fun a f => l_nil (k_region ?_)
 refine l_mv f rfl rfl fun a f => l_mv f rfl rfl fun a f => l_mv f rfl rfl fun a f => l_op f rfl rfl rfl (r_conv (f.eval rfl) ⟨_, Tryd.underlying3⟩ Tryd.underlying84) fun a f => ?_
 obtain ⟨aa, ab, hd⟩ := bind_some hd
 refine l_res f rfl rfl Tryd.call91 (Wk.G m  ab) fun ac ad ae w af m ag a f => ?_
 obtain ⟨rfl, rfl⟩ := ag
 have o0 := od1 af o0
 obtain ⟨ah, ai, hd⟩ := bind_some hd
 refine l_res f rfl rfl Tryd.call90 (Wk.j m o0 ai) fun aj ak al w am m an a f => ?_
 obtain ⟨ao, rfl, ap⟩ := an
 refine l_nil ?_
 obtain rfl := sj hd
 exact ⟨[], trivial, f.defers, _, [ao], (GLe.trans af am), m, _, rfl, ap⟩

theorem Wk.N {W w : World} {G : GH} {H : List Itm} {v0 : Value} {b0 : Nat} {x0 : (List Int)} (m : Mem W G w (Itm.box b0 32 [v0] :: H)) (h0 : RSl (RI .i64) G v0 x0) {y : ((List Int))} (hd : D.N x0 = some y) :
  Calls Tryd.prog 40 #[(.func (.func 75) #[] #[(.pointer (some ⟨b0, 0, none⟩))])] w (Res W G H (fun G' Ho v => ∃ r0 : Value, ∃ i0 : Itm, Ho = [i0] ∧ r0 = v ∧ Ow (RI .i64) 2 G' i0 r0 y)) := by
 refine calls_b (args := [(.func (.func 75) #[] #[(.pointer (some ⟨b0, 0, none⟩))])]) (N := 9) [.tmp 2] Tryd.func40 rfl rfl (Nat.le_of_ble_eq_true rfl) rfl fun a f => ?_
 unfold D.N at hd
 refine k_seq (k_region ?_)
 refine l_as f rfl rfl fun a f => l_nil (k_seq (k_region ?_))
 refine l_mv f rfl rfl fun a f => ?_
 obtain ⟨aa, ab, hd⟩ := bind_some hd
 refine l_res f rfl rfl Tryd.call73 (Wk.y0 m h0 ab) fun ac ad ae w af m ag a f => ?_
 obtain ⟨ah, ai, rfl, rfl, aj⟩ := ag
 refine l_as f rfl rfl fun a f => l_nil (k_seq (k_region ?_))
 refine l_mv f rfl rfl fun a f => ?_
 obtain ⟨ak, al, hd⟩ := bind_some hd
 refine l_res f rfl rfl Tryd.call74 (Wk.F0 m aj al) fun am an ao w ap m aq a f => ?_
 obtain ⟨ar, rfl, au⟩ := aq
 refine l_nil (k_seq (k_region ?_))
 refine l_mv f rfl rfl fun a f => l_as f rfl rfl fun a f => l_nil ?_
 refine k_ret ?_
 obtain rfl := sj hd
 exact ⟨[ah], ⟨f.get _ _ rfl, trivial⟩, f.defers, _, [ar], (GLe.trans af ap), m, _, _, rfl, rfl, au⟩

end Go.Proofs.YtkffjeaefgfnnaaDoor
