/- Parts of the proof: MAW, MBW, MCW. -/
import Derived.Test.YtebbefpdncgoiaaGreatDoorCt2
import Derived.Test.YtebbefpdncgoiaaGreatDoorProg
import Derived.KernelRfl
set_option linter.unusedVariables false
set_option linter.unusedSimpArgs false
set_option linter.unusedSectionVars false
set_option maxRecDepth 100000
namespace Go.Proofs.YtebbefpdncgoiaaGreatDoor
open Go Go.Sx
theorem Follows : Tryz.prog.follows .mixedOrders = true := by kernel_rfl
theorem Pl2 : Plain Tryz.prog 2 := Tryz.isAgg2
theorem T42 : SlT Tryz.prog 42 2 1 8 (.int .i64 0) := ⟨Tryz.underlying42, Tryz.t2, by kernel_rfl, by kernel_rfl, by kernel_rfl, by kernel_rfl⟩
theorem Pl5 : Plain Tryz.prog 5 := Tryz.isAgg5
theorem T22 : SlT Tryz.prog 22 42 1 24 (.slice none 0 0) := ⟨Tryz.underlying22, Tryz.t42, by kernel_rfl, by kernel_rfl, by kernel_rfl, by kernel_rfl⟩
theorem Pl190 : Plain Tryz.prog 190 := Tryz.isAgg190
theorem T71 : SlT Tryz.prog 71 76 1 4 (.int .u32 0) := ⟨Tryz.underlying71, Tryz.t76, by kernel_rfl, by kernel_rfl, by kernel_rfl, by kernel_rfl⟩
theorem Pl3 : Plain Tryz.prog 3 := Tryz.isAgg3
theorem T94 : SlT Tryz.prog 94 3 1 8 (.int .i64 0) := ⟨Tryz.underlying94, Tryz.t3, by kernel_rfl, by kernel_rfl, by kernel_rfl, by kernel_rfl⟩

theorem Wk.U0 {W w : World} {G : GH} {H : List Itm} {v0 : Value} {x0 : (List Int)} {x1 : Int} (m : Mem W G w (H)) (h0 : RSl (RI .i64) G v0 x0) {y : Int} (hd : D.U0 x0 x1 = some y) :
  Calls Tryz.prog 150 #[v0, (.int .i64 x1)] w (Res W G H (fun _ Ho v => Ho = [] ∧ v = (.int .i64 y))) := by
 refine calls_b (args := [v0, (.int .i64 x1)]) (N := 19) [.tmp 4] Tryz.func150 rfl rfl (Nat.le_of_ble_eq_true rfl) rfl fun a f => ?_
 unfold D.U0 at hd
 refine k_seq (k_region ?_)
 refine l_as f rfl rfl fun a f => l_nil (k_seq (k_seq (k_region ?_)))
 refine l_mv f rfl rfl fun a f => l_len Tryz.underlying42 f rfl rfl h0 fun a f => l_mv f rfl rfl fun a f => l_nil ?_
 obtain ⟨aa, ab, hd⟩ := bind_some hd
 refine k_cut (fun a w => ∃ q_19' : Unit, aa = .inl q_19' ∧ ∃ (ac : GH), GLe G ac ∧ Fr a 19 [] ∧ Mem W ac w (H)) ?_ ?_
 ·refine k_block ?_
  refine k_loop (fun ad a w => ∃ ae : Int, ae = ad ∧ ∃ (af : GH), GLe G af ∧ Fr a 19 [(0, v0), (1, (.int .i64 x1)), (7, (.int .i64 (x0.length : Int))), (8, (.int .i64 ae))] ∧ Mem W af w (H)) ab ⟨_, rfl, _, (GLe.refl _), f.weak ⟨rfl, rfl, rfl, rfl, trivial⟩, m⟩ ?_
  clear ab f m
  rintro ad ag ah ai a w ⟨ae, rfl, af, aj, f, m⟩
  have h0 := rd1 aj h0
  refine k_seq (k_region ?_)
  refine l_in f rfl rfl rfl b_lss fun a f => l_nil (k_seq ?_)
  rcases cond_some ah with ⟨ak, ah⟩ | ⟨ak, ah⟩
  ·refine k_true f rfl ak ?_
   refine k_skip ?_
   refine k_seq (k_block (k_seq (k_region ?_)))
   refine l_mv f rfl rfl fun a f => l_as f rfl rfl fun a f => l_nil (k_seq (k_region ?_))
   refine l_mv f rfl rfl fun a f => l_mv f rfl rfl fun a f => l_mv f rfl rfl fun a f => ?_
   obtain ⟨al, am, ah⟩ := bind_some ah
   refine l_at T42 f rfl rfl rfl h0 am fun an ao a ap aq f => ?_
   subst aq
   refine l_loadAt m Pl2 f rfl rfl ap fun a f => l_in f rfl rfl rfl b_eql fun a f => l_nil ?_
   rcases cond_some ah with ⟨ar, ah⟩ | ⟨ar, ah⟩
   ·refine k_true f rfl ar ?_
    refine k_seq (k_region ?_)
    refine l_mv f rfl rfl fun a f => l_as f rfl rfl fun a f => l_nil ?_
    refine k_ret ?_
    obtain rfl := sj ah
    obtain rfl := ai _ rfl
    obtain rfl := sj hd
    exact ⟨[(.int .i64 ae)], ⟨f.get _ _ rfl, trivial⟩, f.defers, _, [], aj, m, rfl, rfl⟩
   ·refine k_false f rfl ar ?_
    refine k_skip ?_
    refine k_region ?_
    refine l_in f rfl rfl rfl b_add fun a f => l_mv f rfl rfl fun a f => l_nil ?_
    obtain rfl := sj ah
    exact ⟨_, rfl, _, rfl, _, aj, f.weak ⟨rfl, rfl, rfl, rfl, trivial⟩, m⟩
  ·refine k_false f rfl ak ?_
   refine k_exit rfl ?_
   obtain rfl := sj ah
   obtain rfl := ai _ rfl
   exact ⟨_, rfl, _, aj, f.weak trivial, m⟩
 ·rintro a w ⟨_, rfl, ac, au, f, m⟩
  refine k_seq (k_region ?_)
  refine l_as f rfl rfl fun a f => l_nil ?_
  refine k_ret ?_
  obtain rfl := sj hd
  exact ⟨[(.int .i64 (-1))], ⟨f.get _ _ rfl, trivial⟩, f.defers, _, [], au, m, rfl, rfl⟩

theorem Wk.g0 {W w : World} {G : GH} {H : List Itm} {v0 : Value} {x0 : (List Int)} {x1 : Int} (m : Mem W G w (H)) (h0 : RSl (RI .i64) G v0 x0) {y : Bool} (hd : D.g0 x0 x1 = some y) :
  Calls Tryz.prog 109 #[v0, (.int .i64 x1)] w (Res W G H (fun _ Ho v => Ho = [] ∧ v = (.bool y))) := by
 refine calls_b (args := [v0, (.int .i64 x1)]) (N := 9) [.tmp 4] Tryz.func109 rfl rfl (Nat.le_of_ble_eq_true rfl) rfl fun a f => ?_
 unfold D.g0 at hd
 refine k_seq (k_region ?_)
 refine l_as f rfl rfl fun a f => l_nil (k_seq (k_region ?_))
 refine l_mv f rfl rfl fun a f => l_mv f rfl rfl fun a f => ?_
 obtain ⟨aa, ab, hd⟩ := bind_some hd
 refine l_res f rfl rfl Tryz.call150 (Wk.U0 m h0 ab) fun ac ad ae w af m ag a f => ?_
 obtain ⟨rfl, rfl⟩ := ag
 have h0 := rd1 af h0
 refine l_in f rfl rfl rfl b_geq fun a f => l_as f rfl rfl fun a f => l_nil ?_
 refine k_ret ?_
 obtain rfl := sj hd
 exact ⟨[(.bool (decide ((0 : Int) ≤ aa)))], ⟨f.get _ _ rfl, trivial⟩, f.defers, _, [], af, m, rfl, rfl⟩

theorem Wk.c1 {W w : World} {G : GH} {H : List Itm} {x0 : Int} (hW : TabW W) (m : Mem W G w (H))  {y : Int} (hd : D.c1 x0 = some y) :
  Calls Tryz.prog 179 #[(.int .u32 x0)] w (Res W G H (fun _ Ho v => Ho = [] ∧ v = (.int .i64 y))) := by
 refine calls_b (args := [(.int .u32 x0)]) (N := 14) [.tmp 2] Tryz.func179 rfl rfl (Nat.le_of_ble_eq_true rfl) rfl fun a f => ?_
 unfold D.c1 at hd
 refine k_seq (k_region ?_)
 refine l_as f rfl rfl fun a f => l_nil (k_seq (k_seq (k_region ?_)))
 refine l_mv f rfl rfl fun a f => l_in f rfl rfl rfl b_eql fun a f => l_nil ?_
 rcases cond_some hd with ⟨aa, hd⟩ | ⟨aa, hd⟩
 ·refine k_true f rfl aa ?_
  refine k_seq (k_region ?_)
  refine l_as f rfl rfl fun a f => l_nil ?_
  refine k_ret ?_
  obtain rfl := sj hd
  exact ⟨[(.int .i64 32)], ⟨f.get _ _ rfl, trivial⟩, f.defers, _, [], (GLe.refl _), m, rfl, rfl⟩
 ·refine k_false f rfl aa ?_
  refine k_skip ?_
  refine k_seq (k_region ?_)
  refine l_mv f rfl rfl fun a f => l_mv f rfl rfl fun a f => l_op f rfl rfl rfl (r_neg (f.eval rfl)) fun a f => l_in f rfl rfl rfl b_and fun a f => l_in f rfl rfl rfl b_mul fun a f => l_op f rfl rfl rfl (r_shr (f.eval rfl) (f.eval rfl) (by decide)) fun a f => ?_
  obtain ⟨ab, ac, hd⟩ := bind_some hd
  refine l_tab hW m Tryz.underlying202 Tryz.sizeOf5 f rfl rfl ac fun ad a ae f => l_loadAt m Pl5 f rfl rfl ae fun a f => l_op f rfl rfl rfl (r_conv (f.eval rfl) ⟨_, Tryz.underlying5⟩ Tryz.underlying3) fun a f => l_as f rfl rfl fun a f => l_nil ?_
  refine k_ret ?_
  obtain rfl := sj hd
  exact ⟨[(.int .i64 (IntKind.i64.wrap ab))], ⟨f.get _ _ rfl, trivial⟩, f.defers, _, [], (GLe.refl _), m, rfl, rfl⟩

theorem Wk.O {W w : World} {G : GH} {H : List Itm} {x0 : Int} (m : Mem W G w (H))  {y : Int} (hd : D.O x0 = some y) :
  Calls Tryz.prog 190 #[(.int .i64 x0)] w (Res W G H (fun _ Ho v => Ho = [] ∧ v = (.int .u64 y))) := by
 refine calls_b (args := [(.int .i64 x0)]) (N := 7) [.tmp 2] Tryz.func190 rfl rfl (Nat.le_of_ble_eq_true rfl) rfl fun a f => ?_
 unfold D.O at hd
 refine k_seq (k_region ?_)
 refine l_as f rfl rfl fun a f => l_nil (k_seq (k_region ?_))
 refine l_mv f rfl rfl fun a f => l_op f rfl rfl rfl (r_conv (f.eval rfl) ⟨_, Tryz.underlying3⟩ Tryz.underlying135) fun a f => ?_
 obtain ⟨aa, ab, hd⟩ := bind_some hd
 refine l_res f rfl rfl Tryz.call122 (Wk.z m  ab) fun ac ad ae w af m ag a f => ?_
 obtain ⟨rfl, rfl⟩ := ag
 obtain ⟨ah, hd⟩ := cond_none hd
 refine l_op f rfl rfl rfl (r_shl (f.eval rfl) (f.eval rfl) ah) fun a f => l_as f rfl rfl fun a f => l_nil ?_
 refine k_ret ?_
 obtain rfl := sj hd
 exact ⟨[(.int .u64 (ishl .u64 1 aa))], ⟨f.get _ _ rfl, trivial⟩, f.defers, _, [], af, m, rfl, rfl⟩

theorem Wk.c0 {W w : World} {G : GH} {H : List Itm} {b0 : Nat} {x0_0 : Int} (m : Mem W G w (Itm.box b0 190 [(.int .u64 x0_0)] :: H))  {y : Int × Int} (hd : D.c0 x0_0 = some y) :
  Calls Tryz.prog 191 #[(.pointer (some ⟨b0, 0, none⟩))] w (Res W G H (fun _ Ho v => Ho = [Itm.box b0 190 [(.int .u64 y.2)]] ∧ v = (.int .u64 y.1))) := by
 refine calls_b (args := [(.pointer (some ⟨b0, 0, none⟩))]) (N := 33) [.tmp 2] Tryz.func191 rfl rfl (Nat.le_of_ble_eq_true rfl) rfl fun a f => ?_
 unfold D.c0 at hd
 refine k_seq (k_region ?_)
 refine l_as f rfl rfl fun a f => l_nil (k_seq ?_)
 refine k_draw 9 Follows (by kernel_rfl) m ?_
 refine q_mv 0 9 rfl (by kernel_rfl) f rfl rfl rfl fun a f => q_p 1 9 rfl (by kernel_rfl) f rfl rfl rfl (fun _ => r_nilCheck (f.eval rfl)) fun a f => q_boxCell (i := 2) 9 0 Pl190 rfl rfl rfl (by kernel_rfl) rfl f rfl rfl rfl fun a f => q_mv 3 9 rfl (by kernel_rfl) f rfl rfl rfl fun a f => q_p 4 9 rfl (by kernel_rfl) f rfl rfl rfl (fun _ => r_nilCheck (f.eval rfl)) fun a f => q_boxCell (i := 5) 9 0 Pl190 rfl rfl rfl (by kernel_rfl) rfl f rfl rfl rfl fun a f => q_p 6 9 rfl (by kernel_rfl) f rfl rfl rfl (fun _ => r_shl (f.eval rfl) (f.eval rfl) (by decide)) fun a f => q_p 7 9 rfl (by kernel_rfl) f rfl rfl rfl (fun _ => r_int (f.eval rfl) (f.eval rfl) b_xor) fun a f => q_p 8 9 rfl (by kernel_rfl) f rfl rfl rfl (fun _ => r_nilCheck (f.eval rfl)) fun a f => q_end fun aa w ab m => l_boxStore 0 0 (ds := [(.int .u64 (ixor .u64 x0_0 (ishl .u64 x0_0 13)))]) m Tryz.sizeOf190 f rfl rfl rfl (ones_cons rfl ones_nil) rfl (Nat.le_of_ble_eq_true rfl) rfl fun w m => ?_
 refine l_nil (k_seq ?_)
 refine k_draw 9 Follows (by kernel_rfl) m ?_
 refine q_mv 0 9 rfl (by kernel_rfl) f rfl rfl rfl fun a f => q_p 1 9 rfl (by kernel_rfl) f rfl rfl rfl (fun _ => r_nilCheck (f.eval rfl)) fun a f => q_boxCell (i := 2) 9 0 Pl190 rfl rfl rfl (by kernel_rfl) rfl f rfl rfl rfl fun a f => q_mv 3 9 rfl (by kernel_rfl) f rfl rfl rfl fun a f => q_p 4 9 rfl (by kernel_rfl) f rfl rfl rfl (fun _ => r_nilCheck (f.eval rfl)) fun a f => q_boxCell (i := 5) 9 0 Pl190 rfl rfl rfl (by kernel_rfl) rfl f rfl rfl rfl fun a f => q_p 6 9 rfl (by kernel_rfl) f rfl rfl rfl (fun _ => r_shr (f.eval rfl) (f.eval rfl) (by decide)) fun a f => q_p 7 9 rfl (by kernel_rfl) f rfl rfl rfl (fun _ => r_int (f.eval rfl) (f.eval rfl) b_xor) fun a f => q_p 8 9 rfl (by kernel_rfl) f rfl rfl rfl (fun _ => r_nilCheck (f.eval rfl)) fun a f => q_end fun ac w ad m => l_boxStore 0 0 (ds := [(.int .u64 (ixor .u64 (ixor .u64 x0_0 (ishl .u64 x0_0 13)) (ishr .u64 (ixor .u64 x0_0 (ishl .u64 x0_0 13)) 7)))]) m Tryz.sizeOf190 f rfl rfl rfl (ones_cons rfl ones_nil) rfl (Nat.le_of_ble_eq_true rfl) rfl fun w m => ?_
 refine l_nil (k_seq ?_)
 refine k_draw 9 Follows (by kernel_rfl) m ?_
 refine q_mv 0 9 rfl (by kernel_rfl) f rfl rfl rfl fun a f => q_p 1 9 rfl (by kernel_rfl) f rfl rfl rfl (fun _ => r_nilCheck (f.eval rfl)) fun a f => q_boxCell (i := 2) 9 0 Pl190 rfl rfl rfl (by kernel_rfl) rfl f rfl rfl rfl fun a f => q_mv 3 9 rfl (by kernel_rfl) f rfl rfl rfl fun a f => q_p 4 9 rfl (by kernel_rfl) f rfl rfl rfl (fun _ => r_nilCheck (f.eval rfl)) fun a f => q_boxCell (i := 5) 9 0 Pl190 rfl rfl rfl (by kernel_rfl) rfl f rfl rfl rfl fun a f => q_p 6 9 rfl (by kernel_rfl) f rfl rfl rfl (fun _ => r_shl (f.eval rfl) (f.eval rfl) (by decide)) fun a f => q_p 7 9 rfl (by kernel_rfl) f rfl rfl rfl (fun _ => r_int (f.eval rfl) (f.eval rfl) b_xor) fun a f => q_p 8 9 rfl (by kernel_rfl) f rfl rfl rfl (fun _ => r_nilCheck (f.eval rfl)) fun a f => q_end fun ae w af m => l_boxStore 0 0 (ds := [(.int .u64 (ixor .u64 (ixor .u64 (ixor .u64 x0_0 (ishl .u64 x0_0 13)) (ishr .u64 (ixor .u64 x0_0 (ishl .u64 x0_0 13)) 7)) (ishl .u64 (ixor .u64 (ixor .u64 x0_0 (ishl .u64 x0_0 13)) (ishr .u64 (ixor .u64 x0_0 (ishl .u64 x0_0 13)) 7)) 17)))]) m Tryz.sizeOf190 f rfl rfl rfl (ones_cons rfl ones_nil) rfl (Nat.le_of_ble_eq_true rfl) rfl fun w m => ?_
 refine l_nil (k_seq (k_region ?_))
 refine l_mv f rfl rfl fun a f => l_op f rfl rfl rfl (r_nilCheck (f.eval rfl)) fun a f => l_boxCell 0 0 m Pl190 f rfl rfl rfl rfl fun a f => l_as f rfl rfl fun a f => l_nil ?_
 refine k_ret ?_
 obtain rfl := sj hd
 exact ⟨[(.int .u64 (ixor .u64 (ixor .u64 (ixor .u64 x0_0 (ishl .u64 x0_0 13)) (ishr .u64 (ixor .u64 x0_0 (ishl .u64 x0_0 13)) 7)) (ishl .u64 (ixor .u64 (ixor .u64 x0_0 (ishl .u64 x0_0 13)) (ishr .u64 (ixor .u64 x0_0 (ishl .u64 x0_0 13)) 7)) 17)))], ⟨f.get _ _ rfl, trivial⟩, f.defers, _, [Itm.box b0 190 [(.int .u64 (ixor .u64 (ixor .u64 (ixor .u64 x0_0 (ishl .u64 x0_0 13)) (ishr .u64 (ixor .u64 x0_0 (ishl .u64 x0_0 13)) 7)) (ishl .u64 (ixor .u64 (ixor .u64 x0_0 (ishl .u64 x0_0 13)) (ishr .u64 (ixor .u64 x0_0 (ishl .u64 x0_0 13)) 7)) 17)))]], (GLe.trans ab (GLe.trans ad af)), m, rfl, rfl⟩

theorem Wk.X {W w : World} {G : GH} {H : List Itm} {x0 : Int} (m : Mem W G w (H))  {y : Bool} (hd : D.X x0 = some y) :
  Calls Tryz.prog 164 #[(.int .i64 x0)] w (Res W G H (fun _ Ho v => Ho = [] ∧ v = (.bool y))) := by
 refine calls_b (args := [(.int .i64 x0)]) (N := 6) [.tmp 2] Tryz.func164 rfl rfl (Nat.le_of_ble_eq_true rfl) rfl fun a f => ?_
 unfold D.X at hd
 refine k_seq (k_region ?_)
 refine l_as f rfl rfl fun a f => l_nil (k_seq (k_region ?_))
 refine l_mv f rfl rfl fun a f => l_mv f rfl rfl fun a f => l_in f rfl rfl rfl b_neq fun a f => l_as f rfl rfl fun a f => l_nil ?_
 refine k_ret ?_
 obtain rfl := sj hd
 exact ⟨[(.bool (x0 != x0))], ⟨f.get _ _ rfl, trivial⟩, f.defers, _, [], (GLe.refl _), m, rfl, rfl⟩

theorem Wk.B0 {W w : World} {G : GH} {H : List Itm} {x0 : Int} {x1 : Int} (m : Mem W G w (H))  {y : Int} (hd : D.B0 x0 x1 = some y) :
  Calls Tryz.prog 123 #[(.int .i64 x0), (.int .i64 x1)] w (Res W G H (fun _ Ho v => Ho = [] ∧ v = (.int .i64 y))) := by
 refine calls_b (args := [(.int .i64 x0), (.int .i64 x1)]) (N := 20) [.tmp 4] Tryz.func123 rfl rfl (Nat.le_of_ble_eq_true rfl) rfl fun a f => ?_
 unfold D.B0 at hd
 refine k_seq (k_region ?_)
 refine l_as f rfl rfl fun a f => l_nil (k_seq (k_region ?_))
 refine l_mv f rfl rfl fun a f => ?_
 obtain ⟨aa, ab, hd⟩ := bind_some hd
 refine l_res f rfl rfl Tryz.call164 (Wk.X m  ab) fun ac ad ae w af m ag a f => ?_
 obtain ⟨rfl, rfl⟩ := ag
 refine l_as f rfl rfl fun a f => l_nil (k_seq (k_region ?_))
 refine l_mv f rfl rfl fun a f => ?_
 obtain ⟨ah, ai, hd⟩ := bind_some hd
 refine l_res f rfl rfl Tryz.call164 (Wk.X m  ai) fun aj ak al w am m an a f => ?_
 obtain ⟨rfl, rfl⟩ := an
 refine l_as f rfl rfl fun a f => l_nil (k_seq (k_seq (k_region ?_)))
 refine l_mv f rfl rfl fun a f => l_nil ?_
 rcases cond_some hd with ⟨ao, hd⟩ | ⟨ao, hd⟩
 ·refine k_true f rfl ao ?_
  refine k_seq (k_seq (k_region ?_))
  refine l_mv f rfl rfl fun a f => l_nil ?_
  rcases cond_some hd with ⟨ap, hd⟩ | ⟨ap, hd⟩
  ·refine k_true f rfl ap ?_
   refine k_seq (k_region ?_)
   refine l_as f rfl rfl fun a f => l_nil ?_
   refine k_ret ?_
   obtain rfl := sj hd
   exact ⟨[(.int .i64 0)], ⟨f.get _ _ rfl, trivial⟩, f.defers, _, [], (GLe.trans af am), m, rfl, rfl⟩
  ·refine k_false f rfl ap ?_
   refine k_skip ?_
   refine k_seq (k_region ?_)
   refine l_as f rfl rfl fun a f => l_nil ?_
   refine k_ret ?_
   obtain rfl := sj hd
   exact ⟨[(.int .i64 (-1))], ⟨f.get _ _ rfl, trivial⟩, f.defers, _, [], (GLe.trans af am), m, rfl, rfl⟩
 ·refine k_false f rfl ao ?_
  refine k_skip ?_
  refine k_seq (k_seq (k_region ?_))
  refine l_mv f rfl rfl fun a f => l_nil ?_
  rcases cond_some hd with ⟨aq, hd⟩ | ⟨aq, hd⟩
  ·refine k_true f rfl aq ?_
   refine k_seq (k_region ?_)
   refine l_as f rfl rfl fun a f => l_nil ?_
   refine k_ret ?_
   obtain rfl := sj hd
   exact ⟨[(.int .i64 1)], ⟨f.get _ _ rfl, trivial⟩, f.defers, _, [], (GLe.trans af am), m, rfl, rfl⟩
  ·refine k_false f rfl aq ?_
   refine k_skip ?_
   refine k_seq (k_seq (k_region ?_))
   refine l_mv f rfl rfl fun a f => l_mv f rfl rfl fun a f => l_in f rfl rfl rfl b_lss fun a f => l_nil ?_
   rcases cond_some hd with ⟨ar, hd⟩ | ⟨ar, hd⟩
   ·refine k_true f rfl ar ?_
    refine k_seq (k_region ?_)
    refine l_as f rfl rfl fun a f => l_nil ?_
    refine k_ret ?_
    obtain rfl := sj hd
    exact ⟨[(.int .i64 (-1))], ⟨f.get _ _ rfl, trivial⟩, f.defers, _, [], (GLe.trans af am), m, rfl, rfl⟩
   ·refine k_false f rfl ar ?_
    refine k_skip ?_
    refine k_seq (k_seq (k_region ?_))
    refine l_mv f rfl rfl fun a f => l_mv f rfl rfl fun a f => l_in f rfl rfl rfl b_gtr fun a f => l_nil ?_
    rcases cond_some hd with ⟨au, hd⟩ | ⟨au, hd⟩
    ·refine k_true f rfl au ?_
     refine k_seq (k_region ?_)
     refine l_as f rfl rfl fun a f => l_nil ?_
     refine k_ret ?_
     obtain rfl := sj hd
     exact ⟨[(.int .i64 1)], ⟨f.get _ _ rfl, trivial⟩, f.defers, _, [], (GLe.trans af am), m, rfl, rfl⟩
    ·refine k_false f rfl au ?_
     refine k_skip ?_
     refine k_seq (k_region ?_)
     refine l_as f rfl rfl fun a f => l_nil ?_
     refine k_ret ?_
     obtain rfl := sj hd
     exact ⟨[(.int .i64 0)], ⟨f.get _ _ rfl, trivial⟩, f.defers, _, [], (GLe.trans af am), m, rfl, rfl⟩

theorem Wk.b {W w : World} {G : GH} {H : List Itm} {v0 : Value} {v1 : Value} {x0 : (List Int)} {x1 : (List Int)} (m : Mem W G w (H)) (h0 : RSl (RI .i64) G v0 x0) (h1 : RSl (RI .i64) G v1 x1) {y : Int} (hd : D.b x0 x1 = some y) :
  Calls Tryz.prog 58 #[v0, v1] w (Res W G H (fun _ Ho v => Ho = [] ∧ v = (.int .i64 y))) := by
 refine calls_b (args := [v0, v1]) (N := 36) [.tmp 4] Tryz.func58 rfl rfl (Nat.le_of_ble_eq_true rfl) rfl fun a f => ?_
 unfold D.b at hd
 refine k_seq (k_region ?_)
 refine l_as f rfl rfl fun a f => l_nil (k_seq (k_seq (k_region ?_)))
 refine l_mv f rfl rfl fun a f => l_len Tryz.underlying42 f rfl rfl h0 fun a f => l_mv f rfl rfl fun a f => l_nil ?_
 obtain ⟨aa, ab, hd⟩ := bind_some hd
 refine k_cut (fun a w => ∃ q_47' : Unit, aa = .inl q_47' ∧ ∃ (ac : GH), GLe G ac ∧ Fr a 36 [(0, v0), (1, v1)] ∧ Mem W ac w (H)) ?_ ?_
 ·refine k_block ?_
  refine k_loop (fun ad a w => ∃ ae : Int, ae = ad ∧ ∃ (af : GH), GLe G af ∧ Fr a 36 [(0, v0), (1, v1), (9, v0), (10, (.int .i64 (x0.length : Int))), (11, (.int .i64 ae))] ∧ Mem W af w (H)) ab ⟨_, rfl, _, (GLe.refl _), f.weak ⟨rfl, rfl, rfl, rfl, rfl, trivial⟩, m⟩ ?_
  clear ab f m
  rintro ad ag ah ai a w ⟨ae, rfl, af, aj, f, m⟩
  have h0 := rd1 aj h0
  have h1 := rd1 aj h1
  refine k_seq (k_region ?_)
  refine l_in f rfl rfl rfl b_lss fun a f => l_nil (k_seq ?_)
  rcases cond_some ah with ⟨ak, ah⟩ | ⟨ak, ah⟩
  ·refine k_true f rfl ak ?_
   refine k_skip ?_
   refine k_seq (k_block (k_seq (k_region ?_)))
   refine l_mv f rfl rfl fun a f => ?_
   obtain ⟨al, am, ah⟩ := bind_some ah
   refine l_at T42 f rfl rfl rfl h0 am fun an ao a ap aq f => ?_
   subst aq
   refine l_loadAt m Pl2 f rfl rfl ap fun a f => l_as f rfl rfl fun a f => l_as f rfl rfl fun a f => l_nil (k_seq (k_seq (k_region ?_)))
   refine l_mv f rfl rfl fun a f => l_mv f rfl rfl fun a f => l_len Tryz.underlying42 f rfl rfl h1 fun a f => l_in f rfl rfl rfl b_geq fun a f => l_nil ?_
   rcases cond_some ah with ⟨ar, ah⟩ | ⟨ar, ah⟩
   ·refine k_true f rfl ar ?_
    refine k_seq (k_region ?_)
    refine l_as f rfl rfl fun a f => l_nil ?_
    refine k_ret ?_
    obtain rfl := sj ah
    obtain rfl := ai _ rfl
    obtain rfl := sj hd
    exact ⟨[(.int .i64 1)], ⟨f.get _ _ rfl, trivial⟩, f.defers, _, [], aj, m, rfl, rfl⟩
   ·refine k_false f rfl ar ?_
    refine k_skip ?_
    refine k_seq (k_region ?_)
    refine l_mv f rfl rfl fun a f => l_mv f rfl rfl fun a f => ?_
    obtain ⟨au, av, ah⟩ := bind_some ah
    refine l_at T42 f rfl rfl rfl h1 av fun aw ax a ay az f => ?_
    subst az
    refine l_loadAt m Pl2 f rfl rfl ay fun a f => l_as f rfl rfl fun a f => l_nil (k_seq (k_region ?_))
    refine l_mv f rfl rfl fun a f => l_mv f rfl rfl fun a f => ?_
    obtain ⟨aA, aB, ah⟩ := bind_some ah
    refine l_res f rfl rfl Tryz.call123 (Wk.B0 m  aB) fun aC aD aE w aF m aG a f => ?_
    obtain ⟨rfl, rfl⟩ := aG
    have h0 := rd1 aF h0
    have h1 := rd1 aF h1
    refine l_as f rfl rfl fun a f => l_nil (k_seq (k_region ?_))
    refine l_mv f rfl rfl fun a f => l_in f rfl rfl rfl b_neq fun a f => l_nil ?_
    rcases cond_some ah with ⟨aH, ah⟩ | ⟨aH, ah⟩
    ·refine k_true f rfl aH ?_
     refine k_seq (k_region ?_)
     refine l_mv f rfl rfl fun a f => l_as f rfl rfl fun a f => l_nil ?_
     refine k_ret ?_
     obtain rfl := sj ah
     obtain rfl := ai _ rfl
     obtain rfl := sj hd
     exact ⟨[(.int .i64 aA)], ⟨f.get _ _ rfl, trivial⟩, f.defers, _, [], (GLe.trans aj aF), m, rfl, rfl⟩
    ·refine k_false f rfl aH ?_
     refine k_skip ?_
     refine k_region ?_
     refine l_in f rfl rfl rfl b_add fun a f => l_mv f rfl rfl fun a f => l_nil ?_
     obtain rfl := sj ah
     exact ⟨_, rfl, _, rfl, _, (GLe.trans aj aF), f.weak ⟨rfl, rfl, rfl, rfl, rfl, trivial⟩, m⟩
  ·refine k_false f rfl ak ?_
   refine k_exit rfl ?_
   obtain rfl := sj ah
   obtain rfl := ai _ rfl
   exact ⟨_, rfl, _, aj, f.weak ⟨rfl, rfl, trivial⟩, m⟩
 ·rintro a w ⟨_, rfl, ac, aI, f, m⟩
  have h0 := rd1 aI h0
  have h1 := rd1 aI h1
  refine k_seq (k_seq (k_region ?_))
  refine l_mv f rfl rfl fun a f => l_len Tryz.underlying42 f rfl rfl h0 fun a f => l_mv f rfl rfl fun a f => l_len Tryz.underlying42 f rfl rfl h1 fun a f => l_in f rfl rfl rfl b_lss fun a f => l_nil ?_
  rcases cond_some hd with ⟨aJ, hd⟩ | ⟨aJ, hd⟩
  ·refine k_true f rfl aJ ?_
   refine k_seq (k_region ?_)
   refine l_as f rfl rfl fun a f => l_nil ?_
   refine k_ret ?_
   obtain rfl := sj hd
   exact ⟨[(.int .i64 (-1))], ⟨f.get _ _ rfl, trivial⟩, f.defers, _, [], aI, m, rfl, rfl⟩
  ·refine k_false f rfl aJ ?_
   refine k_skip ?_
   refine k_seq (k_region ?_)
   refine l_as f rfl rfl fun a f => l_nil ?_
   refine k_ret ?_
   obtain rfl := sj hd
   exact ⟨[(.int .i64 0)], ⟨f.get _ _ rfl, trivial⟩, f.defers, _, [], aI, m, rfl, rfl⟩

theorem Wk.s0 {W w : World} {G : GH} {H : List Itm} {x0 : Int} (m : Mem W G w (H))  {y : Int} (hd : D.s0 x0 = some y) :
  Calls Tryz.prog 119 #[(.int .u32 x0)] w (Res W G H (fun _ Ho v => Ho = [] ∧ v = (.int .i64 y))) := by
 refine calls_b (args := [(.int .u32 x0)]) (N := 21) [.tmp 2] Tryz.func119 rfl rfl (Nat.le_of_ble_eq_true rfl) rfl fun a f => ?_
 unfold D.s0 at hd
 refine k_seq (k_region ?_)
 refine l_as f rfl rfl fun a f => l_nil (k_seq ?_)
 refine k_draw 19 Follows (by kernel_rfl) m ?_
 refine q_mv 0 19 rfl (by kernel_rfl) f rfl rfl rfl fun a f => q_p 1 19 rfl (by kernel_rfl) f rfl rfl rfl (fun _ => r_shr (f.eval rfl) (f.eval rfl) (by decide)) fun a f => ?_
 obtain ⟨aa, ab, hd⟩ := bind_some hd
 refine q_p 2 19 rfl (by kernel_rfl) f rfl rfl rfl (fun _ => r_strAt (f.eval rfl) (f.eval rfl) Tryz.underlying9 ab) fun a f => q_mv 3 19 rfl (by kernel_rfl) f rfl rfl rfl fun a f => q_p 4 19 rfl (by kernel_rfl) f rfl rfl rfl (fun _ => r_shr (f.eval rfl) (f.eval rfl) (by decide)) fun a f => q_p 5 19 rfl (by kernel_rfl) f rfl rfl rfl (fun _ => r_int (f.eval rfl) (f.eval rfl) b_and) fun a f => ?_
 obtain ⟨ac, ad, hd⟩ := bind_some hd
 refine q_p 6 19 rfl (by kernel_rfl) f rfl rfl rfl (fun _ => r_strAt (f.eval rfl) (f.eval rfl) Tryz.underlying9 ad) fun a f => q_p 7 19 rfl (by kernel_rfl) f rfl rfl rfl (fun _ => r_int (f.eval rfl) (f.eval rfl) b_add) fun a f => q_mv 8 19 rfl (by kernel_rfl) f rfl rfl rfl fun a f => q_p 9 19 rfl (by kernel_rfl) f rfl rfl rfl (fun _ => r_shr (f.eval rfl) (f.eval rfl) (by decide)) fun a f => q_p 10 19 rfl (by kernel_rfl) f rfl rfl rfl (fun _ => r_int (f.eval rfl) (f.eval rfl) b_and) fun a f => ?_
 obtain ⟨ae, af, hd⟩ := bind_some hd
 refine q_p 11 19 rfl (by kernel_rfl) f rfl rfl rfl (fun _ => r_strAt (f.eval rfl) (f.eval rfl) Tryz.underlying9 af) fun a f => q_p 12 19 rfl (by kernel_rfl) f rfl rfl rfl (fun _ => r_int (f.eval rfl) (f.eval rfl) b_add) fun a f => q_mv 13 19 rfl (by kernel_rfl) f rfl rfl rfl fun a f => q_p 14 19 rfl (by kernel_rfl) f rfl rfl rfl (fun _ => r_int (f.eval rfl) (f.eval rfl) b_and) fun a f => ?_
 obtain ⟨ag, ah, hd⟩ := bind_some hd
 refine q_p 15 19 rfl (by kernel_rfl) f rfl rfl rfl (fun _ => r_strAt (f.eval rfl) (f.eval rfl) Tryz.underlying9 ah) fun a f => q_p 16 19 rfl (by kernel_rfl) f rfl rfl rfl (fun _ => r_int (f.eval rfl) (f.eval rfl) b_add) fun a f => q_p 17 19 rfl (by kernel_rfl) f rfl rfl rfl (fun _ => r_conv (f.eval rfl) ⟨_, Tryz.underlying5⟩ Tryz.underlying3) fun a f => q_p 18 19 rfl (by kernel_rfl) f rfl rfl rfl (fun _ => r_assign (f.eval rfl)) fun a f => q_end fun ai w aj m => l_nil ?_
 refine k_ret ?_
 obtain rfl := sj hd
 exact ⟨[(.int .i64 (IntKind.i64.wrap (IntKind.u8.wrap ((IntKind.u8.wrap ((IntKind.u8.wrap (aa + ac)) + ae)) + ag))))], ⟨f.get _ _ rfl, trivial⟩, f.defers, _, [], aj, m, rfl, rfl⟩

theorem Wk.k {W w : World} {G : GH} {H : List Itm} {x0 : Int} (m : Mem W G w (H))  {y : Bool} (hd : D.k x0 = some y) :
  Calls Tryz.prog 205 #[(.int .i64 x0)] w (Res W G H (fun _ Ho v => Ho = [] ∧ v = (.bool y))) := by
 refine calls_b (args := [(.int .i64 x0)]) (N := 6) [.tmp 2] Tryz.func205 rfl rfl (Nat.le_of_ble_eq_true rfl) rfl fun a f => ?_
 unfold D.k at hd
 refine k_seq (k_region ?_)
 refine l_as f rfl rfl fun a f => l_nil (k_seq (k_region ?_))
 refine l_mv f rfl rfl fun a f => l_mv f rfl rfl fun a f => l_in f rfl rfl rfl b_neq fun a f => l_as f rfl rfl fun a f => l_nil ?_
 refine k_ret ?_
 obtain rfl := sj hd
 exact ⟨[(.bool (x0 != x0))], ⟨f.get _ _ rfl, trivial⟩, f.defers, _, [], (GLe.refl _), m, rfl, rfl⟩

theorem Wk.o {W w : World} {G : GH} {H : List Itm} {x0 : Int} {x1 : Int} (m : Mem W G w (H))  {y : Int} (hd : D.o x0 x1 = some y) :
  Calls Tryz.prog 188 #[(.int .i64 x0), (.int .i64 x1)] w (Res W G H (fun _ Ho v => Ho = [] ∧ v = (.int .i64 y))) := by
 refine calls_b (args := [(.int .i64 x0), (.int .i64 x1)]) (N := 20) [.tmp 4] Tryz.func188 rfl rfl (Nat.le_of_ble_eq_true rfl) rfl fun a f => ?_
 unfold D.o at hd
 refine k_seq (k_region ?_)
 refine l_as f rfl rfl fun a f => l_nil (k_seq (k_region ?_))
 refine l_mv f rfl rfl fun a f => ?_
 obtain ⟨aa, ab, hd⟩ := bind_some hd
 refine l_res f rfl rfl Tryz.call205 (Wk.k m  ab) fun ac ad ae w af m ag a f => ?_
 obtain ⟨rfl, rfl⟩ := ag
 refine l_as f rfl rfl fun a f => l_nil (k_seq (k_region ?_))
 refine l_mv f rfl rfl fun a f => ?_
 obtain ⟨ah, ai, hd⟩ := bind_some hd
 refine l_res f rfl rfl Tryz.call205 (Wk.k m  ai) fun aj ak al w am m an a f => ?_
 obtain ⟨rfl, rfl⟩ := an
 refine l_as f rfl rfl fun a f => l_nil (k_seq (k_seq (k_region ?_)))
 refine l_mv f rfl rfl fun a f => l_nil ?_
 rcases cond_some hd with ⟨ao, hd⟩ | ⟨ao, hd⟩
 ·refine k_true f rfl ao ?_
  refine k_seq (k_seq (k_region ?_))
  refine l_mv f rfl rfl fun a f => l_nil ?_
  rcases cond_some hd with ⟨ap, hd⟩ | ⟨ap, hd⟩
  ·refine k_true f rfl ap ?_
   refine k_seq (k_region ?_)
   refine l_as f rfl rfl fun a f => l_nil ?_
   refine k_ret ?_
   obtain rfl := sj hd
   exact ⟨[(.int .i64 0)], ⟨f.get _ _ rfl, trivial⟩, f.defers, _, [], (GLe.trans af am), m, rfl, rfl⟩
  ·refine k_false f rfl ap ?_
   refine k_skip ?_
   refine k_seq (k_region ?_)
   refine l_as f rfl rfl fun a f => l_nil ?_
   refine k_ret ?_
   obtain rfl := sj hd
   exact ⟨[(.int .i64 (-1))], ⟨f.get _ _ rfl, trivial⟩, f.defers, _, [], (GLe.trans af am), m, rfl, rfl⟩
 ·refine k_false f rfl ao ?_
  refine k_skip ?_
  refine k_seq (k_seq (k_region ?_))
  refine l_mv f rfl rfl fun a f => l_nil ?_
  rcases cond_some hd with ⟨aq, hd⟩ | ⟨aq, hd⟩
  ·refine k_true f rfl aq ?_
   refine k_seq (k_region ?_)
   refine l_as f rfl rfl fun a f => l_nil ?_
   refine k_ret ?_
   obtain rfl := sj hd
   exact ⟨[(.int .i64 1)], ⟨f.get _ _ rfl, trivial⟩, f.defers, _, [], (GLe.trans af am), m, rfl, rfl⟩
  ·refine k_false f rfl aq ?_
   refine k_skip ?_
   refine k_seq (k_seq (k_region ?_))
   refine l_mv f rfl rfl fun a f => l_mv f rfl rfl fun a f => l_in f rfl rfl rfl b_lss fun a f => l_nil ?_
   rcases cond_some hd with ⟨ar, hd⟩ | ⟨ar, hd⟩
   ·refine k_true f rfl ar ?_
    refine k_seq (k_region ?_)
    refine l_as f rfl rfl fun a f => l_nil ?_
    refine k_ret ?_
    obtain rfl := sj hd
    exact ⟨[(.int .i64 (-1))], ⟨f.get _ _ rfl, trivial⟩, f.defers, _, [], (GLe.trans af am), m, rfl, rfl⟩
   ·refine k_false f rfl ar ?_
    refine k_skip ?_
    refine k_seq (k_seq (k_region ?_))
    refine l_mv f rfl rfl fun a f => l_mv f rfl rfl fun a f => l_in f rfl rfl rfl b_gtr fun a f => l_nil ?_
    rcases cond_some hd with ⟨au, hd⟩ | ⟨au, hd⟩
    ·refine k_true f rfl au ?_
     refine k_seq (k_region ?_)
     refine l_as f rfl rfl fun a f => l_nil ?_
     refine k_ret ?_
     obtain rfl := sj hd
     exact ⟨[(.int .i64 1)], ⟨f.get _ _ rfl, trivial⟩, f.defers, _, [], (GLe.trans af am), m, rfl, rfl⟩
    ·refine k_false f rfl au ?_
     refine k_skip ?_
     refine k_seq (k_region ?_)
     refine l_as f rfl rfl fun a f => l_nil ?_
     refine k_ret ?_
     obtain rfl := sj hd
     exact ⟨[(.int .i64 0)], ⟨f.get _ _ rfl, trivial⟩, f.defers, _, [], (GLe.trans af am), m, rfl, rfl⟩

theorem Wk.u0 {W w : World} {G : GH} {H : List Itm} {v0 : Value} {v1 : Value} {x0 : (List Int)} {x1 : (List Int)} (m : Mem W G w (H)) (h0 : RSl (RI .i64) G v0 x0) (h1 : RSl (RI .i64) G v1 x1) {y : Int} (hd : D.u0 x0 x1 = some y) :
  Calls Tryz.prog 153 #[v0, v1] w (Res W G H (fun _ Ho v => Ho = [] ∧ v = (.int .i64 y))) := by
 refine calls_b (args := [v0, v1]) (N := 36) [.tmp 4] Tryz.func153 rfl rfl (Nat.le_of_ble_eq_true rfl) rfl fun a f => ?_
 unfold D.u0 at hd
 refine k_seq (k_region ?_)
 refine l_as f rfl rfl fun a f => l_nil (k_seq (k_seq (k_region ?_)))
 refine l_mv f rfl rfl fun a f => l_len Tryz.underlying94 f rfl rfl h0 fun a f => l_mv f rfl rfl fun a f => l_nil ?_
 obtain ⟨aa, ab, hd⟩ := bind_some hd
 refine k_cut (fun a w => ∃ q_47' : Unit, aa = .inl q_47' ∧ ∃ (ac : GH), GLe G ac ∧ Fr a 36 [(0, v0), (1, v1)] ∧ Mem W ac w (H)) ?_ ?_
 ·refine k_block ?_
  refine k_loop (fun ad a w => ∃ ae : Int, ae = ad ∧ ∃ (af : GH), GLe G af ∧ Fr a 36 [(0, v0), (1, v1), (9, v0), (10, (.int .i64 (x0.length : Int))), (11, (.int .i64 ae))] ∧ Mem W af w (H)) ab ⟨_, rfl, _, (GLe.refl _), f.weak ⟨rfl, rfl, rfl, rfl, rfl, trivial⟩, m⟩ ?_
  clear ab f m
  rintro ad ag ah ai a w ⟨ae, rfl, af, aj, f, m⟩
  have h0 := rd1 aj h0
  have h1 := rd1 aj h1
  refine k_seq (k_region ?_)
  refine l_in f rfl rfl rfl b_lss fun a f => l_nil (k_seq ?_)
  rcases cond_some ah with ⟨ak, ah⟩ | ⟨ak, ah⟩
  ·refine k_true f rfl ak ?_
   refine k_skip ?_
   refine k_seq (k_block (k_seq (k_region ?_)))
   refine l_mv f rfl rfl fun a f => ?_
   obtain ⟨al, am, ah⟩ := bind_some ah
   refine l_at T94 f rfl rfl rfl h0 am fun an ao a ap aq f => ?_
   subst aq
   refine l_loadAt m Pl3 f rfl rfl ap fun a f => l_as f rfl rfl fun a f => l_as f rfl rfl fun a f => l_nil (k_seq (k_seq (k_region ?_)))
   refine l_mv f rfl rfl fun a f => l_mv f rfl rfl fun a f => l_len Tryz.underlying94 f rfl rfl h1 fun a f => l_in f rfl rfl rfl b_geq fun a f => l_nil ?_
   rcases cond_some ah with ⟨ar, ah⟩ | ⟨ar, ah⟩
   ·refine k_true f rfl ar ?_
    refine k_seq (k_region ?_)
    refine l_as f rfl rfl fun a f => l_nil ?_
    refine k_ret ?_
    obtain rfl := sj ah
    obtain rfl := ai _ rfl
    obtain rfl := sj hd
    exact ⟨[(.int .i64 1)], ⟨f.get _ _ rfl, trivial⟩, f.defers, _, [], aj, m, rfl, rfl⟩
   ·refine k_false f rfl ar ?_
    refine k_skip ?_
    refine k_seq (k_region ?_)
    refine l_mv f rfl rfl fun a f => l_mv f rfl rfl fun a f => ?_
    obtain ⟨au, av, ah⟩ := bind_some ah
    refine l_at T94 f rfl rfl rfl h1 av fun aw ax a ay az f => ?_
    subst az
    refine l_loadAt m Pl3 f rfl rfl ay fun a f => l_as f rfl rfl fun a f => l_nil (k_seq (k_region ?_))
    refine l_mv f rfl rfl fun a f => l_mv f rfl rfl fun a f => ?_
    obtain ⟨aA, aB, ah⟩ := bind_some ah
    refine l_res f rfl rfl Tryz.call188 (Wk.o m  aB) fun aC aD aE w aF m aG a f => ?_
    obtain ⟨rfl, rfl⟩ := aG
    have h0 := rd1 aF h0
    have h1 := rd1 aF h1
    refine l_as f rfl rfl fun a f => l_nil (k_seq (k_region ?_))
    refine l_mv f rfl rfl fun a f => l_in f rfl rfl rfl b_neq fun a f => l_nil ?_
    rcases cond_some ah with ⟨aH, ah⟩ | ⟨aH, ah⟩
    ·refine k_true f rfl aH ?_
     refine k_seq (k_region ?_)
     refine l_mv f rfl rfl fun a f => l_as f rfl rfl fun a f => l_nil ?_
     refine k_ret ?_
     obtain rfl := sj ah
     obtain rfl := ai _ rfl
     obtain rfl := sj hd
     exact ⟨[(.int .i64 aA)], ⟨f.get _ _ rfl, trivial⟩, f.defers, _, [], (GLe.trans aj aF), m, rfl, rfl⟩
    ·refine k_false f rfl aH ?_
     refine k_skip ?_
     refine k_region ?_
     refine l_in f rfl rfl rfl b_add fun a f => l_mv f rfl rfl fun a f => l_nil ?_
     obtain rfl := sj ah
     exact ⟨_, rfl, _, rfl, _, (GLe.trans aj aF), f.weak ⟨rfl, rfl, rfl, rfl, rfl, trivial⟩, m⟩
  ·refine k_false f rfl ak ?_
   refine k_exit rfl ?_
   obtain rfl := sj ah
   obtain rfl := ai _ rfl
   exact ⟨_, rfl, _, aj, f.weak ⟨rfl, rfl, trivial⟩, m⟩
 ·rintro a w ⟨_, rfl, ac, aI, f, m⟩
  have h0 := rd1 aI h0
  have h1 := rd1 aI h1
  refine k_seq (k_seq (k_region ?_))
  refine l_mv f rfl rfl fun a f => l_len Tryz.underlying94 f rfl rfl h0 fun a f => l_mv f rfl rfl fun a f => l_len Tryz.underlying94 f rfl rfl h1 fun a f => l_in f rfl rfl rfl b_lss fun a f => l_nil ?_
  rcases cond_some hd with ⟨aJ, hd⟩ | ⟨aJ, hd⟩
  ·refine k_true f rfl aJ ?_
   refine k_seq (k_region ?_)
   refine l_as f rfl rfl fun a f => l_nil ?_
   refine k_ret ?_
   obtain rfl := sj hd
   exact ⟨[(.int .i64 (-1))], ⟨f.get _ _ rfl, trivial⟩, f.defers, _, [], aI, m, rfl, rfl⟩
  ·refine k_false f rfl aJ ?_
   refine k_skip ?_
   refine k_seq (k_region ?_)
   refine l_as f rfl rfl fun a f => l_nil ?_
   refine k_ret ?_
   obtain rfl := sj hd
   exact ⟨[(.int .i64 0)], ⟨f.get _ _ rfl, trivial⟩, f.defers, _, [], aI, m, rfl, rfl⟩

end Go.Proofs.YtebbefpdncgoiaaGreatDoor

set_option maxRecDepth 100000
namespace Go.Proofs.YtebbefpdncgoiaaGreatDoor
open Go Go.Sx
theorem Pl42 : Plain Tryz.prog 42 := Tryz.isAgg42
theorem Pl22 : Plain Tryz.prog 22 := Tryz.isAgg22
theorem Ag30 : Agg Tryz.prog 30 1 := ⟨Tryz.isAgg30, Tryz.sizeOf30⟩
theorem Ag27 : Agg Tryz.prog 27 2 := ⟨Tryz.isAgg27, Tryz.sizeOf27⟩

theorem Wk.q {W w : World} {G : GH} {H : List Itm} {v0 : Value} {x0 : (List Int)} {x1 : Int} (m : Mem W G w (H)) (h0 : RSl (RI .i64) G v0 x0) {y : Int} (hd : D.q x0 x1 = some y) :
  Calls Tryz.prog 110 #[v0, (.int .i64 x1)] w (Res W G H (fun _ Ho v => Ho = [] ∧ v = (.int .i64 y))) := by
 refine calls_b (args := [v0, (.int .i64 x1)]) (N := 12) [.tmp 4] Tryz.func110 rfl rfl (Nat.le_of_ble_eq_true rfl) rfl fun a f => ?_
 unfold D.q at hd
 refine k_seq (k_region ?_)
 refine l_as f rfl rfl fun a f => l_nil (k_seq (k_region ?_))
 refine l_mv f rfl rfl fun a f => l_mv f rfl rfl fun a f => l_len Tryz.underlying42 f rfl rfl h0 fun a f => l_in f rfl rfl rfl b_sub fun a f => l_as f rfl rfl fun a f => l_nil (k_seq (k_seq (k_region ?_)))
 refine l_mv f rfl rfl fun a f => l_in f rfl rfl rfl b_lss fun a f => l_nil ?_
 rcases cond_some hd with ⟨aa, hd⟩ | ⟨aa, hd⟩
 ·refine k_true f rfl aa ?_
  refine k_seq (k_region ?_)
  refine l_as f rfl rfl fun a f => l_nil ?_
  refine k_ret ?_
  obtain rfl := sj hd
  exact ⟨[(.int .i64 (-1))], ⟨f.get _ _ rfl, trivial⟩, f.defers, _, [], (GLe.refl _), m, rfl, rfl⟩
 ·refine k_false f rfl aa ?_
  refine k_skip ?_
  refine k_seq (k_region ?_)
  refine l_mv f rfl rfl fun a f => l_as f rfl rfl fun a f => l_nil ?_
  refine k_ret ?_
  obtain rfl := sj hd
  exact ⟨[(.int .i64 (IntKind.i64.wrap (x1 - (x0.length : Int))))], ⟨f.get _ _ rfl, trivial⟩, f.defers, _, [], (GLe.refl _), m, rfl, rfl⟩

theorem Wk.n0 {W w : World} {G : GH} {H : List Itm} {v0 : Value} {x0 : (List (List Int))} {x1 : Int} (m : Mem W G w (H)) (h0 : RSl (RSl (RI .i64)) G v0 x0) {y : Int} (hd : D.n0 x0 x1 = some y) :
  Calls Tryz.prog 43 #[v0, (.int .i64 x1)] w (Res W G H (fun _ Ho v => Ho = [] ∧ v = (.int .i64 y))) := by
 refine calls_b (args := [v0, (.int .i64 x1)]) (N := 27) [.tmp 4] Tryz.func43 rfl rfl (Nat.le_of_ble_eq_true rfl) rfl fun a f => ?_
 unfold D.n0 at hd
 refine k_seq (k_region ?_)
 refine l_as f rfl rfl fun a f => l_nil (k_seq (k_region ?_))
 refine l_mv f rfl rfl fun a f => l_mv f rfl rfl fun a f => l_len Tryz.underlying22 f rfl rfl h0 fun a f => l_in f rfl rfl rfl b_sub fun a f => l_as f rfl rfl fun a f => l_nil (k_seq (k_seq (k_region ?_)))
 refine l_mv f rfl rfl fun a f => l_in f rfl rfl rfl b_lss fun a f => l_nil ?_
 rcases cond_some hd with ⟨aa, hd⟩ | ⟨aa, hd⟩
 ·refine k_true f rfl aa ?_
  refine k_seq (k_region ?_)
  refine l_as f rfl rfl fun a f => l_nil ?_
  refine k_ret ?_
  obtain rfl := sj hd
  exact ⟨[(.int .i64 (-1))], ⟨f.get _ _ rfl, trivial⟩, f.defers, _, [], (GLe.refl _), m, rfl, rfl⟩
 ·refine k_false f rfl aa ?_
  refine k_skip ?_
  refine k_seq (k_seq (k_region ?_))
  refine l_as f rfl rfl fun a f => l_nil ?_
  obtain ⟨ab, ac, hd⟩ := bind_some hd
  refine k_cut (fun a w => ∃ q_35' : Int, ab = .inl q_35' ∧ ∃ ad : Int, ad = q_35' ∧ ∃ (ae : GH), GLe G ae ∧ Fr a 27 [(1, (.int .i64 ad))] ∧ Mem W ae w (H)) ?_ ?_
  ·refine k_block ?_
   refine k_loop (fun af a w => ∃ ag : Int, ∃ ah : Int, (ag, ah) = af ∧ ∃ (ai : GH), GLe G ai ∧ Fr a 27 [(0, v0), (1, (.int .i64 ag)), (5, (.int .i64 ah))] ∧ Mem W ai w (H)) ac ⟨_, _, rfl, _, (GLe.refl _), f.weak ⟨rfl, rfl, rfl, trivial⟩, m⟩ ?_
   clear ac f m
   rintro af aj ak al a w ⟨ag, ah, rfl, ai, am, f, m⟩
   have h0 := rd2 am h0
   refine k_seq (k_seq (k_region ?_))
   refine l_mv f rfl rfl fun a f => l_mv f rfl rfl fun a f => l_len Tryz.underlying22 f rfl rfl h0 fun a f => l_in f rfl rfl rfl b_lss fun a f => l_nil ?_
   rcases cond_some ak with ⟨an, ak⟩ | ⟨an, ak⟩
   ·refine k_true f rfl an ?_
    refine k_skip ?_
    refine k_seq (k_block (k_seq (k_region ?_)))
    refine l_mv f rfl rfl fun a f => l_mv f rfl rfl fun a f => ?_
    obtain ⟨ao, ap, ak⟩ := bind_some ak
    refine l_at T22 f rfl rfl rfl h0 ap fun aq ar a au av f => l_loadAt m Pl42 f rfl rfl au fun a f => l_mv f rfl rfl fun a f => ?_
    obtain ⟨aw, ax, ak⟩ := bind_some ak
    refine l_res f rfl rfl Tryz.call110 (Wk.q m av ax) fun ay az aA w aB m aC a f => ?_
    obtain ⟨rfl, rfl⟩ := aC
    have h0 := rd2 aB h0
    have au := At.mono aB au
    have av := rd1 aB av
    refine l_as f rfl rfl fun a f => l_nil (k_seq (k_region ?_))
    refine l_mv f rfl rfl fun a f => l_in f rfl rfl rfl b_lss fun a f => l_nil ?_
    rcases cond_some ak with ⟨aD, ak⟩ | ⟨aD, ak⟩
    ·refine k_true f rfl aD ?_
     refine k_seq (k_region ?_)
     refine l_as f rfl rfl fun a f => l_nil ?_
     refine k_ret ?_
     obtain rfl := sj ak
     obtain rfl := al _ rfl
     obtain rfl := sj hd
     exact ⟨[(.int .i64 (-1))], ⟨f.get _ _ rfl, trivial⟩, f.defers, _, [], (GLe.trans am aB), m, rfl, rfl⟩
    ·refine k_false f rfl aD ?_
     refine k_skip ?_
     refine k_region ?_
     refine l_mv f rfl rfl fun a f => l_in f rfl rfl rfl b_add fun a f => l_as f rfl rfl fun a f => l_nil ?_
     obtain rfl := sj ak
     exact ⟨_, rfl, _, _, rfl, _, (GLe.trans am aB), f.weak ⟨rfl, rfl, rfl, trivial⟩, m⟩
   ·refine k_false f rfl an ?_
    refine k_exit rfl ?_
    obtain rfl := sj ak
    obtain rfl := al _ rfl
    exact ⟨_, rfl, _, rfl, _, am, f.weak ⟨rfl, trivial⟩, m⟩
  ·rintro a w ⟨_, rfl, ad, rfl, ae, aE, f, m⟩
   refine k_seq (k_region ?_)
   refine l_mv f rfl rfl fun a f => l_as f rfl rfl fun a f => l_nil ?_
   refine k_ret ?_
   obtain rfl := sj hd
   exact ⟨[(.int .i64 ad)], ⟨f.get _ _ rfl, trivial⟩, f.defers, _, [], aE, m, rfl, rfl⟩

theorem Wk.q0 {W w : World} {G : GH} {H : List Itm} {v0_0 : Value} {x0_0 : (List (List Int))} {x1 : Int} (m : Mem W G w (H)) (h0_0 : RSl (RSl (RI .i64)) G v0_0 x0_0) {y : Int} (hd : D.q0 x0_0 x1 = some y) :
  Calls Tryz.prog 8 #[(.agg #[v0_0]), (.int .i64 x1)] w (Res W G H (fun _ Ho v => Ho = [] ∧ v = (.int .i64 y))) := by
 refine calls_b (args := [(.agg #[v0_0]), (.int .i64 x1)]) (N := 12) [.tmp 4] Tryz.func8 rfl rfl (Nat.le_of_ble_eq_true rfl) rfl fun a f => ?_
 unfold D.q0 at hd
 refine k_seq (k_region ?_)
 refine l_box (cs := [v0_0]) m f rfl rfl rfl fun aa w a m f => l_as f rfl rfl fun a f => l_nil (k_seq (k_region ?_))
 refine l_fieldAddr Tryz.underlying24 rfl Tryz.sizeOf22 (by decide) f rfl rfl fun a f => l_boxCell 0 0 m Pl22 f rfl rfl rfl rfl fun a f => l_mv f rfl rfl fun a f => ?_
 obtain ⟨ab, ac, hd⟩ := bind_some hd
 refine l_res f rfl rfl Tryz.call43 (Wk.n0 m h0_0 ac) fun ad ae af w ag m ah a f => ?_
 obtain ⟨rfl, rfl⟩ := ah
 have h0_0 := rd2 ag h0_0
 refine l_as f rfl rfl fun a f => l_nil (k_seq (k_seq (k_region ?_)))
 refine l_mv f rfl rfl fun a f => l_in f rfl rfl rfl b_lss fun a f => l_nil ?_
 rcases cond_some hd with ⟨ai, hd⟩ | ⟨ai, hd⟩
 ·refine k_true f rfl ai ?_
  refine k_seq (k_region ?_)
  refine l_as f rfl rfl fun a f => l_nil ?_
  refine k_ret ?_
  have m : Mem W ae w H := Mem.drop (H' := [Itm.box aa 24 [v0_0]]) m
  obtain rfl := sj hd
  exact ⟨[(.int .i64 (-1))], ⟨f.get _ _ rfl, trivial⟩, f.defers, _, [], ag, m, rfl, rfl⟩
 ·refine k_false f rfl ai ?_
  refine k_skip ?_
  refine k_seq (k_region ?_)
  refine l_mv f rfl rfl fun a f => l_as f rfl rfl fun a f => l_nil ?_
  refine k_ret ?_
  have m : Mem W ae w H := Mem.drop (H' := [Itm.box aa 24 [v0_0]]) m
  obtain rfl := sj hd
  exact ⟨[(.int .i64 ab)], ⟨f.get _ _ rfl, trivial⟩, f.defers, _, [], ag, m, rfl, rfl⟩

theorem Wk.v {W w : World} {G : GH} {H : List Itm} {v0 : Value} {x0 : (List Int)} (m : Mem W G w (H)) (h0 : RSl (RI .i64) G v0 x0) {y : ((List Int))} (hd : D.v x0 = some y) :
  Calls Tryz.prog 22 #[v0] w (Res W G H (fun G' Ho v => ∃ r0 : Value, ∃ i0 : Itm, Ho = [i0] ∧ r0 = v ∧ Ow (RI .i64) 2 G' i0 r0 y)) := by
 refine calls_b (args := [v0]) (N := 22) [.tmp 2] Tryz.func22 rfl rfl (Nat.le_of_ble_eq_true rfl) rfl fun a f => ?_
 unfold D.v at hd
 refine k_seq (k_region ?_)
 refine l_as f rfl rfl fun a f => l_nil (k_seq (k_region ?_))
 refine l_mv f rfl rfl fun a f => l_len Tryz.underlying42 f rfl rfl h0 fun a f => ?_
 obtain ⟨aa, ab, hd⟩ := bind_some hd
 refine l_make (R := (RI .i64)) m T42 rfl (by decide) rfl f rfl rfl rfl ab fun ac ad w a m ae f => l_as f rfl rfl fun a f => l_nil (k_seq (k_seq (k_region ?_)))
 refine l_as f rfl rfl fun a f => l_nil ?_
 obtain ⟨af, ag, hd⟩ := bind_some hd
 refine k_cut (fun a w => ∃ ah : List Int, ah = af ∧ ∃ (ai : GH) (aj : Itm), GLe G ai ∧ Fr a 22 [(3, ad)] ∧ Mem W ai w (aj :: H) ∧ Ow (RI .i64) 2 ai aj ad ah) ?_ ?_
 ·refine k_block ?_
  refine k_loop (fun ak a w => ∃ al : List Int, ∃ am : Int, (al, am) = ak ∧ ∃ (an : GH) (ao : Itm), GLe G an ∧ Fr a 22 [(0, v0), (3, ad), (4, (.int .i64 am))] ∧ Mem W an w (ao :: H) ∧ Ow (RI .i64) 2 an ao ad al) ag ⟨_, _, rfl, _, ac, (GLe.refl _), f.weak ⟨rfl, rfl, rfl, trivial⟩, m, ae⟩ ?_
  clear ag f m
  rintro ak ap aq ar a w ⟨al, am, rfl, an, ao, au, f, m, av⟩
  have h0 := rd1 au h0
  refine k_seq (k_seq (k_region ?_))
  refine l_mv f rfl rfl fun a f => l_mv f rfl rfl fun a f => l_len Tryz.underlying42 f rfl rfl h0 fun a f => l_in f rfl rfl rfl b_lss fun a f => l_nil ?_
  rcases cond_some aq with ⟨aw, aq⟩ | ⟨aw, aq⟩
  ·refine k_true f rfl aw ?_
   refine k_skip ?_
   refine k_seq (k_block (k_region ?_))
   refine l_mv f rfl rfl fun a f => l_mv f rfl rfl fun a f => l_mv f rfl rfl fun a f => l_mv f rfl rfl fun a f => ?_
   obtain ⟨ax, ay, aq⟩ := bind_some aq
   refine l_at T42 f rfl rfl rfl h0 ay fun az aA a aB aC f => ?_
   subst aC
   refine l_loadAt m Pl2 f rfl rfl aB fun a f => ?_
   obtain ⟨aD, aE, aq⟩ := bind_some aq
   refine l_own_at 0 m av rfl T42 f rfl rfl rfl aE fun aF a aG f => l_own_store 0 m av rfl Tryz.sizeOf2 f rfl rfl aG aE rfl rfl rfl fun aH w m aI => l_nil (k_region ?_)
   refine l_mv f rfl rfl fun a f => l_in f rfl rfl rfl b_add fun a f => l_as f rfl rfl fun a f => l_nil ?_
   obtain rfl := sj aq
   exact ⟨_, rfl, _, _, rfl, _, aH, au, f.weak ⟨rfl, rfl, rfl, trivial⟩, m, aI⟩
  ·refine k_false f rfl aw ?_
   refine k_exit rfl ?_
   obtain rfl := sj aq
   obtain rfl := ar _ rfl
   exact ⟨_, rfl, _, ao, au, f.weak ⟨rfl, trivial⟩, m, av⟩
 ·rintro a w ⟨ah, rfl, ai, aj, aJ, f, m, aK⟩
  refine k_seq (k_region ?_)
  refine l_mv f rfl rfl fun a f => l_as f rfl rfl fun a f => l_nil ?_
  refine k_ret ?_
  obtain rfl := sj hd
  exact ⟨[ad], ⟨f.get _ _ rfl, trivial⟩, f.defers, _, [aj], aJ, m, _, _, rfl, rfl, aK⟩

theorem Wk.z0 {W w : World} {G : GH} {H : List Itm} {v0 : Value} {x0 : (List (List Int))} (m : Mem W G w (H)) (h0 : RSl (RSl (RI .i64)) G v0 x0) {y : ((List (List Int)))} (hd : D.z0 x0 = some y) :
  Calls Tryz.prog 47 #[v0] w (Res W G H (fun G' Ho v => ∃ r0 : Value, ∃ i0 : Itm, Ho = [i0] ∧ r0 = v ∧ Ow2 (RI .i64) 42 2 G' i0 r0 y)) := by
 refine calls_b (args := [v0]) (N := 23) [.tmp 2] Tryz.func47 rfl rfl (Nat.le_of_ble_eq_true rfl) rfl fun a f => ?_
 unfold D.z0 at hd
 refine k_seq (k_region ?_)
 refine l_as f rfl rfl fun a f => l_nil (k_seq (k_region ?_))
 refine l_mv f rfl rfl fun a f => l_len Tryz.underlying22 f rfl rfl h0 fun a f => ?_
 obtain ⟨aa, ab, hd⟩ := bind_some hd
 refine l_make2 (R := (RI .i64)) (t2 := 2) m T22 (by decide) f rfl rfl rfl ab fun ac ad w a m ae f => l_as f rfl rfl fun a f => l_nil (k_seq (k_seq (k_region ?_)))
 refine l_as f rfl rfl fun a f => l_nil ?_
 obtain ⟨af, ag, hd⟩ := bind_some hd
 refine k_cut (fun a w => ∃ ah : List (List Int), ah = af ∧ ∃ (ai : GH) (aj : Itm), GLe G ai ∧ Fr a 23 [(3, ad)] ∧ Mem W ai w (aj :: H) ∧ Ow2 (RI .i64) 42 2 ai aj ad ah) ?_ ?_
 ·refine k_block ?_
  refine k_loop (fun ak a w => ∃ al : List (List Int), ∃ am : Int, (al, am) = ak ∧ ∃ (an : GH) (ao : Itm), GLe G an ∧ Fr a 23 [(0, v0), (3, ad), (4, (.int .i64 am))] ∧ Mem W an w (ao :: H) ∧ Ow2 (RI .i64) 42 2 an ao ad al) ag ⟨_, _, rfl, _, ac, (GLe.refl _), f.weak ⟨rfl, rfl, rfl, trivial⟩, m, ae⟩ ?_
  clear ag f m
  rintro ak ap aq ar a w ⟨al, am, rfl, an, ao, au, f, m, av⟩
  have h0 := rd2 au h0
  refine k_seq (k_seq (k_region ?_))
  refine l_mv f rfl rfl fun a f => l_mv f rfl rfl fun a f => l_len Tryz.underlying22 f rfl rfl h0 fun a f => l_in f rfl rfl rfl b_lss fun a f => l_nil ?_
  rcases cond_some aq with ⟨aw, aq⟩ | ⟨aw, aq⟩
  ·refine k_true f rfl aw ?_
   refine k_skip ?_
   refine k_seq (k_block (k_region ?_))
   refine l_mv f rfl rfl fun a f => l_mv f rfl rfl fun a f => l_mv f rfl rfl fun a f => l_mv f rfl rfl fun a f => ?_
   obtain ⟨ax, ay, aq⟩ := bind_some aq
   refine l_at T22 f rfl rfl rfl h0 ay fun az aA a aB aC f => l_loadAt m Pl42 f rfl rfl aB fun a f => ?_
   obtain ⟨aD, aE, aq⟩ := bind_some aq
   refine l_res f rfl rfl Tryz.call22 (Wk.v m aC aE) fun aF aG aH w aI m aJ a f => ?_
   obtain ⟨aK, aL, rfl, rfl, aM⟩ := aJ
   have h0 := rd2 aI h0
   have aB := At.mono aI aB
   have aC := rd1 aI aC
   have av := Ow2.mono (RI.mono _) aI av
   obtain ⟨aN, aO, aq⟩ := bind_some aq
   refine l_own2_at 1 m av rfl T22 f rfl rfl rfl aO fun aP a aQ f => ?_
   have m := m.front 1 rfl
   refine l_own2_store m av aM Tryz.sizeOf42 f rfl rfl aQ aO fun aR w m aS => l_nil (k_region ?_)
   refine l_mv f rfl rfl fun a f => l_in f rfl rfl rfl b_add fun a f => l_as f rfl rfl fun a f => l_nil ?_
   obtain rfl := sj aq
   exact ⟨_, rfl, _, _, rfl, _, aR, (GLe.trans au aI), f.weak ⟨rfl, rfl, rfl, trivial⟩, m, aS⟩
  ·refine k_false f rfl aw ?_
   refine k_exit rfl ?_
   obtain rfl := sj aq
   obtain rfl := ar _ rfl
   exact ⟨_, rfl, _, ao, au, f.weak ⟨rfl, trivial⟩, m, av⟩
 ·rintro a w ⟨ah, rfl, ai, aj, aT, f, m, aU⟩
  refine k_seq (k_region ?_)
  refine l_mv f rfl rfl fun a f => l_as f rfl rfl fun a f => l_nil ?_
  refine k_ret ?_
  obtain rfl := sj hd
  exact ⟨[ad], ⟨f.get _ _ rfl, trivial⟩, f.defers, _, [aj], aT, m, _, _, rfl, rfl, aU⟩

theorem Wk.x {W w : World} {G : GH} {H : List Itm} {v0_0 : Value} {x0_0 : (List (List Int))} (m : Mem W G w (H)) (h0_0 : RSl (RSl (RI .i64)) G v0_0 x0_0) {y : ((List (List Int)))} (hd : D.x x0_0 = some y) :
  Calls Tryz.prog 10 #[(.agg #[v0_0])] w (Res W G H (fun G' Ho v => ∃ r0 : Value, ∃ i0 : Itm, Ho = [i0] ∧ v = (.agg #[r0]) ∧ Ow2 (RI .i64) 42 2 G' i0 r0 y)) := by
 refine calls_b (args := [(.agg #[v0_0])]) (N := 9) [.cell 2 30] Tryz.func10 rfl rfl (Nat.le_of_ble_eq_true rfl) rfl fun a f => ?_
 unfold D.x at hd
 refine k_seq (k_region ?_)
 refine l_box (cs := [v0_0]) m f rfl rfl rfl fun aa w a m f => l_alloc (cs := [(.slice none 0 0)]) Tryz.zeroValue30 m f rfl rfl fun ab w a m f => l_nil (k_seq (k_region ?_))
 refine l_alloc (cs := [(.slice none 0 0)]) Tryz.zeroValue30 m f rfl rfl fun ac w a m f => l_nil (k_seq (k_region ?_))
 refine l_fieldAddr Tryz.underlying24 rfl Tryz.sizeOf22 (by decide) f rfl rfl fun a f => l_boxCell 2 0 m Pl22 f rfl rfl rfl rfl fun a f => ?_
 obtain ⟨ad, ae, hd⟩ := bind_some hd
 refine l_res f rfl rfl Tryz.call47 (Wk.z0 m h0_0 ae) fun af ag ah w ai m aj a f => ?_
 obtain ⟨ak, al, rfl, rfl, am⟩ := aj
 have h0_0 := rd2 ai h0_0
 refine l_fieldAddr Tryz.underlying30 rfl Tryz.sizeOf22 (by decide) f rfl rfl fun a f => l_boxStore 1 0 (ds := [ak]) m Tryz.sizeOf22 f rfl rfl (Ow2.cells 0 m am rfl) (ones_cons (Ow2.one1 0 m am rfl) ones_nil) rfl (Nat.le_of_ble_eq_true rfl) rfl fun w m => l_nil (k_seq (k_region ?_))
 refine l_boxAgg 1 0 (ds := [ak]) m Ag30 f rfl rfl rfl rfl rfl fun a f => l_boxStore 2 0 (ds := [ak]) m Tryz.sizeOf30 f rfl rfl rfl (ones_cons (Ow2.one1 0 m am rfl) ones_nil) rfl (Nat.le_of_ble_eq_true rfl) rfl fun w m => l_nil ?_
 refine k_ret ?_
 have an := rr_agg (P := Tryz.prog) 2 m Ag30 f (s := 2) rfl rfl rfl
 have m := m.eraseAt 3
 have m := m.eraseAt 2
 have m := m.eraseAt 1
 obtain rfl := sj hd
 exact ⟨[(.agg #[ak])], ⟨an, trivial⟩, f.defers, _, [al], ai, m, _, _, rfl, rfl, am⟩

theorem Wk.e {W w : World} {G : GH} {H : List Itm} {v0_0 : Value} {x0_0 : (List (List Int))} (m : Mem W G w (H)) (h0_0 : RSl (RSl (RI .i64)) G v0_0 x0_0) {y : Int} (hd : D.e x0_0 = some y) :
  Calls Tryz.prog 80 #[(.agg #[v0_0])] w (Res W G H (fun _ Ho v => Ho = [] ∧ v = (.int .i64 y))) := by
 refine calls_b (args := [(.agg #[v0_0])]) (N := 6) [.tmp 2] Tryz.func80 rfl rfl (Nat.le_of_ble_eq_true rfl) rfl fun a f => ?_
 unfold D.e at hd
 refine k_seq (k_region ?_)
 refine l_box (cs := [v0_0]) m f rfl rfl rfl fun aa w a m f => l_as f rfl rfl fun a f => l_nil (k_seq (k_region ?_))
 refine l_fieldAddr Tryz.underlying30 rfl Tryz.sizeOf22 (by decide) f rfl rfl fun a f => l_boxCell 0 0 m Pl22 f rfl rfl rfl rfl fun a f => l_len Tryz.underlying22 f rfl rfl h0_0 fun a f => l_as f rfl rfl fun a f => l_nil ?_
 refine k_ret ?_
 have m : Mem W G w H := Mem.drop (H' := [Itm.box aa 30 [v0_0]]) m
 obtain rfl := sj hd
 exact ⟨[(.int .i64 (x0_0.length : Int))], ⟨f.get _ _ rfl, trivial⟩, f.defers, _, [], (GLe.refl _), m, rfl, rfl⟩

theorem Wk.l {W w : World} {G : GH} {H : List Itm} {x0 : Int} {x1 : Int} {x2 : Int} (m : Mem W G w (H))  {y : Bool} (hd : D.l x0 x1 x2 = some y) :
  Calls Tryz.prog 141 #[(.int .i64 x0), (.int .i64 x1), (.int .i64 x2)] w (Res W G H (fun _ Ho v => Ho = [] ∧ v = (.bool y))) := by
 refine calls_b (args := [(.int .i64 x0), (.int .i64 x1), (.int .i64 x2)]) (N := 15) [.tmp 6] Tryz.func141 rfl rfl (Nat.le_of_ble_eq_true rfl) rfl fun a f => ?_
 unfold D.l at hd
 refine k_seq (k_region ?_)
 refine l_as f rfl rfl fun a f => l_nil (k_seq (k_region ?_))
 refine l_mv f rfl rfl fun a f => l_mv f rfl rfl fun a f => l_in f rfl rfl rfl b_geq fun a f => l_mv f rfl rfl fun a f => ?_
 refine l_cut 4 (fun a w => ∃ aa, GLe G aa ∧ Mem W aa w (H) ∧ Fr a 15 [(0, (.int .i64 x0)), (1, (.int .i64 x1)), (2, (.int .i64 x2)), (7, (.int .i64 x0)), (8, (.int .i64 x1)), (9, (.bool (decide (x1 ≤ x0)))), (10, (.bool (decide (x1 ≤ x0)))), (14, (.bool ((decide (x1 ≤ x0)) && (decide (x0 ≤ x2)))))]) ?_ ?_
 ·rcases Bool.eq_false_or_eq_true (decide (x1 ≤ x0)) with ab | ab
  ·refine l_run f rfl rfl ab ?_
   refine l_mv f rfl rfl fun a f => l_run f rfl rfl ab ?_
   refine l_mv f rfl rfl fun a f => l_run f rfl rfl ab ?_
   refine l_in f rfl rfl rfl b_leq fun a f => l_op f rfl rfl rfl (r_pickT (f.eval rfl) ab (f.eval rfl)) fun a f => ?_
   exact ⟨_, (GLe.refl _), m, f.weak ⟨rfl, rfl, rfl, rfl, rfl, rfl, rfl, by rw [ab]; rfl, trivial⟩⟩
  ·refine l_not' f rfl rfl rfl ab fun a f => ?_
   refine l_not' f rfl rfl rfl ab fun a f => l_not' f rfl rfl rfl ab fun a f => l_op f rfl rfl rfl (r_pickF (f.eval rfl) ab (f.eval rfl)) fun a f => ?_
   exact ⟨_, (GLe.refl _), m, f.weak ⟨rfl, rfl, rfl, rfl, rfl, rfl, rfl, by rw [ab]; rfl, trivial⟩⟩
 ·rintro a w ⟨aa, ac, m, f⟩
  refine l_as f rfl rfl fun a f => l_nil ?_
  refine k_ret ?_
  obtain rfl := sj hd
  exact ⟨[(.bool ((decide (x1 ≤ x0)) && (decide (x0 ≤ x2))))], ⟨f.get _ _ rfl, trivial⟩, f.defers, _, [], ac, m, rfl, rfl⟩

theorem Wk.x0 {W w : World} {G : GH} {H : List Itm} {v0 : Value} {x0 : (List Int)} {x1 : Int} (m : Mem W G w (H)) (h0 : RSl (RI .i64) G v0 x0) {y : Bool} (hd : D.x0 x0 x1 = some y) :
  Calls Tryz.prog 79 #[v0, (.int .i64 x1)] w (Res W G H (fun _ Ho v => Ho = [] ∧ v = (.bool y))) := by
 refine calls_b (args := [v0, (.int .i64 x1)]) (N := 40) [.tmp 4] Tryz.func79 rfl rfl (Nat.le_of_ble_eq_true rfl) rfl fun a f => ?_
 unfold D.x0 at hd
 refine k_seq (k_region ?_)
 refine l_as f rfl rfl fun a f => l_nil (k_seq (k_seq (k_region ?_)))
 refine l_mv f rfl rfl fun a f => l_len Tryz.underlying42 f rfl rfl h0 fun a f => l_mv f rfl rfl fun a f => l_in f rfl rfl rfl b_gtr fun a f => l_nil ?_
 rcases cond_some hd with ⟨aa, hd⟩ | ⟨aa, hd⟩
 ·refine k_true f rfl aa ?_
  refine k_seq (k_region ?_)
  refine l_as f rfl rfl fun a f => l_nil ?_
  refine k_ret ?_
  obtain rfl := sj hd
  exact ⟨[(.bool false)], ⟨f.get _ _ rfl, trivial⟩, f.defers, _, [], (GLe.refl _), m, rfl, rfl⟩
 ·refine k_false f rfl aa ?_
  refine k_skip ?_
  refine k_seq (k_seq (k_region ?_))
  refine l_as f rfl rfl fun a f => l_nil ?_
  obtain ⟨ab, ac, hd⟩ := bind_some hd
  refine k_cut (fun a w => ∃ q_150' : Unit, ab = .inl q_150' ∧ ∃ (ad : GH), GLe G ad ∧ Fr a 40 [] ∧ Mem W ad w (H)) ?_ ?_
  ·refine k_block ?_
   refine k_loop (fun ae a w => ∃ af : Int, af = ae ∧ ∃ (ag : GH), GLe G ag ∧ Fr a 40 [(0, v0), (1, (.int .i64 x1)), (5, (.int .i64 af))] ∧ Mem W ag w (H)) ac ⟨_, rfl, _, (GLe.refl _), f.weak ⟨rfl, rfl, rfl, trivial⟩, m⟩ ?_
   clear ac f m
   rintro ae ah ai aj a w ⟨af, rfl, ag, ak, f, m⟩
   have h0 := rd1 ak h0
   refine k_seq (k_seq (k_region ?_))
   refine l_mv f rfl rfl fun a f => l_mv f rfl rfl fun a f => l_len Tryz.underlying42 f rfl rfl h0 fun a f => l_in f rfl rfl rfl b_lss fun a f => l_nil ?_
   rcases cond_some ai with ⟨al, ai⟩ | ⟨al, ai⟩
   ·refine k_true f rfl al ?_
    refine k_skip ?_
    refine k_seq (k_block (k_seq ?_))
    refine k_draw 24 Follows (by kernel_rfl) m ?_
    refine q_mv 0 24 rfl (by kernel_rfl) f rfl rfl rfl fun a f => q_mv 1 24 rfl (by kernel_rfl) f rfl rfl rfl fun a f => ?_
    obtain ⟨am, an, ai⟩ := bind_some ai
    refine q_at (i := 2) 24 T42 h0 an rfl (by kernel_rfl) rfl f rfl rfl rfl rfl fun ao ap a aq ar f => ?_
    subst ar
    refine q_loadAt (i := 3) 24 Pl2 aq rfl (by kernel_rfl) rfl f rfl rfl rfl fun a f => q_mv 4 24 rfl (by kernel_rfl) f rfl rfl rfl fun a f => q_p 5 24 rfl (by kernel_rfl) f rfl rfl rfl (fun _ => r_int (f.eval rfl) (f.eval rfl) b_sub) fun a f => ?_
    obtain ⟨au, av, ai⟩ := bind_some ai
    refine q_call (i := 6) 24 rfl (by kernel_rfl) rfl f rfl rfl rfl Tryz.call141 (fun _ _ w aw m => Wk.l m  av) fun a f => q_p 7 24 rfl (by kernel_rfl) f rfl rfl rfl (fun _ => r_not (f.eval rfl)) fun a f => q_mv 8 24 rfl (by kernel_rfl) f rfl rfl rfl fun a f => ?_
    obtain ⟨ax, ay, ai⟩ := bind_some ai
    refine q_cut (fuel' := 0) (listed' := #[true, true, true, true, true, true, true, true, true, true, true, true, true, true, true, true, true, true, true, true, true, true, true, true]) (fun a => Fr a 40 [(0, v0), (1, (.int .i64 x1)), (5, (.int .i64 af)), (13, (.bool (decide (af < (x0.length : Int))))), (16, v0), (17, (.int .i64 af)), (18, ao), (19, (.int .i64 am)), (20, (.int .i64 x1)), (21, (.int .i64 (IntKind.i64.wrap (x1 - 1)))), (22, (.bool au)), (23, (.bool (!au))), (24, (.bool (!au))), (39, (.bool ax))]) ?_ ?_
    ·intro a f
     refine q_end fun az w aA m => ?_
     have h0 := rd1 aA h0
     have aq := At.mono aA aq
     refine l_nil ?_
     rcases cond_some ai with ⟨aB, ai⟩ | ⟨aB, ai⟩
     ·refine k_true f rfl aB ?_
      refine k_seq (k_region ?_)
      refine l_as f rfl rfl fun a f => l_nil ?_
      refine k_ret ?_
      obtain rfl := sj ai
      obtain rfl := aj _ rfl
      obtain rfl := sj hd
      exact ⟨[(.bool false)], ⟨f.get _ _ rfl, trivial⟩, f.defers, _, [], (GLe.trans ak aA), m, rfl, rfl⟩
     ·refine k_false f rfl aB ?_
      refine k_skip ?_
      refine k_region ?_
      refine l_mv f rfl rfl fun a f => l_in f rfl rfl rfl b_add fun a f => l_as f rfl rfl fun a f => l_nil ?_
      obtain rfl := sj ai
      exact ⟨_, rfl, _, rfl, _, (GLe.trans ak aA), f.weak ⟨rfl, rfl, rfl, trivial⟩, m⟩
    ·intro aC
     rcases cond_some ay with ⟨aD, ay⟩ | ⟨aD, ay⟩
     ·refine q_ng 9 24 rfl (by kernel_rfl) f rfl rfl aD rfl fun a f => ?_
      refine q_ng 10 24 rfl (by kernel_rfl) f rfl rfl aD rfl fun a f => q_ng 11 24 rfl (by kernel_rfl) f rfl rfl aD rfl fun a f => q_nu 12 24 rfl (by kernel_rfl) f rfl rfl rfl fun a f => q_nu 13 24 rfl (by kernel_rfl) f rfl rfl rfl fun a f => q_nu 14 24 rfl (by kernel_rfl) f rfl rfl rfl fun a f => q_nu 15 24 rfl (by kernel_rfl) f rfl rfl rfl fun a f => q_nu 16 24 rfl (by kernel_rfl) f rfl rfl rfl fun a f => q_nu 17 24 rfl (by kernel_rfl) f rfl rfl rfl fun a f => q_nu 18 24 rfl (by kernel_rfl) f rfl rfl rfl fun a f => q_nu 19 24 rfl (by kernel_rfl) f rfl rfl rfl fun a f => q_nu 20 24 rfl (by kernel_rfl) f rfl rfl rfl fun a f => q_nu 21 24 rfl (by kernel_rfl) f rfl rfl rfl fun a f => q_ng 22 24 rfl (by kernel_rfl) f rfl rfl aD rfl fun a f => q_p 23 24 rfl (by kernel_rfl) f rfl rfl rfl (fun _ => r_pickT (f.eval rfl) aD (f.eval rfl)) fun a f => ?_
      obtain rfl := sj ay
      exact aC _ (f.weak ⟨rfl, rfl, rfl, rfl, rfl, rfl, rfl, rfl, rfl, rfl, rfl, rfl, rfl, rfl, trivial⟩)
     ·refine q_mv 9 24 rfl (by kernel_rfl) f (wanted_of f rfl rfl rfl aD) rfl rfl fun a f => ?_
      refine q_p 10 24 rfl (by kernel_rfl) f (wanted_of f rfl rfl rfl aD) rfl rfl (fun _ => r_int (f.eval rfl) (f.eval rfl) b_gtr) fun a f => q_mv 11 24 rfl (by kernel_rfl) f (wanted_of f rfl rfl rfl aD) rfl rfl fun a f => ?_
      obtain ⟨aE, aF, ay⟩ := bind_some ay
      refine q_cut (fuel' := 1) (listed' := #[true, true, true, true, true, true, true, true, true, true, true, true, true, true, true, true, true, true, true, true, true, true, true, false]) (fun a => Fr a 40 [(0, v0), (1, (.int .i64 x1)), (5, (.int .i64 af)), (13, (.bool (decide (af < (x0.length : Int))))), (16, v0), (17, (.int .i64 af)), (18, ao), (19, (.int .i64 am)), (20, (.int .i64 x1)), (21, (.int .i64 (IntKind.i64.wrap (x1 - 1)))), (22, (.bool au)), (23, (.bool (!au))), (24, (.bool (!au))), (25, (.int .i64 af)), (26, (.bool (decide ((0 : Int) < af)))), (27, (.bool (decide ((0 : Int) < af)))), (38, (.bool aE))]) ?_ ?_
      ·intro a f
       refine q_p 23 24 rfl (by kernel_rfl) f rfl rfl rfl (fun _ => r_pickF (f.eval rfl) aD (f.eval rfl)) fun a f => ?_
       obtain rfl := sj ay
       exact aC _ (f.weak ⟨rfl, rfl, rfl, rfl, rfl, rfl, rfl, rfl, rfl, rfl, rfl, rfl, rfl, rfl, trivial⟩)
      ·intro aG
       rcases cond_some aF with ⟨aH, aF⟩ | ⟨aH, aF⟩
       ·refine q_mv 12 24 rfl (by kernel_rfl) f (wanted_of f rfl rfl rfl aH) rfl rfl fun a f => ?_
        refine q_mv 13 24 rfl (by kernel_rfl) f (wanted_of f rfl rfl rfl aH) rfl rfl fun a f => ?_
        obtain ⟨aI, aJ, aF⟩ := bind_some aF
        refine q_at (i := 14) 24 T42 h0 aJ rfl (by kernel_rfl) rfl f (wanted_of f rfl rfl rfl aH) rfl rfl rfl fun aK aL a aM aN f => ?_
        subst aN
        refine q_loadAt (i := 15) 24 Pl2 aM rfl (by kernel_rfl) rfl f (wanted_of f rfl rfl rfl aH) rfl rfl fun a f => q_mv 16 24 rfl (by kernel_rfl) f (wanted_of f rfl rfl rfl aH) rfl rfl fun a f => q_mv 17 24 rfl (by kernel_rfl) f (wanted_of f rfl rfl rfl aH) rfl rfl fun a f => q_p 18 24 rfl (by kernel_rfl) f (wanted_of f rfl rfl rfl aH) rfl rfl (fun _ => r_int (f.eval rfl) (f.eval rfl) b_sub) fun a f => ?_
        obtain ⟨aO, aP, aF⟩ := bind_some aF
        refine q_at (i := 19) 24 T42 h0 aP rfl (by kernel_rfl) rfl f (wanted_of f rfl rfl rfl aH) rfl rfl rfl fun aQ aR a aS aT f => ?_
        subst aT
        refine q_loadAt (i := 20) 24 Pl2 aS rfl (by kernel_rfl) rfl f (wanted_of f rfl rfl rfl aH) rfl rfl fun a f => q_p 21 24 rfl (by kernel_rfl) f (wanted_of f rfl rfl rfl aH) rfl rfl (fun _ => r_int (f.eval rfl) (f.eval rfl) b_leq) fun a f => q_p 22 24 rfl (by kernel_rfl) f (wanted_of f rfl rfl rfl aD) rfl rfl (fun _ => r_pickT (f.eval rfl) aH (f.eval rfl)) fun a f => ?_
        obtain rfl := sj aF
        exact aG _ (f.weak ⟨rfl, rfl, rfl, rfl, rfl, rfl, rfl, rfl, rfl, rfl, rfl, rfl, rfl, rfl, rfl, rfl, rfl, trivial⟩)
       ·refine q_ng 12 24 rfl (by kernel_rfl) f rfl rfl aH rfl fun a f => ?_
        refine q_ng 13 24 rfl (by kernel_rfl) f rfl rfl aH rfl fun a f => q_ng 14 24 rfl (by kernel_rfl) f rfl rfl aH rfl fun a f => q_ng 15 24 rfl (by kernel_rfl) f rfl rfl aH rfl fun a f => q_ng 16 24 rfl (by kernel_rfl) f rfl rfl aH rfl fun a f => q_ng 17 24 rfl (by kernel_rfl) f rfl rfl aH rfl fun a f => q_ng 18 24 rfl (by kernel_rfl) f rfl rfl aH rfl fun a f => q_ng 19 24 rfl (by kernel_rfl) f rfl rfl aH rfl fun a f => q_ng 20 24 rfl (by kernel_rfl) f rfl rfl aH rfl fun a f => q_ng 21 24 rfl (by kernel_rfl) f rfl rfl aH rfl fun a f => q_p 22 24 rfl (by kernel_rfl) f (wanted_of f rfl rfl rfl aD) rfl rfl (fun _ => r_pickF (f.eval rfl) aH (f.eval rfl)) fun a f => ?_
        obtain rfl := sj aF
        exact aG _ (f.weak ⟨rfl, rfl, rfl, rfl, rfl, rfl, rfl, rfl, rfl, rfl, rfl, rfl, rfl, rfl, rfl, rfl, rfl, trivial⟩)
   ·refine k_false f rfl al ?_
    refine k_exit rfl ?_
    obtain rfl := sj ai
    obtain rfl := aj _ rfl
    exact ⟨_, rfl, _, ak, f.weak trivial, m⟩
  ·rintro a w ⟨_, rfl, ad, aU, f, m⟩
   refine k_seq (k_region ?_)
   refine l_as f rfl rfl fun a f => l_nil ?_
   refine k_ret ?_
   obtain rfl := sj hd
   exact ⟨[(.bool true)], ⟨f.get _ _ rfl, trivial⟩, f.defers, _, [], aU, m, rfl, rfl⟩

theorem Wk.h {W w : World} {G : GH} {H : List Itm} {v0 : Value} {x0 : (List Int)} {x1 : Int} (m : Mem W G w (H)) (h0 : RSl (RI .i64) G v0 x0) {y : Bool} (hd : D.h x0 x1 = some y) :
  Calls Tryz.prog 70 #[v0, (.int .i64 x1)] w (Res W G H (fun _ Ho v => Ho = [] ∧ v = (.bool y))) := by
 refine calls_b (args := [v0, (.int .i64 x1)]) (N := 18) [.tmp 4] Tryz.func70 rfl rfl (Nat.le_of_ble_eq_true rfl) rfl fun a f => ?_
 unfold D.h at hd
 refine k_seq (k_region ?_)
 refine l_as f rfl rfl fun a f => l_nil (k_seq (k_seq (k_region ?_)))
 refine l_as f rfl rfl fun a f => l_nil ?_
 obtain ⟨aa, ab, hd⟩ := bind_some hd
 refine k_cut (fun a w => ∃ q_19' : Unit, aa = .inl q_19' ∧ ∃ (ac : GH), GLe G ac ∧ Fr a 18 [] ∧ Mem W ac w (H)) ?_ ?_
 ·refine k_block ?_
  refine k_loop (fun ad a w => ∃ ae : Int, ae = ad ∧ ∃ (af : GH), GLe G af ∧ Fr a 18 [(0, v0), (1, (.int .i64 x1)), (5, (.int .i64 ae))] ∧ Mem W af w (H)) ab ⟨_, rfl, _, (GLe.refl _), f.weak ⟨rfl, rfl, rfl, trivial⟩, m⟩ ?_
  clear ab f m
  rintro ad ag ah ai a w ⟨ae, rfl, af, aj, f, m⟩
  have h0 := rd1 aj h0
  refine k_seq (k_seq (k_region ?_))
  refine l_mv f rfl rfl fun a f => l_mv f rfl rfl fun a f => l_len Tryz.underlying42 f rfl rfl h0 fun a f => l_in f rfl rfl rfl b_lss fun a f => l_nil ?_
  rcases cond_some ah with ⟨ak, ah⟩ | ⟨ak, ah⟩
  ·refine k_true f rfl ak ?_
   refine k_skip ?_
   refine k_seq (k_block (k_seq (k_region ?_)))
   refine l_mv f rfl rfl fun a f => l_mv f rfl rfl fun a f => ?_
   obtain ⟨al, am, ah⟩ := bind_some ah
   refine l_at T42 f rfl rfl rfl h0 am fun an ao a ap aq f => ?_
   subst aq
   refine l_loadAt m Pl2 f rfl rfl ap fun a f => l_mv f rfl rfl fun a f => l_in f rfl rfl rfl b_eql fun a f => l_nil ?_
   rcases cond_some ah with ⟨ar, ah⟩ | ⟨ar, ah⟩
   ·refine k_true f rfl ar ?_
    refine k_seq (k_region ?_)
    refine l_as f rfl rfl fun a f => l_nil ?_
    refine k_ret ?_
    obtain rfl := sj ah
    obtain rfl := ai _ rfl
    obtain rfl := sj hd
    exact ⟨[(.bool true)], ⟨f.get _ _ rfl, trivial⟩, f.defers, _, [], aj, m, rfl, rfl⟩
   ·refine k_false f rfl ar ?_
    refine k_skip ?_
    refine k_region ?_
    refine l_mv f rfl rfl fun a f => l_in f rfl rfl rfl b_add fun a f => l_as f rfl rfl fun a f => l_nil ?_
    obtain rfl := sj ah
    exact ⟨_, rfl, _, rfl, _, aj, f.weak ⟨rfl, rfl, rfl, trivial⟩, m⟩
  ·refine k_false f rfl ak ?_
   refine k_exit rfl ?_
   obtain rfl := sj ah
   obtain rfl := ai _ rfl
   exact ⟨_, rfl, _, aj, f.weak trivial, m⟩
 ·rintro a w ⟨_, rfl, ac, au, f, m⟩
  refine k_seq (k_region ?_)
  refine l_as f rfl rfl fun a f => l_nil ?_
  refine k_ret ?_
  obtain rfl := sj hd
  exact ⟨[(.bool false)], ⟨f.get _ _ rfl, trivial⟩, f.defers, _, [], au, m, rfl, rfl⟩

theorem Wk.Z {W w : World} {G : GH} {H : List Itm} {v0_0 : Value} {x0_0 : (List (List Int))} (m : Mem W G w (H)) (h0_0 : RSl (RSl (RI .i64)) G v0_0 x0_0) {y : Bool} (hd : D.Z x0_0 = some y) :
  Calls Tryz.prog 77 #[(.agg #[v0_0])] w (Res W G H (fun _ Ho v => Ho = [] ∧ v = (.bool y))) := by
 refine calls_b (args := [(.agg #[v0_0])]) (N := 64) [.tmp 2] Tryz.func77 rfl rfl (Nat.le_of_ble_eq_true rfl) rfl fun a f => ?_
 unfold D.Z at hd
 refine k_seq (k_region ?_)
 refine l_box (cs := [v0_0]) m f rfl rfl rfl fun aa w a m f => l_as f rfl rfl fun a f => l_nil (k_seq (k_region ?_))
 refine l_boxAgg 0 0 (ds := [v0_0]) m Ag30 f rfl rfl rfl rfl rfl fun a f => ?_
 obtain ⟨ab, ac, hd⟩ := bind_some hd
 refine l_res f rfl rfl Tryz.call80 (Wk.e m h0_0 ac) fun ad ae af w ag m ah a f => ?_
 obtain ⟨rfl, rfl⟩ := ah
 have h0_0 := rd2 ag h0_0
 refine l_as f rfl rfl fun a f => l_nil (k_seq (k_seq (k_region ?_)))
 refine l_mv f rfl rfl fun a f => ?_
 obtain ⟨ai, aj, hd⟩ := bind_some hd
 refine l_res f rfl rfl Tryz.call141 (Wk.l m  aj) fun ak al am w an m ao a f => ?_
 obtain ⟨rfl, rfl⟩ := ao
 have h0_0 := rd2 an h0_0
 refine l_op f rfl rfl rfl (r_not (f.eval rfl)) fun a f => l_nil ?_
 rcases cond_some hd with ⟨ap, hd⟩ | ⟨ap, hd⟩
 ·refine k_true f rfl ap ?_
  refine k_seq (k_region ?_)
  refine l_as f rfl rfl fun a f => l_nil ?_
  refine k_ret ?_
  have m : Mem W al w H := Mem.drop (H' := [Itm.box aa 30 [v0_0]]) m
  obtain rfl := sj hd
  exact ⟨[(.bool false)], ⟨f.get _ _ rfl, trivial⟩, f.defers, _, [], (GLe.trans ag an), m, rfl, rfl⟩
 ·refine k_false f rfl ap ?_
  refine k_skip ?_
  refine k_seq (k_seq (k_region ?_))
  refine l_as f rfl rfl fun a f => l_nil ?_
  obtain ⟨aq, ar, hd⟩ := bind_some hd
  refine k_cut (fun a w => ∃ q_138' : Unit, aq = .inl q_138' ∧ ∃ (au : GH), GLe al au ∧ Fr a 64 [(1, (.pointer (some ⟨aa, 0, none⟩))), (3, (.int .i64 ab))] ∧ Mem W au w (Itm.box aa 30 [v0_0] :: H)) ?_ ?_
  ·refine k_block ?_
   refine k_loop (fun av a w => ∃ aw : Int, aw = av ∧ ∃ (ax : GH), GLe al ax ∧ Fr a 64 [(1, (.pointer (some ⟨aa, 0, none⟩))), (3, (.int .i64 ab)), (4, (.int .i64 aw))] ∧ Mem W ax w (Itm.box aa 30 [v0_0] :: H)) ar ⟨_, rfl, _, (GLe.refl _), f.weak ⟨rfl, rfl, rfl, trivial⟩, m⟩ ?_
   clear ar f m
   rintro av ay az aA a w ⟨aw, rfl, ax, aB, f, m⟩
   have h0_0 := rd2 aB h0_0
   refine k_seq (k_seq (k_region ?_))
   refine l_mv f rfl rfl fun a f => l_mv f rfl rfl fun a f => l_in f rfl rfl rfl b_lss fun a f => l_nil ?_
   rcases cond_some az with ⟨aC, az⟩ | ⟨aC, az⟩
   ·refine k_true f rfl aC ?_
    refine k_skip ?_
    refine k_seq (k_block (k_seq (k_region ?_)))
    refine l_fieldAddr Tryz.underlying30 rfl Tryz.sizeOf22 (by decide) f rfl rfl fun a f => l_boxCell 0 0 m Pl22 f rfl rfl rfl rfl fun a f => l_mv f rfl rfl fun a f => ?_
    obtain ⟨aD, aE, az⟩ := bind_some az
    refine l_at T22 f rfl rfl rfl h0_0 aE fun aF aG a aH aI f => l_loadAt m Pl42 f rfl rfl aH fun a f => l_mv f rfl rfl fun a f => ?_
    obtain ⟨aJ, aK, az⟩ := bind_some az
    refine l_res f rfl rfl Tryz.call79 (Wk.x0 m aI aK) fun aL aM aN w aO m aP a f => ?_
    obtain ⟨rfl, rfl⟩ := aP
    have h0_0 := rd2 aO h0_0
    have aH := At.mono aO aH
    have aI := rd1 aO aI
    refine l_op f rfl rfl rfl (r_not (f.eval rfl)) fun a f => l_mv f rfl rfl fun a f => ?_
    obtain ⟨aQ, aR, az⟩ := bind_some az
    refine l_cut 8 (fun a w => ∃ aS, GLe aM aS ∧ Mem W aS w (Itm.box aa 30 [v0_0] :: H) ∧ Fr a 64 [(1, (.pointer (some ⟨aa, 0, none⟩))), (3, (.int .i64 ab)), (4, (.int .i64 aw)), (14, (.bool (decide (aw < ab)))), (17, (.pointer (some ⟨aa, 0, none⟩))), (18, v0_0), (19, (.int .i64 aw)), (20, aF), (21, aG), (22, (.int .i64 ab)), (23, (.bool aJ)), (24, (.bool (!aJ))), (25, (.bool (!aJ))), (33, (.bool aQ))]) ?_ ?_
    ·rcases cond_some aR with ⟨aT, aR⟩ | ⟨aT, aR⟩
     ·refine l_not' f rfl rfl rfl aT fun a f => ?_
      refine l_not' f rfl rfl rfl aT fun a f => l_not' f rfl rfl rfl aT fun a f => l_not' f rfl rfl rfl aT fun a f => l_not' f rfl rfl rfl aT fun a f => l_not' f rfl rfl rfl aT fun a f => l_not' f rfl rfl rfl aT fun a f => l_op f rfl rfl rfl (r_pickT (f.eval rfl) aT (f.eval rfl)) fun a f => ?_
      obtain rfl := sj aR
      exact ⟨_, (GLe.refl _), m, f.weak ⟨rfl, rfl, rfl, rfl, rfl, rfl, rfl, rfl, rfl, rfl, rfl, rfl, rfl, rfl, trivial⟩⟩
     ·refine l_run f rfl rfl aT ?_
      refine l_fieldAddr Tryz.underlying30 rfl Tryz.sizeOf22 (by decide) f rfl rfl fun a f => l_run f rfl rfl aT ?_
      refine l_boxCell 0 0 m Pl22 f rfl rfl rfl rfl fun a f => l_run f rfl rfl aT ?_
      refine l_mv f rfl rfl fun a f => l_run f rfl rfl aT ?_
      obtain ⟨aU, aV, aR⟩ := bind_some aR
      refine l_at T22 f rfl rfl rfl h0_0 aV fun aW aX a aY aZ f => l_run f rfl rfl aT ?_
      refine l_loadAt m Pl42 f rfl rfl aY fun a f => l_run f rfl rfl aT ?_
      refine l_mv f rfl rfl fun a f => l_run f rfl rfl aT ?_
      obtain ⟨a0, a1, aR⟩ := bind_some aR
      refine l_res f rfl rfl Tryz.call70 (Wk.h m aZ a1) fun a2 a3 a4 w a5 m a6 a f => ?_
      obtain ⟨rfl, rfl⟩ := a6
      have h0_0 := rd2 a5 h0_0
      have aH := At.mono a5 aH
      have aI := rd1 a5 aI
      have aY := At.mono a5 aY
      have aZ := rd1 a5 aZ
      refine l_op f rfl rfl rfl (r_pickF (f.eval rfl) aT (f.eval rfl)) fun a f => ?_
      obtain rfl := sj aR
      exact ⟨_, a5, m, f.weak ⟨rfl, rfl, rfl, rfl, rfl, rfl, rfl, rfl, rfl, rfl, rfl, rfl, rfl, rfl, trivial⟩⟩
    ·rintro a w ⟨aS, a7, m, f⟩
     have h0_0 := rd2 a7 h0_0
     have aH := At.mono a7 aH
     have aI := rd1 a7 aI
     refine l_nil ?_
     rcases cond_some az with ⟨a8, az⟩ | ⟨a8, az⟩
     ·refine k_true f rfl a8 ?_
      refine k_seq (k_region ?_)
      refine l_as f rfl rfl fun a f => l_nil ?_
      refine k_ret ?_
      have m : Mem W aS w H := Mem.drop (H' := [Itm.box aa 30 [v0_0]]) m
      obtain rfl := sj az
      obtain rfl := aA _ rfl
      obtain rfl := sj hd
      exact ⟨[(.bool false)], ⟨f.get _ _ rfl, trivial⟩, f.defers, _, [], (GLe.trans ag (GLe.trans an (GLe.trans aB (GLe.trans aO a7)))), m, rfl, rfl⟩
     ·refine k_false f rfl a8 ?_
      refine k_skip ?_
      refine k_region ?_
      refine l_mv f rfl rfl fun a f => l_in f rfl rfl rfl b_add fun a f => l_as f rfl rfl fun a f => l_nil ?_
      obtain rfl := sj az
      exact ⟨_, rfl, _, rfl, _, (GLe.trans aB (GLe.trans aO a7)), f.weak ⟨rfl, rfl, rfl, trivial⟩, m⟩
   ·refine k_false f rfl aC ?_
    refine k_exit rfl ?_
    obtain rfl := sj az
    obtain rfl := aA _ rfl
    exact ⟨_, rfl, _, aB, f.weak ⟨rfl, rfl, trivial⟩, m⟩
  ·rintro a w ⟨_, rfl, au, a9, f, m⟩
   have h0_0 := rd2 a9 h0_0
   refine k_seq (k_seq (k_region ?_))
   refine l_as f rfl rfl fun a f => l_nil ?_
   obtain ⟨ba, bb, hd⟩ := bind_some hd
   refine k_cut (fun a w => ∃ q_545' : Unit, ba = .inl q_545' ∧ ∃ (bc : GH), GLe au bc ∧ Fr a 64 [] ∧ Mem W bc w (H)) ?_ ?_
   ·refine k_block ?_
    refine k_loop (fun bd a w => ∃ be : Int, be = bd ∧ ∃ (bf : GH), GLe au bf ∧ Fr a 64 [(1, (.pointer (some ⟨aa, 0, none⟩))), (3, (.int .i64 ab)), (5, (.int .i64 be))] ∧ Mem W bf w (Itm.box aa 30 [v0_0] :: H)) bb ⟨_, rfl, _, (GLe.refl _), f.weak ⟨rfl, rfl, rfl, trivial⟩, m⟩ ?_
    clear bb f m
    rintro bd bg bh bi a w ⟨be, rfl, bf, bj, f, m⟩
    have h0_0 := rd2 bj h0_0
    refine k_seq (k_seq (k_region ?_))
    refine l_mv f rfl rfl fun a f => l_mv f rfl rfl fun a f => l_in f rfl rfl rfl b_lss fun a f => l_nil ?_
    rcases cond_some bh with ⟨bk, bh⟩ | ⟨bk, bh⟩
    ·refine k_true f rfl bk ?_
     refine k_skip ?_
     refine k_seq (k_block (k_seq (k_region ?_)))
     refine l_as f rfl rfl fun a f => l_nil ?_
     obtain ⟨bl, bm, bh⟩ := bind_some bh
     refine k_cut (fun a w => ∃ q_759' : Unit, bl = .inl q_759' ∧ ∃ (bn : GH), GLe bf bn ∧ Fr a 64 [(1, (.pointer (some ⟨aa, 0, none⟩))), (3, (.int .i64 ab)), (5, (.int .i64 be))] ∧ Mem W bn w (Itm.box aa 30 [v0_0] :: H)) ?_ ?_
     ·refine k_block ?_
      refine k_loop (fun bo a w => ∃ bp : Int, bp = bo ∧ ∃ (bq : GH), GLe bf bq ∧ Fr a 64 [(1, (.pointer (some ⟨aa, 0, none⟩))), (3, (.int .i64 ab)), (5, (.int .i64 be)), (6, (.int .i64 bp))] ∧ Mem W bq w (Itm.box aa 30 [v0_0] :: H)) bm ⟨_, rfl, _, (GLe.refl _), f.weak ⟨rfl, rfl, rfl, rfl, trivial⟩, m⟩ ?_
      clear bm f m
      rintro bo br bs bt a w ⟨bp, rfl, bq, bu, f, m⟩
      have h0_0 := rd2 bu h0_0
      refine k_seq (k_seq (k_region ?_))
      refine l_mv f rfl rfl fun a f => l_fieldAddr Tryz.underlying30 rfl Tryz.sizeOf22 (by decide) f rfl rfl fun a f => l_boxCell 0 0 m Pl22 f rfl rfl rfl rfl fun a f => l_mv f rfl rfl fun a f => ?_
      obtain ⟨bv, bw, bs⟩ := bind_some bs
      refine l_at T22 f rfl rfl rfl h0_0 bw fun bx bz a bA bB f => l_loadAt m Pl42 f rfl rfl bA fun a f => l_len Tryz.underlying42 f rfl rfl bB fun a f => l_in f rfl rfl rfl b_lss fun a f => l_nil ?_
      rcases cond_some bs with ⟨bC, bs⟩ | ⟨bC, bs⟩
      ·refine k_true f rfl bC ?_
       refine k_skip ?_
       refine k_seq (k_block (k_seq ?_))
       refine k_draw 15 Follows (by kernel_rfl) m ?_
       refine q_fieldAddr (i := 0) 15 Tryz.underlying30 rfl Tryz.sizeOf22 (by decide) rfl (by kernel_rfl) rfl f rfl rfl rfl fun a f => q_boxCell (i := 1) 15 0 Pl22 rfl rfl rfl (by kernel_rfl) rfl f rfl rfl rfl fun a f => q_fieldAddr (i := 2) 15 Tryz.underlying30 rfl Tryz.sizeOf22 (by decide) rfl (by kernel_rfl) rfl f rfl rfl rfl fun a f => q_boxCell (i := 3) 15 0 Pl22 rfl rfl rfl (by kernel_rfl) rfl f rfl rfl rfl fun a f => q_mv 4 15 rfl (by kernel_rfl) f rfl rfl rfl fun a f => ?_
       obtain ⟨bD, bE, bs⟩ := bind_some bs
       refine q_at (i := 5) 15 T22 h0_0 bE rfl (by kernel_rfl) rfl f rfl rfl rfl rfl fun bF bG a bH bI f => q_loadAt (i := 6) 15 Pl42 bH rfl (by kernel_rfl) rfl f rfl rfl rfl fun a f => q_mv 7 15 rfl (by kernel_rfl) f rfl rfl rfl fun a f => ?_
       obtain ⟨bJ, bK, bs⟩ := bind_some bs
       refine q_at (i := 8) 15 T42 bI bK rfl (by kernel_rfl) rfl f rfl rfl rfl rfl fun bL bM a bN bO f => ?_
       subst bO
       refine q_loadAt (i := 9) 15 Pl2 bN rfl (by kernel_rfl) rfl f rfl rfl rfl fun a f => ?_
       obtain ⟨bP, bQ, bs⟩ := bind_some bs
       refine q_at (i := 10) 15 T22 h0_0 bQ rfl (by kernel_rfl) rfl f rfl rfl rfl rfl fun bR bS a bT bU f => q_loadAt (i := 11) 15 Pl42 bT rfl (by kernel_rfl) rfl f rfl rfl rfl fun a f => q_mv 12 15 rfl (by kernel_rfl) f rfl rfl rfl fun a f => ?_
       obtain ⟨bV, bW, bs⟩ := bind_some bs
       refine q_call (i := 13) 15 rfl (by kernel_rfl) rfl f rfl rfl rfl Tryz.call70 (fun _ _ w bX m => Wk.h m (rd1 bX bU) bW) fun a f => q_p 14 15 rfl (by kernel_rfl) f rfl rfl rfl (fun _ => r_not (f.eval rfl)) fun a f => q_end fun bY w bZ m => ?_
       have h0_0 := rd2 bZ h0_0
       have bH := At.mono bZ bH
       have bI := rd1 bZ bI
       have bN := At.mono bZ bN
       have bT := At.mono bZ bT
       have bU := rd1 bZ bU
       refine l_nil ?_
       rcases cond_some bs with ⟨b0, bs⟩ | ⟨b0, bs⟩
       ·refine k_true f rfl b0 ?_
        refine k_seq (k_region ?_)
        refine l_as f rfl rfl fun a f => l_nil ?_
        refine k_ret ?_
        have m : Mem W bY w H := Mem.drop (H' := [Itm.box aa 30 [v0_0]]) m
        obtain rfl := sj bs
        obtain rfl := bt _ rfl
        obtain rfl := sj bh
        obtain rfl := bi _ rfl
        obtain rfl := sj hd
        exact ⟨[(.bool false)], ⟨f.get _ _ rfl, trivial⟩, f.defers, _, [], (GLe.trans ag (GLe.trans an (GLe.trans a9 (GLe.trans bj (GLe.trans bu bZ))))), m, rfl, rfl⟩
       ·refine k_false f rfl b0 ?_
        refine k_skip ?_
        refine k_region ?_
        refine l_mv f rfl rfl fun a f => l_in f rfl rfl rfl b_add fun a f => l_as f rfl rfl fun a f => l_nil ?_
        obtain rfl := sj bs
        exact ⟨_, rfl, _, rfl, _, (GLe.trans bu bZ), f.weak ⟨rfl, rfl, rfl, rfl, trivial⟩, m⟩
      ·refine k_false f rfl bC ?_
       refine k_exit rfl ?_
       obtain rfl := sj bs
       obtain rfl := bt _ rfl
       exact ⟨_, rfl, _, bu, f.weak ⟨rfl, rfl, rfl, trivial⟩, m⟩
     ·rintro a w ⟨_, rfl, bn, b1, f, m⟩
      have h0_0 := rd2 b1 h0_0
      refine k_region ?_
      refine l_mv f rfl rfl fun a f => l_in f rfl rfl rfl b_add fun a f => l_as f rfl rfl fun a f => l_nil ?_
      obtain rfl := sj bh
      exact ⟨_, rfl, _, rfl, _, (GLe.trans bj b1), f.weak ⟨rfl, rfl, rfl, trivial⟩, m⟩
    ·refine k_false f rfl bk ?_
     refine k_exit rfl ?_
     have m : Mem W bf w H := Mem.drop (H' := [Itm.box aa 30 [v0_0]]) m
     obtain rfl := sj bh
     obtain rfl := bi _ rfl
     exact ⟨_, rfl, _, bj, f.weak trivial, m⟩
   ·rintro a w ⟨_, rfl, bc, b2, f, m⟩
    refine k_seq (k_region ?_)
    refine l_as f rfl rfl fun a f => l_nil ?_
    refine k_ret ?_
    obtain rfl := sj hd
    exact ⟨[(.bool true)], ⟨f.get _ _ rfl, trivial⟩, f.defers, _, [], (GLe.trans ag (GLe.trans an (GLe.trans a9 b2))), m, rfl, rfl⟩

theorem Wk.B {W w : World} {G : GH} {H : List Itm} {x0 : Int} (m : Mem W G w (H))  {y : ((List Int))} (hd : D.B x0 = some y) :
  Calls Tryz.prog 87 #[(.int .i64 x0)] w (Res W G H (fun G' Ho v => ∃ r0 : Value, ∃ i0 : Itm, Ho = [i0] ∧ r0 = v ∧ Ow (RI .i64) 2 G' i0 r0 y)) := by
 refine calls_b (args := [(.int .i64 x0)]) (N := 16) [.tmp 2] Tryz.func87 rfl rfl (Nat.le_of_ble_eq_true rfl) rfl fun a f => ?_
 unfold D.B at hd
 refine k_seq (k_region ?_)
 refine l_as f rfl rfl fun a f => l_nil (k_seq (k_region ?_))
 refine l_slit (R := (RI .i64)) (xs := ([] : List Int)) (RI.one _) m T42 f rfl rfl rfl (by decide) (All2.nil _) fun aa ab w a m ac f => l_as f rfl rfl fun a f => l_nil (k_seq (k_seq (k_region ?_)))
 refine l_as f rfl rfl fun a f => l_nil ?_
 obtain ⟨ad, ae, hd⟩ := bind_some hd
 refine k_cut (fun a w => ∃ af : List Int, af = ad ∧ ∃ (ag : GH) (ah : Value) (ai : Itm), GLe G ag ∧ Fr a 16 [(3, ah)] ∧ Mem W ag w (ai :: H) ∧ Ow (RI .i64) 2 ag ai ah af) ?_ ?_
 ·refine k_block ?_
  refine k_loop (fun aj a w => ∃ ak : List Int, ∃ al : Int, (ak, al) = aj ∧ ∃ (am : GH) (an : Value) (ao : Itm), GLe G am ∧ Fr a 16 [(0, (.int .i64 x0)), (3, an), (4, (.int .i64 al))] ∧ Mem W am w (ao :: H) ∧ Ow (RI .i64) 2 am ao an ak) ae ⟨_, _, rfl, _, ab, aa, (GLe.refl _), f.weak ⟨rfl, rfl, rfl, trivial⟩, m, ac⟩ ?_
  clear ae f m
  rintro aj ap aq ar a w ⟨ak, al, rfl, am, an, ao, au, f, m, av⟩
  refine k_seq (k_seq (k_region ?_))
  refine l_mv f rfl rfl fun a f => l_mv f rfl rfl fun a f => l_in f rfl rfl rfl b_lss fun a f => l_nil ?_
  rcases cond_some aq with ⟨aw, aq⟩ | ⟨aw, aq⟩
  ·refine k_true f rfl aw ?_
   refine k_skip ?_
   refine k_seq (k_block (k_region ?_))
   refine l_mv f rfl rfl fun a f => l_mv f rfl rfl fun a f => l_slit (R := (RI .i64)) (xs := ([al] : List Int)) (RI.one _) m T42 f rfl rfl rfl (by decide) (All2.cons rfl (All2.nil _)) fun ax ay w a m az f => ?_
   obtain ⟨aA, aB, aq⟩ := bind_some aq
   refine l_append (RI.one _) 1 m av rfl T42 rfl (by decide) f rfl rfl rfl (Ow.src (j := 0) az m rfl) aB fun aC aD w a m aE f => l_as f rfl rfl fun a f => l_nil (k_region ?_)
   refine l_mv f rfl rfl fun a f => l_in f rfl rfl rfl b_add fun a f => l_as f rfl rfl fun a f => l_nil ?_
   have m := m.front 1 rfl
   have m := m.eraseAt 1
   obtain rfl := sj aq
   exact ⟨_, rfl, _, _, rfl, _, aD, aC, au, f.weak ⟨rfl, rfl, rfl, trivial⟩, m, aE⟩
  ·refine k_false f rfl aw ?_
   refine k_exit rfl ?_
   obtain rfl := sj aq
   obtain rfl := ar _ rfl
   exact ⟨_, rfl, _, an, ao, au, f.weak ⟨rfl, trivial⟩, m, av⟩
 ·rintro a w ⟨af, rfl, ag, ah, ai, aF, f, m, aG⟩
  refine k_seq (k_region ?_)
  refine l_mv f rfl rfl fun a f => l_as f rfl rfl fun a f => l_nil ?_
  refine k_ret ?_
  obtain rfl := sj hd
  exact ⟨[ah], ⟨f.get _ _ rfl, trivial⟩, f.defers, _, [ai], aF, m, _, _, rfl, rfl, aG⟩

theorem Wk.p {W w : World} {G : GH} {H : List Itm} {v0 : Value} {x0 : (List Int)} (m : Mem W G w (H)) (h0 : RSl (RI .i64) G v0 x0) {y : ((List Int))} (hd : D.p x0 = some y) :
  Calls Tryz.prog 69 #[v0] w (Res W G H (fun G' Ho v => ∃ r0 : Value, ∃ i0 : Itm, Ho = [i0] ∧ r0 = v ∧ Ow (RI .i64) 2 G' i0 r0 y)) := by
 refine calls_b (args := [v0]) (N := 6) [.tmp 2] Tryz.func69 rfl rfl (Nat.le_of_ble_eq_true rfl) rfl fun a f => ?_
 unfold D.p at hd
 refine k_seq (k_region ?_)
 refine l_as f rfl rfl fun a f => l_nil (k_seq (k_region ?_))
 refine l_slit (R := (RI .i64)) (xs := ([] : List Int)) (RI.one _) m T42 f rfl rfl rfl (by decide) (All2.nil _) fun aa ab w a m ac f => l_mv f rfl rfl fun a f => ?_
 obtain ⟨ad, ae, hd⟩ := bind_some hd
 refine l_append (RI.one _) 0 m ac rfl T42 rfl (by decide) f rfl rfl rfl (h0.src m) ae fun af ag w a m ah f => l_as f rfl rfl fun a f => l_nil ?_
 refine k_ret ?_
 obtain rfl := sj hd
 exact ⟨[ag], ⟨f.get _ _ rfl, trivial⟩, f.defers, _, [af], (GLe.refl _), m, _, _, rfl, rfl, ah⟩

theorem Wk.T {W w : World} {G : GH} {H : List Itm} {v0 : Value} {x0 : (List Int)} {x1 : Int} (m : Mem W G w (H)) (h0 : RSl (RI .i64) G v0 x0) {y : ((List Int))} (hd : D.T x0 x1 = some y) :
  Calls Tryz.prog 68 #[v0, (.int .i64 x1)] w (Res W G H (fun G' Ho v => ∃ r0 : Value, Ho = [] ∧ r0 = v ∧ RSl (RI .i64) G' r0 y)) := by
 refine calls_b (args := [v0, (.int .i64 x1)]) (N := 46) [.tmp 4] Tryz.func68 rfl rfl (Nat.le_of_ble_eq_true rfl) rfl fun a f => ?_
 unfold D.T at hd
 refine k_seq (k_region ?_)
 refine l_as f rfl rfl fun a f => l_nil (k_seq (k_region ?_))
 refine l_as f rfl rfl fun a f => l_nil (k_seq ?_)
 obtain ⟨aa, ab, hd⟩ := bind_some hd
 refine k_cut (fun a w => ∃ ac : Int, ac = aa ∧ ∃ (ad : GH), GLe G ad ∧ Fr a 46 [(0, v0), (1, (.int .i64 x1)), (5, (.int .i64 ac))] ∧ Mem W ad w (H)) ?_ ?_
 ·refine k_block ?_
  refine k_loop (fun ae a w => ∃ af : Int, af = ae ∧ ∃ (ag : GH), GLe G ag ∧ Fr a 46 [(0, v0), (1, (.int .i64 x1)), (5, (.int .i64 af))] ∧ Mem W ag w (H)) ab ⟨_, rfl, _, (GLe.refl _), f.weak ⟨rfl, rfl, rfl, trivial⟩, m⟩ ?_
  clear ab f m
  rintro ae ah ai aj a w ⟨af, rfl, ag, ak, f, m⟩
  have h0 := rd1 ak h0
  refine k_seq (k_seq (k_region ?_))
  refine l_mv f rfl rfl fun a f => l_mv f rfl rfl fun a f => l_len Tryz.underlying42 f rfl rfl h0 fun a f => l_in f rfl rfl rfl b_lss fun a f => l_mv f rfl rfl fun a f => ?_
  obtain ⟨al, am, ai⟩ := bind_some ai
  refine l_cut 7 (fun a w => ∃ an, GLe ag an ∧ Mem W an w (H) ∧ Fr a 46 [(0, v0), (1, (.int .i64 x1)), (5, (.int .i64 af)), (7, (.int .i64 af)), (8, v0), (9, (.int .i64 (x0.length : Int))), (10, (.bool (decide (af < (x0.length : Int))))), (11, (.bool (decide (af < (x0.length : Int))))), (18, (.bool al))]) ?_ ?_
  ·rcases cond_some am with ⟨ao, am⟩ | ⟨ao, am⟩
   ·refine l_run f rfl rfl ao ?_
    refine l_mv f rfl rfl fun a f => l_run f rfl rfl ao ?_
    refine l_mv f rfl rfl fun a f => l_run f rfl rfl ao ?_
    obtain ⟨ap, aq, am⟩ := bind_some am
    refine l_at T42 f rfl rfl rfl h0 aq fun ar au a av aw f => ?_
    subst aw
    refine l_run f rfl rfl ao ?_
    refine l_loadAt m Pl2 f rfl rfl av fun a f => l_run f rfl rfl ao ?_
    refine l_mv f rfl rfl fun a f => l_run f rfl rfl ao ?_
    refine l_in f rfl rfl rfl b_lss fun a f => l_op f rfl rfl rfl (r_pickT (f.eval rfl) ao (f.eval rfl)) fun a f => ?_
    obtain rfl := sj am
    exact ⟨_, (GLe.refl _), m, f.weak ⟨rfl, rfl, rfl, rfl, rfl, rfl, rfl, rfl, rfl, trivial⟩⟩
   ·refine l_not' f rfl rfl rfl ao fun a f => ?_
    refine l_not' f rfl rfl rfl ao fun a f => l_not' f rfl rfl rfl ao fun a f => l_not' f rfl rfl rfl ao fun a f => l_not' f rfl rfl rfl ao fun a f => l_not' f rfl rfl rfl ao fun a f => l_op f rfl rfl rfl (r_pickF (f.eval rfl) ao (f.eval rfl)) fun a f => ?_
    obtain rfl := sj am
    exact ⟨_, (GLe.refl _), m, f.weak ⟨rfl, rfl, rfl, rfl, rfl, rfl, rfl, rfl, rfl, trivial⟩⟩
  ·rintro a w ⟨an, ax, m, f⟩
   have h0 := rd1 ax h0
   refine l_nil ?_
   rcases cond_some ai with ⟨ay, ai⟩ | ⟨ay, ai⟩
   ·refine k_true f rfl ay ?_
    refine k_skip ?_
    refine k_block (k_region ?_)
    refine l_mv f rfl rfl fun a f => l_in f rfl rfl rfl b_add fun a f => l_as f rfl rfl fun a f => l_nil ?_
    obtain rfl := sj ai
    exact ⟨_, rfl, _, rfl, _, (GLe.trans ak ax), f.weak ⟨rfl, rfl, rfl, trivial⟩, m⟩
   ·refine k_false f rfl ay ?_
    refine k_exit rfl ?_
    obtain rfl := sj ai
    obtain rfl := aj _ rfl
    exact ⟨_, rfl, _, (GLe.trans ak ax), f.weak ⟨rfl, rfl, rfl, trivial⟩, m⟩
 ·rintro a w ⟨ac, rfl, ad, az, f, m⟩
  have h0 := rd1 az h0
  refine k_seq (k_seq (k_region ?_))
  refine l_mv f rfl rfl fun a f => l_mv f rfl rfl fun a f => l_len Tryz.underlying42 f rfl rfl h0 fun a f => l_in f rfl rfl rfl b_lss fun a f => l_mv f rfl rfl fun a f => ?_
  obtain ⟨aA, aB, hd⟩ := bind_some hd
  refine l_cut 7 (fun a w => ∃ aC, GLe ad aC ∧ Mem W aC w (H) ∧ Fr a 46 [(0, v0), (1, (.int .i64 x1)), (5, (.int .i64 ac)), (21, (.int .i64 ac)), (22, v0), (23, (.int .i64 (x0.length : Int))), (24, (.bool (decide (ac < (x0.length : Int))))), (25, (.bool (decide (ac < (x0.length : Int))))), (32, (.bool aA))]) ?_ ?_
  ·rcases cond_some aB with ⟨aD, aB⟩ | ⟨aD, aB⟩
   ·refine l_run f rfl rfl aD ?_
    refine l_mv f rfl rfl fun a f => l_run f rfl rfl aD ?_
    refine l_mv f rfl rfl fun a f => l_run f rfl rfl aD ?_
    obtain ⟨aE, aF, aB⟩ := bind_some aB
    refine l_at T42 f rfl rfl rfl h0 aF fun aG aH a aI aJ f => ?_
    subst aJ
    refine l_run f rfl rfl aD ?_
    refine l_loadAt m Pl2 f rfl rfl aI fun a f => l_run f rfl rfl aD ?_
    refine l_mv f rfl rfl fun a f => l_run f rfl rfl aD ?_
    refine l_in f rfl rfl rfl b_eql fun a f => l_op f rfl rfl rfl (r_pickT (f.eval rfl) aD (f.eval rfl)) fun a f => ?_
    obtain rfl := sj aB
    exact ⟨_, (GLe.refl _), m, f.weak ⟨rfl, rfl, rfl, rfl, rfl, rfl, rfl, rfl, rfl, trivial⟩⟩
   ·refine l_not' f rfl rfl rfl aD fun a f => ?_
    refine l_not' f rfl rfl rfl aD fun a f => l_not' f rfl rfl rfl aD fun a f => l_not' f rfl rfl rfl aD fun a f => l_not' f rfl rfl rfl aD fun a f => l_not' f rfl rfl rfl aD fun a f => l_op f rfl rfl rfl (r_pickF (f.eval rfl) aD (f.eval rfl)) fun a f => ?_
    obtain rfl := sj aB
    exact ⟨_, (GLe.refl _), m, f.weak ⟨rfl, rfl, rfl, rfl, rfl, rfl, rfl, rfl, rfl, trivial⟩⟩
  ·rintro a w ⟨aC, aK, m, f⟩
   have h0 := rd1 aK h0
   refine l_nil ?_
   rcases cond_some hd with ⟨aL, hd⟩ | ⟨aL, hd⟩
   ·refine k_true f rfl aL ?_
    refine k_seq (k_region ?_)
    refine l_mv f rfl rfl fun a f => l_as f rfl rfl fun a f => l_nil ?_
    refine k_ret ?_
    obtain rfl := sj hd
    exact ⟨[v0], ⟨f.get _ _ rfl, trivial⟩, f.defers, _, [], (GLe.trans az aK), m, _, rfl, rfl, h0⟩
   ·refine k_false f rfl aL ?_
    refine k_skip ?_
    refine k_seq (k_region ?_)
    refine l_mv f rfl rfl fun a f => l_mv f rfl rfl fun a f => ?_
    obtain ⟨aM, aN, hd⟩ := bind_some hd
    refine l_slice T42 f rfl rfl h0 (.inl ⟨rfl, rfl⟩) (.inr ⟨_, _, rfl, rfl⟩) aN fun aO a aP f => ?_
    obtain ⟨aQ, aR, hd⟩ := bind_some hd
    refine l_res f rfl rfl Tryz.call69 (Wk.p m aP aR) fun aS aT aU w aV m aW a f => ?_
    obtain ⟨aX, aY, rfl, rfl, aZ⟩ := aW
    have h0 := rd1 aV h0
    have aP := rd1 aV aP
    refine l_mv f rfl rfl fun a f => l_slit (R := (RI .i64)) (xs := ([x1] : List Int)) (RI.one _) m T42 f rfl rfl rfl (by decide) (All2.cons rfl (All2.nil _)) fun a0 a1 w a m a2 f => ?_
    obtain ⟨a3, a4, hd⟩ := bind_some hd
    refine l_append (RI.one _) 1 m aZ rfl T42 rfl (by decide) f rfl rfl rfl (Ow.src (j := 0) a2 m rfl) a4 fun a5 a6 w a m a7 f => l_as f rfl rfl fun a f => l_nil (k_seq (k_region ?_))
    refine l_mv f rfl rfl fun a f => l_mv f rfl rfl fun a f => l_mv f rfl rfl fun a f => ?_
    obtain ⟨a8, a9, hd⟩ := bind_some hd
    refine l_slice T42 f rfl rfl h0 (.inr ⟨_, _, rfl, rfl⟩) (.inl ⟨rfl, rfl⟩) a9 fun ba a bb f => ?_
    obtain ⟨bc, bd, hd⟩ := bind_some hd
    refine l_append (RI.one _) 1 m a7 rfl T42 rfl (by decide) f rfl rfl rfl (bb.src m) bd fun be bf w a m bg f => l_as f rfl rfl fun a f => l_nil ?_
    refine k_ret ?_
    have m := m.front 1 rfl
    obtain ⟨bh, bi, m, bj⟩ := Ow.stamp (RI.mono _) bg m
    have h0 := rd1 bi h0
    have a2 := od1 bi a2
    have m : Mem W bh w H := Mem.drop (H' := [a0]) m
    obtain rfl := sj hd
    exact ⟨[bf], ⟨f.get _ _ rfl, trivial⟩, f.defers, _, [], (GLe.trans az (GLe.trans aK (GLe.trans aV bi))), m, _, rfl, rfl, bj⟩

theorem Wk.h0 {W w : World} {G : GH} {H : List Itm} {v0_0 : Value} {v0_1 : Value} {x0_0 : (List (List Int))} {x0_1 : (List (List Int))} {x1 : Int} (m : Mem W G w (H)) (h0_0 : RSl (RSl (RI .i64)) G v0_0 x0_0) (h0_1 : RSl (RSl (RI .i64)) G v0_1 x0_1) {y : ((List Int))} (hd : D.h0 x0_0 x0_1 x1 = some y) :
  Calls Tryz.prog 111 #[(.agg #[v0_0, v0_1]), (.int .i64 x1)] w (Res W G H (fun G' Ho v => ∃ r0 : Value, Ho = [] ∧ r0 = v ∧ RSl (RI .i64) G' r0 y)) := by
 refine calls_b (args := [(.agg #[v0_0, v0_1]), (.int .i64 x1)]) (N := 52) [.tmp 4] Tryz.func111 rfl rfl (Nat.le_of_ble_eq_true rfl) rfl fun a f => ?_
 unfold D.h0 at hd
 refine k_seq (k_region ?_)
 refine l_box (cs := [v0_0, v0_1]) m f rfl rfl rfl fun aa w a m f => l_as f rfl rfl fun a f => l_nil (k_seq (k_region ?_))
 refine l_slit (R := (RI .i64)) (xs := ([] : List Int)) (RI.one _) m T42 f rfl rfl rfl (by decide) (All2.nil _) fun ab ac w a m ad f => l_as f rfl rfl fun a f => l_nil (k_seq (k_seq (k_region ?_)))
 refine l_as f rfl rfl fun a f => l_nil ?_
 obtain ⟨ae, af, m, ag⟩ := Ow.stamp (RI.mono _) ad m
 have h0_0 := rd2 af h0_0
 have h0_1 := rd2 af h0_1
 obtain ⟨ah, ai, hd⟩ := bind_some hd
 refine k_cut (fun a w => ∃ aj : List Int, aj = ah ∧ ∃ (ak : GH) (al : Value), GLe ae ak ∧ Fr a 52 [(5, al)] ∧ Mem W ak w (H) ∧ RSl (RI .i64) ak al aj) ?_ ?_
 ·refine k_block ?_
  refine k_loop (fun am a w => ∃ an : List Int, ∃ ao : Int, (an, ao) = am ∧ ∃ (ap : GH) (aq : Value), GLe ae ap ∧ Fr a 52 [(1, (.int .i64 x1)), (2, (.pointer (some ⟨aa, 0, none⟩))), (5, aq), (6, (.int .i64 ao))] ∧ Mem W ap w (Itm.box aa 27 [v0_0, v0_1] :: H) ∧ RSl (RI .i64) ap aq an) ai ⟨_, _, rfl, _, ac, (GLe.refl _), f.weak ⟨rfl, rfl, rfl, rfl, trivial⟩, m, ag⟩ ?_
  clear ai f m
  rintro am ar au av a w ⟨an, ao, rfl, ap, aq, aw, f, m, ax⟩
  have h0_0 := rd2 aw h0_0
  have h0_1 := rd2 aw h0_1
  refine k_seq (k_seq (k_region ?_))
  refine l_mv f rfl rfl fun a f => l_fieldAddr Tryz.underlying27 rfl Tryz.sizeOf22 (by decide) f rfl rfl fun a f => l_boxCell 0 1 m Pl22 f rfl rfl rfl rfl fun a f => l_len Tryz.underlying22 f rfl rfl h0_1 fun a f => l_in f rfl rfl rfl b_lss fun a f => l_nil ?_
  rcases cond_some au with ⟨ay, au⟩ | ⟨ay, au⟩
  ·refine k_true f rfl ay ?_
   refine k_skip ?_
   refine k_seq (k_block (k_seq (k_seq (k_region ?_))))
   refine l_fieldAddr Tryz.underlying27 rfl Tryz.sizeOf22 (by decide) f rfl rfl fun a f => l_boxCell 0 1 m Pl22 f rfl rfl rfl rfl fun a f => l_mv f rfl rfl fun a f => ?_
   obtain ⟨az, aA, au⟩ := bind_some au
   refine l_at T22 f rfl rfl rfl h0_1 aA fun aB aC a aD aE f => l_loadAt m Pl42 f rfl rfl aD fun a f => ?_
   obtain ⟨aF, aG, au⟩ := bind_some au
   refine l_at T42 f rfl rfl rfl aE aG fun aH aI a aJ aK f => ?_
   subst aK
   refine l_loadAt m Pl2 f rfl rfl aJ fun a f => l_mv f rfl rfl fun a f => l_in f rfl rfl rfl b_eql fun a f => l_nil ?_
   obtain ⟨aL, aM, au⟩ := bind_some au
   refine k_cut (fun a w => ∃ aN : List Int, aN = aL ∧ ∃ (aO : GH) (aP : Value), GLe ap aO ∧ Fr a 52 [(1, (.int .i64 x1)), (2, (.pointer (some ⟨aa, 0, none⟩))), (5, aP), (6, (.int .i64 ao))] ∧ Mem W aO w (Itm.box aa 27 [v0_0, v0_1] :: H) ∧ RSl (RI .i64) aO aP aN) ?_ ?_
   ·rcases cond_some aM with ⟨aQ, aM⟩ | ⟨aQ, aM⟩
    ·refine k_true f rfl aQ ?_
     refine k_region ?_
     refine l_mv f rfl rfl fun a f => l_fieldAddr Tryz.underlying27 rfl Tryz.sizeOf22 (by decide) f rfl rfl fun a f => l_boxCell 0 1 m Pl22 f rfl rfl rfl rfl fun a f => l_mv f rfl rfl fun a f => ?_
     obtain ⟨aR, aS, aM⟩ := bind_some aM
     refine l_at T22 f rfl rfl rfl h0_1 aS fun aT aU a aV aW f => l_loadAt m Pl42 f rfl rfl aV fun a f => ?_
     obtain ⟨aX, aY, aM⟩ := bind_some aM
     refine l_at T42 f rfl rfl rfl aW aY fun aZ a0 a a1 a2 f => ?_
     subst a2
     refine l_loadAt m Pl2 f rfl rfl a1 fun a f => ?_
     obtain ⟨a3, a4, aM⟩ := bind_some aM
     refine l_res f rfl rfl Tryz.call68 (Wk.T m ax a4) fun a5 a6 a7 w a8 m a9 a f => ?_
     obtain ⟨ba, rfl, rfl, bb⟩ := a9
     have ax := rd1 a8 ax
     have h0_1 := rd2 a8 h0_1
     have aV := At.mono a8 aV
     have aW := rd1 a8 aW
     have a1 := At.mono a8 a1
     have h0_0 := rd2 a8 h0_0
     refine l_as f rfl rfl fun a f => l_nil ?_
     obtain rfl := sj aM
     exact ⟨_, rfl, _, ba, a8, f.weak ⟨rfl, rfl, rfl, rfl, trivial⟩, m, bb⟩
    ·refine k_false f rfl aQ ?_
     refine k_skip ?_
     obtain rfl := sj aM
     exact ⟨_, rfl, _, aq, (GLe.refl _), f.weak ⟨rfl, rfl, rfl, rfl, trivial⟩, m, ax⟩
   ·rintro a w ⟨aN, rfl, aO, aP, bc, f, m, bd⟩
    have h0_0 := rd2 bc h0_0
    have h0_1 := rd2 bc h0_1
    refine k_seq (k_region ?_)
    refine l_fieldAddr Tryz.underlying27 rfl Tryz.sizeOf22 (by decide) f rfl rfl fun a f => l_boxCell 0 1 m Pl22 f rfl rfl rfl rfl fun a f => l_mv f rfl rfl fun a f => ?_
    obtain ⟨be, bf, au⟩ := bind_some au
    refine l_at T22 f rfl rfl rfl h0_1 bf fun bg bh a bi bj f => l_loadAt m Pl42 f rfl rfl bi fun a f => ?_
    obtain ⟨bk, bl, au⟩ := bind_some au
    refine l_at T42 f rfl rfl rfl bj bl fun bm bn a bo bp f => ?_
    subst bp
    refine l_loadAt m Pl2 f rfl rfl bo fun a f => l_mv f rfl rfl fun a f => l_in f rfl rfl rfl b_eql fun a f => l_nil ?_
    rcases cond_some au with ⟨bq, au⟩ | ⟨bq, au⟩
    ·refine k_true f rfl bq ?_
     refine k_region ?_
     refine l_mv f rfl rfl fun a f => l_fieldAddr Tryz.underlying27 rfl Tryz.sizeOf22 (by decide) f rfl rfl fun a f => l_boxCell 0 1 m Pl22 f rfl rfl rfl rfl fun a f => l_mv f rfl rfl fun a f => ?_
     obtain ⟨br, bs, au⟩ := bind_some au
     refine l_at T22 f rfl rfl rfl h0_1 bs fun bt bu a bv bw f => l_loadAt m Pl42 f rfl rfl bv fun a f => ?_
     obtain ⟨bx, bz, au⟩ := bind_some au
     refine l_at T42 f rfl rfl rfl bw bz fun bA bB a bC bD f => ?_
     subst bD
     refine l_loadAt m Pl2 f rfl rfl bC fun a f => ?_
     obtain ⟨bE, bF, au⟩ := bind_some au
     refine l_res f rfl rfl Tryz.call68 (Wk.T m bd bF) fun bG bH bI w bJ m bK a f => ?_
     obtain ⟨bL, rfl, rfl, bM⟩ := bK
     have bd := rd1 bJ bd
     have h0_1 := rd2 bJ h0_1
     have bv := At.mono bJ bv
     have bw := rd1 bJ bw
     have bC := At.mono bJ bC
     have h0_0 := rd2 bJ h0_0
     refine l_as f rfl rfl fun a f => l_nil (k_region ?_)
     refine l_mv f rfl rfl fun a f => l_in f rfl rfl rfl b_add fun a f => l_as f rfl rfl fun a f => l_nil ?_
     obtain rfl := sj au
     exact ⟨_, rfl, _, _, rfl, _, bL, (GLe.trans aw (GLe.trans bc bJ)), f.weak ⟨rfl, rfl, rfl, rfl, trivial⟩, m, bM⟩
    ·refine k_false f rfl bq ?_
     refine k_skip ?_
     refine k_region ?_
     refine l_mv f rfl rfl fun a f => l_in f rfl rfl rfl b_add fun a f => l_as f rfl rfl fun a f => l_nil ?_
     obtain rfl := sj au
     exact ⟨_, rfl, _, _, rfl, _, aP, (GLe.trans aw bc), f.weak ⟨rfl, rfl, rfl, rfl, trivial⟩, m, bd⟩
  ·refine k_false f rfl ay ?_
   refine k_exit rfl ?_
   have m : Mem W ap w H := Mem.drop (H' := [Itm.box aa 27 [v0_0, v0_1]]) m
   obtain rfl := sj au
   obtain rfl := av _ rfl
   exact ⟨_, rfl, _, aq, aw, f.weak ⟨rfl, trivial⟩, m, ax⟩
 ·rintro a w ⟨aj, rfl, ak, al, bN, f, m, bO⟩
  refine k_seq (k_region ?_)
  refine l_mv f rfl rfl fun a f => l_as f rfl rfl fun a f => l_nil ?_
  refine k_ret ?_
  obtain rfl := sj hd
  exact ⟨[al], ⟨f.get _ _ rfl, trivial⟩, f.defers, _, [], (GLe.trans af bN), m, _, rfl, rfl, bO⟩

theorem Wk.s {W w : World} {G : GH} {H : List Itm} {v0 : Value} {v1 : Value} {x0 : (List Int)} {x1 : (List Int)} (m : Mem W G w (H)) (h0 : RSl (RI .i64) G v0 x0) (h1 : RSl (RI .i64) G v1 x1) {y : ((List Int))} (hd : D.s x0 x1 = some y) :
  Calls Tryz.prog 44 #[v0, v1] w (Res W G H (fun G' Ho v => ∃ r0 : Value, ∃ i0 : Itm, Ho = [i0] ∧ r0 = v ∧ Ow (RI .i64) 2 G' i0 r0 y)) := by
 refine calls_b (args := [v0, v1]) (N := 28) [.tmp 4] Tryz.func44 rfl rfl (Nat.le_of_ble_eq_true rfl) rfl fun a f => ?_
 unfold D.s at hd
 refine k_seq (k_region ?_)
 refine l_as f rfl rfl fun a f => l_nil (k_seq (k_region ?_))
 refine l_slit (R := (RI .i64)) (xs := ([] : List Int)) (RI.one _) m T42 f rfl rfl rfl (by decide) (All2.nil _) fun aa ab w a m ac f => l_as f rfl rfl fun a f => l_nil (k_seq (k_seq (k_region ?_)))
 refine l_as f rfl rfl fun a f => l_nil ?_
 obtain ⟨ad, ae, hd⟩ := bind_some hd
 refine k_cut (fun a w => ∃ af : List Int, af = ad ∧ ∃ (ag : GH) (ah : Value) (ai : Itm), GLe G ag ∧ Fr a 28 [(5, ah)] ∧ Mem W ag w (ai :: H) ∧ Ow (RI .i64) 2 ag ai ah af) ?_ ?_
 ·refine k_block ?_
  refine k_loop (fun aj a w => ∃ ak : List Int, ∃ al : Int, (ak, al) = aj ∧ ∃ (am : GH) (an : Value) (ao : Itm), GLe G am ∧ Fr a 28 [(0, v0), (1, v1), (5, an), (6, (.int .i64 al))] ∧ Mem W am w (ao :: H) ∧ Ow (RI .i64) 2 am ao an ak) ae ⟨_, _, rfl, _, ab, aa, (GLe.refl _), f.weak ⟨rfl, rfl, rfl, rfl, trivial⟩, m, ac⟩ ?_
  clear ae f m
  rintro aj ap aq ar a w ⟨ak, al, rfl, am, an, ao, au, f, m, av⟩
  have h0 := rd1 au h0
  have h1 := rd1 au h1
  refine k_seq (k_seq (k_region ?_))
  refine l_mv f rfl rfl fun a f => l_mv f rfl rfl fun a f => l_len Tryz.underlying42 f rfl rfl h0 fun a f => l_in f rfl rfl rfl b_lss fun a f => l_nil ?_
  rcases cond_some aq with ⟨aw, aq⟩ | ⟨aw, aq⟩
  ·refine k_true f rfl aw ?_
   refine k_skip ?_
   refine k_seq (k_block (k_seq (k_region ?_)))
   refine l_mv f rfl rfl fun a f => l_mv f rfl rfl fun a f => l_mv f rfl rfl fun a f => ?_
   obtain ⟨ax, ay, aq⟩ := bind_some aq
   refine l_at T42 f rfl rfl rfl h0 ay fun az aA a aB aC f => ?_
   subst aC
   refine l_loadAt m Pl2 f rfl rfl aB fun a f => ?_
   obtain ⟨aD, aE, aq⟩ := bind_some aq
   refine l_res f rfl rfl Tryz.call70 (Wk.h m h1 aE) fun aF aG aH w aI m aJ a f => ?_
   obtain ⟨rfl, rfl⟩ := aJ
   have h0 := rd1 aI h0
   have h1 := rd1 aI h1
   have aB := At.mono aI aB
   have av := od1 aI av
   refine l_nil ?_
   rcases cond_some aq with ⟨aK, aq⟩ | ⟨aK, aq⟩
   ·refine k_true f rfl aK ?_
    refine k_region ?_
    refine l_mv f rfl rfl fun a f => l_mv f rfl rfl fun a f => l_mv f rfl rfl fun a f => ?_
    obtain ⟨aL, aM, aq⟩ := bind_some aq
    refine l_at T42 f rfl rfl rfl h0 aM fun aN aO a aP aQ f => ?_
    subst aQ
    refine l_loadAt m Pl2 f rfl rfl aP fun a f => l_slit (R := (RI .i64)) (xs := ([aL] : List Int)) (RI.one _) m T42 f rfl rfl rfl (by decide) (All2.cons rfl (All2.nil _)) fun aR aS w a m aT f => ?_
    obtain ⟨aU, aV, aq⟩ := bind_some aq
    refine l_append (RI.one _) 1 m av rfl T42 rfl (by decide) f rfl rfl rfl (Ow.src (j := 0) aT m rfl) aV fun aW aX w a m aY f => l_as f rfl rfl fun a f => l_nil (k_region ?_)
    refine l_mv f rfl rfl fun a f => l_in f rfl rfl rfl b_add fun a f => l_as f rfl rfl fun a f => l_nil ?_
    have m := m.front 1 rfl
    have m := m.eraseAt 1
    obtain rfl := sj aq
    exact ⟨_, rfl, _, _, rfl, _, aX, aW, (GLe.trans au aI), f.weak ⟨rfl, rfl, rfl, rfl, trivial⟩, m, aY⟩
   ·refine k_false f rfl aK ?_
    refine k_skip ?_
    refine k_region ?_
    refine l_mv f rfl rfl fun a f => l_in f rfl rfl rfl b_add fun a f => l_as f rfl rfl fun a f => l_nil ?_
    obtain rfl := sj aq
    exact ⟨_, rfl, _, _, rfl, _, an, ao, (GLe.trans au aI), f.weak ⟨rfl, rfl, rfl, rfl, trivial⟩, m, av⟩
  ·refine k_false f rfl aw ?_
   refine k_exit rfl ?_
   obtain rfl := sj aq
   obtain rfl := ar _ rfl
   exact ⟨_, rfl, _, an, ao, au, f.weak ⟨rfl, trivial⟩, m, av⟩
 ·rintro a w ⟨af, rfl, ag, ah, ai, aZ, f, m, a0⟩
  refine k_seq (k_region ?_)
  refine l_mv f rfl rfl fun a f => l_as f rfl rfl fun a f => l_nil ?_
  refine k_ret ?_
  obtain rfl := sj hd
  exact ⟨[ah], ⟨f.get _ _ rfl, trivial⟩, f.defers, _, [ai], aZ, m, _, _, rfl, rfl, a0⟩

end Go.Proofs.YtebbefpdncgoiaaGreatDoor

set_option maxRecDepth 100000
namespace Go.Proofs.YtebbefpdncgoiaaGreatDoor
open Go Go.Sx
theorem T73 : SlT Tryz.prog 73 76 1 4 (.int .u32 0) := ⟨Tryz.underlying73, Tryz.t76, by kernel_rfl, by kernel_rfl, by kernel_rfl, by kernel_rfl⟩
theorem Pl76 : Plain Tryz.prog 76 := Tryz.isAgg76

theorem Wk.D0 {W w : World} {G : GH} {H : List Itm} {x0 : Int} {x1 : Int} (m : Mem W G w (H))  {y : Int} (hd : D.D0 x0 x1 = some y) :
  Calls Tryz.prog 112 #[(.int .i64 x0), (.int .i64 x1)] w (Res W G H (fun _ Ho v => Ho = [] ∧ v = (.int .i64 y))) := by
 refine calls_b (args := [(.int .i64 x0), (.int .i64 x1)]) (N := 10) [.tmp 4] Tryz.func112 rfl rfl (Nat.le_of_ble_eq_true rfl) rfl fun a f => ?_
 unfold D.D0 at hd
 refine k_seq (k_region ?_)
 refine l_as f rfl rfl fun a f => l_nil (k_seq (k_seq (k_region ?_)))
 refine l_mv f rfl rfl fun a f => l_mv f rfl rfl fun a f => l_in f rfl rfl rfl b_lss fun a f => l_nil ?_
 rcases cond_some hd with ⟨aa, hd⟩ | ⟨aa, hd⟩
 ·refine k_true f rfl aa ?_
  refine k_seq (k_region ?_)
  refine l_mv f rfl rfl fun a f => l_as f rfl rfl fun a f => l_nil ?_
  refine k_ret ?_
  obtain rfl := sj hd
  exact ⟨[(.int .i64 x0)], ⟨f.get _ _ rfl, trivial⟩, f.defers, _, [], (GLe.refl _), m, rfl, rfl⟩
 ·refine k_false f rfl aa ?_
  refine k_skip ?_
  refine k_seq (k_region ?_)
  refine l_mv f rfl rfl fun a f => l_as f rfl rfl fun a f => l_nil ?_
  refine k_ret ?_
  obtain rfl := sj hd
  exact ⟨[(.int .i64 x1)], ⟨f.get _ _ rfl, trivial⟩, f.defers, _, [], (GLe.refl _), m, rfl, rfl⟩

theorem Wk.J0 {W w : World} {G : GH} {H : List Itm} {x0 : Int} {x1 : Int} (m : Mem W G w (H))  {y : Int} (hd : D.J0 x0 x1 = some y) :
  Calls Tryz.prog 102 #[(.int .i64 x0), (.int .i64 x1)] w (Res W G H (fun _ Ho v => Ho = [] ∧ v = (.int .i64 y))) := by
 refine calls_b (args := [(.int .i64 x0), (.int .i64 x1)]) (N := 10) [.tmp 4] Tryz.func102 rfl rfl (Nat.le_of_ble_eq_true rfl) rfl fun a f => ?_
 unfold D.J0 at hd
 refine k_seq (k_region ?_)
 refine l_as f rfl rfl fun a f => l_nil (k_seq (k_seq (k_region ?_)))
 refine l_mv f rfl rfl fun a f => l_mv f rfl rfl fun a f => l_in f rfl rfl rfl b_gtr fun a f => l_nil ?_
 rcases cond_some hd with ⟨aa, hd⟩ | ⟨aa, hd⟩
 ·refine k_true f rfl aa ?_
  refine k_seq (k_region ?_)
  refine l_mv f rfl rfl fun a f => l_as f rfl rfl fun a f => l_nil ?_
  refine k_ret ?_
  obtain rfl := sj hd
  exact ⟨[(.int .i64 x0)], ⟨f.get _ _ rfl, trivial⟩, f.defers, _, [], (GLe.refl _), m, rfl, rfl⟩
 ·refine k_false f rfl aa ?_
  refine k_skip ?_
  refine k_seq (k_region ?_)
  refine l_mv f rfl rfl fun a f => l_as f rfl rfl fun a f => l_nil ?_
  refine k_ret ?_
  obtain rfl := sj hd
  exact ⟨[(.int .i64 x1)], ⟨f.get _ _ rfl, trivial⟩, f.defers, _, [], (GLe.refl _), m, rfl, rfl⟩

theorem Wk.P {W w : World} {G : GH} {H : List Itm} {v0 : Value} {v1 : Value} {x0 : (List Int)} {x1 : (List Int)} (m : Mem W G w (H)) (h0 : RSl (RI .i64) G v0 x0) (h1 : RSl (RI .i64) G v1 x1) {y : Bool} (hd : D.P x0 x1 = some y) :
  Calls Tryz.prog 113 #[v0, v1] w (Res W G H (fun _ Ho v => Ho = [] ∧ v = (.bool y))) := by
 refine calls_b (args := [v0, v1]) (N := 40) [.tmp 4] Tryz.func113 rfl rfl (Nat.le_of_ble_eq_true rfl) rfl fun a f => ?_
 unfold D.P at hd
 refine k_seq (k_region ?_)
 refine l_as f rfl rfl fun a f => l_nil (k_seq (k_seq (k_region ?_)))
 refine l_mv f rfl rfl fun a f => l_len Tryz.underlying42 f rfl rfl h0 fun a f => l_mv f rfl rfl fun a f => l_len Tryz.underlying42 f rfl rfl h1 fun a f => l_in f rfl rfl rfl b_neq fun a f => l_nil ?_
 rcases cond_some hd with ⟨aa, hd⟩ | ⟨aa, hd⟩
 ·refine k_true f rfl aa ?_
  refine k_seq (k_region ?_)
  refine l_mv f rfl rfl fun a f => l_len Tryz.underlying42 f rfl rfl h0 fun a f => l_mv f rfl rfl fun a f => l_len Tryz.underlying42 f rfl rfl h1 fun a f => l_in f rfl rfl rfl b_lss fun a f => l_as f rfl rfl fun a f => l_nil ?_
  refine k_ret ?_
  obtain rfl := sj hd
  exact ⟨[(.bool (decide ((x0.length : Int) < (x1.length : Int))))], ⟨f.get _ _ rfl, trivial⟩, f.defers, _, [], (GLe.refl _), m, rfl, rfl⟩
 ·refine k_false f rfl aa ?_
  refine k_skip ?_
  refine k_seq (k_seq (k_region ?_))
  refine l_as f rfl rfl fun a f => l_nil ?_
  obtain ⟨ab, ac, hd⟩ := bind_some hd
  refine k_cut (fun a w => ∃ q_64' : Unit, ab = .inl q_64' ∧ ∃ (ad : GH), GLe G ad ∧ Fr a 40 [] ∧ Mem W ad w (H)) ?_ ?_
  ·refine k_block ?_
   refine k_loop (fun ae a w => ∃ af : Int, af = ae ∧ ∃ (ag : GH), GLe G ag ∧ Fr a 40 [(0, v0), (1, v1), (5, (.int .i64 af))] ∧ Mem W ag w (H)) ac ⟨_, rfl, _, (GLe.refl _), f.weak ⟨rfl, rfl, rfl, trivial⟩, m⟩ ?_
   clear ac f m
   rintro ae ah ai aj a w ⟨af, rfl, ag, ak, f, m⟩
   have h0 := rd1 ak h0
   have h1 := rd1 ak h1
   refine k_seq (k_seq (k_region ?_))
   refine l_mv f rfl rfl fun a f => l_mv f rfl rfl fun a f => l_len Tryz.underlying42 f rfl rfl h0 fun a f => l_in f rfl rfl rfl b_lss fun a f => l_nil ?_
   rcases cond_some ai with ⟨al, ai⟩ | ⟨al, ai⟩
   ·refine k_true f rfl al ?_
    refine k_skip ?_
    refine k_seq (k_block (k_seq ?_))
    refine k_draw 9 Follows (by kernel_rfl) m ?_
    refine q_mv 0 9 rfl (by kernel_rfl) f rfl rfl rfl fun a f => q_mv 1 9 rfl (by kernel_rfl) f rfl rfl rfl fun a f => ?_
    obtain ⟨am, an, ai⟩ := bind_some ai
    refine q_at (i := 2) 9 T42 h0 an rfl (by kernel_rfl) rfl f rfl rfl rfl rfl fun ao ap a aq ar f => ?_
    subst ar
    refine q_loadAt (i := 3) 9 Pl2 aq rfl (by kernel_rfl) rfl f rfl rfl rfl fun a f => q_mv 4 9 rfl (by kernel_rfl) f rfl rfl rfl fun a f => q_mv 5 9 rfl (by kernel_rfl) f rfl rfl rfl fun a f => ?_
    obtain ⟨au, av, ai⟩ := bind_some ai
    refine q_at (i := 6) 9 T42 h1 av rfl (by kernel_rfl) rfl f rfl rfl rfl rfl fun aw ax a ay az f => ?_
    subst az
    refine q_loadAt (i := 7) 9 Pl2 ay rfl (by kernel_rfl) rfl f rfl rfl rfl fun a f => q_p 8 9 rfl (by kernel_rfl) f rfl rfl rfl (fun _ => r_int (f.eval rfl) (f.eval rfl) b_neq) fun a f => q_end fun aA w aB m => ?_
    have h0 := rd1 aB h0
    have h1 := rd1 aB h1
    have aq := At.mono aB aq
    have ay := At.mono aB ay
    refine l_nil ?_
    rcases cond_some ai with ⟨aC, ai⟩ | ⟨aC, ai⟩
    ·refine k_true f rfl aC ?_
     refine k_seq ?_
     refine k_draw 10 Follows (by kernel_rfl) m ?_
     refine q_mv 0 10 rfl (by kernel_rfl) f rfl rfl rfl fun a f => q_mv 1 10 rfl (by kernel_rfl) f rfl rfl rfl fun a f => ?_
     obtain ⟨aD, aE, ai⟩ := bind_some ai
     refine q_at (i := 2) 10 T42 h0 aE rfl (by kernel_rfl) rfl f rfl rfl rfl rfl fun aF aG a aH aI f => ?_
     subst aI
     refine q_loadAt (i := 3) 10 Pl2 aH rfl (by kernel_rfl) rfl f rfl rfl rfl fun a f => q_mv 4 10 rfl (by kernel_rfl) f rfl rfl rfl fun a f => q_mv 5 10 rfl (by kernel_rfl) f rfl rfl rfl fun a f => ?_
     obtain ⟨aJ, aK, ai⟩ := bind_some ai
     refine q_at (i := 6) 10 T42 h1 aK rfl (by kernel_rfl) rfl f rfl rfl rfl rfl fun aL aM a aN aO f => ?_
     subst aO
     refine q_loadAt (i := 7) 10 Pl2 aN rfl (by kernel_rfl) rfl f rfl rfl rfl fun a f => q_p 8 10 rfl (by kernel_rfl) f rfl rfl rfl (fun _ => r_int (f.eval rfl) (f.eval rfl) b_lss) fun a f => q_p 9 10 rfl (by kernel_rfl) f rfl rfl rfl (fun _ => r_assign (f.eval rfl)) fun a f => q_end fun aP w aQ m => ?_
     have h0 := rd1 aQ h0
     have h1 := rd1 aQ h1
     have aH := At.mono aQ aH
     have aN := At.mono aQ aN
     refine l_nil ?_
     refine k_ret ?_
     obtain rfl := sj ai
     obtain rfl := aj _ rfl
     obtain rfl := sj hd
     exact ⟨[(.bool (decide (aD < aJ)))], ⟨f.get _ _ rfl, trivial⟩, f.defers, _, [], (GLe.trans ak (GLe.trans aB aQ)), m, rfl, rfl⟩
    ·refine k_false f rfl aC ?_
     refine k_skip ?_
     refine k_region ?_
     refine l_mv f rfl rfl fun a f => l_in f rfl rfl rfl b_add fun a f => l_as f rfl rfl fun a f => l_nil ?_
     obtain rfl := sj ai
     exact ⟨_, rfl, _, rfl, _, (GLe.trans ak aB), f.weak ⟨rfl, rfl, rfl, trivial⟩, m⟩
   ·refine k_false f rfl al ?_
    refine k_exit rfl ?_
    obtain rfl := sj ai
    obtain rfl := aj _ rfl
    exact ⟨_, rfl, _, ak, f.weak trivial, m⟩
  ·rintro a w ⟨_, rfl, ad, aR, f, m⟩
   refine k_seq (k_region ?_)
   refine l_as f rfl rfl fun a f => l_nil ?_
   refine k_ret ?_
   obtain rfl := sj hd
   exact ⟨[(.bool false)], ⟨f.get _ _ rfl, trivial⟩, f.defers, _, [], aR, m, rfl, rfl⟩

theorem Wk.J {W w : World} {G : GH} {H : List Itm} {v0 : Value} {x0 : (List (List Int))} {x1 : Int} {x2 : Int} (m : Mem W G w (H)) (h0 : RSl (RSl (RI .i64)) G v0 x0) {y : ((List (List Int)))} (hd : D.J x0 x1 x2 = some y) :
  Calls Tryz.prog 46 #[v0, (.int .i64 x1), (.int .i64 x2)] w (Res W G H (fun G' Ho v => ∃ r0 : Value, ∃ i0 : Itm, Ho = [i0] ∧ r0 = v ∧ Ow (RSl (RI .i64)) 42 G' i0 r0 y)) := by
 refine calls_b (args := [v0, (.int .i64 x1), (.int .i64 x2)]) (N := 53) [.tmp 6] Tryz.func46 rfl rfl (Nat.le_of_ble_eq_true rfl) rfl fun a f => ?_
 unfold D.J at hd
 refine k_seq (k_region ?_)
 refine l_as f rfl rfl fun a f => l_nil (k_seq (k_region ?_))
 refine l_mv f rfl rfl fun a f => l_mv f rfl rfl fun a f => ?_
 obtain ⟨aa, ab, hd⟩ := bind_some hd
 refine l_res f rfl rfl Tryz.call112 (Wk.D0 m  ab) fun ac ad ae w af m ag a f => ?_
 obtain ⟨rfl, rfl⟩ := ag
 have h0 := rd2 af h0
 refine l_mv f rfl rfl fun a f => l_mv f rfl rfl fun a f => ?_
 obtain ⟨ah, ai, hd⟩ := bind_some hd
 refine l_res f rfl rfl Tryz.call102 (Wk.J0 m  ai) fun aj ak al w am m an a f => ?_
 obtain ⟨rfl, rfl⟩ := an
 have h0 := rd2 am h0
 refine l_slit (R := (RI .i64)) (xs := ([aa, ah] : List Int)) (RI.one _) m T42 f rfl rfl rfl (by decide) (All2.cons rfl (All2.cons rfl (All2.nil _))) fun ao ap w a m aq f => l_as f rfl rfl fun a f => l_nil (k_seq (k_region ?_))
 refine l_slit (R := (RSl (RI .i64))) (xs := ([] : List (List Int))) (RSl.one _) m T22 f rfl rfl rfl (by decide) (All2.nil _) fun ar au w a m av f => l_as f rfl rfl fun a f => l_nil (k_seq (k_region ?_))
 refine l_as f rfl rfl fun a f => l_nil (k_seq (k_seq (k_region ?_)))
 refine l_as f rfl rfl fun a f => l_nil ?_
 have m := m.front 1 rfl
 obtain ⟨aw, ax, m, ay⟩ := Ow.stamp (RI.mono _) aq m
 have h0 := rd2 ax h0
 have av := Ow.mono (RSl.mono (RI.mono _)) ax av
 obtain ⟨az, aA, hd⟩ := bind_some hd
 refine k_cut (fun a w => ∃ aB : List Int, ∃ aC : List (List Int), ∃ aD : Bool, (aB, aC, aD) = az ∧ ∃ (aE : GH) (aF : Value) (aG : Value) (aH : Itm), GLe aw aE ∧ Fr a 53 [(7, aF), (8, aG), (9, (.bool aD))] ∧ Mem W aE w (aH :: H) ∧ RSl (RI .i64) aE aF aB ∧ Ow (RSl (RI .i64)) 42 aE aH aG aC) ?_ ?_
 ·refine k_block ?_
  refine k_loop (fun aI a w => ∃ aJ : List Int, ∃ aK : List (List Int), ∃ aL : Bool, ∃ aM : Int, (aJ, aK, aL, aM) = aI ∧ ∃ (aN : GH) (aO : Value) (aP : Value) (aQ : Itm), GLe aw aN ∧ Fr a 53 [(0, v0), (7, aO), (8, aP), (9, (.bool aL)), (10, (.int .i64 aM))] ∧ Mem W aN w (aQ :: H) ∧ RSl (RI .i64) aN aO aJ ∧ Ow (RSl (RI .i64)) 42 aN aQ aP aK) aA ⟨_, _, _, _, rfl, _, ap, au, ar, (GLe.refl _), f.weak ⟨rfl, rfl, rfl, rfl, rfl, trivial⟩, m, ay, av⟩ ?_
  clear aA f m
  rintro aI aR aS aT a w ⟨aJ, aK, aL, aM, rfl, aN, aO, aP, aQ, aU, f, m, aV, aW⟩
  have h0 := rd2 aU h0
  refine k_seq (k_seq (k_region ?_))
  refine l_mv f rfl rfl fun a f => l_mv f rfl rfl fun a f => l_len Tryz.underlying22 f rfl rfl h0 fun a f => l_in f rfl rfl rfl b_lss fun a f => l_nil ?_
  rcases cond_some aS with ⟨aX, aS⟩ | ⟨aX, aS⟩
  ·refine k_true f rfl aX ?_
   refine k_skip ?_
   refine k_seq (k_block (k_seq (k_seq (k_region ?_))))
   refine l_mv f rfl rfl fun a f => l_op f rfl rfl rfl (r_not (f.eval rfl)) fun a f => l_mv f rfl rfl fun a f => ?_
   obtain ⟨aY, aZ, aS⟩ := bind_some aS
   refine l_cut 7 (fun a w => ∃ a0, GLe aN a0 ∧ Mem W a0 w (aQ :: H) ∧ Fr a 53 [(0, v0), (7, aO), (8, aP), (9, (.bool aL)), (10, (.int .i64 aM)), (22, (.bool (decide (aM < (x0.length : Int))))), (25, (.bool aL)), (26, (.bool (!aL))), (27, (.bool (!aL))), (34, (.bool aY))]) ?_ ?_
   ·rcases cond_some aZ with ⟨a1, aZ⟩ | ⟨a1, aZ⟩
    ·refine l_run f rfl rfl a1 ?_
     refine l_mv f rfl rfl fun a f => l_run f rfl rfl a1 ?_
     refine l_mv f rfl rfl fun a f => l_run f rfl rfl a1 ?_
     refine l_mv f rfl rfl fun a f => l_run f rfl rfl a1 ?_
     obtain ⟨a2, a3, aZ⟩ := bind_some aZ
     refine l_at T22 f rfl rfl rfl h0 a3 fun a4 a5 a a6 a7 f => l_run f rfl rfl a1 ?_
     refine l_loadAt m Pl42 f rfl rfl a6 fun a f => l_run f rfl rfl a1 ?_
     obtain ⟨a8, a9, aZ⟩ := bind_some aZ
     refine l_res f rfl rfl Tryz.call113 (Wk.P m aV a7 a9) fun ba bb bc w bd m be a f => ?_
     obtain ⟨rfl, rfl⟩ := be
     have h0 := rd2 bd h0
     have aV := rd1 bd aV
     have a6 := At.mono bd a6
     have a7 := rd1 bd a7
     have aW := Ow.mono (RSl.mono (RI.mono _)) bd aW
     refine l_op f rfl rfl rfl (r_pickT (f.eval rfl) a1 (f.eval rfl)) fun a f => ?_
     obtain rfl := sj aZ
     exact ⟨_, bd, m, f.weak ⟨rfl, rfl, rfl, rfl, rfl, rfl, rfl, rfl, rfl, rfl, trivial⟩⟩
    ·refine l_not' f rfl rfl rfl a1 fun a f => ?_
     refine l_not' f rfl rfl rfl a1 fun a f => l_not' f rfl rfl rfl a1 fun a f => l_not' f rfl rfl rfl a1 fun a f => l_not' f rfl rfl rfl a1 fun a f => l_not' f rfl rfl rfl a1 fun a f => l_op f rfl rfl rfl (r_pickF (f.eval rfl) a1 (f.eval rfl)) fun a f => ?_
     obtain rfl := sj aZ
     exact ⟨_, (GLe.refl _), m, f.weak ⟨rfl, rfl, rfl, rfl, rfl, rfl, rfl, rfl, rfl, rfl, trivial⟩⟩
   ·rintro a w ⟨a0, bf, m, f⟩
    have h0 := rd2 bf h0
    have aV := rd1 bf aV
    have aW := Ow.mono (RSl.mono (RI.mono _)) bf aW
    refine l_nil ?_
    rcases cond_some aS with ⟨bg, aS⟩ | ⟨bg, aS⟩
    ·refine k_true f rfl bg ?_
     refine k_seq (k_region ?_)
     refine l_mv f rfl rfl fun a f => l_mv f rfl rfl fun a f => l_slit (R := (RSl (RI .i64))) (xs := ([aJ] : List (List Int))) (RSl.one _) m T22 f rfl rfl rfl (by decide) (All2.cons aV (All2.nil _)) fun bh bi w a m bj f => ?_
     obtain ⟨bk, bl, aS⟩ := bind_some aS
     refine l_append (RSl.one _) 1 m aW rfl T22 rfl (by decide) f rfl rfl rfl (Ow.src (j := 0) bj m rfl) bl fun bm bn w a m bo f => l_as f rfl rfl fun a f => l_nil (k_region ?_)
     refine l_as f rfl rfl fun a f => l_nil (k_region ?_)
     refine l_mv f rfl rfl fun a f => l_mv f rfl rfl fun a f => l_mv f rfl rfl fun a f => ?_
     obtain ⟨bp, bq, aS⟩ := bind_some aS
     refine l_at T22 f rfl rfl rfl h0 bq fun br bs a bt bu f => l_loadAt m Pl42 f rfl rfl bt fun a f => l_slit (R := (RSl (RI .i64))) (xs := ([bp] : List (List Int))) (RSl.one _) m T22 f rfl rfl rfl (by decide) (All2.cons bu (All2.nil _)) fun bv bw w a m bx f => ?_
     obtain ⟨bz, bA, aS⟩ := bind_some aS
     refine l_append (RSl.one _) 2 m bo rfl T22 rfl (by decide) f rfl rfl rfl (Ow.src (j := 0) bx m rfl) bA fun bB bC w a m bD f => l_as f rfl rfl fun a f => l_nil (k_region ?_)
     refine l_mv f rfl rfl fun a f => l_in f rfl rfl rfl b_add fun a f => l_as f rfl rfl fun a f => l_nil ?_
     have m := m.front 2 rfl
     have m := m.eraseAt 2
     have m := m.eraseAt 1
     obtain rfl := sj aS
     exact ⟨_, rfl, _, _, _, _, rfl, _, aO, bC, bB, (GLe.trans aU bf), f.weak ⟨rfl, rfl, rfl, rfl, rfl, trivial⟩, m, aV, bD⟩
    ·refine k_false f rfl bg ?_
     refine k_skip ?_
     refine k_region ?_
     refine l_mv f rfl rfl fun a f => l_mv f rfl rfl fun a f => l_mv f rfl rfl fun a f => ?_
     obtain ⟨bE, bF, aS⟩ := bind_some aS
     refine l_at T22 f rfl rfl rfl h0 bF fun bG bH a bI bJ f => l_loadAt m Pl42 f rfl rfl bI fun a f => l_slit (R := (RSl (RI .i64))) (xs := ([bE] : List (List Int))) (RSl.one _) m T22 f rfl rfl rfl (by decide) (All2.cons bJ (All2.nil _)) fun bK bL w a m bM f => ?_
     obtain ⟨bN, bO, aS⟩ := bind_some aS
     refine l_append (RSl.one _) 1 m aW rfl T22 rfl (by decide) f rfl rfl rfl (Ow.src (j := 0) bM m rfl) bO fun bP bQ w a m bR f => l_as f rfl rfl fun a f => l_nil (k_region ?_)
     refine l_mv f rfl rfl fun a f => l_in f rfl rfl rfl b_add fun a f => l_as f rfl rfl fun a f => l_nil ?_
     have m := m.front 1 rfl
     have m := m.eraseAt 1
     obtain rfl := sj aS
     exact ⟨_, rfl, _, _, _, _, rfl, _, aO, bQ, bP, (GLe.trans aU bf), f.weak ⟨rfl, rfl, rfl, rfl, rfl, trivial⟩, m, aV, bR⟩
  ·refine k_false f rfl aX ?_
   refine k_exit rfl ?_
   obtain rfl := sj aS
   obtain rfl := aT _ rfl
   exact ⟨_, _, _, rfl, _, aO, aP, aQ, aU, f.weak ⟨rfl, rfl, rfl, trivial⟩, m, aV, aW⟩
 ·rintro a w ⟨aB, aC, aD, rfl, aE, aF, aG, aH, bS, f, m, bT, bU⟩
  refine k_seq (k_seq (k_region ?_))
  refine l_mv f rfl rfl fun a f => l_op f rfl rfl rfl (r_not (f.eval rfl)) fun a f => l_nil ?_
  rcases cond_some hd with ⟨bV, hd⟩ | ⟨bV, hd⟩
  ·refine k_true f rfl bV ?_
   refine k_region ?_
   refine l_mv f rfl rfl fun a f => l_mv f rfl rfl fun a f => l_slit (R := (RSl (RI .i64))) (xs := ([aB] : List (List Int))) (RSl.one _) m T22 f rfl rfl rfl (by decide) (All2.cons bT (All2.nil _)) fun bW bX w a m bY f => ?_
   obtain ⟨bZ, b0, hd⟩ := bind_some hd
   refine l_append (RSl.one _) 1 m bU rfl T22 rfl (by decide) f rfl rfl rfl (Ow.src (j := 0) bY m rfl) b0 fun b1 b2 w a m b3 f => l_as f rfl rfl fun a f => l_nil (k_seq (k_region ?_))
   refine l_mv f rfl rfl fun a f => l_as f rfl rfl fun a f => l_nil ?_
   refine k_ret ?_
   have m := m.front 1 rfl
   have m := m.eraseAt 1
   obtain rfl := sj hd
   exact ⟨[b2], ⟨f.get _ _ rfl, trivial⟩, f.defers, _, [b1], (GLe.trans af (GLe.trans am (GLe.trans ax bS))), m, _, _, rfl, rfl, b3⟩
  ·refine k_false f rfl bV ?_
   refine k_skip ?_
   refine k_seq (k_region ?_)
   refine l_mv f rfl rfl fun a f => l_as f rfl rfl fun a f => l_nil ?_
   refine k_ret ?_
   obtain rfl := sj hd
   exact ⟨[aG], ⟨f.get _ _ rfl, trivial⟩, f.defers, _, [aH], (GLe.trans af (GLe.trans am (GLe.trans ax bS))), m, _, _, rfl, rfl, bU⟩

theorem Wk.S0 {W w : World} {G : GH} {H : List Itm} {x0 : Int} {x1 : Int} {x2 : Int} (m : Mem W G w (H))  {y : Bool} (hd : D.S0 x0 x1 x2 = some y) :
  Calls Tryz.prog 146 #[(.int .i64 x0), (.int .i64 x1), (.int .i64 x2)] w (Res W G H (fun _ Ho v => Ho = [] ∧ v = (.bool y))) := by
 refine calls_b (args := [(.int .i64 x0), (.int .i64 x1), (.int .i64 x2)]) (N := 15) [.tmp 6] Tryz.func146 rfl rfl (Nat.le_of_ble_eq_true rfl) rfl fun a f => ?_
 unfold D.S0 at hd
 refine k_seq (k_region ?_)
 refine l_as f rfl rfl fun a f => l_nil (k_seq (k_region ?_))
 refine l_mv f rfl rfl fun a f => l_mv f rfl rfl fun a f => l_in f rfl rfl rfl b_leq fun a f => l_mv f rfl rfl fun a f => ?_
 refine l_cut 4 (fun a w => ∃ aa, GLe G aa ∧ Mem W aa w (H) ∧ Fr a 15 [(0, (.int .i64 x0)), (1, (.int .i64 x1)), (2, (.int .i64 x2)), (7, (.int .i64 x1)), (8, (.int .i64 x0)), (9, (.bool (decide (x1 ≤ x0)))), (10, (.bool (decide (x1 ≤ x0)))), (14, (.bool ((decide (x1 ≤ x0)) && (decide (x0 ≤ x2)))))]) ?_ ?_
 ·rcases Bool.eq_false_or_eq_true (decide (x1 ≤ x0)) with ab | ab
  ·refine l_run f rfl rfl ab ?_
   refine l_mv f rfl rfl fun a f => l_run f rfl rfl ab ?_
   refine l_mv f rfl rfl fun a f => l_run f rfl rfl ab ?_
   refine l_in f rfl rfl rfl b_leq fun a f => l_op f rfl rfl rfl (r_pickT (f.eval rfl) ab (f.eval rfl)) fun a f => ?_
   exact ⟨_, (GLe.refl _), m, f.weak ⟨rfl, rfl, rfl, rfl, rfl, rfl, rfl, by rw [ab]; rfl, trivial⟩⟩
  ·refine l_not' f rfl rfl rfl ab fun a f => ?_
   refine l_not' f rfl rfl rfl ab fun a f => l_not' f rfl rfl rfl ab fun a f => l_op f rfl rfl rfl (r_pickF (f.eval rfl) ab (f.eval rfl)) fun a f => ?_
   exact ⟨_, (GLe.refl _), m, f.weak ⟨rfl, rfl, rfl, rfl, rfl, rfl, rfl, by rw [ab]; rfl, trivial⟩⟩
 ·rintro a w ⟨aa, ac, m, f⟩
  refine l_as f rfl rfl fun a f => l_nil ?_
  refine k_ret ?_
  obtain rfl := sj hd
  exact ⟨[(.bool ((decide (x1 ≤ x0)) && (decide (x0 ≤ x2))))], ⟨f.get _ _ rfl, trivial⟩, f.defers, _, [], ac, m, rfl, rfl⟩

theorem Wk.r0 {W w : World} {G : GH} {H : List Itm} {v0 : Value} {x0 : (List Int)} {x1 : Int} (m : Mem W G w (H)) (h0 : RSl (RI .i64) G v0 x0) {y : Bool} (hd : D.r0 x0 x1 = some y) :
  Calls Tryz.prog 95 #[v0, (.int .i64 x1)] w (Res W G H (fun _ Ho v => Ho = [] ∧ v = (.bool y))) := by
 refine calls_b (args := [v0, (.int .i64 x1)]) (N := 33) [.tmp 4] Tryz.func95 rfl rfl (Nat.le_of_ble_eq_true rfl) rfl fun a f => ?_
 unfold D.r0 at hd
 refine k_seq (k_region ?_)
 refine l_as f rfl rfl fun a f => l_nil (k_seq (k_seq (k_region ?_)))
 refine l_mv f rfl rfl fun a f => l_len Tryz.underlying42 f rfl rfl h0 fun a f => l_mv f rfl rfl fun a f => l_nil ?_
 obtain ⟨aa, ab, hd⟩ := bind_some hd
 refine k_cut (fun a w => ∃ q_181' : Unit, aa = .inl q_181' ∧ ∃ (ac : GH), GLe G ac ∧ Fr a 33 [] ∧ Mem W ac w (H)) ?_ ?_
 ·refine k_block ?_
  refine k_loop (fun ad a w => ∃ ae : Int, ae = ad ∧ ∃ (af : GH), GLe G af ∧ Fr a 33 [(0, v0), (1, (.int .i64 x1)), (7, v0), (8, (.int .i64 (x0.length : Int))), (9, (.int .i64 ae))] ∧ Mem W af w (H)) ab ⟨_, rfl, _, (GLe.refl _), f.weak ⟨rfl, rfl, rfl, rfl, rfl, trivial⟩, m⟩ ?_
  clear ab f m
  rintro ad ag ah ai a w ⟨ae, rfl, af, aj, f, m⟩
  have h0 := rd1 aj h0
  refine k_seq (k_region ?_)
  refine l_in f rfl rfl rfl b_lss fun a f => l_nil (k_seq ?_)
  rcases cond_some ah with ⟨ak, ah⟩ | ⟨ak, ah⟩
  ·refine k_true f rfl ak ?_
   refine k_skip ?_
   refine k_seq (k_block (k_seq (k_region ?_)))
   refine l_mv f rfl rfl fun a f => ?_
   obtain ⟨al, am, ah⟩ := bind_some ah
   refine l_at T42 f rfl rfl rfl h0 am fun an ao a ap aq f => ?_
   subst aq
   refine l_loadAt m Pl2 f rfl rfl ap fun a f => l_as f rfl rfl fun a f => l_as f rfl rfl fun a f => l_nil (k_seq (k_region ?_))
   refine l_mv f rfl rfl fun a f => l_mv f rfl rfl fun a f => l_in f rfl rfl rfl b_sub fun a f => ?_
   obtain ⟨ar, au, ah⟩ := bind_some ah
   refine l_res f rfl rfl Tryz.call146 (Wk.S0 m  au) fun av aw ax w ay m az a f => ?_
   obtain ⟨rfl, rfl⟩ := az
   have h0 := rd1 ay h0
   refine l_op f rfl rfl rfl (r_not (f.eval rfl)) fun a f => l_mv f rfl rfl fun a f => ?_
   obtain ⟨aA, aB, ah⟩ := bind_some ah
   refine l_cut 12 (fun a w => ∃ aC, GLe aw aC ∧ Mem W aC w (H) ∧ Fr a 33 [(0, v0), (1, (.int .i64 x1)), (5, (.int .i64 ae)), (6, (.int .i64 al)), (7, v0), (8, (.int .i64 (x0.length : Int))), (9, (.int .i64 ae)), (14, (.int .i64 al)), (15, (.int .i64 x1)), (16, (.int .i64 (IntKind.i64.wrap (x1 - 1)))), (17, (.bool ar)), (18, (.bool (!ar))), (19, (.bool (!ar))), (31, (.bool aA))]) ?_ ?_
   ·rcases cond_some aB with ⟨aD, aB⟩ | ⟨aD, aB⟩
    ·refine l_not' f rfl rfl rfl aD fun a f => ?_
     refine l_not' f rfl rfl rfl aD fun a f => l_not' f rfl rfl rfl aD fun a f => l_notU f rfl rfl rfl fun a f => l_notU f rfl rfl rfl fun a f => l_notU f rfl rfl rfl fun a f => l_notU f rfl rfl rfl fun a f => l_notU f rfl rfl rfl fun a f => l_notU f rfl rfl rfl fun a f => l_notU f rfl rfl rfl fun a f => l_not' f rfl rfl rfl aD fun a f => l_op f rfl rfl rfl (r_pickT (f.eval rfl) aD (f.eval rfl)) fun a f => ?_
     obtain rfl := sj aB
     exact ⟨_, (GLe.refl _), m, f.weak ⟨rfl, rfl, rfl, rfl, rfl, rfl, rfl, rfl, rfl, rfl, rfl, rfl, rfl, rfl, trivial⟩⟩
    ·refine l_run f rfl rfl aD ?_
     refine l_mv f rfl rfl fun a f => l_run f rfl rfl aD ?_
     refine l_in f rfl rfl rfl b_gtr fun a f => l_run f rfl rfl aD ?_
     refine l_mv f rfl rfl fun a f => ?_
     obtain ⟨aE, aF, aB⟩ := bind_some aB
     refine l_cut 8 (fun a w => ∃ aG, GLe aw aG ∧ Mem W aG w (H) ∧ Fr a 33 [(0, v0), (1, (.int .i64 x1)), (5, (.int .i64 ae)), (6, (.int .i64 al)), (7, v0), (8, (.int .i64 (x0.length : Int))), (9, (.int .i64 ae)), (14, (.int .i64 al)), (15, (.int .i64 x1)), (16, (.int .i64 (IntKind.i64.wrap (x1 - 1)))), (17, (.bool ar)), (18, (.bool (!ar))), (19, (.bool (!ar))), (20, (.int .i64 ae)), (21, (.bool (decide ((0 : Int) < ae)))), (22, (.bool (decide ((0 : Int) < ae)))), (30, (.bool aE))]) ?_ ?_
     ·rcases cond_some aF with ⟨aH, aF⟩ | ⟨aH, aF⟩
      ·refine l_run f rfl rfl aH ?_
       refine l_mv f rfl rfl fun a f => l_run f rfl rfl aH ?_
       refine l_mv f rfl rfl fun a f => l_run f rfl rfl aH ?_
       refine l_in f rfl rfl rfl b_sub fun a f => l_run f rfl rfl aH ?_
       obtain ⟨aI, aJ, aF⟩ := bind_some aF
       refine l_at T42 f rfl rfl rfl h0 aJ fun aK aL a aM aN f => ?_
       subst aN
       refine l_run f rfl rfl aH ?_
       refine l_loadAt m Pl2 f rfl rfl aM fun a f => l_run f rfl rfl aH ?_
       refine l_mv f rfl rfl fun a f => l_run f rfl rfl aH ?_
       refine l_in f rfl rfl rfl b_geq fun a f => l_run f rfl rfl aD ?_
       refine l_op f rfl rfl rfl (r_pickT (f.eval rfl) aH (f.eval rfl)) fun a f => ?_
       obtain rfl := sj aF
       exact ⟨_, (GLe.refl _), m, f.weak ⟨rfl, rfl, rfl, rfl, rfl, rfl, rfl, rfl, rfl, rfl, rfl, rfl, rfl, rfl, rfl, rfl, rfl, trivial⟩⟩
      ·refine l_not' f rfl rfl rfl aH fun a f => ?_
       refine l_not' f rfl rfl rfl aH fun a f => l_not' f rfl rfl rfl aH fun a f => l_not' f rfl rfl rfl aH fun a f => l_not' f rfl rfl rfl aH fun a f => l_not' f rfl rfl rfl aH fun a f => l_not' f rfl rfl rfl aH fun a f => l_run f rfl rfl aD ?_
       refine l_op f rfl rfl rfl (r_pickF (f.eval rfl) aH (f.eval rfl)) fun a f => ?_
       obtain rfl := sj aF
       exact ⟨_, (GLe.refl _), m, f.weak ⟨rfl, rfl, rfl, rfl, rfl, rfl, rfl, rfl, rfl, rfl, rfl, rfl, rfl, rfl, rfl, rfl, rfl, trivial⟩⟩
     ·rintro a w ⟨aG, aO, m, f⟩
      have h0 := rd1 aO h0
      refine l_op f rfl rfl rfl (r_pickF (f.eval rfl) aD (f.eval rfl)) fun a f => ?_
      obtain rfl := sj aB
      exact ⟨_, aO, m, f.weak ⟨rfl, rfl, rfl, rfl, rfl, rfl, rfl, rfl, rfl, rfl, rfl, rfl, rfl, rfl, trivial⟩⟩
   ·rintro a w ⟨aC, aP, m, f⟩
    have h0 := rd1 aP h0
    refine l_nil ?_
    rcases cond_some ah with ⟨aQ, ah⟩ | ⟨aQ, ah⟩
    ·refine k_true f rfl aQ ?_
     refine k_seq (k_region ?_)
     refine l_as f rfl rfl fun a f => l_nil ?_
     refine k_ret ?_
     obtain rfl := sj ah
     obtain rfl := ai _ rfl
     obtain rfl := sj hd
     exact ⟨[(.bool false)], ⟨f.get _ _ rfl, trivial⟩, f.defers, _, [], (GLe.trans aj (GLe.trans ay aP)), m, rfl, rfl⟩
    ·refine k_false f rfl aQ ?_
     refine k_skip ?_
     refine k_region ?_
     refine l_in f rfl rfl rfl b_add fun a f => l_mv f rfl rfl fun a f => l_nil ?_
     obtain rfl := sj ah
     exact ⟨_, rfl, _, rfl, _, (GLe.trans aj (GLe.trans ay aP)), f.weak ⟨rfl, rfl, rfl, rfl, rfl, trivial⟩, m⟩
  ·refine k_false f rfl ak ?_
   refine k_exit rfl ?_
   obtain rfl := sj ah
   obtain rfl := ai _ rfl
   exact ⟨_, rfl, _, aj, f.weak trivial, m⟩
 ·rintro a w ⟨_, rfl, ac, aR, f, m⟩
  refine k_seq (k_region ?_)
  refine l_as f rfl rfl fun a f => l_nil ?_
  refine k_ret ?_
  obtain rfl := sj hd
  exact ⟨[(.bool true)], ⟨f.get _ _ rfl, trivial⟩, f.defers, _, [], aR, m, rfl, rfl⟩

theorem Wk.l0 {W w : World} {G : GH} {H : List Itm} {v0_0 : Value} {x0_0 : (List (List Int))} (m : Mem W G w (H)) (h0_0 : RSl (RSl (RI .i64)) G v0_0 x0_0) {y : Bool} (hd : D.l0 x0_0 = some y) :
  Calls Tryz.prog 93 #[(.agg #[v0_0])] w (Res W G H (fun _ Ho v => Ho = [] ∧ v = (.bool y))) := by
 refine calls_b (args := [(.agg #[v0_0])]) (N := 61) [.tmp 2] Tryz.func93 rfl rfl (Nat.le_of_ble_eq_true rfl) rfl fun a f => ?_
 unfold D.l0 at hd
 refine k_seq (k_region ?_)
 refine l_box (cs := [v0_0]) m f rfl rfl rfl fun aa w a m f => l_as f rfl rfl fun a f => l_nil (k_seq (k_region ?_))
 refine l_fieldAddr Tryz.underlying30 rfl Tryz.sizeOf22 (by decide) f rfl rfl fun a f => l_boxCell 0 0 m Pl22 f rfl rfl rfl rfl fun a f => l_len Tryz.underlying22 f rfl rfl h0_0 fun a f => l_as f rfl rfl fun a f => l_nil (k_seq (k_seq (k_region ?_)))
 refine l_mv f rfl rfl fun a f => l_in f rfl rfl rfl b_lss fun a f => l_mv f rfl rfl fun a f => ?_
 refine l_cut 3 (fun a w => ∃ ab, GLe G ab ∧ Mem W ab w (Itm.box aa 30 [v0_0] :: H) ∧ Fr a 61 [(0, (.agg #[v0_0])), (1, (.pointer (some ⟨aa, 0, none⟩))), (3, (.int .i64 (x0_0.length : Int))), (13, (.int .i64 (x0_0.length : Int))), (14, (.bool (decide ((x0_0.length : Int) < 1)))), (15, (.bool (decide ((x0_0.length : Int) < 1)))), (18, (.bool ((decide ((x0_0.length : Int) < 1)) || (decide ((16 : Int) < (x0_0.length : Int))))))]) ?_ ?_
 ·rcases Bool.eq_false_or_eq_true (decide ((x0_0.length : Int) < 1)) with ac | ac
  ·refine l_not' f rfl rfl rfl ac fun a f => ?_
   refine l_not' f rfl rfl rfl ac fun a f => l_op f rfl rfl rfl (r_pickT (f.eval rfl) ac (f.eval rfl)) fun a f => ?_
   exact ⟨_, (GLe.refl _), m, f.weak ⟨rfl, rfl, rfl, rfl, rfl, rfl, by rw [ac]; rfl, trivial⟩⟩
  ·refine l_run f rfl rfl ac ?_
   refine l_mv f rfl rfl fun a f => l_run f rfl rfl ac ?_
   refine l_in f rfl rfl rfl b_gtr fun a f => l_op f rfl rfl rfl (r_pickF (f.eval rfl) ac (f.eval rfl)) fun a f => ?_
   exact ⟨_, (GLe.refl _), m, f.weak ⟨rfl, rfl, rfl, rfl, rfl, rfl, by rw [ac]; rfl, trivial⟩⟩
 ·rintro a w ⟨ab, ad, m, f⟩
  have h0_0 := rd2 ad h0_0
  refine l_nil ?_
  rcases cond_some hd with ⟨ae, hd⟩ | ⟨ae, hd⟩
  ·refine k_true f rfl ae ?_
   refine k_seq (k_region ?_)
   refine l_as f rfl rfl fun a f => l_nil ?_
   refine k_ret ?_
   have m : Mem W ab w H := Mem.drop (H' := [Itm.box aa 30 [v0_0]]) m
   obtain rfl := sj hd
   exact ⟨[(.bool false)], ⟨f.get _ _ rfl, trivial⟩, f.defers, _, [], ad, m, rfl, rfl⟩
  ·refine k_false f rfl ae ?_
   refine k_skip ?_
   refine k_seq (k_seq (k_region ?_))
   refine l_fieldAddr Tryz.underlying30 rfl Tryz.sizeOf22 (by decide) f rfl rfl fun a f => l_boxCell 0 0 m Pl22 f rfl rfl rfl rfl fun a f => l_len Tryz.underlying22 f rfl rfl h0_0 fun a f => l_mv f rfl rfl fun a f => l_nil ?_
   obtain ⟨af, ag, hd⟩ := bind_some hd
   refine k_cut (fun a w => ∃ q_91' : Unit, af = .inl q_91' ∧ ∃ (ah : GH), GLe ab ah ∧ Fr a 61 [(1, (.pointer (some ⟨aa, 0, none⟩)))] ∧ Mem W ah w (Itm.box aa 30 [v0_0] :: H)) ?_ ?_
   ·refine k_block ?_
    refine k_loop (fun ai a w => ∃ aj : Int, aj = ai ∧ ∃ (ak : GH), GLe ab ak ∧ Fr a 61 [(1, (.pointer (some ⟨aa, 0, none⟩))), (3, (.int .i64 (x0_0.length : Int))), (20, v0_0), (21, (.int .i64 (x0_0.length : Int))), (22, (.int .i64 aj))] ∧ Mem W ak w (Itm.box aa 30 [v0_0] :: H)) ag ⟨_, rfl, _, (GLe.refl _), f.weak ⟨rfl, rfl, rfl, rfl, rfl, trivial⟩, m⟩ ?_
    clear ag f m
    rintro ai al am an a w ⟨aj, rfl, ak, ao, f, m⟩
    have h0_0 := rd2 ao h0_0
    refine k_seq (k_region ?_)
    refine l_in f rfl rfl rfl b_lss fun a f => l_nil (k_seq ?_)
    rcases cond_some am with ⟨ap, am⟩ | ⟨ap, am⟩
    ·refine k_true f rfl ap ?_
     refine k_skip ?_
     refine k_seq (k_block (k_seq (k_region ?_)))
     refine l_mv f rfl rfl fun a f => ?_
     obtain ⟨aq, ar, am⟩ := bind_some am
     refine l_at T22 f rfl rfl rfl h0_0 ar fun au av a aw ax f => l_loadAt m Pl42 f rfl rfl aw fun a f => l_as f rfl rfl fun a f => l_as f rfl rfl fun a f => l_nil (k_seq (k_region ?_))
     refine l_mv f rfl rfl fun a f => l_mv f rfl rfl fun a f => ?_
     obtain ⟨ay, az, am⟩ := bind_some am
     refine l_res f rfl rfl Tryz.call95 (Wk.r0 m ax az) fun aA aB aC w aD m aE a f => ?_
     obtain ⟨rfl, rfl⟩ := aE
     have ax := rd1 aD ax
     have h0_0 := rd2 aD h0_0
     refine l_op f rfl rfl rfl (r_not (f.eval rfl)) fun a f => l_mv f rfl rfl fun a f => ?_
     obtain ⟨aF, aG, am⟩ := bind_some am
     refine l_cut 4 (fun a w => ∃ aH, GLe aB aH ∧ Mem W aH w (Itm.box aa 30 [v0_0] :: H) ∧ Fr a 61 [(1, (.pointer (some ⟨aa, 0, none⟩))), (3, (.int .i64 (x0_0.length : Int))), (4, (.int .i64 aj)), (5, av), (20, v0_0), (21, (.int .i64 (x0_0.length : Int))), (22, (.int .i64 aj)), (27, av), (28, (.int .i64 (x0_0.length : Int))), (29, (.bool ay)), (30, (.bool (!ay))), (31, (.bool (!ay))), (35, (.bool aF))]) ?_ ?_
     ·rcases cond_some aG with ⟨aI, aG⟩ | ⟨aI, aG⟩
      ·refine l_not' f rfl rfl rfl aI fun a f => ?_
       refine l_not' f rfl rfl rfl aI fun a f => l_not' f rfl rfl rfl aI fun a f => l_op f rfl rfl rfl (r_pickT (f.eval rfl) aI (f.eval rfl)) fun a f => ?_
       obtain rfl := sj aG
       exact ⟨_, (GLe.refl _), m, f.weak ⟨rfl, rfl, rfl, rfl, rfl, rfl, rfl, rfl, rfl, rfl, rfl, rfl, rfl, trivial⟩⟩
      ·refine l_run f rfl rfl aI ?_
       refine l_mv f rfl rfl fun a f => l_run f rfl rfl aI ?_
       refine l_mv f rfl rfl fun a f => l_run f rfl rfl aI ?_
       obtain ⟨aJ, aK, aG⟩ := bind_some aG
       refine l_res f rfl rfl Tryz.call109 (Wk.g0 m ax aK) fun aL aM aN w aO m aP a f => ?_
       obtain ⟨rfl, rfl⟩ := aP
       have ax := rd1 aO ax
       have h0_0 := rd2 aO h0_0
       refine l_op f rfl rfl rfl (r_pickF (f.eval rfl) aI (f.eval rfl)) fun a f => ?_
       obtain rfl := sj aG
       exact ⟨_, aO, m, f.weak ⟨rfl, rfl, rfl, rfl, rfl, rfl, rfl, rfl, rfl, rfl, rfl, rfl, rfl, trivial⟩⟩
     ·rintro a w ⟨aH, aQ, m, f⟩
      have ax := rd1 aQ ax
      have h0_0 := rd2 aQ h0_0
      refine l_nil ?_
      rcases cond_some am with ⟨aR, am⟩ | ⟨aR, am⟩
      ·refine k_true f rfl aR ?_
       refine k_seq (k_region ?_)
       refine l_as f rfl rfl fun a f => l_nil ?_
       refine k_ret ?_
       have m : Mem W aH w H := Mem.drop (H' := [Itm.box aa 30 [v0_0]]) m
       obtain rfl := sj am
       obtain rfl := an _ rfl
       obtain rfl := sj hd
       exact ⟨[(.bool false)], ⟨f.get _ _ rfl, trivial⟩, f.defers, _, [], (GLe.trans ad (GLe.trans ao (GLe.trans aD aQ))), m, rfl, rfl⟩
      ·refine k_false f rfl aR ?_
       refine k_skip ?_
       refine k_region ?_
       refine l_in f rfl rfl rfl b_add fun a f => l_mv f rfl rfl fun a f => l_nil ?_
       obtain rfl := sj am
       exact ⟨_, rfl, _, rfl, _, (GLe.trans ao (GLe.trans aD aQ)), f.weak ⟨rfl, rfl, rfl, rfl, rfl, trivial⟩, m⟩
    ·refine k_false f rfl ap ?_
     refine k_exit rfl ?_
     obtain rfl := sj am
     obtain rfl := an _ rfl
     exact ⟨_, rfl, _, ao, f.weak ⟨rfl, trivial⟩, m⟩
   ·rintro a w ⟨_, rfl, ah, aS, f, m⟩
    have h0_0 := rd2 aS h0_0
    refine k_seq (k_seq (k_region ?_))
    refine l_fieldAddr Tryz.underlying30 rfl Tryz.sizeOf22 (by decide) f rfl rfl fun a f => l_boxCell 0 0 m Pl22 f rfl rfl rfl rfl fun a f => l_len Tryz.underlying22 f rfl rfl h0_0 fun a f => l_mv f rfl rfl fun a f => l_nil ?_
    obtain ⟨aT, aU, hd⟩ := bind_some hd
    refine k_cut (fun a w => ∃ q_394' : Unit, aT = .inl q_394' ∧ ∃ (aV : GH), GLe ah aV ∧ Fr a 61 [] ∧ Mem W aV w (H)) ?_ ?_
    ·refine k_block ?_
     refine k_loop (fun aW a w => ∃ aX : Int, aX = aW ∧ ∃ (aY : GH), GLe ah aY ∧ Fr a 61 [(1, (.pointer (some ⟨aa, 0, none⟩))), (38, v0_0), (39, (.int .i64 (x0_0.length : Int))), (40, (.int .i64 aX))] ∧ Mem W aY w (Itm.box aa 30 [v0_0] :: H)) aU ⟨_, rfl, _, (GLe.refl _), f.weak ⟨rfl, rfl, rfl, rfl, trivial⟩, m⟩ ?_
     clear aU f m
     rintro aW aZ a0 a1 a w ⟨aX, rfl, aY, a2, f, m⟩
     have h0_0 := rd2 a2 h0_0
     refine k_seq (k_region ?_)
     refine l_in f rfl rfl rfl b_lss fun a f => l_nil (k_seq ?_)
     rcases cond_some a0 with ⟨a3, a0⟩ | ⟨a3, a0⟩
     ·refine k_true f rfl a3 ?_
      refine k_skip ?_
      refine k_seq (k_block (k_seq (k_region ?_)))
      refine l_mv f rfl rfl fun a f => ?_
      obtain ⟨a4, a5, a0⟩ := bind_some a0
      refine l_at T22 f rfl rfl rfl h0_0 a5 fun a6 a7 a a8 a9 f => l_loadAt m Pl42 f rfl rfl a8 fun a f => l_as f rfl rfl fun a f => l_as f rfl rfl fun a f => l_nil (k_seq (k_region ?_))
      refine l_mv f rfl rfl fun a f => l_len Tryz.underlying42 f rfl rfl a9 fun a f => l_mv f rfl rfl fun a f => l_nil ?_
      obtain ⟨ba, bb, a0⟩ := bind_some a0
      refine k_cut (fun a w => ∃ q_560' : Unit, ba = .inl q_560' ∧ ∃ (bc : GH), GLe aY bc ∧ Fr a 61 [(1, (.pointer (some ⟨aa, 0, none⟩))), (38, v0_0), (39, (.int .i64 (x0_0.length : Int))), (40, (.int .i64 aX))] ∧ Mem W bc w (Itm.box aa 30 [v0_0] :: H)) ?_ ?_
      ·refine k_block ?_
       refine k_loop (fun bd a w => ∃ be : Int, be = bd ∧ ∃ (bf : GH), GLe aY bf ∧ Fr a 61 [(1, (.pointer (some ⟨aa, 0, none⟩))), (6, (.int .i64 aX)), (38, v0_0), (39, (.int .i64 (x0_0.length : Int))), (40, (.int .i64 aX)), (45, a7), (46, (.int .i64 (a4.length : Int))), (47, (.int .i64 be))] ∧ Mem W bf w (Itm.box aa 30 [v0_0] :: H)) bb ⟨_, rfl, _, (GLe.refl _), f.weak ⟨rfl, rfl, rfl, rfl, rfl, rfl, rfl, rfl, trivial⟩, m⟩ ?_
       clear bb f m
       rintro bd bg bh bi a w ⟨be, rfl, bf, bj, f, m⟩
       have h0_0 := rd2 bj h0_0
       have a9 := rd1 bj a9
       refine k_seq (k_region ?_)
       refine l_in f rfl rfl rfl b_lss fun a f => l_nil (k_seq ?_)
       rcases cond_some bh with ⟨bk, bh⟩ | ⟨bk, bh⟩
       ·refine k_true f rfl bk ?_
        refine k_skip ?_
        refine k_seq (k_block (k_seq (k_region ?_)))
        obtain ⟨bl, bm, bh⟩ := bind_some bh
        refine l_at T42 f rfl rfl rfl a9 bm fun bn bo a bp bq f => ?_
        subst bq
        refine l_loadAt m Pl2 f rfl rfl bp fun a f => l_as f rfl rfl fun a f => l_nil (k_seq (k_region ?_))
        refine l_fieldAddr Tryz.underlying30 rfl Tryz.sizeOf22 (by decide) f rfl rfl fun a f => l_boxCell 0 0 m Pl22 f rfl rfl rfl rfl fun a f => l_mv f rfl rfl fun a f => ?_
        obtain ⟨br, bs, bh⟩ := bind_some bh
        refine l_at T22 f rfl rfl rfl h0_0 bs fun bt bu a bv bw f => l_loadAt m Pl42 f rfl rfl bv fun a f => l_mv f rfl rfl fun a f => ?_
        obtain ⟨bx, bz, bh⟩ := bind_some bh
        refine l_res f rfl rfl Tryz.call109 (Wk.g0 m bw bz) fun bA bB bC w bD m bE a f => ?_
        obtain ⟨rfl, rfl⟩ := bE
        have h0_0 := rd2 bD h0_0
        have a9 := rd1 bD a9
        have bv := At.mono bD bv
        have bw := rd1 bD bw
        refine l_op f rfl rfl rfl (r_not (f.eval rfl)) fun a f => l_nil ?_
        rcases cond_some bh with ⟨bF, bh⟩ | ⟨bF, bh⟩
        ·refine k_true f rfl bF ?_
         refine k_seq (k_region ?_)
         refine l_as f rfl rfl fun a f => l_nil ?_
         refine k_ret ?_
         have m : Mem W bB w H := Mem.drop (H' := [Itm.box aa 30 [v0_0]]) m
         obtain rfl := sj bh
         obtain rfl := bi _ rfl
         obtain rfl := sj a0
         obtain rfl := a1 _ rfl
         obtain rfl := sj hd
         exact ⟨[(.bool false)], ⟨f.get _ _ rfl, trivial⟩, f.defers, _, [], (GLe.trans ad (GLe.trans aS (GLe.trans a2 (GLe.trans bj bD)))), m, rfl, rfl⟩
        ·refine k_false f rfl bF ?_
         refine k_skip ?_
         refine k_region ?_
         refine l_in f rfl rfl rfl b_add fun a f => l_mv f rfl rfl fun a f => l_nil ?_
         obtain rfl := sj bh
         exact ⟨_, rfl, _, rfl, _, (GLe.trans bj bD), f.weak ⟨rfl, rfl, rfl, rfl, rfl, rfl, rfl, rfl, trivial⟩, m⟩
       ·refine k_false f rfl bk ?_
        refine k_exit rfl ?_
        obtain rfl := sj bh
        obtain rfl := bi _ rfl
        exact ⟨_, rfl, _, bj, f.weak ⟨rfl, rfl, rfl, rfl, trivial⟩, m⟩
      ·rintro a w ⟨_, rfl, bc, bG, f, m⟩
       have h0_0 := rd2 bG h0_0
       refine k_region ?_
       refine l_in f rfl rfl rfl b_add fun a f => l_mv f rfl rfl fun a f => l_nil ?_
       obtain rfl := sj a0
       exact ⟨_, rfl, _, rfl, _, (GLe.trans a2 bG), f.weak ⟨rfl, rfl, rfl, rfl, trivial⟩, m⟩
     ·refine k_false f rfl a3 ?_
      refine k_exit rfl ?_
      have m : Mem W aY w H := Mem.drop (H' := [Itm.box aa 30 [v0_0]]) m
      obtain rfl := sj a0
      obtain rfl := a1 _ rfl
      exact ⟨_, rfl, _, a2, f.weak trivial, m⟩
    ·rintro a w ⟨_, rfl, aV, bH, f, m⟩
     refine k_seq (k_region ?_)
     refine l_as f rfl rfl fun a f => l_nil ?_
     refine k_ret ?_
     obtain rfl := sj hd
     exact ⟨[(.bool true)], ⟨f.get _ _ rfl, trivial⟩, f.defers, _, [], (GLe.trans ad (GLe.trans aS bH)), m, rfl, rfl⟩

theorem Wk.c {W w : World} {G : GH} {H : List Itm} {x0 : Int} (m : Mem W G w (H))  {y : Int} (hd : D.c x0 = some y) :
  Calls Tryz.prog 100 #[(.int .i64 x0)] w (Res W G H (fun _ Ho v => Ho = [] ∧ v = (.int .u32 y))) := by
 refine calls_b (args := [(.int .i64 x0)]) (N := 5) [.tmp 2] Tryz.func100 rfl rfl (Nat.le_of_ble_eq_true rfl) rfl fun a f => ?_
 unfold D.c at hd
 refine k_seq (k_region ?_)
 refine l_as f rfl rfl fun a f => l_nil (k_seq (k_region ?_))
 refine l_mv f rfl rfl fun a f => ?_
 obtain ⟨aa, hd⟩ := cond_none hd
 refine l_op f rfl rfl rfl (r_shl (f.eval rfl) (f.eval rfl) aa) fun a f => l_as f rfl rfl fun a f => l_nil ?_
 refine k_ret ?_
 obtain rfl := sj hd
 exact ⟨[(.int .u32 (ishl .u32 1 x0))], ⟨f.get _ _ rfl, trivial⟩, f.defers, _, [], (GLe.refl _), m, rfl, rfl⟩

theorem Wk.F {W w : World} {G : GH} {H : List Itm} {v0 : Value} {it0 : Itm} {x0 : (List Int)} {x1 : Int} {x2 : Int} (m : Mem W G w (it0 :: H)) (o0 : Ow (RI .u32) 76 G it0 v0 x0) {y : ((List Int))} (hd : D.F x0 x1 x2 = some y) :
  Calls Tryz.prog 55 #[v0, (.int .i64 x1), (.int .i64 x2)] w (Res W G H (fun G' Ho _ => ∃ i0 : Itm, Ho = [i0] ∧ Ow (RI .u32) 76 G' i0 v0 y)) := by
 refine calls_b (args := [v0, (.int .i64 x1), (.int .i64 x2)]) (N := 22) [] Tryz.func55 rfl rfl (Nat.le_of_ble_eq_true rfl) rfl fun a f => ?_
 unfold D.F at hd
 refine k_seq ?_
 refine k_draw 8 Follows (by kernel_rfl) m ?_
 refine q_mv 0 8 rfl (by kernel_rfl) f rfl rfl rfl fun a f => q_mv 1 8 rfl (by kernel_rfl) f rfl rfl rfl fun a f => ?_
 obtain ⟨aa, ab, hd⟩ := bind_some hd
 refine q_own_at (i := 2) 8 0 m o0 rfl T73 ab rfl (by kernel_rfl) rfl f rfl rfl rfl rfl fun ac a ad f => q_own_load (i := 3) 8 0 o0 rfl Pl76 ad ab rfl (by kernel_rfl) rfl f rfl rfl rfl fun ae a af f => ?_
 subst af
 refine q_mv 4 8 rfl (by kernel_rfl) f rfl rfl rfl fun a f => ?_
 obtain ⟨ag, ah, hd⟩ := bind_some hd
 refine q_call (i := 5) 8 rfl (by kernel_rfl) rfl f rfl rfl rfl Tryz.call100 (fun _ _ w ai m => Wk.c m  ah) fun a f => q_p 6 8 rfl (by kernel_rfl) f rfl rfl rfl (fun _ => r_int (f.eval rfl) (f.eval rfl) b_or) fun a f => ?_
 obtain ⟨aj, ak, hd⟩ := bind_some hd
 refine q_own_at (i := 7) 8 0 m o0 rfl T73 ak rfl (by kernel_rfl) rfl f rfl rfl rfl rfl fun al a am f => q_end fun an w ao m => ?_
 have o0 := od1 ao o0
 refine l_own_store 0 m o0 rfl Tryz.sizeOf76 f rfl rfl am ak rfl rfl rfl fun ap w m aq => l_nil ?_
 refine k_draw 8 Follows (by kernel_rfl) m ?_
 refine q_mv 0 8 rfl (by kernel_rfl) f rfl rfl rfl fun a f => q_mv 1 8 rfl (by kernel_rfl) f rfl rfl rfl fun a f => ?_
 obtain ⟨ar, au, hd⟩ := bind_some hd
 refine q_own_at (i := 2) 8 0 m aq rfl T73 au rfl (by kernel_rfl) rfl f rfl rfl rfl rfl fun av a aw f => q_own_load (i := 3) 8 0 aq rfl Pl76 aw au rfl (by kernel_rfl) rfl f rfl rfl rfl fun ax a ay f => ?_
 subst ay
 refine q_mv 4 8 rfl (by kernel_rfl) f rfl rfl rfl fun a f => ?_
 obtain ⟨az, aA, hd⟩ := bind_some hd
 refine q_call (i := 5) 8 rfl (by kernel_rfl) rfl f rfl rfl rfl Tryz.call100 (fun _ _ w aB m => Wk.c m  aA) fun a f => q_p 6 8 rfl (by kernel_rfl) f rfl rfl rfl (fun _ => r_int (f.eval rfl) (f.eval rfl) b_or) fun a f => ?_
 obtain ⟨aC, aD, hd⟩ := bind_some hd
 refine q_own_at (i := 7) 8 0 m aq rfl T73 aD rfl (by kernel_rfl) rfl f rfl rfl rfl rfl fun aE a aF f => q_end fun aG w aH m => ?_
 have aq := od1 aH aq
 refine l_own_store 0 m aq rfl Tryz.sizeOf76 f rfl rfl aF aD rfl rfl rfl fun aI w m aJ => l_nil ?_
 obtain rfl := sj hd
 exact ⟨[], trivial, f.defers, _, [aI], (GLe.trans ao aH), m, _, rfl, aJ⟩

theorem Wk.E0 {W w : World} {G : GH} {H : List Itm} {v0 : Value} {x0 : (List Int)} (m : Mem W G w (H)) (h0 : RSl (RI .i64) G v0 x0) {y : Int} (hd : D.E0 x0 = some y) :
  Calls Tryz.prog 118 #[v0] w (Res W G H (fun _ Ho v => Ho = [] ∧ v = (.int .u32 y))) := by
 refine calls_b (args := [v0]) (N := 18) [.tmp 2] Tryz.func118 rfl rfl (Nat.le_of_ble_eq_true rfl) rfl fun a f => ?_
 unfold D.E0 at hd
 refine k_seq (k_region ?_)
 refine l_as f rfl rfl fun a f => l_nil (k_seq (k_region ?_))
 refine l_as f rfl rfl fun a f => l_nil (k_seq (k_seq (k_region ?_)))
 refine l_mv f rfl rfl fun a f => l_len Tryz.underlying42 f rfl rfl h0 fun a f => l_mv f rfl rfl fun a f => l_nil ?_
 obtain ⟨aa, ab, hd⟩ := bind_some hd
 refine k_cut (fun a w => ∃ ac : Int, ac = aa ∧ ∃ (ad : GH), GLe G ad ∧ Fr a 18 [(3, (.int .u32 ac))] ∧ Mem W ad w (H)) ?_ ?_
 ·refine k_block ?_
  refine k_loop (fun ae a w => ∃ af : Int, ∃ ag : Int, (af, ag) = ae ∧ ∃ (ah : GH), GLe G ah ∧ Fr a 18 [(3, (.int .u32 af)), (6, v0), (7, (.int .i64 (x0.length : Int))), (8, (.int .i64 ag))] ∧ Mem W ah w (H)) ab ⟨_, _, rfl, _, (GLe.refl _), f.weak ⟨rfl, rfl, rfl, rfl, trivial⟩, m⟩ ?_
  clear ab f m
  rintro ae ai aj ak a w ⟨af, ag, rfl, ah, al, f, m⟩
  have h0 := rd1 al h0
  refine k_seq (k_region ?_)
  refine l_in f rfl rfl rfl b_lss fun a f => l_nil (k_seq ?_)
  rcases cond_some aj with ⟨am, aj⟩ | ⟨am, aj⟩
  ·refine k_true f rfl am ?_
   refine k_skip ?_
   refine k_seq (k_block (k_seq (k_region ?_)))
   obtain ⟨an, ao, aj⟩ := bind_some aj
   refine l_at T42 f rfl rfl rfl h0 ao fun ap aq a ar au f => ?_
   subst au
   refine l_loadAt m Pl2 f rfl rfl ar fun a f => l_as f rfl rfl fun a f => l_nil (k_region ?_)
   refine l_mv f rfl rfl fun a f => l_mv f rfl rfl fun a f => ?_
   obtain ⟨av, aw, aj⟩ := bind_some aj
   refine l_res f rfl rfl Tryz.call100 (Wk.c m  aw) fun ax ay az w aA m aB a f => ?_
   obtain ⟨rfl, rfl⟩ := aB
   have h0 := rd1 aA h0
   refine l_in f rfl rfl rfl b_or fun a f => l_as f rfl rfl fun a f => l_nil (k_region ?_)
   refine l_in f rfl rfl rfl b_add fun a f => l_mv f rfl rfl fun a f => l_nil ?_
   obtain rfl := sj aj
   exact ⟨_, rfl, _, _, rfl, _, (GLe.trans al aA), f.weak ⟨rfl, rfl, rfl, rfl, trivial⟩, m⟩
  ·refine k_false f rfl am ?_
   refine k_exit rfl ?_
   obtain rfl := sj aj
   obtain rfl := ak _ rfl
   exact ⟨_, rfl, _, al, f.weak ⟨rfl, trivial⟩, m⟩
 ·rintro a w ⟨ac, rfl, ad, aC, f, m⟩
  refine k_seq (k_region ?_)
  refine l_mv f rfl rfl fun a f => l_as f rfl rfl fun a f => l_nil ?_
  refine k_ret ?_
  obtain rfl := sj hd
  exact ⟨[(.int .u32 ac)], ⟨f.get _ _ rfl, trivial⟩, f.defers, _, [], aC, m, rfl, rfl⟩

end Go.Proofs.YtebbefpdncgoiaaGreatDoor
