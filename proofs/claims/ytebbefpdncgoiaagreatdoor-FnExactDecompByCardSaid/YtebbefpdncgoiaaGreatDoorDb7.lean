/- Parts of the proof: LCW, LDW, Qb, Pf, Pg, T1D, Qc, Qd, Qe, V1D, Ra, Rb, F1D, Sa. -/
import Derived.Test.YtebbefpdncgoiaaGreatDoorDb6
import Derived.Test.YtebbefpdncgoiaaGreatDoorProg
import Derived.KernelRfl
import Derived.Lib.TrailingZeros
set_option linter.unusedVariables false
set_option linter.unusedSimpArgs false
set_option linter.unusedSectionVars false
set_option maxRecDepth 100000
namespace Go.Proofs.YtebbefpdncgoiaaGreatDoor
open Go Go.Sx
theorem Wk.slices_partitionCmpFunc_int64__slices_Compare_int64_int64 {W w : World} {G : GH} {H : List Itm} {v0 : Value} {it0 : Itm} {x0 : (List (Value × List Int))} {x1 : Int} {x2 : Int} {x3 : Int} (m : Mem W G w (it0 :: H)) (o0 : Ow (RTg (RI .i64)) 42 G it0 v0 x0) {y : Int × Bool × ((List (Value × List Int)))} (hd : D.slices_partitionCmpFunc_int64__slices_Compare_int64_int64 x0 x1 x2 x3 = some y) :
  Calls Tryz.prog 161 #[v0, (.int .i64 x1), (.int .i64 x2), (.int .i64 x3), (.func (.func 58) #[] #[])] w (Res W G H (fun G' Ho v => ∃ i0 : Itm, Ho = [i0] ∧ v = .tuple #[(.int .i64 y.1), (.bool y.2.1)] ∧ Ow (RTg (RI .i64)) 42 G' i0 v0 y.2.2)) := by
 refine calls_b (args := [v0, (.int .i64 x1), (.int .i64 x2), (.int .i64 x3), (.func (.func 58) #[] #[])]) (N := 178) [.tmp 10, .tmp 11] Tryz.func161 rfl rfl (Nat.le_of_ble_eq_true rfl) rfl fun a f => ?_
 unfold D.slices_partitionCmpFunc_int64__slices_Compare_int64_int64 at hd
 refine k_seq (k_region ?_)
 refine l_as f rfl rfl fun a f => l_as f rfl rfl fun a f => l_nil (k_seq ?_)
 refine k_draw0 Follows m ?_
 refine p_p 2 rfl (by kernel_rfl) f rfl rfl rfl (fun _ => r_move (f.eval rfl)) fun a f => p_p 3 rfl (by kernel_rfl) f rfl rfl rfl (fun _ => r_move (f.eval rfl)) fun a f => k_draw1 12013 11 (by kernel_rfl) rfl ?_
 refine q_mv 0 12013 rfl (by kernel_rfl) f rfl rfl rfl fun a f => q_mv 1 12013 rfl (by kernel_rfl) f rfl rfl rfl fun a f => q_mv 4 12013 rfl (by kernel_rfl) f rfl rfl rfl fun a f => q_mv 5 12013 rfl (by kernel_rfl) f rfl rfl rfl fun a f => ?_
 obtain ⟨aa, ab, hd⟩ := bind_some hd
 refine q_own_at (i := 6) 12013 0 m o0 rfl T22 ab rfl (by kernel_rfl) rfl f rfl rfl rfl rfl fun ac a ad f => q_own_load (i := 7) 12013 0 o0 rfl Pl42 ad ab rfl (by kernel_rfl) rfl f rfl rfl rfl fun ae a af f => q_mv 8 12013 rfl (by kernel_rfl) f rfl rfl rfl fun a f => q_mv 9 12013 rfl (by kernel_rfl) f rfl rfl rfl fun a f => ?_
 obtain ⟨ag, ah, hd⟩ := bind_some hd
 refine q_own_at (i := 10) 12013 0 m o0 rfl T22 ah rfl (by kernel_rfl) rfl f rfl rfl rfl rfl fun ai a aj f => q_own_load (i := 11) 12013 0 o0 rfl Pl42 aj ah rfl (by kernel_rfl) rfl f rfl rfl rfl fun ak a al f => ?_
 obtain ⟨am, an, hd⟩ := bind_some hd
 refine q_own_at (i := 12) 12013 0 m o0 rfl T22 an rfl (by kernel_rfl) rfl f rfl rfl rfl rfl fun ao a ap f => q_end fun aq w ar m => ?_
 have af := (RTg.mono (RI.mono _)) _ _ _ _ ar af
 have al := (RTg.mono (RI.mono _)) _ _ _ _ ar al
 have o0 := Ow.mono (RTg.mono (RI.mono _)) ar o0
 refine l_own_store 0 m o0 rfl Tryz.sizeOf42 f rfl rfl ap an af.cells af.one1 af fun au w m av => ?_
 obtain ⟨aw, ax, hd⟩ := bind_some hd
 refine l_own_at 0 m av rfl T22 f rfl rfl rfl ax fun ay a az f => l_own_store 0 m av rfl Tryz.sizeOf42 f rfl rfl az ax al.cells al.one1 al fun aA w m aB => l_nil (k_seq (k_region ?_))
 refine l_mv f rfl rfl fun a f => l_in f rfl rfl rfl b_add fun a f => l_mv f rfl rfl fun a f => l_in f rfl rfl rfl b_sub fun a f => l_as f rfl rfl fun a f => l_as f rfl rfl fun a f => l_nil (k_seq ?_)
 obtain ⟨aC, aD, hd⟩ := bind_some hd
 refine k_cut (fun a w => ∃ aE : Int, aE = aC ∧ ∃ (aF : GH), GLe aq aF ∧ Fr a 178 [(0, v0), (1, (.int .i64 x1)), (4, (.func (.func 58) #[] #[])), (12, (.int .i64 aE)), (13, (.int .i64 (IntKind.i64.wrap (x2 - 1))))] ∧ Mem W aF w (aA :: H)) ?_ ?_
 ·refine k_block ?_
  refine k_loop (fun aG a w => ∃ aH : Int, aH = aG ∧ ∃ (aI : GH), GLe aq aI ∧ Fr a 178 [(0, v0), (1, (.int .i64 x1)), (4, (.func (.func 58) #[] #[])), (12, (.int .i64 aH)), (13, (.int .i64 (IntKind.i64.wrap (x2 - 1))))] ∧ Mem W aI w (aA :: H)) aD ⟨_, rfl, _, (GLe.refl _), f.weak ⟨rfl, rfl, rfl, rfl, rfl, trivial⟩, m⟩ ?_
  clear aD f m
  rintro aG aJ aK aL a w ⟨aH, rfl, aI, aM, f, m⟩
  have aB := Ow.mono (RTg.mono (RI.mono _)) aM aB
  refine k_seq (k_seq ?_)
  refine k_draw 16 Follows (by kernel_rfl) m ?_
  refine q_mv 0 16 rfl (by kernel_rfl) f rfl rfl rfl fun a f => q_mv 1 16 rfl (by kernel_rfl) f rfl rfl rfl fun a f => q_p 2 16 rfl (by kernel_rfl) f rfl rfl rfl (fun _ => r_int (f.eval rfl) (f.eval rfl) b_leq) fun a f => q_mv 3 16 rfl (by kernel_rfl) f rfl rfl rfl fun a f => ?_
  obtain ⟨aN, aO, aK⟩ := bind_some aK
  refine q_cut (fuel' := 0) (listed' := #[true, true, true, true, true, true, true, true, true, true, true, true, true, true, true, true]) (fun a => Fr a 178 [(0, v0), (1, (.int .i64 x1)), (4, (.func (.func 58) #[] #[])), (12, (.int .i64 aH)), (13, (.int .i64 (IntKind.i64.wrap (x2 - 1)))), (32, (.int .i64 aH)), (33, (.int .i64 (IntKind.i64.wrap (x2 - 1)))), (34, (.bool (decide (aH ≤ (IntKind.i64.wrap (x2 - 1)))))), (35, (.bool (decide (aH ≤ (IntKind.i64.wrap (x2 - 1)))))), (47, (.bool aN))]) ?_ ?_
  ·intro a f
   refine q_end fun aP w aQ m => ?_
   have aB := Ow.mono (RTg.mono (RI.mono _)) aQ aB
   refine l_nil ?_
   rcases cond_some aK with ⟨aR, aK⟩ | ⟨aR, aK⟩
   ·refine k_true f rfl aR ?_
    refine k_skip ?_
    refine k_block (k_region ?_)
    refine l_mv f rfl rfl fun a f => l_in f rfl rfl rfl b_add fun a f => l_as f rfl rfl fun a f => l_nil ?_
    obtain rfl := sj aK
    exact ⟨_, rfl, _, rfl, _, (GLe.trans aM aQ), f.weak ⟨rfl, rfl, rfl, rfl, rfl, trivial⟩, m⟩
   ·refine k_false f rfl aR ?_
    refine k_exit rfl ?_
    obtain rfl := sj aK
    obtain rfl := aL _ rfl
    exact ⟨_, rfl, _, (GLe.trans aM aQ), f.weak ⟨rfl, rfl, rfl, rfl, rfl, trivial⟩, m⟩
  ·intro aS
   rcases cond_some aO with ⟨aT, aO⟩ | ⟨aT, aO⟩
   ·refine q_mv 4 16 rfl (by kernel_rfl) f (wanted_of f rfl rfl rfl aT) rfl rfl fun a f => ?_
    refine q_mv 5 16 rfl (by kernel_rfl) f (wanted_of f rfl rfl rfl aT) rfl rfl fun a f => q_mv 6 16 rfl (by kernel_rfl) f (wanted_of f rfl rfl rfl aT) rfl rfl fun a f => ?_
    obtain ⟨aU, aV, aO⟩ := bind_some aO
    refine q_own_at (i := 7) 16 0 m aB rfl T22 aV rfl (by kernel_rfl) rfl f (wanted_of f rfl rfl rfl aT) rfl rfl rfl fun aW a aX f => q_own_load (i := 8) 16 0 aB rfl Pl42 aX aV rfl (by kernel_rfl) rfl f (wanted_of f rfl rfl rfl aT) rfl rfl fun aY a aZ f => q_mv 9 16 rfl (by kernel_rfl) f (wanted_of f rfl rfl rfl aT) rfl rfl fun a f => q_mv 10 16 rfl (by kernel_rfl) f (wanted_of f rfl rfl rfl aT) rfl rfl fun a f => ?_
    obtain ⟨a0, a1, aO⟩ := bind_some aO
    refine q_own_at (i := 11) 16 0 m aB rfl T22 a1 rfl (by kernel_rfl) rfl f (wanted_of f rfl rfl rfl aT) rfl rfl rfl fun a2 a a3 f => q_own_load (i := 12) 16 0 aB rfl Pl42 a3 a1 rfl (by kernel_rfl) rfl f (wanted_of f rfl rfl rfl aT) rfl rfl fun a4 a a5 f => ?_
    obtain ⟨a6, a7, aO⟩ := bind_some aO
    refine q_callv (i := 13) 16 rfl (by kernel_rfl) rfl f (wanted_of f rfl rfl rfl aT) rfl rfl rfl Tryz.call58 (fun _ _ w a8 m => Wk.slices_Compare_int64_int64 m (rd1 a8 (aZ.2)) (rd1 a8 (a5.2)) a7) fun a f => q_p 14 16 rfl (by kernel_rfl) f (wanted_of f rfl rfl rfl aT) rfl rfl (fun _ => r_int (f.eval rfl) (f.eval rfl) b_lss) fun a f => q_p 15 16 rfl (by kernel_rfl) f rfl rfl rfl (fun _ => r_pickT (f.eval rfl) aT (f.eval rfl)) fun a f => ?_
    obtain rfl := sj aO
    exact aS _ (f.weak ⟨rfl, rfl, rfl, rfl, rfl, rfl, rfl, rfl, rfl, rfl, trivial⟩)
   ·refine q_ng 4 16 rfl (by kernel_rfl) f rfl rfl aT rfl fun a f => ?_
    refine q_ng 5 16 rfl (by kernel_rfl) f rfl rfl aT rfl fun a f => q_ng 6 16 rfl (by kernel_rfl) f rfl rfl aT rfl fun a f => q_ng 7 16 rfl (by kernel_rfl) f rfl rfl aT rfl fun a f => q_ng 8 16 rfl (by kernel_rfl) f rfl rfl aT rfl fun a f => q_ng 9 16 rfl (by kernel_rfl) f rfl rfl aT rfl fun a f => q_ng 10 16 rfl (by kernel_rfl) f rfl rfl aT rfl fun a f => q_ng 11 16 rfl (by kernel_rfl) f rfl rfl aT rfl fun a f => q_ng 12 16 rfl (by kernel_rfl) f rfl rfl aT rfl fun a f => q_ng 13 16 rfl (by kernel_rfl) f rfl rfl aT rfl fun a f => q_ng 14 16 rfl (by kernel_rfl) f rfl rfl aT rfl fun a f => q_p 15 16 rfl (by kernel_rfl) f rfl rfl rfl (fun _ => r_pickF (f.eval rfl) aT (f.eval rfl)) fun a f => ?_
    obtain rfl := sj aO
    exact aS _ (f.weak ⟨rfl, rfl, rfl, rfl, rfl, rfl, rfl, rfl, rfl, rfl, trivial⟩)
 ·rintro a w ⟨aE, rfl, aF, a9, f, m⟩
  have aB := Ow.mono (RTg.mono (RI.mono _)) a9 aB
  refine k_seq ?_
  obtain ⟨ba, bb, hd⟩ := bind_some hd
  refine k_cut (fun a w => ∃ bc : Int, bc = ba ∧ ∃ (bd : GH), GLe aF bd ∧ Fr a 178 [(0, v0), (1, (.int .i64 x1)), (4, (.func (.func 58) #[] #[])), (12, (.int .i64 aE)), (13, (.int .i64 bc))] ∧ Mem W bd w (aA :: H)) ?_ ?_
  ·refine k_block ?_
   refine k_loop (fun be a w => ∃ bf : Int, bf = be ∧ ∃ (bg : GH), GLe aF bg ∧ Fr a 178 [(0, v0), (1, (.int .i64 x1)), (4, (.func (.func 58) #[] #[])), (12, (.int .i64 aE)), (13, (.int .i64 bf))] ∧ Mem W bg w (aA :: H)) bb ⟨_, rfl, _, (GLe.refl _), f.weak ⟨rfl, rfl, rfl, rfl, rfl, trivial⟩, m⟩ ?_
   clear bb f m
   rintro be bh bi bj a w ⟨bf, rfl, bg, bk, f, m⟩
   have aB := Ow.mono (RTg.mono (RI.mono _)) bk aB
   refine k_seq (k_seq ?_)
   refine k_draw 17 Follows (by kernel_rfl) m ?_
   refine q_mv 0 17 rfl (by kernel_rfl) f rfl rfl rfl fun a f => q_mv 1 17 rfl (by kernel_rfl) f rfl rfl rfl fun a f => q_p 2 17 rfl (by kernel_rfl) f rfl rfl rfl (fun _ => r_int (f.eval rfl) (f.eval rfl) b_leq) fun a f => q_mv 3 17 rfl (by kernel_rfl) f rfl rfl rfl fun a f => ?_
   obtain ⟨bl, bm, bi⟩ := bind_some bi
   refine q_cut (fuel' := 0) (listed' := #[true, true, true, true, true, true, true, true, true, true, true, true, true, true, true, true, true]) (fun a => Fr a 178 [(0, v0), (1, (.int .i64 x1)), (4, (.func (.func 58) #[] #[])), (12, (.int .i64 aE)), (13, (.int .i64 bf)), (50, (.int .i64 aE)), (51, (.int .i64 bf)), (52, (.bool (decide (aE ≤ bf)))), (53, (.bool (decide (aE ≤ bf)))), (66, (.bool bl))]) ?_ ?_
   ·intro a f
    refine q_end fun bn w bo m => ?_
    have aB := Ow.mono (RTg.mono (RI.mono _)) bo aB
    refine l_nil ?_
    rcases cond_some bi with ⟨bp, bi⟩ | ⟨bp, bi⟩
    ·refine k_true f rfl bp ?_
     refine k_skip ?_
     refine k_block (k_region ?_)
     refine l_mv f rfl rfl fun a f => l_in f rfl rfl rfl b_sub fun a f => l_as f rfl rfl fun a f => l_nil ?_
     obtain rfl := sj bi
     exact ⟨_, rfl, _, rfl, _, (GLe.trans bk bo), f.weak ⟨rfl, rfl, rfl, rfl, rfl, trivial⟩, m⟩
    ·refine k_false f rfl bp ?_
     refine k_exit rfl ?_
     obtain rfl := sj bi
     obtain rfl := bj _ rfl
     exact ⟨_, rfl, _, (GLe.trans bk bo), f.weak ⟨rfl, rfl, rfl, rfl, rfl, trivial⟩, m⟩
   ·intro bq
    rcases cond_some bm with ⟨br, bm⟩ | ⟨br, bm⟩
    ·refine q_mv 4 17 rfl (by kernel_rfl) f (wanted_of f rfl rfl rfl br) rfl rfl fun a f => ?_
     refine q_mv 5 17 rfl (by kernel_rfl) f (wanted_of f rfl rfl rfl br) rfl rfl fun a f => q_mv 6 17 rfl (by kernel_rfl) f (wanted_of f rfl rfl rfl br) rfl rfl fun a f => ?_
     obtain ⟨bs, bt, bm⟩ := bind_some bm
     refine q_own_at (i := 7) 17 0 m aB rfl T22 bt rfl (by kernel_rfl) rfl f (wanted_of f rfl rfl rfl br) rfl rfl rfl fun bu a bv f => q_own_load (i := 8) 17 0 aB rfl Pl42 bv bt rfl (by kernel_rfl) rfl f (wanted_of f rfl rfl rfl br) rfl rfl fun bw a bx f => q_mv 9 17 rfl (by kernel_rfl) f (wanted_of f rfl rfl rfl br) rfl rfl fun a f => q_mv 10 17 rfl (by kernel_rfl) f (wanted_of f rfl rfl rfl br) rfl rfl fun a f => ?_
     obtain ⟨bz, bA, bm⟩ := bind_some bm
     refine q_own_at (i := 11) 17 0 m aB rfl T22 bA rfl (by kernel_rfl) rfl f (wanted_of f rfl rfl rfl br) rfl rfl rfl fun bB a bC f => q_own_load (i := 12) 17 0 aB rfl Pl42 bC bA rfl (by kernel_rfl) rfl f (wanted_of f rfl rfl rfl br) rfl rfl fun bD a bE f => ?_
     obtain ⟨bF, bG, bm⟩ := bind_some bm
     refine q_callv (i := 13) 17 rfl (by kernel_rfl) rfl f (wanted_of f rfl rfl rfl br) rfl rfl rfl Tryz.call58 (fun _ _ w bH m => Wk.slices_Compare_int64_int64 m (rd1 bH (bx.2)) (rd1 bH (bE.2)) bG) fun a f => q_p 14 17 rfl (by kernel_rfl) f (wanted_of f rfl rfl rfl br) rfl rfl (fun _ => r_int (f.eval rfl) (f.eval rfl) b_lss) fun a f => q_p 15 17 rfl (by kernel_rfl) f (wanted_of f rfl rfl rfl br) rfl rfl (fun _ => r_not (f.eval rfl)) fun a f => q_p 16 17 rfl (by kernel_rfl) f rfl rfl rfl (fun _ => r_pickT (f.eval rfl) br (f.eval rfl)) fun a f => ?_
     obtain rfl := sj bm
     exact bq _ (f.weak ⟨rfl, rfl, rfl, rfl, rfl, rfl, rfl, rfl, rfl, rfl, trivial⟩)
    ·refine q_ng 4 17 rfl (by kernel_rfl) f rfl rfl br rfl fun a f => ?_
     refine q_ng 5 17 rfl (by kernel_rfl) f rfl rfl br rfl fun a f => q_ng 6 17 rfl (by kernel_rfl) f rfl rfl br rfl fun a f => q_ng 7 17 rfl (by kernel_rfl) f rfl rfl br rfl fun a f => q_ng 8 17 rfl (by kernel_rfl) f rfl rfl br rfl fun a f => q_ng 9 17 rfl (by kernel_rfl) f rfl rfl br rfl fun a f => q_ng 10 17 rfl (by kernel_rfl) f rfl rfl br rfl fun a f => q_ng 11 17 rfl (by kernel_rfl) f rfl rfl br rfl fun a f => q_ng 12 17 rfl (by kernel_rfl) f rfl rfl br rfl fun a f => q_ng 13 17 rfl (by kernel_rfl) f rfl rfl br rfl fun a f => q_ng 14 17 rfl (by kernel_rfl) f rfl rfl br rfl fun a f => q_ng 15 17 rfl (by kernel_rfl) f rfl rfl br rfl fun a f => q_p 16 17 rfl (by kernel_rfl) f rfl rfl rfl (fun _ => r_pickF (f.eval rfl) br (f.eval rfl)) fun a f => ?_
     obtain rfl := sj bm
     exact bq _ (f.weak ⟨rfl, rfl, rfl, rfl, rfl, rfl, rfl, rfl, rfl, rfl, trivial⟩)
  ·rintro a w ⟨bc, rfl, bd, bI, f, m⟩
   have aB := Ow.mono (RTg.mono (RI.mono _)) bI aB
   refine k_seq (k_seq (k_region ?_))
   refine l_mv f rfl rfl fun a f => l_mv f rfl rfl fun a f => l_in f rfl rfl rfl b_gtr fun a f => l_nil ?_
   rcases cond_some hd with ⟨bJ, hd⟩ | ⟨bJ, hd⟩
   ·refine k_true f rfl bJ ?_
    refine k_seq ?_
    refine k_draw0 Follows m ?_
    refine p_p 2 rfl (by kernel_rfl) f rfl rfl rfl (fun _ => r_move (f.eval rfl)) fun a f => p_p 3 rfl (by kernel_rfl) f rfl rfl rfl (fun _ => r_move (f.eval rfl)) fun a f => k_draw1 12013 11 (by kernel_rfl) rfl ?_
    refine q_mv 0 12013 rfl (by kernel_rfl) f rfl rfl rfl fun a f => q_mv 1 12013 rfl (by kernel_rfl) f rfl rfl rfl fun a f => q_mv 4 12013 rfl (by kernel_rfl) f rfl rfl rfl fun a f => q_mv 5 12013 rfl (by kernel_rfl) f rfl rfl rfl fun a f => ?_
    obtain ⟨bK, bL, hd⟩ := bind_some hd
    refine q_own_at (i := 6) 12013 0 m aB rfl T22 bL rfl (by kernel_rfl) rfl f rfl rfl rfl rfl fun bM a bN f => q_own_load (i := 7) 12013 0 aB rfl Pl42 bN bL rfl (by kernel_rfl) rfl f rfl rfl rfl fun bO a bP f => q_mv 8 12013 rfl (by kernel_rfl) f rfl rfl rfl fun a f => q_mv 9 12013 rfl (by kernel_rfl) f rfl rfl rfl fun a f => ?_
    obtain ⟨bQ, bR, hd⟩ := bind_some hd
    refine q_own_at (i := 10) 12013 0 m aB rfl T22 bR rfl (by kernel_rfl) rfl f rfl rfl rfl rfl fun bS a bT f => q_own_load (i := 11) 12013 0 aB rfl Pl42 bT bR rfl (by kernel_rfl) rfl f rfl rfl rfl fun bU a bV f => ?_
    obtain ⟨bW, bX, hd⟩ := bind_some hd
    refine q_own_at (i := 12) 12013 0 m aB rfl T22 bX rfl (by kernel_rfl) rfl f rfl rfl rfl rfl fun bY a bZ f => q_end fun b0 w b1 m => ?_
    have bP := (RTg.mono (RI.mono _)) _ _ _ _ b1 bP
    have bV := (RTg.mono (RI.mono _)) _ _ _ _ b1 bV
    have aB := Ow.mono (RTg.mono (RI.mono _)) b1 aB
    refine l_own_store 0 m aB rfl Tryz.sizeOf42 f rfl rfl bZ bX bP.cells bP.one1 bP fun b2 w m b3 => ?_
    obtain ⟨b4, b5, hd⟩ := bind_some hd
    refine l_own_at 0 m b3 rfl T22 f rfl rfl rfl b5 fun b6 a b7 f => l_own_store 0 m b3 rfl Tryz.sizeOf42 f rfl rfl b7 b5 bV.cells bV.one1 bV fun b8 w m b9 => l_nil (k_seq (k_region ?_))
    refine l_mv f rfl rfl fun a f => l_as f rfl rfl fun a f => l_as f rfl rfl fun a f => l_nil ?_
    refine k_ret ?_
    obtain rfl := sj hd
    exact ⟨[(.int .i64 bc), (.bool true)], ⟨f.get _ _ rfl, f.get _ _ rfl, trivial⟩, f.defers, _, [b8], (GLe.trans ar (GLe.trans a9 (GLe.trans bI b1))), m, _, rfl, rfl, b9⟩
   ·refine k_false f rfl bJ ?_
    refine k_skip ?_
    refine k_seq ?_
    refine k_draw0 Follows m ?_
    refine p_p 2 rfl (by kernel_rfl) f rfl rfl rfl (fun _ => r_move (f.eval rfl)) fun a f => p_p 3 rfl (by kernel_rfl) f rfl rfl rfl (fun _ => r_move (f.eval rfl)) fun a f => k_draw1 12013 11 (by kernel_rfl) rfl ?_
    refine q_mv 0 12013 rfl (by kernel_rfl) f rfl rfl rfl fun a f => q_mv 1 12013 rfl (by kernel_rfl) f rfl rfl rfl fun a f => q_mv 4 12013 rfl (by kernel_rfl) f rfl rfl rfl fun a f => q_mv 5 12013 rfl (by kernel_rfl) f rfl rfl rfl fun a f => ?_
    obtain ⟨ca, cb, hd⟩ := bind_some hd
    refine q_own_at (i := 6) 12013 0 m aB rfl T22 cb rfl (by kernel_rfl) rfl f rfl rfl rfl rfl fun cc a cd f => q_own_load (i := 7) 12013 0 aB rfl Pl42 cd cb rfl (by kernel_rfl) rfl f rfl rfl rfl fun ce a cf f => q_mv 8 12013 rfl (by kernel_rfl) f rfl rfl rfl fun a f => q_mv 9 12013 rfl (by kernel_rfl) f rfl rfl rfl fun a f => ?_
    obtain ⟨cg, ch, hd⟩ := bind_some hd
    refine q_own_at (i := 10) 12013 0 m aB rfl T22 ch rfl (by kernel_rfl) rfl f rfl rfl rfl rfl fun ci a cj f => q_own_load (i := 11) 12013 0 aB rfl Pl42 cj ch rfl (by kernel_rfl) rfl f rfl rfl rfl fun ck a cl f => ?_
    obtain ⟨cm, cn, hd⟩ := bind_some hd
    refine q_own_at (i := 12) 12013 0 m aB rfl T22 cn rfl (by kernel_rfl) rfl f rfl rfl rfl rfl fun co a cp f => q_end fun cq w cr m => ?_
    have cf := (RTg.mono (RI.mono _)) _ _ _ _ cr cf
    have cl := (RTg.mono (RI.mono _)) _ _ _ _ cr cl
    have aB := Ow.mono (RTg.mono (RI.mono _)) cr aB
    refine l_own_store 0 m aB rfl Tryz.sizeOf42 f rfl rfl cp cn cf.cells cf.one1 cf fun cs w m ct => ?_
    obtain ⟨cu, cv, hd⟩ := bind_some hd
    refine l_own_at 0 m ct rfl T22 f rfl rfl rfl cv fun cw a cx f => l_own_store 0 m ct rfl Tryz.sizeOf42 f rfl rfl cx cv cl.cells cl.one1 cl fun cy w m cz => l_nil (k_seq (k_region ?_))
    refine l_mv f rfl rfl fun a f => l_in f rfl rfl rfl b_add fun a f => l_as f rfl rfl fun a f => l_nil (k_seq (k_region ?_))
    refine l_mv f rfl rfl fun a f => l_in f rfl rfl rfl b_sub fun a f => l_as f rfl rfl fun a f => l_nil (k_seq ?_)
    obtain ⟨cA, cB, hd⟩ := bind_some hd
    refine k_cut (fun a w => ∃ cC : List (Value × List Int), ∃ cD : Int, (cC, cD) = cA ∧ ∃ (cE : GH) (cF : Itm), GLe cq cE ∧ Fr a 178 [(0, v0), (1, (.int .i64 x1)), (13, (.int .i64 cD))] ∧ Mem W cE w (cF :: H) ∧ Ow (RTg (RI .i64)) 42 cE cF v0 cC) ?_ ?_
    ·refine k_block ?_
     refine k_loop (fun cG a w => ∃ cH : List (Value × List Int), ∃ cI : Int, ∃ cJ : Int, (cH, cI, cJ) = cG ∧ ∃ (cK : GH) (cL : Itm), GLe cq cK ∧ Fr a 178 [(0, v0), (1, (.int .i64 x1)), (4, (.func (.func 58) #[] #[])), (12, (.int .i64 cI)), (13, (.int .i64 cJ))] ∧ Mem W cK w (cL :: H) ∧ Ow (RTg (RI .i64)) 42 cK cL v0 cH) cB ⟨_, _, _, rfl, _, cy, (GLe.refl _), f.weak ⟨rfl, rfl, rfl, rfl, rfl, trivial⟩, m, cz⟩ ?_
     clear cB f m
     rintro cG cM cN cO a w ⟨cH, cI, cJ, rfl, cK, cL, cP, f, m, cQ⟩
     refine k_block (k_seq ?_)
     obtain ⟨cR, cS, cN⟩ := bind_some cN
     refine k_cut (fun a w => ∃ cT : Int, cT = cR ∧ ∃ (cU : GH), GLe cK cU ∧ Fr a 178 [(0, v0), (1, (.int .i64 x1)), (4, (.func (.func 58) #[] #[])), (12, (.int .i64 cT)), (13, (.int .i64 cJ))] ∧ Mem W cU w (cL :: H)) ?_ ?_
     ·refine k_block ?_
      refine k_loop (fun cV a w => ∃ cW : Int, cW = cV ∧ ∃ (cX : GH), GLe cK cX ∧ Fr a 178 [(0, v0), (1, (.int .i64 x1)), (4, (.func (.func 58) #[] #[])), (12, (.int .i64 cW)), (13, (.int .i64 cJ))] ∧ Mem W cX w (cL :: H)) cS ⟨_, rfl, _, (GLe.refl _), f.weak ⟨rfl, rfl, rfl, rfl, rfl, trivial⟩, m⟩ ?_
      clear cS f m
      rintro cV cY cZ c0 a w ⟨cW, rfl, cX, c1, f, m⟩
      have cQ := Ow.mono (RTg.mono (RI.mono _)) c1 cQ
      refine k_seq (k_seq ?_)
      refine k_draw 16 Follows (by kernel_rfl) m ?_
      refine q_mv 0 16 rfl (by kernel_rfl) f rfl rfl rfl fun a f => q_mv 1 16 rfl (by kernel_rfl) f rfl rfl rfl fun a f => q_p 2 16 rfl (by kernel_rfl) f rfl rfl rfl (fun _ => r_int (f.eval rfl) (f.eval rfl) b_leq) fun a f => q_mv 3 16 rfl (by kernel_rfl) f rfl rfl rfl fun a f => ?_
      obtain ⟨c2, c3, cZ⟩ := bind_some cZ
      refine q_cut (fuel' := 0) (listed' := #[true, true, true, true, true, true, true, true, true, true, true, true, true, true, true, true]) (fun a => Fr a 178 [(0, v0), (1, (.int .i64 x1)), (4, (.func (.func 58) #[] #[])), (12, (.int .i64 cW)), (13, (.int .i64 cJ)), (105, (.int .i64 cW)), (106, (.int .i64 cJ)), (107, (.bool (decide (cW ≤ cJ)))), (108, (.bool (decide (cW ≤ cJ)))), (120, (.bool c2))]) ?_ ?_
      ·intro a f
       refine q_end fun c4 w c5 m => ?_
       have cQ := Ow.mono (RTg.mono (RI.mono _)) c5 cQ
       refine l_nil ?_
       rcases cond_some cZ with ⟨c6, cZ⟩ | ⟨c6, cZ⟩
       ·refine k_true f rfl c6 ?_
        refine k_skip ?_
        refine k_block (k_region ?_)
        refine l_mv f rfl rfl fun a f => l_in f rfl rfl rfl b_add fun a f => l_as f rfl rfl fun a f => l_nil ?_
        obtain rfl := sj cZ
        exact ⟨_, rfl, _, rfl, _, (GLe.trans c1 c5), f.weak ⟨rfl, rfl, rfl, rfl, rfl, trivial⟩, m⟩
       ·refine k_false f rfl c6 ?_
        refine k_exit rfl ?_
        obtain rfl := sj cZ
        obtain rfl := c0 _ rfl
        exact ⟨_, rfl, _, (GLe.trans c1 c5), f.weak ⟨rfl, rfl, rfl, rfl, rfl, trivial⟩, m⟩
      ·intro c7
       rcases cond_some c3 with ⟨c8, c3⟩ | ⟨c8, c3⟩
       ·refine q_mv 4 16 rfl (by kernel_rfl) f (wanted_of f rfl rfl rfl c8) rfl rfl fun a f => ?_
        refine q_mv 5 16 rfl (by kernel_rfl) f (wanted_of f rfl rfl rfl c8) rfl rfl fun a f => q_mv 6 16 rfl (by kernel_rfl) f (wanted_of f rfl rfl rfl c8) rfl rfl fun a f => ?_
        obtain ⟨c9, da, c3⟩ := bind_some c3
        refine q_own_at (i := 7) 16 0 m cQ rfl T22 da rfl (by kernel_rfl) rfl f (wanted_of f rfl rfl rfl c8) rfl rfl rfl fun db a dc f => q_own_load (i := 8) 16 0 cQ rfl Pl42 dc da rfl (by kernel_rfl) rfl f (wanted_of f rfl rfl rfl c8) rfl rfl fun dd a de f => q_mv 9 16 rfl (by kernel_rfl) f (wanted_of f rfl rfl rfl c8) rfl rfl fun a f => q_mv 10 16 rfl (by kernel_rfl) f (wanted_of f rfl rfl rfl c8) rfl rfl fun a f => ?_
        obtain ⟨df, dg, c3⟩ := bind_some c3
        refine q_own_at (i := 11) 16 0 m cQ rfl T22 dg rfl (by kernel_rfl) rfl f (wanted_of f rfl rfl rfl c8) rfl rfl rfl fun dh a di f => q_own_load (i := 12) 16 0 cQ rfl Pl42 di dg rfl (by kernel_rfl) rfl f (wanted_of f rfl rfl rfl c8) rfl rfl fun dj a dk f => ?_
        obtain ⟨dl, dm, c3⟩ := bind_some c3
        refine q_callv (i := 13) 16 rfl (by kernel_rfl) rfl f (wanted_of f rfl rfl rfl c8) rfl rfl rfl Tryz.call58 (fun _ _ w dn m => Wk.slices_Compare_int64_int64 m (rd1 dn (de.2)) (rd1 dn (dk.2)) dm) fun a f => q_p 14 16 rfl (by kernel_rfl) f (wanted_of f rfl rfl rfl c8) rfl rfl (fun _ => r_int (f.eval rfl) (f.eval rfl) b_lss) fun a f => q_p 15 16 rfl (by kernel_rfl) f rfl rfl rfl (fun _ => r_pickT (f.eval rfl) c8 (f.eval rfl)) fun a f => ?_
        obtain rfl := sj c3
        exact c7 _ (f.weak ⟨rfl, rfl, rfl, rfl, rfl, rfl, rfl, rfl, rfl, rfl, trivial⟩)
       ·refine q_ng 4 16 rfl (by kernel_rfl) f rfl rfl c8 rfl fun a f => ?_
        refine q_ng 5 16 rfl (by kernel_rfl) f rfl rfl c8 rfl fun a f => q_ng 6 16 rfl (by kernel_rfl) f rfl rfl c8 rfl fun a f => q_ng 7 16 rfl (by kernel_rfl) f rfl rfl c8 rfl fun a f => q_ng 8 16 rfl (by kernel_rfl) f rfl rfl c8 rfl fun a f => q_ng 9 16 rfl (by kernel_rfl) f rfl rfl c8 rfl fun a f => q_ng 10 16 rfl (by kernel_rfl) f rfl rfl c8 rfl fun a f => q_ng 11 16 rfl (by kernel_rfl) f rfl rfl c8 rfl fun a f => q_ng 12 16 rfl (by kernel_rfl) f rfl rfl c8 rfl fun a f => q_ng 13 16 rfl (by kernel_rfl) f rfl rfl c8 rfl fun a f => q_ng 14 16 rfl (by kernel_rfl) f rfl rfl c8 rfl fun a f => q_p 15 16 rfl (by kernel_rfl) f rfl rfl rfl (fun _ => r_pickF (f.eval rfl) c8 (f.eval rfl)) fun a f => ?_
        obtain rfl := sj c3
        exact c7 _ (f.weak ⟨rfl, rfl, rfl, rfl, rfl, rfl, rfl, rfl, rfl, rfl, trivial⟩)
     ·rintro a w ⟨cT, rfl, cU, dp, f, m⟩
      have cQ := Ow.mono (RTg.mono (RI.mono _)) dp cQ
      refine k_seq ?_
      obtain ⟨dq, dr, cN⟩ := bind_some cN
      refine k_cut (fun a w => ∃ ds : Int, ds = dq ∧ ∃ (dt : GH), GLe cU dt ∧ Fr a 178 [(0, v0), (1, (.int .i64 x1)), (4, (.func (.func 58) #[] #[])), (12, (.int .i64 cT)), (13, (.int .i64 ds))] ∧ Mem W dt w (cL :: H)) ?_ ?_
      ·refine k_block ?_
       refine k_loop (fun du a w => ∃ dv : Int, dv = du ∧ ∃ (dw : GH), GLe cU dw ∧ Fr a 178 [(0, v0), (1, (.int .i64 x1)), (4, (.func (.func 58) #[] #[])), (12, (.int .i64 cT)), (13, (.int .i64 dv))] ∧ Mem W dw w (cL :: H)) dr ⟨_, rfl, _, (GLe.refl _), f.weak ⟨rfl, rfl, rfl, rfl, rfl, trivial⟩, m⟩ ?_
       clear dr f m
       rintro du dx dy dz a w ⟨dv, rfl, dw, dA, f, m⟩
       have cQ := Ow.mono (RTg.mono (RI.mono _)) dA cQ
       refine k_seq (k_seq ?_)
       refine k_draw 17 Follows (by kernel_rfl) m ?_
       refine q_mv 0 17 rfl (by kernel_rfl) f rfl rfl rfl fun a f => q_mv 1 17 rfl (by kernel_rfl) f rfl rfl rfl fun a f => q_p 2 17 rfl (by kernel_rfl) f rfl rfl rfl (fun _ => r_int (f.eval rfl) (f.eval rfl) b_leq) fun a f => q_mv 3 17 rfl (by kernel_rfl) f rfl rfl rfl fun a f => ?_
       obtain ⟨dB, dC, dy⟩ := bind_some dy
       refine q_cut (fuel' := 0) (listed' := #[true, true, true, true, true, true, true, true, true, true, true, true, true, true, true, true, true]) (fun a => Fr a 178 [(0, v0), (1, (.int .i64 x1)), (4, (.func (.func 58) #[] #[])), (12, (.int .i64 cT)), (13, (.int .i64 dv)), (123, (.int .i64 cT)), (124, (.int .i64 dv)), (125, (.bool (decide (cT ≤ dv)))), (126, (.bool (decide (cT ≤ dv)))), (139, (.bool dB))]) ?_ ?_
       ·intro a f
        refine q_end fun dD w dE m => ?_
        have cQ := Ow.mono (RTg.mono (RI.mono _)) dE cQ
        refine l_nil ?_
        rcases cond_some dy with ⟨dF, dy⟩ | ⟨dF, dy⟩
        ·refine k_true f rfl dF ?_
         refine k_skip ?_
         refine k_block (k_region ?_)
         refine l_mv f rfl rfl fun a f => l_in f rfl rfl rfl b_sub fun a f => l_as f rfl rfl fun a f => l_nil ?_
         obtain rfl := sj dy
         exact ⟨_, rfl, _, rfl, _, (GLe.trans dA dE), f.weak ⟨rfl, rfl, rfl, rfl, rfl, trivial⟩, m⟩
        ·refine k_false f rfl dF ?_
         refine k_exit rfl ?_
         obtain rfl := sj dy
         obtain rfl := dz _ rfl
         exact ⟨_, rfl, _, (GLe.trans dA dE), f.weak ⟨rfl, rfl, rfl, rfl, rfl, trivial⟩, m⟩
       ·intro dG
        rcases cond_some dC with ⟨dH, dC⟩ | ⟨dH, dC⟩
        ·refine q_mv 4 17 rfl (by kernel_rfl) f (wanted_of f rfl rfl rfl dH) rfl rfl fun a f => ?_
         refine q_mv 5 17 rfl (by kernel_rfl) f (wanted_of f rfl rfl rfl dH) rfl rfl fun a f => q_mv 6 17 rfl (by kernel_rfl) f (wanted_of f rfl rfl rfl dH) rfl rfl fun a f => ?_
         obtain ⟨dI, dJ, dC⟩ := bind_some dC
         refine q_own_at (i := 7) 17 0 m cQ rfl T22 dJ rfl (by kernel_rfl) rfl f (wanted_of f rfl rfl rfl dH) rfl rfl rfl fun dK a dL f => q_own_load (i := 8) 17 0 cQ rfl Pl42 dL dJ rfl (by kernel_rfl) rfl f (wanted_of f rfl rfl rfl dH) rfl rfl fun dM a dN f => q_mv 9 17 rfl (by kernel_rfl) f (wanted_of f rfl rfl rfl dH) rfl rfl fun a f => q_mv 10 17 rfl (by kernel_rfl) f (wanted_of f rfl rfl rfl dH) rfl rfl fun a f => ?_
         obtain ⟨dO, dP, dC⟩ := bind_some dC
         refine q_own_at (i := 11) 17 0 m cQ rfl T22 dP rfl (by kernel_rfl) rfl f (wanted_of f rfl rfl rfl dH) rfl rfl rfl fun dQ a dR f => q_own_load (i := 12) 17 0 cQ rfl Pl42 dR dP rfl (by kernel_rfl) rfl f (wanted_of f rfl rfl rfl dH) rfl rfl fun dS a dT f => ?_
         obtain ⟨dU, dV, dC⟩ := bind_some dC
         refine q_callv (i := 13) 17 rfl (by kernel_rfl) rfl f (wanted_of f rfl rfl rfl dH) rfl rfl rfl Tryz.call58 (fun _ _ w dW m => Wk.slices_Compare_int64_int64 m (rd1 dW (dN.2)) (rd1 dW (dT.2)) dV) fun a f => q_p 14 17 rfl (by kernel_rfl) f (wanted_of f rfl rfl rfl dH) rfl rfl (fun _ => r_int (f.eval rfl) (f.eval rfl) b_lss) fun a f => q_p 15 17 rfl (by kernel_rfl) f (wanted_of f rfl rfl rfl dH) rfl rfl (fun _ => r_not (f.eval rfl)) fun a f => q_p 16 17 rfl (by kernel_rfl) f rfl rfl rfl (fun _ => r_pickT (f.eval rfl) dH (f.eval rfl)) fun a f => ?_
         obtain rfl := sj dC
         exact dG _ (f.weak ⟨rfl, rfl, rfl, rfl, rfl, rfl, rfl, rfl, rfl, rfl, trivial⟩)
        ·refine q_ng 4 17 rfl (by kernel_rfl) f rfl rfl dH rfl fun a f => ?_
         refine q_ng 5 17 rfl (by kernel_rfl) f rfl rfl dH rfl fun a f => q_ng 6 17 rfl (by kernel_rfl) f rfl rfl dH rfl fun a f => q_ng 7 17 rfl (by kernel_rfl) f rfl rfl dH rfl fun a f => q_ng 8 17 rfl (by kernel_rfl) f rfl rfl dH rfl fun a f => q_ng 9 17 rfl (by kernel_rfl) f rfl rfl dH rfl fun a f => q_ng 10 17 rfl (by kernel_rfl) f rfl rfl dH rfl fun a f => q_ng 11 17 rfl (by kernel_rfl) f rfl rfl dH rfl fun a f => q_ng 12 17 rfl (by kernel_rfl) f rfl rfl dH rfl fun a f => q_ng 13 17 rfl (by kernel_rfl) f rfl rfl dH rfl fun a f => q_ng 14 17 rfl (by kernel_rfl) f rfl rfl dH rfl fun a f => q_ng 15 17 rfl (by kernel_rfl) f rfl rfl dH rfl fun a f => q_p 16 17 rfl (by kernel_rfl) f rfl rfl rfl (fun _ => r_pickF (f.eval rfl) dH (f.eval rfl)) fun a f => ?_
         obtain rfl := sj dC
         exact dG _ (f.weak ⟨rfl, rfl, rfl, rfl, rfl, rfl, rfl, rfl, rfl, rfl, trivial⟩)
      ·rintro a w ⟨ds, rfl, dt, dX, f, m⟩
       have cQ := Ow.mono (RTg.mono (RI.mono _)) dX cQ
       refine k_seq (k_seq (k_region ?_))
       refine l_mv f rfl rfl fun a f => l_mv f rfl rfl fun a f => l_in f rfl rfl rfl b_gtr fun a f => l_nil ?_
       rcases cond_some cN with ⟨dY, cN⟩ | ⟨dY, cN⟩
       ·refine k_true f rfl dY ?_
        refine k_exit rfl ?_
        obtain rfl := sj cN
        obtain rfl := cO _ rfl
        exact ⟨_, _, rfl, _, cL, (GLe.trans cP (GLe.trans dp dX)), f.weak ⟨rfl, rfl, rfl, trivial⟩, m, cQ⟩
       ·refine k_false f rfl dY ?_
        refine k_skip ?_
        refine k_seq ?_
        refine k_draw0 Follows m ?_
        refine p_p 2 rfl (by kernel_rfl) f rfl rfl rfl (fun _ => r_move (f.eval rfl)) fun a f => p_p 3 rfl (by kernel_rfl) f rfl rfl rfl (fun _ => r_move (f.eval rfl)) fun a f => k_draw1 12013 11 (by kernel_rfl) rfl ?_
        refine q_mv 0 12013 rfl (by kernel_rfl) f rfl rfl rfl fun a f => q_mv 1 12013 rfl (by kernel_rfl) f rfl rfl rfl fun a f => q_mv 4 12013 rfl (by kernel_rfl) f rfl rfl rfl fun a f => q_mv 5 12013 rfl (by kernel_rfl) f rfl rfl rfl fun a f => ?_
        obtain ⟨dZ, d0, cN⟩ := bind_some cN
        refine q_own_at (i := 6) 12013 0 m cQ rfl T22 d0 rfl (by kernel_rfl) rfl f rfl rfl rfl rfl fun d1 a d2 f => q_own_load (i := 7) 12013 0 cQ rfl Pl42 d2 d0 rfl (by kernel_rfl) rfl f rfl rfl rfl fun d3 a d4 f => q_mv 8 12013 rfl (by kernel_rfl) f rfl rfl rfl fun a f => q_mv 9 12013 rfl (by kernel_rfl) f rfl rfl rfl fun a f => ?_
        obtain ⟨d5, d6, cN⟩ := bind_some cN
        refine q_own_at (i := 10) 12013 0 m cQ rfl T22 d6 rfl (by kernel_rfl) rfl f rfl rfl rfl rfl fun d7 a d8 f => q_own_load (i := 11) 12013 0 cQ rfl Pl42 d8 d6 rfl (by kernel_rfl) rfl f rfl rfl rfl fun d9 a ea f => ?_
        obtain ⟨eb, ec, cN⟩ := bind_some cN
        refine q_own_at (i := 12) 12013 0 m cQ rfl T22 ec rfl (by kernel_rfl) rfl f rfl rfl rfl rfl fun ed a ee f => q_end fun ef w eg m => ?_
        have d4 := (RTg.mono (RI.mono _)) _ _ _ _ eg d4
        have ea := (RTg.mono (RI.mono _)) _ _ _ _ eg ea
        have cQ := Ow.mono (RTg.mono (RI.mono _)) eg cQ
        refine l_own_store 0 m cQ rfl Tryz.sizeOf42 f rfl rfl ee ec d4.cells d4.one1 d4 fun eh w m ei => ?_
        obtain ⟨ej, ek, cN⟩ := bind_some cN
        refine l_own_at 0 m ei rfl T22 f rfl rfl rfl ek fun el a em f => l_own_store 0 m ei rfl Tryz.sizeOf42 f rfl rfl em ek ea.cells ea.one1 ea fun en w m eo => l_nil (k_seq (k_region ?_))
        refine l_mv f rfl rfl fun a f => l_in f rfl rfl rfl b_add fun a f => l_as f rfl rfl fun a f => l_nil (k_region ?_)
        refine l_mv f rfl rfl fun a f => l_in f rfl rfl rfl b_sub fun a f => l_as f rfl rfl fun a f => l_nil ?_
        obtain rfl := sj cN
        exact ⟨_, rfl, _, _, _, rfl, _, en, (GLe.trans cP (GLe.trans dp (GLe.trans dX eg))), f.weak ⟨rfl, rfl, rfl, rfl, rfl, trivial⟩, m, eo⟩
    ·rintro a w ⟨cC, cD, rfl, cE, cF, ep, f, m, eq⟩
     refine k_seq ?_
     refine k_draw0 Follows m ?_
     refine p_p 2 rfl (by kernel_rfl) f rfl rfl rfl (fun _ => r_move (f.eval rfl)) fun a f => p_p 3 rfl (by kernel_rfl) f rfl rfl rfl (fun _ => r_move (f.eval rfl)) fun a f => k_draw1 12013 11 (by kernel_rfl) rfl ?_
     refine q_mv 0 12013 rfl (by kernel_rfl) f rfl rfl rfl fun a f => q_mv 1 12013 rfl (by kernel_rfl) f rfl rfl rfl fun a f => q_mv 4 12013 rfl (by kernel_rfl) f rfl rfl rfl fun a f => q_mv 5 12013 rfl (by kernel_rfl) f rfl rfl rfl fun a f => ?_
     obtain ⟨er, es, hd⟩ := bind_some hd
     refine q_own_at (i := 6) 12013 0 m eq rfl T22 es rfl (by kernel_rfl) rfl f rfl rfl rfl rfl fun et a eu f => q_own_load (i := 7) 12013 0 eq rfl Pl42 eu es rfl (by kernel_rfl) rfl f rfl rfl rfl fun ev a ew f => q_mv 8 12013 rfl (by kernel_rfl) f rfl rfl rfl fun a f => q_mv 9 12013 rfl (by kernel_rfl) f rfl rfl rfl fun a f => ?_
     obtain ⟨ex, ey, hd⟩ := bind_some hd
     refine q_own_at (i := 10) 12013 0 m eq rfl T22 ey rfl (by kernel_rfl) rfl f rfl rfl rfl rfl fun ez a eA f => q_own_load (i := 11) 12013 0 eq rfl Pl42 eA ey rfl (by kernel_rfl) rfl f rfl rfl rfl fun eB a eC f => ?_
     obtain ⟨eD, eE, hd⟩ := bind_some hd
     refine q_own_at (i := 12) 12013 0 m eq rfl T22 eE rfl (by kernel_rfl) rfl f rfl rfl rfl rfl fun eF a eG f => q_end fun eH w eI m => ?_
     have ew := (RTg.mono (RI.mono _)) _ _ _ _ eI ew
     have eC := (RTg.mono (RI.mono _)) _ _ _ _ eI eC
     have eq := Ow.mono (RTg.mono (RI.mono _)) eI eq
     refine l_own_store 0 m eq rfl Tryz.sizeOf42 f rfl rfl eG eE ew.cells ew.one1 ew fun eJ w m eK => ?_
     obtain ⟨eL, eM, hd⟩ := bind_some hd
     refine l_own_at 0 m eK rfl T22 f rfl rfl rfl eM fun eN a eO f => l_own_store 0 m eK rfl Tryz.sizeOf42 f rfl rfl eO eM eC.cells eC.one1 eC fun eP w m eQ => l_nil (k_seq (k_region ?_))
     refine l_mv f rfl rfl fun a f => l_as f rfl rfl fun a f => l_as f rfl rfl fun a f => l_nil ?_
     refine k_ret ?_
     obtain rfl := sj hd
     exact ⟨[(.int .i64 cD), (.bool false)], ⟨f.get _ _ rfl, f.get _ _ rfl, trivial⟩, f.defers, _, [eP], (GLe.trans ar (GLe.trans a9 (GLe.trans bI (GLe.trans cr (GLe.trans ep eI))))), m, _, rfl, rfl, eQ⟩

theorem Wk.slices_pdqsortCmpFunc_int64__slices_Compare_int64_int64R {W : World} (n : Nat) : ∀ {w : World} {G : GH} {H : List Itm} {v0 : Value} {it0 : Itm} {x0 : (List (Value × List Int))} {x1 : Int} {x2 : Int} {x3 : Int} (m : Mem W G w (it0 :: H)) (o0 : Ow (RTg (RI .i64)) 42 G it0 v0 x0) {y : ((List (Value × List Int)))} (hd : D.slices_pdqsortCmpFunc_int64__slices_Compare_int64_int64R n x0 x1 x2 x3 = some y),
  Calls Tryz.prog 121 #[v0, (.int .i64 x1), (.int .i64 x2), (.int .i64 x3), (.func (.func 58) #[] #[])] w (Res W G H (fun G' Ho _ => ∃ i0 : Itm, Ho = [i0] ∧ Ow (RTg (RI .i64)) 42 G' i0 v0 y)) := by
 induction n with
 | zero => intros; rename_i hd; simp [D.slices_pdqsortCmpFunc_int64__slices_Compare_int64_int64R] at hd
 | succ fuel ih =>
  intro w G H v0 it0 x0 x1 x2 x3 m o0 y hd
  refine calls_b (args := [v0, (.int .i64 x1), (.int .i64 x2), (.int .i64 x3), (.func (.func 58) #[] #[])]) (N := 148) [] Tryz.func121 rfl rfl (Nat.le_of_ble_eq_true rfl) rfl fun a f => ?_
  unfold D.slices_pdqsortCmpFunc_int64__slices_Compare_int64_int64R at hd
  refine k_seq (k_region ?_)
  refine l_as f rfl rfl fun a f => l_nil (k_seq (k_region ?_))
  refine l_as f rfl rfl fun a f => l_nil ?_
  obtain ⟨aa, ab, hd⟩ := bind_some hd
  refine k_block ?_
  refine k_loop (fun ac a w => ∃ ad : List (Value × List Int), ∃ ae : Int, ∃ af : Int, ∃ ag : Int, ∃ ah : Bool, ∃ ai : Bool, (ad, ae, af, ag, ah, ai) = ac ∧ ∃ (aj : GH) (ak : Itm), GLe G aj ∧ Fr a 148 [(0, v0), (1, (.int .i64 ae)), (2, (.int .i64 af)), (3, (.int .i64 ag)), (4, (.func (.func 58) #[] #[])), (10, (.bool ah)), (11, (.bool ai))] ∧ Mem W aj w (ak :: H) ∧ Ow (RTg (RI .i64)) 42 aj ak v0 ad) ab ⟨_, _, _, _, _, _, rfl, _, it0, (GLe.refl _), f.weak ⟨rfl, rfl, rfl, rfl, rfl, rfl, rfl, trivial⟩, m, o0⟩ ?_
  clear ab f m
  rintro ac al am an a w ⟨ad, ae, af, ag, ah, ai, rfl, aj, ak, ao, f, m, ap⟩
  refine k_block (k_seq (k_region ?_))
  refine l_mv f rfl rfl fun a f => l_mv f rfl rfl fun a f => l_in f rfl rfl rfl b_sub fun a f => l_as f rfl rfl fun a f => l_nil (k_seq (k_seq (k_region ?_)))
  refine l_mv f rfl rfl fun a f => l_in f rfl rfl rfl b_leq fun a f => l_nil ?_
  rcases cond_some am with ⟨aq, am⟩ | ⟨aq, am⟩
  ·refine k_true f rfl aq ?_
   refine k_seq (k_region ?_)
   refine l_mv f rfl rfl fun a f => l_mv f rfl rfl fun a f => l_mv f rfl rfl fun a f => l_mv f rfl rfl fun a f => ?_
   obtain ⟨ar, au, am⟩ := bind_some am
   refine l_res f rfl rfl Tryz.call154 (Wk.slices_insertionSortCmpFunc_int64__slices_Compare_int64_int64 m ap au) fun av aw ax w ay m az a f => ?_
   obtain ⟨aA, rfl, aB⟩ := az
   refine l_nil ?_
   refine k_ret ?_
   obtain rfl := sj am
   obtain rfl := an _ rfl
   obtain rfl := sj hd
   exact ⟨[], trivial, f.defers, _, [aA], (GLe.trans ao ay), m, _, rfl, aB⟩
  ·refine k_false f rfl aq ?_
   refine k_skip ?_
   refine k_seq (k_seq (k_region ?_))
   refine l_mv f rfl rfl fun a f => l_in f rfl rfl rfl b_eql fun a f => l_nil ?_
   rcases cond_some am with ⟨aC, am⟩ | ⟨aC, am⟩
   ·refine k_true f rfl aC ?_
    refine k_seq (k_region ?_)
    refine l_mv f rfl rfl fun a f => l_mv f rfl rfl fun a f => l_mv f rfl rfl fun a f => l_mv f rfl rfl fun a f => ?_
    obtain ⟨aD, aE, am⟩ := bind_some am
    refine l_res f rfl rfl Tryz.call155 (Wk.slices_heapSortCmpFunc_int64__slices_Compare_int64_int64 m ap aE) fun aF aG aH w aI m aJ a f => ?_
    obtain ⟨aK, rfl, aL⟩ := aJ
    refine l_nil ?_
    refine k_ret ?_
    obtain rfl := sj am
    obtain rfl := an _ rfl
    obtain rfl := sj hd
    exact ⟨[], trivial, f.defers, _, [aK], (GLe.trans ao aI), m, _, rfl, aL⟩
   ·refine k_false f rfl aC ?_
    refine k_skip ?_
    refine k_seq (k_seq (k_region ?_))
    refine l_mv f rfl rfl fun a f => l_op f rfl rfl rfl (r_not (f.eval rfl)) fun a f => l_nil ?_
    obtain ⟨aM, aN, am⟩ := bind_some am
    refine k_cut (fun a w => ∃ aO : List (Value × List Int), ∃ aP : Int, (aO, aP) = aM ∧ ∃ (aQ : GH) (aR : Itm), GLe aj aQ ∧ Fr a 148 [(0, v0), (1, (.int .i64 ae)), (2, (.int .i64 af)), (3, (.int .i64 aP)), (4, (.func (.func 58) #[] #[])), (10, (.bool ah)), (11, (.bool ai)), (12, (.int .i64 (IntKind.i64.wrap (af - ae))))] ∧ Mem W aQ w (aR :: H) ∧ Ow (RTg (RI .i64)) 42 aQ aR v0 aO) ?_ ?_
    ·rcases cond_some aN with ⟨aS, aN⟩ | ⟨aS, aN⟩
     ·refine k_true f rfl aS ?_
      refine k_seq (k_region ?_)
      refine l_mv f rfl rfl fun a f => l_mv f rfl rfl fun a f => l_mv f rfl rfl fun a f => l_mv f rfl rfl fun a f => ?_
      obtain ⟨aT, aU, aN⟩ := bind_some aN
      refine l_res f rfl rfl Tryz.call156 (Wk.slices_breakPatternsCmpFunc_int64__slices_Compare_int64_int64 m ap aU) fun aV aW aX w aY m aZ a f => ?_
      obtain ⟨a0, rfl, a1⟩ := aZ
      refine l_nil (k_region ?_)
      refine l_mv f rfl rfl fun a f => l_in f rfl rfl rfl b_sub fun a f => l_as f rfl rfl fun a f => l_nil ?_
      obtain rfl := sj aN
      exact ⟨_, _, rfl, _, a0, aY, f.weak ⟨rfl, rfl, rfl, rfl, rfl, rfl, rfl, rfl, trivial⟩, m, a1⟩
     ·refine k_false f rfl aS ?_
      refine k_skip ?_
      obtain rfl := sj aN
      exact ⟨_, _, rfl, _, ak, (GLe.refl _), f.weak ⟨rfl, rfl, rfl, rfl, rfl, rfl, rfl, rfl, trivial⟩, m, ap⟩
    ·rintro a w ⟨aO, aP, rfl, aQ, aR, a2, f, m, a3⟩
     refine k_seq (k_region ?_)
     refine l_mv f rfl rfl fun a f => l_mv f rfl rfl fun a f => l_mv f rfl rfl fun a f => l_mv f rfl rfl fun a f => ?_
     obtain ⟨a4, a5, am⟩ := bind_some am
     refine l_res f rfl rfl Tryz.call157 (Wk.slices_choosePivotCmpFunc_int64__slices_Compare_int64_int64 m a3 a5) fun a6 a7 a8 w a9 m ba a f => ?_
     obtain ⟨bb, rfl, rfl, bc⟩ := ba
     refine l_mv f rfl rfl fun a f => l_op f rfl rfl rfl (r_extract (f.eval rfl) rfl) fun a f => l_op f rfl rfl rfl (r_extract (f.eval rfl) rfl) fun a f => l_as f rfl rfl fun a f => l_as f rfl rfl fun a f => l_nil (k_seq (k_seq (k_region ?_)))
     refine l_mv f rfl rfl fun a f => l_in f rfl rfl rfl b_eql fun a f => l_nil ?_
     obtain ⟨bd, be, am⟩ := bind_some am
     refine k_cut (fun a w => ∃ bf : List (Value × List Int), ∃ bg : Int, ∃ bh : Int, (bf, bg, bh) = bd ∧ ∃ (bi : GH) (bj : Itm), GLe a7 bi ∧ Fr a 148 [(0, v0), (1, (.int .i64 ae)), (2, (.int .i64 af)), (3, (.int .i64 aP)), (4, (.func (.func 58) #[] #[])), (10, (.bool ah)), (11, (.bool ai)), (12, (.int .i64 (IntKind.i64.wrap (af - ae)))), (13, (.int .i64 bg)), (14, (.int .i64 bh))] ∧ Mem W bi w (bj :: H) ∧ Ow (RTg (RI .i64)) 42 bi bj v0 bf) ?_ ?_
     ·rcases cond_some be with ⟨bk, be⟩ | ⟨bk, be⟩
      ·refine k_true f rfl bk ?_
       refine k_seq (k_region ?_)
       refine l_mv f rfl rfl fun a f => l_mv f rfl rfl fun a f => l_mv f rfl rfl fun a f => l_mv f rfl rfl fun a f => ?_
       obtain ⟨bl, bm, be⟩ := bind_some be
       refine l_res f rfl rfl Tryz.call158 (Wk.slices_reverseRangeCmpFunc_int64__slices_Compare_int64_int64 m bc bm) fun bn bo bp w bq m br a f => ?_
       obtain ⟨bs, rfl, bt⟩ := br
       refine l_nil (k_seq (k_region ?_))
       refine l_mv f rfl rfl fun a f => l_in f rfl rfl rfl b_sub fun a f => l_mv f rfl rfl fun a f => l_mv f rfl rfl fun a f => l_in f rfl rfl rfl b_sub fun a f => l_in f rfl rfl rfl b_sub fun a f => l_as f rfl rfl fun a f => l_nil (k_region ?_)
       refine l_as f rfl rfl fun a f => l_nil ?_
       obtain rfl := sj be
       exact ⟨_, _, _, rfl, _, bs, bq, f.weak ⟨rfl, rfl, rfl, rfl, rfl, rfl, rfl, rfl, rfl, rfl, trivial⟩, m, bt⟩
      ·refine k_false f rfl bk ?_
       refine k_skip ?_
       obtain rfl := sj be
       exact ⟨_, _, _, rfl, _, bb, (GLe.refl _), f.weak ⟨rfl, rfl, rfl, rfl, rfl, rfl, rfl, rfl, rfl, rfl, trivial⟩, m, bc⟩
     ·rintro a w ⟨bf, bg, bh, rfl, bi, bj, bu, f, m, bv⟩
      refine k_seq (k_seq (k_region ?_))
      refine l_mv f rfl rfl fun a f => l_mv f rfl rfl fun a f => ?_
      refine l_cut 2 (fun a w => ∃ bw, GLe bi bw ∧ Mem W bw w (bj :: H) ∧ Fr a 148 [(0, v0), (1, (.int .i64 ae)), (2, (.int .i64 af)), (3, (.int .i64 aP)), (4, (.func (.func 58) #[] #[])), (10, (.bool ah)), (11, (.bool ai)), (12, (.int .i64 (IntKind.i64.wrap (af - ae)))), (13, (.int .i64 bg)), (14, (.int .i64 bh)), (68, (.bool ah)), (69, (.bool ah)), (71, (.bool (ah && ai)))]) ?_ ?_
      ·rcases Bool.eq_false_or_eq_true ah with bx | bx
       ·refine l_run f rfl rfl bx ?_
        refine l_mv f rfl rfl fun a f => l_op f rfl rfl rfl (r_pickT (f.eval rfl) bx (f.eval rfl)) fun a f => ?_
        exact ⟨_, (GLe.refl _), m, f.weak ⟨rfl, rfl, rfl, rfl, rfl, rfl, rfl, rfl, rfl, rfl, rfl, rfl, by rw [bx]; rfl, trivial⟩⟩
       ·refine l_not' f rfl rfl rfl bx fun a f => ?_
        refine l_op f rfl rfl rfl (r_pickF (f.eval rfl) bx (f.eval rfl)) fun a f => ?_
        exact ⟨_, (GLe.refl _), m, f.weak ⟨rfl, rfl, rfl, rfl, rfl, rfl, rfl, rfl, rfl, rfl, rfl, rfl, by rw [bx]; rfl, trivial⟩⟩
      ·rintro a w ⟨bw, bz, m, f⟩
       have bv := Ow.mono (RTg.mono (RI.mono _)) bz bv
       refine l_mv f rfl rfl fun a f => ?_
       refine l_cut 3 (fun a w => ∃ bA, GLe bw bA ∧ Mem W bA w (bj :: H) ∧ Fr a 148 [(0, v0), (1, (.int .i64 ae)), (2, (.int .i64 af)), (3, (.int .i64 aP)), (4, (.func (.func 58) #[] #[])), (10, (.bool ah)), (11, (.bool ai)), (12, (.int .i64 (IntKind.i64.wrap (af - ae)))), (13, (.int .i64 bg)), (14, (.int .i64 bh)), (68, (.bool ah)), (69, (.bool ah)), (71, (.bool (ah && ai))), (72, (.bool (ah && ai))), (75, (.bool ((ah && ai) && (bh == 1))))]) ?_ ?_
       ·rcases Bool.eq_false_or_eq_true (ah && ai) with bB | bB
        ·refine l_run f rfl rfl bB ?_
         refine l_mv f rfl rfl fun a f => l_run f rfl rfl bB ?_
         refine l_in f rfl rfl rfl b_eql fun a f => l_op f rfl rfl rfl (r_pickT (f.eval rfl) bB (f.eval rfl)) fun a f => ?_
         exact ⟨_, (GLe.refl _), m, f.weak ⟨rfl, rfl, rfl, rfl, rfl, rfl, rfl, rfl, rfl, rfl, rfl, rfl, rfl, rfl, by rw [bB]; rfl, trivial⟩⟩
        ·refine l_not' f rfl rfl rfl bB fun a f => ?_
         refine l_not' f rfl rfl rfl bB fun a f => l_op f rfl rfl rfl (r_pickF (f.eval rfl) bB (f.eval rfl)) fun a f => ?_
         exact ⟨_, (GLe.refl _), m, f.weak ⟨rfl, rfl, rfl, rfl, rfl, rfl, rfl, rfl, rfl, rfl, rfl, rfl, rfl, rfl, by rw [bB]; rfl, trivial⟩⟩
       ·rintro a w ⟨bA, bC, m, f⟩
        have bv := Ow.mono (RTg.mono (RI.mono _)) bC bv
        refine l_nil ?_
        obtain ⟨bD, bE, am⟩ := bind_some am
        refine k_cut (fun a w => ∃ j_513' : (List (Value × List Int)), bD = .inl j_513' ∧ ∃ bF : List (Value × List Int), bF = j_513' ∧ ∃ (bG : GH) (bH : Itm), GLe bA bG ∧ Fr a 148 [(0, v0), (1, (.int .i64 ae)), (2, (.int .i64 af)), (3, (.int .i64 aP)), (4, (.func (.func 58) #[] #[])), (10, (.bool ah)), (11, (.bool ai)), (12, (.int .i64 (IntKind.i64.wrap (af - ae)))), (13, (.int .i64 bg))] ∧ Mem W bG w (bH :: H) ∧ Ow (RTg (RI .i64)) 42 bG bH v0 bF) ?_ ?_
        ·rcases cond_some bE with ⟨bI, bE⟩ | ⟨bI, bE⟩
         ·refine k_true f rfl bI ?_
          refine k_seq (k_region ?_)
          refine l_mv f rfl rfl fun a f => l_mv f rfl rfl fun a f => l_mv f rfl rfl fun a f => l_mv f rfl rfl fun a f => ?_
          obtain ⟨bJ, bK, bE⟩ := bind_some bE
          refine l_res f rfl rfl Tryz.call159 (Wk.slices_partialInsertionSortCmpFunc_int64__slices_Compare_int64_int64 m bv bK) fun bL bM bN w bO m bP a f => ?_
          obtain ⟨bQ, rfl, rfl, bR⟩ := bP
          refine l_nil ?_
          rcases cond_some bE with ⟨bS, bE⟩ | ⟨bS, bE⟩
          ·refine k_true f rfl bS ?_
           refine k_ret ?_
           obtain rfl := sj bE
           obtain rfl := sj am
           obtain rfl := an _ rfl
           obtain rfl := sj hd
           exact ⟨[], trivial, f.defers, _, [bQ], (GLe.trans ao (GLe.trans a2 (GLe.trans a9 (GLe.trans bu (GLe.trans bz (GLe.trans bC bO)))))), m, _, rfl, bR⟩
          ·refine k_false f rfl bS ?_
           refine k_skip ?_
           obtain rfl := sj bE
           exact ⟨_, rfl, _, rfl, _, bQ, bO, f.weak ⟨rfl, rfl, rfl, rfl, rfl, rfl, rfl, rfl, rfl, trivial⟩, m, bR⟩
         ·refine k_false f rfl bI ?_
          refine k_skip ?_
          obtain rfl := sj bE
          exact ⟨_, rfl, _, rfl, _, bj, (GLe.refl _), f.weak ⟨rfl, rfl, rfl, rfl, rfl, rfl, rfl, rfl, rfl, trivial⟩, m, bv⟩
        ·rintro a w ⟨_, rfl, bF, rfl, bG, bH, bT, f, m, bU⟩
         refine k_seq (k_seq ?_)
         refine k_draw 17 Follows (by kernel_rfl) m ?_
         refine q_mv 0 17 rfl (by kernel_rfl) f rfl rfl rfl fun a f => q_p 1 17 rfl (by kernel_rfl) f rfl rfl rfl (fun _ => r_int (f.eval rfl) (f.eval rfl) b_gtr) fun a f => q_mv 2 17 rfl (by kernel_rfl) f rfl rfl rfl fun a f => ?_
         obtain ⟨bV, bW, am⟩ := bind_some am
         refine q_cut (fuel' := 0) (listed' := #[true, true, true, true, true, true, true, true, true, true, true, true, true, true, true, true, true]) (fun a => Fr a 148 [(0, v0), (1, (.int .i64 ae)), (2, (.int .i64 af)), (3, (.int .i64 aP)), (4, (.func (.func 58) #[] #[])), (10, (.bool ah)), (11, (.bool ai)), (12, (.int .i64 (IntKind.i64.wrap (af - ae)))), (13, (.int .i64 bg)), (81, (.int .i64 ae)), (82, (.bool (decide ((0 : Int) < ae)))), (83, (.bool (decide ((0 : Int) < ae)))), (97, (.bool bV))]) ?_ ?_
         ·intro a f
          refine q_end fun bX w bY m => ?_
          have bU := Ow.mono (RTg.mono (RI.mono _)) bY bU
          refine l_nil ?_
          rcases cond_some am with ⟨bZ, am⟩ | ⟨bZ, am⟩
          ·refine k_true f rfl bZ ?_
           refine k_seq (k_region ?_)
           refine l_mv f rfl rfl fun a f => l_mv f rfl rfl fun a f => l_mv f rfl rfl fun a f => l_mv f rfl rfl fun a f => l_mv f rfl rfl fun a f => ?_
           obtain ⟨b0, b1, am⟩ := bind_some am
           refine l_res f rfl rfl Tryz.call160 (Wk.slices_partitionEqualCmpFunc_int64__slices_Compare_int64_int64 m bU b1) fun b2 b3 b4 w b5 m b6 a f => ?_
           obtain ⟨b7, rfl, rfl, b8⟩ := b6
           refine l_as f rfl rfl fun a f => l_nil (k_seq (k_region ?_))
           refine l_mv f rfl rfl fun a f => l_as f rfl rfl fun a f => l_nil ?_
           refine k_exit rfl ?_
           obtain rfl := sj am
           exact ⟨_, rfl, _, _, _, _, _, _, rfl, _, b7, (GLe.trans ao (GLe.trans a2 (GLe.trans a9 (GLe.trans bu (GLe.trans bz (GLe.trans bC (GLe.trans bT (GLe.trans bY b5)))))))), f.weak ⟨rfl, rfl, rfl, rfl, rfl, rfl, rfl, trivial⟩, m, b8⟩
          ·refine k_false f rfl bZ ?_
           refine k_skip ?_
           refine k_seq (k_region ?_)
           refine l_mv f rfl rfl fun a f => l_mv f rfl rfl fun a f => l_mv f rfl rfl fun a f => l_mv f rfl rfl fun a f => l_mv f rfl rfl fun a f => ?_
           obtain ⟨b9, ca, am⟩ := bind_some am
           refine l_res f rfl rfl Tryz.call161 (Wk.slices_partitionCmpFunc_int64__slices_Compare_int64_int64 m bU ca) fun cb cc cd w ce m cf a f => ?_
           obtain ⟨cg, rfl, rfl, ch⟩ := cf
           refine l_mv f rfl rfl fun a f => l_op f rfl rfl rfl (r_extract (f.eval rfl) rfl) fun a f => l_op f rfl rfl rfl (r_extract (f.eval rfl) rfl) fun a f => l_as f rfl rfl fun a f => l_as f rfl rfl fun a f => l_nil (k_seq (k_region ?_))
           refine l_mv f rfl rfl fun a f => l_as f rfl rfl fun a f => l_nil (k_seq (k_region ?_))
           refine l_mv f rfl rfl fun a f => l_mv f rfl rfl fun a f => l_in f rfl rfl rfl b_sub fun a f => l_mv f rfl rfl fun a f => l_mv f rfl rfl fun a f => l_in f rfl rfl rfl b_sub fun a f => l_as f rfl rfl fun a f => l_as f rfl rfl fun a f => l_nil (k_seq (k_region ?_))
           refine l_mv f rfl rfl fun a f => l_in f rfl rfl rfl (b_quo rfl) fun a f => l_as f rfl rfl fun a f => l_nil (k_seq (k_region ?_))
           refine l_mv f rfl rfl fun a f => l_mv f rfl rfl fun a f => l_in f rfl rfl rfl b_lss fun a f => l_nil ?_
           rcases cond_some am with ⟨ci, am⟩ | ⟨ci, am⟩
           ·refine k_true f rfl ci ?_
            refine k_seq (k_region ?_)
            refine l_mv f rfl rfl fun a f => l_mv f rfl rfl fun a f => l_in f rfl rfl rfl b_geq fun a f => l_as f rfl rfl fun a f => l_nil (k_seq (k_region ?_))
            refine l_mv f rfl rfl fun a f => l_mv f rfl rfl fun a f => l_mv f rfl rfl fun a f => l_mv f rfl rfl fun a f => l_mv f rfl rfl fun a f => ?_
            obtain ⟨cj, ck, am⟩ := bind_some am
            refine l_res f rfl rfl Tryz.call121 (ih m ch ck) fun cl cm cn w co m cp a f => ?_
            obtain ⟨cq, rfl, cr⟩ := cp
            refine l_nil (k_region ?_)
            refine l_mv f rfl rfl fun a f => l_in f rfl rfl rfl b_add fun a f => l_as f rfl rfl fun a f => l_nil ?_
            obtain rfl := sj am
            exact ⟨_, rfl, _, _, _, _, _, _, rfl, _, cq, (GLe.trans ao (GLe.trans a2 (GLe.trans a9 (GLe.trans bu (GLe.trans bz (GLe.trans bC (GLe.trans bT (GLe.trans bY (GLe.trans ce co))))))))), f.weak ⟨rfl, rfl, rfl, rfl, rfl, rfl, rfl, trivial⟩, m, cr⟩
           ·refine k_false f rfl ci ?_
            refine k_seq (k_region ?_)
            refine l_mv f rfl rfl fun a f => l_mv f rfl rfl fun a f => l_in f rfl rfl rfl b_geq fun a f => l_as f rfl rfl fun a f => l_nil (k_seq (k_region ?_))
            refine l_mv f rfl rfl fun a f => l_mv f rfl rfl fun a f => l_in f rfl rfl rfl b_add fun a f => l_mv f rfl rfl fun a f => l_mv f rfl rfl fun a f => l_mv f rfl rfl fun a f => ?_
            obtain ⟨cs, ct, am⟩ := bind_some am
            refine l_res f rfl rfl Tryz.call121 (ih m ch ct) fun cu cv cw w cx m cy a f => ?_
            obtain ⟨cz, rfl, cA⟩ := cy
            refine l_nil (k_region ?_)
            refine l_mv f rfl rfl fun a f => l_as f rfl rfl fun a f => l_nil ?_
            obtain rfl := sj am
            exact ⟨_, rfl, _, _, _, _, _, _, rfl, _, cz, (GLe.trans ao (GLe.trans a2 (GLe.trans a9 (GLe.trans bu (GLe.trans bz (GLe.trans bC (GLe.trans bT (GLe.trans bY (GLe.trans ce cx))))))))), f.weak ⟨rfl, rfl, rfl, rfl, rfl, rfl, rfl, trivial⟩, m, cA⟩
         ·intro cB
          rcases cond_some bW with ⟨cC, bW⟩ | ⟨cC, bW⟩
          ·refine q_mv 3 17 rfl (by kernel_rfl) f (wanted_of f rfl rfl rfl cC) rfl rfl fun a f => ?_
           refine q_mv 4 17 rfl (by kernel_rfl) f (wanted_of f rfl rfl rfl cC) rfl rfl fun a f => q_mv 5 17 rfl (by kernel_rfl) f (wanted_of f rfl rfl rfl cC) rfl rfl fun a f => q_p 6 17 rfl (by kernel_rfl) f (wanted_of f rfl rfl rfl cC) rfl rfl (fun _ => r_int (f.eval rfl) (f.eval rfl) b_sub) fun a f => ?_
           obtain ⟨cD, cE, bW⟩ := bind_some bW
           refine q_own_at (i := 7) 17 0 m bU rfl T22 cE rfl (by kernel_rfl) rfl f (wanted_of f rfl rfl rfl cC) rfl rfl rfl fun cF a cG f => q_own_load (i := 8) 17 0 bU rfl Pl42 cG cE rfl (by kernel_rfl) rfl f (wanted_of f rfl rfl rfl cC) rfl rfl fun cH a cI f => q_mv 9 17 rfl (by kernel_rfl) f (wanted_of f rfl rfl rfl cC) rfl rfl fun a f => q_mv 10 17 rfl (by kernel_rfl) f (wanted_of f rfl rfl rfl cC) rfl rfl fun a f => ?_
           obtain ⟨cJ, cK, bW⟩ := bind_some bW
           refine q_own_at (i := 11) 17 0 m bU rfl T22 cK rfl (by kernel_rfl) rfl f (wanted_of f rfl rfl rfl cC) rfl rfl rfl fun cL a cM f => q_own_load (i := 12) 17 0 bU rfl Pl42 cM cK rfl (by kernel_rfl) rfl f (wanted_of f rfl rfl rfl cC) rfl rfl fun cN a cO f => ?_
           obtain ⟨cP, cQ, bW⟩ := bind_some bW
           refine q_callv (i := 13) 17 rfl (by kernel_rfl) rfl f (wanted_of f rfl rfl rfl cC) rfl rfl rfl Tryz.call58 (fun _ _ w cR m => Wk.slices_Compare_int64_int64 m (rd1 cR (cI.2)) (rd1 cR (cO.2)) cQ) fun a f => q_p 14 17 rfl (by kernel_rfl) f (wanted_of f rfl rfl rfl cC) rfl rfl (fun _ => r_int (f.eval rfl) (f.eval rfl) b_lss) fun a f => q_p 15 17 rfl (by kernel_rfl) f (wanted_of f rfl rfl rfl cC) rfl rfl (fun _ => r_not (f.eval rfl)) fun a f => q_p 16 17 rfl (by kernel_rfl) f rfl rfl rfl (fun _ => r_pickT (f.eval rfl) cC (f.eval rfl)) fun a f => ?_
           obtain rfl := sj bW
           exact cB _ (f.weak ⟨rfl, rfl, rfl, rfl, rfl, rfl, rfl, rfl, rfl, rfl, rfl, rfl, rfl, trivial⟩)
          ·refine q_ng 3 17 rfl (by kernel_rfl) f rfl rfl cC rfl fun a f => ?_
           refine q_ng 4 17 rfl (by kernel_rfl) f rfl rfl cC rfl fun a f => q_ng 5 17 rfl (by kernel_rfl) f rfl rfl cC rfl fun a f => q_ng 6 17 rfl (by kernel_rfl) f rfl rfl cC rfl fun a f => q_ng 7 17 rfl (by kernel_rfl) f rfl rfl cC rfl fun a f => q_ng 8 17 rfl (by kernel_rfl) f rfl rfl cC rfl fun a f => q_ng 9 17 rfl (by kernel_rfl) f rfl rfl cC rfl fun a f => q_ng 10 17 rfl (by kernel_rfl) f rfl rfl cC rfl fun a f => q_ng 11 17 rfl (by kernel_rfl) f rfl rfl cC rfl fun a f => q_ng 12 17 rfl (by kernel_rfl) f rfl rfl cC rfl fun a f => q_ng 13 17 rfl (by kernel_rfl) f rfl rfl cC rfl fun a f => q_ng 14 17 rfl (by kernel_rfl) f rfl rfl cC rfl fun a f => q_ng 15 17 rfl (by kernel_rfl) f rfl rfl cC rfl fun a f => q_p 16 17 rfl (by kernel_rfl) f rfl rfl rfl (fun _ => r_pickF (f.eval rfl) cC (f.eval rfl)) fun a f => ?_
           obtain rfl := sj bW
           exact cB _ (f.weak ⟨rfl, rfl, rfl, rfl, rfl, rfl, rfl, rfl, rfl, rfl, rfl, rfl, rfl, trivial⟩)

theorem Wk.slices_pdqsortCmpFunc_int64__slices_Compare_int64_int64 {W w : World} {G : GH} {H : List Itm} {v0 : Value} {it0 : Itm} {x0 : (List (Value × List Int))} {x1 : Int} {x2 : Int} {x3 : Int} (m : Mem W G w (it0 :: H)) (o0 : Ow (RTg (RI .i64)) 42 G it0 v0 x0) {y : ((List (Value × List Int)))} (hd : D.slices_pdqsortCmpFunc_int64__slices_Compare_int64_int64 x0 x1 x2 x3 = some y) :
  Calls Tryz.prog 121 #[v0, (.int .i64 x1), (.int .i64 x2), (.int .i64 x3), (.func (.func 58) #[] #[])] w (Res W G H (fun G' Ho _ => ∃ i0 : Itm, Ho = [i0] ∧ Ow (RTg (RI .i64)) 42 G' i0 v0 y)) := by
 exact Wk.slices_pdqsortCmpFunc_int64__slices_Compare_int64_int64R recFuel m o0 hd

theorem Wk.slices_SortFunc_int64_int64__slices_Compare_int64_int64 {W w : World} {G : GH} {H : List Itm} {v0 : Value} {it0 : Itm} {x0 : (List (Value × List Int))} (m : Mem W G w (it0 :: H)) (o0 : Ow (RTg (RI .i64)) 42 G it0 v0 x0) {y : ((List (Value × List Int)))} (hd : D.slices_SortFunc_int64_int64__slices_Compare_int64_int64 x0 = some y) :
  Calls Tryz.prog 57 #[v0, (.func (.func 58) #[] #[])] w (Res W G H (fun G' Ho _ => ∃ i0 : Itm, Ho = [i0] ∧ Ow (RTg (RI .i64)) 42 G' i0 v0 y)) := by
 refine calls_b (args := [v0, (.func (.func 58) #[] #[])]) (N := 14) [] Tryz.func57 rfl rfl (Nat.le_of_ble_eq_true rfl) rfl fun a f => ?_
 unfold D.slices_SortFunc_int64_int64__slices_Compare_int64_int64 at hd
 refine k_seq (k_region ?_)
 refine l_mv f rfl rfl fun a f => l_own_len 0 m o0 rfl Tryz.underlying22 f rfl rfl fun a f => l_as f rfl rfl fun a f => l_nil (k_region ?_)
 refine l_mv f rfl rfl fun a f => l_mv f rfl rfl fun a f => l_mv f rfl rfl fun a f => l_op f rfl rfl rfl (r_conv (f.eval rfl) ⟨_, Tryz.underlying3⟩ Tryz.underlying135) fun a f => ?_
 obtain ⟨aa, ab, hd⟩ := bind_some hd
 refine l_res f rfl rfl Tryz.call122 (Wk.math_bits_Len m  ab) fun ac ad ae w af m ag a f => ?_
 obtain ⟨rfl, rfl⟩ := ag
 have o0 := Ow.mono (RTg.mono (RI.mono _)) af o0
 refine l_mv f rfl rfl fun a f => ?_
 obtain ⟨ah, ai, hd⟩ := bind_some hd
 refine l_res f rfl rfl Tryz.call121 (Wk.slices_pdqsortCmpFunc_int64__slices_Compare_int64_int64 m o0 ai) fun aj ak al w am m an a f => ?_
 obtain ⟨ao, rfl, ap⟩ := an
 refine l_nil ?_
 obtain rfl := sj hd
 exact ⟨[], trivial, f.defers, _, [ao], (GLe.trans af am), m, _, rfl, ap⟩

theorem Wk.impl_decompBy {W w : World} {G : GH} {H : List Itm} {v0 : Value} {v1 : Value} {x0 : (List Int)} {x1 : (List Int)} (hW : TabW W) (m : Mem W G w (H)) (h0 : RSl (RI .u32) G v0 x0) (h1 : RSl (RI .i64) G v1 x1) {y : ((List (List Int))) × ((List (List Int)))} (hd : D.impl_decompBy x0 x1 = some y) :
  Calls Tryz.prog 72 #[v0, v1] w (Res W G H (fun G' Ho v => ∃ r0 : Value, ∃ i0 : Itm, ∃ r2 : Value, ∃ i2 : Itm, Ho = [i0, i2] ∧ v = (.agg #[r0, r2]) ∧ Ow2 (RI .i64) 42 2 G' i0 r0 y.1 ∧ Ow2 (RI .i64) 42 2 G' i2 r2 y.2)) := by
 refine calls_b (args := [v0, v1]) (N := 104) [.cell 4 27] Tryz.func72 rfl rfl (Nat.le_of_ble_eq_true rfl) rfl fun a f => ?_
 unfold D.impl_decompBy at hd
 refine k_seq (k_region ?_)
 refine l_alloc (cs := [(.slice none 0 0), (.slice none 0 0)]) Tryz.zeroValue27 m f rfl rfl fun aa w a m f => l_nil (k_seq (k_region ?_))
 refine l_mv f rfl rfl fun a f => l_mv f rfl rfl fun a f => ?_
 obtain ⟨ab, ac, hd⟩ := bind_some hd
 refine l_res f rfl rfl Tryz.call135 (Wk.impl_elimination hW m h0 h1 ac) fun ad ae af w ag m ah a f => ?_
 obtain ⟨ai, aj, ak, al, rfl, rfl, am, an⟩ := ah
 have h0 := rd1 ag h0
 have h1 := rd1 ag h1
 refine l_mv f rfl rfl fun a f => l_op f rfl rfl rfl (r_extract (f.eval rfl) rfl) fun a f => l_op f rfl rfl rfl (r_extract (f.eval rfl) rfl) fun a f => l_as f rfl rfl fun a f => l_as f rfl rfl fun a f => l_nil (k_seq (k_region ?_))
 refine l_mv f rfl rfl fun a f => l_len Tryz.underlying94 f rfl rfl h1 fun a f => ?_
 obtain ⟨ao, ap, hd⟩ := bind_some hd
 refine l_make (R := (RI .i64)) m T94 rfl (by decide) rfl f rfl rfl rfl ap fun aq ar w a m au f => l_as f rfl rfl fun a f => l_nil (k_seq (k_seq (k_region ?_)))
 refine l_mv f rfl rfl fun a f => l_len Tryz.underlying94 f rfl rfl h1 fun a f => l_mv f rfl rfl fun a f => l_nil ?_
 obtain ⟨av, aw, hd⟩ := bind_some hd
 refine k_cut (fun a w => ∃ ax : List Int, ax = av ∧ ∃ (ay : GH) (az : Itm), GLe ae ay ∧ Fr a 104 [(1, v1), (4, (.pointer (some ⟨aa, 0, none⟩))), (6, ak), (7, ar)] ∧ Mem W ay w (Itm.box aa 27 [(.slice none 0 0), (.slice none 0 0)] :: al :: az :: H) ∧ Ow (RI .i64) 3 ay az ar ax) ?_ ?_
 ·refine k_block ?_
  have m := m.front 2 rfl
  have m := m.front 3 rfl
  have m := m.eraseAt 3
  refine k_loop (fun aA a w => ∃ aB : List Int, ∃ aC : Int, (aB, aC) = aA ∧ ∃ (aD : GH) (aE : Itm), GLe ae aD ∧ Fr a 104 [(1, v1), (4, (.pointer (some ⟨aa, 0, none⟩))), (6, ak), (7, ar), (25, v1), (26, (.int .i64 (x1.length : Int))), (27, (.int .i64 aC))] ∧ Mem W aD w (Itm.box aa 27 [(.slice none 0 0), (.slice none 0 0)] :: al :: aE :: H) ∧ Ow (RI .i64) 3 aD aE ar aB) aw ⟨_, _, rfl, _, aq, (GLe.refl _), f.weak ⟨rfl, rfl, rfl, rfl, rfl, rfl, rfl, trivial⟩, m, au⟩ ?_
  clear aw f m
  rintro aA aF aG aH a w ⟨aB, aC, rfl, aD, aE, aI, f, m, aJ⟩
  have h1 := rd1 aI h1
  have an := od1 aI an
  refine k_seq (k_region ?_)
  refine l_in f rfl rfl rfl b_lss fun a f => l_nil (k_seq ?_)
  rcases cond_some aG with ⟨aK, aG⟩ | ⟨aK, aG⟩
  ·refine k_true f rfl aK ?_
   refine k_skip ?_
   refine k_seq (k_block (k_seq (k_region ?_)))
   refine l_mv f rfl rfl fun a f => ?_
   obtain ⟨aL, aM, aG⟩ := bind_some aG
   refine l_at T94 f rfl rfl rfl h1 aM fun aN aO a aP aQ f => ?_
   subst aQ
   refine l_loadAt m Pl3 f rfl rfl aP fun a f => l_as f rfl rfl fun a f => l_as f rfl rfl fun a f => l_nil (k_region ?_)
   refine l_mv f rfl rfl fun a f => l_mv f rfl rfl fun a f => l_mv f rfl rfl fun a f => ?_
   obtain ⟨aR, aS, aG⟩ := bind_some aG
   refine l_own_at 2 m aJ rfl T94 f rfl rfl rfl aS fun aT a aU f => l_own_store 2 m aJ rfl Tryz.sizeOf3 f rfl rfl aU aS rfl rfl rfl fun aV w m aW => l_nil (k_region ?_)
   refine l_in f rfl rfl rfl b_add fun a f => l_mv f rfl rfl fun a f => l_nil ?_
   obtain rfl := sj aG
   exact ⟨_, rfl, _, _, rfl, _, aV, aI, f.weak ⟨rfl, rfl, rfl, rfl, rfl, rfl, rfl, trivial⟩, m, aW⟩
  ·refine k_false f rfl aK ?_
   refine k_exit rfl ?_
   obtain rfl := sj aG
   obtain rfl := aH _ rfl
   exact ⟨_, rfl, _, aE, aI, f.weak ⟨rfl, rfl, rfl, rfl, trivial⟩, m, aJ⟩
 ·rintro a w ⟨ax, rfl, ay, az, aX, f, m, aY⟩
  have h1 := rd1 aX h1
  have an := od1 aX an
  refine k_seq (k_region ?_)
  have aZ : ∀ w, (Instr.build 27 #[]).run Tryz.prog w = .ok (.agg #[(.slice none 0 0), (.slice none 0 0)]) w := by intro w; simp [Instr.build, Instr.fill, cells_int, cells_bool, cells_string, cells_slice, cells_pointer, cells_agg]
  refine l_build f rfl rfl aZ fun a f => l_alloc (cs := [(.slice none 0 0), (.slice none 0 0)]) Tryz.zeroValue27 m f rfl rfl fun a0 w a m f => l_boxStore 0 0 (ds := [(.slice none 0 0), (.slice none 0 0)]) m Tryz.sizeOf27 f rfl rfl rfl (ones_cons rfl (ones_cons rfl ones_nil)) rfl (Nat.le_of_ble_eq_true rfl) rfl fun w m => l_nil (k_seq (k_seq (k_region ?_)))
  refine l_mv f rfl rfl fun a f => l_len Tryz.underlying94 f rfl rfl h1 fun a f => l_mv f rfl rfl fun a f => l_nil ?_
  obtain ⟨a1, m, a2⟩ := Ow2.nil (RI .i64) 42 2 m
  obtain ⟨a3, m, a4⟩ := Ow2.nil (RI .i64) 42 2 m
  obtain ⟨a5, a6, hd⟩ := bind_some hd
  refine k_cut (fun a w => ∃ a7 : List (List Int), ∃ a8 : List (List Int), (a7, a8) = a5 ∧ ∃ (a9 : GH) (ba : Value) (bb : Itm) (bc : Value) (bd : Itm), GLe ay a9 ∧ Fr a 104 [(4, (.pointer (some ⟨aa, 0, none⟩))), (10, (.pointer (some ⟨a0, 0, none⟩)))] ∧ Mem W a9 w (Itm.box aa 27 [(.slice none 0 0), (.slice none 0 0)] :: Itm.box a0 27 [ba, bc] :: bb :: bd :: H) ∧ Ow2 (RI .i64) 42 2 a9 bb ba a7 ∧ Ow2 (RI .i64) 42 2 a9 bd bc a8) ?_ ?_
  ·refine k_block ?_
   have m := m.front 1 rfl
   have m := m.front 5 rfl
   have m : Mem W ay w (al :: az :: a1 :: a3 :: Itm.box a0 27 [(.slice none 0 0), (.slice none 0 0)] :: Itm.box aa 27 [(.slice none 0 0), (.slice none 0 0)] :: H) := m.front 5 rfl
   have m := m.front 4 rfl
   have m : Mem W ay w (Itm.box aa 27 [(.slice none 0 0), (.slice none 0 0)] :: Itm.box a0 27 [(.slice none 0 0), (.slice none 0 0)] :: al :: az :: a1 :: a3 :: H) := m.front 5 rfl
   refine k_loop (fun be a w => ∃ bf : Int, ∃ bg : List (List Int), ∃ bh : List (List Int), (bf, bg, bh) = be ∧ ∃ (bi : GH) (bj : Value) (bk : Itm) (bl : Value) (bm : Itm), GLe ay bi ∧ Fr a 104 [(1, v1), (4, (.pointer (some ⟨aa, 0, none⟩))), (6, ak), (7, ar), (10, (.pointer (some ⟨a0, 0, none⟩))), (38, v1), (39, (.int .i64 (x1.length : Int))), (40, (.int .i64 bf))] ∧ Mem W bi w (Itm.box aa 27 [(.slice none 0 0), (.slice none 0 0)] :: Itm.box a0 27 [bj, bl] :: al :: az :: bk :: bm :: H) ∧ Ow2 (RI .i64) 42 2 bi bk bj bg ∧ Ow2 (RI .i64) 42 2 bi bm bl bh) a6 ⟨_, _, _, rfl, _, (.slice none 0 0), a1, (.slice none 0 0), a3, (GLe.refl _), f.weak ⟨rfl, rfl, rfl, rfl, rfl, rfl, rfl, rfl, trivial⟩, m, a2, a4⟩ ?_
   clear a6 f m
   rintro be bn bo bp a w ⟨bf, bg, bh, rfl, bi, bj, bk, bl, bm, bq, f, m, br, bs⟩
   have h1 := rd1 bq h1
   have an := od1 bq an
   have aY := od1 bq aY
   refine k_seq (k_region ?_)
   refine l_in f rfl rfl rfl b_lss fun a f => l_nil (k_seq ?_)
   rcases cond_some bo with ⟨bt, bo⟩ | ⟨bt, bo⟩
   ·refine k_true f rfl bt ?_
    refine k_skip ?_
    refine k_seq (k_block (k_seq (k_region ?_)))
    refine l_mv f rfl rfl fun a f => ?_
    obtain ⟨bu, bv, bo⟩ := bind_some bo
    refine l_at T94 f rfl rfl rfl h1 bv fun bw bx a bz bA f => ?_
    subst bA
    refine l_loadAt m Pl3 f rfl rfl bz fun a f => l_as f rfl rfl fun a f => l_as f rfl rfl fun a f => l_nil (k_seq ?_)
    refine k_draw 11 Follows (by kernel_rfl) m ?_
    refine q_fieldAddr (i := 0) 11 Tryz.underlying27 rfl Tryz.sizeOf22 (by decide) rfl (by kernel_rfl) rfl f rfl rfl rfl fun a f => q_boxCell (i := 1) 11 1 Pl22 rfl rfl rfl (by kernel_rfl) rfl f rfl rfl rfl fun a f => q_mv 2 11 rfl (by kernel_rfl) f rfl rfl rfl fun a f => q_mv 3 11 rfl (by kernel_rfl) f rfl rfl rfl fun a f => ?_
    obtain ⟨bB, bC, bo⟩ := bind_some bo
    refine q_own_at (i := 4) 11 2 m an rfl T73 bC rfl (by kernel_rfl) rfl f rfl rfl rfl rfl fun bD a bE f => q_own_load (i := 5) 11 2 an rfl Pl76 bE bC rfl (by kernel_rfl) rfl f rfl rfl rfl fun bF a bG f => ?_
    subst bG
    refine q_mv 6 11 rfl (by kernel_rfl) f rfl rfl rfl fun a f => ?_
    obtain ⟨bH, bI, bo⟩ := bind_some bo
    refine q_call (i := 7) 11 rfl (by kernel_rfl) rfl f rfl rfl rfl Tryz.call100 (fun _ _ w bJ m => Wk.impl_one m  bI) fun a f => q_p 8 11 rfl (by kernel_rfl) f rfl rfl rfl (fun _ => r_int (f.eval rfl) (f.eval rfl) b_or) fun a f => q_one (i := 9) rfl (by kernel_rfl) rfl fun bK w bL m bM bM => ?_
    have h1 := rd1 bL h1
    have an := od1 bL an
    have aY := od1 bL aY
    have br := Ow2.mono (RI.mono _) bL br
    have bs := Ow2.mono (RI.mono _) bL bs
    obtain ⟨bN, bO, bo⟩ := bind_some bo
    refine l_res f rfl rfl Tryz.call124 (Wk.impl_vset_numbers hW m  bO) fun bP bQ bR w bS m bT a f => ?_
    obtain ⟨bU, bV, rfl, rfl, bW⟩ := bT
    have h1 := rd1 bS h1
    have an := od1 bS an
    have aY := od1 bS aY
    have br := Ow2.mono (RI.mono _) bS br
    have bs := Ow2.mono (RI.mono _) bS bs
    refine l_nil ?_
    refine bM bQ [bV] _ _ bS m ?_
    refine q_one (i := 10) rfl (by kernel_rfl) rfl fun bX w bY m bZ bZ => ?_
    have h1 := rd1 bY h1
    have bW := od1 bY bW
    have an := od1 bY an
    have aY := od1 bY aY
    have br := Ow2.mono (RI.mono _) bY br
    have bs := Ow2.mono (RI.mono _) bY bs
    refine l_slit (R := RawS) (xs := [bU]) RawS.one m T22 f rfl rfl rfl (by decide) (All2.cons ⟨rfl, Ow.one1 0 m bW rfl, Ow.cells 0 m bW rfl⟩ (All2.nil _)) fun b0 b1 w a m b2 f => l_nil ?_
    refine bZ bX [b0, bV] _ _ (GLe.refl _) m ?_
    refine q_end fun b3 w b4 m => ?_
    have h1 := rd1 b4 h1
    have b2 := Ow.mono RawS.mono b4 b2
    have bW := od1 b4 bW
    have an := od1 b4 an
    have aY := od1 b4 aY
    have br := Ow2.mono (RI.mono _) b4 br
    have bs := Ow2.mono (RI.mono _) b4 bs
    have m := m.front 1 rfl
    have m : Mem W b3 w (bk :: bV :: b0 :: Itm.box aa 27 [(.slice none 0 0), (.slice none 0 0)] :: Itm.box a0 27 [bj, bl] :: al :: az :: bm :: H) := m.front 6 rfl
    obtain ⟨b5, b6, bo⟩ := bind_some bo
    refine l_append2 m br bW b2 T22 rfl (by decide) f rfl rfl rfl b6 fun b7 b8 w a m b9 f => l_fieldAddr Tryz.underlying27 rfl Tryz.sizeOf22 (by decide) f rfl rfl fun a f => l_boxStore 2 0 (ds := [b8]) m Tryz.sizeOf22 f rfl rfl (Ow2.cells 0 m b9 rfl) (ones_cons (Ow2.one1 0 m b9 rfl) ones_nil) rfl (Nat.le_of_ble_eq_true rfl) rfl fun w m => l_nil (k_seq (k_seq (k_region ?_)))
    refine l_mv f rfl rfl fun a f => l_mv f rfl rfl fun a f => l_len Tryz.underlying94 f rfl rfl h1 fun a f => l_in f rfl rfl rfl b_sub fun a f => l_in f rfl rfl rfl b_eql fun a f => l_nil ?_
    rcases cond_some bo with ⟨ca, bo⟩ | ⟨ca, bo⟩
    ·refine k_true f rfl ca ?_
     refine k_exit rfl ?_
     have m := m.front 5 rfl
     have m := m.front 1 rfl
     have m : Mem W b3 w (Itm.box a0 27 [b8, bl] :: b7 :: bm :: Itm.box aa 27 [(.slice none 0 0), (.slice none 0 0)] :: al :: az :: H) := m.front 3 rfl
     have m := m.front 3 rfl
     have m := m.eraseAt 5
     have m : Mem W b3 w (Itm.box aa 27 [(.slice none 0 0), (.slice none 0 0)] :: Itm.box a0 27 [b8, bl] :: b7 :: bm :: H) := m.eraseAt 4
     obtain rfl := sj bo
     obtain rfl := bp _ rfl
     exact ⟨_, _, rfl, _, b8, b7, bl, bm, (GLe.trans bq (GLe.trans bL (GLe.trans bS (GLe.trans bY b4)))), f.weak ⟨rfl, rfl, trivial⟩, m, b9, bs⟩
    ·refine k_false f rfl ca ?_
     refine k_skip ?_
     refine k_seq (k_region ?_)
     refine l_mv f rfl rfl fun a f => l_in f rfl rfl rfl b_add fun a f => l_as f rfl rfl fun a f => l_nil (k_seq (k_seq (k_region ?_)))
     refine l_mv f rfl rfl fun a f => l_mv f rfl rfl fun a f => ?_
     obtain ⟨cb, cc, bo⟩ := bind_some bo
     refine l_own_at 3 m an rfl T73 f rfl rfl rfl cc fun cd a ce f => l_own_load 3 m an rfl Pl76 f rfl rfl ce cc fun cf a cg f => ?_
     subst cg
     obtain ⟨ch, ci, bo⟩ := bind_some bo
     refine l_res f rfl rfl Tryz.call103 (Wk.impl_vset_list hW m  ci) fun cj ck cl w cm m cn a f => ?_
     obtain ⟨co, cp, rfl, rfl, cq⟩ := cn
     have h1 := rd1 cm h1
     have b9 := Ow2.mono (RI.mono _) cm b9
     have an := od1 cm an
     have aY := od1 cm aY
     have bs := Ow2.mono (RI.mono _) cm bs
     refine l_own_len 0 m cq rfl Tryz.underlying94 f rfl rfl fun a f => l_mv f rfl rfl fun a f => l_nil ?_
     obtain ⟨cr, ct, bo⟩ := bind_some bo
     refine k_cut (fun a w => ∃ cu : Int, cu = cr ∧ ∃ (cv : GH), GLe ck cv ∧ Fr a 104 [(1, v1), (4, (.pointer (some ⟨aa, 0, none⟩))), (6, ak), (7, ar), (10, (.pointer (some ⟨a0, 0, none⟩))), (11, (.int .i64 bf)), (13, (.int .i64 cu)), (38, v1), (39, (.int .i64 (x1.length : Int))), (40, (.int .i64 bf))] ∧ Mem W cv w (Itm.box aa 27 [(.slice none 0 0), (.slice none 0 0)] :: Itm.box a0 27 [b8, bl] :: al :: az :: b7 :: bm :: H)) ?_ ?_
     ·refine k_block ?_
      have m := m.front 5 rfl
      have m := m.front 5 rfl
      have m : Mem W ck w (Itm.box a0 27 [b8, bl] :: al :: az :: cp :: b7 :: Itm.box aa 27 [(.slice none 0 0), (.slice none 0 0)] :: bm :: H) := m.front 5 rfl
      have m : Mem W ck w (Itm.box aa 27 [(.slice none 0 0), (.slice none 0 0)] :: Itm.box a0 27 [b8, bl] :: al :: az :: cp :: b7 :: bm :: H) := m.front 5 rfl
      refine k_loop (fun cw a w => ∃ cx : Int, ∃ cy : Int, (cx, cy) = cw ∧ ∃ (cz : GH), GLe ck cz ∧ Fr a 104 [(1, v1), (4, (.pointer (some ⟨aa, 0, none⟩))), (6, ak), (7, ar), (10, (.pointer (some ⟨a0, 0, none⟩))), (11, (.int .i64 bf)), (13, (.int .i64 cx)), (38, v1), (39, (.int .i64 (x1.length : Int))), (40, (.int .i64 bf)), (69, co), (70, (.int .i64 (ch.length : Int))), (71, (.int .i64 cy))] ∧ Mem W cz w (Itm.box aa 27 [(.slice none 0 0), (.slice none 0 0)] :: Itm.box a0 27 [b8, bl] :: al :: az :: cp :: b7 :: bm :: H)) ct ⟨_, _, rfl, _, (GLe.refl _), f.weak ⟨rfl, rfl, rfl, rfl, rfl, rfl, rfl, rfl, rfl, rfl, rfl, rfl, rfl, trivial⟩, m⟩ ?_
      clear ct f m
      rintro cw cA cB cC a w ⟨cx, cy, rfl, cz, cD, f, m⟩
      have h1 := rd1 cD h1
      have an := od1 cD an
      have aY := od1 cD aY
      have cq := od1 cD cq
      have b9 := Ow2.mono (RI.mono _) cD b9
      have bs := Ow2.mono (RI.mono _) cD bs
      refine k_seq (k_region ?_)
      refine l_in f rfl rfl rfl b_lss fun a f => l_nil (k_seq ?_)
      rcases cond_some cB with ⟨cE, cB⟩ | ⟨cE, cB⟩
      ·refine k_true f rfl cE ?_
       refine k_skip ?_
       refine k_seq (k_block (k_seq (k_region ?_)))
       refine l_mv f rfl rfl fun a f => ?_
       obtain ⟨cF, cG, cB⟩ := bind_some cB
       refine l_own_at 4 m cq rfl T94 f rfl rfl rfl cG fun cH a cI f => l_own_load 4 m cq rfl Pl3 f rfl rfl cI cG fun cJ a cK f => ?_
       subst cK
       refine l_as f rfl rfl fun a f => l_as f rfl rfl fun a f => l_nil (k_seq (k_region ?_))
       refine l_mv f rfl rfl fun a f => l_in f rfl rfl rfl b_eql fun a f => l_mv f rfl rfl fun a f => ?_
       obtain ⟨cL, cM, cB⟩ := bind_some cB
       refine l_cut 7 (fun a w => ∃ cN, GLe cz cN ∧ Mem W cN w (Itm.box aa 27 [(.slice none 0 0), (.slice none 0 0)] :: Itm.box a0 27 [b8, bl] :: al :: az :: cp :: b7 :: bm :: H) ∧ Fr a 104 [(1, v1), (4, (.pointer (some ⟨aa, 0, none⟩))), (6, ak), (7, ar), (10, (.pointer (some ⟨a0, 0, none⟩))), (11, (.int .i64 bf)), (13, (.int .i64 cx)), (14, (.int .i64 cy)), (15, (.int .i64 cF)), (38, v1), (39, (.int .i64 (x1.length : Int))), (40, (.int .i64 bf)), (69, co), (70, (.int .i64 (ch.length : Int))), (71, (.int .i64 cy)), (76, (.int .i64 cy)), (77, (.bool (cy == 0))), (78, (.bool (cy == 0))), (85, (.bool cL))]) ?_ ?_
       ·rcases cond_some cM with ⟨cO, cM⟩ | ⟨cO, cM⟩
        ·refine l_not' f rfl rfl rfl cO fun a f => ?_
         refine l_not' f rfl rfl rfl cO fun a f => l_not' f rfl rfl rfl cO fun a f => l_not' f rfl rfl rfl cO fun a f => l_not' f rfl rfl rfl cO fun a f => l_not' f rfl rfl rfl cO fun a f => l_op f rfl rfl rfl (r_pickT (f.eval rfl) cO (f.eval rfl)) fun a f => ?_
         obtain rfl := sj cM
         exact ⟨_, (GLe.refl _), m, f.weak ⟨rfl, rfl, rfl, rfl, rfl, rfl, rfl, rfl, rfl, rfl, rfl, rfl, rfl, rfl, rfl, rfl, rfl, rfl, rfl, trivial⟩⟩
        ·refine l_run f rfl rfl cO ?_
         refine l_mv f rfl rfl fun a f => l_run f rfl rfl cO ?_
         refine l_mv f rfl rfl fun a f => l_run f rfl rfl cO ?_
         obtain ⟨cP, cQ, cM⟩ := bind_some cM
         refine l_own_at 3 m aY rfl T94 f rfl rfl rfl cQ fun cR a cS f => l_run f rfl rfl cO ?_
         refine l_own_load 3 m aY rfl Pl3 f rfl rfl cS cQ fun cT a cU f => ?_
         subst cU
         refine l_run f rfl rfl cO ?_
         refine l_mv f rfl rfl fun a f => l_run f rfl rfl cO ?_
         refine l_in f rfl rfl rfl b_lss fun a f => l_op f rfl rfl rfl (r_pickF (f.eval rfl) cO (f.eval rfl)) fun a f => ?_
         obtain rfl := sj cM
         exact ⟨_, (GLe.refl _), m, f.weak ⟨rfl, rfl, rfl, rfl, rfl, rfl, rfl, rfl, rfl, rfl, rfl, rfl, rfl, rfl, rfl, rfl, rfl, rfl, rfl, trivial⟩⟩
       ·rintro a w ⟨cN, cV, m, f⟩
        have h1 := rd1 cV h1
        have an := od1 cV an
        have aY := od1 cV aY
        have cq := od1 cV cq
        have b9 := Ow2.mono (RI.mono _) cV b9
        have bs := Ow2.mono (RI.mono _) cV bs
        refine l_nil ?_
        rcases cond_some cB with ⟨cW, cB⟩ | ⟨cW, cB⟩
        ·refine k_true f rfl cW ?_
         refine k_region ?_
         refine l_mv f rfl rfl fun a f => l_mv f rfl rfl fun a f => ?_
         obtain ⟨cX, cY, cB⟩ := bind_some cB
         refine l_own_at 3 m aY rfl T94 f rfl rfl rfl cY fun cZ a c0 f => l_own_load 3 m aY rfl Pl3 f rfl rfl c0 cY fun c1 a c2 f => ?_
         subst c2
         refine l_as f rfl rfl fun a f => l_nil (k_region ?_)
         refine l_in f rfl rfl rfl b_add fun a f => l_mv f rfl rfl fun a f => l_nil ?_
         obtain rfl := sj cB
         exact ⟨_, rfl, _, _, rfl, _, (GLe.trans cD cV), f.weak ⟨rfl, rfl, rfl, rfl, rfl, rfl, rfl, rfl, rfl, rfl, rfl, rfl, rfl, trivial⟩, m⟩
        ·refine k_false f rfl cW ?_
         refine k_skip ?_
         refine k_region ?_
         refine l_in f rfl rfl rfl b_add fun a f => l_mv f rfl rfl fun a f => l_nil ?_
         obtain rfl := sj cB
         exact ⟨_, rfl, _, _, rfl, _, (GLe.trans cD cV), f.weak ⟨rfl, rfl, rfl, rfl, rfl, rfl, rfl, rfl, rfl, rfl, rfl, rfl, rfl, trivial⟩, m⟩
      ·refine k_false f rfl cE ?_
       refine k_exit rfl ?_
       have m := m.front 6 rfl
       have m := m.front 6 rfl
       have m : Mem W cz w (az :: b7 :: bm :: Itm.box aa 27 [(.slice none 0 0), (.slice none 0 0)] :: Itm.box a0 27 [b8, bl] :: al :: cp :: H) := m.front 5 rfl
       have m := m.front 5 rfl
       have m := m.front 5 rfl
       have m : Mem W cz w (Itm.box aa 27 [(.slice none 0 0), (.slice none 0 0)] :: Itm.box a0 27 [b8, bl] :: al :: az :: b7 :: bm :: cp :: H) := m.front 5 rfl
       have m : Mem W cz w (Itm.box aa 27 [(.slice none 0 0), (.slice none 0 0)] :: Itm.box a0 27 [b8, bl] :: al :: az :: b7 :: bm :: H) := m.eraseAt 6
       obtain rfl := sj cB
       obtain rfl := cC _ rfl
       exact ⟨_, rfl, _, cD, f.weak ⟨rfl, rfl, rfl, rfl, rfl, rfl, rfl, rfl, rfl, rfl, trivial⟩, m⟩
     ·rintro a w ⟨cu, rfl, cv, c3, f, m⟩
      have h1 := rd1 c3 h1
      have an := od1 c3 an
      have aY := od1 c3 aY
      have b9 := Ow2.mono (RI.mono _) c3 b9
      have bs := Ow2.mono (RI.mono _) c3 bs
      refine k_draw 6 Follows (by kernel_rfl) m ?_
      refine q_fieldAddr (i := 0) 6 Tryz.underlying27 rfl Tryz.sizeOf22 (by decide) rfl (by kernel_rfl) rfl f rfl rfl rfl fun a f => q_boxCell (i := 1) 6 1 Pl22 rfl rfl rfl (by kernel_rfl) rfl f rfl rfl rfl fun a f => q_mv 2 6 rfl (by kernel_rfl) f rfl rfl rfl fun a f => q_mv 3 6 rfl (by kernel_rfl) f rfl rfl rfl fun a f => q_one (i := 4) rfl (by kernel_rfl) rfl fun c4 w c5 m c6 c6 => ?_
      have h1 := rd1 c5 h1
      have an := od1 c5 an
      have aY := od1 c5 aY
      have b9 := Ow2.mono (RI.mono _) c5 b9
      have bs := Ow2.mono (RI.mono _) c5 bs
      obtain ⟨c7, c8, bo⟩ := bind_some bo
      refine l_res f rfl rfl Tryz.call56 (Wk.impl_sortedLink m  c8) fun c9 da db w dc m dd a f => ?_
      obtain ⟨de, df, rfl, rfl, dg⟩ := dd
      have h1 := rd1 dc h1
      have an := od1 dc an
      have aY := od1 dc aY
      have b9 := Ow2.mono (RI.mono _) dc b9
      have bs := Ow2.mono (RI.mono _) dc bs
      refine l_nil ?_
      refine c6 da [df] _ _ dc m ?_
      refine q_one (i := 5) rfl (by kernel_rfl) rfl fun dh w di m dj dj => ?_
      have h1 := rd1 di h1
      have dg := od1 di dg
      have an := od1 di an
      have aY := od1 di aY
      have b9 := Ow2.mono (RI.mono _) di b9
      have bs := Ow2.mono (RI.mono _) di bs
      refine l_slit (R := RawS) (xs := [de]) RawS.one m T22 f rfl rfl rfl (by decide) (All2.cons ⟨rfl, Ow.one1 0 m dg rfl, Ow.cells 0 m dg rfl⟩ (All2.nil _)) fun dk dl w a m dm f => l_nil ?_
      refine dj dh [dk, df] _ _ (GLe.refl _) m ?_
      refine q_end fun dn w dp m => ?_
      have h1 := rd1 dp h1
      have dm := Ow.mono RawS.mono dp dm
      have dg := od1 dp dg
      have an := od1 dp an
      have aY := od1 dp aY
      have b9 := Ow2.mono (RI.mono _) dp b9
      have bs := Ow2.mono (RI.mono _) dp bs
      have m := m.front 1 rfl
      have m : Mem W dn w (bm :: df :: dk :: Itm.box aa 27 [(.slice none 0 0), (.slice none 0 0)] :: Itm.box a0 27 [b8, bl] :: al :: az :: b7 :: H) := m.front 7 rfl
      obtain ⟨dq, dr, bo⟩ := bind_some bo
      refine l_append2 m bs dg dm T22 rfl (by decide) f rfl rfl rfl dr fun dt du w a m dv f => l_fieldAddr Tryz.underlying27 rfl Tryz.sizeOf22 (by decide) f rfl rfl fun a f => l_boxStore 2 1 (ds := [du]) m Tryz.sizeOf22 f rfl rfl (Ow2.cells 0 m dv rfl) (ones_cons (Ow2.one1 0 m dv rfl) ones_nil) rfl (Nat.le_of_ble_eq_true rfl) rfl fun w m => l_nil (k_region ?_)
      refine l_in f rfl rfl rfl b_add fun a f => l_mv f rfl rfl fun a f => l_nil ?_
      have m := m.front 5 rfl
      have m := m.front 5 rfl
      have m : Mem W dn w (al :: az :: b7 :: dt :: Itm.box aa 27 [(.slice none 0 0), (.slice none 0 0)] :: Itm.box a0 27 [b8, du] :: H) := m.front 5 rfl
      have m := m.front 5 rfl
      have m : Mem W dn w (Itm.box aa 27 [(.slice none 0 0), (.slice none 0 0)] :: Itm.box a0 27 [b8, du] :: al :: az :: b7 :: dt :: H) := m.front 5 rfl
      obtain rfl := sj bo
      exact ⟨_, rfl, _, _, _, rfl, _, b8, b7, du, dt, (GLe.trans bq (GLe.trans bL (GLe.trans bS (GLe.trans bY (GLe.trans b4 (GLe.trans cm (GLe.trans c3 (GLe.trans c5 (GLe.trans dc (GLe.trans di dp)))))))))), f.weak ⟨rfl, rfl, rfl, rfl, rfl, rfl, rfl, rfl, trivial⟩, m, b9, dv⟩
   ·refine k_false f rfl bt ?_
    refine k_exit rfl ?_
    have m := m.front 5 rfl
    have m := m.front 5 rfl
    have m : Mem W bi w (Itm.box a0 27 [bj, bl] :: bk :: bm :: Itm.box aa 27 [(.slice none 0 0), (.slice none 0 0)] :: al :: az :: H) := m.front 3 rfl
    have m := m.front 3 rfl
    have m := m.eraseAt 5
    have m : Mem W bi w (Itm.box aa 27 [(.slice none 0 0), (.slice none 0 0)] :: Itm.box a0 27 [bj, bl] :: bk :: bm :: H) := m.eraseAt 4
    obtain rfl := sj bo
    obtain rfl := bp _ rfl
    exact ⟨_, _, rfl, _, bj, bk, bl, bm, bq, f.weak ⟨rfl, rfl, trivial⟩, m, br, bs⟩
  ·rintro a w ⟨a7, a8, rfl, a9, ba, bb, bc, bd, dw, f, m, dx, dy⟩
   refine k_seq (k_region ?_)
   refine l_fieldAddr Tryz.underlying27 rfl Tryz.sizeOf22 (by decide) f rfl rfl fun a f => l_boxCell 1 1 m Pl22 f rfl rfl rfl rfl fun a f => ?_
   have m : Mem W a9 w (bd :: Itm.box aa 27 [(.slice none 0 0), (.slice none 0 0)] :: Itm.box a0 27 [ba, bc] :: bb :: H) := m.front 3 rfl
   obtain ⟨dz, dA, hd⟩ := bind_some hd
   refine l_res f rfl rfl Tryz.call57 (Ow2.sortCall (RI.free _) dy m (fun Z hZ => (sortTag_slices_SortFunc_int64_int64__slices_Compare_int64_int64 dA hZ).imp (fun zs h => ⟨h.2.1, h.2.2, fun _ _ m o => Wk.slices_SortFunc_int64_int64__slices_Compare_int64_int64 m o h.1⟩))) fun dB dC dD w dE m dF a f => ?_
   obtain ⟨dG, rfl, dH⟩ := dF
   have dx := Ow2.mono (RI.mono _) dE dx
   refine l_nil (k_seq (k_region ?_))
   refine l_boxAgg 2 0 (ds := [ba, bc]) m Ag27 f rfl rfl rfl rfl rfl fun a f => l_boxStore 1 0 (ds := [ba, bc]) m Tryz.sizeOf27 f rfl rfl rfl (ones_cons (Ow2.one1 3 m dx rfl) (ones_cons (Ow2.one1 0 m dH rfl) ones_nil)) rfl (Nat.le_of_ble_eq_true rfl) rfl fun w m => l_nil ?_
   refine k_ret ?_
   have dI := rr_agg (P := Tryz.prog) 1 m Ag27 f (s := 4) rfl rfl rfl
   have m := m.front 3 rfl
   have m := m.eraseAt 3
   have m := m.eraseAt 2
   obtain rfl := sj hd
   exact ⟨[(.agg #[ba, bc])], ⟨dI, trivial⟩, f.defers, _, [bb, dG], (GLe.trans ag (GLe.trans aX (GLe.trans dw dE))), m, _, _, _, _, rfl, rfl, dx, dH⟩


end Go.Proofs.YtebbefpdncgoiaaGreatDoor

set_option maxRecDepth 100000
namespace Go.Proofs.YtebbefpdncgoiaaGreatDoor
open Go Go.Sx
theorem Ag24 : Agg Tryz.prog 24 1 := ⟨Tryz.isAgg24, Tryz.sizeOf24⟩

theorem Wk.impl_DecompBy {W w : World} {G : GH} {H : List Itm} {v0_0 : Value} {v1 : Value} {x0_0 : (List (List Int))} {x1 : (List Int)} (hW : TabW W) (m : Mem W G w (H)) (h0_0 : RSl (RSl (RI .i64)) G v0_0 x0_0) (h1 : RSl (RI .i64) G v1 x1) {y : ((List (List Int))) × ((List (List Int))) × Bool} (hd : D.impl_DecompBy x0_0 x1 = some y) :
  Calls Tryz.prog 23 #[(.agg #[v0_0]), v1] w (Res W G H (fun G' Ho v => ∃ r0 : Value, ∃ i0 : Itm, ∃ r2 : Value, ∃ i2 : Itm, Ho = [i0, i2] ∧ v = .tuple #[(.agg #[r0, r2]), (.bool y.2.2)] ∧ Ow2 (RI .i64) 42 2 G' i0 r0 y.1 ∧ Ow2 (RI .i64) 42 2 G' i2 r2 y.2.1)) := by
 refine calls_b (args := [(.agg #[v0_0]), v1]) (N := 16) [.cell 4 27, .tmp 5] Tryz.func23 rfl rfl (Nat.le_of_ble_eq_true rfl) rfl fun a f => ?_
 unfold D.impl_DecompBy at hd
 refine k_seq (k_region ?_)
 refine l_box (cs := [v0_0]) m f rfl rfl rfl fun aa w a m f => l_alloc (cs := [(.slice none 0 0), (.slice none 0 0)]) Tryz.zeroValue27 m f rfl rfl fun ab w a m f => l_as f rfl rfl fun a f => l_nil (k_seq (k_seq (k_region ?_)))
 refine l_boxAgg 1 0 (ds := [v0_0]) m Ag30 f rfl rfl rfl rfl rfl fun a f => l_mv f rfl rfl fun a f => ?_
 obtain ⟨ac, ad, hd⟩ := bind_some hd
 refine l_res f rfl rfl Tryz.call71 (Wk.impl_OrderOk m h0_0 h1 ad) fun ae af ag w ah m ai a f => ?_
 obtain ⟨rfl, rfl⟩ := ai
 have h0_0 := rd2 ah h0_0
 have h1 := rd1 ah h1
 refine l_op f rfl rfl rfl (r_not (f.eval rfl)) fun a f => l_nil ?_
 rcases cond_some hd with ⟨aj, hd⟩ | ⟨aj, hd⟩
 ·refine k_true f rfl aj ?_
  refine k_seq (k_region ?_)
  have ak : ∀ w, (Instr.build 27 #[]).run Tryz.prog w = .ok (.agg #[(.slice none 0 0), (.slice none 0 0)]) w := by intro w; simp [Instr.build, Instr.fill, cells_int, cells_bool, cells_string, cells_slice, cells_pointer, cells_agg]
  refine l_build f rfl rfl ak fun a f => l_boxStore 0 0 (ds := [(.slice none 0 0), (.slice none 0 0)]) m Tryz.sizeOf27 f rfl rfl rfl (ones_cons rfl (ones_cons rfl ones_nil)) rfl (Nat.le_of_ble_eq_true rfl) rfl fun w m => l_as f rfl rfl fun a f => l_nil ?_
  refine k_ret ?_
  obtain ⟨al, m, am⟩ := Ow2.nil (RI .i64) 42 2 m
  obtain ⟨an, m, ao⟩ := Ow2.nil (RI .i64) 42 2 m
  have ap := rr_agg (P := Tryz.prog) 2 m Ag27 f (s := 4) rfl rfl rfl
  have m := m.front 1 rfl
  have m := m.eraseAt 3
  have m := m.eraseAt 2
  obtain rfl := sj hd
  exact ⟨[(.agg #[(.slice none 0 0), (.slice none 0 0)]), (.bool false)], ⟨ap, f.get _ _ rfl, trivial⟩, f.defers, _, [al, an], ah, m, _, _, _, _, rfl, rfl, am, ao⟩
 ·refine k_false f rfl aj ?_
  refine k_skip ?_
  refine k_seq (k_region ?_)
  refine l_boxAgg 1 0 (ds := [v0_0]) m Ag30 f rfl rfl rfl rfl rfl fun a f => ?_
  obtain ⟨aq, ar, hd⟩ := bind_some hd
  refine l_res f rfl rfl Tryz.call50 (Wk.impl_netsOf m h0_0 ar) fun au av aw w ax m ay a f => ?_
  obtain ⟨az, aA, rfl, rfl, aB⟩ := ay
  have h0_0 := rd2 ax h0_0
  have h1 := rd1 ax h1
  refine l_mv f rfl rfl fun a f => ?_
  obtain ⟨aC, aD, hd⟩ := bind_some hd
  refine l_res f rfl rfl Tryz.call73 (Wk.impl_narrow m h1 aD) fun aE aF aG w aH m aI a f => ?_
  obtain ⟨aJ, aK, rfl, rfl, aL⟩ := aI
  have h0_0 := rd2 aH h0_0
  have h1 := rd1 aH h1
  have aB := od1 aH aB
  obtain ⟨aM, aN, hd⟩ := bind_some hd
  refine l_res f rfl rfl Tryz.call72 (Ow.lendCall (RI.mono _) 1 aB m rfl (fun aO aP m aQ => (Ow.lendCall (RI.mono _) 0 (od1 aP aL) m rfl (fun aR aS m aT => Wk.impl_decompBy hW m (rd1 aS aQ) aT aN) (fun _ G' _ _ ⟨a0, a1, a2, a3, e1, e2, o0, o1⟩ => ⟨a0, a1, a2, a3, e1, e2, Ow2.free (RI.free _) G' o0, Ow2.free (RI.free _) G' o1⟩))) (fun _ G' _ _ ⟨a0, a1, a2, a3, e1, e2, o0, o1⟩ => ⟨a0, a1, a2, a3, e1, e2, Ow2.free (RI.free _) G' o0, Ow2.free (RI.free _) G' o1⟩)) fun aU aV aW w aX m aY a f => ?_
  obtain ⟨aZ, a4, a5, a6, rfl, rfl, a7, a8⟩ := aY
  have h0_0 := rd2 aX h0_0
  have h1 := rd1 aX h1
  have aL := od1 aX aL
  have aB := od1 aX aB
  refine l_boxStore 4 0 (ds := [aZ, a5]) m Tryz.sizeOf27 f rfl rfl rfl (ones_cons (Ow2.one1 0 m a7 rfl) (ones_cons (Ow2.one1 1 m a8 rfl) ones_nil)) rfl (Nat.le_of_ble_eq_true rfl) rfl fun w m => l_as f rfl rfl fun a f => l_nil ?_
  refine k_ret ?_
  have a9 := rr_agg (P := Tryz.prog) 4 m Ag27 f (s := 4) rfl rfl rfl
  have m := m.eraseAt 5
  have m := m.eraseAt 4
  have m : Mem W aV w (a4 :: a6 :: aK :: H) := m.eraseAt 3
  have m := m.eraseAt 2
  obtain rfl := sj hd
  exact ⟨[(.agg #[aZ, a5]), (.bool true)], ⟨a9, f.get _ _ rfl, trivial⟩, f.defers, _, [a4, a6], (GLe.trans ah (GLe.trans ax (GLe.trans aH aX))), m, _, _, _, _, rfl, rfl, a7, a8⟩

theorem Wk.laws_eqInt64S {W w : World} {G : GH} {H : List Itm} {v0 : Value} {v1 : Value} {x0 : (List Int)} {x1 : (List Int)} (m : Mem W G w (H)) (h0 : RSl (RI .i64) G v0 x0) (h1 : RSl (RI .i64) G v1 x1) {y : Bool} (hd : D.laws_eqInt64S x0 x1 = some y) :
  Calls Tryz.prog 24 #[v0, v1] w (Res W G H (fun _ Ho v => Ho = [] ∧ v = (.bool y))) := by
 refine calls_b (args := [v0, v1]) (N := 26) [.tmp 4] Tryz.func24 rfl rfl (Nat.le_of_ble_eq_true rfl) rfl fun a f => ?_
 unfold D.laws_eqInt64S at hd
 refine k_seq (k_region ?_)
 refine l_as f rfl rfl fun a f => l_nil (k_seq (k_seq (k_region ?_)))
 refine l_mv f rfl rfl fun a f => l_len Tryz.underlying42 f rfl rfl h0 fun a f => l_mv f rfl rfl fun a f => l_len Tryz.underlying42 f rfl rfl h1 fun a f => l_in f rfl rfl rfl b_neq fun a f => l_nil ?_
 rcases cond_some hd with ⟨aa, hd⟩ | ⟨aa, hd⟩
 ·refine k_true f rfl aa ?_
  refine k_seq (k_region ?_)
  refine l_as f rfl rfl fun a f => l_nil ?_
  refine k_ret ?_
  obtain rfl := sj hd
  exact ⟨[(.bool false)], ⟨f.get _ _ rfl, trivial⟩, f.defers, _, [], (GLe.refl _), m, rfl, rfl⟩
 ·refine k_false f rfl aa ?_
  refine k_skip ?_
  refine k_seq (k_seq (k_region ?_))
  refine l_as f rfl rfl fun a f => l_nil ?_
  obtain ⟨ab, ac, hd⟩ := bind_some hd
  refine k_cut (fun a w => ∃ q_36' : Unit, ab = .inl q_36' ∧ ∃ (ad : GH), GLe G ad ∧ Fr a 26 [] ∧ Mem W ad w (H)) ?_ ?_
  ·refine k_block ?_
   refine k_loop (fun ae a w => ∃ af : Int, af = ae ∧ ∃ (ag : GH), GLe G ag ∧ Fr a 26 [(0, v0), (1, v1), (5, (.int .i64 af))] ∧ Mem W ag w (H)) ac ⟨_, rfl, _, (GLe.refl _), f.weak ⟨rfl, rfl, rfl, trivial⟩, m⟩ ?_
   clear ac f m
   rintro ae ah ai aj a w ⟨af, rfl, ag, ak, f, m⟩
   have h0 := rd1 ak h0
   have h1 := rd1 ak h1
   refine k_seq (k_seq (k_region ?_))
   refine l_mv f rfl rfl fun a f => l_mv f rfl rfl fun a f => l_len Tryz.underlying42 f rfl rfl h0 fun a f => l_in f rfl rfl rfl b_lss fun a f => l_nil ?_
   rcases cond_some ai with ⟨al, ai⟩ | ⟨al, ai⟩
   ·refine k_true f rfl al ?_
    refine k_skip ?_
    refine k_seq (k_block (k_seq ?_))
    refine k_draw 9 Follows (by kernel_rfl) m ?_
    refine q_mv 0 9 rfl (by kernel_rfl) f rfl rfl rfl fun a f => q_mv 1 9 rfl (by kernel_rfl) f rfl rfl rfl fun a f => ?_
    obtain ⟨am, an, ai⟩ := bind_some ai
    refine q_at (i := 2) 9 T42 h0 an rfl (by kernel_rfl) rfl f rfl rfl rfl rfl fun ao ap a aq ar f => ?_
    subst ar
    refine q_loadAt (i := 3) 9 Pl2 aq rfl (by kernel_rfl) rfl f rfl rfl rfl fun a f => q_mv 4 9 rfl (by kernel_rfl) f rfl rfl rfl fun a f => q_mv 5 9 rfl (by kernel_rfl) f rfl rfl rfl fun a f => ?_
    obtain ⟨au, av, ai⟩ := bind_some ai
    refine q_at (i := 6) 9 T42 h1 av rfl (by kernel_rfl) rfl f rfl rfl rfl rfl fun aw ax a ay az f => ?_
    subst az
    refine q_loadAt (i := 7) 9 Pl2 ay rfl (by kernel_rfl) rfl f rfl rfl rfl fun a f => q_p 8 9 rfl (by kernel_rfl) f rfl rfl rfl (fun _ => r_int (f.eval rfl) (f.eval rfl) b_neq) fun a f => q_end fun aA w aB m => ?_
    have h0 := rd1 aB h0
    have h1 := rd1 aB h1
    have aq := At.mono aB aq
    have ay := At.mono aB ay
    refine l_nil ?_
    rcases cond_some ai with ⟨aC, ai⟩ | ⟨aC, ai⟩
    ·refine k_true f rfl aC ?_
     refine k_seq (k_region ?_)
     refine l_as f rfl rfl fun a f => l_nil ?_
     refine k_ret ?_
     obtain rfl := sj ai
     obtain rfl := aj _ rfl
     obtain rfl := sj hd
     exact ⟨[(.bool false)], ⟨f.get _ _ rfl, trivial⟩, f.defers, _, [], (GLe.trans ak aB), m, rfl, rfl⟩
    ·refine k_false f rfl aC ?_
     refine k_skip ?_
     refine k_region ?_
     refine l_mv f rfl rfl fun a f => l_in f rfl rfl rfl b_add fun a f => l_as f rfl rfl fun a f => l_nil ?_
     obtain rfl := sj ai
     exact ⟨_, rfl, _, rfl, _, (GLe.trans ak aB), f.weak ⟨rfl, rfl, rfl, trivial⟩, m⟩
   ·refine k_false f rfl al ?_
    refine k_exit rfl ?_
    obtain rfl := sj ai
    obtain rfl := aj _ rfl
    exact ⟨_, rfl, _, ak, f.weak trivial, m⟩
  ·rintro a w ⟨_, rfl, ad, aD, f, m⟩
   refine k_seq (k_region ?_)
   refine l_as f rfl rfl fun a f => l_nil ?_
   refine k_ret ?_
   obtain rfl := sj hd
   exact ⟨[(.bool true)], ⟨f.get _ _ rfl, trivial⟩, f.defers, _, [], aD, m, rfl, rfl⟩

theorem Wk.laws_eqInt64SS {W w : World} {G : GH} {H : List Itm} {v0 : Value} {v1 : Value} {x0 : (List (List Int))} {x1 : (List (List Int))} (m : Mem W G w (H)) (h0 : RSl (RSl (RI .i64)) G v0 x0) (h1 : RSl (RSl (RI .i64)) G v1 x1) {y : Bool} (hd : D.laws_eqInt64SS x0 x1 = some y) :
  Calls Tryz.prog 60 #[v0, v1] w (Res W G H (fun _ Ho v => Ho = [] ∧ v = (.bool y))) := by
 refine calls_b (args := [v0, v1]) (N := 27) [.tmp 4] Tryz.func60 rfl rfl (Nat.le_of_ble_eq_true rfl) rfl fun a f => ?_
 unfold D.laws_eqInt64SS at hd
 refine k_seq (k_region ?_)
 refine l_as f rfl rfl fun a f => l_nil (k_seq (k_seq (k_region ?_)))
 refine l_mv f rfl rfl fun a f => l_len Tryz.underlying22 f rfl rfl h0 fun a f => l_mv f rfl rfl fun a f => l_len Tryz.underlying22 f rfl rfl h1 fun a f => l_in f rfl rfl rfl b_neq fun a f => l_nil ?_
 rcases cond_some hd with ⟨aa, hd⟩ | ⟨aa, hd⟩
 ·refine k_true f rfl aa ?_
  refine k_seq (k_region ?_)
  refine l_as f rfl rfl fun a f => l_nil ?_
  refine k_ret ?_
  obtain rfl := sj hd
  exact ⟨[(.bool false)], ⟨f.get _ _ rfl, trivial⟩, f.defers, _, [], (GLe.refl _), m, rfl, rfl⟩
 ·refine k_false f rfl aa ?_
  refine k_skip ?_
  refine k_seq (k_seq (k_region ?_))
  refine l_as f rfl rfl fun a f => l_nil ?_
  obtain ⟨ab, ac, hd⟩ := bind_some hd
  refine k_cut (fun a w => ∃ q_42' : Unit, ab = .inl q_42' ∧ ∃ (ad : GH), GLe G ad ∧ Fr a 27 [] ∧ Mem W ad w (H)) ?_ ?_
  ·refine k_block ?_
   refine k_loop (fun ae a w => ∃ af : Int, af = ae ∧ ∃ (ag : GH), GLe G ag ∧ Fr a 27 [(0, v0), (1, v1), (5, (.int .i64 af))] ∧ Mem W ag w (H)) ac ⟨_, rfl, _, (GLe.refl _), f.weak ⟨rfl, rfl, rfl, trivial⟩, m⟩ ?_
   clear ac f m
   rintro ae ah ai aj a w ⟨af, rfl, ag, ak, f, m⟩
   have h0 := rd2 ak h0
   have h1 := rd2 ak h1
   refine k_seq (k_seq (k_region ?_))
   refine l_mv f rfl rfl fun a f => l_mv f rfl rfl fun a f => l_len Tryz.underlying22 f rfl rfl h0 fun a f => l_in f rfl rfl rfl b_lss fun a f => l_nil ?_
   rcases cond_some ai with ⟨al, ai⟩ | ⟨al, ai⟩
   ·refine k_true f rfl al ?_
    refine k_skip ?_
    refine k_seq (k_block (k_seq ?_))
    refine k_draw 10 Follows (by kernel_rfl) m ?_
    refine q_mv 0 10 rfl (by kernel_rfl) f rfl rfl rfl fun a f => q_mv 1 10 rfl (by kernel_rfl) f rfl rfl rfl fun a f => ?_
    obtain ⟨am, an, ai⟩ := bind_some ai
    refine q_at (i := 2) 10 T22 h0 an rfl (by kernel_rfl) rfl f rfl rfl rfl rfl fun ao ap a aq ar f => q_loadAt (i := 3) 10 Pl42 aq rfl (by kernel_rfl) rfl f rfl rfl rfl fun a f => q_mv 4 10 rfl (by kernel_rfl) f rfl rfl rfl fun a f => q_mv 5 10 rfl (by kernel_rfl) f rfl rfl rfl fun a f => ?_
    obtain ⟨au, av, ai⟩ := bind_some ai
    refine q_at (i := 6) 10 T22 h1 av rfl (by kernel_rfl) rfl f rfl rfl rfl rfl fun aw ax a ay az f => q_loadAt (i := 7) 10 Pl42 ay rfl (by kernel_rfl) rfl f rfl rfl rfl fun a f => ?_
    obtain ⟨aA, aB, ai⟩ := bind_some ai
    refine q_call (i := 8) 10 rfl (by kernel_rfl) rfl f rfl rfl rfl Tryz.call24 (fun _ _ w aC m => Wk.laws_eqInt64S m (rd1 aC ar) (rd1 aC az) aB) fun a f => q_p 9 10 rfl (by kernel_rfl) f rfl rfl rfl (fun _ => r_not (f.eval rfl)) fun a f => q_end fun aD w aE m => ?_
    have h0 := rd2 aE h0
    have h1 := rd2 aE h1
    have aq := At.mono aE aq
    have ar := rd1 aE ar
    have ay := At.mono aE ay
    have az := rd1 aE az
    refine l_nil ?_
    rcases cond_some ai with ⟨aF, ai⟩ | ⟨aF, ai⟩
    ·refine k_true f rfl aF ?_
     refine k_seq (k_region ?_)
     refine l_as f rfl rfl fun a f => l_nil ?_
     refine k_ret ?_
     obtain rfl := sj ai
     obtain rfl := aj _ rfl
     obtain rfl := sj hd
     exact ⟨[(.bool false)], ⟨f.get _ _ rfl, trivial⟩, f.defers, _, [], (GLe.trans ak aE), m, rfl, rfl⟩
    ·refine k_false f rfl aF ?_
     refine k_skip ?_
     refine k_region ?_
     refine l_mv f rfl rfl fun a f => l_in f rfl rfl rfl b_add fun a f => l_as f rfl rfl fun a f => l_nil ?_
     obtain rfl := sj ai
     exact ⟨_, rfl, _, rfl, _, (GLe.trans ak aE), f.weak ⟨rfl, rfl, rfl, trivial⟩, m⟩
   ·refine k_false f rfl al ?_
    refine k_exit rfl ?_
    obtain rfl := sj ai
    obtain rfl := aj _ rfl
    exact ⟨_, rfl, _, ak, f.weak trivial, m⟩
  ·rintro a w ⟨_, rfl, ad, aG, f, m⟩
   refine k_seq (k_region ?_)
   refine l_as f rfl rfl fun a f => l_nil ?_
   refine k_ret ?_
   obtain rfl := sj hd
   exact ⟨[(.bool true)], ⟨f.get _ _ rfl, trivial⟩, f.defers, _, [], aG, m, rfl, rfl⟩

theorem Wk.laws_eqDecomp {W w : World} {G : GH} {H : List Itm} {v0_0 : Value} {v0_1 : Value} {v1_0 : Value} {v1_1 : Value} {x0_0 : (List (List Int))} {x0_1 : (List (List Int))} {x1_0 : (List (List Int))} {x1_1 : (List (List Int))} (m : Mem W G w (H)) (h0_0 : RSl (RSl (RI .i64)) G v0_0 x0_0) (h0_1 : RSl (RSl (RI .i64)) G v0_1 x0_1) (h1_0 : RSl (RSl (RI .i64)) G v1_0 x1_0) (h1_1 : RSl (RSl (RI .i64)) G v1_1 x1_1) {y : Bool} (hd : D.laws_eqDecomp x0_0 x0_1 x1_0 x1_1 = some y) :
  Calls Tryz.prog 12 #[(.agg #[v0_0, v0_1]), (.agg #[v1_0, v1_1])] w (Res W G H (fun _ Ho v => Ho = [] ∧ v = (.bool y))) := by
 refine calls_b (args := [(.agg #[v0_0, v0_1]), (.agg #[v1_0, v1_1])]) (N := 17) [.tmp 4] Tryz.func12 rfl rfl (Nat.le_of_ble_eq_true rfl) rfl fun a f => ?_
 unfold D.laws_eqDecomp at hd
 refine k_seq (k_region ?_)
 refine l_box (cs := [v0_0, v0_1]) m f rfl rfl rfl fun aa w a m f => l_box (cs := [v1_0, v1_1]) m f rfl rfl rfl fun ab w a m f => l_as f rfl rfl fun a f => l_nil (k_seq (k_seq (k_region ?_)))
 refine l_fieldAddr Tryz.underlying27 rfl Tryz.sizeOf22 (by decide) f rfl rfl fun a f => l_boxCell 1 0 m Pl22 f rfl rfl rfl rfl fun a f => l_fieldAddr Tryz.underlying27 rfl Tryz.sizeOf22 (by decide) f rfl rfl fun a f => l_boxCell 0 0 m Pl22 f rfl rfl rfl rfl fun a f => ?_
 obtain ⟨ac, ad, hd⟩ := bind_some hd
 refine l_res f rfl rfl Tryz.call60 (Wk.laws_eqInt64SS m h0_0 h1_0 ad) fun ae af ag w ah m ai a f => ?_
 obtain ⟨rfl, rfl⟩ := ai
 have h0_0 := rd2 ah h0_0
 have h0_1 := rd2 ah h0_1
 have h1_0 := rd2 ah h1_0
 have h1_1 := rd2 ah h1_1
 refine l_op f rfl rfl rfl (r_not (f.eval rfl)) fun a f => l_nil ?_
 rcases cond_some hd with ⟨aj, hd⟩ | ⟨aj, hd⟩
 ·refine k_true f rfl aj ?_
  refine k_seq (k_region ?_)
  refine l_as f rfl rfl fun a f => l_nil ?_
  refine k_ret ?_
  have m : Mem W af w H := Mem.drop (H' := [Itm.box ab 27 [v1_0, v1_1], Itm.box aa 27 [v0_0, v0_1]]) m
  obtain rfl := sj hd
  exact ⟨[(.bool false)], ⟨f.get _ _ rfl, trivial⟩, f.defers, _, [], ah, m, rfl, rfl⟩
 ·refine k_false f rfl aj ?_
  refine k_skip ?_
  refine k_seq (k_seq (k_region ?_))
  refine l_fieldAddr Tryz.underlying27 rfl Tryz.sizeOf22 (by decide) f rfl rfl fun a f => l_boxCell 1 1 m Pl22 f rfl rfl rfl rfl fun a f => l_fieldAddr Tryz.underlying27 rfl Tryz.sizeOf22 (by decide) f rfl rfl fun a f => l_boxCell 0 1 m Pl22 f rfl rfl rfl rfl fun a f => ?_
  obtain ⟨ak, al, hd⟩ := bind_some hd
  refine l_res f rfl rfl Tryz.call60 (Wk.laws_eqInt64SS m h0_1 h1_1 al) fun am an ao w ap m aq a f => ?_
  obtain ⟨rfl, rfl⟩ := aq
  have h0_0 := rd2 ap h0_0
  have h0_1 := rd2 ap h0_1
  have h1_0 := rd2 ap h1_0
  have h1_1 := rd2 ap h1_1
  refine l_op f rfl rfl rfl (r_not (f.eval rfl)) fun a f => l_nil ?_
  rcases cond_some hd with ⟨ar, hd⟩ | ⟨ar, hd⟩
  ·refine k_true f rfl ar ?_
   refine k_seq (k_region ?_)
   refine l_as f rfl rfl fun a f => l_nil ?_
   refine k_ret ?_
   have m : Mem W an w H := Mem.drop (H' := [Itm.box ab 27 [v1_0, v1_1], Itm.box aa 27 [v0_0, v0_1]]) m
   obtain rfl := sj hd
   exact ⟨[(.bool false)], ⟨f.get _ _ rfl, trivial⟩, f.defers, _, [], (GLe.trans ah ap), m, rfl, rfl⟩
  ·refine k_false f rfl ar ?_
   refine k_skip ?_
   refine k_seq (k_region ?_)
   refine l_as f rfl rfl fun a f => l_nil ?_
   refine k_ret ?_
   have m : Mem W an w H := Mem.drop (H' := [Itm.box ab 27 [v1_0, v1_1], Itm.box aa 27 [v0_0, v0_1]]) m
   obtain rfl := sj hd
   exact ⟨[(.bool true)], ⟨f.get _ _ rfl, trivial⟩, f.defers, _, [], (GLe.trans ah ap), m, rfl, rfl⟩

theorem Wk.laws_eqGraph {W w : World} {G : GH} {H : List Itm} {v0_0 : Value} {v1_0 : Value} {x0_0 : (List (List Int))} {x1_0 : (List (List Int))} (m : Mem W G w (H)) (h0_0 : RSl (RSl (RI .i64)) G v0_0 x0_0) (h1_0 : RSl (RSl (RI .i64)) G v1_0 x1_0) {y : Bool} (hd : D.laws_eqGraph x0_0 x1_0 = some y) :
  Calls Tryz.prog 13 #[(.agg #[v0_0]), (.agg #[v1_0])] w (Res W G H (fun _ Ho v => Ho = [] ∧ v = (.bool y))) := by
 refine calls_b (args := [(.agg #[v0_0]), (.agg #[v1_0])]) (N := 11) [.tmp 4] Tryz.func13 rfl rfl (Nat.le_of_ble_eq_true rfl) rfl fun a f => ?_
 unfold D.laws_eqGraph at hd
 refine k_seq (k_region ?_)
 refine l_box (cs := [v0_0]) m f rfl rfl rfl fun aa w a m f => l_box (cs := [v1_0]) m f rfl rfl rfl fun ab w a m f => l_as f rfl rfl fun a f => l_nil (k_seq (k_seq (k_region ?_)))
 refine l_fieldAddr Tryz.underlying30 rfl Tryz.sizeOf22 (by decide) f rfl rfl fun a f => l_boxCell 1 0 m Pl22 f rfl rfl rfl rfl fun a f => l_fieldAddr Tryz.underlying30 rfl Tryz.sizeOf22 (by decide) f rfl rfl fun a f => l_boxCell 0 0 m Pl22 f rfl rfl rfl rfl fun a f => ?_
 obtain ⟨ac, ad, hd⟩ := bind_some hd
 refine l_res f rfl rfl Tryz.call60 (Wk.laws_eqInt64SS m h0_0 h1_0 ad) fun ae af ag w ah m ai a f => ?_
 obtain ⟨rfl, rfl⟩ := ai
 have h0_0 := rd2 ah h0_0
 have h1_0 := rd2 ah h1_0
 refine l_op f rfl rfl rfl (r_not (f.eval rfl)) fun a f => l_nil ?_
 rcases cond_some hd with ⟨aj, hd⟩ | ⟨aj, hd⟩
 ·refine k_true f rfl aj ?_
  refine k_seq (k_region ?_)
  refine l_as f rfl rfl fun a f => l_nil ?_
  refine k_ret ?_
  have m : Mem W af w H := Mem.drop (H' := [Itm.box ab 30 [v1_0], Itm.box aa 30 [v0_0]]) m
  obtain rfl := sj hd
  exact ⟨[(.bool false)], ⟨f.get _ _ rfl, trivial⟩, f.defers, _, [], ah, m, rfl, rfl⟩
 ·refine k_false f rfl aj ?_
  refine k_skip ?_
  refine k_seq (k_region ?_)
  refine l_as f rfl rfl fun a f => l_nil ?_
  refine k_ret ?_
  have m : Mem W af w H := Mem.drop (H' := [Itm.box ab 30 [v1_0], Itm.box aa 30 [v0_0]]) m
  obtain rfl := sj hd
  exact ⟨[(.bool true)], ⟨f.get _ _ rfl, trivial⟩, f.defers, _, [], ah, m, rfl, rfl⟩

theorem Wk.laws_markInt64S {W w : World} {G : GH} {H : List Itm} {v0 : Value} {it0 : Itm} {x0 : (List Int)} {x1 : Int} (m : Mem W G w (it0 :: H)) (o0 : Ow (RI .i64) 2 G it0 v0 x0) {y : Int × ((List Int))} (hd : D.laws_markInt64S x0 x1 = some y) :
  Calls Tryz.prog 25 #[v0, (.int .i64 x1)] w (Res W G H (fun G' Ho v => ∃ i0 : Itm, Ho = [i0] ∧ v = (.int .i64 y.1) ∧ Ow (RI .i64) 2 G' i0 v0 y.2)) := by
 refine calls_b (args := [v0, (.int .i64 x1)]) (N := 19) [.tmp 4] Tryz.func25 rfl rfl (Nat.le_of_ble_eq_true rfl) rfl fun a f => ?_
 unfold D.laws_markInt64S at hd
 refine k_seq (k_region ?_)
 refine l_as f rfl rfl fun a f => l_nil (k_seq (k_seq (k_region ?_)))
 refine l_as f rfl rfl fun a f => l_nil ?_
 obtain ⟨aa, ab, hd⟩ := bind_some hd
 refine k_cut (fun a w => ∃ ac : List Int, ∃ ad : Int, (ac, ad) = aa ∧ ∃ (ae : GH) (af : Itm), GLe G ae ∧ Fr a 19 [(1, (.int .i64 ad))] ∧ Mem W ae w (af :: H) ∧ Ow (RI .i64) 2 ae af v0 ac) ?_ ?_
 ·refine k_block ?_
  refine k_loop (fun ag a w => ∃ ah : List Int, ∃ ai : Int, ∃ aj : Int, (ah, ai, aj) = ag ∧ ∃ (ak : GH) (al : Itm), GLe G ak ∧ Fr a 19 [(0, v0), (1, (.int .i64 ai)), (5, (.int .i64 aj))] ∧ Mem W ak w (al :: H) ∧ Ow (RI .i64) 2 ak al v0 ah) ab ⟨_, _, _, rfl, _, it0, (GLe.refl _), f.weak ⟨rfl, rfl, rfl, trivial⟩, m, o0⟩ ?_
  clear ab f m
  rintro ag am an ao a w ⟨ah, ai, aj, rfl, ak, al, ap, f, m, aq⟩
  refine k_seq (k_seq (k_region ?_))
  refine l_mv f rfl rfl fun a f => l_mv f rfl rfl fun a f => l_own_len 0 m aq rfl Tryz.underlying42 f rfl rfl fun a f => l_in f rfl rfl rfl b_lss fun a f => l_nil ?_
  rcases cond_some an with ⟨ar, an⟩ | ⟨ar, an⟩
  ·refine k_true f rfl ar ?_
   refine k_skip ?_
   refine k_seq (k_block (k_seq (k_region ?_)))
   refine l_mv f rfl rfl fun a f => l_mv f rfl rfl fun a f => l_mv f rfl rfl fun a f => ?_
   obtain ⟨au, av, an⟩ := bind_some an
   refine l_own_at 0 m aq rfl T42 f rfl rfl rfl av fun aw a ax f => l_own_store 0 m aq rfl Tryz.sizeOf2 f rfl rfl ax av rfl rfl rfl fun ay w m az => l_nil (k_region ?_)
   refine l_mv f rfl rfl fun a f => l_in f rfl rfl rfl b_add fun a f => l_as f rfl rfl fun a f => l_nil (k_region ?_)
   refine l_mv f rfl rfl fun a f => l_in f rfl rfl rfl b_add fun a f => l_as f rfl rfl fun a f => l_nil ?_
   obtain rfl := sj an
   exact ⟨_, rfl, _, _, _, rfl, _, ay, ap, f.weak ⟨rfl, rfl, rfl, trivial⟩, m, az⟩
  ·refine k_false f rfl ar ?_
   refine k_exit rfl ?_
   obtain rfl := sj an
   obtain rfl := ao _ rfl
   exact ⟨_, _, rfl, _, al, ap, f.weak ⟨rfl, trivial⟩, m, aq⟩
 ·rintro a w ⟨ac, ad, rfl, ae, af, aA, f, m, aB⟩
  refine k_seq (k_region ?_)
  refine l_mv f rfl rfl fun a f => l_as f rfl rfl fun a f => l_nil ?_
  refine k_ret ?_
  obtain rfl := sj hd
  exact ⟨[(.int .i64 ad)], ⟨f.get _ _ rfl, trivial⟩, f.defers, _, [af], aA, m, _, rfl, rfl, aB⟩

theorem Wk.laws_markInt64SS {W w : World} {G : GH} {H : List Itm} {v0 : Value} {it0 : Itm} {x0 : (List (List Int))} {x1 : Int} (m : Mem W G w (it0 :: H)) (o0 : Ow2 (RI .i64) 42 2 G it0 v0 x0) {y : Int × ((List (List Int)))} (hd : D.laws_markInt64SS x0 x1 = some y) :
  Calls Tryz.prog 61 #[v0, (.int .i64 x1)] w (Res W G H (fun G' Ho v => ∃ i0 : Itm, Ho = [i0] ∧ v = (.int .i64 y.1) ∧ Ow2 (RI .i64) 42 2 G' i0 v0 y.2)) := by
 refine calls_b (args := [v0, (.int .i64 x1)]) (N := 19) [.tmp 4] Tryz.func61 rfl rfl (Nat.le_of_ble_eq_true rfl) rfl fun a f => ?_
 unfold D.laws_markInt64SS at hd
 refine k_seq (k_region ?_)
 refine l_as f rfl rfl fun a f => l_nil (k_seq (k_seq (k_region ?_)))
 refine l_as f rfl rfl fun a f => l_nil ?_
 obtain ⟨aa, ab, hd⟩ := bind_some hd
 refine k_cut (fun a w => ∃ ac : List (List Int), ∃ ad : Int, (ac, ad) = aa ∧ ∃ (ae : GH) (af : Itm), GLe G ae ∧ Fr a 19 [(1, (.int .i64 ad))] ∧ Mem W ae w (af :: H) ∧ Ow2 (RI .i64) 42 2 ae af v0 ac) ?_ ?_
 ·refine k_block ?_
  refine k_loop (fun ag a w => ∃ ah : List (List Int), ∃ ai : Int, ∃ aj : Int, (ah, ai, aj) = ag ∧ ∃ (ak : GH) (al : Itm), GLe G ak ∧ Fr a 19 [(0, v0), (1, (.int .i64 ai)), (5, (.int .i64 aj))] ∧ Mem W ak w (al :: H) ∧ Ow2 (RI .i64) 42 2 ak al v0 ah) ab ⟨_, _, _, rfl, _, it0, (GLe.refl _), f.weak ⟨rfl, rfl, rfl, trivial⟩, m, o0⟩ ?_
  clear ab f m
  rintro ag am an ao a w ⟨ah, ai, aj, rfl, ak, al, ap, f, m, aq⟩
  refine k_seq (k_seq (k_region ?_))
  refine l_mv f rfl rfl fun a f => l_mv f rfl rfl fun a f => l_own2_len 0 m aq rfl Tryz.underlying22 f rfl rfl fun a f => l_in f rfl rfl rfl b_lss fun a f => l_nil ?_
  rcases cond_some an with ⟨ar, an⟩ | ⟨ar, an⟩
  ·refine k_true f rfl ar ?_
   refine k_skip ?_
   refine k_seq (k_block (k_region ?_))
   refine l_mv f rfl rfl fun a f => l_mv f rfl rfl fun a f => ?_
   obtain ⟨au, av, an⟩ := bind_some an
   refine l_own2_at 0 m aq rfl T22 f rfl rfl rfl av fun aw a ax f => l_own2_load 0 m aq rfl Pl42 f rfl rfl ax av fun ay a az f => l_mv f rfl rfl fun a f => ?_
   obtain ⟨aA, aB, an⟩ := bind_some an
   refine l_res f rfl rfl Tryz.call25 (Ow2.callAt aq (RI.mono _) m av az (fun inn Hs m oi => Wk.laws_markInt64S m oi aB)) fun aC aD aE w aF m aG a f => ?_
   obtain ⟨aH, rfl, rfl, aI⟩ := aG
   refine l_as f rfl rfl fun a f => l_nil (k_region ?_)
   refine l_mv f rfl rfl fun a f => l_in f rfl rfl rfl b_add fun a f => l_as f rfl rfl fun a f => l_nil ?_
   obtain rfl := sj an
   exact ⟨_, rfl, _, _, _, rfl, _, aH, (GLe.trans ap aF), f.weak ⟨rfl, rfl, rfl, trivial⟩, m, aI⟩
  ·refine k_false f rfl ar ?_
   refine k_exit rfl ?_
   obtain rfl := sj an
   obtain rfl := ao _ rfl
   exact ⟨_, _, rfl, _, al, ap, f.weak ⟨rfl, trivial⟩, m, aq⟩
 ·rintro a w ⟨ac, ad, rfl, ae, af, aJ, f, m, aK⟩
  refine k_seq (k_region ?_)
  refine l_mv f rfl rfl fun a f => l_as f rfl rfl fun a f => l_nil ?_
  refine k_ret ?_
  obtain rfl := sj hd
  exact ⟨[(.int .i64 ad)], ⟨f.get _ _ rfl, trivial⟩, f.defers, _, [af], aJ, m, _, rfl, rfl, aK⟩

theorem Wk.laws_markGraph {W w : World} {G : GH} {H : List Itm} {v0_0 : Value} {it0_0 : Itm} {x0_0 : (List (List Int))} {x1 : Int} (m : Mem W G w (it0_0 :: H)) (o0_0 : Ow2 (RI .i64) 42 2 G it0_0 v0_0 x0_0) {y : Int × ((List (List Int)))} (hd : D.laws_markGraph x0_0 x1 = some y) :
  Calls Tryz.prog 14 #[(.agg #[v0_0]), (.int .i64 x1)] w (Res W G H (fun G' Ho v => ∃ i0 : Itm, Ho = [i0] ∧ v = (.int .i64 y.1) ∧ Ow2 (RI .i64) 42 2 G' i0 v0_0 y.2)) := by
 refine calls_b (args := [(.agg #[v0_0]), (.int .i64 x1)]) (N := 10) [.tmp 4] Tryz.func14 rfl rfl (Nat.le_of_ble_eq_true rfl) rfl fun a f => ?_
 unfold D.laws_markGraph at hd
 refine k_seq (k_region ?_)
 refine l_box (cs := [v0_0]) m f rfl rfl rfl fun aa w a m f => l_as f rfl rfl fun a f => l_nil (k_seq (k_region ?_))
 refine l_fieldAddr Tryz.underlying30 rfl Tryz.sizeOf22 (by decide) f rfl rfl fun a f => l_boxCell 0 0 m Pl22 f rfl rfl rfl rfl fun a f => l_mv f rfl rfl fun a f => ?_
 have m := m.front 1 rfl
 obtain ⟨ab, ac, hd⟩ := bind_some hd
 refine l_res f rfl rfl Tryz.call61 (Wk.laws_markInt64SS m o0_0 ac) fun ad ae af w ag m ah a f => ?_
 obtain ⟨ai, rfl, rfl, aj⟩ := ah
 refine l_as f rfl rfl fun a f => l_nil (k_seq (k_region ?_))
 refine l_mv f rfl rfl fun a f => l_as f rfl rfl fun a f => l_nil ?_
 refine k_ret ?_
 have m := m.eraseAt 1
 obtain rfl := sj hd
 exact ⟨[(.int .i64 ab.1)], ⟨f.get _ _ rfl, trivial⟩, f.defers, _, [ai], ag, m, _, rfl, rfl, aj⟩

theorem Wk.laws_markDecomp {W w : World} {G : GH} {H : List Itm} {v0_0 : Value} {it0_0 : Itm} {v0_1 : Value} {it0_1 : Itm} {x0_0 : (List (List Int))} {x0_1 : (List (List Int))} {x1 : Int} (m : Mem W G w (it0_0 :: it0_1 :: H)) (o0_0 : Ow2 (RI .i64) 42 2 G it0_0 v0_0 x0_0) (o0_1 : Ow2 (RI .i64) 42 2 G it0_1 v0_1 x0_1) {y : Int × ((List (List Int))) × ((List (List Int)))} (hd : D.laws_markDecomp x0_0 x0_1 x1 = some y) :
  Calls Tryz.prog 15 #[(.agg #[v0_0, v0_1]), (.int .i64 x1)] w (Res W G H (fun G' Ho v => ∃ i0 : Itm, ∃ i1 : Itm, Ho = [i0, i1] ∧ v = (.int .i64 y.1) ∧ Ow2 (RI .i64) 42 2 G' i0 v0_0 y.2.1 ∧ Ow2 (RI .i64) 42 2 G' i1 v0_1 y.2.2)) := by
 refine calls_b (args := [(.agg #[v0_0, v0_1]), (.int .i64 x1)]) (N := 14) [.tmp 4] Tryz.func15 rfl rfl (Nat.le_of_ble_eq_true rfl) rfl fun a f => ?_
 unfold D.laws_markDecomp at hd
 refine k_seq (k_region ?_)
 refine l_box (cs := [v0_0, v0_1]) m f rfl rfl rfl fun aa w a m f => l_as f rfl rfl fun a f => l_nil (k_seq (k_region ?_))
 refine l_fieldAddr Tryz.underlying27 rfl Tryz.sizeOf22 (by decide) f rfl rfl fun a f => l_boxCell 0 0 m Pl22 f rfl rfl rfl rfl fun a f => l_mv f rfl rfl fun a f => ?_
 have m := m.front 1 rfl
 obtain ⟨ab, ac, hd⟩ := bind_some hd
 refine l_res f rfl rfl Tryz.call61 (Wk.laws_markInt64SS m o0_0 ac) fun ad ae af w ag m ah a f => ?_
 obtain ⟨ai, rfl, rfl, aj⟩ := ah
 have o0_1 := Ow2.mono (RI.mono _) ag o0_1
 refine l_as f rfl rfl fun a f => l_nil (k_seq (k_region ?_))
 refine l_fieldAddr Tryz.underlying27 rfl Tryz.sizeOf22 (by decide) f rfl rfl fun a f => l_boxCell 1 1 m Pl22 f rfl rfl rfl rfl fun a f => l_mv f rfl rfl fun a f => ?_
 have m := m.front 2 rfl
 obtain ⟨ak, al, hd⟩ := bind_some hd
 refine l_res f rfl rfl Tryz.call61 (Wk.laws_markInt64SS m o0_1 al) fun am an ao w ap m aq a f => ?_
 obtain ⟨ar, rfl, rfl, au⟩ := aq
 have aj := Ow2.mono (RI.mono _) ap aj
 refine l_as f rfl rfl fun a f => l_nil (k_seq (k_region ?_))
 refine l_mv f rfl rfl fun a f => l_as f rfl rfl fun a f => l_nil ?_
 refine k_ret ?_
 have m := m.front 1 rfl
 have m := m.eraseAt 2
 obtain rfl := sj hd
 exact ⟨[(.int .i64 ak.1)], ⟨f.get _ _ rfl, trivial⟩, f.defers, _, [ai, ar], (GLe.trans ag ap), m, _, _, rfl, rfl, aj, au⟩

theorem Wk.laws_heldInt64S {W w : World} {G : GH} {H : List Itm} {v0 : Value} {x0 : (List Int)} {x1 : Int} (m : Mem W G w (H)) (h0 : RSl (RI .i64) G v0 x0) {y : Int} (hd : D.laws_heldInt64S x0 x1 = some y) :
  Calls Tryz.prog 125 #[v0, (.int .i64 x1)] w (Res W G H (fun _ Ho v => Ho = [] ∧ v = (.int .i64 y))) := by
 refine calls_b (args := [v0, (.int .i64 x1)]) (N := 21) [.tmp 4] Tryz.func125 rfl rfl (Nat.le_of_ble_eq_true rfl) rfl fun a f => ?_
 unfold D.laws_heldInt64S at hd
 refine k_seq (k_region ?_)
 refine l_as f rfl rfl fun a f => l_nil (k_seq (k_seq (k_region ?_)))
 refine l_as f rfl rfl fun a f => l_nil ?_
 obtain ⟨aa, ab, hd⟩ := bind_some hd
 refine k_cut (fun a w => ∃ q_20' : Int, aa = .inl q_20' ∧ ∃ ac : Int, ac = q_20' ∧ ∃ (ad : GH), GLe G ad ∧ Fr a 21 [(1, (.int .i64 ac))] ∧ Mem W ad w (H)) ?_ ?_
 ·refine k_block ?_
  refine k_loop (fun ae a w => ∃ af : Int, ∃ ag : Int, (af, ag) = ae ∧ ∃ (ah : GH), GLe G ah ∧ Fr a 21 [(0, v0), (1, (.int .i64 af)), (5, (.int .i64 ag))] ∧ Mem W ah w (H)) ab ⟨_, _, rfl, _, (GLe.refl _), f.weak ⟨rfl, rfl, rfl, trivial⟩, m⟩ ?_
  clear ab f m
  rintro ae ai aj ak a w ⟨af, ag, rfl, ah, al, f, m⟩
  have h0 := rd1 al h0
  refine k_seq (k_seq (k_region ?_))
  refine l_mv f rfl rfl fun a f => l_mv f rfl rfl fun a f => l_len Tryz.underlying42 f rfl rfl h0 fun a f => l_in f rfl rfl rfl b_lss fun a f => l_nil ?_
  rcases cond_some aj with ⟨am, aj⟩ | ⟨am, aj⟩
  ·refine k_true f rfl am ?_
   refine k_skip ?_
   refine k_seq (k_block (k_seq (k_seq (k_region ?_))))
   refine l_mv f rfl rfl fun a f => l_mv f rfl rfl fun a f => ?_
   obtain ⟨an, ao, aj⟩ := bind_some aj
   refine l_at T42 f rfl rfl rfl h0 ao fun ap aq a ar au f => ?_
   subst au
   refine l_loadAt m Pl2 f rfl rfl ar fun a f => l_mv f rfl rfl fun a f => l_in f rfl rfl rfl b_neq fun a f => l_nil ?_
   rcases cond_some aj with ⟨av, aj⟩ | ⟨av, aj⟩
   ·refine k_true f rfl av ?_
    refine k_seq (k_region ?_)
    refine l_as f rfl rfl fun a f => l_nil ?_
    refine k_ret ?_
    obtain rfl := sj aj
    obtain rfl := ak _ rfl
    obtain rfl := sj hd
    exact ⟨[(.int .i64 (-1))], ⟨f.get _ _ rfl, trivial⟩, f.defers, _, [], al, m, rfl, rfl⟩
   ·refine k_false f rfl av ?_
    refine k_skip ?_
    refine k_region ?_
    refine l_mv f rfl rfl fun a f => l_in f rfl rfl rfl b_add fun a f => l_as f rfl rfl fun a f => l_nil (k_region ?_)
    refine l_mv f rfl rfl fun a f => l_in f rfl rfl rfl b_add fun a f => l_as f rfl rfl fun a f => l_nil ?_
    obtain rfl := sj aj
    exact ⟨_, rfl, _, _, rfl, _, al, f.weak ⟨rfl, rfl, rfl, trivial⟩, m⟩
  ·refine k_false f rfl am ?_
   refine k_exit rfl ?_
   obtain rfl := sj aj
   obtain rfl := ak _ rfl
   exact ⟨_, rfl, _, rfl, _, al, f.weak ⟨rfl, trivial⟩, m⟩
 ·rintro a w ⟨_, rfl, ac, rfl, ad, aw, f, m⟩
  refine k_seq (k_region ?_)
  refine l_mv f rfl rfl fun a f => l_as f rfl rfl fun a f => l_nil ?_
  refine k_ret ?_
  obtain rfl := sj hd
  exact ⟨[(.int .i64 ac)], ⟨f.get _ _ rfl, trivial⟩, f.defers, _, [], aw, m, rfl, rfl⟩

theorem Wk.laws_heldInt64SS {W w : World} {G : GH} {H : List Itm} {v0 : Value} {x0 : (List (List Int))} {x1 : Int} (m : Mem W G w (H)) (h0 : RSl (RSl (RI .i64)) G v0 x0) {y : Int} (hd : D.laws_heldInt64SS x0 x1 = some y) :
  Calls Tryz.prog 62 #[v0, (.int .i64 x1)] w (Res W G H (fun _ Ho v => Ho = [] ∧ v = (.int .i64 y))) := by
 refine calls_b (args := [v0, (.int .i64 x1)]) (N := 21) [.tmp 4] Tryz.func62 rfl rfl (Nat.le_of_ble_eq_true rfl) rfl fun a f => ?_
 unfold D.laws_heldInt64SS at hd
 refine k_seq (k_region ?_)
 refine l_as f rfl rfl fun a f => l_nil (k_seq (k_seq (k_region ?_)))
 refine l_as f rfl rfl fun a f => l_nil ?_
 obtain ⟨aa, ab, hd⟩ := bind_some hd
 refine k_cut (fun a w => ∃ q_34' : Int, aa = .inl q_34' ∧ ∃ ac : Int, ac = q_34' ∧ ∃ (ad : GH), GLe G ad ∧ Fr a 21 [(1, (.int .i64 ac))] ∧ Mem W ad w (H)) ?_ ?_
 ·refine k_block ?_
  refine k_loop (fun ae a w => ∃ af : Int, ∃ ag : Int, (af, ag) = ae ∧ ∃ (ah : GH), GLe G ah ∧ Fr a 21 [(0, v0), (1, (.int .i64 af)), (5, (.int .i64 ag))] ∧ Mem W ah w (H)) ab ⟨_, _, rfl, _, (GLe.refl _), f.weak ⟨rfl, rfl, rfl, trivial⟩, m⟩ ?_
  clear ab f m
  rintro ae ai aj ak a w ⟨af, ag, rfl, ah, al, f, m⟩
  have h0 := rd2 al h0
  refine k_seq (k_seq (k_region ?_))
  refine l_mv f rfl rfl fun a f => l_mv f rfl rfl fun a f => l_len Tryz.underlying22 f rfl rfl h0 fun a f => l_in f rfl rfl rfl b_lss fun a f => l_nil ?_
  rcases cond_some aj with ⟨am, aj⟩ | ⟨am, aj⟩
  ·refine k_true f rfl am ?_
   refine k_skip ?_
   refine k_seq (k_block (k_seq (k_region ?_)))
   refine l_mv f rfl rfl fun a f => l_mv f rfl rfl fun a f => ?_
   obtain ⟨an, ao, aj⟩ := bind_some aj
   refine l_at T22 f rfl rfl rfl h0 ao fun ap aq a ar au f => l_loadAt m Pl42 f rfl rfl ar fun a f => l_mv f rfl rfl fun a f => ?_
   obtain ⟨av, aw, aj⟩ := bind_some aj
   refine l_res f rfl rfl Tryz.call125 (Wk.laws_heldInt64S m au aw) fun ax ay az w aA m aB a f => ?_
   obtain ⟨rfl, rfl⟩ := aB
   have h0 := rd2 aA h0
   have ar := At.mono aA ar
   have au := rd1 aA au
   refine l_as f rfl rfl fun a f => l_nil (k_seq (k_region ?_))
   refine l_mv f rfl rfl fun a f => l_in f rfl rfl rfl b_lss fun a f => l_nil ?_
   rcases cond_some aj with ⟨aC, aj⟩ | ⟨aC, aj⟩
   ·refine k_true f rfl aC ?_
    refine k_seq (k_region ?_)
    refine l_as f rfl rfl fun a f => l_nil ?_
    refine k_ret ?_
    obtain rfl := sj aj
    obtain rfl := ak _ rfl
    obtain rfl := sj hd
    exact ⟨[(.int .i64 (-1))], ⟨f.get _ _ rfl, trivial⟩, f.defers, _, [], (GLe.trans al aA), m, rfl, rfl⟩
   ·refine k_false f rfl aC ?_
    refine k_skip ?_
    refine k_region ?_
    refine l_mv f rfl rfl fun a f => l_in f rfl rfl rfl b_add fun a f => l_as f rfl rfl fun a f => l_nil ?_
    obtain rfl := sj aj
    exact ⟨_, rfl, _, _, rfl, _, (GLe.trans al aA), f.weak ⟨rfl, rfl, rfl, trivial⟩, m⟩
  ·refine k_false f rfl am ?_
   refine k_exit rfl ?_
   obtain rfl := sj aj
   obtain rfl := ak _ rfl
   exact ⟨_, rfl, _, rfl, _, al, f.weak ⟨rfl, trivial⟩, m⟩
 ·rintro a w ⟨_, rfl, ac, rfl, ad, aD, f, m⟩
  refine k_seq (k_region ?_)
  refine l_mv f rfl rfl fun a f => l_as f rfl rfl fun a f => l_nil ?_
  refine k_ret ?_
  obtain rfl := sj hd
  exact ⟨[(.int .i64 ac)], ⟨f.get _ _ rfl, trivial⟩, f.defers, _, [], aD, m, rfl, rfl⟩

theorem Wk.laws_heldDecomp {W w : World} {G : GH} {H : List Itm} {v0_0 : Value} {v0_1 : Value} {x0_0 : (List (List Int))} {x0_1 : (List (List Int))} {x1 : Int} (m : Mem W G w (H)) (h0_0 : RSl (RSl (RI .i64)) G v0_0 x0_0) (h0_1 : RSl (RSl (RI .i64)) G v0_1 x0_1) {y : Int} (hd : D.laws_heldDecomp x0_0 x0_1 x1 = some y) :
  Calls Tryz.prog 16 #[(.agg #[v0_0, v0_1]), (.int .i64 x1)] w (Res W G H (fun _ Ho v => Ho = [] ∧ v = (.int .i64 y))) := by
 refine calls_b (args := [(.agg #[v0_0, v0_1]), (.int .i64 x1)]) (N := 18) [.tmp 4] Tryz.func16 rfl rfl (Nat.le_of_ble_eq_true rfl) rfl fun a f => ?_
 unfold D.laws_heldDecomp at hd
 refine k_seq (k_region ?_)
 refine l_box (cs := [v0_0, v0_1]) m f rfl rfl rfl fun aa w a m f => l_as f rfl rfl fun a f => l_nil (k_seq (k_region ?_))
 refine l_fieldAddr Tryz.underlying27 rfl Tryz.sizeOf22 (by decide) f rfl rfl fun a f => l_boxCell 0 0 m Pl22 f rfl rfl rfl rfl fun a f => l_mv f rfl rfl fun a f => ?_
 obtain ⟨ab, ac, hd⟩ := bind_some hd
 refine l_res f rfl rfl Tryz.call62 (Wk.laws_heldInt64SS m h0_0 ac) fun ad ae af w ag m ah a f => ?_
 obtain ⟨rfl, rfl⟩ := ah
 have h0_0 := rd2 ag h0_0
 have h0_1 := rd2 ag h0_1
 refine l_as f rfl rfl fun a f => l_nil (k_seq (k_seq (k_region ?_)))
 refine l_mv f rfl rfl fun a f => l_in f rfl rfl rfl b_lss fun a f => l_nil ?_
 rcases cond_some hd with ⟨ai, hd⟩ | ⟨ai, hd⟩
 ·refine k_true f rfl ai ?_
  refine k_seq (k_region ?_)
  refine l_as f rfl rfl fun a f => l_nil ?_
  refine k_ret ?_
  have m : Mem W ae w H := Mem.drop (H' := [Itm.box aa 27 [v0_0, v0_1]]) m
  obtain rfl := sj hd
  exact ⟨[(.int .i64 (-1))], ⟨f.get _ _ rfl, trivial⟩, f.defers, _, [], ag, m, rfl, rfl⟩
 ·refine k_false f rfl ai ?_
  refine k_skip ?_
  refine k_seq (k_region ?_)
  refine l_fieldAddr Tryz.underlying27 rfl Tryz.sizeOf22 (by decide) f rfl rfl fun a f => l_boxCell 0 1 m Pl22 f rfl rfl rfl rfl fun a f => l_mv f rfl rfl fun a f => ?_
  obtain ⟨aj, ak, hd⟩ := bind_some hd
  refine l_res f rfl rfl Tryz.call62 (Wk.laws_heldInt64SS m h0_1 ak) fun al am an w ao m ap a f => ?_
  obtain ⟨rfl, rfl⟩ := ap
  have h0_0 := rd2 ao h0_0
  have h0_1 := rd2 ao h0_1
  refine l_as f rfl rfl fun a f => l_nil (k_seq (k_seq (k_region ?_)))
  refine l_mv f rfl rfl fun a f => l_in f rfl rfl rfl b_lss fun a f => l_nil ?_
  rcases cond_some hd with ⟨aq, hd⟩ | ⟨aq, hd⟩
  ·refine k_true f rfl aq ?_
   refine k_seq (k_region ?_)
   refine l_as f rfl rfl fun a f => l_nil ?_
   refine k_ret ?_
   have m : Mem W am w H := Mem.drop (H' := [Itm.box aa 27 [v0_0, v0_1]]) m
   obtain rfl := sj hd
   exact ⟨[(.int .i64 (-1))], ⟨f.get _ _ rfl, trivial⟩, f.defers, _, [], (GLe.trans ag ao), m, rfl, rfl⟩
  ·refine k_false f rfl aq ?_
   refine k_skip ?_
   refine k_seq (k_region ?_)
   refine l_mv f rfl rfl fun a f => l_as f rfl rfl fun a f => l_nil ?_
   refine k_ret ?_
   have m : Mem W am w H := Mem.drop (H' := [Itm.box aa 27 [v0_0, v0_1]]) m
   obtain rfl := sj hd
   exact ⟨[(.int .i64 aj)], ⟨f.get _ _ rfl, trivial⟩, f.defers, _, [], (GLe.trans ag ao), m, rfl, rfl⟩

set_option maxHeartbeats 1000000 in
theorem Wk.laws_FnExactDecompBy {W w : World} {G : GH} {H : List Itm} {v0_0 : Value} {v1 : Value} {x0_0 : (List (List Int))} {x1 : (List Int)} (hW : TabW W) (m : Mem W G w (H)) (h0_0 : RSl (RSl (RI .i64)) G v0_0 x0_0) (h1 : RSl (RI .i64) G v1 x1) {y : Bool} (hd : D.laws_FnExactDecompBy x0_0 x1 = some y) :
  Calls Tryz.prog 5 #[(.agg #[v0_0]), v1] w (Res W G H (fun _ Ho v => Ho = [] ∧ v = (.bool y))) := by
 refine calls_b (args := [(.agg #[v0_0]), v1]) (N := 117) [.tmp 4] Tryz.func5 rfl rfl (Nat.le_of_ble_eq_true rfl) rfl fun a f => ?_
 unfold D.laws_FnExactDecompBy at hd
 refine k_seq (k_region ?_)
 refine l_box (cs := [v0_0]) m f rfl rfl rfl fun aa w a m f => l_as f rfl rfl fun a f => l_nil (k_seq (k_seq (k_region ?_)))
 refine l_mv f rfl rfl fun a f => l_len Tryz.underlying42 f rfl rfl h1 fun a f => l_in f rfl rfl rfl b_gtr fun a f => l_nil ?_
 rcases cond_some hd with ⟨ab, hd⟩ | ⟨ab, hd⟩
 ·refine k_true f rfl ab ?_
  refine k_seq (k_region ?_)
  refine l_as f rfl rfl fun a f => l_nil ?_
  refine k_ret ?_
  have m : Mem W G w H := Mem.drop (H' := [Itm.box aa 24 [v0_0]]) m
  obtain rfl := sj hd
  exact ⟨[(.bool true)], ⟨f.get _ _ rfl, trivial⟩, f.defers, _, [], (GLe.refl _), m, rfl, rfl⟩
 ·refine k_false f rfl ab ?_
  refine k_skip ?_
  refine k_seq (k_region ?_)
  refine l_as f rfl rfl fun a f => l_nil (k_seq (k_region ?_))
  refine l_boxAgg 0 0 (ds := [v0_0]) m Ag24 f rfl rfl rfl rfl rfl fun a f => l_mv f rfl rfl fun a f => ?_
  obtain ⟨ac, ad, hd⟩ := bind_some hd
  refine l_res f rfl rfl Tryz.call8 (Wk.laws_szGraph m h0_0 ad) fun ae af ag w ah m ai a f => ?_
  obtain ⟨rfl, rfl⟩ := ai
  have h0_0 := rd2 ah h0_0
  have h1 := rd1 ah h1
  refine l_as f rfl rfl fun a f => l_nil (k_seq (k_seq (k_region ?_)))
  refine l_mv f rfl rfl fun a f => l_in f rfl rfl rfl b_lss fun a f => l_nil ?_
  rcases cond_some hd with ⟨aj, hd⟩ | ⟨aj, hd⟩
  ·refine k_true f rfl aj ?_
   refine k_seq (k_region ?_)
   refine l_as f rfl rfl fun a f => l_nil ?_
   refine k_ret ?_
   have m : Mem W af w H := Mem.drop (H' := [Itm.box aa 24 [v0_0]]) m
   obtain rfl := sj hd
   exact ⟨[(.bool true)], ⟨f.get _ _ rfl, trivial⟩, f.defers, _, [], ah, m, rfl, rfl⟩
  ·refine k_false f rfl aj ?_
   refine k_skip ?_
   refine k_seq (k_region ?_)
   refine l_boxAgg 0 0 (ds := [v0_0]) m Ag24 f rfl rfl rfl rfl rfl fun a f => ?_
   obtain ⟨ak, al, hd⟩ := bind_some hd
   refine l_res f rfl rfl Tryz.call10 (Wk.laws_toGraph m h0_0 al) fun am an ao w ap m aq a f => ?_
   obtain ⟨ar, au, rfl, rfl, av⟩ := aq
   have h0_0 := rd2 ap h0_0
   have h1 := rd1 ap h1
   refine l_mv f rfl rfl fun a f => ?_
   obtain ⟨aw, ax, hd⟩ := bind_some hd
   refine l_res f rfl rfl Tryz.call22 (Wk.laws_toInt64S m h1 ax) fun ay az aA w aB m aC a f => ?_
   obtain ⟨aD, aE, rfl, rfl, aF⟩ := aC
   have h0_0 := rd2 aB h0_0
   have h1 := rd1 aB h1
   have av := Ow2.mono (RI.mono _) aB av
   have m := m.front 1 rfl
   obtain ⟨aG, aH, m, aI⟩ := Ow2.stamp (RI.mono _) av m
   have h0_0 := rd2 aH h0_0
   have h1 := rd1 aH h1
   have aF := od1 aH aF
   obtain ⟨aJ, aK, m, aL⟩ := Ow.stamp (RI.mono _) aF m
   have h0_0 := rd2 aK h0_0
   have h1 := rd1 aK h1
   have aI := rd2 aK aI
   obtain ⟨aM, aN, hd⟩ := bind_some hd
   refine l_res f rfl rfl Tryz.call21 (Wk.spec_DecompBy m aI aL aN) fun aO aP aQ w aR m aS a f => ?_
   obtain ⟨aT, aU, aV, aW, rfl, rfl, aX, aY⟩ := aS
   have h0_0 := rd2 aR h0_0
   have h1 := rd1 aR h1
   have aI := rd2 aR aI
   have aL := rd1 aR aL
   refine l_mv f rfl rfl fun a f => l_op f rfl rfl rfl (r_extract (f.eval rfl) rfl) fun a f => l_op f rfl rfl rfl (r_extract (f.eval rfl) rfl) fun a f => l_alloc (cs := [(.slice none 0 0), (.slice none 0 0)]) Tryz.zeroValue27 m f rfl rfl fun aZ w a m f => l_boxStore 0 0 (ds := [aT, aV]) m Tryz.sizeOf27 f rfl rfl rfl (ones_cons (Ow.one1 1 m aX rfl) (ones_cons (Ow.one1 2 m aY rfl) ones_nil)) rfl (Nat.le_of_ble_eq_true rfl) rfl fun w m => l_as f rfl rfl fun a f => l_nil (k_seq (k_region ?_))
   refine l_boxAgg 3 0 (ds := [v0_0]) m Ag24 f rfl rfl rfl rfl rfl fun a f => ?_
   obtain ⟨a4, a5, hd⟩ := bind_some hd
   refine l_res f rfl rfl Tryz.call10 (Wk.laws_toGraph m h0_0 a5) fun a6 a7 a8 w a9 m ba a f => ?_
   obtain ⟨bb, bc, rfl, rfl, bd⟩ := ba
   have h0_0 := rd2 a9 h0_0
   have h1 := rd1 a9 h1
   have aX := Ow.mono (RSl.mono (RI.mono _)) a9 aX
   have aY := Ow.mono (RSl.mono (RI.mono _)) a9 aY
   refine l_alloc (cs := [(.slice none 0 0)]) Tryz.zeroValue30 m f rfl rfl fun be w a m f => l_boxStore 0 0 (ds := [bb]) m Tryz.sizeOf30 f rfl rfl rfl (ones_cons (Ow2.one1 1 m bd rfl) ones_nil) rfl (Nat.le_of_ble_eq_true rfl) rfl fun w m => l_nil (k_seq (k_region ?_))
   refine l_mv f rfl rfl fun a f => ?_
   obtain ⟨bf, bg, hd⟩ := bind_some hd
   refine l_res f rfl rfl Tryz.call22 (Wk.laws_toInt64S m h1 bg) fun bh bi bj w bk m bl a f => ?_
   obtain ⟨bm, bn, rfl, rfl, bo⟩ := bl
   have h0_0 := rd2 bk h0_0
   have h1 := rd1 bk h1
   have bd := Ow2.mono (RI.mono _) bk bd
   have aX := Ow.mono (RSl.mono (RI.mono _)) bk aX
   have aY := Ow.mono (RSl.mono (RI.mono _)) bk aY
   refine l_as f rfl rfl fun a f => l_nil (k_seq (k_region ?_))
   refine l_boxAgg 1 0 (ds := [bb]) m Ag30 f rfl rfl rfl rfl rfl fun a f => l_mv f rfl rfl fun a f => ?_
   obtain ⟨bp, bq, hd⟩ := bind_some hd
   refine l_res f rfl rfl Tryz.call23 (Ow2.lendCall (RI.mono _) 2 bd m rfl (fun br bs m bt => (Ow.lendCall (RI.mono _) 0 (od1 bs bo) m rfl (fun bu bv m bw => Wk.impl_DecompBy hW m (rd2 bv bt) bw bq) (fun _ G' _ _ ⟨a0, a1, a2, a3, e1, e2, o0, o1⟩ => ⟨a0, a1, a2, a3, e1, e2, Ow2.free (RI.free _) G' o0, Ow2.free (RI.free _) G' o1⟩))) (fun _ G' _ _ ⟨a0, a1, a2, a3, e1, e2, o0, o1⟩ => ⟨a0, a1, a2, a3, e1, e2, Ow2.free (RI.free _) G' o0, Ow2.free (RI.free _) G' o1⟩)) fun bx bz bA w bB m bC a f => ?_
   obtain ⟨bD, bE, bF, bG, rfl, rfl, bH, bI⟩ := bC
   have h0_0 := rd2 bB h0_0
   have h1 := rd1 bB h1
   have bo := od1 bB bo
   have bd := Ow2.mono (RI.mono _) bB bd
   have aX := Ow.mono (RSl.mono (RI.mono _)) bB aX
   have aY := Ow.mono (RSl.mono (RI.mono _)) bB aY
   refine l_mv f rfl rfl fun a f => l_op f rfl rfl rfl (r_extract (f.eval rfl) rfl) fun a f => l_op f rfl rfl rfl (r_extract (f.eval rfl) rfl) fun a f => l_alloc (cs := [(.slice none 0 0), (.slice none 0 0)]) Tryz.zeroValue27 m f rfl rfl fun bJ w a m f => l_boxStore 0 0 (ds := [bD, bF]) m Tryz.sizeOf27 f rfl rfl rfl (ones_cons (Ow2.one1 1 m bH rfl) (ones_cons (Ow2.one1 2 m bI rfl) ones_nil)) rfl (Nat.le_of_ble_eq_true rfl) rfl fun w m => l_as f rfl rfl fun a f => l_nil (k_seq (k_seq (k_region ?_)))
   refine l_boxAgg 0 0 (ds := [bD, bF]) m Ag27 f rfl rfl rfl rfl rfl fun a f => l_boxAgg 6 0 (ds := [aT, aV]) m Ag27 f rfl rfl rfl rfl rfl fun a f => ?_
   obtain ⟨bK, bL, hd⟩ := bind_some hd
   refine l_res f rfl rfl Tryz.call12 (Ow2.lendCall (RI.mono _) 1 bH m rfl (fun bM bN m bO => (Ow2.lendCall (RI.mono _) 1 (Ow2.mono (RI.mono _) bN bI) m rfl (fun bP bQ m bR => (Ow.lendCall (RSl.mono (RI.mono _)) 5 (Ow.mono (RSl.mono (RI.mono _)) bQ (Ow.mono (RSl.mono (RI.mono _)) bN aX)) m rfl (fun bS bT m bU => (Ow.lendCall (RSl.mono (RI.mono _)) 5 (Ow.mono (RSl.mono (RI.mono _)) bT (Ow.mono (RSl.mono (RI.mono _)) bQ (Ow.mono (RSl.mono (RI.mono _)) bN aY))) m rfl (fun bV bW m bX => Wk.laws_eqDecomp m (rd2 bW (rd2 bT (rd2 bQ bO))) (rd2 bW (rd2 bT bR)) (rd2 bW bU) bX bL) (fun _ _ _ _ h => h))) (fun _ _ _ _ h => h))) (fun _ _ _ _ h => h))) (fun _ _ _ _ h => h)) fun bY bZ b0 w b1 m b2 a f => ?_
   obtain ⟨rfl, rfl⟩ := b2
   have h0_0 := rd2 b1 h0_0
   have h1 := rd1 b1 h1
   have bH := Ow2.mono (RI.mono _) b1 bH
   have bI := Ow2.mono (RI.mono _) b1 bI
   have bo := od1 b1 bo
   have bd := Ow2.mono (RI.mono _) b1 bd
   have aX := Ow.mono (RSl.mono (RI.mono _)) b1 aX
   have aY := Ow.mono (RSl.mono (RI.mono _)) b1 aY
   refine l_op f rfl rfl rfl (r_not (f.eval rfl)) fun a f => l_mv f rfl rfl fun a f => ?_
   refine l_cut 4 (fun a w => ∃ b3, GLe bZ b3 ∧ Mem W b3 w (Itm.box bJ 27 [bD, bF] :: bE :: bG :: bn :: Itm.box be 30 [bb] :: bc :: Itm.box aZ 27 [aT, aV] :: aU :: aW :: Itm.box aa 24 [v0_0] :: H) ∧ Fr a 117 [(0, (.agg #[v0_0])), (1, v1), (2, (.pointer (some ⟨aa, 0, none⟩))), (5, (.int .i64 ac)), (6, (.pointer (some ⟨aZ, 0, none⟩))), (7, (.bool aM.2.2)), (8, (.pointer (some ⟨be, 0, none⟩))), (9, bm), (10, (.pointer (some ⟨bJ, 0, none⟩))), (11, (.bool bp.2.2)), (43, (.agg #[bD, bF])), (44, (.agg #[aT, aV])), (45, (.bool bK)), (46, (.bool (!bK))), (47, (.bool (!bK))), (51, (.bool ((!bK) || (bp.2.2 != aM.2.2))))]) ?_ ?_
   ·rcases Bool.eq_false_or_eq_true (!bK) with b4 | b4
    ·refine l_not' f rfl rfl rfl b4 fun a f => ?_
     refine l_not' f rfl rfl rfl b4 fun a f => l_not' f rfl rfl rfl b4 fun a f => l_op f rfl rfl rfl (r_pickT (f.eval rfl) b4 (f.eval rfl)) fun a f => ?_
     exact ⟨_, (GLe.refl _), m, f.weak ⟨rfl, rfl, rfl, rfl, rfl, rfl, rfl, rfl, rfl, rfl, rfl, rfl, rfl, rfl, rfl, by rw [b4]; rfl, trivial⟩⟩
    ·refine l_run f rfl rfl b4 ?_
     refine l_mv f rfl rfl fun a f => l_run f rfl rfl b4 ?_
     refine l_mv f rfl rfl fun a f => l_run f rfl rfl b4 ?_
     refine l_op f rfl rfl rfl (r_bool_neq (f.eval rfl) (f.eval rfl) Tryz.underlying4) fun a f => l_op f rfl rfl rfl (r_pickF (f.eval rfl) b4 (f.eval rfl)) fun a f => ?_
     exact ⟨_, (GLe.refl _), m, f.weak ⟨rfl, rfl, rfl, rfl, rfl, rfl, rfl, rfl, rfl, rfl, rfl, rfl, rfl, rfl, rfl, by rw [b4]; rfl, trivial⟩⟩
   ·rintro a w ⟨b3, b5, m, f⟩
    have h0_0 := rd2 b5 h0_0
    have h1 := rd1 b5 h1
    have bH := Ow2.mono (RI.mono _) b5 bH
    have bI := Ow2.mono (RI.mono _) b5 bI
    have bo := od1 b5 bo
    have bd := Ow2.mono (RI.mono _) b5 bd
    have aX := Ow.mono (RSl.mono (RI.mono _)) b5 aX
    have aY := Ow.mono (RSl.mono (RI.mono _)) b5 aY
    refine l_nil ?_
    rcases cond_some hd with ⟨b6, hd⟩ | ⟨b6, hd⟩
    ·refine k_true f rfl b6 ?_
     refine k_seq (k_region ?_)
     refine l_as f rfl rfl fun a f => l_nil ?_
     refine k_ret ?_
     have m : Mem W b3 w H := Mem.drop (H' := [Itm.box bJ 27 [bD, bF], bE, bG, bn, Itm.box be 30 [bb], bc, Itm.box aZ 27 [aT, aV], aU, aW, Itm.box aa 24 [v0_0]]) m
     obtain rfl := sj hd
     exact ⟨[(.bool false)], ⟨f.get _ _ rfl, trivial⟩, f.defers, _, [], (GLe.trans ah (GLe.trans ap (GLe.trans aB (GLe.trans aH (GLe.trans aK (GLe.trans aR (GLe.trans a9 (GLe.trans bk (GLe.trans bB (GLe.trans b1 b5)))))))))), m, rfl, rfl⟩
    ·refine k_false f rfl b6 ?_
     refine k_skip ?_
     refine k_seq (k_seq ?_)
     refine k_draw 5 Follows (by kernel_rfl) m ?_
     refine q_boxAgg (i := 0) (ds := [bb]) 5 4 Ag30 rfl rfl rfl rfl (by kernel_rfl) rfl f rfl rfl rfl fun a f => q_boxAgg (i := 1) (ds := [v0_0]) 5 9 Ag24 rfl rfl rfl rfl (by kernel_rfl) rfl f rfl rfl rfl fun a f => q_one (i := 2) rfl (by kernel_rfl) rfl fun b7 w b8 m b9 b9 => ?_
     have h0_0 := rd2 b8 h0_0
     have h1 := rd1 b8 h1
     have bH := Ow2.mono (RI.mono _) b8 bH
     have bI := Ow2.mono (RI.mono _) b8 bI
     have bo := od1 b8 bo
     have bd := Ow2.mono (RI.mono _) b8 bd
     have aX := Ow.mono (RSl.mono (RI.mono _)) b8 aX
     have aY := Ow.mono (RSl.mono (RI.mono _)) b8 aY
     obtain ⟨ca, cb, hd⟩ := bind_some hd
     refine l_res f rfl rfl Tryz.call10 (Wk.laws_toGraph m h0_0 cb) fun cc cd ce w cf m cg a f => ?_
     obtain ⟨ch, ci, rfl, rfl, cj⟩ := cg
     have h0_0 := rd2 cf h0_0
     have h1 := rd1 cf h1
     have bH := Ow2.mono (RI.mono _) cf bH
     have bI := Ow2.mono (RI.mono _) cf bI
     have bo := od1 cf bo
     have bd := Ow2.mono (RI.mono _) cf bd
     have aX := Ow.mono (RSl.mono (RI.mono _)) cf aX
     have aY := Ow.mono (RSl.mono (RI.mono _)) cf aY
     refine l_nil ?_
     refine b9 cd [ci] _ _ cf m ?_
     refine q_one (i := 3) rfl (by kernel_rfl) rfl fun ck w cl m cm cm => ?_
     have h0_0 := rd2 cl h0_0
     have h1 := rd1 cl h1
     have cj := Ow2.mono (RI.mono _) cl cj
     have bH := Ow2.mono (RI.mono _) cl bH
     have bI := Ow2.mono (RI.mono _) cl bI
     have bo := od1 cl bo
     have bd := Ow2.mono (RI.mono _) cl bd
     have aX := Ow.mono (RSl.mono (RI.mono _)) cl aX
     have aY := Ow.mono (RSl.mono (RI.mono _)) cl aY
     obtain ⟨cn, co, hd⟩ := bind_some hd
     refine l_res f rfl rfl Tryz.call13 (Ow2.lendCall (RI.mono _) 6 bd m rfl (fun cp cq m cr => (Ow2.lendCall (RI.mono _) 0 (Ow2.mono (RI.mono _) cq cj) m rfl (fun ct cu m cv => Wk.laws_eqGraph m (rd2 cu cr) cv co) (fun _ _ _ _ h => h))) (fun _ _ _ _ h => h)) fun cw cx cy w cz m cA a f => ?_
     obtain ⟨rfl, rfl⟩ := cA
     have h0_0 := rd2 cz h0_0
     have h1 := rd1 cz h1
     have cj := Ow2.mono (RI.mono _) cz cj
     have bH := Ow2.mono (RI.mono _) cz bH
     have bI := Ow2.mono (RI.mono _) cz bI
     have bo := od1 cz bo
     have bd := Ow2.mono (RI.mono _) cz bd
     have aX := Ow.mono (RSl.mono (RI.mono _)) cz aX
     have aY := Ow.mono (RSl.mono (RI.mono _)) cz aY
     refine l_nil ?_
     refine cm cx [ci] _ _ cz m ?_
     refine q_p 4 5 rfl (by kernel_rfl) f rfl rfl rfl (fun _ => r_not (f.eval rfl)) fun a f => q_end fun cB w cC m => ?_
     have h0_0 := rd2 cC h0_0
     have h1 := rd1 cC h1
     have cj := Ow2.mono (RI.mono _) cC cj
     have bH := Ow2.mono (RI.mono _) cC bH
     have bI := Ow2.mono (RI.mono _) cC bI
     have bo := od1 cC bo
     have bd := Ow2.mono (RI.mono _) cC bd
     have aX := Ow.mono (RSl.mono (RI.mono _)) cC aX
     have aY := Ow.mono (RSl.mono (RI.mono _)) cC aY
     refine l_nil ?_
     rcases cond_some hd with ⟨cD, hd⟩ | ⟨cD, hd⟩
     ·refine k_true f rfl cD ?_
      refine k_seq (k_region ?_)
      refine l_as f rfl rfl fun a f => l_nil ?_
      refine k_ret ?_
      have m : Mem W cB w H := Mem.drop (H' := [ci, Itm.box bJ 27 [bD, bF], bE, bG, bn, Itm.box be 30 [bb], bc, Itm.box aZ 27 [aT, aV], aU, aW, Itm.box aa 24 [v0_0]]) m
      obtain rfl := sj hd
      exact ⟨[(.bool false)], ⟨f.get _ _ rfl, trivial⟩, f.defers, _, [], (GLe.trans ah (GLe.trans ap (GLe.trans aB (GLe.trans aH (GLe.trans aK (GLe.trans aR (GLe.trans a9 (GLe.trans bk (GLe.trans bB (GLe.trans b1 (GLe.trans b5 (GLe.trans b8 (GLe.trans cf (GLe.trans cl (GLe.trans cz cC))))))))))))))), m, rfl, rfl⟩
     ·refine k_false f rfl cD ?_
      refine k_skip ?_
      refine k_seq (k_seq (k_region ?_))
      refine l_mv f rfl rfl fun a f => l_mv f rfl rfl fun a f => ?_
      obtain ⟨cE, cF, hd⟩ := bind_some hd
      refine l_res f rfl rfl Tryz.call22 (Wk.laws_toInt64S m h1 cF) fun cG cH cI w cJ m cK a f => ?_
      obtain ⟨cL, cM, rfl, rfl, cN⟩ := cK
      have h0_0 := rd2 cJ h0_0
      have h1 := rd1 cJ h1
      have cj := Ow2.mono (RI.mono _) cJ cj
      have bH := Ow2.mono (RI.mono _) cJ bH
      have bI := Ow2.mono (RI.mono _) cJ bI
      have bo := od1 cJ bo
      have bd := Ow2.mono (RI.mono _) cJ bd
      have aX := Ow.mono (RSl.mono (RI.mono _)) cJ aX
      have aY := Ow.mono (RSl.mono (RI.mono _)) cJ aY
      obtain ⟨cO, cP, hd⟩ := bind_some hd
      refine l_res f rfl rfl Tryz.call24 (Ow.lendCall (RI.mono _) 5 bo m rfl (fun cQ cR m cS => (Ow.lendCall (RI.mono _) 0 (od1 cR cN) m rfl (fun cT cU m cV => Wk.laws_eqInt64S m (rd1 cU cS) cV cP) (fun _ _ _ _ h => h))) (fun _ _ _ _ h => h)) fun cW cX cY w cZ m c0 a f => ?_
      obtain ⟨rfl, rfl⟩ := c0
      have h0_0 := rd2 cZ h0_0
      have h1 := rd1 cZ h1
      have cN := od1 cZ cN
      have cj := Ow2.mono (RI.mono _) cZ cj
      have bH := Ow2.mono (RI.mono _) cZ bH
      have bI := Ow2.mono (RI.mono _) cZ bI
      have bo := od1 cZ bo
      have bd := Ow2.mono (RI.mono _) cZ bd
      have aX := Ow.mono (RSl.mono (RI.mono _)) cZ aX
      have aY := Ow.mono (RSl.mono (RI.mono _)) cZ aY
      refine l_op f rfl rfl rfl (r_not (f.eval rfl)) fun a f => l_nil ?_
      rcases cond_some hd with ⟨c1, hd⟩ | ⟨c1, hd⟩
      ·refine k_true f rfl c1 ?_
       refine k_seq (k_region ?_)
       refine l_as f rfl rfl fun a f => l_nil ?_
       refine k_ret ?_
       have m : Mem W cX w H := Mem.drop (H' := [cM, ci, Itm.box bJ 27 [bD, bF], bE, bG, bn, Itm.box be 30 [bb], bc, Itm.box aZ 27 [aT, aV], aU, aW, Itm.box aa 24 [v0_0]]) m
       obtain rfl := sj hd
       exact ⟨[(.bool false)], ⟨f.get _ _ rfl, trivial⟩, f.defers, _, [], (GLe.trans ah (GLe.trans ap (GLe.trans aB (GLe.trans aH (GLe.trans aK (GLe.trans aR (GLe.trans a9 (GLe.trans bk (GLe.trans bB (GLe.trans b1 (GLe.trans b5 (GLe.trans b8 (GLe.trans cf (GLe.trans cl (GLe.trans cz (GLe.trans cC (GLe.trans cJ cZ))))))))))))))))), m, rfl, rfl⟩
      ·refine k_false f rfl c1 ?_
       refine k_skip ?_
       refine k_seq (k_region ?_)
       refine l_as f rfl rfl fun a f => l_nil (k_seq (k_region ?_))
       refine l_boxAgg 6 0 (ds := [bb]) m Ag30 f rfl rfl rfl rfl rfl fun a f => l_mv f rfl rfl fun a f => ?_
       have m : Mem W cX w (bc :: cM :: ci :: Itm.box bJ 27 [bD, bF] :: bE :: bG :: bn :: Itm.box be 30 [bb] :: Itm.box aZ 27 [aT, aV] :: aU :: aW :: Itm.box aa 24 [v0_0] :: H) := m.front 7 rfl
       obtain ⟨c2, c3, hd⟩ := bind_some hd
       refine l_res f rfl rfl Tryz.call14 (Wk.laws_markGraph m bd c3) fun c4 c5 c6 w c7 m c8 a f => ?_
       obtain ⟨c9, rfl, rfl, da⟩ := c8
       have h0_0 := rd2 c7 h0_0
       have h1 := rd1 c7 h1
       have cN := od1 c7 cN
       have cj := Ow2.mono (RI.mono _) c7 cj
       have bH := Ow2.mono (RI.mono _) c7 bH
       have bI := Ow2.mono (RI.mono _) c7 bI
       have bo := od1 c7 bo
       have aX := Ow.mono (RSl.mono (RI.mono _)) c7 aX
       have aY := Ow.mono (RSl.mono (RI.mono _)) c7 aY
       refine l_as f rfl rfl fun a f => l_nil (k_seq (k_region ?_))
       refine l_mv f rfl rfl fun a f => l_mv f rfl rfl fun a f => ?_
       have m : Mem W c5 w (bn :: c9 :: cM :: ci :: Itm.box bJ 27 [bD, bF] :: bE :: bG :: Itm.box be 30 [bb] :: Itm.box aZ 27 [aT, aV] :: aU :: aW :: Itm.box aa 24 [v0_0] :: H) := m.front 6 rfl
       obtain ⟨db, dc, hd⟩ := bind_some hd
       refine l_res f rfl rfl Tryz.call25 (Wk.laws_markInt64S m bo dc) fun dd de df w dg m dh a f => ?_
       obtain ⟨di, rfl, rfl, dj⟩ := dh
       have h0_0 := rd2 dg h0_0
       have h1 := rd1 dg h1
       have da := Ow2.mono (RI.mono _) dg da
       have cN := od1 dg cN
       have cj := Ow2.mono (RI.mono _) dg cj
       have bH := Ow2.mono (RI.mono _) dg bH
       have bI := Ow2.mono (RI.mono _) dg bI
       have aX := Ow.mono (RSl.mono (RI.mono _)) dg aX
       have aY := Ow.mono (RSl.mono (RI.mono _)) dg aY
       refine l_as f rfl rfl fun a f => l_nil (k_seq (k_seq (k_region ?_)))
       refine l_mv f rfl rfl fun a f => l_in f rfl rfl rfl b_lss fun a f => l_mv f rfl rfl fun a f => ?_
       obtain ⟨dk, dl, hd⟩ := bind_some hd
       refine l_cut 5 (fun a w => ∃ dm, GLe de dm ∧ Mem W dm w (di :: c9 :: cM :: ci :: Itm.box bJ 27 [bD, bF] :: bE :: bG :: Itm.box be 30 [bb] :: Itm.box aZ 27 [aT, aV] :: aU :: aW :: Itm.box aa 24 [v0_0] :: H) ∧ Fr a 117 [(0, (.agg #[v0_0])), (1, v1), (2, (.pointer (some ⟨aa, 0, none⟩))), (5, (.int .i64 ac)), (6, (.pointer (some ⟨aZ, 0, none⟩))), (7, (.bool aM.2.2)), (8, (.pointer (some ⟨be, 0, none⟩))), (9, bm), (10, (.pointer (some ⟨bJ, 0, none⟩))), (11, (.bool bp.2.2)), (12, (.int .i64 db.1)), (68, (.int .i64 db.1)), (69, (.bool (decide (db.1 < 0)))), (70, (.bool (decide (db.1 < 0)))), (75, (.bool dk))]) ?_ ?_
       ·rcases cond_some dl with ⟨dn, dl⟩ | ⟨dn, dl⟩
        ·refine l_not' f rfl rfl rfl dn fun a f => ?_
         refine l_not' f rfl rfl rfl dn fun a f => l_not' f rfl rfl rfl dn fun a f => l_not' f rfl rfl rfl dn fun a f => l_op f rfl rfl rfl (r_pickT (f.eval rfl) dn (f.eval rfl)) fun a f => ?_
         obtain rfl := sj dl
         exact ⟨_, (GLe.refl _), m, f.weak ⟨rfl, rfl, rfl, rfl, rfl, rfl, rfl, rfl, rfl, rfl, rfl, rfl, rfl, rfl, rfl, trivial⟩⟩
        ·refine l_run f rfl rfl dn ?_
         refine l_boxAgg 4 0 (ds := [bD, bF]) m Ag27 f rfl rfl rfl rfl rfl fun a f => l_run f rfl rfl dn ?_
         refine l_boxAgg 8 0 (ds := [aT, aV]) m Ag27 f rfl rfl rfl rfl rfl fun a f => l_run f rfl rfl dn ?_
         obtain ⟨dp, dq, dl⟩ := bind_some dl
         refine l_res f rfl rfl Tryz.call12 (Ow2.lendCall (RI.mono _) 5 bH m rfl (fun dr dt m du => (Ow2.lendCall (RI.mono _) 5 (Ow2.mono (RI.mono _) dt bI) m rfl (fun dv dw m dx => (Ow.lendCall (RSl.mono (RI.mono _)) 7 (Ow.mono (RSl.mono (RI.mono _)) dw (Ow.mono (RSl.mono (RI.mono _)) dt aX)) m rfl (fun dy dz m dA => (Ow.lendCall (RSl.mono (RI.mono _)) 7 (Ow.mono (RSl.mono (RI.mono _)) dz (Ow.mono (RSl.mono (RI.mono _)) dw (Ow.mono (RSl.mono (RI.mono _)) dt aY))) m rfl (fun dB dC m dD => Wk.laws_eqDecomp m (rd2 dC (rd2 dz (rd2 dw du))) (rd2 dC (rd2 dz dx)) (rd2 dC dA) dD dq) (fun _ _ _ _ h => h))) (fun _ _ _ _ h => h))) (fun _ _ _ _ h => h))) (fun _ _ _ _ h => h)) fun dE dF dG w dH m dI a f => ?_
         obtain ⟨rfl, rfl⟩ := dI
         have h0_0 := rd2 dH h0_0
         have h1 := rd1 dH h1
         have dj := od1 dH dj
         have da := Ow2.mono (RI.mono _) dH da
         have cN := od1 dH cN
         have cj := Ow2.mono (RI.mono _) dH cj
         have bH := Ow2.mono (RI.mono _) dH bH
         have bI := Ow2.mono (RI.mono _) dH bI
         have aX := Ow.mono (RSl.mono (RI.mono _)) dH aX
         have aY := Ow.mono (RSl.mono (RI.mono _)) dH aY
         refine l_run f rfl rfl dn ?_
         refine l_op f rfl rfl rfl (r_not (f.eval rfl)) fun a f => l_op f rfl rfl rfl (r_pickF (f.eval rfl) dn (f.eval rfl)) fun a f => ?_
         obtain rfl := sj dl
         exact ⟨_, dH, m, f.weak ⟨rfl, rfl, rfl, rfl, rfl, rfl, rfl, rfl, rfl, rfl, rfl, rfl, rfl, rfl, rfl, trivial⟩⟩
       ·rintro a w ⟨dm, dJ, m, f⟩
        have h0_0 := rd2 dJ h0_0
        have h1 := rd1 dJ h1
        have dj := od1 dJ dj
        have da := Ow2.mono (RI.mono _) dJ da
        have cN := od1 dJ cN
        have cj := Ow2.mono (RI.mono _) dJ cj
        have bH := Ow2.mono (RI.mono _) dJ bH
        have bI := Ow2.mono (RI.mono _) dJ bI
        have aX := Ow.mono (RSl.mono (RI.mono _)) dJ aX
        have aY := Ow.mono (RSl.mono (RI.mono _)) dJ aY
        refine l_mv f rfl rfl fun a f => ?_
        refine l_cut 4 (fun a w => ∃ dK, GLe dm dK ∧ Mem W dK w (di :: c9 :: cM :: ci :: Itm.box bJ 27 [bD, bF] :: bE :: bG :: Itm.box be 30 [bb] :: Itm.box aZ 27 [aT, aV] :: aU :: aW :: Itm.box aa 24 [v0_0] :: H) ∧ Fr a 117 [(0, (.agg #[v0_0])), (1, v1), (2, (.pointer (some ⟨aa, 0, none⟩))), (5, (.int .i64 ac)), (6, (.pointer (some ⟨aZ, 0, none⟩))), (7, (.bool aM.2.2)), (8, (.pointer (some ⟨be, 0, none⟩))), (9, bm), (10, (.pointer (some ⟨bJ, 0, none⟩))), (11, (.bool bp.2.2)), (12, (.int .i64 db.1)), (68, (.int .i64 db.1)), (69, (.bool (decide (db.1 < 0)))), (70, (.bool (decide (db.1 < 0)))), (75, (.bool dk)), (76, (.bool dk)), (80, (.bool (dk || (bp.2.2 != aM.2.2))))]) ?_ ?_
        ·rcases Bool.eq_false_or_eq_true dk with dL | dL
         ·refine l_not' f rfl rfl rfl dL fun a f => ?_
          refine l_not' f rfl rfl rfl dL fun a f => l_not' f rfl rfl rfl dL fun a f => l_op f rfl rfl rfl (r_pickT (f.eval rfl) dL (f.eval rfl)) fun a f => ?_
          exact ⟨_, (GLe.refl _), m, f.weak ⟨rfl, rfl, rfl, rfl, rfl, rfl, rfl, rfl, rfl, rfl, rfl, rfl, rfl, rfl, rfl, rfl, by rw [dL]; rfl, trivial⟩⟩
         ·refine l_run f rfl rfl dL ?_
          refine l_mv f rfl rfl fun a f => l_run f rfl rfl dL ?_
          refine l_mv f rfl rfl fun a f => l_run f rfl rfl dL ?_
          refine l_op f rfl rfl rfl (r_bool_neq (f.eval rfl) (f.eval rfl) Tryz.underlying4) fun a f => l_op f rfl rfl rfl (r_pickF (f.eval rfl) dL (f.eval rfl)) fun a f => ?_
          exact ⟨_, (GLe.refl _), m, f.weak ⟨rfl, rfl, rfl, rfl, rfl, rfl, rfl, rfl, rfl, rfl, rfl, rfl, rfl, rfl, rfl, rfl, by rw [dL]; rfl, trivial⟩⟩
        ·rintro a w ⟨dK, dM, m, f⟩
         have h0_0 := rd2 dM h0_0
         have h1 := rd1 dM h1
         have dj := od1 dM dj
         have da := Ow2.mono (RI.mono _) dM da
         have cN := od1 dM cN
         have cj := Ow2.mono (RI.mono _) dM cj
         have bH := Ow2.mono (RI.mono _) dM bH
         have bI := Ow2.mono (RI.mono _) dM bI
         have aX := Ow.mono (RSl.mono (RI.mono _)) dM aX
         have aY := Ow.mono (RSl.mono (RI.mono _)) dM aY
         refine l_nil ?_
         rcases cond_some hd with ⟨dN, hd⟩ | ⟨dN, hd⟩
         ·refine k_true f rfl dN ?_
          refine k_seq (k_region ?_)
          refine l_as f rfl rfl fun a f => l_nil ?_
          refine k_ret ?_
          have m : Mem W dK w H := Mem.drop (H' := [di, c9, cM, ci, Itm.box bJ 27 [bD, bF], bE, bG, Itm.box be 30 [bb], Itm.box aZ 27 [aT, aV], aU, aW, Itm.box aa 24 [v0_0]]) m
          obtain rfl := sj hd
          exact ⟨[(.bool false)], ⟨f.get _ _ rfl, trivial⟩, f.defers, _, [], (GLe.trans ah (GLe.trans ap (GLe.trans aB (GLe.trans aH (GLe.trans aK (GLe.trans aR (GLe.trans a9 (GLe.trans bk (GLe.trans bB (GLe.trans b1 (GLe.trans b5 (GLe.trans b8 (GLe.trans cf (GLe.trans cl (GLe.trans cz (GLe.trans cC (GLe.trans cJ (GLe.trans cZ (GLe.trans c7 (GLe.trans dg (GLe.trans dJ dM))))))))))))))))))))), m, rfl, rfl⟩
         ·refine k_false f rfl dN ?_
          refine k_skip ?_
          refine k_seq (k_region ?_)
          refine l_as f rfl rfl fun a f => l_nil (k_seq (k_region ?_))
          refine l_boxAgg 4 0 (ds := [bD, bF]) m Ag27 f rfl rfl rfl rfl rfl fun a f => l_mv f rfl rfl fun a f => ?_
          have m := m.front 6 rfl
          have m : Mem W dK w (bE :: bG :: di :: c9 :: cM :: ci :: Itm.box bJ 27 [bD, bF] :: Itm.box be 30 [bb] :: Itm.box aZ 27 [aT, aV] :: aU :: aW :: Itm.box aa 24 [v0_0] :: H) := m.front 6 rfl
          obtain ⟨dO, dP, hd⟩ := bind_some hd
          refine l_res f rfl rfl Tryz.call15 (Wk.laws_markDecomp m bH bI dP) fun dQ dR dS w dT m dU a f => ?_
          obtain ⟨dV, dW, rfl, rfl, dX, dY⟩ := dU
          have h0_0 := rd2 dT h0_0
          have h1 := rd1 dT h1
          have dj := od1 dT dj
          have da := Ow2.mono (RI.mono _) dT da
          have cN := od1 dT cN
          have cj := Ow2.mono (RI.mono _) dT cj
          have aX := Ow.mono (RSl.mono (RI.mono _)) dT aX
          have aY := Ow.mono (RSl.mono (RI.mono _)) dT aY
          refine l_as f rfl rfl fun a f => l_nil (k_seq (k_region ?_))
          refine l_as f rfl rfl fun a f => l_nil (k_seq (k_region ?_))
          refine l_boxAgg 6 0 (ds := [bD, bF]) m Ag27 f rfl rfl rfl rfl rfl fun a f => l_mv f rfl rfl fun a f => ?_
          obtain ⟨dZ, d0, hd⟩ := bind_some hd
          refine l_res f rfl rfl Tryz.call16 (Ow2.lendCall (RI.mono _) 0 dX m rfl (fun d1 d2 m d3 => (Ow2.lendCall (RI.mono _) 0 (Ow2.mono (RI.mono _) d2 dY) m rfl (fun d4 d5 m d6 => Wk.laws_heldDecomp m (rd2 d5 d3) d6 d0) (fun _ _ _ _ h => h))) (fun _ _ _ _ h => h)) fun d7 d8 d9 w ea m eb a f => ?_
          obtain ⟨rfl, rfl⟩ := eb
          have h0_0 := rd2 ea h0_0
          have h1 := rd1 ea h1
          have dX := Ow2.mono (RI.mono _) ea dX
          have dY := Ow2.mono (RI.mono _) ea dY
          have dj := od1 ea dj
          have da := Ow2.mono (RI.mono _) ea da
          have cN := od1 ea cN
          have cj := Ow2.mono (RI.mono _) ea cj
          have aX := Ow.mono (RSl.mono (RI.mono _)) ea aX
          have aY := Ow.mono (RSl.mono (RI.mono _)) ea aY
          refine l_as f rfl rfl fun a f => l_nil (k_seq (k_seq (k_region ?_)))
          refine l_mv f rfl rfl fun a f => l_in f rfl rfl rfl b_lss fun a f => l_nil ?_
          rcases cond_some hd with ⟨ec, hd⟩ | ⟨ec, hd⟩
          ·refine k_true f rfl ec ?_
           refine k_seq (k_region ?_)
           refine l_as f rfl rfl fun a f => l_nil ?_
           refine k_ret ?_
           have m : Mem W d8 w H := Mem.drop (H' := [dV, dW, di, c9, cM, ci, Itm.box bJ 27 [bD, bF], Itm.box be 30 [bb], Itm.box aZ 27 [aT, aV], aU, aW, Itm.box aa 24 [v0_0]]) m
           obtain rfl := sj hd
           exact ⟨[(.bool false)], ⟨f.get _ _ rfl, trivial⟩, f.defers, _, [], (GLe.trans ah (GLe.trans ap (GLe.trans aB (GLe.trans aH (GLe.trans aK (GLe.trans aR (GLe.trans a9 (GLe.trans bk (GLe.trans bB (GLe.trans b1 (GLe.trans b5 (GLe.trans b8 (GLe.trans cf (GLe.trans cl (GLe.trans cz (GLe.trans cC (GLe.trans cJ (GLe.trans cZ (GLe.trans c7 (GLe.trans dg (GLe.trans dJ (GLe.trans dM (GLe.trans dT ea))))))))))))))))))))))), m, rfl, rfl⟩
          ·refine k_false f rfl ec ?_
           refine k_skip ?_
           refine k_seq (k_seq (k_region ?_))
           refine l_mv f rfl rfl fun a f => l_mv f rfl rfl fun a f => l_in f rfl rfl rfl b_neq fun a f => l_nil ?_
           rcases cond_some hd with ⟨ed, hd⟩ | ⟨ed, hd⟩
           ·refine k_true f rfl ed ?_
            refine k_seq (k_region ?_)
            refine l_as f rfl rfl fun a f => l_nil ?_
            refine k_ret ?_
            have m : Mem W d8 w H := Mem.drop (H' := [dV, dW, di, c9, cM, ci, Itm.box bJ 27 [bD, bF], Itm.box be 30 [bb], Itm.box aZ 27 [aT, aV], aU, aW, Itm.box aa 24 [v0_0]]) m
            obtain rfl := sj hd
            exact ⟨[(.bool false)], ⟨f.get _ _ rfl, trivial⟩, f.defers, _, [], (GLe.trans ah (GLe.trans ap (GLe.trans aB (GLe.trans aH (GLe.trans aK (GLe.trans aR (GLe.trans a9 (GLe.trans bk (GLe.trans bB (GLe.trans b1 (GLe.trans b5 (GLe.trans b8 (GLe.trans cf (GLe.trans cl (GLe.trans cz (GLe.trans cC (GLe.trans cJ (GLe.trans cZ (GLe.trans c7 (GLe.trans dg (GLe.trans dJ (GLe.trans dM (GLe.trans dT ea))))))))))))))))))))))), m, rfl, rfl⟩
           ·refine k_false f rfl ed ?_
            refine k_skip ?_
            refine k_seq (k_region ?_)
            refine l_boxAgg 11 0 (ds := [v0_0]) m Ag24 f rfl rfl rfl rfl rfl fun a f => ?_
            obtain ⟨ee, ef, hd⟩ := bind_some hd
            refine l_res f rfl rfl Tryz.call10 (Wk.laws_toGraph m h0_0 ef) fun eg eh ei w ej m ek a f => ?_
            obtain ⟨el, em, rfl, rfl, en⟩ := ek
            have h0_0 := rd2 ej h0_0
            have h1 := rd1 ej h1
            have dX := Ow2.mono (RI.mono _) ej dX
            have dY := Ow2.mono (RI.mono _) ej dY
            have dj := od1 ej dj
            have da := Ow2.mono (RI.mono _) ej da
            have cN := od1 ej cN
            have cj := Ow2.mono (RI.mono _) ej cj
            have aX := Ow.mono (RSl.mono (RI.mono _)) ej aX
            have aY := Ow.mono (RSl.mono (RI.mono _)) ej aY
            refine l_mv f rfl rfl fun a f => ?_
            obtain ⟨eo, ep, hd⟩ := bind_some hd
            refine l_res f rfl rfl Tryz.call22 (Wk.laws_toInt64S m h1 ep) fun eq er es w et m eu a f => ?_
            obtain ⟨ev, ew, rfl, rfl, ex⟩ := eu
            have h0_0 := rd2 et h0_0
            have h1 := rd1 et h1
            have en := Ow2.mono (RI.mono _) et en
            have dX := Ow2.mono (RI.mono _) et dX
            have dY := Ow2.mono (RI.mono _) et dY
            have dj := od1 et dj
            have da := Ow2.mono (RI.mono _) et da
            have cN := od1 et cN
            have cj := Ow2.mono (RI.mono _) et cj
            have aX := Ow.mono (RSl.mono (RI.mono _)) et aX
            have aY := Ow.mono (RSl.mono (RI.mono _)) et aY
            obtain ⟨ey, ez, hd⟩ := bind_some hd
            refine l_res f rfl rfl Tryz.call23 (Ow2.lendCall (RI.mono _) 1 en m rfl (fun eA eB m eC => (Ow.lendCall (RI.mono _) 0 (od1 eB ex) m rfl (fun eD eE m eF => Wk.impl_DecompBy hW m (rd2 eE eC) eF ez) (fun _ G' _ _ ⟨a0, a1, a2, a3, e1, e2, o0, o1⟩ => ⟨a0, a1, a2, a3, e1, e2, Ow2.free (RI.free _) G' o0, Ow2.free (RI.free _) G' o1⟩))) (fun _ G' _ _ ⟨a0, a1, a2, a3, e1, e2, o0, o1⟩ => ⟨a0, a1, a2, a3, e1, e2, Ow2.free (RI.free _) G' o0, Ow2.free (RI.free _) G' o1⟩)) fun eG eH eI w eJ m eK a f => ?_
            obtain ⟨eL, eM, eN, eO, rfl, rfl, eP, eQ⟩ := eK
            have h0_0 := rd2 eJ h0_0
            have h1 := rd1 eJ h1
            have ex := od1 eJ ex
            have en := Ow2.mono (RI.mono _) eJ en
            have dX := Ow2.mono (RI.mono _) eJ dX
            have dY := Ow2.mono (RI.mono _) eJ dY
            have dj := od1 eJ dj
            have da := Ow2.mono (RI.mono _) eJ da
            have cN := od1 eJ cN
            have cj := Ow2.mono (RI.mono _) eJ cj
            have aX := Ow.mono (RSl.mono (RI.mono _)) eJ aX
            have aY := Ow.mono (RSl.mono (RI.mono _)) eJ aY
            refine l_mv f rfl rfl fun a f => l_op f rfl rfl rfl (r_extract (f.eval rfl) rfl) fun a f => l_op f rfl rfl rfl (r_extract (f.eval rfl) rfl) fun a f => l_alloc (cs := [(.slice none 0 0), (.slice none 0 0)]) Tryz.zeroValue27 m f rfl rfl fun eR w a m f => l_boxStore 0 0 (ds := [eL, eN]) m Tryz.sizeOf27 f rfl rfl rfl (ones_cons (Ow2.one1 1 m eP rfl) (ones_cons (Ow2.one1 2 m eQ rfl) ones_nil)) rfl (Nat.le_of_ble_eq_true rfl) rfl fun w m => l_as f rfl rfl fun a f => l_nil (k_seq (k_seq (k_region ?_)))
            refine l_boxAgg 0 0 (ds := [eL, eN]) m Ag27 f rfl rfl rfl rfl rfl fun a f => l_boxAgg 13 0 (ds := [aT, aV]) m Ag27 f rfl rfl rfl rfl rfl fun a f => ?_
            obtain ⟨eS, eT, hd⟩ := bind_some hd
            refine l_res f rfl rfl Tryz.call12 (Ow2.lendCall (RI.mono _) 1 eP m rfl (fun eU eV m eW => (Ow2.lendCall (RI.mono _) 1 (Ow2.mono (RI.mono _) eV eQ) m rfl (fun eX eY m eZ => (Ow.lendCall (RSl.mono (RI.mono _)) 12 (Ow.mono (RSl.mono (RI.mono _)) eY (Ow.mono (RSl.mono (RI.mono _)) eV aX)) m rfl (fun e0 e3 m e4 => (Ow.lendCall (RSl.mono (RI.mono _)) 12 (Ow.mono (RSl.mono (RI.mono _)) e3 (Ow.mono (RSl.mono (RI.mono _)) eY (Ow.mono (RSl.mono (RI.mono _)) eV aY))) m rfl (fun e5 e6 m e7 => Wk.laws_eqDecomp m (rd2 e6 (rd2 e3 (rd2 eY eW))) (rd2 e6 (rd2 e3 eZ)) (rd2 e6 e4) e7 eT) (fun _ _ _ _ h => h))) (fun _ _ _ _ h => h))) (fun _ _ _ _ h => h))) (fun _ _ _ _ h => h)) fun e8 e9 fa w fb m fc a f => ?_
            obtain ⟨rfl, rfl⟩ := fc
            have h0_0 := rd2 fb h0_0
            have h1 := rd1 fb h1
            have eP := Ow2.mono (RI.mono _) fb eP
            have eQ := Ow2.mono (RI.mono _) fb eQ
            have ex := od1 fb ex
            have en := Ow2.mono (RI.mono _) fb en
            have dX := Ow2.mono (RI.mono _) fb dX
            have dY := Ow2.mono (RI.mono _) fb dY
            have dj := od1 fb dj
            have da := Ow2.mono (RI.mono _) fb da
            have cN := od1 fb cN
            have cj := Ow2.mono (RI.mono _) fb cj
            have aX := Ow.mono (RSl.mono (RI.mono _)) fb aX
            have aY := Ow.mono (RSl.mono (RI.mono _)) fb aY
            refine l_op f rfl rfl rfl (r_not (f.eval rfl)) fun a f => l_mv f rfl rfl fun a f => ?_
            refine l_cut 4 (fun a w => ∃ fd, GLe e9 fd ∧ Mem W fd w (Itm.box eR 27 [eL, eN] :: eM :: eO :: ew :: em :: dV :: dW :: di :: c9 :: cM :: ci :: Itm.box bJ 27 [bD, bF] :: Itm.box be 30 [bb] :: Itm.box aZ 27 [aT, aV] :: aU :: aW :: Itm.box aa 24 [v0_0] :: H) ∧ Fr a 117 [(0, (.agg #[v0_0])), (1, v1), (2, (.pointer (some ⟨aa, 0, none⟩))), (5, (.int .i64 ac)), (6, (.pointer (some ⟨aZ, 0, none⟩))), (7, (.bool aM.2.2)), (8, (.pointer (some ⟨be, 0, none⟩))), (9, bm), (10, (.pointer (some ⟨bJ, 0, none⟩))), (11, (.bool bp.2.2)), (12, (.int .i64 db.1)), (13, (.int .i64 dO.1)), (14, (.int .i64 dZ)), (15, (.pointer (some ⟨eR, 0, none⟩))), (16, (.bool ey.2.2)), (100, (.agg #[eL, eN])), (101, (.agg #[aT, aV])), (102, (.bool eS)), (103, (.bool (!eS))), (104, (.bool (!eS))), (108, (.bool ((!eS) || (ey.2.2 != aM.2.2))))]) ?_ ?_
            ·rcases Bool.eq_false_or_eq_true (!eS) with fe | fe
             ·refine l_not' f rfl rfl rfl fe fun a f => ?_
              refine l_not' f rfl rfl rfl fe fun a f => l_not' f rfl rfl rfl fe fun a f => l_op f rfl rfl rfl (r_pickT (f.eval rfl) fe (f.eval rfl)) fun a f => ?_
              exact ⟨_, (GLe.refl _), m, f.weak ⟨rfl, rfl, rfl, rfl, rfl, rfl, rfl, rfl, rfl, rfl, rfl, rfl, rfl, rfl, rfl, rfl, rfl, rfl, rfl, rfl, by rw [fe]; rfl, trivial⟩⟩
             ·refine l_run f rfl rfl fe ?_
              refine l_mv f rfl rfl fun a f => l_run f rfl rfl fe ?_
              refine l_mv f rfl rfl fun a f => l_run f rfl rfl fe ?_
              refine l_op f rfl rfl rfl (r_bool_neq (f.eval rfl) (f.eval rfl) Tryz.underlying4) fun a f => l_op f rfl rfl rfl (r_pickF (f.eval rfl) fe (f.eval rfl)) fun a f => ?_
              exact ⟨_, (GLe.refl _), m, f.weak ⟨rfl, rfl, rfl, rfl, rfl, rfl, rfl, rfl, rfl, rfl, rfl, rfl, rfl, rfl, rfl, rfl, rfl, rfl, rfl, rfl, by rw [fe]; rfl, trivial⟩⟩
            ·rintro a w ⟨fd, ff, m, f⟩
             have h0_0 := rd2 ff h0_0
             have h1 := rd1 ff h1
             have eP := Ow2.mono (RI.mono _) ff eP
             have eQ := Ow2.mono (RI.mono _) ff eQ
             have ex := od1 ff ex
             have en := Ow2.mono (RI.mono _) ff en
             have dX := Ow2.mono (RI.mono _) ff dX
             have dY := Ow2.mono (RI.mono _) ff dY
             have dj := od1 ff dj
             have da := Ow2.mono (RI.mono _) ff da
             have cN := od1 ff cN
             have cj := Ow2.mono (RI.mono _) ff cj
             have aX := Ow.mono (RSl.mono (RI.mono _)) ff aX
             have aY := Ow.mono (RSl.mono (RI.mono _)) ff aY
             refine l_nil ?_
             rcases cond_some hd with ⟨fg, hd⟩ | ⟨fg, hd⟩
             ·refine k_true f rfl fg ?_
              refine k_seq (k_region ?_)
              refine l_as f rfl rfl fun a f => l_nil ?_
              refine k_ret ?_
              have m : Mem W fd w H := Mem.drop (H' := [Itm.box eR 27 [eL, eN], eM, eO, ew, em, dV, dW, di, c9, cM, ci, Itm.box bJ 27 [bD, bF], Itm.box be 30 [bb], Itm.box aZ 27 [aT, aV], aU, aW, Itm.box aa 24 [v0_0]]) m
              obtain rfl := sj hd
              exact ⟨[(.bool false)], ⟨f.get _ _ rfl, trivial⟩, f.defers, _, [], (GLe.trans ah (GLe.trans ap (GLe.trans aB (GLe.trans aH (GLe.trans aK (GLe.trans aR (GLe.trans a9 (GLe.trans bk (GLe.trans bB (GLe.trans b1 (GLe.trans b5 (GLe.trans b8 (GLe.trans cf (GLe.trans cl (GLe.trans cz (GLe.trans cC (GLe.trans cJ (GLe.trans cZ (GLe.trans c7 (GLe.trans dg (GLe.trans dJ (GLe.trans dM (GLe.trans dT (GLe.trans ea (GLe.trans ej (GLe.trans et (GLe.trans eJ (GLe.trans fb ff)))))))))))))))))))))))))))), m, rfl, rfl⟩
             ·refine k_false f rfl fg ?_
              refine k_skip ?_
              refine k_seq (k_region ?_)
              refine l_as f rfl rfl fun a f => l_nil (k_seq (k_region ?_))
              refine l_boxAgg 11 0 (ds := [bD, bF]) m Ag27 f rfl rfl rfl rfl rfl fun a f => l_mv f rfl rfl fun a f => ?_
              obtain ⟨fh, fi, hd⟩ := bind_some hd
              refine l_res f rfl rfl Tryz.call16 (Ow2.lendCall (RI.mono _) 5 dX m rfl (fun fj fk m fl => (Ow2.lendCall (RI.mono _) 5 (Ow2.mono (RI.mono _) fk dY) m rfl (fun fm fo m fp => Wk.laws_heldDecomp m (rd2 fo fl) fp fi) (fun _ _ _ _ h => h))) (fun _ _ _ _ h => h)) fun fq fr fs w ft m fu a f => ?_
              obtain ⟨rfl, rfl⟩ := fu
              have h0_0 := rd2 ft h0_0
              have h1 := rd1 ft h1
              have eP := Ow2.mono (RI.mono _) ft eP
              have eQ := Ow2.mono (RI.mono _) ft eQ
              have ex := od1 ft ex
              have en := Ow2.mono (RI.mono _) ft en
              have dX := Ow2.mono (RI.mono _) ft dX
              have dY := Ow2.mono (RI.mono _) ft dY
              have dj := od1 ft dj
              have da := Ow2.mono (RI.mono _) ft da
              have cN := od1 ft cN
              have cj := Ow2.mono (RI.mono _) ft cj
              have aX := Ow.mono (RSl.mono (RI.mono _)) ft aX
              have aY := Ow.mono (RSl.mono (RI.mono _)) ft aY
              refine l_as f rfl rfl fun a f => l_nil (k_seq (k_seq (k_region ?_)))
              refine l_mv f rfl rfl fun a f => l_in f rfl rfl rfl b_lss fun a f => l_nil ?_
              rcases cond_some hd with ⟨fv, hd⟩ | ⟨fv, hd⟩
              ·refine k_true f rfl fv ?_
               refine k_seq (k_region ?_)
               refine l_as f rfl rfl fun a f => l_nil ?_
               refine k_ret ?_
               have m : Mem W fr w H := Mem.drop (H' := [Itm.box eR 27 [eL, eN], eM, eO, ew, em, dV, dW, di, c9, cM, ci, Itm.box bJ 27 [bD, bF], Itm.box be 30 [bb], Itm.box aZ 27 [aT, aV], aU, aW, Itm.box aa 24 [v0_0]]) m
               obtain rfl := sj hd
               exact ⟨[(.bool false)], ⟨f.get _ _ rfl, trivial⟩, f.defers, _, [], (GLe.trans ah (GLe.trans ap (GLe.trans aB (GLe.trans aH (GLe.trans aK (GLe.trans aR (GLe.trans a9 (GLe.trans bk (GLe.trans bB (GLe.trans b1 (GLe.trans b5 (GLe.trans b8 (GLe.trans cf (GLe.trans cl (GLe.trans cz (GLe.trans cC (GLe.trans cJ (GLe.trans cZ (GLe.trans c7 (GLe.trans dg (GLe.trans dJ (GLe.trans dM (GLe.trans dT (GLe.trans ea (GLe.trans ej (GLe.trans et (GLe.trans eJ (GLe.trans fb (GLe.trans ff ft))))))))))))))))))))))))))))), m, rfl, rfl⟩
              ·refine k_false f rfl fv ?_
               refine k_skip ?_
               refine k_seq (k_seq (k_region ?_))
               refine l_mv f rfl rfl fun a f => l_mv f rfl rfl fun a f => l_in f rfl rfl rfl b_neq fun a f => l_nil ?_
               rcases cond_some hd with ⟨fw, hd⟩ | ⟨fw, hd⟩
               ·refine k_true f rfl fw ?_
                refine k_seq (k_region ?_)
                refine l_as f rfl rfl fun a f => l_nil ?_
                refine k_ret ?_
                have m : Mem W fr w H := Mem.drop (H' := [Itm.box eR 27 [eL, eN], eM, eO, ew, em, dV, dW, di, c9, cM, ci, Itm.box bJ 27 [bD, bF], Itm.box be 30 [bb], Itm.box aZ 27 [aT, aV], aU, aW, Itm.box aa 24 [v0_0]]) m
                obtain rfl := sj hd
                exact ⟨[(.bool false)], ⟨f.get _ _ rfl, trivial⟩, f.defers, _, [], (GLe.trans ah (GLe.trans ap (GLe.trans aB (GLe.trans aH (GLe.trans aK (GLe.trans aR (GLe.trans a9 (GLe.trans bk (GLe.trans bB (GLe.trans b1 (GLe.trans b5 (GLe.trans b8 (GLe.trans cf (GLe.trans cl (GLe.trans cz (GLe.trans cC (GLe.trans cJ (GLe.trans cZ (GLe.trans c7 (GLe.trans dg (GLe.trans dJ (GLe.trans dM (GLe.trans dT (GLe.trans ea (GLe.trans ej (GLe.trans et (GLe.trans eJ (GLe.trans fb (GLe.trans ff ft))))))))))))))))))))))))))))), m, rfl, rfl⟩
               ·refine k_false f rfl fw ?_
                refine k_skip ?_
                refine k_seq (k_region ?_)
                refine l_as f rfl rfl fun a f => l_nil ?_
                refine k_ret ?_
                have m : Mem W fr w H := Mem.drop (H' := [Itm.box eR 27 [eL, eN], eM, eO, ew, em, dV, dW, di, c9, cM, ci, Itm.box bJ 27 [bD, bF], Itm.box be 30 [bb], Itm.box aZ 27 [aT, aV], aU, aW, Itm.box aa 24 [v0_0]]) m
                obtain rfl := sj hd
                exact ⟨[(.bool true)], ⟨f.get _ _ rfl, trivial⟩, f.defers, _, [], (GLe.trans ah (GLe.trans ap (GLe.trans aB (GLe.trans aH (GLe.trans aK (GLe.trans aR (GLe.trans a9 (GLe.trans bk (GLe.trans bB (GLe.trans b1 (GLe.trans b5 (GLe.trans b8 (GLe.trans cf (GLe.trans cl (GLe.trans cz (GLe.trans cC (GLe.trans cJ (GLe.trans cZ (GLe.trans c7 (GLe.trans dg (GLe.trans dJ (GLe.trans dM (GLe.trans dT (GLe.trans ea (GLe.trans ej (GLe.trans et (GLe.trans eJ (GLe.trans fb (GLe.trans ff ft))))))))))))))))))))))))))))), m, rfl, rfl⟩

end Go.Proofs.YtebbefpdncgoiaaGreatDoor

/- Sets of vertices as numbers: what the bit operations do to membership. Plain facts. -/
namespace Go.Sx
theorem wrap32 (n : Int) : IntKind.u32.wrap n = n % 4294967296 := by simp [IntKind.wrap, IntKind.signed, IntKind.bits]

/-- a word of 32 bits -/
def VS (s : Int) : Prop := 0 ≤ s ∧ s < 4294967296
/-- is a vertex in a set -/
def has (s : Int) (v : Nat) : Bool := s.toNat.testBit v

theorem VS.nat {s : Int} (h : VS s) : ∃ n : Nat, s = n ∧ n < 4294967296 := ⟨s.toNat, by have := h.1; omega, by have := h.1; have := h.2; omega⟩
theorem VS.zero : VS 0 := ⟨by omega, by omega⟩
theorem VS.wrap (n : Int) : VS (IntKind.u32.wrap n) := by rw [wrap32]; exact ⟨by omega, by omega⟩
theorem VS.ofNat {n : Nat} (h : n < 4294967296) : VS (n : Int) := ⟨by omega, by omega⟩
theorem has_nat (n v : Nat) : has (n : Int) v = n.testBit v := by simp [has]
theorem has_zero (v : Nat) : has 0 v = false := by simp [has]

theorem ofInt_nat (n : Nat) (h : n < 4294967296) : (BitVec.ofInt 32 (n : Int)).toNat = n := by
  rw [BitVec.toNat_ofInt]
  omega

theorem ior_nat {a b : Nat} (ha : a < 4294967296) (hb : b < 4294967296) : ior .u32 (a : Int) (b : Int) = ((a ||| b : Nat) : Int) := by
  have hw : a ||| b < 4294967296 := Nat.or_lt_two_pow (n := 32) ha hb
  show IntKind.u32.wrap (((BitVec.ofInt 32 (a : Int) ||| BitVec.ofInt 32 (b : Int)).toNat : Nat) : Int) = _
  rw [BitVec.toNat_or, ofInt_nat a ha, ofInt_nat b hb, wrap32]; omega
theorem iand_nat {a b : Nat} (ha : a < 4294967296) (hb : b < 4294967296) : iand .u32 (a : Int) (b : Int) = ((a &&& b : Nat) : Int) := by
  have hw : a &&& b < 4294967296 := Nat.and_lt_two_pow (n := 32) _ hb
  show IntKind.u32.wrap (((BitVec.ofInt 32 (a : Int) &&& BitVec.ofInt 32 (b : Int)).toNat : Nat) : Int) = _
  rw [BitVec.toNat_and, ofInt_nat a ha, ofInt_nat b hb, wrap32]; omega
theorem VS.ior (a b : Int) : VS (ior .u32 a b) := VS.wrap _
theorem VS.iand (a b : Int) : VS (iand .u32 a b) := VS.wrap _
theorem VS.ixor (a b : Int) : VS (ixor .u32 a b) := VS.wrap _
theorem VS.iandNot (a b : Int) : VS (iandNot .u32 a b) := VS.wrap _
theorem VS.ishl (a b : Int) : VS (ishl .u32 a b) := VS.wrap _

theorem has_ior {a b : Int} (ha : VS a) (hb : VS b) (v : Nat) : has (ior .u32 a b) v = (has a v || has b v) := by
  obtain ⟨m, rfl, hm⟩ := ha.nat; obtain ⟨n, rfl, hn⟩ := hb.nat
  rw [ior_nat hm hn]; simp only [has_nat, Nat.testBit_or]
theorem has_iand {a b : Int} (ha : VS a) (hb : VS b) (v : Nat) : has (iand .u32 a b) v = (has a v && has b v) := by
  obtain ⟨m, rfl, hm⟩ := ha.nat; obtain ⟨n, rfl, hn⟩ := hb.nat
  rw [iand_nat hm hn]; simp only [has_nat, Nat.testBit_and]
theorem has_iandNot {a b : Int} (ha : VS a) (hb : VS b) (v : Nat) : has (iandNot .u32 a b) v = (has a v && !has b v) := by
  obtain ⟨m, rfl, hm⟩ := ha.nat; obtain ⟨n, rfl, hn⟩ := hb.nat
  have e : iandNot .u32 (m : Int) (n : Int) = (((BitVec.ofInt 32 (m : Int) &&& ~~~(BitVec.ofInt 32 (n : Int))).toNat : Nat) : Int) := by
    have hw := (BitVec.ofInt 32 (m : Int) &&& ~~~(BitVec.ofInt 32 (n : Int))).isLt
    show IntKind.u32.wrap (((BitVec.ofInt 32 (m : Int) &&& ~~~(BitVec.ofInt 32 (n : Int))).toNat : Nat) : Int) = _
    rw [wrap32]; omega
  rw [e, has_nat, has_nat, has_nat]
  have h1 : ∀ i, (BitVec.ofInt 32 (m : Int)).getLsbD i = m.testBit i := fun i => by rw [BitVec.getLsbD, ofInt_nat m hm]
  have h2 : ∀ i, (BitVec.ofInt 32 (n : Int)).getLsbD i = n.testBit i := fun i => by rw [BitVec.getLsbD, ofInt_nat n hn]
  rw [← BitVec.getLsbD, BitVec.getLsbD_and, BitVec.getLsbD_not, h1, h2]
  by_cases hv : v < 32
  · simp [hv]
  · have : m.testBit v = false := Nat.testBit_lt_two_pow (Nat.lt_of_lt_of_le hm (Nat.pow_le_pow_right (n := 2) (by omega) (show 32 ≤ v by omega)))
    simp [this]
theorem has_big {a : Int} (ha : VS a) {v : Nat} (hv : 32 ≤ v) : has a v = false := by
  obtain ⟨m, rfl, hm⟩ := ha.nat
  rw [has_nat]
  exact Nat.testBit_lt_two_pow (Nat.lt_of_lt_of_le hm (Nat.pow_le_pow_right (n := 2) (by omega) hv))
theorem VS.ext {a b : Int} (ha : VS a) (hb : VS b) (h : ∀ v, v < 32 → has a v = has b v) : a = b := by
  have : ∀ v, has a v = has b v := fun v => by
    by_cases hv : v < 32
    · exact h v hv
    · rw [has_big ha (by omega), has_big hb (by omega)]
  obtain ⟨m, rfl, hm⟩ := ha.nat; obtain ⟨n, rfl, hn⟩ := hb.nat
  congr 1
  apply Nat.eq_of_testBit_eq
  intro v
  have := this v
  rwa [has_nat, has_nat] at this
theorem VS.eq_zero {a : Int} (ha : VS a) : a = 0 ↔ ∀ v, v < 32 → has a v = false :=
  ⟨fun h v _ => by rw [h, has_zero], fun h => ha.ext VS.zero (fun v hv => by rw [h v hv, has_zero])⟩

/-- the set of one vertex -/
theorem one_eq {v : Nat} (hv : v < 32) : ishl .u32 1 (v : Int) = ((2 ^ v : Nat) : Int) := by
  have h : (2 : Nat) ^ v < 2 ^ 32 := Nat.pow_lt_pow_right (by omega) hv
  have h' : (2 : Nat) ^ 32 = 4294967296 := by decide
  rw [h'] at h
  show IntKind.u32.wrap (1 * 2 ^ (min ((v : Int)).toNat 32)) = _
  rw [wrap32, show min ((v : Int)).toNat 32 = v by simp; omega, Int.one_mul]
  have e : ((2 ^ v : Nat) : Int) = (2 : Int) ^ v := by simp
  rw [← e]
  generalize 2 ^ v = p at h ⊢
  omega
theorem has_one {v : Nat} (hv : v < 32) (u : Nat) : has (ishl .u32 1 (v : Int)) u = decide (u = v) := by
  rw [one_eq hv, has_nat, Nat.testBit_two_pow]
  simp [eq_comm]
/-- the numbers in a set, rising -/
def elems (s : Int) : List Int := ((List.range 32).filter (has s)).map Int.ofNat
theorem mem_elems {s : Int} {x : Int} : x ∈ elems s ↔ ∃ v : Nat, v < 32 ∧ has s v = true ∧ x = v := by
  unfold elems
  rw [List.mem_map]
  constructor
  · rintro ⟨v, hv, rfl⟩
    rw [List.mem_filter, List.mem_range] at hv
    exact ⟨v, hv.1, hv.2, rfl⟩
  · rintro ⟨v, h1, h2, rfl⟩
    exact ⟨v, List.mem_filter.2 ⟨List.mem_range.2 h1, h2⟩, rfl⟩
theorem mem_elems_nat {s : Int} (h : VS s) {v : Nat} : (v : Int) ∈ elems s ↔ has s v = true := by
  rw [mem_elems]
  constructor
  · rintro ⟨u, _, h2, h3⟩; obtain rfl : v = u := by omega
    exact h2
  · intro h2
    refine ⟨v, ?_, h2, rfl⟩
    by_cases hv : v < 32
    · exact hv
    · rw [has_big h (by omega)] at h2; cases h2
theorem elems_len (s : Int) : (elems s).length ≤ 32 := by
  unfold elems
  rw [List.length_map]
  exact Nat.le_trans (List.length_filter_le _ _) (by simp)

/-- rising lists -/
def Inc (l : List Int) : Prop := l.Pairwise (· < ·)
theorem elems_inc (s : Int) : Inc (elems s) := by
  unfold elems Inc
  rw [List.pairwise_map]
  refine List.Pairwise.filter _ ?_
  refine List.Pairwise.imp ?_ (List.pairwise_lt_range (n := 32))
  intro a b h
  show (a : Int) < (b : Int)
  omega
theorem Inc.ext : ∀ {l l' : List Int}, Inc l → Inc l' → (∀ x, x ∈ l ↔ x ∈ l') → l = l'
  | [], [], _, _, _ => rfl
  | [], y :: l', _, _, h => by have := (h y).2 (by simp); simp at this
  | x :: l, [], _, _, h => by have := (h x).1 (by simp); simp at this
  | x :: l, y :: l', h1, h2, h => by
    have h1' := List.pairwise_cons.1 h1; have h2' := List.pairwise_cons.1 h2
    have e : x = y := by
      rcases List.mem_cons.1 ((h x).1 (by simp)) with e | e
      · exact e
      · rcases List.mem_cons.1 ((h y).2 (by simp)) with e' | e'
        · exact e'.symm
        · have := h2'.1 x e; have := h1'.1 y e'; omega
    subst e
    have : l = l' := by
      refine Inc.ext h1'.2 h2'.2 (fun z => ?_)
      constructor
      · intro hz
        rcases List.mem_cons.1 ((h z).1 (List.mem_cons_of_mem _ hz)) with e | e
        · have := h1'.1 z hz; omega
        · exact e
      · intro hz
        rcases List.mem_cons.1 ((h z).2 (List.mem_cons_of_mem _ hz)) with e | e
        · have := h2'.1 z hz; omega
        · exact e
    rw [this]

/-- the least of a set, and what is left -/
theorem least_spec {s : Int} (h : VS s) (h0 : s ≠ 0) : ∃ k : Nat, k < 32 ∧ has s k = true ∧ (∀ v, v < k → has s v = false) ∧
    iand .u32 s (IntKind.u32.wrap (0 - s)) = ((2 ^ k : Nat) : Int) ∧ (∀ v, has (iand .u32 s (IntKind.u32.wrap (s - 1))) v = (has s v && !decide (v = k))) := by
  obtain ⟨m, rfl, hm⟩ := h.nat
  have hm0 : m ≠ 0 := by omega
  obtain ⟨q, hq, hk⟩ := Lib.ctzFrom_spec 32 m (by omega) hm
  have hc : Lib.ctz 32 m = Lib.ctzFrom 32 m := by unfold Lib.ctz; rw [if_neg hm0]
  obtain ⟨hl, _⟩ := Lib.lowest_bit 32 m hm0 hm
  rw [hc] at hl
  generalize Lib.ctzFrom 32 m = k at *
  have hpos : 0 < 2 ^ k := Nat.pow_pos (by omega)
  have hb : ∀ v, m.testBit v = (decide (v ≥ k) && (2 * q + 1).testBit (v - k)) := fun v => by rw [hq, Nat.mul_comm, Nat.testBit_mul_two_pow, Bool.and_comm]
  refine ⟨k, hk, ?_, fun v hv => ?_, ?_, fun v => ?_⟩
  · rw [has_nat, hb]; simp
  · rw [has_nat, hb]; simp; intro hc; omega
  · have e : IntKind.u32.wrap (0 - (m : Int)) = ((4294967296 - m : Nat) : Int) := by rw [wrap32]; omega
    rw [e, iand_nat hm (by omega)]
    rw [← hl]
  · have e : IntKind.u32.wrap ((m : Int) - 1) = ((m - 1 : Nat) : Int) := by rw [wrap32]; omega
    rw [e, iand_nat hm (by omega), has_nat, has_nat, Nat.testBit_and]
    have hm1 : m - 1 = 2 ^ k * (2 * q) + (2 ^ k - 1) := by rw [hq, Nat.mul_add]; omega
    have hb1 : (m - 1).testBit v = if v < k then true else (2 * q).testBit (v - k) := by
      rw [hm1, Nat.testBit_two_pow_mul_add _ (by omega)]
      split
      · rename_i hv; rw [Nat.testBit_two_pow_sub_one]; simp [hv]
      · rfl
    rw [hb1, hb]
    by_cases hv : v < k
    · simp [hv]; intro hc; omega
    · rw [if_neg hv]
      by_cases hvk : v = k
      · subst hvk; simp
      · obtain ⟨t, ht⟩ : ∃ t, v - k = t + 1 := ⟨v - k - 1, by omega⟩
        rw [ht, Nat.testBit_succ, Nat.testBit_succ]
        have e1 : (2 * q + 1) / 2 = q := by omega
        have e2 : 2 * q / 2 = q := by omega
        rw [e1, e2]
        simp [hvk]

theorem elems_least {s t : Int} {k : Nat} (hk : k < 32) (h1 : has s k = true) (h2 : ∀ v, v < k → has s v = false) (h3 : ∀ v, has t v = (has s v && !decide (v = k))) :
    elems s = (k : Int) :: elems t := by
  refine Inc.ext (elems_inc s) ?_ (fun x => ?_)
  · refine List.pairwise_cons.2 ⟨fun x hx => ?_, elems_inc t⟩
    obtain ⟨v, hv, h4, rfl⟩ := mem_elems.1 hx
    rw [h3] at h4
    simp at h4
    by_cases hc : v < k
    · rw [h2 v hc] at h4; simp at h4
    · omega
  · rw [List.mem_cons, mem_elems, mem_elems]
    constructor
    · rintro ⟨v, hv, h4, rfl⟩
      by_cases e : v = k
      · left; omega
      · right; exact ⟨v, hv, by rw [h3, h4]; simp [e], rfl⟩
    · rintro (rfl | ⟨v, hv, h4, rfl⟩)
      · exact ⟨k, hk, h1, rfl⟩
      · rw [h3] at h4; simp at h4
        exact ⟨v, hv, h4.1, rfl⟩
theorem elems_zero : elems 0 = [] := by
  unfold elems
  rw [List.filter_eq_nil_iff.2 (fun v _ => by simp [has_zero])]; rfl

theorem tz_table : ∀ k : Nat, k < 32 → idx tab32 (ishr .u32 (IntKind.u32.wrap (((2 ^ k : Nat) : Int) * 125613361)) 27) = some (k : Int) := by decide +kernel
end Go.Sx

namespace Go.Sx
/-- from a0 to b0 all pairs are in order, but for those from a to b -/
def Out (l : List Int) (a0 b0 a b : Int) : Prop := ∀ i j, a0 ≤ i → i < j → j < b0 → ¬ (a ≤ i ∧ j < b) → at' l i ≤ at' l j

theorem Out.keep {a0 a b b0 : Int} {l l' : List Int} (h : Rg a b l l') (h0 : 0 ≤ a0) (ha : a0 ≤ a) (hb : b ≤ b0) (c : Out l a0 b0 a b) : Out l' a0 b0 a b := by
  intro i j h1 h2 h3 h4
  by_cases hi : a ≤ i ∧ i < b
  · rw [h.out j (by omega) (by omega)]
    exact h.all (fun x => x ≤ at' l j) (fun k k1 k2 => c k j (by omega) (by omega) h3 (by omega)) i hi.1 hi.2
  · rw [h.out i (by omega) (by omega)]
    by_cases hj : a ≤ j ∧ j < b
    · exact h.all (fun x => at' l i ≤ x) (fun k k1 k2 => c i k (by omega) (by omega) (by omega) (by omega)) j hj.1 hj.2
    · rw [h.out j (by omega) (by omega)]; exact c i j h1 h2 h3 h4

theorem pdqsort_spec : ∀ (n : Nat) (l0 : List Int) (a0 b0 lim : Int), 0 ≤ a0 → a0 ≤ b0 → b0 ≤ l0.length → l0.length ≤ 1000000 → b0 - a0 ≤ 16 → b0 - a0 ≤ 12 + lim → 0 ≤ lim → lim ≤ 64 →
    (0 < a0 → ∀ k, a0 ≤ k → k < b0 → at' l0 (a0 - 1) ≤ at' l0 k) → b0 - a0 < n → ∃ l', D.slices_pdqsortOrdered_int64R n l0 a0 b0 lim = some l' ∧ Rg a0 b0 l0 l' ∧ Srt l' a0 b0 := by
  intro n
  induction n with
  | zero => intro l0 a0 b0 lim h1 h2 h3 h4 h5 h6 h7 h8 h9 h10; omega
  | succ n ih =>
    intro l0 a0 b0 lim h1 h2 h3 h4 h5 h6 h7 h8 h9 h10
    unfold D.slices_pdqsortOrdered_int64R
    refine loop_then (fun s => Rg a0 b0 l0 s.1 ∧ Out s.1 a0 b0 s.2.1 s.2.2.1 ∧ a0 ≤ s.2.1 ∧ s.2.1 ≤ s.2.2.1 ∧ s.2.2.1 ≤ b0 ∧ s.2.2.1 - s.2.1 ≤ 12 + s.2.2.2.1 ∧ 0 ≤ s.2.2.2.1 ∧ s.2.2.2.1 ≤ 64 ∧ (0 < s.2.1 → ∀ k, s.2.1 ≤ k → k < s.2.2.1 → at' s.1 (s.2.1 - 1) ≤ at' s.1 k))
      (fun s => (s.2.2.1 - s.2.1).toNat) (fun r => Rg a0 b0 l0 r ∧ Srt r a0 b0) ?_ ?_ ?_
    · rintro ⟨l, a, b, lm, bal, par⟩ ⟨hR, hO, g1, g2, g3, g4, g5, g6, g7⟩
      dsimp only at hR hO g1 g2 g3 g4 g5 g6 g7 ⊢
      have hll := hR.len
      have fin : ∀ l', Rg a b l l' → Srt l' a b → Rg a0 b0 l0 l' ∧ Srt l' a0 b0 := fun l' hr hs =>
        ⟨hR.trans (hr.widen g1 g3 h1), fun i j k1 k2 k3 => by
          by_cases hc : a ≤ i ∧ j < b
          · exact hs i j hc.1 k2 hc.2
          · exact (hO.keep hr h1 g1 g3) i j k1 k2 k3 hc⟩
      rw [w64 (show -9223372036854775808 ≤ b - a by omega) (by omega)]
      by_cases hs : b - a ≤ 12
      · obtain ⟨l', e, r1, r2⟩ := insertionSort_spec l a b (by omega) g2 (by omega) (by omega)
        refine ⟨.inr l', ?_, fin l' r1 r2⟩
        simp only [hs, decide_true, cond_true, e, Option.bind_some]
      · have hl0 : (lm == 0) = false := by simp; omega
        simp only [hs, decide_false, cond_false, hl0]
        refine bind_then (fun q : List Int × Int => Rg a b l q.1 ∧ b - a ≤ 13 + q.2 ∧ 0 ≤ q.2 ∧ q.2 ≤ 64) ?_ ?_
        · cases bal
          · obtain ⟨l1, e, r1⟩ := breakPatterns_spec l a b (by omega) (by omega) (by omega) (by omega) (by omega)
            refine ⟨(l1, lm - 1), ?_, r1, by dsimp only; omega, by dsimp only; omega, by dsimp only; omega⟩
            simp only [Bool.not_false, cond_true, e, Option.bind_some]
            rw [w64 (by omega) (by omega)]
          · exact ⟨(l, lm), rfl, Rg.refl _ _ _, by dsimp only; omega, by dsimp only; omega, by dsimp only; omega⟩
        rintro ⟨l1, lm1⟩ ⟨hr1, k1, k2, k3⟩
        dsimp only at hr1 k1 k2 k3 ⊢
        have hl1 := hr1.len
        obtain ⟨y, ey, c1, c2, c3⟩ := choosePivot_spec l1 a b (by omega) (by omega) (by omega) (by omega) (by omega)
        rw [ey, Option.bind_some]
        refine bind_then (fun q : List Int × Int × Int => Rg a b l q.1 ∧ a ≤ q.2.1 ∧ q.2.1 < b) ?_ ?_
        · cases (y.2.1 == 2)
          · exact ⟨_, rfl, by dsimp only; rw [c1]; exact hr1, c2, c3⟩
          · obtain ⟨l2, e2, r2⟩ := reverseRange_spec l1 a b (by omega) (by omega) (by omega) (by omega)
            rw [c1]
            simp only [cond_true, e2, Option.bind_some]
            rw [w64 (show -9223372036854775808 ≤ b - 1 by omega) (by omega), w64 (show -9223372036854775808 ≤ y.1 - a by omega) (by omega), w64 (show -9223372036854775808 ≤ b - 1 - (y.1 - a) by omega) (by omega)]
            exact ⟨_, rfl, hr1.trans r2, by dsimp only; omega, by dsimp only; omega⟩
        rintro ⟨l2, p, hint⟩ ⟨hr2, p1, p2⟩
        dsimp only at hr2 p1 p2 ⊢
        have hl2 := hr2.len
        refine bind_then (fun q : List Int ⊕ List Int => match q with | .inl q => q = l2 | .inr q => q = l2 ∧ Srt l2 a b) ?_ ?_
        · cases ((bal && par) && (hint == 1))
          · exact ⟨.inl l2, rfl, rfl⟩
          · obtain ⟨y2, e2, d1, d2⟩ := partialInsertion_spec l2 a b (by omega) (by omega) (by omega) (by omega) (by omega)
            simp only [cond_true, e2, Option.bind_some, d1]
            cases hy : y2.1
            · exact ⟨.inl l2, rfl, rfl⟩
            · exact ⟨.inr l2, rfl, rfl, d2 hy⟩
        rintro (q | q) hq
        case inr =>
          obtain ⟨rfl, hq⟩ := hq
          exact ⟨.inr q, rfl, fin q hr2 hq⟩
        dsimp only at hq ⊢
        subst hq
        have hO2 := hO.keep hr2 h1 g1 g3
        have g7' : 0 < a → ∀ k, a ≤ k → k < b → at' q (a - 1) ≤ at' q k := fun ha k m1 m2 => by
          rw [hr2.out (a - 1) (by omega) (.inl (by omega))]
          exact hr2.all (fun x => at' l (a - 1) ≤ x) (g7 ha) k m1 m2
        refine bind_then (fun c : Bool => c = true → 0 < a ∧ at' q p ≤ at' q (a - 1)) ?_ ?_
        · by_cases ha : 0 < a
          · have r1 : idx q (a - 1) = some (at' q (a - 1)) := idx_at (by omega) (by omega)
            have r2 : idx q p = some (at' q p) := idx_at (by omega) (by omega)
            rw [w64 (show -9223372036854775808 ≤ a - 1 by omega) (by omega)]
            simp only [ha, decide_true, cond_true, r1, r2, less_eq, Option.bind_some]
            exact ⟨_, rfl, fun h => ⟨by trivial, by simpa using h⟩⟩
          · simp only [ha, decide_false, cond_false]
            exact ⟨_, rfl, fun h => by cases h⟩
        intro c hc
        cases c
        · -- the pivot parts
          simp only [cond_false]
          obtain ⟨⟨mid, par', l3⟩, e3, P⟩ := partition_spec q a b p (by omega) (by omega) (by omega) p1 p2
          rw [e3, Option.bind_some]
          obtain ⟨hr3, m1, m2, m3, m4⟩ := P
          dsimp only at hr3 m1 m2 m3 m4 ⊢
          have hl3 := hr3.len
          have hO3 := hO2.keep hr3 h1 g1 g3
          have g7'' : 0 < a → ∀ k, a ≤ k → k < b → at' l3 (a - 1) ≤ at' l3 k := fun ha k n1 n2 => by
            rw [hr3.out (a - 1) (by omega) (.inl (by omega))]
            exact hr3.all (fun x => at' q (a - 1) ≤ x) (g7' ha) k n1 n2
          have hR3 : Rg a0 b0 l0 l3 := hR.trans ((hr2.trans hr3).widen g1 g3 h1)
          rw [w64 (show -9223372036854775808 ≤ mid - a by omega) (by omega), w64 (show -9223372036854775808 ≤ b - mid by omega) (by omega), w64 (show -9223372036854775808 ≤ mid + 1 by omega) (by omega)]
          by_cases hside : mid - a < b - mid
          · simp only [hside, decide_true, cond_true]
            obtain ⟨l4, e4, r4, s4⟩ := ih l3 a mid lm1 (by omega) m1 (by omega) (by omega) (by omega) (by omega) k2 k3 (fun ha k n1 n2 => g7'' ha k n1 (by omega)) (by omega)
            rw [e4, Option.bind_some]
            have hl4 := r4.len
            have em : ∀ k, mid ≤ k → at' l4 k = at' l3 k := fun k hk => r4.out k (by omega) (.inr hk)
            have lf : ∀ k, a ≤ k → k < mid → at' l4 k ≤ at' l4 mid := fun k n1 n2 => by
              rw [em mid (Int.le_refl _)]; exact r4.all (fun x => x ≤ at' l3 mid) m3 k n1 n2
            refine ⟨.inl _, rfl, ⟨hR3.trans (r4.widen g1 (by omega) h1), ?_, by dsimp only; omega, by dsimp only; omega, g3, by dsimp only; omega, k2, k3, ?_⟩, by dsimp only; omega⟩
            · have hO4 := hO3.keep (r4.widen (Int.le_refl a) (by omega) (by omega)) h1 g1 g3
              intro i j n1 n2 n3 n4
              dsimp only at n4 ⊢
              by_cases hin : a ≤ i ∧ j < b
              · by_cases hj : j < mid
                · exact s4 i j hin.1 n2 hj
                · have hi : i ≤ mid := by omega
                  have e1 : at' l4 i ≤ at' l4 mid := by
                    by_cases e : i = mid
                    · rw [e]; exact Int.le_refl _
                    · exact lf i hin.1 (by omega)
                  have e2 : at' l4 mid ≤ at' l4 j := by
                    by_cases e : j = mid
                    · rw [e]; exact Int.le_refl _
                    · rw [em mid (Int.le_refl _), em j (by omega)]; exact m4 j (by omega) hin.2
                  omega
              · exact hO4 i j n1 n2 n3 hin
            · intro _ k n1 n2
              dsimp only at n1 n2 ⊢
              rw [show mid + 1 - 1 = mid by omega, em mid (Int.le_refl _), em k (by omega)]
              exact m4 k (by omega) n2
          · simp only [hside, decide_false, cond_false]
            obtain ⟨l4, e4, r4, s4⟩ := ih l3 (mid + 1) b lm1 (by omega) (by omega) (by omega) (by omega) (by omega) (by omega) k2 k3 (fun _ k n1 n2 => by rw [show mid + 1 - 1 = mid by omega]; exact m4 k (by omega) n2) (by omega)
            rw [e4, Option.bind_some]
            have hl4 := r4.len
            have em : ∀ k, 0 ≤ k → k ≤ mid → at' l4 k = at' l3 k := fun k h0 hk => r4.out k h0 (.inl (by omega))
            have rt : ∀ k, mid < k → k < b → at' l4 mid ≤ at' l4 k := fun k n1 n2 => by
              rw [em mid (by omega) (Int.le_refl _)]; exact r4.all (fun x => at' l3 mid ≤ x) (fun k q1 q2 => m4 k (by omega) q2) k (by omega) n2
            refine ⟨.inl _, rfl, ⟨hR3.trans (r4.widen (by omega) g3 h1), ?_, g1, m1, by dsimp only; omega, by dsimp only; omega, k2, k3, ?_⟩, by dsimp only; omega⟩
            · have hO4 := hO3.keep (r4.widen (by omega) (Int.le_refl b) (by omega)) h1 g1 g3
              intro i j n1 n2 n3 n4
              dsimp only at n4 ⊢
              by_cases hin : a ≤ i ∧ j < b
              · by_cases hi : mid < i
                · exact s4 i j (by omega) n2 hin.2
                · have hj : mid ≤ j := by omega
                  have e1 : at' l4 i ≤ at' l4 mid := by
                    by_cases e : i = mid
                    · rw [e]; exact Int.le_refl _
                    · rw [em i (by omega) (by omega), em mid (by omega) (Int.le_refl _)]; exact m3 i hin.1 (by omega)
                  have e2 : at' l4 mid ≤ at' l4 j := by
                    by_cases e : j = mid
                    · rw [e]; exact Int.le_refl _
                    · exact rt j (by omega) hin.2
                  omega
              · exact hO4 i j n1 n2 n3 hin
            · intro ha k n1 n2
              dsimp only at ha n1 n2 ⊢
              rw [em (a - 1) (by omega) (by omega), em k (by omega) (by omega)]
              exact g7'' ha k n1 (by omega)
        · -- many are equal to the pivot
          simp only [cond_true]
          obtain ⟨hc1, hc2⟩ := hc rfl
          obtain ⟨⟨mid, l3⟩, e3, hr3, m1, m2, m3, m4⟩ := partitionEqual_spec q a b p (by omega) (by omega) (by omega) p1 p2
          rw [e3, Option.bind_some]
          dsimp only at hr3 m1 m2 m3 m4 ⊢
          have hl3 := hr3.len
          have hO3 := hO2.keep hr3 h1 g1 g3
          have lw : ∀ k, a ≤ k → k < b → at' q p ≤ at' l3 k := fun k n1 n2 =>
            hr3.all (fun x => at' q p ≤ x) (fun k q1 q2 => Int.le_trans hc2 (g7' hc1 k q1 q2)) k n1 n2
          refine ⟨.inl _, rfl, ⟨hR.trans ((hr2.trans hr3).widen g1 g3 h1), ?_, by dsimp only; omega, m2, g3, by dsimp only; omega, k2, k3, ?_⟩, by dsimp only; omega⟩
          · intro i j n1 n2 n3 n4
            dsimp only at n4 ⊢
            by_cases hin : a ≤ i ∧ j < b
            · have := m3 i hin.1 (by omega)
              have := lw j (by omega) hin.2
              omega
            · exact hO3 i j n1 n2 n3 hin
          · intro _ k n1 n2
            dsimp only at n1 n2 ⊢
            have := m3 (mid - 1) (by omega) (by omega)
            have := m4 k n1 n2
            omega
    · exact ⟨Rg.refl _ _ _, fun i j n1 n2 n3 n4 => by dsimp only at n4; omega, Int.le_refl _, h2, Int.le_refl _, h6, h7, h8, h9⟩
    · rintro r hr
      exact ⟨r, rfl, hr⟩
end Go.Sx

namespace Go.Sx
/-- slices.Sorted(slices.Values(l)), of a list that is not long -/
theorem sorted_spec (l : List Int) (hl : l.length ≤ 16) : ∃ y, D.slices_Sorted_int64 l = some y ∧ List.Perm y l ∧ Srt y 0 y.length := by
  unfold D.slices_Sorted_int64 D.slices_Collect_int64 D.slices_AppendSeq_int64_int64 D.slices_Sort_int64_int64 D.slices_pdqsortOrdered_int64 D.math_bits_Len
  rw [if_pos (show l.length ≤ 1000000 by omega)]
  simp only [Option.bind_some]
  rw [wu64 (by omega) (by omega), if_pos (by omega)]
  simp only [Option.bind_some]
  have hk : ∀ k : Nat, k ≤ 16 → k ≤ 12 + Lib.bitLen k ∧ Lib.bitLen k ≤ 64 := by decide
  obtain ⟨k1, k2⟩ := hk l.length hl
  have e : ((l.length : Int)).toNat = l.length := by omega
  have hb := recFuel_big
  obtain ⟨y, hy, hr, hs⟩ := pdqsort_spec recFuel l 0 l.length (Lib.bitLen l.length : Nat) (by omega) (by omega) (by omega) (by omega) (by omega) (by omega) (by omega) (by omega) (fun h => absurd h (by omega)) (by omega)
  rw [e, hy]
  refine ⟨y, rfl, hr.perm, ?_⟩
  rw [hr.len]; exact hs
end Go.Sx



/- The program's and the reference's first helpers in closed form: sets, graphs, orders. Plain. -/
namespace Go.Sx
/-- short enough for every loop -/
def Sh {α : Type} (xs : List α) : Prop := xs.length ≤ 4294967296

theorem l1In_eq (a b c : Int) : D.spec_l1In a b c = some (decide (b ≤ a) && decide (a ≤ c)) := rfl
theorem inRange_eq (a b c : Int) : D.impl_inRange a b c = some (decide (b ≤ a) && decide (a ≤ c)) := rfl

theorem any_beq (xs : List Int) (n : Int) : xs.any (fun x => x == n) = decide (n ∈ xs) := by
  rw [Bool.eq_iff_iff, List.any_eq_true]; simp
theorem l1Has_eq (xs : List Int) (n : Int) (h : Sh xs) : D.spec_l1Has xs n = some (decide (n ∈ xs)) := by
  unfold Sh at h
  unfold D.spec_l1Has
  refine (loop_anyb xs.length (fun i => xs.getD i 0 == n) true (fun i hi => ?_) ?_ rfl rfl).trans ?_
  · simp only [dlt hi, cond_true, idx_nat hi, Option.bind_some, wi' hi (by omega), getD_lt hi]
    cases xs[i] == n <;> rfl
  · simp only [dnlt, cond_false]
  · rw [range_any_list xs (fun x => x == n) _ (fun i hi => by rw [getD_lt hi]), any_beq]
theorem contains_eq (xs : List Int) (n : Int) (h : Sh xs) : D.slices_Contains_int64_int64 xs n = some (decide (n ∈ xs)) := by
  unfold Sh at h
  unfold D.slices_Contains_int64_int64 D.slices_Index_int64_int64
  have e : loopF (σ := Int) (ρ := (Unit) ⊕ (Int)) (fun (x_26 : Int) => cond (decide (x_26 < (xs.length : Int))) ((idx xs x_26).bind fun e_39 => cond (n == e_39) (some (.inr (.inr x_26))) (some (.inl (IntKind.i64.wrap (x_26 + 1))))) (some (.inr (.inl ())))) 0 =
      some (((List.range xs.length).findSome? (fun i => if xs.getD i 0 == n then some (Sum.inr (i : Int)) else none)).getD (.inl ())) := by
    refine loop_find xs.length _ _ (fun i hi => ?_) ?_
    · simp only [dlt hi, cond_true, idx_nat hi, Option.bind_some, wi' hi (by omega), getD_lt hi]
      rw [show (n == xs[i]) = (xs[i] == n) from Bool.beq_comm ..]
      cases xs[i] == n <;> rfl
    · simp only [dnlt, cond_false]
  rw [e, Option.bind_some]
  cases hf : (List.range xs.length).findSome? (fun i => if xs.getD i 0 == n then some (Sum.inr (i : Int) : Unit ⊕ Int) else none) with
  | none =>
    have : n ∉ xs := fun hm => by
      obtain ⟨i, hi, e⟩ := List.getElem_of_mem hm
      have := (List.findSome?_eq_none_iff.1 hf) i (List.mem_range.2 hi)
      rw [getD_lt hi, e] at this
      simp at this
    simp [this]
  | some r =>
    obtain ⟨i, hi, hr⟩ := List.exists_of_findSome?_eq_some hf
    have hi' := List.mem_range.1 hi
    rw [getD_lt hi'] at hr
    split at hr
    · rename_i hc
      cases hr
      have : n ∈ xs := by rw [← (beq_iff_eq.1 hc)]; exact List.getElem_mem _
      simp [this]
    · cases hr

/-- a set of numbers below n, as a list -/
def SetOf (xs : List Int) (n : Int) : Prop := Inc xs ∧ ∀ x ∈ xs, 0 ≤ x ∧ x < n
theorem SetOf.len : ∀ {xs : List Int} {n a : Int}, Inc xs → (∀ x ∈ xs, a ≤ x ∧ x < n) → xs = [] ∨ (xs.length : Int) ≤ n - a
  | [], _, _, _, _ => .inl rfl
  | x :: xs, n, a, h, hr => by
    right
    have h' := List.pairwise_cons.1 h
    have hx := hr x (by simp)
    rcases SetOf.len (a := x + 1) (n := n) h'.2 (fun y hy => ⟨by have := h'.1 y hy; omega, (hr y (by simp [hy])).2⟩) with e | e
    · subst e; simp; omega
    · simp; omega
theorem SetOf.length_le {xs : List Int} {n : Int} (h : SetOf xs n) (hn : 0 ≤ n) : (xs.length : Int) ≤ n := by
  rcases SetOf.len h.1 h.2 with e | e
  · subst e; simpa using hn
  · omega

theorem inc_iff (xs : List Int) : Inc xs ↔ ∀ i (hi : i + 1 < xs.length), xs[i] < xs[i + 1] := by
  unfold Inc
  constructor
  · intro h i hi
    exact List.pairwise_iff_getElem.1 h i (i + 1) (by omega) hi (by omega)
  · intro h
    rw [List.pairwise_iff_getElem]
    intro i j hi hj hij
    have key : ∀ k, ∀ hk : i + k + 1 < xs.length, xs[i] < xs[i + k + 1] := by
      intro k
      induction k with
      | zero => intro hk; exact h i hk
      | succ k ih => intro hk; have := ih (by omega); have := h (i + k + 1) hk; exact Int.lt_trans (ih (by omega)) this
    obtain ⟨k, rfl⟩ : ∃ k, j = i + k + 1 := ⟨j - i - 1, by omega⟩
    exact key k hj

def setB (xs : List Int) (n : Int) : Bool := (List.range xs.length).all fun i => (decide (0 ≤ xs.getD i 0) && decide (xs.getD i 0 ≤ n - 1)) && !(decide (0 < i) && decide (xs.getD i 0 ≤ xs.getD (i - 1) 0))
theorem setB_iff (xs : List Int) (n : Int) : setB xs n = true ↔ SetOf xs n := by
  unfold setB SetOf
  rw [all_forall, inc_iff]
  constructor
  · intro h
    refine ⟨fun i hi => ?_, fun x hx => ?_⟩
    · have := h (i + 1) hi
      simp [hi, show i < xs.length by omega] at this
      omega
    · obtain ⟨i, hi, rfl⟩ := List.getElem_of_mem hx
      have := h i hi
      simp [hi] at this
      omega
  · rintro ⟨h1, h2⟩ i hi
    have h3 := h2 _ (List.getElem_mem hi)
    simp [hi]
    refine ⟨by omega, ?_⟩
    rcases Nat.eq_zero_or_pos i with h0 | h0
    · exact .inl h0
    · right
      have := h1 (i - 1) (by omega)
      have e : i - 1 + 1 = i := by omega
      simp only [e] at this
      have e2 : xs[i - 1]?.getD 0 = xs[i - 1] := by rw [List.getElem?_eq_getElem (by omega)]; rfl
      rw [e2]; exact this

theorem increasing_eq (xs : List Int) (n : Int) (h : Sh xs) (h0 : 0 ≤ n) (hn : n ≤ 4294967296) : D.impl_increasing xs n = some (setB xs n) := by
  unfold Sh at h
  unfold D.impl_increasing
  refine loop_allb xs.length _ false (fun i hi => ?_) ?_ rfl rfl
  · simp only [dlt hi, cond_true, idx_nat hi, Option.bind_some, wi' hi (by omega), getD_lt hi, inRange_eq]
    rw [w64 (x := n - 1) (by omega) (by omega)]
    cases (decide (0 ≤ xs[i]) && decide (xs[i] ≤ n - 1))
    · simp
    · by_cases h0 : 0 < i
      · have e1 : IntKind.i64.wrap ((i : Int) - 1) = ((i - 1 : Nat) : Int) := by rw [w64 (by omega) (by omega)]; omega
        have hd : decide ((0 : Int) < (i : Int)) = true := by simp; omega
        simp only [Bool.not_true, cond_false, hd, cond_true, e1, idx_nat (show i - 1 < xs.length by omega), Option.bind_some, getD_lt (show i - 1 < xs.length by omega), h0, decide_true, Bool.true_and]
        cases decide (xs[i] ≤ xs[i - 1]) <;> rfl
      · have hd : decide ((0 : Int) < (i : Int)) = false := by simp; omega
        simp only [Bool.not_true, cond_false, hd, Option.bind_some, h0, decide_false, Bool.false_and, Bool.not_false, Bool.and_true, if_true]
  · simp only [dnlt, cond_false]

theorem l1Set_eq (xs : List Int) (n : Int) (h : Sh xs) (h0 : 0 ≤ n) (hn : n ≤ 4294967296) : D.spec_l1Set xs n = some (setB xs n) := by
  have hh := h
  unfold Sh at h
  unfold D.spec_l1Set
  by_cases hl : n < xs.length
  · have : setB xs n = false := by
      cases hb : setB xs n
      · rfl
      · have := ((setB_iff xs n).1 hb).length_le h0; omega
    simp [hl, this]
  · simp only [hl, decide_false, cond_false]
    refine loop_allb xs.length _ false (fun i hi => ?_) ?_ rfl rfl
    · simp only [dlt hi, cond_true, idx_nat hi, Option.bind_some, wi' hi (by omega), getD_lt hi, l1In_eq]
      rw [w64 (x := n - 1) (by omega) (by omega)]
      cases (decide (0 ≤ xs[i]) && decide (xs[i] ≤ n - 1))
      · simp
      · by_cases h0 : 0 < i
        · have e1 : IntKind.i64.wrap ((i : Int) - 1) = ((i - 1 : Nat) : Int) := by rw [w64 (by omega) (by omega)]; omega
          have hd : decide ((0 : Int) < (i : Int)) = true := by simp; omega
          simp only [Bool.not_true, cond_false, hd, cond_true, e1, idx_nat (show i - 1 < xs.length by omega), Option.bind_some, getD_lt (show i - 1 < xs.length by omega), h0, decide_true, Bool.true_and]
          cases decide (xs[i] ≤ xs[i - 1]) <;> rfl
        · have hd : decide ((0 : Int) < (i : Int)) = false := by simp; omega
          simp only [Bool.not_true, cond_false, hd, Option.bind_some, h0, decide_false, Bool.false_and, Bool.not_false, Bool.and_true, if_true]
    · simp only [dnlt, cond_false]

/-- row v of a graph -/
def row (g : List (List Int)) (v : Nat) : List Int := g.getD v []
theorem row_eq {g : List (List Int)} {v : Nat} (h : v < g.length) : row g v = g[v] := getD_lt h _
def adj (g : List (List Int)) (u v : Nat) : Prop := (v : Int) ∈ row g u

/-- a valid graph -/
structure GOk (g : List (List Int)) : Prop where
  n1 : 1 ≤ g.length
  n16 : g.length ≤ 16
  rows : ∀ v, v < g.length → SetOf (row g v) g.length
  irr : ∀ v, v < g.length → ¬ adj g v v
  sym : ∀ u v, u < g.length → adj g u v → adj g v u

theorem GOk.mem {g : List (List Int)} (h : GOk g) {u : Nat} (hu : u < g.length) {x : Int} (hx : x ∈ row g u) : ∃ v : Nat, x = v ∧ v < g.length ∧ adj g u v := by
  have := (h.rows u hu).2 x hx
  refine ⟨x.toNat, by omega, by omega, ?_⟩
  unfold adj
  rw [show ((x.toNat : Nat) : Int) = x by omega]; exact hx
theorem GOk.row_len {g : List (List Int)} (h : GOk g) {u : Nat} (hu : u < g.length) : (row g u).length ≤ 16 := by
  have := (h.rows u hu).length_le (by omega)
  have := h.n16
  omega
theorem GOk.lt {g : List (List Int)} (h : GOk g) {u v : Nat} (hu : u < g.length) (ha : adj g u v) : v < g.length := by
  obtain ⟨w, h1, h2, _⟩ := h.mem hu ha
  omega

/-- short in both ways -/
def Sh2 (g : List (List Int)) : Prop := Sh g ∧ ∀ r ∈ g, Sh r
theorem Sh2.row {g : List (List Int)} (h : Sh2 g) {v : Nat} (hv : v < g.length) : Sh (row g v) := by
  rw [row_eq hv]; exact h.2 _ (List.getElem_mem hv)
theorem idx_row {g : List (List Int)} {v : Nat} (h : v < g.length) : idx g (v : Int) = some (row g v) := by rw [row_eq h, idx_nat h]

def gB1 (g : List (List Int)) : Bool := (List.range g.length).all fun v => setB (row g v) g.length && !decide ((v : Int) ∈ row g v)
def gB2 (g : List (List Int)) : Bool := (List.range g.length).all fun v => (row g v).all fun x => decide ((v : Int) ∈ row g x.toNat)
def gB (g : List (List Int)) : Bool := decide (1 ≤ g.length) && decide (g.length ≤ 16) && gB1 g && gB2 g
theorem gB_iff (g : List (List Int)) : gB g = true ↔ GOk g := by
  unfold gB gB1 gB2
  simp only [Bool.and_eq_true, decide_eq_true_eq, setB_iff, Bool.not_eq_true', decide_eq_false_iff_not, List.all_eq_true, List.mem_range]
  constructor
  · rintro ⟨⟨⟨h1, h2⟩, h3⟩, h4⟩
    refine ⟨h1, h2, fun v hv => (h3 v hv).1, fun v hv => (h3 v hv).2, fun u v hu ha => ?_⟩
    have := h4 u hu v ha
    unfold adj
    simpa using this
  · intro h
    refine ⟨⟨⟨h.n1, h.n16⟩, fun v hv => ⟨h.rows v hv, h.irr v hv⟩⟩, fun v hv x hx => ?_⟩
    obtain ⟨u, rfl, hu, ha⟩ := h.mem hv hx
    have := h.sym v u hv ha
    simpa [adj] using this

theorem spec_GraphOk_eq (g : List (List Int)) (h : Sh2 g) : D.spec_GraphOk g = some (gB g) := by
  have hl : g.length ≤ 4294967296 := h.1
  unfold D.spec_GraphOk D.spec_l1Size
  simp only [Option.bind_some, l1In_eq]
  by_cases hn : 1 ≤ g.length ∧ g.length ≤ 16
  · have e : (decide ((1 : Int) ≤ (g.length : Int)) && decide ((g.length : Int) ≤ 16)) = true := by simp; omega
    simp only [e, Bool.not_true, cond_false]
    refine (loop_ck g.length (fun v => setB (row g v) g.length && !decide ((v : Int) ∈ row g v)) (.inl ()) (.inr false) (fun v hv => ?_) ?_).trans ?_
    rotate_left
    · simp only [dnlt, cond_false]
    · show cond (gB1 g) _ _ = _
      have e4 : gB g = (gB1 g && gB2 g) := by unfold gB; simp [hn.1, hn.2]
      rw [e4]
      cases hc : gB1 g with
      | false => rfl
      | true =>
        rw [cond_true, Bool.true_and]
        refine loop_allb g.length _ false (fun v hv => ?_) ?_ rfl rfl
        · have hset : SetOf (row g v) g.length := by
            have := (all_forall _ _).1 hc v hv
            simp only [Bool.and_eq_true] at this
            exact (setB_iff _ _).1 this.1
          simp only [dlt hv, cond_true]
          refine (loop_ck (row g v).length (fun i => decide ((v : Int) ∈ row g ((row g v).getD i 0).toNat)) (.inl ()) (.inr false) (fun i hi => ?_) ?_).trans ?_
          · have hx := hset.2 _ (List.getElem_mem hi)
            have e5 : idx g (row g v)[i] = some (row g ((row g v)[i]).toNat) := by
              have := idx_row (g := g) (v := ((row g v)[i]).toNat) (by omega)
              rwa [show ((((row g v)[i]).toNat : Nat) : Int) = (row g v)[i] by omega] at this
            have hs := h.row (v := ((row g v)[i]).toNat) (by omega)
            simp only [idx_row hv, Option.bind_some, dlt hi, cond_true, idx_nat hi, e5, l1Has_eq _ _ hs, wi (show i < 4611686018427387904 by have := h.row hv; unfold Sh at this; omega), getD_lt hi]
            cases decide ((v : Int) ∈ row g ((row g v)[i]).toNat) <;> rfl
          · simp only [idx_row hv, Option.bind_some, dnlt, cond_false]
          · rw [range_all_list (row g v) (fun x => decide ((v : Int) ∈ row g x.toNat)) _ (fun i hi => by rw [getD_lt hi]), wi' hv (by omega)]
            cases (row g v).all fun x => decide ((v : Int) ∈ row g x.toNat) <;> rfl
        · simp only [dnlt, cond_false]
    · simp only [dlt hv, cond_true, idx_row hv, Option.bind_some, l1Set_eq _ _ (h.row hv) (show (0 : Int) ≤ (g.length : Int) by omega) (by omega), l1Has_eq _ _ (h.row hv), wi' hv (by omega)]
      cases setB (row g v) g.length
      · rfl
      · cases decide ((v : Int) ∈ row g v) <;> rfl
  · have e : (decide ((1 : Int) ≤ (g.length : Int)) && decide ((g.length : Int) ≤ 16)) = false := by
      rw [Bool.eq_false_iff]; simp; omega
    simp only [e, Bool.not_false, cond_true]
    unfold gB
    congr 1
    symm
    rw [Bool.eq_false_iff]
    simp
    omega

theorem impl_GraphOk_eq (g : List (List Int)) (h : Sh2 g) : D.impl_GraphOk g = some (gB g) := by
  have hl : g.length ≤ 4294967296 := h.1
  unfold D.impl_GraphOk
  by_cases hn : 1 ≤ g.length ∧ g.length ≤ 16
  · have e : (decide ((g.length : Int) < (1 : Int)) || decide ((16 : Int) < (g.length : Int))) = false := by simp; omega
    simp only [e, cond_false]
    refine (loop_ck g.length (fun v => setB (row g v) g.length && !decide ((v : Int) ∈ row g v)) (.inl ()) (.inr false) (fun v hv => ?_) ?_).trans ?_
    rotate_left
    · simp only [dnlt, cond_false]
    · show cond (gB1 g) _ _ = _
      have e4 : gB g = (gB1 g && gB2 g) := by unfold gB; simp [hn.1, hn.2]
      rw [e4]
      cases hc : gB1 g with
      | false => rfl
      | true =>
        rw [cond_true, Bool.true_and]
        refine loop_allb g.length _ false (fun v hv => ?_) ?_ rfl rfl
        · have hset : SetOf (row g v) g.length := by
            have := (all_forall _ _).1 hc v hv
            simp only [Bool.and_eq_true] at this
            exact (setB_iff _ _).1 this.1
          simp only [dlt hv, cond_true, idx_row hv, Option.bind_some]
          refine (loop_ck (row g v).length (fun i => decide ((v : Int) ∈ row g ((row g v).getD i 0).toNat)) (.inl ()) (.inr false) (fun i hi => ?_) ?_).trans ?_
          · have hx := hset.2 _ (List.getElem_mem hi)
            have e5 : idx g (row g v)[i] = some (row g ((row g v)[i]).toNat) := by
              have := idx_row (g := g) (v := ((row g v)[i]).toNat) (by omega)
              rwa [show ((((row g v)[i]).toNat : Nat) : Int) = (row g v)[i] by omega] at this
            have hs := h.row (v := ((row g v)[i]).toNat) (by omega)
            simp only [Option.bind_some, dlt hi, cond_true, idx_nat hi, e5, contains_eq _ _ hs, wi (show i < 4611686018427387904 by have := h.row hv; unfold Sh at this; omega), getD_lt hi]
            cases decide ((v : Int) ∈ row g ((row g v)[i]).toNat) <;> rfl
          · simp only [dnlt, cond_false]
          · rw [range_all_list (row g v) (fun x => decide ((v : Int) ∈ row g x.toNat)) _ (fun i hi => by rw [getD_lt hi]), wi' hv (by omega)]
            cases (row g v).all fun x => decide ((v : Int) ∈ row g x.toNat) <;> rfl
        · simp only [dnlt, cond_false]
    · simp only [dlt hv, cond_true, idx_row hv, Option.bind_some, increasing_eq _ _ (h.row hv) (show (0 : Int) ≤ (g.length : Int) by omega) (by omega), contains_eq _ _ (h.row hv), wi' hv (by omega)]
      cases setB (row g v) g.length
      · rfl
      · cases decide ((v : Int) ∈ row g v) <;> rfl
  · have e : (decide ((g.length : Int) < (1 : Int)) || decide ((16 : Int) < (g.length : Int))) = true := by
      simp; omega
    simp only [e, cond_true]
    unfold gB
    congr 1
    symm
    rw [Bool.eq_false_iff]
    simp
    omega
end Go.Sx

/- Orders; the program's sets as bit masks; the reference's rising lists. Plain. -/
namespace Go.Sx
/-- an order of a graph -/
structure OOk (g : List (List Int)) (o : List Int) : Prop where
  len : o.length = g.length
  rng : ∀ x ∈ o, 0 ≤ x ∧ x < g.length
  nd : o.Nodup

def oB (g : List (List Int)) (o : List Int) : Bool := (List.range o.length).all fun i => (decide (0 ≤ o.getD i 0) && decide (o.getD i 0 ≤ (g.length : Int) - 1)) && !decide (o.getD i 0 ∈ o.take i)
theorem mem_take_iff {α : Type} {l : List α} {i : Nat} {x : α} : x ∈ l.take i ↔ ∃ j, ∃ h : j < l.length, j < i ∧ l[j] = x := by
  rw [List.mem_take_iff_getElem]
  constructor
  · rintro ⟨j, h, e⟩; exact ⟨j, by omega, by omega, e⟩
  · rintro ⟨j, h, h2, e⟩; exact ⟨j, by omega, e⟩
theorem nodup_iff {l : List Int} : l.Nodup ↔ ∀ i (hi : i < l.length), l[i] ∉ l.take i := by
  constructor
  · intro h i hi hm
    obtain ⟨j, hj, hji, e⟩ := mem_take_iff.1 hm
    have := (List.pairwise_iff_getElem.1 h) j i hj hi hji
    exact this e
  · intro h
    refine List.pairwise_iff_getElem.2 (fun i j hi hj hij e => h j hj (mem_take_iff.2 ⟨i, hi, hij, e⟩))
theorem oB_iff (g : List (List Int)) (o : List Int) (hl : o.length = g.length) : oB g o = true ↔ OOk g o := by
  unfold oB
  rw [all_forall]
  constructor
  · intro h
    refine ⟨hl, fun x hx => ?_, nodup_iff.2 fun i hi => ?_⟩
    · obtain ⟨i, hi, rfl⟩ := List.getElem_of_mem hx
      have := h i hi
      rw [getD_lt hi] at this
      simp at this; omega
    · have := h i hi
      rw [getD_lt hi] at this
      simp at this; exact this.2
  · intro h i hi
    have h1 := h.rng _ (List.getElem_mem hi)
    have h2 := nodup_iff.1 h.nd i hi
    rw [getD_lt hi]
    simp [h2]; omega

def ordB (g : List (List Int)) (o : List Int) : Bool := decide (o.length = g.length) && oB g o
theorem ordB_iff (g : List (List Int)) (o : List Int) : ordB g o = true ↔ OOk g o := by
  unfold ordB
  by_cases hl : o.length = g.length
  · simp [hl, oB_iff g o hl]
  · simp [hl]; intro h; exact hl h.len

theorem spec_OrderOk_eq (g : List (List Int)) (o : List Int) (h : Sh2 g) (ho : Sh o) : D.spec_OrderOk g o = some (gB g && ordB g o) := by
  have hl : g.length ≤ 4294967296 := h.1
  have hol : o.length ≤ 4294967296 := ho
  unfold D.spec_OrderOk
  rw [spec_GraphOk_eq g h, Option.bind_some]
  cases hg : gB g
  · rfl
  · have hg' := (gB_iff g).1 hg
    simp only [cond_true]
    unfold D.spec_l1Order D.spec_l1Size ordB
    simp only [Option.bind_some]
    by_cases hl : o.length = g.length
    · have e : ((o.length : Int) != (g.length : Int)) = false := by simp [hl]
      simp only [e, cond_false]
      simp only [Option.bind_fun_some, hl, decide_true, Bool.true_and]
      unfold oB
      rw [← hl]
      refine loop_allb o.length _ false (fun i hi => ?_) ?_ rfl rfl
      · have hsh : Sh (o.take i) := by unfold Sh; rw [List.length_take]; omega
        simp only [dlt hi, cond_true, idx_nat hi, Option.bind_some, wi' hi (by omega), getD_lt hi, ← hl, D.spec_l1There, D.spec_l1Size, l1In_eq, sliceD_pre (show i ≤ o.length by omega), l1Has_eq _ _ hsh]
        rw [w64 (x := (o.length : Int) - 1) (by omega) (by omega)]
        cases (decide (0 ≤ o[i]) && decide (o[i] ≤ (o.length : Int) - 1))
        · rfl
        · cases decide (o[i] ∈ o.take i) <;> rfl
      · simp only [dnlt, cond_false]
    · have e : ((o.length : Int) != (g.length : Int)) = true := by simp; omega
      simp [e, hl]

theorem sorted_inc {y : List Int} (hs : Srt y 0 y.length) (hn : y.Nodup) : Inc y := by
  unfold Inc
  rw [List.pairwise_iff_getElem]
  intro i j hi hj hij
  have h1 := hs i j (by omega) (by omega) (by omega)
  have h2 := (List.pairwise_iff_getElem.1 hn) i j hi hj hij
  simp [at', hi, hj] at h1
  have : y[i] ≠ y[j] := h2
  omega
theorem impl_OrderOk_eq (g : List (List Int)) (o : List Int) (h : Sh2 g) (ho : Sh o) : D.impl_OrderOk g o = some (gB g && ordB g o) := by
  unfold D.impl_OrderOk
  rw [impl_GraphOk_eq g h, Option.bind_some]
  cases hg : gB g
  · rfl
  · have hg' := (gB_iff g).1 hg
    by_cases hl : o.length = g.length
    · have e : ((o.length : Int) != (g.length : Int)) = false := by simp [hl]
      have h16 := hg'.n16
      obtain ⟨y, h1, h2, h3⟩ := sorted_spec o (by omega)
      have hyl := h2.length_eq
      simp only [Bool.not_true, e, Bool.or_false, cond_false, h1, Option.bind_some, Bool.true_and]
      rw [increasing_eq y _ (by unfold Sh; omega) (by omega) (by omega), Option.bind_some]
      congr 1
      unfold ordB
      simp only [hl, decide_true, Bool.true_and]
      rw [Bool.eq_iff_iff, setB_iff, oB_iff g o hl]
      constructor
      · rintro ⟨k1, k2⟩
        refine ⟨hl, fun x hx => k2 x (h2.mem_iff.2 hx), h2.nodup_iff.1 ?_⟩
        exact List.Pairwise.imp (fun h e => by omega) k1
      · intro k
        exact ⟨sorted_inc h3 (h2.nodup_iff.2 k.nd), fun x hx => k.rng x (h2.mem_iff.1 hx)⟩
    · have e : ((o.length : Int) != (g.length : Int)) = true := by simp; omega
      simp [e, ordB, hl]

/-! ### masks -/
theorem impl_one_eq (v : Nat) : D.impl_one (v : Int) = some (ishl .u32 1 (v : Int)) := by
  unfold D.impl_one
  have : decide ((v : Int) < 0) = false := by simp
  rw [this]; rfl
theorem impl_one_eq' {x : Int} (h : 0 ≤ x) : D.impl_one x = some (ishl .u32 1 x) := by
  have := impl_one_eq x.toNat
  rwa [show ((x.toNat : Nat) : Int) = x by omega] at this
def mk (xs : List Int) : Int := xs.foldl (fun s v => ior .u32 s (ishl .u32 1 v)) 0
theorem maskOf_eq (xs : List Int) (h : Sh xs) (h0 : ∀ x ∈ xs, 0 ≤ x) : D.impl_maskOf xs = some (mk xs) := by
  unfold Sh at h
  unfold D.impl_maskOf
  refine (loop_listb xs (fun s i => (s, i)) (fun s v => ior .u32 s (ishl .u32 1 v)) (fun s => s) (fun _ => True) 0 trivial (fun s i hi _ => ⟨?_, trivial⟩) (fun s _ => ?_)).trans rfl
  · simp only [dlt hi, cond_true, idx_nat hi, Option.bind_some, wi' hi (by omega), impl_one_eq' (h0 _ (List.getElem_mem hi))]
  · simp only [dnlt, cond_false]
theorem VS_foldl_ior : ∀ (xs : List Int) (s : Int), VS s → VS (xs.foldl (fun s v => ior .u32 s (ishl .u32 1 v)) s)
  | [], s, h => h
  | x :: xs, s, _ => VS_foldl_ior xs _ (VS.ior _ _)
theorem VS.mk (xs : List Int) : VS (mk xs) := VS_foldl_ior xs 0 VS.zero
theorem has_foldl_ior (u : Nat) : ∀ (xs : List Int) (s : Int), VS s → (∀ x ∈ xs, 0 ≤ x ∧ x < 32) → has (xs.foldl (fun s v => ior .u32 s (ishl .u32 1 v)) s) u = (has s u || decide ((u : Int) ∈ xs))
  | [], s, _, _ => by simp
  | x :: xs, s, hs, h => by
    have hx := h x (by simp)
    rw [List.foldl_cons, has_foldl_ior u xs _ (VS.ior _ _) (fun y hy => h y (by simp [hy])), has_ior hs (VS.ishl _ _)]
    obtain ⟨k, rfl⟩ : ∃ k : Nat, x = k := ⟨x.toNat, by omega⟩
    rw [has_one (by omega)]
    by_cases hu : u = k
    · subst hu; simp
    · have : ¬ (u : Int) = (k : Int) := by omega
      simp [hu, this]
theorem has_mk {xs : List Int} (h : ∀ x ∈ xs, 0 ≤ x ∧ x < 32) (u : Nat) : has (mk xs) u = decide ((u : Int) ∈ xs) := by
  unfold mk; rw [has_foldl_ior u xs 0 VS.zero h, has_zero, Bool.false_or]

theorem GOk.mem0 {g : List (List Int)} (hg : GOk g) {r : List Int} (hr : r ∈ g) : r.length ≤ 16 ∧ ∀ x ∈ r, 0 ≤ x ∧ x < g.length := by
  obtain ⟨v, hv, rfl⟩ := List.getElem_of_mem hr
  rw [← row_eq hv]
  exact ⟨hg.row_len hv, (hg.rows v hv).2⟩
theorem netsOf_eq (g : List (List Int)) (hg : GOk g) : D.impl_netsOf g = some (g.map mk) := by
  have h16 := hg.n16
  unfold D.impl_netsOf
  refine (loop_map g (fun s i => (s, i)) mk (by omega) (fun s i hi _ => ?_) (fun s => ?_)).trans rfl
  · obtain ⟨h1, h2⟩ := hg.mem0 (List.getElem_mem hi)
    simp only [dlt hi, cond_true, idx_nat hi, Option.bind_some, wi' hi (by omega), maskOf_eq g[i] (by unfold Sh; omega) (fun x hx => (h2 x hx).1)]
  · simp only [dnlt, cond_false]
theorem narrow_eq (xs : List Int) (h : Sh xs) : D.impl_narrow xs = some xs := by
  unfold Sh at h
  unfold D.impl_narrow
  rw [makeD_zero (by omega) (by omega), Option.bind_some]
  refine (loop_map xs (fun s i => (s, i)) (fun x => x) h (fun s i hi _ => ?_) (fun s => ?_)).trans (by simp)
  · simp only [dlt hi, cond_true, idx_nat hi, Option.bind_some, wi' hi (by omega)]
  · simp only [dnlt, cond_false]
theorem wide_eq (xs : List Int) (h : Sh xs) : D.impl_wide xs = some xs := by
  unfold Sh at h
  unfold D.impl_wide
  rw [makeD_zero (by omega) (by omega), Option.bind_some]
  refine (loop_map xs (fun s i => (s, i)) (fun x => x) h (fun s i hi _ => ?_) (fun s => ?_)).trans (by simp)
  · simp only [dlt hi, cond_true, idx_nat hi, Option.bind_some, wi' hi (by omega)]
  · simp only [dnlt, cond_false]

theorem least_eq {s : Int} (h : VS s) (h0 : s ≠ 0) : ∃ k : Nat, k < 32 ∧ D.impl_vset_least s = some (k : Int) ∧ has s k = true ∧ (∀ v, v < k → has s v = false) ∧
    (∀ v, has (iand .u32 s (IntKind.u32.wrap (s - 1))) v = (has s v && !decide (v = k))) := by
  obtain ⟨k, h1, h2, h3, h4, h5⟩ := least_spec h h0
  refine ⟨k, h1, ?_, h2, h3, h5⟩
  unfold D.impl_vset_least D.math_bits_TrailingZeros32
  have e : (s == 0) = false := by simpa using h0
  simp only [e, cond_false, h4, tz_table k h1, Option.bind_some]
  rw [w64 (by omega) (by omega)]

theorem list_eq (s : Int) (h : VS s) : D.impl_vset_list s = some (elems s) := by
  unfold D.impl_vset_list
  have key : ∀ (n : Nat) (x : Int) (l : List Int), VS x → (elems x).length = n → l.length + n ≤ 32 →
      loopF (σ := Int × (List Int)) (ρ := ((List Int))) (fun (s_52 : Int × (List Int)) => match s_52 with | (x_55, l_56) => cond (x_55 != 0) ((D.impl_vset_least x_55).bind fun y_88 => (appendD l_56 ([y_88] : List Int)).bind fun l_99 => some (.inl ((iand .u32 x_55 (IntKind.u32.wrap (x_55 - 1))), l_99))) (some (.inr l_56))) (x, l) = some (l ++ elems x) := by
    intro n
    induction n with
    | zero =>
      intro x l hx hn _
      have e : elems x = [] := List.eq_nil_of_length_eq_zero hn
      have e0 : x = 0 := hx.eq_zero.2 fun v hv => by
        cases hc : has x v
        · rfl
        · have := mem_elems.2 ⟨v, hv, hc, rfl⟩; rw [e] at this; simp at this
      rw [e]
      refine loopF_done ?_
      have : (x != 0) = false := by simp [e0]
      simp only [this, cond_false, List.append_nil]
    | succ n ih =>
      intro x l hx hn hl
      have h0 : x ≠ 0 := by rintro rfl; rw [elems_zero] at hn; simp at hn
      obtain ⟨k, h1, h2, h3, h4, h5⟩ := least_eq hx h0
      have e := elems_least h1 h3 h4 h5
      have en : (elems (iand .u32 x (IntKind.u32.wrap (x - 1)))).length = n := by rw [e] at hn; simpa using hn
      have hstep := ih (iand .u32 x (IntKind.u32.wrap (x - 1))) (l ++ [(k : Int)]) (VS.iand _ _) en (by simp; omega)
      have e1 : (x != 0) = true := by simpa using h0
      rw [loopF_more (s' := (iand .u32 x (IntKind.u32.wrap (x - 1)), l ++ [(k : Int)]))]
      · rw [hstep, e]; simp
      · simp only [e1, cond_true, h2, Option.bind_some, appendD_ok (xs := l) (ys := [(k : Int)]) (by simp; omega)]
  have := key (elems s).length s [] h rfl (by simpa using elems_len s)
  rw [this]; simp
theorem elems_sh (s : Int) : Sh (elems s) := by have := elems_len s; unfold Sh; omega
theorem numbers_eq (s : Int) (h : VS s) : D.impl_vset_numbers s = some (elems s) := by
  unfold D.impl_vset_numbers
  rw [list_eq s h, Option.bind_some, wide_eq _ (elems_sh s)]; rfl
/-! ### rising lists -/
theorem l1Copy_eq (xs : List Int) (h : Sh xs) : D.spec_l1Copy xs = some xs := by
  unfold Sh at h
  unfold D.spec_l1Copy
  rw [appendD_ok (by simpa using h)]; rfl
/-- with one more -/
def into (xs : List Int) (n : Int) : List Int := if n ∈ xs then xs else xs.takeWhile (fun x => decide (x < n)) ++ n :: xs.dropWhile (fun x => decide (x < n))
theorem mem_into {xs : List Int} {n x : Int} : x ∈ into xs n ↔ x = n ∨ x ∈ xs := by
  unfold into
  split
  · constructor
    · intro h; exact .inr h
    · rintro (rfl | h)
      · assumption
      · exact h
  · have e : x ∈ xs ↔ x ∈ xs.takeWhile (fun x => decide (x < n)) ++ xs.dropWhile (fun x => decide (x < n)) := by rw [List.takeWhile_append_dropWhile]
    rw [e]; simp only [List.mem_append, List.mem_cons]
    constructor
    · rintro (h | h | h) <;> simp [h]
    · rintro (h | h | h) <;> simp [h]
theorem inc_dropWhile {xs : List Int} {n : Int} (h : Inc xs) : ∀ y ∈ xs.dropWhile (fun x => decide (x < n)), n ≤ y := by
  induction xs with
  | nil => simp
  | cons x xs ih =>
    have h' := List.pairwise_cons.1 h
    intro y hy
    rw [List.dropWhile_cons] at hy
    split at hy
    · exact ih h'.2 y hy
    · rename_i hc
      simp at hc
      rcases List.mem_cons.1 hy with rfl | hy
      · exact hc
      · have := h'.1 y hy; omega
theorem inc_takeWhile {xs : List Int} {n : Int} : ∀ y ∈ xs.takeWhile (fun x => decide (x < n)), y < n := by
  intro y hy
  induction xs with
  | nil => simp at hy
  | cons x xs ih =>
    rw [List.takeWhile_cons] at hy
    split at hy
    · rename_i hc
      rcases List.mem_cons.1 hy with rfl | hy
      · simpa using hc
      · exact ih hy
    · simp at hy
theorem Inc.into {xs : List Int} (h : Inc xs) (n : Int) : Inc (into xs n) := by
  unfold Sx.into
  split
  · exact h
  · rename_i hn
    unfold Inc
    rw [List.pairwise_append]
    refine ⟨List.Pairwise.sublist (List.takeWhile_sublist _) h, List.pairwise_cons.2 ⟨fun y hy => ?_, List.Pairwise.sublist (List.dropWhile_sublist _) h⟩, fun a ha b hb => ?_⟩
    · have h1 := inc_dropWhile h y hy
      have h2 : y ≠ n := fun e => hn (e ▸ (List.dropWhile_sublist _).mem hy)
      omega
    · have h1 := inc_takeWhile a ha
      rcases List.mem_cons.1 hb with rfl | hb
      · exact h1
      · have := inc_dropWhile h b hb; omega
end Go.Sx

/- Open vertices, bags of an order: the reference's and the program's. Plain. -/
namespace Go.Sx
theorem into_len (xs : List Int) (n : Int) : (into xs n).length ≤ xs.length + 1 := by
  unfold into
  split
  · omega
  · have : (xs.takeWhile (fun x => decide (x < n)) ++ xs.dropWhile (fun x => decide (x < n))).length = xs.length := by rw [List.takeWhile_append_dropWhile]
    simp only [List.length_append, List.length_cons] at this ⊢; omega

theorem takeWhile_eq_take {α : Type} (p : α → Bool) : ∀ (xs : List α), xs.takeWhile p = xs.take (xs.takeWhile p).length ∧ xs.dropWhile p = xs.drop (xs.takeWhile p).length
  | [] => by simp
  | x :: xs => by
    rw [List.takeWhile_cons, List.dropWhile_cons]
    cases p x
    · simp
    · have := takeWhile_eq_take p xs
      simp only [if_true, List.length_cons, List.take_succ_cons, List.drop_succ_cons, ← this.1, ← this.2, and_self]
theorem takeWhile_get {α : Type} (p : α → Bool) : ∀ (xs : List α) (i : Nat) (h : i < (xs.takeWhile p).length) (h' : i < xs.length), p xs[i] = true
  | x :: xs, i, h, h' => by
    rw [List.takeWhile_cons] at h
    cases hp : p x
    · rw [hp] at h; simp at h
    · rw [hp] at h
      cases i with
      | zero => simpa using hp
      | succ i => simp only [if_true, List.length_cons] at h; simpa using takeWhile_get p xs i (by omega) (by simpa using h')
theorem takeWhile_stop {α : Type} (p : α → Bool) : ∀ (xs : List α) (h : (xs.takeWhile p).length < xs.length), p (xs[(xs.takeWhile p).length]) = false
  | x :: xs, h => by
    cases hp : p x
    · simp [List.takeWhile_cons, hp]
    · have h2 : (xs.takeWhile p).length < xs.length := by simpa [List.takeWhile_cons, hp] using h
      simpa [List.takeWhile_cons, hp] using takeWhile_stop p xs h2
theorem takeWhile_len_le {α : Type} (p : α → Bool) (xs : List α) : (xs.takeWhile p).length ≤ xs.length := (List.takeWhile_sublist _).length_le

theorem l1Into_eq (xs : List Int) (n : Int) (h : Inc xs) (hl : xs.length ≤ 4294967295) : D.spec_l1Into xs n = some (into xs n) := by
  unfold D.spec_l1Into
  generalize hk : (xs.takeWhile (fun x => decide (x < n))).length = k
  have hkl : k ≤ xs.length := by rw [← hk]; exact takeWhile_len_le _ _
  have htk : xs.takeWhile (fun x => decide (x < n)) = xs.take k := by rw [← hk]; exact (takeWhile_eq_take _ xs).1
  have hdk : xs.dropWhile (fun x => decide (x < n)) = xs.drop k := by rw [← hk]; exact (takeWhile_eq_take _ xs).2
  refine (loop_to (fun i => ((i : Nat) : Int)) k (k : Int) rfl (fun i hi => ?_) ?_).trans ?_
  · have hi' : i < xs.length := by omega
    have hp : decide (xs[i] < n) = true := takeWhile_get (fun x => decide (x < n)) xs i (by omega) hi'
    simp only [dlt hi', cond_true, idx_nat hi', Option.bind_some, hp, wi (show i < 4611686018427387904 by omega)]
  · by_cases hlt : k < xs.length
    · have hp : decide (xs[k] < n) = false := by
        have := takeWhile_stop (fun x => decide (x < n)) xs (by omega)
        simp only [hk] at this; exact this
      simp only [dlt hlt, cond_true, idx_nat hlt, Option.bind_some, hp, cond_false]
    · obtain rfl : k = xs.length := by omega
      simp only [dnlt, cond_false, Option.bind_some]
  · have hS1 : Sh (xs.take k) := by unfold Sh; rw [List.length_take]; omega
    have hrest : ((sliceD xs 0 (k : Int)).bind fun l_135 => (D.spec_l1Copy l_135).bind fun y_139 => (appendD y_139 ([n] : List Int)).bind fun l_154 => (sliceD xs (k : Int) (xs.length : Int)).bind fun l_160 => (appendD l_154 l_160).bind fun l_164 => some l_164) = some (xs.take k ++ n :: xs.drop k) := by
      simp only [sliceD_pre hkl, sliceD_post hkl, Option.bind_some, l1Copy_eq _ hS1]
      rw [appendD_ok (by simp; omega), Option.bind_some, appendD_ok (by simp; omega), Option.bind_some]
      simp
    by_cases hlt : k < xs.length
    · simp only [dlt hlt, cond_true, idx_nat hlt, Option.bind_some]
      by_cases he : xs[k] = n
      · have hm : n ∈ xs := by rw [← he]; exact List.getElem_mem _
        have : (xs[k] == n) = true := by simp [he]
        simp only [this, cond_true]
        unfold into; rw [if_pos hm]
      · have : (xs[k] == n) = false := by simpa using he
        simp only [this, cond_false, hrest]
        unfold into
        rw [htk, hdk, if_neg]
        intro hm
        obtain ⟨j, hj, e⟩ := List.getElem_of_mem hm
        have hst : decide (xs[k] < n) = false := by
          have := takeWhile_stop (fun x => decide (x < n)) xs (by omega)
          simp only [hk] at this; exact this
        simp at hst
        rcases Nat.lt_trichotomy j k with h1 | h1 | h1
        · have := takeWhile_get (fun x => decide (x < n)) xs j (by omega) hj
          simp at this; omega
        · subst h1; exact he e
        · have := (List.pairwise_iff_getElem.1 h) k j hlt hj h1
          omega
    · obtain rfl : k = xs.length := by omega
      simp only [dnlt, cond_false, Option.bind_some, hrest]
      unfold into
      rw [htk, hdk, if_neg]
      intro hm
      obtain ⟨j, hj, e⟩ := List.getElem_of_mem hm
      have := takeWhile_get (fun x => decide (x < n)) xs j (by omega) hj
      simp at this; omega

theorem Inc.short {s : List Int} {n : Nat} (h : Inc s) (hr : ∀ x ∈ s, 0 ≤ x ∧ x < n) : s.length ≤ n := by
  rcases SetOf.len h hr with e | e
  · subst e; simp
  · omega

end Go.Sx



/- What the laws draw with their dice: graphs that are right, orders that are right. Plain. -/
namespace Go.Sx
/-- dice in order: bytes, and a place among them -/
structure DK (b : List Int) (i : Int) : Prop where
  byte : ∀ x ∈ b, 0 ≤ x ∧ x ≤ 255
  len : b.length ≤ 4096
  i0 : 0 ≤ i
  i1 : i ≤ b.length

theorem row_set {g : List (List Int)} {u v : Nat} {r : List Int} (hu : u < g.length) : row (g.set u r) v = if v = u then r else row g v := by
  unfold row
  by_cases h : v = u
  · subst h; simp [hu]
  · rw [if_neg h, List.getD_eq_getElem?_getD, List.getElem?_set_ne (fun e => h e.symm), ← List.getD_eq_getElem?_getD]

theorem l1Link_ok {g : List (List Int)} (hg : GOk g) {u v : Nat} (hu : u < g.length) (hv : v < g.length) (huv : u ≠ v) :
    ∃ g', D.spec_l1Link g (u : Int) (v : Int) = some g' ∧ GOk g' ∧ g'.length = g.length ∧ ∀ a b, adj g' a b ↔ adj g a b ∨ (a = u ∧ b = v) ∨ (a = v ∧ b = u) := by
  have h16 := hg.n16
  have hru := hg.rows u hu; have hrv := hg.rows v hv
  have hlu := hg.row_len hu; have hlv := hg.row_len hv
  refine ⟨(g.set u (into (row g u) v)).set v (into (row g v) u), ?_, ?_⟩
  · unfold D.spec_l1Link
    have e1 : row (g.set u (into (row g u) v)) v = row g v := by rw [row_set hu, if_neg (Ne.symm huv)]
    simp only [idx_row hu, Option.bind_some, l1Into_eq _ _ hru.1 (show (row g u).length ≤ 4294967295 by omega), Int.toNat_natCast]
    rw [idx_row (show v < (g.set u (into (row g u) v)).length by simpa using hv), e1]
    simp only [Option.bind_some, l1Into_eq _ _ hrv.1 (show (row g v).length ≤ 4294967295 by omega)]
  · have hrow : ∀ w, row ((g.set u (into (row g u) v)).set v (into (row g v) u)) w = if w = v then into (row g v) u else if w = u then into (row g u) v else row g w := by
      intro w
      rw [row_set (by simpa using hv), row_set hu]
    have hadj : ∀ a b, adj ((g.set u (into (row g u) v)).set v (into (row g v) u)) a b ↔ adj g a b ∨ (a = u ∧ b = v) ∨ (a = v ∧ b = u) := by
      intro a b
      unfold adj
      rw [hrow]
      by_cases ha : a = v
      · subst ha
        rw [if_pos rfl, mem_into]
        constructor
        · rintro (h | h)
          · exact .inr (.inr ⟨rfl, by omega⟩)
          · exact .inl h
        · rintro (h | ⟨h, _⟩ | ⟨_, h⟩)
          · exact .inr h
          · exact absurd h.symm huv
          · exact .inl (by omega)
      · rw [if_neg ha]
        by_cases ha' : a = u
        · subst ha'
          rw [if_pos rfl, mem_into]
          constructor
          · rintro (h | h)
            · exact .inr (.inl ⟨rfl, by omega⟩)
            · exact .inl h
          · rintro (h | ⟨_, h⟩ | ⟨h, _⟩)
            · exact .inr h
            · exact .inl (by omega)
            · exact absurd h ha
        · rw [if_neg ha']
          constructor
          · exact .inl
          · rintro (h | ⟨h, _⟩ | ⟨h, _⟩)
            · exact h
            · exact absurd h ha'
            · exact absurd h ha
    refine ⟨⟨by simpa using hg.n1, by simpa using h16, fun w hw => ?_, fun w hw => ?_, fun a b ha hab => ?_⟩, by simp, hadj⟩
    · simp only [List.length_set] at hw ⊢
      rw [hrow]
      split
      · refine ⟨hrv.1.into _, fun x hx => ?_⟩
        rcases mem_into.1 hx with rfl | hx
        · omega
        · exact hrv.2 x hx
      · split
        · refine ⟨hru.1.into _, fun x hx => ?_⟩
          rcases mem_into.1 hx with rfl | hx
          · omega
          · exact hru.2 x hx
        · exact hg.rows w hw
    · simp only [List.length_set] at hw
      rw [hadj]
      rintro (h | ⟨h1, h2⟩ | ⟨h1, h2⟩)
      · exact hg.irr w hw h
      · omega
      · omega
    · simp only [List.length_set] at ha
      rw [hadj] at hab ⊢
      rcases hab with h | h | h
      · exact .inl (hg.sym a b ha h)
      · exact .inr (.inr ⟨h.2, h.1⟩)
      · exact .inr (.inl ⟨h.2, h.1⟩)

end Go.Sx

/- Drawn graphs and drawn orders are right. Plain. -/
namespace Go.Sx
end Go.Sx



/- Drawn orders, the other way: each number is put at a drawn place, what stands there moves on. Plain. -/
namespace Go.Sx
theorem ext_getD {a b : List Int} (hl : a.length = b.length) (h : ∀ j, j < a.length → a.getD j 0 = b.getD j 0) : a = b := by
  apply List.ext_getElem hl
  intro j h1 h2
  have := h j h1
  rwa [getD_lt h1, getD_lt h2] at this
theorem getD_set (l : List Int) (i j : Nat) (x : Int) (hi : i < l.length) : (l.set i x).getD j 0 = if j = i then x else l.getD j 0 := by
  simp only [List.getD_eq_getElem?_getD, List.getElem?_set]
  by_cases h : j = i
  · subst h; simp [hi]
  · rw [if_neg (fun e => h e.symm), if_neg h]
end Go.Sx
