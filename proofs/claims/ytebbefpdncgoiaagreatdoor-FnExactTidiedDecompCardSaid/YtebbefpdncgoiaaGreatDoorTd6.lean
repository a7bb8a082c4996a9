/- Parts of the proof: MDW, MEW, MFW, Qb, Pf, Pg, T1D, Qc, Qd, Qe, V1D, Ra, Rb, F1D, Sa. -/
import Derived.Test.YtebbefpdncgoiaaGreatDoorTd5
import Derived.Test.YtebbefpdncgoiaaGreatDoorProg
import Derived.KernelRfl
import Derived.Lib.TrailingZeros
set_option linter.unusedVariables false
set_option linter.unusedSimpArgs false
set_option linter.unusedSectionVars false
set_option maxRecDepth 100000
namespace Go.Proofs.YtebbefpdncgoiaaGreatDoor
open Go Go.Sx
theorem Wk.impl_results {W w : World} {G : GH} {H : List Itm} {v0 : Value} {x0 : (List Int)} (hW : TabW W) (m : Mem W G w (H)) (h0 : RSl (RI .u32) G v0 x0) {y : ((List (List Int)))} (hd : D.impl_results x0 = some y) :
  Calls Tryz.prog 59 #[v0] w (Res W G H (fun G' Ho v => ∃ r0 : Value, ∃ i0 : Itm, Ho = [i0] ∧ r0 = v ∧ Ow2 (RI .i64) 42 2 G' i0 r0 y)) := by
 refine calls_b (args := [v0]) (N := 20) [.tmp 2] Tryz.func59 rfl rfl (Nat.le_of_ble_eq_true rfl) rfl fun a f => ?_
 unfold D.impl_results at hd
 refine k_seq (k_region ?_)
 refine l_as f rfl rfl fun a f => l_nil (k_seq (k_region ?_))
 refine l_slit (R := RawS) (xs := []) RawS.one m T22 f rfl rfl rfl (by decide) (All2.nil _) fun aa ab w a m ac f => ?_
 obtain ⟨ad, m, ae⟩ := Ow2.of_empty (RI .i64) 2 m ac
 refine l_as f rfl rfl fun a f => l_nil (k_seq (k_seq (k_region ?_)))
 refine l_mv f rfl rfl fun a f => l_len Tryz.underlying71 f rfl rfl h0 fun a f => l_mv f rfl rfl fun a f => l_nil ?_
 obtain ⟨af, ag, hd⟩ := bind_some hd
 refine k_cut (fun a w => ∃ ah : List (List Int), ah = af ∧ ∃ (ai : GH) (aj : Value) (ak : Itm), GLe G ai ∧ Fr a 20 [(3, aj)] ∧ Mem W ai w (ak :: H) ∧ Ow2 (RI .i64) 42 2 ai ak aj ah) ?_ ?_
 ·refine k_block ?_
  refine k_loop (fun al a w => ∃ am : List (List Int), ∃ an : Int, (am, an) = al ∧ ∃ (ao : GH) (ap : Value) (aq : Itm), GLe G ao ∧ Fr a 20 [(3, ap), (7, v0), (8, (.int .i64 (x0.length : Int))), (9, (.int .i64 an))] ∧ Mem W ao w (aq :: H) ∧ Ow2 (RI .i64) 42 2 ao aq ap am) ag ⟨_, _, rfl, _, ab, ad, (GLe.refl _), f.weak ⟨rfl, rfl, rfl, rfl, trivial⟩, m, ae⟩ ?_
  clear ag f m
  rintro al ar au av a w ⟨am, an, rfl, ao, ap, aq, aw, f, m, ax⟩
  have h0 := rd1 aw h0
  refine k_seq (k_region ?_)
  refine l_in f rfl rfl rfl b_lss fun a f => l_nil (k_seq ?_)
  rcases cond_some au with ⟨ay, au⟩ | ⟨ay, au⟩
  ·refine k_true f rfl ay ?_
   refine k_skip ?_
   refine k_seq (k_block (k_seq (k_region ?_)))
   obtain ⟨az, aA, au⟩ := bind_some au
   refine l_at T71 f rfl rfl rfl h0 aA fun aB aC a aD aE f => ?_
   subst aE
   refine l_loadAt m Pl76 f rfl rfl aD fun a f => l_as f rfl rfl fun a f => l_nil (k_region ?_)
   refine l_mv f rfl rfl fun a f => l_mv f rfl rfl fun a f => ?_
   obtain ⟨aF, aG, au⟩ := bind_some au
   refine l_res f rfl rfl Tryz.call124 (Wk.impl_vset_numbers hW m  aG) fun aH aI aJ w aK m aL a f => ?_
   obtain ⟨aM, aN, rfl, rfl, aO⟩ := aL
   have h0 := rd1 aK h0
   have ax := Ow2.mono (RI.mono _) aK ax
   refine l_slit (R := RawS) (xs := [aM]) RawS.one m T22 f rfl rfl rfl (by decide) (All2.cons ⟨rfl, Ow.one1 0 m aO rfl, Ow.cells 0 m aO rfl⟩ (All2.nil _)) fun aP aQ w a m aR f => ?_
   have m := m.front 1 rfl
   have m := m.front 2 rfl
   obtain ⟨aS, aT, au⟩ := bind_some au
   refine l_append2 m ax aO aR T22 rfl (by decide) f rfl rfl rfl aT fun aU aV w a m aW f => l_as f rfl rfl fun a f => l_nil (k_region ?_)
   refine l_in f rfl rfl rfl b_add fun a f => l_mv f rfl rfl fun a f => l_nil ?_
   obtain rfl := sj au
   exact ⟨_, rfl, _, _, rfl, _, aV, aU, (GLe.trans aw aK), f.weak ⟨rfl, rfl, rfl, rfl, trivial⟩, m, aW⟩
  ·refine k_false f rfl ay ?_
   refine k_exit rfl ?_
   obtain rfl := sj au
   obtain rfl := av _ rfl
   exact ⟨_, rfl, _, ap, aq, aw, f.weak ⟨rfl, trivial⟩, m, ax⟩
 ·rintro a w ⟨ah, rfl, ai, aj, ak, aX, f, m, aY⟩
  refine k_seq (k_region ?_)
  refine l_mv f rfl rfl fun a f => l_as f rfl rfl fun a f => l_nil ?_
  refine k_ret ?_
  obtain rfl := sj hd
  exact ⟨[aj], ⟨f.get _ _ rfl, trivial⟩, f.defers, _, [ak], aX, m, _, _, rfl, rfl, aY⟩

theorem Wk.impl_tidied {W w : World} {G : GH} {H : List Itm} {v0_0 : Value} {v0_1 : Value} {x0_0 : (List (List Int))} {x0_1 : (List (List Int))} (hW : TabW W) (m : Mem W G w (H)) (h0_0 : RSl (RSl (RI .i64)) G v0_0 x0_0) (h0_1 : RSl (RSl (RI .i64)) G v0_1 x0_1) {y : ((List (List Int))) × ((List (List Int)))} (hd : D.impl_tidied x0_0 x0_1 = some y) :
  Calls Tryz.prog 66 #[(.agg #[v0_0, v0_1])] w (Res W G H (fun G' Ho v => ∃ r0 : Value, ∃ i0 : Itm, ∃ r2 : Value, ∃ i2 : Itm, Ho = [i0, i2] ∧ v = (.agg #[r0, r2]) ∧ Ow2 (RI .i64) 42 2 G' i0 r0 y.1 ∧ Ow2 (RI .i64) 42 2 G' i2 r2 y.2)) := by
 refine calls_b (args := [(.agg #[v0_0, v0_1])]) (N := 91) [.cell 2 27] Tryz.func66 rfl rfl (Nat.le_of_ble_eq_true rfl) rfl fun a f => ?_
 unfold D.impl_tidied at hd
 refine k_seq (k_region ?_)
 refine l_box (cs := [v0_0, v0_1]) m f rfl rfl rfl fun aa w a m f => l_alloc (cs := [(.slice none 0 0), (.slice none 0 0)]) Tryz.zeroValue27 m f rfl rfl fun ab w a m f => l_nil (k_seq ?_)
 refine k_draw 8 Follows (by kernel_rfl) m ?_
 refine q_fieldAddr (i := 0) 8 Tryz.underlying27 rfl Tryz.sizeOf22 (by decide) rfl (by kernel_rfl) rfl f rfl rfl rfl fun a f => q_boxCell (i := 1) 8 1 Pl22 rfl rfl rfl (by kernel_rfl) rfl f rfl rfl rfl fun a f => q_fieldAddr (i := 3) 8 Tryz.underlying27 rfl Tryz.sizeOf22 (by decide) rfl (by kernel_rfl) rfl f rfl rfl rfl fun a f => q_boxCell (i := 4) 8 1 Pl22 rfl rfl rfl (by kernel_rfl) rfl f rfl rfl rfl fun a f => q_one (i := 2) rfl (by kernel_rfl) rfl fun ac w ad m ae ae => ?_
 have h0_0 := rd2 ad h0_0
 have h0_1 := rd2 ad h0_1
 obtain ⟨af, ag, hd⟩ := bind_some hd
 refine l_res f rfl rfl Tryz.call97 (Wk.impl_bagMasks m h0_0 ag) fun ah ai aj w ak m al a f => ?_
 obtain ⟨am, an, rfl, rfl, ao⟩ := al
 have h0_0 := rd2 ak h0_0
 have h0_1 := rd2 ak h0_1
 refine l_nil ?_
 refine ae ai [an] _ _ ak m ?_
 refine q_one (i := 5) rfl (by kernel_rfl) rfl fun ap w aq m ar ar => ?_
 have h0_0 := rd2 aq h0_0
 have h0_1 := rd2 aq h0_1
 have ao := od1 aq ao
 obtain ⟨au, av, hd⟩ := bind_some hd
 refine l_res f rfl rfl Tryz.call128 (Wk.slices_Clone2_int64_int64 m h0_1 av) fun aw ax ay w az m aA a f => ?_
 obtain ⟨aB, aC, rfl, rfl, aD⟩ := aA
 have h0_0 := rd2 az h0_0
 have h0_1 := rd2 az h0_1
 have ao := od1 az ao
 refine l_nil ?_
 refine ar ax [aC, an] _ _ az m ?_
 refine q_p 6 8 rfl (by kernel_rfl) f rfl rfl rfl (fun _ => r_assign (f.eval rfl)) fun a f => q_p 7 8 rfl (by kernel_rfl) f rfl rfl rfl (fun _ => r_assign (f.eval rfl)) fun a f => q_end fun aE w aF m => ?_
 have h0_0 := rd2 aF h0_0
 have h0_1 := rd2 aF h0_1
 have aD := Ow.mono (RSl.mono (RI.mono _)) aF aD
 have ao := od1 aF ao
 refine l_nil (k_seq (k_region ?_))
 refine l_mv f rfl rfl fun a f => ?_
 obtain ⟨aG, aH, hd⟩ := bind_some hd
 refine l_res f rfl rfl Tryz.call57 (Ow.sortCall aD m (fun Z hZ => (sortTag_slices_SortFunc_int64_int64__slices_Compare_int64_int64 aH hZ).imp (fun zs h => ⟨h.2.1, h.2.2, fun _ _ m o => Wk.slices_SortFunc_int64_int64__slices_Compare_int64_int64 m o h.1⟩))) fun aI aJ aK w aL m aM a f => ?_
 obtain ⟨aN, rfl, aO⟩ := aM
 have h0_0 := rd2 aL h0_0
 have h0_1 := rd2 aL h0_1
 have ao := od1 aL ao
 refine l_nil (k_seq (k_seq (k_region ?_)))
 refine l_as f rfl rfl fun a f => l_nil ?_
 obtain ⟨aP, aQ, hd⟩ := bind_some hd
 refine k_cut (fun a w => ∃ aR : List Int, ∃ aS : List (List Int), (aR, aS) = aP ∧ ∃ (aT : GH) (aU : Value) (aV : Itm) (aW : Value) (aX : Itm), GLe aJ aT ∧ Fr a 91 [(2, (.pointer (some ⟨ab, 0, none⟩))), (3, aU), (4, aW)] ∧ Mem W aT w (Itm.box ab 27 [(.slice none 0 0), (.slice none 0 0)] :: aV :: aX :: H) ∧ Ow (RI .u32) 76 aT aV aU aR ∧ Ow (RSl (RI .i64)) 42 aT aX aW aS) ?_ ?_
 ·refine k_block ?_
  have m := m.front 1 rfl
  have m := m.front 2 rfl
  have m := m.eraseAt 3
  refine k_loop (fun aY a w => ∃ aZ : List Int, ∃ a2 : List (List Int), ∃ a3 : Bool, (aZ, a2, a3) = aY ∧ ∃ (a4 : GH) (a5 : Value) (a6 : Itm) (a7 : Value) (a8 : Itm), GLe aJ a4 ∧ Fr a 91 [(2, (.pointer (some ⟨ab, 0, none⟩))), (3, a5), (4, a7), (5, (.bool a3))] ∧ Mem W a4 w (Itm.box ab 27 [(.slice none 0 0), (.slice none 0 0)] :: a6 :: a8 :: H) ∧ Ow (RI .u32) 76 a4 a6 a5 aZ ∧ Ow (RSl (RI .i64)) 42 a4 a8 a7 a2) aQ ⟨_, _, _, rfl, _, am, an, aB, aN, (GLe.refl _), f.weak ⟨rfl, rfl, rfl, rfl, trivial⟩, m, ao, aO⟩ ?_
  clear aQ f m
  rintro aY a9 ba bb a w ⟨aZ, a2, a3, rfl, a4, a5, a6, a7, a8, bc, f, m, bd, be⟩
  refine k_seq (k_seq (k_region ?_))
  refine l_mv f rfl rfl fun a f => l_nil ?_
  rcases cond_some ba with ⟨bf, ba⟩ | ⟨bf, ba⟩
  ·refine k_true f rfl bf ?_
   refine k_skip ?_
   refine k_block (k_seq (k_region ?_))
   refine l_as f rfl rfl fun a f => l_nil (k_seq (k_region ?_))
   refine l_mv f rfl rfl fun a f => l_own_len 2 m be rfl Tryz.underlying22 f rfl rfl fun a f => l_mv f rfl rfl fun a f => l_nil ?_
   obtain ⟨bg, bh, ba⟩ := bind_some ba
   refine k_cut (fun a w => ∃ bi : List Int, ∃ bj : List (List Int), ∃ bk : Bool, (bi, bj, bk) = bg ∧ ∃ (bl : GH) (bm : Value) (bn : Itm) (bo : Value) (bp : Itm), GLe a4 bl ∧ Fr a 91 [(2, (.pointer (some ⟨ab, 0, none⟩))), (3, bm), (4, bo), (5, (.bool bk))] ∧ Mem W bl w (Itm.box ab 27 [(.slice none 0 0), (.slice none 0 0)] :: bn :: bp :: H) ∧ Ow (RI .u32) 76 bl bn bm bi ∧ Ow (RSl (RI .i64)) 42 bl bp bo bj) ?_ ?_
   ·refine k_block ?_
    refine k_loop (fun bq a w => ∃ br : Int, br = bq ∧ ∃ (bs : GH), GLe a4 bs ∧ Fr a 91 [(2, (.pointer (some ⟨ab, 0, none⟩))), (3, a5), (4, a7), (5, (.bool false)), (22, a7), (23, (.int .i64 (a2.length : Int))), (24, (.int .i64 br))] ∧ Mem W bs w (Itm.box ab 27 [(.slice none 0 0), (.slice none 0 0)] :: a6 :: a8 :: H)) bh ⟨_, rfl, _, (GLe.refl _), f.weak ⟨rfl, rfl, rfl, rfl, rfl, rfl, rfl, trivial⟩, m⟩ ?_
    clear bh f m
    rintro bq bt bu bv a w ⟨br, rfl, bs, bw, f, m⟩
    have bd := od1 bw bd
    have be := Ow.mono (RSl.mono (RI.mono _)) bw be
    refine k_seq (k_region ?_)
    refine l_in f rfl rfl rfl b_lss fun a f => l_nil (k_seq ?_)
    rcases cond_some bu with ⟨bx, bu⟩ | ⟨bx, bu⟩
    ·refine k_true f rfl bx ?_
     refine k_skip ?_
     refine k_seq (k_block (k_seq (k_region ?_)))
     obtain ⟨bz, bA, bu⟩ := bind_some bu
     refine l_own_at 2 m be rfl T22 f rfl rfl rfl bA fun bB a bC f => l_own_load 2 m be rfl Pl42 f rfl rfl bC bA fun bD a bE f => l_as f rfl rfl fun a f => l_nil (k_seq ?_)
     refine k_draw 8 Follows (by kernel_rfl) m ?_
     refine q_mv 0 8 rfl (by kernel_rfl) f rfl rfl rfl fun a f => ?_
     obtain ⟨bF, bG, bu⟩ := bind_some bu
     refine q_at (i := 1) 8 T42 bE bG rfl (by kernel_rfl) rfl f rfl rfl rfl rfl fun bH bI a bJ bK f => ?_
     subst bK
     refine q_loadAt (i := 2) 8 Pl2 bJ rfl (by kernel_rfl) rfl f rfl rfl rfl fun a f => q_mv 3 8 rfl (by kernel_rfl) f rfl rfl rfl fun a f => ?_
     obtain ⟨bL, bM, bu⟩ := bind_some bu
     refine q_at (i := 4) 8 T42 bE bM rfl (by kernel_rfl) rfl f rfl rfl rfl rfl fun bN bO a bP bQ f => ?_
     subst bQ
     refine q_loadAt (i := 5) 8 Pl2 bP rfl (by kernel_rfl) rfl f rfl rfl rfl fun a f => q_p 6 8 rfl (by kernel_rfl) f rfl rfl rfl (fun _ => r_assign (f.eval rfl)) fun a f => q_p 7 8 rfl (by kernel_rfl) f rfl rfl rfl (fun _ => r_assign (f.eval rfl)) fun a f => q_end fun bR w bS m => ?_
     have bE := rd1 bS bE
     have bJ := At.mono bS bJ
     have bP := At.mono bS bP
     have bd := od1 bS bd
     have be := Ow.mono (RSl.mono (RI.mono _)) bS be
     refine l_nil (k_seq (k_block (k_seq ?_)))
     refine k_draw 11 Follows (by kernel_rfl) m ?_
     refine q_mv 0 11 rfl (by kernel_rfl) f rfl rfl rfl fun a f => q_mv 1 11 rfl (by kernel_rfl) f rfl rfl rfl fun a f => ?_
     obtain ⟨bT, bU, bu⟩ := bind_some bu
     refine q_own_at (i := 2) 11 1 m bd rfl T71 bU rfl (by kernel_rfl) rfl f rfl rfl rfl rfl fun bV a bW f => q_own_load (i := 3) 11 1 bd rfl Pl76 bW bU rfl (by kernel_rfl) rfl f rfl rfl rfl fun bX a bY f => ?_
     subst bY
     refine q_mv 4 11 rfl (by kernel_rfl) f rfl rfl rfl fun a f => q_mv 5 11 rfl (by kernel_rfl) f rfl rfl rfl fun a f => ?_
     obtain ⟨bZ, b0, bu⟩ := bind_some bu
     refine q_own_at (i := 6) 11 1 m bd rfl T71 b0 rfl (by kernel_rfl) rfl f rfl rfl rfl rfl fun b1 a b2 f => q_own_load (i := 7) 11 1 bd rfl Pl76 b2 b0 rfl (by kernel_rfl) rfl f rfl rfl rfl fun b3 a b4 f => ?_
     subst b4
     refine q_p 8 11 rfl (by kernel_rfl) f rfl rfl rfl (fun _ => r_int (f.eval rfl) (f.eval rfl) b_andNot) fun a f => q_p 9 11 rfl (by kernel_rfl) f rfl rfl rfl (fun _ => r_int (f.eval rfl) (f.eval rfl) b_eql) fun a f => q_p 10 11 rfl (by kernel_rfl) f rfl rfl rfl (fun _ => r_assign (f.eval rfl)) fun a f => q_end fun b5 w b6 m => ?_
     have bE := rd1 b6 bE
     have bd := od1 b6 bd
     have be := Ow.mono (RSl.mono (RI.mono _)) b6 be
     refine l_nil ?_
     rcases cond_some bu with ⟨b7, bu⟩ | ⟨b7, bu⟩
     ·refine k_true f rfl b7 ?_
      refine k_region ?_
      refine l_mv f rfl rfl fun a f => l_mv f rfl rfl fun a f => l_mv f rfl rfl fun a f => l_mv f rfl rfl fun a f => ?_
      have m : Mem W b5 w (a6 :: Itm.box ab 27 [(.slice none 0 0), (.slice none 0 0)] :: a8 :: H) := m.front 1 rfl
      obtain ⟨b8, b9, m, ca⟩ := Ow.stamp (RI.mono _) bd m
      have bE := rd1 b9 bE
      have be := Ow.mono (RSl.mono (RI.mono _)) b9 be
      have m := m.front 1 rfl
      obtain ⟨cb, cc, m, cd⟩ := Ow.stamp (RSl.mono (RI.mono _)) be m
      have ca := rd1 cc ca
      have bE := rd1 cc bE
      obtain ⟨ce, cf, bu⟩ := bind_some bu
      refine l_res f rfl rfl Tryz.call129 (Wk.impl_mergedBags m ca cd cf) fun cg ch ci w cj m ck a f => ?_
      obtain ⟨cl, cm, cn, co, rfl, rfl, cp, cq⟩ := ck
      have ca := rd1 cj ca
      have cd := rd2 cj cd
      have bE := rd1 cj bE
      refine l_mv f rfl rfl fun a f => l_op f rfl rfl rfl (r_extract (f.eval rfl) rfl) fun a f => l_op f rfl rfl rfl (r_extract (f.eval rfl) rfl) fun a f => l_as f rfl rfl fun a f => l_as f rfl rfl fun a f => l_nil (k_seq (k_region ?_))
      refine l_as f rfl rfl fun a f => l_nil ?_
      refine k_exit rfl ?_
      have m : Mem W ch w (Itm.box ab 27 [(.slice none 0 0), (.slice none 0 0)] :: cm :: co :: H) := m.front 2 rfl
      obtain rfl := sj bu
      obtain rfl := bv _ rfl
      exact ⟨_, _, _, rfl, _, cl, cm, cn, co, (GLe.trans bw (GLe.trans bS (GLe.trans b6 (GLe.trans b9 (GLe.trans cc cj))))), f.weak ⟨rfl, rfl, rfl, rfl, trivial⟩, m, cp, cq⟩
     ·refine k_false f rfl b7 ?_
      refine k_seq ?_
      refine k_draw 11 Follows (by kernel_rfl) m ?_
      refine q_mv 0 11 rfl (by kernel_rfl) f rfl rfl rfl fun a f => q_mv 1 11 rfl (by kernel_rfl) f rfl rfl rfl fun a f => ?_
      obtain ⟨cr, ct, bu⟩ := bind_some bu
      refine q_own_at (i := 2) 11 1 m bd rfl T71 ct rfl (by kernel_rfl) rfl f rfl rfl rfl rfl fun cu a cv f => q_own_load (i := 3) 11 1 bd rfl Pl76 cv ct rfl (by kernel_rfl) rfl f rfl rfl rfl fun cw a cx f => ?_
      subst cx
      refine q_mv 4 11 rfl (by kernel_rfl) f rfl rfl rfl fun a f => q_mv 5 11 rfl (by kernel_rfl) f rfl rfl rfl fun a f => ?_
      obtain ⟨cy, cz, bu⟩ := bind_some bu
      refine q_own_at (i := 6) 11 1 m bd rfl T71 cz rfl (by kernel_rfl) rfl f rfl rfl rfl rfl fun cA a cB f => q_own_load (i := 7) 11 1 bd rfl Pl76 cB cz rfl (by kernel_rfl) rfl f rfl rfl rfl fun cC a cD f => ?_
      subst cD
      refine q_p 8 11 rfl (by kernel_rfl) f rfl rfl rfl (fun _ => r_int (f.eval rfl) (f.eval rfl) b_andNot) fun a f => q_p 9 11 rfl (by kernel_rfl) f rfl rfl rfl (fun _ => r_int (f.eval rfl) (f.eval rfl) b_eql) fun a f => q_p 10 11 rfl (by kernel_rfl) f rfl rfl rfl (fun _ => r_assign (f.eval rfl)) fun a f => q_end fun cE w cF m => ?_
      have bE := rd1 cF bE
      have bd := od1 cF bd
      have be := Ow.mono (RSl.mono (RI.mono _)) cF be
      refine l_nil ?_
      rcases cond_some bu with ⟨cG, bu⟩ | ⟨cG, bu⟩
      ·refine k_true f rfl cG ?_
       refine k_region ?_
       refine l_mv f rfl rfl fun a f => l_mv f rfl rfl fun a f => l_mv f rfl rfl fun a f => l_mv f rfl rfl fun a f => ?_
       have m : Mem W cE w (a6 :: Itm.box ab 27 [(.slice none 0 0), (.slice none 0 0)] :: a8 :: H) := m.front 1 rfl
       obtain ⟨cH, cI, m, cJ⟩ := Ow.stamp (RI.mono _) bd m
       have bE := rd1 cI bE
       have be := Ow.mono (RSl.mono (RI.mono _)) cI be
       have m := m.front 1 rfl
       obtain ⟨cK, cL, m, cM⟩ := Ow.stamp (RSl.mono (RI.mono _)) be m
       have cJ := rd1 cL cJ
       have bE := rd1 cL bE
       obtain ⟨cN, cO, bu⟩ := bind_some bu
       refine l_res f rfl rfl Tryz.call129 (Wk.impl_mergedBags m cJ cM cO) fun cP cQ cR w cS m cT a f => ?_
       obtain ⟨cU, cV, cW, cX, rfl, rfl, cY, cZ⟩ := cT
       have cJ := rd1 cS cJ
       have cM := rd2 cS cM
       have bE := rd1 cS bE
       refine l_mv f rfl rfl fun a f => l_op f rfl rfl rfl (r_extract (f.eval rfl) rfl) fun a f => l_op f rfl rfl rfl (r_extract (f.eval rfl) rfl) fun a f => l_as f rfl rfl fun a f => l_as f rfl rfl fun a f => l_nil (k_seq (k_region ?_))
       refine l_as f rfl rfl fun a f => l_nil ?_
       refine k_exit rfl ?_
       have m : Mem W cQ w (Itm.box ab 27 [(.slice none 0 0), (.slice none 0 0)] :: cV :: cX :: H) := m.front 2 rfl
       obtain rfl := sj bu
       obtain rfl := bv _ rfl
       exact ⟨_, _, _, rfl, _, cU, cV, cW, cX, (GLe.trans bw (GLe.trans bS (GLe.trans b6 (GLe.trans cF (GLe.trans cI (GLe.trans cL cS)))))), f.weak ⟨rfl, rfl, rfl, rfl, trivial⟩, m, cY, cZ⟩
      ·refine k_false f rfl cG ?_
       refine k_exit rfl ?_
       refine k_region ?_
       refine l_in f rfl rfl rfl b_add fun a f => l_mv f rfl rfl fun a f => l_nil ?_
       obtain rfl := sj bu
       exact ⟨_, rfl, _, rfl, _, (GLe.trans bw (GLe.trans bS (GLe.trans b6 cF))), f.weak ⟨rfl, rfl, rfl, rfl, rfl, rfl, rfl, trivial⟩, m⟩
    ·refine k_false f rfl bx ?_
     refine k_exit rfl ?_
     obtain rfl := sj bu
     obtain rfl := bv _ rfl
     exact ⟨_, _, _, rfl, _, a5, a6, a7, a8, bw, f.weak ⟨rfl, rfl, rfl, rfl, trivial⟩, m, bd, be⟩
   ·rintro a w ⟨bi, bj, bk, rfl, bl, bm, bn, bo, bp, c0, f, m, c1, c2⟩
    obtain rfl := sj ba
    exact ⟨_, rfl, _, _, _, rfl, _, bm, bn, bo, bp, (GLe.trans bc c0), f.weak ⟨rfl, rfl, rfl, rfl, trivial⟩, m, c1, c2⟩
  ·refine k_false f rfl bf ?_
   refine k_exit rfl ?_
   obtain rfl := sj ba
   obtain rfl := bb _ rfl
   exact ⟨_, _, rfl, _, a5, a6, a7, a8, bc, f.weak ⟨rfl, rfl, rfl, trivial⟩, m, bd, be⟩
 ·rintro a w ⟨aR, aS, rfl, aT, aU, aV, aW, aX, c3, f, m, c4, c5⟩
  refine k_seq (k_region ?_)
  refine l_mv f rfl rfl fun a f => ?_
  obtain ⟨c6, c7, hd⟩ := bind_some hd
  refine l_res f rfl rfl Tryz.call59 (Ow.lendCall (RI.mono _) 1 c4 m rfl (fun c8 c9 m da => Wk.impl_results hW m da c7) (fun _ G' _ _ ⟨a0, a1, e1, e2, o0⟩ => ⟨a0, a1, e1, e2, Ow2.free (RI.free _) G' o0⟩)) fun db dc dd w de m df a f => ?_
  obtain ⟨dg, dh, rfl, rfl, di⟩ := df
  have c4 := od1 de c4
  have c5 := Ow.mono (RSl.mono (RI.mono _)) de c5
  have dj : ∀ w, (Instr.build 27 #[(0, dg)]).run Tryz.prog w = .ok (.agg #[dg, (.slice none 0 0)]) w := by intro w; simp [Instr.build, Instr.fill, (Ow2.cells 0 m di rfl), cells_int, cells_bool, cells_string, cells_slice, cells_pointer, cells_agg]
  refine l_build f rfl rfl dj fun a f => l_alloc (cs := [(.slice none 0 0), (.slice none 0 0)]) Tryz.zeroValue27 m f rfl rfl fun dk w a m f => l_boxStore 0 0 (ds := [dg, (.slice none 0 0)]) m Tryz.sizeOf27 f rfl rfl rfl (ones_cons (Ow2.one1 1 m di rfl) (ones_cons rfl ones_nil)) rfl (Nat.le_of_ble_eq_true rfl) rfl fun w m => l_nil (k_seq (k_seq (k_region ?_)))
  refine l_mv f rfl rfl fun a f => l_own_len 4 m c5 rfl Tryz.underlying22 f rfl rfl fun a f => l_mv f rfl rfl fun a f => l_nil ?_
  obtain ⟨dl, m, dm⟩ := Ow2.nil (RI .i64) 42 2 m
  obtain ⟨dn, dp, hd⟩ := bind_some hd
  refine k_cut (fun a w => ∃ dq : List (List Int), dq = dn ∧ ∃ (dr : GH) (dt : Value) (du : Itm), GLe dc dr ∧ Fr a 91 [(2, (.pointer (some ⟨ab, 0, none⟩))), (10, (.pointer (some ⟨dk, 0, none⟩)))] ∧ Mem W dr w (Itm.box ab 27 [(.slice none 0 0), (.slice none 0 0)] :: Itm.box dk 27 [dg, dt] :: dh :: du :: H) ∧ Ow2 (RI .i64) 42 2 dr du dt dq) ?_ ?_
  ·refine k_block ?_
   have m := m.front 2 rfl
   have m := m.front 5 rfl
   have m : Mem W dc w (Itm.box dk 27 [dg, (.slice none 0 0)] :: aX :: dh :: dl :: Itm.box ab 27 [(.slice none 0 0), (.slice none 0 0)] :: aV :: H) := m.front 3 rfl
   have m := m.front 4 rfl
   have m : Mem W dc w (Itm.box ab 27 [(.slice none 0 0), (.slice none 0 0)] :: Itm.box dk 27 [dg, (.slice none 0 0)] :: aX :: dh :: dl :: H) := m.eraseAt 5
   refine k_loop (fun dv a w => ∃ dw : Int, ∃ dx : List (List Int), (dw, dx) = dv ∧ ∃ (dy : GH) (dz : Value) (dA : Itm), GLe dc dy ∧ Fr a 91 [(2, (.pointer (some ⟨ab, 0, none⟩))), (10, (.pointer (some ⟨dk, 0, none⟩))), (76, aW), (77, (.int .i64 (aS.length : Int))), (78, (.int .i64 dw))] ∧ Mem W dy w (Itm.box ab 27 [(.slice none 0 0), (.slice none 0 0)] :: Itm.box dk 27 [dg, dz] :: aX :: dh :: dA :: H) ∧ Ow2 (RI .i64) 42 2 dy dA dz dx) dp ⟨_, _, rfl, _, (.slice none 0 0), dl, (GLe.refl _), f.weak ⟨rfl, rfl, rfl, rfl, rfl, trivial⟩, m, dm⟩ ?_
   clear dp f m
   rintro dv dB dC dD a w ⟨dw, dx, rfl, dy, dz, dA, dE, f, m, dF⟩
   have c5 := Ow.mono (RSl.mono (RI.mono _)) dE c5
   have di := Ow2.mono (RI.mono _) dE di
   refine k_seq (k_region ?_)
   refine l_in f rfl rfl rfl b_lss fun a f => l_nil (k_seq ?_)
   rcases cond_some dC with ⟨dG, dC⟩ | ⟨dG, dC⟩
   ·refine k_true f rfl dG ?_
    refine k_skip ?_
    refine k_seq (k_block (k_seq (k_region ?_)))
    obtain ⟨dH, dI, dC⟩ := bind_some dC
    refine l_own_at 2 m c5 rfl T22 f rfl rfl rfl dI fun dJ a dK f => l_own_load 2 m c5 rfl Pl42 f rfl rfl dK dI fun dL a dM f => l_as f rfl rfl fun a f => l_nil ?_
    refine k_draw 5 Follows (by kernel_rfl) m ?_
    refine q_fieldAddr (i := 0) 5 Tryz.underlying27 rfl Tryz.sizeOf22 (by decide) rfl (by kernel_rfl) rfl f rfl rfl rfl fun a f => q_boxCell (i := 1) 5 1 Pl22 rfl rfl rfl (by kernel_rfl) rfl f rfl rfl rfl fun a f => q_mv 2 5 rfl (by kernel_rfl) f rfl rfl rfl fun a f => q_one (i := 3) rfl (by kernel_rfl) rfl fun dN w dO m dP dP => ?_
    have dM := rd1 dO dM
    have c5 := Ow.mono (RSl.mono (RI.mono _)) dO c5
    have di := Ow2.mono (RI.mono _) dO di
    have dF := Ow2.mono (RI.mono _) dO dF
    obtain ⟨dQ, dR, dC⟩ := bind_some dC
    refine l_res f rfl rfl Tryz.call130 (Wk.slices_Clone_int64_int64 m dM dR) fun dS dT dU w dV m dW a f => ?_
    obtain ⟨dX, dY, rfl, rfl, dZ⟩ := dW
    have dM := rd1 dV dM
    have c5 := Ow.mono (RSl.mono (RI.mono _)) dV c5
    have di := Ow2.mono (RI.mono _) dV di
    have dF := Ow2.mono (RI.mono _) dV dF
    refine l_nil ?_
    refine dP dT [dY] _ _ dV m ?_
    refine q_one (i := 4) rfl (by kernel_rfl) rfl fun d0 w d1 m d2 d2 => ?_
    have dM := rd1 d1 dM
    have dZ := od1 d1 dZ
    have c5 := Ow.mono (RSl.mono (RI.mono _)) d1 c5
    have di := Ow2.mono (RI.mono _) d1 di
    have dF := Ow2.mono (RI.mono _) d1 dF
    refine l_slit (R := RawS) (xs := [dX]) RawS.one m T22 f rfl rfl rfl (by decide) (All2.cons ⟨rfl, Ow.one1 0 m dZ rfl, Ow.cells 0 m dZ rfl⟩ (All2.nil _)) fun d3 d4 w a m d5 f => l_nil ?_
    refine d2 d0 [d3, dY] _ _ (GLe.refl _) m ?_
    refine q_end fun d6 w d7 m => ?_
    have dM := rd1 d7 dM
    have d5 := Ow.mono RawS.mono d7 d5
    have dZ := od1 d7 dZ
    have c5 := Ow.mono (RSl.mono (RI.mono _)) d7 c5
    have di := Ow2.mono (RI.mono _) d7 di
    have dF := Ow2.mono (RI.mono _) d7 dF
    have m := m.front 1 rfl
    have m : Mem W d6 w (dA :: dY :: d3 :: Itm.box ab 27 [(.slice none 0 0), (.slice none 0 0)] :: Itm.box dk 27 [dg, dz] :: aX :: dh :: H) := m.front 6 rfl
    obtain ⟨d8, d9, dC⟩ := bind_some dC
    refine l_append2 m dF dZ d5 T22 rfl (by decide) f rfl rfl rfl d9 fun ea eb w a m ec f => l_fieldAddr Tryz.underlying27 rfl Tryz.sizeOf22 (by decide) f rfl rfl fun a f => l_boxStore 2 1 (ds := [eb]) m Tryz.sizeOf22 f rfl rfl (Ow2.cells 0 m ec rfl) (ones_cons (Ow2.one1 0 m ec rfl) ones_nil) rfl (Nat.le_of_ble_eq_true rfl) rfl fun w m => l_nil (k_region ?_)
    refine l_in f rfl rfl rfl b_add fun a f => l_mv f rfl rfl fun a f => l_nil ?_
    have m := m.front 4 rfl
    have m := m.front 4 rfl
    have m : Mem W d6 w (Itm.box dk 27 [dg, eb] :: aX :: dh :: ea :: Itm.box ab 27 [(.slice none 0 0), (.slice none 0 0)] :: H) := m.front 4 rfl
    have m : Mem W d6 w (Itm.box ab 27 [(.slice none 0 0), (.slice none 0 0)] :: Itm.box dk 27 [dg, eb] :: aX :: dh :: ea :: H) := m.front 4 rfl
    obtain rfl := sj dC
    exact ⟨_, rfl, _, _, rfl, _, eb, ea, (GLe.trans dE (GLe.trans dO (GLe.trans dV (GLe.trans d1 d7)))), f.weak ⟨rfl, rfl, rfl, rfl, rfl, trivial⟩, m, ec⟩
   ·refine k_false f rfl dG ?_
    refine k_exit rfl ?_
    have m := m.front 4 rfl
    have m := m.front 4 rfl
    have m : Mem W dy w (Itm.box dk 27 [dg, dz] :: dh :: dA :: Itm.box ab 27 [(.slice none 0 0), (.slice none 0 0)] :: aX :: H) := m.front 3 rfl
    have m := m.front 3 rfl
    have m : Mem W dy w (Itm.box ab 27 [(.slice none 0 0), (.slice none 0 0)] :: Itm.box dk 27 [dg, dz] :: dh :: dA :: H) := m.eraseAt 4
    obtain rfl := sj dC
    obtain rfl := dD _ rfl
    exact ⟨_, rfl, _, dz, dA, dE, f.weak ⟨rfl, rfl, trivial⟩, m, dF⟩
  ·rintro a w ⟨dq, rfl, dr, dt, du, ed, f, m, ee⟩
   have di := Ow2.mono (RI.mono _) ed di
   refine k_seq (k_region ?_)
   refine l_boxAgg 1 0 (ds := [dg, dt]) m Ag27 f rfl rfl rfl rfl rfl fun a f => l_boxStore 0 0 (ds := [dg, dt]) m Tryz.sizeOf27 f rfl rfl rfl (ones_cons (Ow2.one1 2 m di rfl) (ones_cons (Ow2.one1 3 m ee rfl) ones_nil)) rfl (Nat.le_of_ble_eq_true rfl) rfl fun w m => l_nil ?_
   refine k_ret ?_
   have ef := rr_agg (P := Tryz.prog) 0 m Ag27 f (s := 2) rfl rfl rfl
   have m := m.front 3 rfl
   have m := m.front 3 rfl
   have m : Mem W dr w (dh :: du :: Itm.box ab 27 [dg, dt] :: H) := m.eraseAt 3
   have m := m.eraseAt 2
   obtain rfl := sj hd
   exact ⟨[(.agg #[dg, dt])], ⟨ef, trivial⟩, f.defers, _, [dh, du], (GLe.trans ad (GLe.trans ak (GLe.trans aq (GLe.trans az (GLe.trans aF (GLe.trans aL (GLe.trans c3 (GLe.trans de ed)))))))), m, _, _, _, _, rfl, rfl, di, ee⟩

theorem Wk.impl_TidiedDecomp {W w : World} {G : GH} {H : List Itm} {v0_0 : Value} {v1_0 : Value} {v1_1 : Value} {x0_0 : (List (List Int))} {x1_0 : (List (List Int))} {x1_1 : (List (List Int))} (hW : TabW W) (m : Mem W G w (H)) (h0_0 : RSl (RSl (RI .i64)) G v0_0 x0_0) (h1_0 : RSl (RSl (RI .i64)) G v1_0 x1_0) (h1_1 : RSl (RSl (RI .i64)) G v1_1 x1_1) {y : ((List (List Int))) × ((List (List Int))) × Bool} (hd : D.impl_TidiedDecomp x0_0 x1_0 x1_1 = some y) :
  Calls Tryz.prog 20 #[(.agg #[v0_0]), (.agg #[v1_0, v1_1])] w (Res W G H (fun G' Ho v => ∃ r0 : Value, ∃ i0 : Itm, ∃ r2 : Value, ∃ i2 : Itm, Ho = [i0, i2] ∧ v = .tuple #[(.agg #[r0, r2]), (.bool y.2.2)] ∧ Ow2 (RI .i64) 42 2 G' i0 r0 y.1 ∧ Ow2 (RI .i64) 42 2 G' i2 r2 y.2.1)) := by
 refine calls_b (args := [(.agg #[v0_0]), (.agg #[v1_0, v1_1])]) (N := 13) [.cell 4 27, .tmp 5] Tryz.func20 rfl rfl (Nat.le_of_ble_eq_true rfl) rfl fun a f => ?_
 unfold D.impl_TidiedDecomp at hd
 refine k_seq (k_region ?_)
 refine l_box (cs := [v0_0]) m f rfl rfl rfl fun aa w a m f => l_box (cs := [v1_0, v1_1]) m f rfl rfl rfl fun ab w a m f => l_alloc (cs := [(.slice none 0 0), (.slice none 0 0)]) Tryz.zeroValue27 m f rfl rfl fun ac w a m f => l_as f rfl rfl fun a f => l_nil (k_seq (k_seq (k_region ?_)))
 refine l_boxAgg 2 0 (ds := [v0_0]) m Ag30 f rfl rfl rfl rfl rfl fun a f => l_boxAgg 1 0 (ds := [v1_0, v1_1]) m Ag27 f rfl rfl rfl rfl rfl fun a f => ?_
 obtain ⟨ad, ae, hd⟩ := bind_some hd
 refine l_res f rfl rfl Tryz.call37 (Wk.impl_DecompOk hW m h0_0 h1_0 h1_1 ae) fun af ag ah w ai m aj a f => ?_
 obtain ⟨rfl, rfl⟩ := aj
 have h0_0 := rd2 ai h0_0
 have h1_0 := rd2 ai h1_0
 have h1_1 := rd2 ai h1_1
 refine l_op f rfl rfl rfl (r_not (f.eval rfl)) fun a f => l_nil ?_
 rcases cond_some hd with ⟨ak, hd⟩ | ⟨ak, hd⟩
 ·refine k_true f rfl ak ?_
  refine k_seq (k_region ?_)
  have al : ∀ w, (Instr.build 27 #[]).run Tryz.prog w = .ok (.agg #[(.slice none 0 0), (.slice none 0 0)]) w := by intro w; simp [Instr.build, Instr.fill, cells_int, cells_bool, cells_string, cells_slice, cells_pointer, cells_agg]
  refine l_build f rfl rfl al fun a f => l_boxStore 0 0 (ds := [(.slice none 0 0), (.slice none 0 0)]) m Tryz.sizeOf27 f rfl rfl rfl (ones_cons rfl (ones_cons rfl ones_nil)) rfl (Nat.le_of_ble_eq_true rfl) rfl fun w m => l_as f rfl rfl fun a f => l_nil ?_
  refine k_ret ?_
  obtain ⟨am, m, an⟩ := Ow2.nil (RI .i64) 42 2 m
  obtain ⟨ao, m, ap⟩ := Ow2.nil (RI .i64) 42 2 m
  have aq := rr_agg (P := Tryz.prog) 2 m Ag27 f (s := 4) rfl rfl rfl
  have m := m.front 1 rfl
  have m := m.eraseAt 4
  have m : Mem W ag w (am :: ao :: Itm.box ac 27 [(.slice none 0 0), (.slice none 0 0)] :: H) := m.eraseAt 3
  have m := m.eraseAt 2
  obtain rfl := sj hd
  exact ⟨[(.agg #[(.slice none 0 0), (.slice none 0 0)]), (.bool false)], ⟨aq, f.get _ _ rfl, trivial⟩, f.defers, _, [am, ao], ai, m, _, _, _, _, rfl, rfl, an, ap⟩
 ·refine k_false f rfl ak ?_
  refine k_skip ?_
  refine k_seq (k_region ?_)
  refine l_boxAgg 1 0 (ds := [v1_0, v1_1]) m Ag27 f rfl rfl rfl rfl rfl fun a f => ?_
  obtain ⟨ar, au, hd⟩ := bind_some hd
  refine l_res f rfl rfl Tryz.call66 (Wk.impl_tidied hW m h1_0 h1_1 au) fun av aw ax w ay m az a f => ?_
  obtain ⟨aA, aB, aC, aD, rfl, rfl, aE, aF⟩ := az
  have h0_0 := rd2 ay h0_0
  have h1_0 := rd2 ay h1_0
  have h1_1 := rd2 ay h1_1
  refine l_boxStore 2 0 (ds := [aA, aC]) m Tryz.sizeOf27 f rfl rfl rfl (ones_cons (Ow2.one1 0 m aE rfl) (ones_cons (Ow2.one1 1 m aF rfl) ones_nil)) rfl (Nat.le_of_ble_eq_true rfl) rfl fun w m => l_as f rfl rfl fun a f => l_nil ?_
  refine k_ret ?_
  have aG := rr_agg (P := Tryz.prog) 2 m Ag27 f (s := 4) rfl rfl rfl
  have m := m.eraseAt 4
  have m := m.eraseAt 3
  have m := m.eraseAt 2
  obtain rfl := sj hd
  exact ⟨[(.agg #[aA, aC]), (.bool true)], ⟨aG, f.get _ _ rfl, trivial⟩, f.defers, _, [aB, aD], (GLe.trans ai ay), m, _, _, _, _, rfl, rfl, aE, aF⟩

theorem Wk.laws_eqInt64S {W w : World} {G : GH} {H : List Itm} {v0 : Value} {v1 : Value} {x0 : (List Int)} {x1 : (List Int)} (m : Mem W G w (H)) (h0 : RSl (RI .i64) G v0 x0) (h1 : RSl (RI .i64) G v1 x1) {y : Bool} (hd : D.laws_eqInt64S x0 x1 = some y) :
  Calls Tryz.prog 24 #[v0, v1] w (Res W G H (fun _ Ho v => Ho = [] ∧ v = (.bool y))) := by
 refine calls_b (args := [v0, v1]) (N := 26) [.tmp 4] Tryz.func24 rfl rfl (Nat.le_of_ble_eq_true rfl) rfl fun a f => ?_
 unfold D.laws_eqInt64S at hd
 refine k_seq (k_region ?_)
 refine l_as f rfl rfl fun a f => l_nil (k_seq (k_seq (k_region ?_)))
 refine l_mv f rfl rfl fun a f => l_len Tryz.underlying42 f rfl rfl h0 fun a f => l_mv f rfl rfl fun a f => l_len Tryz.underlying42 f rfl rfl h1 fun a f => l_in f rfl rfl rfl b_neq fun a f => l_nil ?_
 rcases cond_some hd with ⟨aa, hd⟩ | ⟨aa, hd⟩
 ·refine k_true f rfl aa ?_
  refine k_seq (k_region ?_)
  refine l_as f rfl rfl fun a f => l_nil ?_
  refine k_ret ?_
  obtain rfl := sj hd
  exact ⟨[(.bool false)], ⟨f.get _ _ rfl, trivial⟩, f.defers, _, [], (GLe.refl _), m, rfl, rfl⟩
 ·refine k_false f rfl aa ?_
  refine k_skip ?_
  refine k_seq (k_seq (k_region ?_))
  refine l_as f rfl rfl fun a f => l_nil ?_
  obtain ⟨ab, ac, hd⟩ := bind_some hd
  refine k_cut (fun a w => ∃ q_36' : Unit, ab = .inl q_36' ∧ ∃ (ad : GH), GLe G ad ∧ Fr a 26 [] ∧ Mem W ad w (H)) ?_ ?_
  ·refine k_block ?_
   refine k_loop (fun ae a w => ∃ af : Int, af = ae ∧ ∃ (ag : GH), GLe G ag ∧ Fr a 26 [(0, v0), (1, v1), (5, (.int .i64 af))] ∧ Mem W ag w (H)) ac ⟨_, rfl, _, (GLe.refl _), f.weak ⟨rfl, rfl, rfl, trivial⟩, m⟩ ?_
   clear ac f m
   rintro ae ah ai aj a w ⟨af, rfl, ag, ak, f, m⟩
   have h0 := rd1 ak h0
   have h1 := rd1 ak h1
   refine k_seq (k_seq (k_region ?_))
   refine l_mv f rfl rfl fun a f => l_mv f rfl rfl fun a f => l_len Tryz.underlying42 f rfl rfl h0 fun a f => l_in f rfl rfl rfl b_lss fun a f => l_nil ?_
   rcases cond_some ai with ⟨al, ai⟩ | ⟨al, ai⟩
   ·refine k_true f rfl al ?_
    refine k_skip ?_
    refine k_seq (k_block (k_seq ?_))
    refine k_draw 9 Follows (by kernel_rfl) m ?_
    refine q_mv 0 9 rfl (by kernel_rfl) f rfl rfl rfl fun a f => q_mv 1 9 rfl (by kernel_rfl) f rfl rfl rfl fun a f => ?_
    obtain ⟨am, an, ai⟩ := bind_some ai
    refine q_at (i := 2) 9 T42 h0 an rfl (by kernel_rfl) rfl f rfl rfl rfl rfl fun ao ap a aq ar f => ?_
    subst ar
    refine q_loadAt (i := 3) 9 Pl2 aq rfl (by kernel_rfl) rfl f rfl rfl rfl fun a f => q_mv 4 9 rfl (by kernel_rfl) f rfl rfl rfl fun a f => q_mv 5 9 rfl (by kernel_rfl) f rfl rfl rfl fun a f => ?_
    obtain ⟨au, av, ai⟩ := bind_some ai
    refine q_at (i := 6) 9 T42 h1 av rfl (by kernel_rfl) rfl f rfl rfl rfl rfl fun aw ax a ay az f => ?_
    subst az
    refine q_loadAt (i := 7) 9 Pl2 ay rfl (by kernel_rfl) rfl f rfl rfl rfl fun a f => q_p 8 9 rfl (by kernel_rfl) f rfl rfl rfl (fun _ => r_int (f.eval rfl) (f.eval rfl) b_neq) fun a f => q_end fun aA w aB m => ?_
    have h0 := rd1 aB h0
    have h1 := rd1 aB h1
    have aq := At.mono aB aq
    have ay := At.mono aB ay
    refine l_nil ?_
    rcases cond_some ai with ⟨aC, ai⟩ | ⟨aC, ai⟩
    ·refine k_true f rfl aC ?_
     refine k_seq (k_region ?_)
     refine l_as f rfl rfl fun a f => l_nil ?_
     refine k_ret ?_
     obtain rfl := sj ai
     obtain rfl := aj _ rfl
     obtain rfl := sj hd
     exact ⟨[(.bool false)], ⟨f.get _ _ rfl, trivial⟩, f.defers, _, [], (GLe.trans ak aB), m, rfl, rfl⟩
    ·refine k_false f rfl aC ?_
     refine k_skip ?_
     refine k_region ?_
     refine l_mv f rfl rfl fun a f => l_in f rfl rfl rfl b_add fun a f => l_as f rfl rfl fun a f => l_nil ?_
     obtain rfl := sj ai
     exact ⟨_, rfl, _, rfl, _, (GLe.trans ak aB), f.weak ⟨rfl, rfl, rfl, trivial⟩, m⟩
   ·refine k_false f rfl al ?_
    refine k_exit rfl ?_
    obtain rfl := sj ai
    obtain rfl := aj _ rfl
    exact ⟨_, rfl, _, ak, f.weak trivial, m⟩
  ·rintro a w ⟨_, rfl, ad, aD, f, m⟩
   refine k_seq (k_region ?_)
   refine l_as f rfl rfl fun a f => l_nil ?_
   refine k_ret ?_
   obtain rfl := sj hd
   exact ⟨[(.bool true)], ⟨f.get _ _ rfl, trivial⟩, f.defers, _, [], aD, m, rfl, rfl⟩

theorem Wk.laws_eqInt64SS {W w : World} {G : GH} {H : List Itm} {v0 : Value} {v1 : Value} {x0 : (List (List Int))} {x1 : (List (List Int))} (m : Mem W G w (H)) (h0 : RSl (RSl (RI .i64)) G v0 x0) (h1 : RSl (RSl (RI .i64)) G v1 x1) {y : Bool} (hd : D.laws_eqInt64SS x0 x1 = some y) :
  Calls Tryz.prog 60 #[v0, v1] w (Res W G H (fun _ Ho v => Ho = [] ∧ v = (.bool y))) := by
 refine calls_b (args := [v0, v1]) (N := 27) [.tmp 4] Tryz.func60 rfl rfl (Nat.le_of_ble_eq_true rfl) rfl fun a f => ?_
 unfold D.laws_eqInt64SS at hd
 refine k_seq (k_region ?_)
 refine l_as f rfl rfl fun a f => l_nil (k_seq (k_seq (k_region ?_)))
 refine l_mv f rfl rfl fun a f => l_len Tryz.underlying22 f rfl rfl h0 fun a f => l_mv f rfl rfl fun a f => l_len Tryz.underlying22 f rfl rfl h1 fun a f => l_in f rfl rfl rfl b_neq fun a f => l_nil ?_
 rcases cond_some hd with ⟨aa, hd⟩ | ⟨aa, hd⟩
 ·refine k_true f rfl aa ?_
  refine k_seq (k_region ?_)
  refine l_as f rfl rfl fun a f => l_nil ?_
  refine k_ret ?_
  obtain rfl := sj hd
  exact ⟨[(.bool false)], ⟨f.get _ _ rfl, trivial⟩, f.defers, _, [], (GLe.refl _), m, rfl, rfl⟩
 ·refine k_false f rfl aa ?_
  refine k_skip ?_
  refine k_seq (k_seq (k_region ?_))
  refine l_as f rfl rfl fun a f => l_nil ?_
  obtain ⟨ab, ac, hd⟩ := bind_some hd
  refine k_cut (fun a w => ∃ q_42' : Unit, ab = .inl q_42' ∧ ∃ (ad : GH), GLe G ad ∧ Fr a 27 [] ∧ Mem W ad w (H)) ?_ ?_
  ·refine k_block ?_
   refine k_loop (fun ae a w => ∃ af : Int, af = ae ∧ ∃ (ag : GH), GLe G ag ∧ Fr a 27 [(0, v0), (1, v1), (5, (.int .i64 af))] ∧ Mem W ag w (H)) ac ⟨_, rfl, _, (GLe.refl _), f.weak ⟨rfl, rfl, rfl, trivial⟩, m⟩ ?_
   clear ac f m
   rintro ae ah ai aj a w ⟨af, rfl, ag, ak, f, m⟩
   have h0 := rd2 ak h0
   have h1 := rd2 ak h1
   refine k_seq (k_seq (k_region ?_))
   refine l_mv f rfl rfl fun a f => l_mv f rfl rfl fun a f => l_len Tryz.underlying22 f rfl rfl h0 fun a f => l_in f rfl rfl rfl b_lss fun a f => l_nil ?_
   rcases cond_some ai with ⟨al, ai⟩ | ⟨al, ai⟩
   ·refine k_true f rfl al ?_
    refine k_skip ?_
    refine k_seq (k_block (k_seq ?_))
    refine k_draw 10 Follows (by kernel_rfl) m ?_
    refine q_mv 0 10 rfl (by kernel_rfl) f rfl rfl rfl fun a f => q_mv 1 10 rfl (by kernel_rfl) f rfl rfl rfl fun a f => ?_
    obtain ⟨am, an, ai⟩ := bind_some ai
    refine q_at (i := 2) 10 T22 h0 an rfl (by kernel_rfl) rfl f rfl rfl rfl rfl fun ao ap a aq ar f => q_loadAt (i := 3) 10 Pl42 aq rfl (by kernel_rfl) rfl f rfl rfl rfl fun a f => q_mv 4 10 rfl (by kernel_rfl) f rfl rfl rfl fun a f => q_mv 5 10 rfl (by kernel_rfl) f rfl rfl rfl fun a f => ?_
    obtain ⟨au, av, ai⟩ := bind_some ai
    refine q_at (i := 6) 10 T22 h1 av rfl (by kernel_rfl) rfl f rfl rfl rfl rfl fun aw ax a ay az f => q_loadAt (i := 7) 10 Pl42 ay rfl (by kernel_rfl) rfl f rfl rfl rfl fun a f => ?_
    obtain ⟨aA, aB, ai⟩ := bind_some ai
    refine q_call (i := 8) 10 rfl (by kernel_rfl) rfl f rfl rfl rfl Tryz.call24 (fun _ _ w aC m => Wk.laws_eqInt64S m (rd1 aC ar) (rd1 aC az) aB) fun a f => q_p 9 10 rfl (by kernel_rfl) f rfl rfl rfl (fun _ => r_not (f.eval rfl)) fun a f => q_end fun aD w aE m => ?_
    have h0 := rd2 aE h0
    have h1 := rd2 aE h1
    have aq := At.mono aE aq
    have ar := rd1 aE ar
    have ay := At.mono aE ay
    have az := rd1 aE az
    refine l_nil ?_
    rcases cond_some ai with ⟨aF, ai⟩ | ⟨aF, ai⟩
    ·refine k_true f rfl aF ?_
     refine k_seq (k_region ?_)
     refine l_as f rfl rfl fun a f => l_nil ?_
     refine k_ret ?_
     obtain rfl := sj ai
     obtain rfl := aj _ rfl
     obtain rfl := sj hd
     exact ⟨[(.bool false)], ⟨f.get _ _ rfl, trivial⟩, f.defers, _, [], (GLe.trans ak aE), m, rfl, rfl⟩
    ·refine k_false f rfl aF ?_
     refine k_skip ?_
     refine k_region ?_
     refine l_mv f rfl rfl fun a f => l_in f rfl rfl rfl b_add fun a f => l_as f rfl rfl fun a f => l_nil ?_
     obtain rfl := sj ai
     exact ⟨_, rfl, _, rfl, _, (GLe.trans ak aE), f.weak ⟨rfl, rfl, rfl, trivial⟩, m⟩
   ·refine k_false f rfl al ?_
    refine k_exit rfl ?_
    obtain rfl := sj ai
    obtain rfl := aj _ rfl
    exact ⟨_, rfl, _, ak, f.weak trivial, m⟩
  ·rintro a w ⟨_, rfl, ad, aG, f, m⟩
   refine k_seq (k_region ?_)
   refine l_as f rfl rfl fun a f => l_nil ?_
   refine k_ret ?_
   obtain rfl := sj hd
   exact ⟨[(.bool true)], ⟨f.get _ _ rfl, trivial⟩, f.defers, _, [], aG, m, rfl, rfl⟩

theorem Wk.laws_eqDecomp {W w : World} {G : GH} {H : List Itm} {v0_0 : Value} {v0_1 : Value} {v1_0 : Value} {v1_1 : Value} {x0_0 : (List (List Int))} {x0_1 : (List (List Int))} {x1_0 : (List (List Int))} {x1_1 : (List (List Int))} (m : Mem W G w (H)) (h0_0 : RSl (RSl (RI .i64)) G v0_0 x0_0) (h0_1 : RSl (RSl (RI .i64)) G v0_1 x0_1) (h1_0 : RSl (RSl (RI .i64)) G v1_0 x1_0) (h1_1 : RSl (RSl (RI .i64)) G v1_1 x1_1) {y : Bool} (hd : D.laws_eqDecomp x0_0 x0_1 x1_0 x1_1 = some y) :
  Calls Tryz.prog 12 #[(.agg #[v0_0, v0_1]), (.agg #[v1_0, v1_1])] w (Res W G H (fun _ Ho v => Ho = [] ∧ v = (.bool y))) := by
 refine calls_b (args := [(.agg #[v0_0, v0_1]), (.agg #[v1_0, v1_1])]) (N := 17) [.tmp 4] Tryz.func12 rfl rfl (Nat.le_of_ble_eq_true rfl) rfl fun a f => ?_
 unfold D.laws_eqDecomp at hd
 refine k_seq (k_region ?_)
 refine l_box (cs := [v0_0, v0_1]) m f rfl rfl rfl fun aa w a m f => l_box (cs := [v1_0, v1_1]) m f rfl rfl rfl fun ab w a m f => l_as f rfl rfl fun a f => l_nil (k_seq (k_seq (k_region ?_)))
 refine l_fieldAddr Tryz.underlying27 rfl Tryz.sizeOf22 (by decide) f rfl rfl fun a f => l_boxCell 1 0 m Pl22 f rfl rfl rfl rfl fun a f => l_fieldAddr Tryz.underlying27 rfl Tryz.sizeOf22 (by decide) f rfl rfl fun a f => l_boxCell 0 0 m Pl22 f rfl rfl rfl rfl fun a f => ?_
 obtain ⟨ac, ad, hd⟩ := bind_some hd
 refine l_res f rfl rfl Tryz.call60 (Wk.laws_eqInt64SS m h0_0 h1_0 ad) fun ae af ag w ah m ai a f => ?_
 obtain ⟨rfl, rfl⟩ := ai
 have h0_0 := rd2 ah h0_0
 have h0_1 := rd2 ah h0_1
 have h1_0 := rd2 ah h1_0
 have h1_1 := rd2 ah h1_1
 refine l_op f rfl rfl rfl (r_not (f.eval rfl)) fun a f => l_nil ?_
 rcases cond_some hd with ⟨aj, hd⟩ | ⟨aj, hd⟩
 ·refine k_true f rfl aj ?_
  refine k_seq (k_region ?_)
  refine l_as f rfl rfl fun a f => l_nil ?_
  refine k_ret ?_
  have m : Mem W af w H := Mem.drop (H' := [Itm.box ab 27 [v1_0, v1_1], Itm.box aa 27 [v0_0, v0_1]]) m
  obtain rfl := sj hd
  exact ⟨[(.bool false)], ⟨f.get _ _ rfl, trivial⟩, f.defers, _, [], ah, m, rfl, rfl⟩
 ·refine k_false f rfl aj ?_
  refine k_skip ?_
  refine k_seq (k_seq (k_region ?_))
  refine l_fieldAddr Tryz.underlying27 rfl Tryz.sizeOf22 (by decide) f rfl rfl fun a f => l_boxCell 1 1 m Pl22 f rfl rfl rfl rfl fun a f => l_fieldAddr Tryz.underlying27 rfl Tryz.sizeOf22 (by decide) f rfl rfl fun a f => l_boxCell 0 1 m Pl22 f rfl rfl rfl rfl fun a f => ?_
  obtain ⟨ak, al, hd⟩ := bind_some hd
  refine l_res f rfl rfl Tryz.call60 (Wk.laws_eqInt64SS m h0_1 h1_1 al) fun am an ao w ap m aq a f => ?_
  obtain ⟨rfl, rfl⟩ := aq
  have h0_0 := rd2 ap h0_0
  have h0_1 := rd2 ap h0_1
  have h1_0 := rd2 ap h1_0
  have h1_1 := rd2 ap h1_1
  refine l_op f rfl rfl rfl (r_not (f.eval rfl)) fun a f => l_nil ?_
  rcases cond_some hd with ⟨ar, hd⟩ | ⟨ar, hd⟩
  ·refine k_true f rfl ar ?_
   refine k_seq (k_region ?_)
   refine l_as f rfl rfl fun a f => l_nil ?_
   refine k_ret ?_
   have m : Mem W an w H := Mem.drop (H' := [Itm.box ab 27 [v1_0, v1_1], Itm.box aa 27 [v0_0, v0_1]]) m
   obtain rfl := sj hd
   exact ⟨[(.bool false)], ⟨f.get _ _ rfl, trivial⟩, f.defers, _, [], (GLe.trans ah ap), m, rfl, rfl⟩
  ·refine k_false f rfl ar ?_
   refine k_skip ?_
   refine k_seq (k_region ?_)
   refine l_as f rfl rfl fun a f => l_nil ?_
   refine k_ret ?_
   have m : Mem W an w H := Mem.drop (H' := [Itm.box ab 27 [v1_0, v1_1], Itm.box aa 27 [v0_0, v0_1]]) m
   obtain rfl := sj hd
   exact ⟨[(.bool true)], ⟨f.get _ _ rfl, trivial⟩, f.defers, _, [], (GLe.trans ah ap), m, rfl, rfl⟩


end Go.Proofs.YtebbefpdncgoiaaGreatDoor

set_option maxRecDepth 100000
namespace Go.Proofs.YtebbefpdncgoiaaGreatDoor
open Go Go.Sx
theorem Ag37 : Agg Tryz.prog 37 2 := ⟨Tryz.isAgg37, Tryz.sizeOf37⟩
theorem Ag24 : Agg Tryz.prog 24 1 := ⟨Tryz.isAgg24, Tryz.sizeOf24⟩

theorem Wk.laws_eqGraph {W w : World} {G : GH} {H : List Itm} {v0_0 : Value} {v1_0 : Value} {x0_0 : (List (List Int))} {x1_0 : (List (List Int))} (m : Mem W G w (H)) (h0_0 : RSl (RSl (RI .i64)) G v0_0 x0_0) (h1_0 : RSl (RSl (RI .i64)) G v1_0 x1_0) {y : Bool} (hd : D.laws_eqGraph x0_0 x1_0 = some y) :
  Calls Tryz.prog 13 #[(.agg #[v0_0]), (.agg #[v1_0])] w (Res W G H (fun _ Ho v => Ho = [] ∧ v = (.bool y))) := by
 refine calls_b (args := [(.agg #[v0_0]), (.agg #[v1_0])]) (N := 11) [.tmp 4] Tryz.func13 rfl rfl (Nat.le_of_ble_eq_true rfl) rfl fun a f => ?_
 unfold D.laws_eqGraph at hd
 refine k_seq (k_region ?_)
 refine l_box (cs := [v0_0]) m f rfl rfl rfl fun aa w a m f => l_box (cs := [v1_0]) m f rfl rfl rfl fun ab w a m f => l_as f rfl rfl fun a f => l_nil (k_seq (k_seq (k_region ?_)))
 refine l_fieldAddr Tryz.underlying30 rfl Tryz.sizeOf22 (by decide) f rfl rfl fun a f => l_boxCell 1 0 m Pl22 f rfl rfl rfl rfl fun a f => l_fieldAddr Tryz.underlying30 rfl Tryz.sizeOf22 (by decide) f rfl rfl fun a f => l_boxCell 0 0 m Pl22 f rfl rfl rfl rfl fun a f => ?_
 obtain ⟨ac, ad, hd⟩ := bind_some hd
 refine l_res f rfl rfl Tryz.call60 (Wk.laws_eqInt64SS m h0_0 h1_0 ad) fun ae af ag w ah m ai a f => ?_
 obtain ⟨rfl, rfl⟩ := ai
 have h0_0 := rd2 ah h0_0
 have h1_0 := rd2 ah h1_0
 refine l_op f rfl rfl rfl (r_not (f.eval rfl)) fun a f => l_nil ?_
 rcases cond_some hd with ⟨aj, hd⟩ | ⟨aj, hd⟩
 ·refine k_true f rfl aj ?_
  refine k_seq (k_region ?_)
  refine l_as f rfl rfl fun a f => l_nil ?_
  refine k_ret ?_
  have m : Mem W af w H := Mem.drop (H' := [Itm.box ab 30 [v1_0], Itm.box aa 30 [v0_0]]) m
  obtain rfl := sj hd
  exact ⟨[(.bool false)], ⟨f.get _ _ rfl, trivial⟩, f.defers, _, [], ah, m, rfl, rfl⟩
 ·refine k_false f rfl aj ?_
  refine k_skip ?_
  refine k_seq (k_region ?_)
  refine l_as f rfl rfl fun a f => l_nil ?_
  refine k_ret ?_
  have m : Mem W af w H := Mem.drop (H' := [Itm.box ab 30 [v1_0], Itm.box aa 30 [v0_0]]) m
  obtain rfl := sj hd
  exact ⟨[(.bool true)], ⟨f.get _ _ rfl, trivial⟩, f.defers, _, [], ah, m, rfl, rfl⟩

theorem Wk.laws_markInt64S {W w : World} {G : GH} {H : List Itm} {v0 : Value} {it0 : Itm} {x0 : (List Int)} {x1 : Int} (m : Mem W G w (it0 :: H)) (o0 : Ow (RI .i64) 2 G it0 v0 x0) {y : Int × ((List Int))} (hd : D.laws_markInt64S x0 x1 = some y) :
  Calls Tryz.prog 25 #[v0, (.int .i64 x1)] w (Res W G H (fun G' Ho v => ∃ i0 : Itm, Ho = [i0] ∧ v = (.int .i64 y.1) ∧ Ow (RI .i64) 2 G' i0 v0 y.2)) := by
 refine calls_b (args := [v0, (.int .i64 x1)]) (N := 19) [.tmp 4] Tryz.func25 rfl rfl (Nat.le_of_ble_eq_true rfl) rfl fun a f => ?_
 unfold D.laws_markInt64S at hd
 refine k_seq (k_region ?_)
 refine l_as f rfl rfl fun a f => l_nil (k_seq (k_seq (k_region ?_)))
 refine l_as f rfl rfl fun a f => l_nil ?_
 obtain ⟨aa, ab, hd⟩ := bind_some hd
 refine k_cut (fun a w => ∃ ac : List Int, ∃ ad : Int, (ac, ad) = aa ∧ ∃ (ae : GH) (af : Itm), GLe G ae ∧ Fr a 19 [(1, (.int .i64 ad))] ∧ Mem W ae w (af :: H) ∧ Ow (RI .i64) 2 ae af v0 ac) ?_ ?_
 ·refine k_block ?_
  refine k_loop (fun ag a w => ∃ ah : List Int, ∃ ai : Int, ∃ aj : Int, (ah, ai, aj) = ag ∧ ∃ (ak : GH) (al : Itm), GLe G ak ∧ Fr a 19 [(0, v0), (1, (.int .i64 ai)), (5, (.int .i64 aj))] ∧ Mem W ak w (al :: H) ∧ Ow (RI .i64) 2 ak al v0 ah) ab ⟨_, _, _, rfl, _, it0, (GLe.refl _), f.weak ⟨rfl, rfl, rfl, trivial⟩, m, o0⟩ ?_
  clear ab f m
  rintro ag am an ao a w ⟨ah, ai, aj, rfl, ak, al, ap, f, m, aq⟩
  refine k_seq (k_seq (k_region ?_))
  refine l_mv f rfl rfl fun a f => l_mv f rfl rfl fun a f => l_own_len 0 m aq rfl Tryz.underlying42 f rfl rfl fun a f => l_in f rfl rfl rfl b_lss fun a f => l_nil ?_
  rcases cond_some an with ⟨ar, an⟩ | ⟨ar, an⟩
  ·refine k_true f rfl ar ?_
   refine k_skip ?_
   refine k_seq (k_block (k_seq (k_region ?_)))
   refine l_mv f rfl rfl fun a f => l_mv f rfl rfl fun a f => l_mv f rfl rfl fun a f => ?_
   obtain ⟨au, av, an⟩ := bind_some an
   refine l_own_at 0 m aq rfl T42 f rfl rfl rfl av fun aw a ax f => l_own_store 0 m aq rfl Tryz.sizeOf2 f rfl rfl ax av rfl rfl rfl fun ay w m az => l_nil (k_region ?_)
   refine l_mv f rfl rfl fun a f => l_in f rfl rfl rfl b_add fun a f => l_as f rfl rfl fun a f => l_nil (k_region ?_)
   refine l_mv f rfl rfl fun a f => l_in f rfl rfl rfl b_add fun a f => l_as f rfl rfl fun a f => l_nil ?_
   obtain rfl := sj an
   exact ⟨_, rfl, _, _, _, rfl, _, ay, ap, f.weak ⟨rfl, rfl, rfl, trivial⟩, m, az⟩
  ·refine k_false f rfl ar ?_
   refine k_exit rfl ?_
   obtain rfl := sj an
   obtain rfl := ao _ rfl
   exact ⟨_, _, rfl, _, al, ap, f.weak ⟨rfl, trivial⟩, m, aq⟩
 ·rintro a w ⟨ac, ad, rfl, ae, af, aA, f, m, aB⟩
  refine k_seq (k_region ?_)
  refine l_mv f rfl rfl fun a f => l_as f rfl rfl fun a f => l_nil ?_
  refine k_ret ?_
  obtain rfl := sj hd
  exact ⟨[(.int .i64 ad)], ⟨f.get _ _ rfl, trivial⟩, f.defers, _, [af], aA, m, _, rfl, rfl, aB⟩

theorem Wk.laws_markInt64SS {W w : World} {G : GH} {H : List Itm} {v0 : Value} {it0 : Itm} {x0 : (List (List Int))} {x1 : Int} (m : Mem W G w (it0 :: H)) (o0 : Ow2 (RI .i64) 42 2 G it0 v0 x0) {y : Int × ((List (List Int)))} (hd : D.laws_markInt64SS x0 x1 = some y) :
  Calls Tryz.prog 61 #[v0, (.int .i64 x1)] w (Res W G H (fun G' Ho v => ∃ i0 : Itm, Ho = [i0] ∧ v = (.int .i64 y.1) ∧ Ow2 (RI .i64) 42 2 G' i0 v0 y.2)) := by
 refine calls_b (args := [v0, (.int .i64 x1)]) (N := 19) [.tmp 4] Tryz.func61 rfl rfl (Nat.le_of_ble_eq_true rfl) rfl fun a f => ?_
 unfold D.laws_markInt64SS at hd
 refine k_seq (k_region ?_)
 refine l_as f rfl rfl fun a f => l_nil (k_seq (k_seq (k_region ?_)))
 refine l_as f rfl rfl fun a f => l_nil ?_
 obtain ⟨aa, ab, hd⟩ := bind_some hd
 refine k_cut (fun a w => ∃ ac : List (List Int), ∃ ad : Int, (ac, ad) = aa ∧ ∃ (ae : GH) (af : Itm), GLe G ae ∧ Fr a 19 [(1, (.int .i64 ad))] ∧ Mem W ae w (af :: H) ∧ Ow2 (RI .i64) 42 2 ae af v0 ac) ?_ ?_
 ·refine k_block ?_
  refine k_loop (fun ag a w => ∃ ah : List (List Int), ∃ ai : Int, ∃ aj : Int, (ah, ai, aj) = ag ∧ ∃ (ak : GH) (al : Itm), GLe G ak ∧ Fr a 19 [(0, v0), (1, (.int .i64 ai)), (5, (.int .i64 aj))] ∧ Mem W ak w (al :: H) ∧ Ow2 (RI .i64) 42 2 ak al v0 ah) ab ⟨_, _, _, rfl, _, it0, (GLe.refl _), f.weak ⟨rfl, rfl, rfl, trivial⟩, m, o0⟩ ?_
  clear ab f m
  rintro ag am an ao a w ⟨ah, ai, aj, rfl, ak, al, ap, f, m, aq⟩
  refine k_seq (k_seq (k_region ?_))
  refine l_mv f rfl rfl fun a f => l_mv f rfl rfl fun a f => l_own2_len 0 m aq rfl Tryz.underlying22 f rfl rfl fun a f => l_in f rfl rfl rfl b_lss fun a f => l_nil ?_
  rcases cond_some an with ⟨ar, an⟩ | ⟨ar, an⟩
  ·refine k_true f rfl ar ?_
   refine k_skip ?_
   refine k_seq (k_block (k_region ?_))
   refine l_mv f rfl rfl fun a f => l_mv f rfl rfl fun a f => ?_
   obtain ⟨au, av, an⟩ := bind_some an
   refine l_own2_at 0 m aq rfl T22 f rfl rfl rfl av fun aw a ax f => l_own2_load 0 m aq rfl Pl42 f rfl rfl ax av fun ay a az f => l_mv f rfl rfl fun a f => ?_
   obtain ⟨aA, aB, an⟩ := bind_some an
   refine l_res f rfl rfl Tryz.call25 (Ow2.callAt aq (RI.mono _) m av az (fun inn Hs m oi => Wk.laws_markInt64S m oi aB)) fun aC aD aE w aF m aG a f => ?_
   obtain ⟨aH, rfl, rfl, aI⟩ := aG
   refine l_as f rfl rfl fun a f => l_nil (k_region ?_)
   refine l_mv f rfl rfl fun a f => l_in f rfl rfl rfl b_add fun a f => l_as f rfl rfl fun a f => l_nil ?_
   obtain rfl := sj an
   exact ⟨_, rfl, _, _, _, rfl, _, aH, (GLe.trans ap aF), f.weak ⟨rfl, rfl, rfl, trivial⟩, m, aI⟩
  ·refine k_false f rfl ar ?_
   refine k_exit rfl ?_
   obtain rfl := sj an
   obtain rfl := ao _ rfl
   exact ⟨_, _, rfl, _, al, ap, f.weak ⟨rfl, trivial⟩, m, aq⟩
 ·rintro a w ⟨ac, ad, rfl, ae, af, aJ, f, m, aK⟩
  refine k_seq (k_region ?_)
  refine l_mv f rfl rfl fun a f => l_as f rfl rfl fun a f => l_nil ?_
  refine k_ret ?_
  obtain rfl := sj hd
  exact ⟨[(.int .i64 ad)], ⟨f.get _ _ rfl, trivial⟩, f.defers, _, [af], aJ, m, _, rfl, rfl, aK⟩

theorem Wk.laws_markGraph {W w : World} {G : GH} {H : List Itm} {v0_0 : Value} {it0_0 : Itm} {x0_0 : (List (List Int))} {x1 : Int} (m : Mem W G w (it0_0 :: H)) (o0_0 : Ow2 (RI .i64) 42 2 G it0_0 v0_0 x0_0) {y : Int × ((List (List Int)))} (hd : D.laws_markGraph x0_0 x1 = some y) :
  Calls Tryz.prog 14 #[(.agg #[v0_0]), (.int .i64 x1)] w (Res W G H (fun G' Ho v => ∃ i0 : Itm, Ho = [i0] ∧ v = (.int .i64 y.1) ∧ Ow2 (RI .i64) 42 2 G' i0 v0_0 y.2)) := by
 refine calls_b (args := [(.agg #[v0_0]), (.int .i64 x1)]) (N := 10) [.tmp 4] Tryz.func14 rfl rfl (Nat.le_of_ble_eq_true rfl) rfl fun a f => ?_
 unfold D.laws_markGraph at hd
 refine k_seq (k_region ?_)
 refine l_box (cs := [v0_0]) m f rfl rfl rfl fun aa w a m f => l_as f rfl rfl fun a f => l_nil (k_seq (k_region ?_))
 refine l_fieldAddr Tryz.underlying30 rfl Tryz.sizeOf22 (by decide) f rfl rfl fun a f => l_boxCell 0 0 m Pl22 f rfl rfl rfl rfl fun a f => l_mv f rfl rfl fun a f => ?_
 have m := m.front 1 rfl
 obtain ⟨ab, ac, hd⟩ := bind_some hd
 refine l_res f rfl rfl Tryz.call61 (Wk.laws_markInt64SS m o0_0 ac) fun ad ae af w ag m ah a f => ?_
 obtain ⟨ai, rfl, rfl, aj⟩ := ah
 refine l_as f rfl rfl fun a f => l_nil (k_seq (k_region ?_))
 refine l_mv f rfl rfl fun a f => l_as f rfl rfl fun a f => l_nil ?_
 refine k_ret ?_
 have m := m.eraseAt 1
 obtain rfl := sj hd
 exact ⟨[(.int .i64 ab.1)], ⟨f.get _ _ rfl, trivial⟩, f.defers, _, [ai], ag, m, _, rfl, rfl, aj⟩

theorem Wk.laws_markDecomp {W w : World} {G : GH} {H : List Itm} {v0_0 : Value} {it0_0 : Itm} {v0_1 : Value} {it0_1 : Itm} {x0_0 : (List (List Int))} {x0_1 : (List (List Int))} {x1 : Int} (m : Mem W G w (it0_0 :: it0_1 :: H)) (o0_0 : Ow2 (RI .i64) 42 2 G it0_0 v0_0 x0_0) (o0_1 : Ow2 (RI .i64) 42 2 G it0_1 v0_1 x0_1) {y : Int × ((List (List Int))) × ((List (List Int)))} (hd : D.laws_markDecomp x0_0 x0_1 x1 = some y) :
  Calls Tryz.prog 15 #[(.agg #[v0_0, v0_1]), (.int .i64 x1)] w (Res W G H (fun G' Ho v => ∃ i0 : Itm, ∃ i1 : Itm, Ho = [i0, i1] ∧ v = (.int .i64 y.1) ∧ Ow2 (RI .i64) 42 2 G' i0 v0_0 y.2.1 ∧ Ow2 (RI .i64) 42 2 G' i1 v0_1 y.2.2)) := by
 refine calls_b (args := [(.agg #[v0_0, v0_1]), (.int .i64 x1)]) (N := 14) [.tmp 4] Tryz.func15 rfl rfl (Nat.le_of_ble_eq_true rfl) rfl fun a f => ?_
 unfold D.laws_markDecomp at hd
 refine k_seq (k_region ?_)
 refine l_box (cs := [v0_0, v0_1]) m f rfl rfl rfl fun aa w a m f => l_as f rfl rfl fun a f => l_nil (k_seq (k_region ?_))
 refine l_fieldAddr Tryz.underlying27 rfl Tryz.sizeOf22 (by decide) f rfl rfl fun a f => l_boxCell 0 0 m Pl22 f rfl rfl rfl rfl fun a f => l_mv f rfl rfl fun a f => ?_
 have m := m.front 1 rfl
 obtain ⟨ab, ac, hd⟩ := bind_some hd
 refine l_res f rfl rfl Tryz.call61 (Wk.laws_markInt64SS m o0_0 ac) fun ad ae af w ag m ah a f => ?_
 obtain ⟨ai, rfl, rfl, aj⟩ := ah
 have o0_1 := Ow2.mono (RI.mono _) ag o0_1
 refine l_as f rfl rfl fun a f => l_nil (k_seq (k_region ?_))
 refine l_fieldAddr Tryz.underlying27 rfl Tryz.sizeOf22 (by decide) f rfl rfl fun a f => l_boxCell 1 1 m Pl22 f rfl rfl rfl rfl fun a f => l_mv f rfl rfl fun a f => ?_
 have m := m.front 2 rfl
 obtain ⟨ak, al, hd⟩ := bind_some hd
 refine l_res f rfl rfl Tryz.call61 (Wk.laws_markInt64SS m o0_1 al) fun am an ao w ap m aq a f => ?_
 obtain ⟨ar, rfl, rfl, au⟩ := aq
 have aj := Ow2.mono (RI.mono _) ap aj
 refine l_as f rfl rfl fun a f => l_nil (k_seq (k_region ?_))
 refine l_mv f rfl rfl fun a f => l_as f rfl rfl fun a f => l_nil ?_
 refine k_ret ?_
 have m := m.front 1 rfl
 have m := m.eraseAt 2
 obtain rfl := sj hd
 exact ⟨[(.int .i64 ak.1)], ⟨f.get _ _ rfl, trivial⟩, f.defers, _, [ai, ar], (GLe.trans ag ap), m, _, _, rfl, rfl, aj, au⟩

theorem Wk.laws_heldInt64S {W w : World} {G : GH} {H : List Itm} {v0 : Value} {x0 : (List Int)} {x1 : Int} (m : Mem W G w (H)) (h0 : RSl (RI .i64) G v0 x0) {y : Int} (hd : D.laws_heldInt64S x0 x1 = some y) :
  Calls Tryz.prog 125 #[v0, (.int .i64 x1)] w (Res W G H (fun _ Ho v => Ho = [] ∧ v = (.int .i64 y))) := by
 refine calls_b (args := [v0, (.int .i64 x1)]) (N := 21) [.tmp 4] Tryz.func125 rfl rfl (Nat.le_of_ble_eq_true rfl) rfl fun a f => ?_
 unfold D.laws_heldInt64S at hd
 refine k_seq (k_region ?_)
 refine l_as f rfl rfl fun a f => l_nil (k_seq (k_seq (k_region ?_)))
 refine l_as f rfl rfl fun a f => l_nil ?_
 obtain ⟨aa, ab, hd⟩ := bind_some hd
 refine k_cut (fun a w => ∃ q_20' : Int, aa = .inl q_20' ∧ ∃ ac : Int, ac = q_20' ∧ ∃ (ad : GH), GLe G ad ∧ Fr a 21 [(1, (.int .i64 ac))] ∧ Mem W ad w (H)) ?_ ?_
 ·refine k_block ?_
  refine k_loop (fun ae a w => ∃ af : Int, ∃ ag : Int, (af, ag) = ae ∧ ∃ (ah : GH), GLe G ah ∧ Fr a 21 [(0, v0), (1, (.int .i64 af)), (5, (.int .i64 ag))] ∧ Mem W ah w (H)) ab ⟨_, _, rfl, _, (GLe.refl _), f.weak ⟨rfl, rfl, rfl, trivial⟩, m⟩ ?_
  clear ab f m
  rintro ae ai aj ak a w ⟨af, ag, rfl, ah, al, f, m⟩
  have h0 := rd1 al h0
  refine k_seq (k_seq (k_region ?_))
  refine l_mv f rfl rfl fun a f => l_mv f rfl rfl fun a f => l_len Tryz.underlying42 f rfl rfl h0 fun a f => l_in f rfl rfl rfl b_lss fun a f => l_nil ?_
  rcases cond_some aj with ⟨am, aj⟩ | ⟨am, aj⟩
  ·refine k_true f rfl am ?_
   refine k_skip ?_
   refine k_seq (k_block (k_seq (k_seq (k_region ?_))))
   refine l_mv f rfl rfl fun a f => l_mv f rfl rfl fun a f => ?_
   obtain ⟨an, ao, aj⟩ := bind_some aj
   refine l_at T42 f rfl rfl rfl h0 ao fun ap aq a ar au f => ?_
   subst au
   refine l_loadAt m Pl2 f rfl rfl ar fun a f => l_mv f rfl rfl fun a f => l_in f rfl rfl rfl b_neq fun a f => l_nil ?_
   rcases cond_some aj with ⟨av, aj⟩ | ⟨av, aj⟩
   ·refine k_true f rfl av ?_
    refine k_seq (k_region ?_)
    refine l_as f rfl rfl fun a f => l_nil ?_
    refine k_ret ?_
    obtain rfl := sj aj
    obtain rfl := ak _ rfl
    obtain rfl := sj hd
    exact ⟨[(.int .i64 (-1))], ⟨f.get _ _ rfl, trivial⟩, f.defers, _, [], al, m, rfl, rfl⟩
   ·refine k_false f rfl av ?_
    refine k_skip ?_
    refine k_region ?_
    refine l_mv f rfl rfl fun a f => l_in f rfl rfl rfl b_add fun a f => l_as f rfl rfl fun a f => l_nil (k_region ?_)
    refine l_mv f rfl rfl fun a f => l_in f rfl rfl rfl b_add fun a f => l_as f rfl rfl fun a f => l_nil ?_
    obtain rfl := sj aj
    exact ⟨_, rfl, _, _, rfl, _, al, f.weak ⟨rfl, rfl, rfl, trivial⟩, m⟩
  ·refine k_false f rfl am ?_
   refine k_exit rfl ?_
   obtain rfl := sj aj
   obtain rfl := ak _ rfl
   exact ⟨_, rfl, _, rfl, _, al, f.weak ⟨rfl, trivial⟩, m⟩
 ·rintro a w ⟨_, rfl, ac, rfl, ad, aw, f, m⟩
  refine k_seq (k_region ?_)
  refine l_mv f rfl rfl fun a f => l_as f rfl rfl fun a f => l_nil ?_
  refine k_ret ?_
  obtain rfl := sj hd
  exact ⟨[(.int .i64 ac)], ⟨f.get _ _ rfl, trivial⟩, f.defers, _, [], aw, m, rfl, rfl⟩

theorem Wk.laws_heldInt64SS {W w : World} {G : GH} {H : List Itm} {v0 : Value} {x0 : (List (List Int))} {x1 : Int} (m : Mem W G w (H)) (h0 : RSl (RSl (RI .i64)) G v0 x0) {y : Int} (hd : D.laws_heldInt64SS x0 x1 = some y) :
  Calls Tryz.prog 62 #[v0, (.int .i64 x1)] w (Res W G H (fun _ Ho v => Ho = [] ∧ v = (.int .i64 y))) := by
 refine calls_b (args := [v0, (.int .i64 x1)]) (N := 21) [.tmp 4] Tryz.func62 rfl rfl (Nat.le_of_ble_eq_true rfl) rfl fun a f => ?_
 unfold D.laws_heldInt64SS at hd
 refine k_seq (k_region ?_)
 refine l_as f rfl rfl fun a f => l_nil (k_seq (k_seq (k_region ?_)))
 refine l_as f rfl rfl fun a f => l_nil ?_
 obtain ⟨aa, ab, hd⟩ := bind_some hd
 refine k_cut (fun a w => ∃ q_34' : Int, aa = .inl q_34' ∧ ∃ ac : Int, ac = q_34' ∧ ∃ (ad : GH), GLe G ad ∧ Fr a 21 [(1, (.int .i64 ac))] ∧ Mem W ad w (H)) ?_ ?_
 ·refine k_block ?_
  refine k_loop (fun ae a w => ∃ af : Int, ∃ ag : Int, (af, ag) = ae ∧ ∃ (ah : GH), GLe G ah ∧ Fr a 21 [(0, v0), (1, (.int .i64 af)), (5, (.int .i64 ag))] ∧ Mem W ah w (H)) ab ⟨_, _, rfl, _, (GLe.refl _), f.weak ⟨rfl, rfl, rfl, trivial⟩, m⟩ ?_
  clear ab f m
  rintro ae ai aj ak a w ⟨af, ag, rfl, ah, al, f, m⟩
  have h0 := rd2 al h0
  refine k_seq (k_seq (k_region ?_))
  refine l_mv f rfl rfl fun a f => l_mv f rfl rfl fun a f => l_len Tryz.underlying22 f rfl rfl h0 fun a f => l_in f rfl rfl rfl b_lss fun a f => l_nil ?_
  rcases cond_some aj with ⟨am, aj⟩ | ⟨am, aj⟩
  ·refine k_true f rfl am ?_
   refine k_skip ?_
   refine k_seq (k_block (k_seq (k_region ?_)))
   refine l_mv f rfl rfl fun a f => l_mv f rfl rfl fun a f => ?_
   obtain ⟨an, ao, aj⟩ := bind_some aj
   refine l_at T22 f rfl rfl rfl h0 ao fun ap aq a ar au f => l_loadAt m Pl42 f rfl rfl ar fun a f => l_mv f rfl rfl fun a f => ?_
   obtain ⟨av, aw, aj⟩ := bind_some aj
   refine l_res f rfl rfl Tryz.call125 (Wk.laws_heldInt64S m au aw) fun ax ay az w aA m aB a f => ?_
   obtain ⟨rfl, rfl⟩ := aB
   have h0 := rd2 aA h0
   have ar := At.mono aA ar
   have au := rd1 aA au
   refine l_as f rfl rfl fun a f => l_nil (k_seq (k_region ?_))
   refine l_mv f rfl rfl fun a f => l_in f rfl rfl rfl b_lss fun a f => l_nil ?_
   rcases cond_some aj with ⟨aC, aj⟩ | ⟨aC, aj⟩
   ·refine k_true f rfl aC ?_
    refine k_seq (k_region ?_)
    refine l_as f rfl rfl fun a f => l_nil ?_
    refine k_ret ?_
    obtain rfl := sj aj
    obtain rfl := ak _ rfl
    obtain rfl := sj hd
    exact ⟨[(.int .i64 (-1))], ⟨f.get _ _ rfl, trivial⟩, f.defers, _, [], (GLe.trans al aA), m, rfl, rfl⟩
   ·refine k_false f rfl aC ?_
    refine k_skip ?_
    refine k_region ?_
    refine l_mv f rfl rfl fun a f => l_in f rfl rfl rfl b_add fun a f => l_as f rfl rfl fun a f => l_nil ?_
    obtain rfl := sj aj
    exact ⟨_, rfl, _, _, rfl, _, (GLe.trans al aA), f.weak ⟨rfl, rfl, rfl, trivial⟩, m⟩
  ·refine k_false f rfl am ?_
   refine k_exit rfl ?_
   obtain rfl := sj aj
   obtain rfl := ak _ rfl
   exact ⟨_, rfl, _, rfl, _, al, f.weak ⟨rfl, trivial⟩, m⟩
 ·rintro a w ⟨_, rfl, ac, rfl, ad, aD, f, m⟩
  refine k_seq (k_region ?_)
  refine l_mv f rfl rfl fun a f => l_as f rfl rfl fun a f => l_nil ?_
  refine k_ret ?_
  obtain rfl := sj hd
  exact ⟨[(.int .i64 ac)], ⟨f.get _ _ rfl, trivial⟩, f.defers, _, [], aD, m, rfl, rfl⟩

theorem Wk.laws_heldDecomp {W w : World} {G : GH} {H : List Itm} {v0_0 : Value} {v0_1 : Value} {x0_0 : (List (List Int))} {x0_1 : (List (List Int))} {x1 : Int} (m : Mem W G w (H)) (h0_0 : RSl (RSl (RI .i64)) G v0_0 x0_0) (h0_1 : RSl (RSl (RI .i64)) G v0_1 x0_1) {y : Int} (hd : D.laws_heldDecomp x0_0 x0_1 x1 = some y) :
  Calls Tryz.prog 16 #[(.agg #[v0_0, v0_1]), (.int .i64 x1)] w (Res W G H (fun _ Ho v => Ho = [] ∧ v = (.int .i64 y))) := by
 refine calls_b (args := [(.agg #[v0_0, v0_1]), (.int .i64 x1)]) (N := 18) [.tmp 4] Tryz.func16 rfl rfl (Nat.le_of_ble_eq_true rfl) rfl fun a f => ?_
 unfold D.laws_heldDecomp at hd
 refine k_seq (k_region ?_)
 refine l_box (cs := [v0_0, v0_1]) m f rfl rfl rfl fun aa w a m f => l_as f rfl rfl fun a f => l_nil (k_seq (k_region ?_))
 refine l_fieldAddr Tryz.underlying27 rfl Tryz.sizeOf22 (by decide) f rfl rfl fun a f => l_boxCell 0 0 m Pl22 f rfl rfl rfl rfl fun a f => l_mv f rfl rfl fun a f => ?_
 obtain ⟨ab, ac, hd⟩ := bind_some hd
 refine l_res f rfl rfl Tryz.call62 (Wk.laws_heldInt64SS m h0_0 ac) fun ad ae af w ag m ah a f => ?_
 obtain ⟨rfl, rfl⟩ := ah
 have h0_0 := rd2 ag h0_0
 have h0_1 := rd2 ag h0_1
 refine l_as f rfl rfl fun a f => l_nil (k_seq (k_seq (k_region ?_)))
 refine l_mv f rfl rfl fun a f => l_in f rfl rfl rfl b_lss fun a f => l_nil ?_
 rcases cond_some hd with ⟨ai, hd⟩ | ⟨ai, hd⟩
 ·refine k_true f rfl ai ?_
  refine k_seq (k_region ?_)
  refine l_as f rfl rfl fun a f => l_nil ?_
  refine k_ret ?_
  have m : Mem W ae w H := Mem.drop (H' := [Itm.box aa 27 [v0_0, v0_1]]) m
  obtain rfl := sj hd
  exact ⟨[(.int .i64 (-1))], ⟨f.get _ _ rfl, trivial⟩, f.defers, _, [], ag, m, rfl, rfl⟩
 ·refine k_false f rfl ai ?_
  refine k_skip ?_
  refine k_seq (k_region ?_)
  refine l_fieldAddr Tryz.underlying27 rfl Tryz.sizeOf22 (by decide) f rfl rfl fun a f => l_boxCell 0 1 m Pl22 f rfl rfl rfl rfl fun a f => l_mv f rfl rfl fun a f => ?_
  obtain ⟨aj, ak, hd⟩ := bind_some hd
  refine l_res f rfl rfl Tryz.call62 (Wk.laws_heldInt64SS m h0_1 ak) fun al am an w ao m ap a f => ?_
  obtain ⟨rfl, rfl⟩ := ap
  have h0_0 := rd2 ao h0_0
  have h0_1 := rd2 ao h0_1
  refine l_as f rfl rfl fun a f => l_nil (k_seq (k_seq (k_region ?_)))
  refine l_mv f rfl rfl fun a f => l_in f rfl rfl rfl b_lss fun a f => l_nil ?_
  rcases cond_some hd with ⟨aq, hd⟩ | ⟨aq, hd⟩
  ·refine k_true f rfl aq ?_
   refine k_seq (k_region ?_)
   refine l_as f rfl rfl fun a f => l_nil ?_
   refine k_ret ?_
   have m : Mem W am w H := Mem.drop (H' := [Itm.box aa 27 [v0_0, v0_1]]) m
   obtain rfl := sj hd
   exact ⟨[(.int .i64 (-1))], ⟨f.get _ _ rfl, trivial⟩, f.defers, _, [], (GLe.trans ag ao), m, rfl, rfl⟩
  ·refine k_false f rfl aq ?_
   refine k_skip ?_
   refine k_seq (k_region ?_)
   refine l_mv f rfl rfl fun a f => l_as f rfl rfl fun a f => l_nil ?_
   refine k_ret ?_
   have m : Mem W am w H := Mem.drop (H' := [Itm.box aa 27 [v0_0, v0_1]]) m
   obtain rfl := sj hd
   exact ⟨[(.int .i64 aj)], ⟨f.get _ _ rfl, trivial⟩, f.defers, _, [], (GLe.trans ag ao), m, rfl, rfl⟩

set_option maxHeartbeats 1000000 in
theorem Wk.laws_FnExactTidiedDecomp {W w : World} {G : GH} {H : List Itm} {v0_0 : Value} {v1_0 : Value} {v1_1 : Value} {x0_0 : (List (List Int))} {x1_0 : (List (List Int))} {x1_1 : (List (List Int))} (hW : TabW W) (m : Mem W G w (H)) (h0_0 : RSl (RSl (RI .i64)) G v0_0 x0_0) (h1_0 : RSl (RSl (RI .i64)) G v1_0 x1_0) (h1_1 : RSl (RSl (RI .i64)) G v1_1 x1_1) {y : Bool} (hd : D.laws_FnExactTidiedDecomp x0_0 x1_0 x1_1 = some y) :
  Calls Tryz.prog 4 #[(.agg #[v0_0]), (.agg #[v1_0, v1_1])] w (Res W G H (fun _ Ho v => Ho = [] ∧ v = (.bool y))) := by
 refine calls_b (args := [(.agg #[v0_0]), (.agg #[v1_0, v1_1])]) (N := 119) [.tmp 4] Tryz.func4 rfl rfl (Nat.le_of_ble_eq_true rfl) rfl fun a f => ?_
 unfold D.laws_FnExactTidiedDecomp at hd
 refine k_seq (k_region ?_)
 refine l_box (cs := [v0_0]) m f rfl rfl rfl fun aa w a m f => l_box (cs := [v1_0, v1_1]) m f rfl rfl rfl fun ab w a m f => l_as f rfl rfl fun a f => l_nil (k_seq (k_region ?_))
 refine l_as f rfl rfl fun a f => l_nil (k_seq (k_region ?_))
 refine l_boxAgg 1 0 (ds := [v0_0]) m Ag24 f rfl rfl rfl rfl rfl fun a f => l_mv f rfl rfl fun a f => ?_
 obtain ⟨ac, ad, hd⟩ := bind_some hd
 refine l_res f rfl rfl Tryz.call8 (Wk.laws_szGraph m h0_0 ad) fun ae af ag w ah m ai a f => ?_
 obtain ⟨rfl, rfl⟩ := ai
 have h0_0 := rd2 ah h0_0
 have h1_0 := rd2 ah h1_0
 have h1_1 := rd2 ah h1_1
 refine l_as f rfl rfl fun a f => l_nil (k_seq (k_seq (k_region ?_)))
 refine l_mv f rfl rfl fun a f => l_in f rfl rfl rfl b_lss fun a f => l_nil ?_
 rcases cond_some hd with ⟨aj, hd⟩ | ⟨aj, hd⟩
 ·refine k_true f rfl aj ?_
  refine k_seq (k_region ?_)
  refine l_as f rfl rfl fun a f => l_nil ?_
  refine k_ret ?_
  have m : Mem W af w H := Mem.drop (H' := [Itm.box ab 37 [v1_0, v1_1], Itm.box aa 24 [v0_0]]) m
  obtain rfl := sj hd
  exact ⟨[(.bool true)], ⟨f.get _ _ rfl, trivial⟩, f.defers, _, [], ah, m, rfl, rfl⟩
 ·refine k_false f rfl aj ?_
  refine k_skip ?_
  refine k_seq (k_region ?_)
  refine l_boxAgg 0 0 (ds := [v1_0, v1_1]) m Ag37 f rfl rfl rfl rfl rfl fun a f => l_mv f rfl rfl fun a f => ?_
  obtain ⟨ak, al, hd⟩ := bind_some hd
  refine l_res f rfl rfl Tryz.call17 (Wk.laws_szDecomp m h1_0 h1_1 al) fun am an ao w ap m aq a f => ?_
  obtain ⟨rfl, rfl⟩ := aq
  have h0_0 := rd2 ap h0_0
  have h1_0 := rd2 ap h1_0
  have h1_1 := rd2 ap h1_1
  refine l_as f rfl rfl fun a f => l_nil (k_seq (k_seq (k_region ?_)))
  refine l_mv f rfl rfl fun a f => l_in f rfl rfl rfl b_lss fun a f => l_nil ?_
  rcases cond_some hd with ⟨ar, hd⟩ | ⟨ar, hd⟩
  ·refine k_true f rfl ar ?_
   refine k_seq (k_region ?_)
   refine l_as f rfl rfl fun a f => l_nil ?_
   refine k_ret ?_
   have m : Mem W an w H := Mem.drop (H' := [Itm.box ab 37 [v1_0, v1_1], Itm.box aa 24 [v0_0]]) m
   obtain rfl := sj hd
   exact ⟨[(.bool true)], ⟨f.get _ _ rfl, trivial⟩, f.defers, _, [], (GLe.trans ah ap), m, rfl, rfl⟩
  ·refine k_false f rfl ar ?_
   refine k_skip ?_
   refine k_seq ?_
   obtain ⟨au, av, hd⟩ := bind_some hd
   refine k_cut (fun a w => ∃ aw : List (List Int), ∃ ax : List (List Int), ∃ ay : Bool, (aw, ax, ay) = au ∧ ∃ (az : GH) (aA : Nat) (aB : Value) (aC : Itm) (aD : Value) (aE : Itm), GLe an az ∧ Fr a 119 [(2, (.pointer (some ⟨aa, 0, none⟩))), (3, (.pointer (some ⟨ab, 0, none⟩))), (6, (.pointer (some ⟨aA, 0, none⟩))), (7, (.bool ay))] ∧ Mem W az w (Itm.box aa 24 [v0_0] :: Itm.box ab 37 [v1_0, v1_1] :: Itm.box aA 27 [aB, aD] :: aC :: aE :: H) ∧ Ow (RSl (RI .i64)) 42 az aC aB aw ∧ Ow (RSl (RI .i64)) 42 az aE aD ax) ?_ ?_
   ·refine k_draw 10 Follows (by kernel_rfl) m ?_
    refine q_boxAgg (i := 0) (ds := [v0_0]) 10 1 Ag24 rfl rfl rfl rfl (by kernel_rfl) rfl f rfl rfl rfl fun a f => q_boxAgg (i := 2) (ds := [v1_0, v1_1]) 10 0 Ag37 rfl rfl rfl rfl (by kernel_rfl) rfl f rfl rfl rfl fun a f => q_two (i := 1) (j := 8) (l1 := #[true, true, true, false, false, false, false, false, false, false, false]) (l2 := #[true, false, true, false, false, false, false, false, true, false, false]) rfl rfl (by kernel_rfl) rfl rfl ?_ ?_
    ·intro aF w aG m aH aH
     have h0_0 := rd2 aG h0_0
     have h1_0 := rd2 aG h1_0
     have h1_1 := rd2 aG h1_1
     obtain ⟨aI, aJ, av⟩ := bind_some av
     refine l_res f rfl rfl Tryz.call10 (Wk.laws_toGraph m h0_0 aJ) fun aK aL aM w aN m aO a f => ?_
     obtain ⟨aP, aQ, rfl, rfl, aR⟩ := aO
     have h0_0 := rd2 aN h0_0
     have h1_0 := rd2 aN h1_0
     have h1_1 := rd2 aN h1_1
     refine l_nil ?_
     refine aH aL [aQ] _ _ aN m ?_
     refine q_two (i := 3) (j := 8) (l1 := #[true, true, true, true, false, false, false, false, false, false, false]) (l2 := #[true, true, true, false, false, false, false, false, true, false, false]) rfl rfl (by kernel_rfl) rfl rfl ?_ ?_
     ·intro aS w aT m aU aU
      have h0_0 := rd2 aT h0_0
      have h1_0 := rd2 aT h1_0
      have h1_1 := rd2 aT h1_1
      have aR := Ow2.mono (RI.mono _) aT aR
      obtain ⟨aV, aW, av⟩ := bind_some av
      refine l_res f rfl rfl Tryz.call19 (Wk.laws_toDecomp m h1_0 h1_1 aW) fun aX aY aZ w a4 m a5 a f => ?_
      obtain ⟨a6, a7, a8, a9, rfl, rfl, ba, bb⟩ := a5
      have h0_0 := rd2 a4 h0_0
      have h1_0 := rd2 a4 h1_0
      have h1_1 := rd2 a4 h1_1
      have aR := Ow2.mono (RI.mono _) a4 aR
      refine l_nil ?_
      refine aU aY [a7, a9, aQ] _ _ a4 m ?_
      refine q_two (i := 4) (j := 8) (l1 := #[true, true, true, true, true, false, false, false, false, false, false]) (l2 := #[true, true, true, true, false, false, false, false, true, false, false]) rfl rfl (by kernel_rfl) rfl rfl ?_ ?_
      ·intro bc w bd m be be
       have h0_0 := rd2 bd h0_0
       have h1_0 := rd2 bd h1_0
       have h1_1 := rd2 bd h1_1
       have ba := Ow2.mono (RI.mono _) bd ba
       have bb := Ow2.mono (RI.mono _) bd bb
       have aR := Ow2.mono (RI.mono _) bd aR
       have m : Mem W bc w (aQ :: a7 :: a9 :: Itm.box ab 37 [v1_0, v1_1] :: Itm.box aa 24 [v0_0] :: H) := m.front 2 rfl
       obtain ⟨bf, bg, m, bh⟩ := Ow2.stamp (RI.mono _) aR m
       have h0_0 := rd2 bg h0_0
       have h1_0 := rd2 bg h1_0
       have h1_1 := rd2 bg h1_1
       have ba := Ow2.mono (RI.mono _) bg ba
       have bb := Ow2.mono (RI.mono _) bg bb
       obtain ⟨bi, bj, m, bk⟩ := Ow2.stamp (RI.mono _) ba m
       have h0_0 := rd2 bj h0_0
       have h1_0 := rd2 bj h1_0
       have h1_1 := rd2 bj h1_1
       have bh := rd2 bj bh
       have bb := Ow2.mono (RI.mono _) bj bb
       obtain ⟨bl, bm, m, bn⟩ := Ow2.stamp (RI.mono _) bb m
       have h0_0 := rd2 bm h0_0
       have h1_0 := rd2 bm h1_0
       have h1_1 := rd2 bm h1_1
       have bh := rd2 bm bh
       have bk := rd2 bm bk
       obtain ⟨bo, bp, av⟩ := bind_some av
       refine l_res f rfl rfl Tryz.call18 (Wk.spec_TidiedDecomp m bh bk bn bp) fun bq br bs w bt m bu a f => ?_
       obtain ⟨bv, bw, bx, bz, rfl, rfl, bA, bB⟩ := bu
       have h0_0 := rd2 bt h0_0
       have h1_0 := rd2 bt h1_0
       have h1_1 := rd2 bt h1_1
       have bh := rd2 bt bh
       have bk := rd2 bt bk
       have bn := rd2 bt bn
       refine l_nil ?_
       refine be br [bw, bz] _ _ (GLe.trans bg (GLe.trans bj (GLe.trans bm bt))) m ?_
       refine q_mv 5 10 rfl (by kernel_rfl) f rfl rfl rfl fun a f => q_p 6 10 rfl (by kernel_rfl) f rfl rfl rfl (fun _ => r_extract (f.eval rfl) rfl) fun a f => q_p 7 10 rfl (by kernel_rfl) f rfl rfl rfl (fun _ => r_extract (f.eval rfl) rfl) fun a f => q_one (i := 8) rfl (by kernel_rfl) rfl fun bC w bD m bE bE => ?_
       have h0_0 := rd2 bD h0_0
       have h1_0 := rd2 bD h1_0
       have h1_1 := rd2 bD h1_1
       have bh := rd2 bD bh
       have bk := rd2 bD bk
       have bn := rd2 bD bn
       have bA := Ow.mono (RSl.mono (RI.mono _)) bD bA
       have bB := Ow.mono (RSl.mono (RI.mono _)) bD bB
       refine l_alloc (cs := [(.slice none 0 0), (.slice none 0 0)]) Tryz.zeroValue27 m f rfl rfl fun bF w a m f => l_nil ?_
       refine bE bC [Itm.box bF 27 [(.slice none 0 0), (.slice none 0 0)], bw, bz] _ _ (GLe.refl _) m ?_
       refine q_one (i := 9) rfl (by kernel_rfl) rfl fun bG w bH m bI bI => ?_
       have h0_0 := rd2 bH h0_0
       have h1_0 := rd2 bH h1_0
       have h1_1 := rd2 bH h1_1
       have bh := rd2 bH bh
       have bk := rd2 bH bk
       have bn := rd2 bH bn
       have bA := Ow.mono (RSl.mono (RI.mono _)) bH bA
       have bB := Ow.mono (RSl.mono (RI.mono _)) bH bB
       refine l_boxStore 0 0 (ds := [bv, bx]) m Tryz.sizeOf27 f rfl rfl rfl (ones_cons (Ow.one1 1 m bA rfl) (ones_cons (Ow.one1 2 m bB rfl) ones_nil)) rfl (Nat.le_of_ble_eq_true rfl) rfl fun w m => l_nil ?_
       refine bI bG [Itm.box bF 27 [bv, bx], bw, bz] _ _ (GLe.refl _) m ?_
       refine q_end fun bJ w bK m => ?_
       have h0_0 := rd2 bK h0_0
       have h1_0 := rd2 bK h1_0
       have h1_1 := rd2 bK h1_1
       have bh := rd2 bK bh
       have bk := rd2 bK bk
       have bn := rd2 bK bn
       have bA := Ow.mono (RSl.mono (RI.mono _)) bK bA
       have bB := Ow.mono (RSl.mono (RI.mono _)) bK bB
       refine l_as f rfl rfl fun a f => l_nil ?_
       have m := m.front 3 rfl
       have m : Mem W bJ w (Itm.box aa 24 [v0_0] :: Itm.box ab 37 [v1_0, v1_1] :: Itm.box bF 27 [bv, bx] :: bw :: bz :: H) := m.front 4 rfl
       obtain rfl := sj av
       exact ⟨_, _, _, rfl, _, bF, bv, bw, bx, bz, (GLe.trans aG (GLe.trans aN (GLe.trans aT (GLe.trans a4 (GLe.trans bd (GLe.trans bg (GLe.trans bj (GLe.trans bm (GLe.trans bt (GLe.trans bD (GLe.trans bH bK))))))))))), f.weak ⟨rfl, rfl, rfl, rfl, trivial⟩, m, bA, bB⟩
      ·intro bC w bD m bE bE
       obtain ⟨bo, bp, av⟩ := bind_some av
       have h0_0 := rd2 bD h0_0
       have h1_0 := rd2 bD h1_0
       have h1_1 := rd2 bD h1_1
       have ba := Ow2.mono (RI.mono _) bD ba
       have bb := Ow2.mono (RI.mono _) bD bb
       have aR := Ow2.mono (RI.mono _) bD aR
       refine l_alloc (cs := [(.slice none 0 0), (.slice none 0 0)]) Tryz.zeroValue27 m f rfl rfl fun bF w a m f => l_nil ?_
       refine bE bC [Itm.box bF 27 [(.slice none 0 0), (.slice none 0 0)], a7, a9, aQ] _ _ (GLe.refl _) m ?_
       refine q_one (i := 4) rfl (by kernel_rfl) rfl fun bc w bd m be be => ?_
       have h0_0 := rd2 bd h0_0
       have h1_0 := rd2 bd h1_0
       have h1_1 := rd2 bd h1_1
       have ba := Ow2.mono (RI.mono _) bd ba
       have bb := Ow2.mono (RI.mono _) bd bb
       have aR := Ow2.mono (RI.mono _) bd aR
       have m : Mem W bc w (aQ :: Itm.box bF 27 [(.slice none 0 0), (.slice none 0 0)] :: a7 :: a9 :: Itm.box ab 37 [v1_0, v1_1] :: Itm.box aa 24 [v0_0] :: H) := m.front 3 rfl
       obtain ⟨bf, bg, m, bh⟩ := Ow2.stamp (RI.mono _) aR m
       have h0_0 := rd2 bg h0_0
       have h1_0 := rd2 bg h1_0
       have h1_1 := rd2 bg h1_1
       have ba := Ow2.mono (RI.mono _) bg ba
       have bb := Ow2.mono (RI.mono _) bg bb
       have m : Mem W bf w (a7 :: Itm.box bF 27 [(.slice none 0 0), (.slice none 0 0)] :: a9 :: Itm.box ab 37 [v1_0, v1_1] :: Itm.box aa 24 [v0_0] :: H) := m.front 1 rfl
       obtain ⟨bi, bj, m, bk⟩ := Ow2.stamp (RI.mono _) ba m
       have h0_0 := rd2 bj h0_0
       have h1_0 := rd2 bj h1_0
       have h1_1 := rd2 bj h1_1
       have bh := rd2 bj bh
       have bb := Ow2.mono (RI.mono _) bj bb
       have m : Mem W bi w (a9 :: Itm.box bF 27 [(.slice none 0 0), (.slice none 0 0)] :: Itm.box ab 37 [v1_0, v1_1] :: Itm.box aa 24 [v0_0] :: H) := m.front 1 rfl
       obtain ⟨bl, bm, m, bn⟩ := Ow2.stamp (RI.mono _) bb m
       have h0_0 := rd2 bm h0_0
       have h1_0 := rd2 bm h1_0
       have h1_1 := rd2 bm h1_1
       have bh := rd2 bm bh
       have bk := rd2 bm bk
       refine l_res f rfl rfl Tryz.call18 (Wk.spec_TidiedDecomp m bh bk bn bp) fun bq br bs w bt m bu a f => ?_
       obtain ⟨bv, bw, bx, bz, rfl, rfl, bA, bB⟩ := bu
       have h0_0 := rd2 bt h0_0
       have h1_0 := rd2 bt h1_0
       have h1_1 := rd2 bt h1_1
       have bh := rd2 bt bh
       have bk := rd2 bt bk
       have bn := rd2 bt bn
       refine l_nil ?_
       refine be br [bw, bz, Itm.box bF 27 [(.slice none 0 0), (.slice none 0 0)]] _ _ (GLe.trans bg (GLe.trans bj (GLe.trans bm bt))) m ?_
       refine q_mv 5 10 rfl (by kernel_rfl) f rfl rfl rfl fun a f => q_p 6 10 rfl (by kernel_rfl) f rfl rfl rfl (fun _ => r_extract (f.eval rfl) rfl) fun a f => q_p 7 10 rfl (by kernel_rfl) f rfl rfl rfl (fun _ => r_extract (f.eval rfl) rfl) fun a f => q_one (i := 9) rfl (by kernel_rfl) rfl fun bG w bH m bI bI => ?_
       have h0_0 := rd2 bH h0_0
       have h1_0 := rd2 bH h1_0
       have h1_1 := rd2 bH h1_1
       have bh := rd2 bH bh
       have bk := rd2 bH bk
       have bn := rd2 bH bn
       have bA := Ow.mono (RSl.mono (RI.mono _)) bH bA
       have bB := Ow.mono (RSl.mono (RI.mono _)) bH bB
       refine l_boxStore 2 0 (ds := [bv, bx]) m Tryz.sizeOf27 f rfl rfl rfl (ones_cons (Ow.one1 0 m bA rfl) (ones_cons (Ow.one1 1 m bB rfl) ones_nil)) rfl (Nat.le_of_ble_eq_true rfl) rfl fun w m => l_nil ?_
       refine bI bG [bw, bz, Itm.box bF 27 [bv, bx]] _ _ (GLe.refl _) m ?_
       refine q_end fun bJ w bK m => ?_
       have h0_0 := rd2 bK h0_0
       have h1_0 := rd2 bK h1_0
       have h1_1 := rd2 bK h1_1
       have bh := rd2 bK bh
       have bk := rd2 bK bk
       have bn := rd2 bK bn
       have bA := Ow.mono (RSl.mono (RI.mono _)) bK bA
       have bB := Ow.mono (RSl.mono (RI.mono _)) bK bB
       refine l_as f rfl rfl fun a f => l_nil ?_
       have m := m.front 2 rfl
       have m := m.front 3 rfl
       have m : Mem W bJ w (Itm.box aa 24 [v0_0] :: Itm.box ab 37 [v1_0, v1_1] :: Itm.box bF 27 [bv, bx] :: bw :: bz :: H) := m.front 4 rfl
       obtain rfl := sj av
       exact ⟨_, _, _, rfl, _, bF, bv, bw, bx, bz, (GLe.trans aG (GLe.trans aN (GLe.trans aT (GLe.trans a4 (GLe.trans bD (GLe.trans bd (GLe.trans bg (GLe.trans bj (GLe.trans bm (GLe.trans bt (GLe.trans bH bK))))))))))), f.weak ⟨rfl, rfl, rfl, rfl, trivial⟩, m, bA, bB⟩
     ·intro bC w bD m bE bE
      obtain ⟨aV, aW, av⟩ := bind_some av
      obtain ⟨bo, bp, av⟩ := bind_some av
      have h0_0 := rd2 bD h0_0
      have h1_0 := rd2 bD h1_0
      have h1_1 := rd2 bD h1_1
      have aR := Ow2.mono (RI.mono _) bD aR
      refine l_alloc (cs := [(.slice none 0 0), (.slice none 0 0)]) Tryz.zeroValue27 m f rfl rfl fun bF w a m f => l_nil ?_
      refine bE bC [Itm.box bF 27 [(.slice none 0 0), (.slice none 0 0)], aQ] _ _ (GLe.refl _) m ?_
      refine q_one (i := 3) rfl (by kernel_rfl) rfl fun aS w aT m aU aU => ?_
      have h0_0 := rd2 aT h0_0
      have h1_0 := rd2 aT h1_0
      have h1_1 := rd2 aT h1_1
      have aR := Ow2.mono (RI.mono _) aT aR
      refine l_res f rfl rfl Tryz.call19 (Wk.laws_toDecomp m h1_0 h1_1 aW) fun aX aY aZ w a4 m a5 a f => ?_
      obtain ⟨a6, a7, a8, a9, rfl, rfl, ba, bb⟩ := a5
      have h0_0 := rd2 a4 h0_0
      have h1_0 := rd2 a4 h1_0
      have h1_1 := rd2 a4 h1_1
      have aR := Ow2.mono (RI.mono _) a4 aR
      refine l_nil ?_
      refine aU aY [a7, a9, Itm.box bF 27 [(.slice none 0 0), (.slice none 0 0)], aQ] _ _ a4 m ?_
      refine q_one (i := 4) rfl (by kernel_rfl) rfl fun bc w bd m be be => ?_
      have h0_0 := rd2 bd h0_0
      have h1_0 := rd2 bd h1_0
      have h1_1 := rd2 bd h1_1
      have ba := Ow2.mono (RI.mono _) bd ba
      have bb := Ow2.mono (RI.mono _) bd bb
      have aR := Ow2.mono (RI.mono _) bd aR
      have m : Mem W bc w (aQ :: a7 :: a9 :: Itm.box bF 27 [(.slice none 0 0), (.slice none 0 0)] :: Itm.box ab 37 [v1_0, v1_1] :: Itm.box aa 24 [v0_0] :: H) := m.front 3 rfl
      obtain ⟨bf, bg, m, bh⟩ := Ow2.stamp (RI.mono _) aR m
      have h0_0 := rd2 bg h0_0
      have h1_0 := rd2 bg h1_0
      have h1_1 := rd2 bg h1_1
      have ba := Ow2.mono (RI.mono _) bg ba
      have bb := Ow2.mono (RI.mono _) bg bb
      obtain ⟨bi, bj, m, bk⟩ := Ow2.stamp (RI.mono _) ba m
      have h0_0 := rd2 bj h0_0
      have h1_0 := rd2 bj h1_0
      have h1_1 := rd2 bj h1_1
      have bh := rd2 bj bh
      have bb := Ow2.mono (RI.mono _) bj bb
      obtain ⟨bl, bm, m, bn⟩ := Ow2.stamp (RI.mono _) bb m
      have h0_0 := rd2 bm h0_0
      have h1_0 := rd2 bm h1_0
      have h1_1 := rd2 bm h1_1
      have bh := rd2 bm bh
      have bk := rd2 bm bk
      refine l_res f rfl rfl Tryz.call18 (Wk.spec_TidiedDecomp m bh bk bn bp) fun bq br bs w bt m bu a f => ?_
      obtain ⟨bv, bw, bx, bz, rfl, rfl, bA, bB⟩ := bu
      have h0_0 := rd2 bt h0_0
      have h1_0 := rd2 bt h1_0
      have h1_1 := rd2 bt h1_1
      have bh := rd2 bt bh
      have bk := rd2 bt bk
      have bn := rd2 bt bn
      refine l_nil ?_
      refine be br [bw, bz, Itm.box bF 27 [(.slice none 0 0), (.slice none 0 0)]] _ _ (GLe.trans bg (GLe.trans bj (GLe.trans bm bt))) m ?_
      refine q_mv 5 10 rfl (by kernel_rfl) f rfl rfl rfl fun a f => q_p 6 10 rfl (by kernel_rfl) f rfl rfl rfl (fun _ => r_extract (f.eval rfl) rfl) fun a f => q_p 7 10 rfl (by kernel_rfl) f rfl rfl rfl (fun _ => r_extract (f.eval rfl) rfl) fun a f => q_one (i := 9) rfl (by kernel_rfl) rfl fun bG w bH m bI bI => ?_
      have h0_0 := rd2 bH h0_0
      have h1_0 := rd2 bH h1_0
      have h1_1 := rd2 bH h1_1
      have bh := rd2 bH bh
      have bk := rd2 bH bk
      have bn := rd2 bH bn
      have bA := Ow.mono (RSl.mono (RI.mono _)) bH bA
      have bB := Ow.mono (RSl.mono (RI.mono _)) bH bB
      refine l_boxStore 2 0 (ds := [bv, bx]) m Tryz.sizeOf27 f rfl rfl rfl (ones_cons (Ow.one1 0 m bA rfl) (ones_cons (Ow.one1 1 m bB rfl) ones_nil)) rfl (Nat.le_of_ble_eq_true rfl) rfl fun w m => l_nil ?_
      refine bI bG [bw, bz, Itm.box bF 27 [bv, bx]] _ _ (GLe.refl _) m ?_
      refine q_end fun bJ w bK m => ?_
      have h0_0 := rd2 bK h0_0
      have h1_0 := rd2 bK h1_0
      have h1_1 := rd2 bK h1_1
      have bh := rd2 bK bh
      have bk := rd2 bK bk
      have bn := rd2 bK bn
      have bA := Ow.mono (RSl.mono (RI.mono _)) bK bA
      have bB := Ow.mono (RSl.mono (RI.mono _)) bK bB
      refine l_as f rfl rfl fun a f => l_nil ?_
      have m := m.front 2 rfl
      have m := m.front 3 rfl
      have m : Mem W bJ w (Itm.box aa 24 [v0_0] :: Itm.box ab 37 [v1_0, v1_1] :: Itm.box bF 27 [bv, bx] :: bw :: bz :: H) := m.front 4 rfl
      obtain rfl := sj av
      exact ⟨_, _, _, rfl, _, bF, bv, bw, bx, bz, (GLe.trans aG (GLe.trans aN (GLe.trans bD (GLe.trans aT (GLe.trans a4 (GLe.trans bd (GLe.trans bg (GLe.trans bj (GLe.trans bm (GLe.trans bt (GLe.trans bH bK))))))))))), f.weak ⟨rfl, rfl, rfl, rfl, trivial⟩, m, bA, bB⟩
    ·intro bC w bD m bE bE
     obtain ⟨aI, aJ, av⟩ := bind_some av
     obtain ⟨aV, aW, av⟩ := bind_some av
     obtain ⟨bo, bp, av⟩ := bind_some av
     have h0_0 := rd2 bD h0_0
     have h1_0 := rd2 bD h1_0
     have h1_1 := rd2 bD h1_1
     refine l_alloc (cs := [(.slice none 0 0), (.slice none 0 0)]) Tryz.zeroValue27 m f rfl rfl fun bF w a m f => l_nil ?_
     refine bE bC [Itm.box bF 27 [(.slice none 0 0), (.slice none 0 0)]] _ _ (GLe.refl _) m ?_
     refine q_one (i := 1) rfl (by kernel_rfl) rfl fun aF w aG m aH aH => ?_
     have h0_0 := rd2 aG h0_0
     have h1_0 := rd2 aG h1_0
     have h1_1 := rd2 aG h1_1
     refine l_res f rfl rfl Tryz.call10 (Wk.laws_toGraph m h0_0 aJ) fun aK aL aM w aN m aO a f => ?_
     obtain ⟨aP, aQ, rfl, rfl, aR⟩ := aO
     have h0_0 := rd2 aN h0_0
     have h1_0 := rd2 aN h1_0
     have h1_1 := rd2 aN h1_1
     refine l_nil ?_
     refine aH aL [aQ, Itm.box bF 27 [(.slice none 0 0), (.slice none 0 0)]] _ _ aN m ?_
     refine q_one (i := 3) rfl (by kernel_rfl) rfl fun aS w aT m aU aU => ?_
     have h0_0 := rd2 aT h0_0
     have h1_0 := rd2 aT h1_0
     have h1_1 := rd2 aT h1_1
     have aR := Ow2.mono (RI.mono _) aT aR
     refine l_res f rfl rfl Tryz.call19 (Wk.laws_toDecomp m h1_0 h1_1 aW) fun aX aY aZ w a4 m a5 a f => ?_
     obtain ⟨a6, a7, a8, a9, rfl, rfl, ba, bb⟩ := a5
     have h0_0 := rd2 a4 h0_0
     have h1_0 := rd2 a4 h1_0
     have h1_1 := rd2 a4 h1_1
     have aR := Ow2.mono (RI.mono _) a4 aR
     refine l_nil ?_
     refine aU aY [a7, a9, aQ, Itm.box bF 27 [(.slice none 0 0), (.slice none 0 0)]] _ _ a4 m ?_
     refine q_one (i := 4) rfl (by kernel_rfl) rfl fun bc w bd m be be => ?_
     have h0_0 := rd2 bd h0_0
     have h1_0 := rd2 bd h1_0
     have h1_1 := rd2 bd h1_1
     have ba := Ow2.mono (RI.mono _) bd ba
     have bb := Ow2.mono (RI.mono _) bd bb
     have aR := Ow2.mono (RI.mono _) bd aR
     have m : Mem W bc w (aQ :: a7 :: a9 :: Itm.box bF 27 [(.slice none 0 0), (.slice none 0 0)] :: Itm.box ab 37 [v1_0, v1_1] :: Itm.box aa 24 [v0_0] :: H) := m.front 2 rfl
     obtain ⟨bf, bg, m, bh⟩ := Ow2.stamp (RI.mono _) aR m
     have h0_0 := rd2 bg h0_0
     have h1_0 := rd2 bg h1_0
     have h1_1 := rd2 bg h1_1
     have ba := Ow2.mono (RI.mono _) bg ba
     have bb := Ow2.mono (RI.mono _) bg bb
     obtain ⟨bi, bj, m, bk⟩ := Ow2.stamp (RI.mono _) ba m
     have h0_0 := rd2 bj h0_0
     have h1_0 := rd2 bj h1_0
     have h1_1 := rd2 bj h1_1
     have bh := rd2 bj bh
     have bb := Ow2.mono (RI.mono _) bj bb
     obtain ⟨bl, bm, m, bn⟩ := Ow2.stamp (RI.mono _) bb m
     have h0_0 := rd2 bm h0_0
     have h1_0 := rd2 bm h1_0
     have h1_1 := rd2 bm h1_1
     have bh := rd2 bm bh
     have bk := rd2 bm bk
     refine l_res f rfl rfl Tryz.call18 (Wk.spec_TidiedDecomp m bh bk bn bp) fun bq br bs w bt m bu a f => ?_
     obtain ⟨bv, bw, bx, bz, rfl, rfl, bA, bB⟩ := bu
     have h0_0 := rd2 bt h0_0
     have h1_0 := rd2 bt h1_0
     have h1_1 := rd2 bt h1_1
     have bh := rd2 bt bh
     have bk := rd2 bt bk
     have bn := rd2 bt bn
     refine l_nil ?_
     refine be br [bw, bz, Itm.box bF 27 [(.slice none 0 0), (.slice none 0 0)]] _ _ (GLe.trans bg (GLe.trans bj (GLe.trans bm bt))) m ?_
     refine q_mv 5 10 rfl (by kernel_rfl) f rfl rfl rfl fun a f => q_p 6 10 rfl (by kernel_rfl) f rfl rfl rfl (fun _ => r_extract (f.eval rfl) rfl) fun a f => q_p 7 10 rfl (by kernel_rfl) f rfl rfl rfl (fun _ => r_extract (f.eval rfl) rfl) fun a f => q_one (i := 9) rfl (by kernel_rfl) rfl fun bG w bH m bI bI => ?_
     have h0_0 := rd2 bH h0_0
     have h1_0 := rd2 bH h1_0
     have h1_1 := rd2 bH h1_1
     have bh := rd2 bH bh
     have bk := rd2 bH bk
     have bn := rd2 bH bn
     have bA := Ow.mono (RSl.mono (RI.mono _)) bH bA
     have bB := Ow.mono (RSl.mono (RI.mono _)) bH bB
     refine l_boxStore 2 0 (ds := [bv, bx]) m Tryz.sizeOf27 f rfl rfl rfl (ones_cons (Ow.one1 0 m bA rfl) (ones_cons (Ow.one1 1 m bB rfl) ones_nil)) rfl (Nat.le_of_ble_eq_true rfl) rfl fun w m => l_nil ?_
     refine bI bG [bw, bz, Itm.box bF 27 [bv, bx]] _ _ (GLe.refl _) m ?_
     refine q_end fun bJ w bK m => ?_
     have h0_0 := rd2 bK h0_0
     have h1_0 := rd2 bK h1_0
     have h1_1 := rd2 bK h1_1
     have bh := rd2 bK bh
     have bk := rd2 bK bk
     have bn := rd2 bK bn
     have bA := Ow.mono (RSl.mono (RI.mono _)) bK bA
     have bB := Ow.mono (RSl.mono (RI.mono _)) bK bB
     refine l_as f rfl rfl fun a f => l_nil ?_
     have m := m.front 2 rfl
     have m := m.front 3 rfl
     have m : Mem W bJ w (Itm.box aa 24 [v0_0] :: Itm.box ab 37 [v1_0, v1_1] :: Itm.box bF 27 [bv, bx] :: bw :: bz :: H) := m.front 4 rfl
     obtain rfl := sj av
     exact ⟨_, _, _, rfl, _, bF, bv, bw, bx, bz, (GLe.trans bD (GLe.trans aG (GLe.trans aN (GLe.trans aT (GLe.trans a4 (GLe.trans bd (GLe.trans bg (GLe.trans bj (GLe.trans bm (GLe.trans bt (GLe.trans bH bK))))))))))), f.weak ⟨rfl, rfl, rfl, rfl, trivial⟩, m, bA, bB⟩
   ·rintro a w ⟨aw, ax, ay, rfl, az, aA, aB, aC, aD, aE, bL, f, m, bM, bN⟩
    have h0_0 := rd2 bL h0_0
    have h1_0 := rd2 bL h1_0
    have h1_1 := rd2 bL h1_1
    refine k_seq (k_region ?_)
    refine l_boxAgg 0 0 (ds := [v0_0]) m Ag24 f rfl rfl rfl rfl rfl fun a f => ?_
    obtain ⟨bO, bP, hd⟩ := bind_some hd
    refine l_res f rfl rfl Tryz.call10 (Wk.laws_toGraph m h0_0 bP) fun bQ bR bS w bT m bU a f => ?_
    obtain ⟨bV, bW, rfl, rfl, bX⟩ := bU
    have h0_0 := rd2 bT h0_0
    have h1_0 := rd2 bT h1_0
    have h1_1 := rd2 bT h1_1
    have bM := Ow.mono (RSl.mono (RI.mono _)) bT bM
    have bN := Ow.mono (RSl.mono (RI.mono _)) bT bN
    refine l_alloc (cs := [(.slice none 0 0)]) Tryz.zeroValue30 m f rfl rfl fun bY w a m f => l_boxStore 0 0 (ds := [bV]) m Tryz.sizeOf30 f rfl rfl rfl (ones_cons (Ow2.one1 1 m bX rfl) ones_nil) rfl (Nat.le_of_ble_eq_true rfl) rfl fun w m => l_nil (k_seq (k_region ?_))
    refine l_boxAgg 3 0 (ds := [v1_0, v1_1]) m Ag37 f rfl rfl rfl rfl rfl fun a f => ?_
    obtain ⟨bZ, b0, hd⟩ := bind_some hd
    refine l_res f rfl rfl Tryz.call19 (Wk.laws_toDecomp m h1_0 h1_1 b0) fun b1 b2 b3 w b4 m b5 a f => ?_
    obtain ⟨b6, b7, b8, b9, rfl, rfl, ca, cb⟩ := b5
    have h1_0 := rd2 b4 h1_0
    have h1_1 := rd2 b4 h1_1
    have bX := Ow2.mono (RI.mono _) b4 bX
    have h0_0 := rd2 b4 h0_0
    have bM := Ow.mono (RSl.mono (RI.mono _)) b4 bM
    have bN := Ow.mono (RSl.mono (RI.mono _)) b4 bN
    refine l_alloc (cs := [(.slice none 0 0), (.slice none 0 0)]) Tryz.zeroValue27 m f rfl rfl fun cc w a m f => l_boxStore 0 0 (ds := [b6, b8]) m Tryz.sizeOf27 f rfl rfl rfl (ones_cons (Ow2.one1 1 m ca rfl) (ones_cons (Ow2.one1 2 m cb rfl) ones_nil)) rfl (Nat.le_of_ble_eq_true rfl) rfl fun w m => l_nil (k_seq (k_region ?_))
    refine l_boxAgg 3 0 (ds := [bV]) m Ag30 f rfl rfl rfl rfl rfl fun a f => l_boxAgg 0 0 (ds := [b6, b8]) m Ag27 f rfl rfl rfl rfl rfl fun a f => ?_
    obtain ⟨cd, ce, hd⟩ := bind_some hd
    refine l_res f rfl rfl Tryz.call20 (Ow2.lendCall (RI.mono _) 4 bX m rfl (fun cf cg m ch => (Ow2.lendCall (RI.mono _) 1 (Ow2.mono (RI.mono _) cg ca) m rfl (fun ci cj m ck => (Ow2.lendCall (RI.mono _) 1 (Ow2.mono (RI.mono _) cj (Ow2.mono (RI.mono _) cg cb)) m rfl (fun cl cm m cn => Wk.impl_TidiedDecomp hW m (rd2 cm (rd2 cj ch)) (rd2 cm ck) cn ce) (fun _ G' _ _ ⟨a0, a1, a2, a3, e1, e2, o0, o1⟩ => ⟨a0, a1, a2, a3, e1, e2, Ow2.free (RI.free _) G' o0, Ow2.free (RI.free _) G' o1⟩))) (fun _ G' _ _ ⟨a0, a1, a2, a3, e1, e2, o0, o1⟩ => ⟨a0, a1, a2, a3, e1, e2, Ow2.free (RI.free _) G' o0, Ow2.free (RI.free _) G' o1⟩))) (fun _ G' _ _ ⟨a0, a1, a2, a3, e1, e2, o0, o1⟩ => ⟨a0, a1, a2, a3, e1, e2, Ow2.free (RI.free _) G' o0, Ow2.free (RI.free _) G' o1⟩)) fun co cp cq w cr m ct a f => ?_
    obtain ⟨cu, cv, cw, cx, rfl, rfl, cy, cz⟩ := ct
    have ca := Ow2.mono (RI.mono _) cr ca
    have cb := Ow2.mono (RI.mono _) cr cb
    have bX := Ow2.mono (RI.mono _) cr bX
    have h0_0 := rd2 cr h0_0
    have h1_0 := rd2 cr h1_0
    have h1_1 := rd2 cr h1_1
    have bM := Ow.mono (RSl.mono (RI.mono _)) cr bM
    have bN := Ow.mono (RSl.mono (RI.mono _)) cr bN
    refine l_mv f rfl rfl fun a f => l_op f rfl rfl rfl (r_extract (f.eval rfl) rfl) fun a f => l_op f rfl rfl rfl (r_extract (f.eval rfl) rfl) fun a f => l_alloc (cs := [(.slice none 0 0), (.slice none 0 0)]) Tryz.zeroValue27 m f rfl rfl fun cA w a m f => l_boxStore 0 0 (ds := [cu, cw]) m Tryz.sizeOf27 f rfl rfl rfl (ones_cons (Ow2.one1 1 m cy rfl) (ones_cons (Ow2.one1 2 m cz rfl) ones_nil)) rfl (Nat.le_of_ble_eq_true rfl) rfl fun w m => l_as f rfl rfl fun a f => l_nil (k_seq (k_seq (k_region ?_)))
    refine l_boxAgg 0 0 (ds := [cu, cw]) m Ag27 f rfl rfl rfl rfl rfl fun a f => l_boxAgg 10 0 (ds := [aB, aD]) m Ag27 f rfl rfl rfl rfl rfl fun a f => ?_
    obtain ⟨cB, cC, hd⟩ := bind_some hd
    refine l_res f rfl rfl Tryz.call12 (Ow2.lendCall (RI.mono _) 1 cy m rfl (fun cD cE m cF => (Ow2.lendCall (RI.mono _) 1 (Ow2.mono (RI.mono _) cE cz) m rfl (fun cG cH m cI => (Ow.lendCall (RSl.mono (RI.mono _)) 9 (Ow.mono (RSl.mono (RI.mono _)) cH (Ow.mono (RSl.mono (RI.mono _)) cE bM)) m rfl (fun cJ cK m cL => (Ow.lendCall (RSl.mono (RI.mono _)) 9 (Ow.mono (RSl.mono (RI.mono _)) cK (Ow.mono (RSl.mono (RI.mono _)) cH (Ow.mono (RSl.mono (RI.mono _)) cE bN))) m rfl (fun cM cN m cO => Wk.laws_eqDecomp m (rd2 cN (rd2 cK (rd2 cH cF))) (rd2 cN (rd2 cK cI)) (rd2 cN cL) cO cC) (fun _ _ _ _ h => h))) (fun _ _ _ _ h => h))) (fun _ _ _ _ h => h))) (fun _ _ _ _ h => h)) fun cP cQ cR w cS m cT a f => ?_
    obtain ⟨rfl, rfl⟩ := cT
    have cy := Ow2.mono (RI.mono _) cS cy
    have cz := Ow2.mono (RI.mono _) cS cz
    have ca := Ow2.mono (RI.mono _) cS ca
    have cb := Ow2.mono (RI.mono _) cS cb
    have bX := Ow2.mono (RI.mono _) cS bX
    have h0_0 := rd2 cS h0_0
    have h1_0 := rd2 cS h1_0
    have h1_1 := rd2 cS h1_1
    have bM := Ow.mono (RSl.mono (RI.mono _)) cS bM
    have bN := Ow.mono (RSl.mono (RI.mono _)) cS bN
    refine l_op f rfl rfl rfl (r_not (f.eval rfl)) fun a f => l_mv f rfl rfl fun a f => ?_
    refine l_cut 4 (fun a w => ∃ cU, GLe cQ cU ∧ Mem W cU w (Itm.box cA 27 [cu, cw] :: cv :: cx :: Itm.box cc 27 [b6, b8] :: b7 :: b9 :: Itm.box bY 30 [bV] :: bW :: Itm.box aa 24 [v0_0] :: Itm.box ab 37 [v1_0, v1_1] :: Itm.box aA 27 [aB, aD] :: aC :: aE :: H) ∧ Fr a 119 [(2, (.pointer (some ⟨aa, 0, none⟩))), (3, (.pointer (some ⟨ab, 0, none⟩))), (6, (.pointer (some ⟨aA, 0, none⟩))), (7, (.bool ay)), (8, (.pointer (some ⟨bY, 0, none⟩))), (9, (.pointer (some ⟨cc, 0, none⟩))), (10, (.pointer (some ⟨cA, 0, none⟩))), (11, (.bool cd.2.2)), (45, (.agg #[cu, cw])), (46, (.agg #[aB, aD])), (47, (.bool cB)), (48, (.bool (!cB))), (49, (.bool (!cB))), (53, (.bool ((!cB) || (cd.2.2 != ay))))]) ?_ ?_
    ·rcases Bool.eq_false_or_eq_true (!cB) with cV | cV
     ·refine l_not' f rfl rfl rfl cV fun a f => ?_
      refine l_not' f rfl rfl rfl cV fun a f => l_not' f rfl rfl rfl cV fun a f => l_op f rfl rfl rfl (r_pickT (f.eval rfl) cV (f.eval rfl)) fun a f => ?_
      exact ⟨_, (GLe.refl _), m, f.weak ⟨rfl, rfl, rfl, rfl, rfl, rfl, rfl, rfl, rfl, rfl, rfl, rfl, rfl, by rw [cV]; rfl, trivial⟩⟩
     ·refine l_run f rfl rfl cV ?_
      refine l_mv f rfl rfl fun a f => l_run f rfl rfl cV ?_
      refine l_mv f rfl rfl fun a f => l_run f rfl rfl cV ?_
      refine l_op f rfl rfl rfl (r_bool_neq (f.eval rfl) (f.eval rfl) Tryz.underlying4) fun a f => l_op f rfl rfl rfl (r_pickF (f.eval rfl) cV (f.eval rfl)) fun a f => ?_
      exact ⟨_, (GLe.refl _), m, f.weak ⟨rfl, rfl, rfl, rfl, rfl, rfl, rfl, rfl, rfl, rfl, rfl, rfl, rfl, by rw [cV]; rfl, trivial⟩⟩
    ·rintro a w ⟨cU, cW, m, f⟩
     have cy := Ow2.mono (RI.mono _) cW cy
     have cz := Ow2.mono (RI.mono _) cW cz
     have ca := Ow2.mono (RI.mono _) cW ca
     have cb := Ow2.mono (RI.mono _) cW cb
     have bX := Ow2.mono (RI.mono _) cW bX
     have h0_0 := rd2 cW h0_0
     have h1_0 := rd2 cW h1_0
     have h1_1 := rd2 cW h1_1
     have bM := Ow.mono (RSl.mono (RI.mono _)) cW bM
     have bN := Ow.mono (RSl.mono (RI.mono _)) cW bN
     refine l_nil ?_
     rcases cond_some hd with ⟨cX, hd⟩ | ⟨cX, hd⟩
     ·refine k_true f rfl cX ?_
      refine k_seq (k_region ?_)
      refine l_as f rfl rfl fun a f => l_nil ?_
      refine k_ret ?_
      have m : Mem W cU w H := Mem.drop (H' := [Itm.box cA 27 [cu, cw], cv, cx, Itm.box cc 27 [b6, b8], b7, b9, Itm.box bY 30 [bV], bW, Itm.box aa 24 [v0_0], Itm.box ab 37 [v1_0, v1_1], Itm.box aA 27 [aB, aD], aC, aE]) m
      obtain rfl := sj hd
      exact ⟨[(.bool false)], ⟨f.get _ _ rfl, trivial⟩, f.defers, _, [], (GLe.trans ah (GLe.trans ap (GLe.trans bL (GLe.trans bT (GLe.trans b4 (GLe.trans cr (GLe.trans cS cW))))))), m, rfl, rfl⟩
     ·refine k_false f rfl cX ?_
      refine k_skip ?_
      refine k_seq (k_seq ?_)
      refine k_draw 5 Follows (by kernel_rfl) m ?_
      refine q_boxAgg (i := 0) (ds := [bV]) 5 6 Ag30 rfl rfl rfl rfl (by kernel_rfl) rfl f rfl rfl rfl fun a f => q_boxAgg (i := 1) (ds := [v0_0]) 5 8 Ag24 rfl rfl rfl rfl (by kernel_rfl) rfl f rfl rfl rfl fun a f => q_one (i := 2) rfl (by kernel_rfl) rfl fun cY w cZ m c0 c0 => ?_
      have h0_0 := rd2 cZ h0_0
      have cy := Ow2.mono (RI.mono _) cZ cy
      have cz := Ow2.mono (RI.mono _) cZ cz
      have ca := Ow2.mono (RI.mono _) cZ ca
      have cb := Ow2.mono (RI.mono _) cZ cb
      have bX := Ow2.mono (RI.mono _) cZ bX
      have h1_0 := rd2 cZ h1_0
      have h1_1 := rd2 cZ h1_1
      have bM := Ow.mono (RSl.mono (RI.mono _)) cZ bM
      have bN := Ow.mono (RSl.mono (RI.mono _)) cZ bN
      obtain ⟨c1, c2, hd⟩ := bind_some hd
      refine l_res f rfl rfl Tryz.call10 (Wk.laws_toGraph m h0_0 c2) fun c3 c4 c5 w c6 m c7 a f => ?_
      obtain ⟨c8, c9, rfl, rfl, da⟩ := c7
      have h0_0 := rd2 c6 h0_0
      have cy := Ow2.mono (RI.mono _) c6 cy
      have cz := Ow2.mono (RI.mono _) c6 cz
      have ca := Ow2.mono (RI.mono _) c6 ca
      have cb := Ow2.mono (RI.mono _) c6 cb
      have bX := Ow2.mono (RI.mono _) c6 bX
      have h1_0 := rd2 c6 h1_0
      have h1_1 := rd2 c6 h1_1
      have bM := Ow.mono (RSl.mono (RI.mono _)) c6 bM
      have bN := Ow.mono (RSl.mono (RI.mono _)) c6 bN
      refine l_nil ?_
      refine c0 c4 [c9] _ _ c6 m ?_
      refine q_one (i := 3) rfl (by kernel_rfl) rfl fun db w dc m dd dd => ?_
      have h0_0 := rd2 dc h0_0
      have da := Ow2.mono (RI.mono _) dc da
      have cy := Ow2.mono (RI.mono _) dc cy
      have cz := Ow2.mono (RI.mono _) dc cz
      have ca := Ow2.mono (RI.mono _) dc ca
      have cb := Ow2.mono (RI.mono _) dc cb
      have bX := Ow2.mono (RI.mono _) dc bX
      have h1_0 := rd2 dc h1_0
      have h1_1 := rd2 dc h1_1
      have bM := Ow.mono (RSl.mono (RI.mono _)) dc bM
      have bN := Ow.mono (RSl.mono (RI.mono _)) dc bN
      obtain ⟨de, df, hd⟩ := bind_some hd
      refine l_res f rfl rfl Tryz.call13 (Ow2.lendCall (RI.mono _) 8 bX m rfl (fun dg dh m di => (Ow2.lendCall (RI.mono _) 0 (Ow2.mono (RI.mono _) dh da) m rfl (fun dj dk m dl => Wk.laws_eqGraph m (rd2 dk di) dl df) (fun _ _ _ _ h => h))) (fun _ _ _ _ h => h)) fun dm dn dp w dq m dr a f => ?_
      obtain ⟨rfl, rfl⟩ := dr
      have h0_0 := rd2 dq h0_0
      have da := Ow2.mono (RI.mono _) dq da
      have cy := Ow2.mono (RI.mono _) dq cy
      have cz := Ow2.mono (RI.mono _) dq cz
      have ca := Ow2.mono (RI.mono _) dq ca
      have cb := Ow2.mono (RI.mono _) dq cb
      have bX := Ow2.mono (RI.mono _) dq bX
      have h1_0 := rd2 dq h1_0
      have h1_1 := rd2 dq h1_1
      have bM := Ow.mono (RSl.mono (RI.mono _)) dq bM
      have bN := Ow.mono (RSl.mono (RI.mono _)) dq bN
      refine l_nil ?_
      refine dd dn [c9] _ _ dq m ?_
      refine q_p 4 5 rfl (by kernel_rfl) f rfl rfl rfl (fun _ => r_not (f.eval rfl)) fun a f => q_end fun dt w du m => ?_
      have h0_0 := rd2 du h0_0
      have da := Ow2.mono (RI.mono _) du da
      have cy := Ow2.mono (RI.mono _) du cy
      have cz := Ow2.mono (RI.mono _) du cz
      have ca := Ow2.mono (RI.mono _) du ca
      have cb := Ow2.mono (RI.mono _) du cb
      have bX := Ow2.mono (RI.mono _) du bX
      have h1_0 := rd2 du h1_0
      have h1_1 := rd2 du h1_1
      have bM := Ow.mono (RSl.mono (RI.mono _)) du bM
      have bN := Ow.mono (RSl.mono (RI.mono _)) du bN
      refine l_nil ?_
      rcases cond_some hd with ⟨dv, hd⟩ | ⟨dv, hd⟩
      ·refine k_true f rfl dv ?_
       refine k_seq (k_region ?_)
       refine l_as f rfl rfl fun a f => l_nil ?_
       refine k_ret ?_
       have m : Mem W dt w H := Mem.drop (H' := [c9, Itm.box cA 27 [cu, cw], cv, cx, Itm.box cc 27 [b6, b8], b7, b9, Itm.box bY 30 [bV], bW, Itm.box aa 24 [v0_0], Itm.box ab 37 [v1_0, v1_1], Itm.box aA 27 [aB, aD], aC, aE]) m
       obtain rfl := sj hd
       exact ⟨[(.bool false)], ⟨f.get _ _ rfl, trivial⟩, f.defers, _, [], (GLe.trans ah (GLe.trans ap (GLe.trans bL (GLe.trans bT (GLe.trans b4 (GLe.trans cr (GLe.trans cS (GLe.trans cW (GLe.trans cZ (GLe.trans c6 (GLe.trans dc (GLe.trans dq du)))))))))))), m, rfl, rfl⟩
      ·refine k_false f rfl dv ?_
       refine k_skip ?_
       refine k_seq (k_seq ?_)
       refine k_draw 5 Follows (by kernel_rfl) m ?_
       refine q_boxAgg (i := 0) (ds := [b6, b8]) 5 4 Ag27 rfl rfl rfl rfl (by kernel_rfl) rfl f rfl rfl rfl fun a f => q_boxAgg (i := 1) (ds := [v1_0, v1_1]) 5 10 Ag37 rfl rfl rfl rfl (by kernel_rfl) rfl f rfl rfl rfl fun a f => q_one (i := 2) rfl (by kernel_rfl) rfl fun dw w dx m dy dy => ?_
       have h1_0 := rd2 dx h1_0
       have h1_1 := rd2 dx h1_1
       have da := Ow2.mono (RI.mono _) dx da
       have cy := Ow2.mono (RI.mono _) dx cy
       have cz := Ow2.mono (RI.mono _) dx cz
       have ca := Ow2.mono (RI.mono _) dx ca
       have cb := Ow2.mono (RI.mono _) dx cb
       have bX := Ow2.mono (RI.mono _) dx bX
       have h0_0 := rd2 dx h0_0
       have bM := Ow.mono (RSl.mono (RI.mono _)) dx bM
       have bN := Ow.mono (RSl.mono (RI.mono _)) dx bN
       obtain ⟨dz, dA, hd⟩ := bind_some hd
       refine l_res f rfl rfl Tryz.call19 (Wk.laws_toDecomp m h1_0 h1_1 dA) fun dB dC dD w dE m dF a f => ?_
       obtain ⟨dG, dH, dI, dJ, rfl, rfl, dK, dL⟩ := dF
       have h1_0 := rd2 dE h1_0
       have h1_1 := rd2 dE h1_1
       have da := Ow2.mono (RI.mono _) dE da
       have cy := Ow2.mono (RI.mono _) dE cy
       have cz := Ow2.mono (RI.mono _) dE cz
       have ca := Ow2.mono (RI.mono _) dE ca
       have cb := Ow2.mono (RI.mono _) dE cb
       have bX := Ow2.mono (RI.mono _) dE bX
       have h0_0 := rd2 dE h0_0
       have bM := Ow.mono (RSl.mono (RI.mono _)) dE bM
       have bN := Ow.mono (RSl.mono (RI.mono _)) dE bN
       refine l_nil ?_
       refine dy dC [dH, dJ] _ _ dE m ?_
       refine q_one (i := 3) rfl (by kernel_rfl) rfl fun dM w dN m dO dO => ?_
       have h1_0 := rd2 dN h1_0
       have h1_1 := rd2 dN h1_1
       have dK := Ow2.mono (RI.mono _) dN dK
       have dL := Ow2.mono (RI.mono _) dN dL
       have da := Ow2.mono (RI.mono _) dN da
       have cy := Ow2.mono (RI.mono _) dN cy
       have cz := Ow2.mono (RI.mono _) dN cz
       have ca := Ow2.mono (RI.mono _) dN ca
       have cb := Ow2.mono (RI.mono _) dN cb
       have bX := Ow2.mono (RI.mono _) dN bX
       have h0_0 := rd2 dN h0_0
       have bM := Ow.mono (RSl.mono (RI.mono _)) dN bM
       have bN := Ow.mono (RSl.mono (RI.mono _)) dN bN
       obtain ⟨dP, dQ, hd⟩ := bind_some hd
       refine l_res f rfl rfl Tryz.call12 (Ow2.lendCall (RI.mono _) 7 ca m rfl (fun dR dS m dT => (Ow2.lendCall (RI.mono _) 7 (Ow2.mono (RI.mono _) dS cb) m rfl (fun dU dV m dW => (Ow2.lendCall (RI.mono _) 0 (Ow2.mono (RI.mono _) dV (Ow2.mono (RI.mono _) dS dK)) m rfl (fun dX dY m dZ => (Ow2.lendCall (RI.mono _) 0 (Ow2.mono (RI.mono _) dY (Ow2.mono (RI.mono _) dV (Ow2.mono (RI.mono _) dS dL))) m rfl (fun d0 d1 m d2 => Wk.laws_eqDecomp m (rd2 d1 (rd2 dY (rd2 dV dT))) (rd2 d1 (rd2 dY dW)) (rd2 d1 dZ) d2 dQ) (fun _ _ _ _ h => h))) (fun _ _ _ _ h => h))) (fun _ _ _ _ h => h))) (fun _ _ _ _ h => h)) fun d3 d4 d5 w d6 m d7 a f => ?_
       obtain ⟨rfl, rfl⟩ := d7
       have h1_0 := rd2 d6 h1_0
       have h1_1 := rd2 d6 h1_1
       have dK := Ow2.mono (RI.mono _) d6 dK
       have dL := Ow2.mono (RI.mono _) d6 dL
       have da := Ow2.mono (RI.mono _) d6 da
       have cy := Ow2.mono (RI.mono _) d6 cy
       have cz := Ow2.mono (RI.mono _) d6 cz
       have ca := Ow2.mono (RI.mono _) d6 ca
       have cb := Ow2.mono (RI.mono _) d6 cb
       have bX := Ow2.mono (RI.mono _) d6 bX
       have h0_0 := rd2 d6 h0_0
       have bM := Ow.mono (RSl.mono (RI.mono _)) d6 bM
       have bN := Ow.mono (RSl.mono (RI.mono _)) d6 bN
       refine l_nil ?_
       refine dO d4 [dH, dJ] _ _ d6 m ?_
       refine q_p 4 5 rfl (by kernel_rfl) f rfl rfl rfl (fun _ => r_not (f.eval rfl)) fun a f => q_end fun d8 w d9 m => ?_
       have h1_0 := rd2 d9 h1_0
       have h1_1 := rd2 d9 h1_1
       have dK := Ow2.mono (RI.mono _) d9 dK
       have dL := Ow2.mono (RI.mono _) d9 dL
       have da := Ow2.mono (RI.mono _) d9 da
       have cy := Ow2.mono (RI.mono _) d9 cy
       have cz := Ow2.mono (RI.mono _) d9 cz
       have ca := Ow2.mono (RI.mono _) d9 ca
       have cb := Ow2.mono (RI.mono _) d9 cb
       have bX := Ow2.mono (RI.mono _) d9 bX
       have h0_0 := rd2 d9 h0_0
       have bM := Ow.mono (RSl.mono (RI.mono _)) d9 bM
       have bN := Ow.mono (RSl.mono (RI.mono _)) d9 bN
       refine l_nil ?_
       rcases cond_some hd with ⟨ea, hd⟩ | ⟨ea, hd⟩
       ·refine k_true f rfl ea ?_
        refine k_seq (k_region ?_)
        refine l_as f rfl rfl fun a f => l_nil ?_
        refine k_ret ?_
        have m : Mem W d8 w H := Mem.drop (H' := [dH, dJ, c9, Itm.box cA 27 [cu, cw], cv, cx, Itm.box cc 27 [b6, b8], b7, b9, Itm.box bY 30 [bV], bW, Itm.box aa 24 [v0_0], Itm.box ab 37 [v1_0, v1_1], Itm.box aA 27 [aB, aD], aC, aE]) m
        obtain rfl := sj hd
        exact ⟨[(.bool false)], ⟨f.get _ _ rfl, trivial⟩, f.defers, _, [], (GLe.trans ah (GLe.trans ap (GLe.trans bL (GLe.trans bT (GLe.trans b4 (GLe.trans cr (GLe.trans cS (GLe.trans cW (GLe.trans cZ (GLe.trans c6 (GLe.trans dc (GLe.trans dq (GLe.trans du (GLe.trans dx (GLe.trans dE (GLe.trans dN (GLe.trans d6 d9))))))))))))))))), m, rfl, rfl⟩
       ·refine k_false f rfl ea ?_
        refine k_skip ?_
        refine k_seq (k_region ?_)
        refine l_as f rfl rfl fun a f => l_nil (k_seq (k_region ?_))
        refine l_boxAgg 9 0 (ds := [bV]) m Ag30 f rfl rfl rfl rfl rfl fun a f => l_mv f rfl rfl fun a f => ?_
        have m : Mem W d8 w (bW :: dH :: dJ :: c9 :: Itm.box cA 27 [cu, cw] :: cv :: cx :: Itm.box cc 27 [b6, b8] :: b7 :: b9 :: Itm.box bY 30 [bV] :: Itm.box aa 24 [v0_0] :: Itm.box ab 37 [v1_0, v1_1] :: Itm.box aA 27 [aB, aD] :: aC :: aE :: H) := m.front 10 rfl
        obtain ⟨eb, ec, hd⟩ := bind_some hd
        refine l_res f rfl rfl Tryz.call14 (Wk.laws_markGraph m bX ec) fun ed ee ef w eg m eh a f => ?_
        obtain ⟨ei, rfl, rfl, ej⟩ := eh
        have dK := Ow2.mono (RI.mono _) eg dK
        have dL := Ow2.mono (RI.mono _) eg dL
        have da := Ow2.mono (RI.mono _) eg da
        have cy := Ow2.mono (RI.mono _) eg cy
        have cz := Ow2.mono (RI.mono _) eg cz
        have ca := Ow2.mono (RI.mono _) eg ca
        have cb := Ow2.mono (RI.mono _) eg cb
        have h0_0 := rd2 eg h0_0
        have h1_0 := rd2 eg h1_0
        have h1_1 := rd2 eg h1_1
        have bM := Ow.mono (RSl.mono (RI.mono _)) eg bM
        have bN := Ow.mono (RSl.mono (RI.mono _)) eg bN
        refine l_as f rfl rfl fun a f => l_nil (k_seq (k_region ?_))
        refine l_boxAgg 7 0 (ds := [b6, b8]) m Ag27 f rfl rfl rfl rfl rfl fun a f => l_mv f rfl rfl fun a f => ?_
        have m := m.front 9 rfl
        have m : Mem W ee w (b7 :: b9 :: ei :: dH :: dJ :: c9 :: Itm.box cA 27 [cu, cw] :: cv :: cx :: Itm.box cc 27 [b6, b8] :: Itm.box bY 30 [bV] :: Itm.box aa 24 [v0_0] :: Itm.box ab 37 [v1_0, v1_1] :: Itm.box aA 27 [aB, aD] :: aC :: aE :: H) := m.front 9 rfl
        obtain ⟨ek, el, hd⟩ := bind_some hd
        refine l_res f rfl rfl Tryz.call15 (Wk.laws_markDecomp m ca cb el) fun em en eo w ep m eq a f => ?_
        obtain ⟨er, es, rfl, rfl, et, eu⟩ := eq
        have ej := Ow2.mono (RI.mono _) ep ej
        have dK := Ow2.mono (RI.mono _) ep dK
        have dL := Ow2.mono (RI.mono _) ep dL
        have da := Ow2.mono (RI.mono _) ep da
        have cy := Ow2.mono (RI.mono _) ep cy
        have cz := Ow2.mono (RI.mono _) ep cz
        have h0_0 := rd2 ep h0_0
        have h1_0 := rd2 ep h1_0
        have h1_1 := rd2 ep h1_1
        have bM := Ow.mono (RSl.mono (RI.mono _)) ep bM
        have bN := Ow.mono (RSl.mono (RI.mono _)) ep bN
        refine l_as f rfl rfl fun a f => l_nil (k_seq (k_seq (k_region ?_)))
        refine l_mv f rfl rfl fun a f => l_in f rfl rfl rfl b_lss fun a f => l_mv f rfl rfl fun a f => ?_
        obtain ⟨ev, ew, hd⟩ := bind_some hd
        refine l_cut 5 (fun a w => ∃ ex, GLe en ex ∧ Mem W ex w (er :: es :: ei :: dH :: dJ :: c9 :: Itm.box cA 27 [cu, cw] :: cv :: cx :: Itm.box cc 27 [b6, b8] :: Itm.box bY 30 [bV] :: Itm.box aa 24 [v0_0] :: Itm.box ab 37 [v1_0, v1_1] :: Itm.box aA 27 [aB, aD] :: aC :: aE :: H) ∧ Fr a 119 [(2, (.pointer (some ⟨aa, 0, none⟩))), (3, (.pointer (some ⟨ab, 0, none⟩))), (6, (.pointer (some ⟨aA, 0, none⟩))), (7, (.bool ay)), (8, (.pointer (some ⟨bY, 0, none⟩))), (9, (.pointer (some ⟨cc, 0, none⟩))), (10, (.pointer (some ⟨cA, 0, none⟩))), (11, (.bool cd.2.2)), (12, (.int .i64 ek.1)), (70, (.int .i64 ek.1)), (71, (.bool (decide (ek.1 < 0)))), (72, (.bool (decide (ek.1 < 0)))), (77, (.bool ev))]) ?_ ?_
        ·rcases cond_some ew with ⟨ey, ew⟩ | ⟨ey, ew⟩
         ·refine l_not' f rfl rfl rfl ey fun a f => ?_
          refine l_not' f rfl rfl rfl ey fun a f => l_not' f rfl rfl rfl ey fun a f => l_not' f rfl rfl rfl ey fun a f => l_op f rfl rfl rfl (r_pickT (f.eval rfl) ey (f.eval rfl)) fun a f => ?_
          obtain rfl := sj ew
          exact ⟨_, (GLe.refl _), m, f.weak ⟨rfl, rfl, rfl, rfl, rfl, rfl, rfl, rfl, rfl, rfl, rfl, rfl, rfl, trivial⟩⟩
         ·refine l_run f rfl rfl ey ?_
          refine l_boxAgg 6 0 (ds := [cu, cw]) m Ag27 f rfl rfl rfl rfl rfl fun a f => l_run f rfl rfl ey ?_
          refine l_boxAgg 13 0 (ds := [aB, aD]) m Ag27 f rfl rfl rfl rfl rfl fun a f => l_run f rfl rfl ey ?_
          obtain ⟨ez, eA, ew⟩ := bind_some ew
          refine l_res f rfl rfl Tryz.call12 (Ow2.lendCall (RI.mono _) 7 cy m rfl (fun eB eC m eD => (Ow2.lendCall (RI.mono _) 7 (Ow2.mono (RI.mono _) eC cz) m rfl (fun eE eF m eG => (Ow.lendCall (RSl.mono (RI.mono _)) 12 (Ow.mono (RSl.mono (RI.mono _)) eF (Ow.mono (RSl.mono (RI.mono _)) eC bM)) m rfl (fun eH eI m eJ => (Ow.lendCall (RSl.mono (RI.mono _)) 12 (Ow.mono (RSl.mono (RI.mono _)) eI (Ow.mono (RSl.mono (RI.mono _)) eF (Ow.mono (RSl.mono (RI.mono _)) eC bN))) m rfl (fun eK eL m eM => Wk.laws_eqDecomp m (rd2 eL (rd2 eI (rd2 eF eD))) (rd2 eL (rd2 eI eG)) (rd2 eL eJ) eM eA) (fun _ _ _ _ h => h))) (fun _ _ _ _ h => h))) (fun _ _ _ _ h => h))) (fun _ _ _ _ h => h)) fun eN eO eP w eQ m eR a f => ?_
          obtain ⟨rfl, rfl⟩ := eR
          have et := Ow2.mono (RI.mono _) eQ et
          have eu := Ow2.mono (RI.mono _) eQ eu
          have ej := Ow2.mono (RI.mono _) eQ ej
          have dK := Ow2.mono (RI.mono _) eQ dK
          have dL := Ow2.mono (RI.mono _) eQ dL
          have da := Ow2.mono (RI.mono _) eQ da
          have cy := Ow2.mono (RI.mono _) eQ cy
          have cz := Ow2.mono (RI.mono _) eQ cz
          have h0_0 := rd2 eQ h0_0
          have h1_0 := rd2 eQ h1_0
          have h1_1 := rd2 eQ h1_1
          have bM := Ow.mono (RSl.mono (RI.mono _)) eQ bM
          have bN := Ow.mono (RSl.mono (RI.mono _)) eQ bN
          refine l_run f rfl rfl ey ?_
          refine l_op f rfl rfl rfl (r_not (f.eval rfl)) fun a f => l_op f rfl rfl rfl (r_pickF (f.eval rfl) ey (f.eval rfl)) fun a f => ?_
          obtain rfl := sj ew
          exact ⟨_, eQ, m, f.weak ⟨rfl, rfl, rfl, rfl, rfl, rfl, rfl, rfl, rfl, rfl, rfl, rfl, rfl, trivial⟩⟩
        ·rintro a w ⟨ex, eS, m, f⟩
         have et := Ow2.mono (RI.mono _) eS et
         have eu := Ow2.mono (RI.mono _) eS eu
         have ej := Ow2.mono (RI.mono _) eS ej
         have dK := Ow2.mono (RI.mono _) eS dK
         have dL := Ow2.mono (RI.mono _) eS dL
         have da := Ow2.mono (RI.mono _) eS da
         have cy := Ow2.mono (RI.mono _) eS cy
         have cz := Ow2.mono (RI.mono _) eS cz
         have h0_0 := rd2 eS h0_0
         have h1_0 := rd2 eS h1_0
         have h1_1 := rd2 eS h1_1
         have bM := Ow.mono (RSl.mono (RI.mono _)) eS bM
         have bN := Ow.mono (RSl.mono (RI.mono _)) eS bN
         refine l_mv f rfl rfl fun a f => ?_
         refine l_cut 4 (fun a w => ∃ eT, GLe ex eT ∧ Mem W eT w (er :: es :: ei :: dH :: dJ :: c9 :: Itm.box cA 27 [cu, cw] :: cv :: cx :: Itm.box cc 27 [b6, b8] :: Itm.box bY 30 [bV] :: Itm.box aa 24 [v0_0] :: Itm.box ab 37 [v1_0, v1_1] :: Itm.box aA 27 [aB, aD] :: aC :: aE :: H) ∧ Fr a 119 [(2, (.pointer (some ⟨aa, 0, none⟩))), (3, (.pointer (some ⟨ab, 0, none⟩))), (6, (.pointer (some ⟨aA, 0, none⟩))), (7, (.bool ay)), (8, (.pointer (some ⟨bY, 0, none⟩))), (9, (.pointer (some ⟨cc, 0, none⟩))), (10, (.pointer (some ⟨cA, 0, none⟩))), (11, (.bool cd.2.2)), (12, (.int .i64 ek.1)), (70, (.int .i64 ek.1)), (71, (.bool (decide (ek.1 < 0)))), (72, (.bool (decide (ek.1 < 0)))), (77, (.bool ev)), (78, (.bool ev)), (82, (.bool (ev || (cd.2.2 != ay))))]) ?_ ?_
         ·rcases Bool.eq_false_or_eq_true ev with eU | eU
          ·refine l_not' f rfl rfl rfl eU fun a f => ?_
           refine l_not' f rfl rfl rfl eU fun a f => l_not' f rfl rfl rfl eU fun a f => l_op f rfl rfl rfl (r_pickT (f.eval rfl) eU (f.eval rfl)) fun a f => ?_
           exact ⟨_, (GLe.refl _), m, f.weak ⟨rfl, rfl, rfl, rfl, rfl, rfl, rfl, rfl, rfl, rfl, rfl, rfl, rfl, rfl, by rw [eU]; rfl, trivial⟩⟩
          ·refine l_run f rfl rfl eU ?_
           refine l_mv f rfl rfl fun a f => l_run f rfl rfl eU ?_
           refine l_mv f rfl rfl fun a f => l_run f rfl rfl eU ?_
           refine l_op f rfl rfl rfl (r_bool_neq (f.eval rfl) (f.eval rfl) Tryz.underlying4) fun a f => l_op f rfl rfl rfl (r_pickF (f.eval rfl) eU (f.eval rfl)) fun a f => ?_
           exact ⟨_, (GLe.refl _), m, f.weak ⟨rfl, rfl, rfl, rfl, rfl, rfl, rfl, rfl, rfl, rfl, rfl, rfl, rfl, rfl, by rw [eU]; rfl, trivial⟩⟩
         ·rintro a w ⟨eT, eV, m, f⟩
          have et := Ow2.mono (RI.mono _) eV et
          have eu := Ow2.mono (RI.mono _) eV eu
          have ej := Ow2.mono (RI.mono _) eV ej
          have dK := Ow2.mono (RI.mono _) eV dK
          have dL := Ow2.mono (RI.mono _) eV dL
          have da := Ow2.mono (RI.mono _) eV da
          have cy := Ow2.mono (RI.mono _) eV cy
          have cz := Ow2.mono (RI.mono _) eV cz
          have h0_0 := rd2 eV h0_0
          have h1_0 := rd2 eV h1_0
          have h1_1 := rd2 eV h1_1
          have bM := Ow.mono (RSl.mono (RI.mono _)) eV bM
          have bN := Ow.mono (RSl.mono (RI.mono _)) eV bN
          refine l_nil ?_
          rcases cond_some hd with ⟨eW, hd⟩ | ⟨eW, hd⟩
          ·refine k_true f rfl eW ?_
           refine k_seq (k_region ?_)
           refine l_as f rfl rfl fun a f => l_nil ?_
           refine k_ret ?_
           have m : Mem W eT w H := Mem.drop (H' := [er, es, ei, dH, dJ, c9, Itm.box cA 27 [cu, cw], cv, cx, Itm.box cc 27 [b6, b8], Itm.box bY 30 [bV], Itm.box aa 24 [v0_0], Itm.box ab 37 [v1_0, v1_1], Itm.box aA 27 [aB, aD], aC, aE]) m
           obtain rfl := sj hd
           exact ⟨[(.bool false)], ⟨f.get _ _ rfl, trivial⟩, f.defers, _, [], (GLe.trans ah (GLe.trans ap (GLe.trans bL (GLe.trans bT (GLe.trans b4 (GLe.trans cr (GLe.trans cS (GLe.trans cW (GLe.trans cZ (GLe.trans c6 (GLe.trans dc (GLe.trans dq (GLe.trans du (GLe.trans dx (GLe.trans dE (GLe.trans dN (GLe.trans d6 (GLe.trans d9 (GLe.trans eg (GLe.trans ep (GLe.trans eS eV))))))))))))))))))))), m, rfl, rfl⟩
          ·refine k_false f rfl eW ?_
           refine k_skip ?_
           refine k_seq (k_region ?_)
           refine l_as f rfl rfl fun a f => l_nil (k_seq (k_region ?_))
           refine l_boxAgg 6 0 (ds := [cu, cw]) m Ag27 f rfl rfl rfl rfl rfl fun a f => l_mv f rfl rfl fun a f => ?_
           have m := m.front 8 rfl
           have m : Mem W eT w (cv :: cx :: er :: es :: ei :: dH :: dJ :: c9 :: Itm.box cA 27 [cu, cw] :: Itm.box cc 27 [b6, b8] :: Itm.box bY 30 [bV] :: Itm.box aa 24 [v0_0] :: Itm.box ab 37 [v1_0, v1_1] :: Itm.box aA 27 [aB, aD] :: aC :: aE :: H) := m.front 8 rfl
           obtain ⟨eX, eY, hd⟩ := bind_some hd
           refine l_res f rfl rfl Tryz.call15 (Wk.laws_markDecomp m cy cz eY) fun eZ e0 e3 w e4 m e5 a f => ?_
           obtain ⟨e6, e7, rfl, rfl, e8, e9⟩ := e5
           have et := Ow2.mono (RI.mono _) e4 et
           have eu := Ow2.mono (RI.mono _) e4 eu
           have ej := Ow2.mono (RI.mono _) e4 ej
           have dK := Ow2.mono (RI.mono _) e4 dK
           have dL := Ow2.mono (RI.mono _) e4 dL
           have da := Ow2.mono (RI.mono _) e4 da
           have h0_0 := rd2 e4 h0_0
           have h1_0 := rd2 e4 h1_0
           have h1_1 := rd2 e4 h1_1
           have bM := Ow.mono (RSl.mono (RI.mono _)) e4 bM
           have bN := Ow.mono (RSl.mono (RI.mono _)) e4 bN
           refine l_as f rfl rfl fun a f => l_nil (k_seq (k_region ?_))
           refine l_as f rfl rfl fun a f => l_nil (k_seq (k_region ?_))
           refine l_boxAgg 8 0 (ds := [cu, cw]) m Ag27 f rfl rfl rfl rfl rfl fun a f => l_mv f rfl rfl fun a f => ?_
           obtain ⟨fa, fb, hd⟩ := bind_some hd
           refine l_res f rfl rfl Tryz.call16 (Ow2.lendCall (RI.mono _) 0 e8 m rfl (fun fc fd m fe => (Ow2.lendCall (RI.mono _) 0 (Ow2.mono (RI.mono _) fd e9) m rfl (fun ff fg m fh => Wk.laws_heldDecomp m (rd2 fg fe) fh fb) (fun _ _ _ _ h => h))) (fun _ _ _ _ h => h)) fun fi fj fk w fl m fm a f => ?_
           obtain ⟨rfl, rfl⟩ := fm
           have e8 := Ow2.mono (RI.mono _) fl e8
           have e9 := Ow2.mono (RI.mono _) fl e9
           have et := Ow2.mono (RI.mono _) fl et
           have eu := Ow2.mono (RI.mono _) fl eu
           have ej := Ow2.mono (RI.mono _) fl ej
           have dK := Ow2.mono (RI.mono _) fl dK
           have dL := Ow2.mono (RI.mono _) fl dL
           have da := Ow2.mono (RI.mono _) fl da
           have h0_0 := rd2 fl h0_0
           have h1_0 := rd2 fl h1_0
           have h1_1 := rd2 fl h1_1
           have bM := Ow.mono (RSl.mono (RI.mono _)) fl bM
           have bN := Ow.mono (RSl.mono (RI.mono _)) fl bN
           refine l_as f rfl rfl fun a f => l_nil (k_seq (k_seq (k_region ?_)))
           refine l_mv f rfl rfl fun a f => l_in f rfl rfl rfl b_lss fun a f => l_nil ?_
           rcases cond_some hd with ⟨fo, hd⟩ | ⟨fo, hd⟩
           ·refine k_true f rfl fo ?_
            refine k_seq (k_region ?_)
            refine l_as f rfl rfl fun a f => l_nil ?_
            refine k_ret ?_
            have m : Mem W fj w H := Mem.drop (H' := [e6, e7, er, es, ei, dH, dJ, c9, Itm.box cA 27 [cu, cw], Itm.box cc 27 [b6, b8], Itm.box bY 30 [bV], Itm.box aa 24 [v0_0], Itm.box ab 37 [v1_0, v1_1], Itm.box aA 27 [aB, aD], aC, aE]) m
            obtain rfl := sj hd
            exact ⟨[(.bool false)], ⟨f.get _ _ rfl, trivial⟩, f.defers, _, [], (GLe.trans ah (GLe.trans ap (GLe.trans bL (GLe.trans bT (GLe.trans b4 (GLe.trans cr (GLe.trans cS (GLe.trans cW (GLe.trans cZ (GLe.trans c6 (GLe.trans dc (GLe.trans dq (GLe.trans du (GLe.trans dx (GLe.trans dE (GLe.trans dN (GLe.trans d6 (GLe.trans d9 (GLe.trans eg (GLe.trans ep (GLe.trans eS (GLe.trans eV (GLe.trans e4 fl))))))))))))))))))))))), m, rfl, rfl⟩
           ·refine k_false f rfl fo ?_
            refine k_skip ?_
            refine k_seq (k_seq (k_region ?_))
            refine l_mv f rfl rfl fun a f => l_mv f rfl rfl fun a f => l_in f rfl rfl rfl b_neq fun a f => l_nil ?_
            rcases cond_some hd with ⟨fp, hd⟩ | ⟨fp, hd⟩
            ·refine k_true f rfl fp ?_
             refine k_seq (k_region ?_)
             refine l_as f rfl rfl fun a f => l_nil ?_
             refine k_ret ?_
             have m : Mem W fj w H := Mem.drop (H' := [e6, e7, er, es, ei, dH, dJ, c9, Itm.box cA 27 [cu, cw], Itm.box cc 27 [b6, b8], Itm.box bY 30 [bV], Itm.box aa 24 [v0_0], Itm.box ab 37 [v1_0, v1_1], Itm.box aA 27 [aB, aD], aC, aE]) m
             obtain rfl := sj hd
             exact ⟨[(.bool false)], ⟨f.get _ _ rfl, trivial⟩, f.defers, _, [], (GLe.trans ah (GLe.trans ap (GLe.trans bL (GLe.trans bT (GLe.trans b4 (GLe.trans cr (GLe.trans cS (GLe.trans cW (GLe.trans cZ (GLe.trans c6 (GLe.trans dc (GLe.trans dq (GLe.trans du (GLe.trans dx (GLe.trans dE (GLe.trans dN (GLe.trans d6 (GLe.trans d9 (GLe.trans eg (GLe.trans ep (GLe.trans eS (GLe.trans eV (GLe.trans e4 fl))))))))))))))))))))))), m, rfl, rfl⟩
            ·refine k_false f rfl fp ?_
             refine k_skip ?_
             refine k_seq ?_
             obtain ⟨fq, fr, hd⟩ := bind_some hd
             refine k_cut (fun a w => ∃ fs : List (List Int), ∃ ft : List (List Int), ∃ fu : Bool, (fs, ft, fu) = fq ∧ ∃ (fv : GH) (fw : Nat) (fx : Value) (fy : Itm) (fz : Value) (fA : Itm), GLe fj fv ∧ Fr a 119 [(6, (.pointer (some ⟨aA, 0, none⟩))), (7, (.bool ay)), (10, (.pointer (some ⟨cA, 0, none⟩))), (13, (.int .i64 eX.1)), (15, (.pointer (some ⟨fw, 0, none⟩))), (16, (.bool fu))] ∧ Mem W fv w (Itm.box aA 27 [aB, aD] :: Itm.box cA 27 [cu, cw] :: Itm.box fw 27 [fx, fz] :: fy :: fA :: aC :: aE :: e6 :: e7 :: H) ∧ Ow2 (RI .i64) 42 2 fv fy fx fs ∧ Ow2 (RI .i64) 42 2 fv fA fz ft) ?_ ?_
             ·refine k_draw 10 Follows (by kernel_rfl) m ?_
              refine q_boxAgg (i := 0) (ds := [v0_0]) 10 11 Ag24 rfl rfl rfl rfl (by kernel_rfl) rfl f rfl rfl rfl fun a f => q_boxAgg (i := 2) (ds := [v1_0, v1_1]) 10 12 Ag37 rfl rfl rfl rfl (by kernel_rfl) rfl f rfl rfl rfl fun a f => q_two (i := 1) (j := 8) (l1 := #[true, true, true, false, false, false, false, false, false, false, false]) (l2 := #[true, false, true, false, false, false, false, false, true, false, false]) rfl rfl (by kernel_rfl) rfl rfl ?_ ?_
              ·intro fB w fC m fD fD
               have h0_0 := rd2 fC h0_0
               have h1_0 := rd2 fC h1_0
               have h1_1 := rd2 fC h1_1
               have e8 := Ow2.mono (RI.mono _) fC e8
               have e9 := Ow2.mono (RI.mono _) fC e9
               have et := Ow2.mono (RI.mono _) fC et
               have eu := Ow2.mono (RI.mono _) fC eu
               have ej := Ow2.mono (RI.mono _) fC ej
               have dK := Ow2.mono (RI.mono _) fC dK
               have dL := Ow2.mono (RI.mono _) fC dL
               have da := Ow2.mono (RI.mono _) fC da
               have bM := Ow.mono (RSl.mono (RI.mono _)) fC bM
               have bN := Ow.mono (RSl.mono (RI.mono _)) fC bN
               obtain ⟨fE, fF, fr⟩ := bind_some fr
               refine l_res f rfl rfl Tryz.call10 (Wk.laws_toGraph m h0_0 fF) fun fG fH fI w fJ m fK a f => ?_
               obtain ⟨fL, fM, rfl, rfl, fN⟩ := fK
               have h0_0 := rd2 fJ h0_0
               have h1_0 := rd2 fJ h1_0
               have h1_1 := rd2 fJ h1_1
               have e8 := Ow2.mono (RI.mono _) fJ e8
               have e9 := Ow2.mono (RI.mono _) fJ e9
               have et := Ow2.mono (RI.mono _) fJ et
               have eu := Ow2.mono (RI.mono _) fJ eu
               have ej := Ow2.mono (RI.mono _) fJ ej
               have dK := Ow2.mono (RI.mono _) fJ dK
               have dL := Ow2.mono (RI.mono _) fJ dL
               have da := Ow2.mono (RI.mono _) fJ da
               have bM := Ow.mono (RSl.mono (RI.mono _)) fJ bM
               have bN := Ow.mono (RSl.mono (RI.mono _)) fJ bN
               refine l_nil ?_
               refine fD fH [fM] _ _ fJ m ?_
               refine q_two (i := 3) (j := 8) (l1 := #[true, true, true, true, false, false, false, false, false, false, false]) (l2 := #[true, true, true, false, false, false, false, false, true, false, false]) rfl rfl (by kernel_rfl) rfl rfl ?_ ?_
               ·intro fO w fP m fQ fQ
                have h0_0 := rd2 fP h0_0
                have h1_0 := rd2 fP h1_0
                have h1_1 := rd2 fP h1_1
                have fN := Ow2.mono (RI.mono _) fP fN
                have e8 := Ow2.mono (RI.mono _) fP e8
                have e9 := Ow2.mono (RI.mono _) fP e9
                have et := Ow2.mono (RI.mono _) fP et
                have eu := Ow2.mono (RI.mono _) fP eu
                have ej := Ow2.mono (RI.mono _) fP ej
                have dK := Ow2.mono (RI.mono _) fP dK
                have dL := Ow2.mono (RI.mono _) fP dL
                have da := Ow2.mono (RI.mono _) fP da
                have bM := Ow.mono (RSl.mono (RI.mono _)) fP bM
                have bN := Ow.mono (RSl.mono (RI.mono _)) fP bN
                obtain ⟨fR, fS, fr⟩ := bind_some fr
                refine l_res f rfl rfl Tryz.call19 (Wk.laws_toDecomp m h1_0 h1_1 fS) fun fT fU fV w fW m fX a f => ?_
                obtain ⟨fY, fZ, f0, f1, rfl, rfl, f2, f3⟩ := fX
                have h0_0 := rd2 fW h0_0
                have h1_0 := rd2 fW h1_0
                have h1_1 := rd2 fW h1_1
                have fN := Ow2.mono (RI.mono _) fW fN
                have e8 := Ow2.mono (RI.mono _) fW e8
                have e9 := Ow2.mono (RI.mono _) fW e9
                have et := Ow2.mono (RI.mono _) fW et
                have eu := Ow2.mono (RI.mono _) fW eu
                have ej := Ow2.mono (RI.mono _) fW ej
                have dK := Ow2.mono (RI.mono _) fW dK
                have dL := Ow2.mono (RI.mono _) fW dL
                have da := Ow2.mono (RI.mono _) fW da
                have bM := Ow.mono (RSl.mono (RI.mono _)) fW bM
                have bN := Ow.mono (RSl.mono (RI.mono _)) fW bN
                refine l_nil ?_
                refine fQ fU [fZ, f1, fM] _ _ fW m ?_
                refine q_two (i := 4) (j := 8) (l1 := #[true, true, true, true, true, false, false, false, false, false, false]) (l2 := #[true, true, true, true, false, false, false, false, true, false, false]) rfl rfl (by kernel_rfl) rfl rfl ?_ ?_
                ·intro f4 w f5 m f6 f6
                 have h0_0 := rd2 f5 h0_0
                 have h1_0 := rd2 f5 h1_0
                 have h1_1 := rd2 f5 h1_1
                 have f2 := Ow2.mono (RI.mono _) f5 f2
                 have f3 := Ow2.mono (RI.mono _) f5 f3
                 have fN := Ow2.mono (RI.mono _) f5 fN
                 have e8 := Ow2.mono (RI.mono _) f5 e8
                 have e9 := Ow2.mono (RI.mono _) f5 e9
                 have et := Ow2.mono (RI.mono _) f5 et
                 have eu := Ow2.mono (RI.mono _) f5 eu
                 have ej := Ow2.mono (RI.mono _) f5 ej
                 have dK := Ow2.mono (RI.mono _) f5 dK
                 have dL := Ow2.mono (RI.mono _) f5 dL
                 have da := Ow2.mono (RI.mono _) f5 da
                 have bM := Ow.mono (RSl.mono (RI.mono _)) f5 bM
                 have bN := Ow.mono (RSl.mono (RI.mono _)) f5 bN
                 obtain ⟨f7, f8, fr⟩ := bind_some fr
                 refine l_res f rfl rfl Tryz.call20 (Ow2.lendCall (RI.mono _) 2 fN m rfl (fun f9 ga m gb => (Ow2.lendCall (RI.mono _) 0 (Ow2.mono (RI.mono _) ga f2) m rfl (fun gc gd m ge => (Ow2.lendCall (RI.mono _) 0 (Ow2.mono (RI.mono _) gd (Ow2.mono (RI.mono _) ga f3)) m rfl (fun gf gg m gh => Wk.impl_TidiedDecomp hW m (rd2 gg (rd2 gd gb)) (rd2 gg ge) gh f8) (fun _ G' _ _ ⟨a0, a1, a2, a3, e1, e2, o0, o1⟩ => ⟨a0, a1, a2, a3, e1, e2, Ow2.free (RI.free _) G' o0, Ow2.free (RI.free _) G' o1⟩))) (fun _ G' _ _ ⟨a0, a1, a2, a3, e1, e2, o0, o1⟩ => ⟨a0, a1, a2, a3, e1, e2, Ow2.free (RI.free _) G' o0, Ow2.free (RI.free _) G' o1⟩))) (fun _ G' _ _ ⟨a0, a1, a2, a3, e1, e2, o0, o1⟩ => ⟨a0, a1, a2, a3, e1, e2, Ow2.free (RI.free _) G' o0, Ow2.free (RI.free _) G' o1⟩)) fun gi gj gk w gl m gm a f => ?_
                 obtain ⟨gn, go, gp, gq, rfl, rfl, gr, gs⟩ := gm
                 have h0_0 := rd2 gl h0_0
                 have h1_0 := rd2 gl h1_0
                 have h1_1 := rd2 gl h1_1
                 have f2 := Ow2.mono (RI.mono _) gl f2
                 have f3 := Ow2.mono (RI.mono _) gl f3
                 have fN := Ow2.mono (RI.mono _) gl fN
                 have e8 := Ow2.mono (RI.mono _) gl e8
                 have e9 := Ow2.mono (RI.mono _) gl e9
                 have et := Ow2.mono (RI.mono _) gl et
                 have eu := Ow2.mono (RI.mono _) gl eu
                 have ej := Ow2.mono (RI.mono _) gl ej
                 have dK := Ow2.mono (RI.mono _) gl dK
                 have dL := Ow2.mono (RI.mono _) gl dL
                 have da := Ow2.mono (RI.mono _) gl da
                 have bM := Ow.mono (RSl.mono (RI.mono _)) gl bM
                 have bN := Ow.mono (RSl.mono (RI.mono _)) gl bN
                 refine l_nil ?_
                 refine f6 gj [go, gq, fZ, f1, fM] _ _ gl m ?_
                 refine q_mv 5 10 rfl (by kernel_rfl) f rfl rfl rfl fun a f => q_p 6 10 rfl (by kernel_rfl) f rfl rfl rfl (fun _ => r_extract (f.eval rfl) rfl) fun a f => q_p 7 10 rfl (by kernel_rfl) f rfl rfl rfl (fun _ => r_extract (f.eval rfl) rfl) fun a f => q_one (i := 8) rfl (by kernel_rfl) rfl fun gt w gu m gv gv => ?_
                 have h0_0 := rd2 gu h0_0
                 have h1_0 := rd2 gu h1_0
                 have h1_1 := rd2 gu h1_1
                 have gr := Ow2.mono (RI.mono _) gu gr
                 have gs := Ow2.mono (RI.mono _) gu gs
                 have f2 := Ow2.mono (RI.mono _) gu f2
                 have f3 := Ow2.mono (RI.mono _) gu f3
                 have fN := Ow2.mono (RI.mono _) gu fN
                 have e8 := Ow2.mono (RI.mono _) gu e8
                 have e9 := Ow2.mono (RI.mono _) gu e9
                 have et := Ow2.mono (RI.mono _) gu et
                 have eu := Ow2.mono (RI.mono _) gu eu
                 have ej := Ow2.mono (RI.mono _) gu ej
                 have dK := Ow2.mono (RI.mono _) gu dK
                 have dL := Ow2.mono (RI.mono _) gu dL
                 have da := Ow2.mono (RI.mono _) gu da
                 have bM := Ow.mono (RSl.mono (RI.mono _)) gu bM
                 have bN := Ow.mono (RSl.mono (RI.mono _)) gu bN
                 refine l_alloc (cs := [(.slice none 0 0), (.slice none 0 0)]) Tryz.zeroValue27 m f rfl rfl fun gw w a m f => l_nil ?_
                 refine gv gt [Itm.box gw 27 [(.slice none 0 0), (.slice none 0 0)], go, gq, fZ, f1, fM] _ _ (GLe.refl _) m ?_
                 refine q_one (i := 9) rfl (by kernel_rfl) rfl fun gx w gy m gz gz => ?_
                 have h0_0 := rd2 gy h0_0
                 have h1_0 := rd2 gy h1_0
                 have h1_1 := rd2 gy h1_1
                 have gr := Ow2.mono (RI.mono _) gy gr
                 have gs := Ow2.mono (RI.mono _) gy gs
                 have f2 := Ow2.mono (RI.mono _) gy f2
                 have f3 := Ow2.mono (RI.mono _) gy f3
                 have fN := Ow2.mono (RI.mono _) gy fN
                 have e8 := Ow2.mono (RI.mono _) gy e8
                 have e9 := Ow2.mono (RI.mono _) gy e9
                 have et := Ow2.mono (RI.mono _) gy et
                 have eu := Ow2.mono (RI.mono _) gy eu
                 have ej := Ow2.mono (RI.mono _) gy ej
                 have dK := Ow2.mono (RI.mono _) gy dK
                 have dL := Ow2.mono (RI.mono _) gy dL
                 have da := Ow2.mono (RI.mono _) gy da
                 have bM := Ow.mono (RSl.mono (RI.mono _)) gy bM
                 have bN := Ow.mono (RSl.mono (RI.mono _)) gy bN
                 refine l_boxStore 0 0 (ds := [gn, gp]) m Tryz.sizeOf27 f rfl rfl rfl (ones_cons (Ow2.one1 1 m gr rfl) (ones_cons (Ow2.one1 2 m gs rfl) ones_nil)) rfl (Nat.le_of_ble_eq_true rfl) rfl fun w m => l_nil ?_
                 refine gz gx [Itm.box gw 27 [gn, gp], go, gq, fZ, f1, fM] _ _ (GLe.refl _) m ?_
                 refine q_end fun gA w gB m => ?_
                 have h0_0 := rd2 gB h0_0
                 have h1_0 := rd2 gB h1_0
                 have h1_1 := rd2 gB h1_1
                 have gr := Ow2.mono (RI.mono _) gB gr
                 have gs := Ow2.mono (RI.mono _) gB gs
                 have f2 := Ow2.mono (RI.mono _) gB f2
                 have f3 := Ow2.mono (RI.mono _) gB f3
                 have fN := Ow2.mono (RI.mono _) gB fN
                 have e8 := Ow2.mono (RI.mono _) gB e8
                 have e9 := Ow2.mono (RI.mono _) gB e9
                 have et := Ow2.mono (RI.mono _) gB et
                 have eu := Ow2.mono (RI.mono _) gB eu
                 have ej := Ow2.mono (RI.mono _) gB ej
                 have dK := Ow2.mono (RI.mono _) gB dK
                 have dL := Ow2.mono (RI.mono _) gB dL
                 have da := Ow2.mono (RI.mono _) gB da
                 have bM := Ow.mono (RSl.mono (RI.mono _)) gB bM
                 have bN := Ow.mono (RSl.mono (RI.mono _)) gB bN
                 refine l_as f rfl rfl fun a f => l_nil ?_
                 have m := m.front 7 rfl
                 have m := m.front 7 rfl
                 have m : Mem W gA w (aE :: e6 :: e7 :: Itm.box gw 27 [gn, gp] :: go :: gq :: fZ :: f1 :: fM :: er :: es :: ei :: dH :: dJ :: c9 :: Itm.box cA 27 [cu, cw] :: Itm.box cc 27 [b6, b8] :: Itm.box bY 30 [bV] :: Itm.box aa 24 [v0_0] :: Itm.box ab 37 [v1_0, v1_1] :: Itm.box aA 27 [aB, aD] :: aC :: H) := m.front 21 rfl
                 have m := m.front 21 rfl
                 have m := m.front 6 rfl
                 have m : Mem W gA w (go :: gq :: aC :: aE :: e6 :: e7 :: Itm.box gw 27 [gn, gp] :: fZ :: f1 :: fM :: er :: es :: ei :: dH :: dJ :: c9 :: Itm.box cA 27 [cu, cw] :: Itm.box cc 27 [b6, b8] :: Itm.box bY 30 [bV] :: Itm.box aa 24 [v0_0] :: Itm.box ab 37 [v1_0, v1_1] :: Itm.box aA 27 [aB, aD] :: H) := m.front 6 rfl
                 have m := m.front 6 rfl
                 have m := m.front 16 rfl
                 have m : Mem W gA w (Itm.box aA 27 [aB, aD] :: Itm.box cA 27 [cu, cw] :: Itm.box gw 27 [gn, gp] :: go :: gq :: aC :: aE :: e6 :: e7 :: fZ :: f1 :: fM :: er :: es :: ei :: dH :: dJ :: c9 :: Itm.box cc 27 [b6, b8] :: Itm.box bY 30 [bV] :: Itm.box aa 24 [v0_0] :: Itm.box ab 37 [v1_0, v1_1] :: H) := m.front 21 rfl
                 have m := m.eraseAt 21
                 have m := m.eraseAt 20
                 have m : Mem W gA w (Itm.box aA 27 [aB, aD] :: Itm.box cA 27 [cu, cw] :: Itm.box gw 27 [gn, gp] :: go :: gq :: aC :: aE :: e6 :: e7 :: fZ :: f1 :: fM :: er :: es :: ei :: dH :: dJ :: c9 :: Itm.box cc 27 [b6, b8] :: H) := m.eraseAt 19
                 have m := m.eraseAt 18
                 have m := m.eraseAt 17
                 have m : Mem W gA w (Itm.box aA 27 [aB, aD] :: Itm.box cA 27 [cu, cw] :: Itm.box gw 27 [gn, gp] :: go :: gq :: aC :: aE :: e6 :: e7 :: fZ :: f1 :: fM :: er :: es :: ei :: dH :: H) := m.eraseAt 16
                 have m := m.eraseAt 15
                 have m := m.eraseAt 14
                 have m : Mem W gA w (Itm.box aA 27 [aB, aD] :: Itm.box cA 27 [cu, cw] :: Itm.box gw 27 [gn, gp] :: go :: gq :: aC :: aE :: e6 :: e7 :: fZ :: f1 :: fM :: er :: H) := m.eraseAt 13
                 have m := m.eraseAt 12
                 have m := m.eraseAt 11
                 have m : Mem W gA w (Itm.box aA 27 [aB, aD] :: Itm.box cA 27 [cu, cw] :: Itm.box gw 27 [gn, gp] :: go :: gq :: aC :: aE :: e6 :: e7 :: fZ :: H) := m.eraseAt 10
                 have m : Mem W gA w (Itm.box aA 27 [aB, aD] :: Itm.box cA 27 [cu, cw] :: Itm.box gw 27 [gn, gp] :: go :: gq :: aC :: aE :: e6 :: e7 :: H) := m.eraseAt 9
                 obtain rfl := sj fr
                 exact ⟨_, _, _, rfl, _, gw, gn, go, gp, gq, (GLe.trans fC (GLe.trans fJ (GLe.trans fP (GLe.trans fW (GLe.trans f5 (GLe.trans gl (GLe.trans gu (GLe.trans gy gB)))))))), f.weak ⟨rfl, rfl, rfl, rfl, rfl, rfl, trivial⟩, m, gr, gs⟩
                ·intro gt w gu m gv gv
                 obtain ⟨f7, f8, fr⟩ := bind_some fr
                 have h0_0 := rd2 gu h0_0
                 have h1_0 := rd2 gu h1_0
                 have h1_1 := rd2 gu h1_1
                 have f2 := Ow2.mono (RI.mono _) gu f2
                 have f3 := Ow2.mono (RI.mono _) gu f3
                 have fN := Ow2.mono (RI.mono _) gu fN
                 have e8 := Ow2.mono (RI.mono _) gu e8
                 have e9 := Ow2.mono (RI.mono _) gu e9
                 have et := Ow2.mono (RI.mono _) gu et
                 have eu := Ow2.mono (RI.mono _) gu eu
                 have ej := Ow2.mono (RI.mono _) gu ej
                 have dK := Ow2.mono (RI.mono _) gu dK
                 have dL := Ow2.mono (RI.mono _) gu dL
                 have da := Ow2.mono (RI.mono _) gu da
                 have bM := Ow.mono (RSl.mono (RI.mono _)) gu bM
                 have bN := Ow.mono (RSl.mono (RI.mono _)) gu bN
                 refine l_alloc (cs := [(.slice none 0 0), (.slice none 0 0)]) Tryz.zeroValue27 m f rfl rfl fun gw w a m f => l_nil ?_
                 refine gv gt [Itm.box gw 27 [(.slice none 0 0), (.slice none 0 0)], fZ, f1, fM] _ _ (GLe.refl _) m ?_
                 refine q_one (i := 4) rfl (by kernel_rfl) rfl fun f4 w f5 m f6 f6 => ?_
                 have h0_0 := rd2 f5 h0_0
                 have h1_0 := rd2 f5 h1_0
                 have h1_1 := rd2 f5 h1_1
                 have f2 := Ow2.mono (RI.mono _) f5 f2
                 have f3 := Ow2.mono (RI.mono _) f5 f3
                 have fN := Ow2.mono (RI.mono _) f5 fN
                 have e8 := Ow2.mono (RI.mono _) f5 e8
                 have e9 := Ow2.mono (RI.mono _) f5 e9
                 have et := Ow2.mono (RI.mono _) f5 et
                 have eu := Ow2.mono (RI.mono _) f5 eu
                 have ej := Ow2.mono (RI.mono _) f5 ej
                 have dK := Ow2.mono (RI.mono _) f5 dK
                 have dL := Ow2.mono (RI.mono _) f5 dL
                 have da := Ow2.mono (RI.mono _) f5 da
                 have bM := Ow.mono (RSl.mono (RI.mono _)) f5 bM
                 have bN := Ow.mono (RSl.mono (RI.mono _)) f5 bN
                 refine l_res f rfl rfl Tryz.call20 (Ow2.lendCall (RI.mono _) 3 fN m rfl (fun f9 ga m gb => (Ow2.lendCall (RI.mono _) 1 (Ow2.mono (RI.mono _) ga f2) m rfl (fun gc gd m ge => (Ow2.lendCall (RI.mono _) 1 (Ow2.mono (RI.mono _) gd (Ow2.mono (RI.mono _) ga f3)) m rfl (fun gf gg m gh => Wk.impl_TidiedDecomp hW m (rd2 gg (rd2 gd gb)) (rd2 gg ge) gh f8) (fun _ G' _ _ ⟨a0, a1, a2, a3, e1, e2, o0, o1⟩ => ⟨a0, a1, a2, a3, e1, e2, Ow2.free (RI.free _) G' o0, Ow2.free (RI.free _) G' o1⟩))) (fun _ G' _ _ ⟨a0, a1, a2, a3, e1, e2, o0, o1⟩ => ⟨a0, a1, a2, a3, e1, e2, Ow2.free (RI.free _) G' o0, Ow2.free (RI.free _) G' o1⟩))) (fun _ G' _ _ ⟨a0, a1, a2, a3, e1, e2, o0, o1⟩ => ⟨a0, a1, a2, a3, e1, e2, Ow2.free (RI.free _) G' o0, Ow2.free (RI.free _) G' o1⟩)) fun gi gj gk w gl m gm a f => ?_
                 obtain ⟨gn, go, gp, gq, rfl, rfl, gr, gs⟩ := gm
                 have h0_0 := rd2 gl h0_0
                 have h1_0 := rd2 gl h1_0
                 have h1_1 := rd2 gl h1_1
                 have f2 := Ow2.mono (RI.mono _) gl f2
                 have f3 := Ow2.mono (RI.mono _) gl f3
                 have fN := Ow2.mono (RI.mono _) gl fN
                 have e8 := Ow2.mono (RI.mono _) gl e8
                 have e9 := Ow2.mono (RI.mono _) gl e9
                 have et := Ow2.mono (RI.mono _) gl et
                 have eu := Ow2.mono (RI.mono _) gl eu
                 have ej := Ow2.mono (RI.mono _) gl ej
                 have dK := Ow2.mono (RI.mono _) gl dK
                 have dL := Ow2.mono (RI.mono _) gl dL
                 have da := Ow2.mono (RI.mono _) gl da
                 have bM := Ow.mono (RSl.mono (RI.mono _)) gl bM
                 have bN := Ow.mono (RSl.mono (RI.mono _)) gl bN
                 refine l_nil ?_
                 refine f6 gj [go, gq, Itm.box gw 27 [(.slice none 0 0), (.slice none 0 0)], fZ, f1, fM] _ _ gl m ?_
                 refine q_mv 5 10 rfl (by kernel_rfl) f rfl rfl rfl fun a f => q_p 6 10 rfl (by kernel_rfl) f rfl rfl rfl (fun _ => r_extract (f.eval rfl) rfl) fun a f => q_p 7 10 rfl (by kernel_rfl) f rfl rfl rfl (fun _ => r_extract (f.eval rfl) rfl) fun a f => q_one (i := 9) rfl (by kernel_rfl) rfl fun gx w gy m gz gz => ?_
                 have h0_0 := rd2 gy h0_0
                 have h1_0 := rd2 gy h1_0
                 have h1_1 := rd2 gy h1_1
                 have gr := Ow2.mono (RI.mono _) gy gr
                 have gs := Ow2.mono (RI.mono _) gy gs
                 have f2 := Ow2.mono (RI.mono _) gy f2
                 have f3 := Ow2.mono (RI.mono _) gy f3
                 have fN := Ow2.mono (RI.mono _) gy fN
                 have e8 := Ow2.mono (RI.mono _) gy e8
                 have e9 := Ow2.mono (RI.mono _) gy e9
                 have et := Ow2.mono (RI.mono _) gy et
                 have eu := Ow2.mono (RI.mono _) gy eu
                 have ej := Ow2.mono (RI.mono _) gy ej
                 have dK := Ow2.mono (RI.mono _) gy dK
                 have dL := Ow2.mono (RI.mono _) gy dL
                 have da := Ow2.mono (RI.mono _) gy da
                 have bM := Ow.mono (RSl.mono (RI.mono _)) gy bM
                 have bN := Ow.mono (RSl.mono (RI.mono _)) gy bN
                 refine l_boxStore 2 0 (ds := [gn, gp]) m Tryz.sizeOf27 f rfl rfl rfl (ones_cons (Ow2.one1 0 m gr rfl) (ones_cons (Ow2.one1 1 m gs rfl) ones_nil)) rfl (Nat.le_of_ble_eq_true rfl) rfl fun w m => l_nil ?_
                 refine gz gx [go, gq, Itm.box gw 27 [gn, gp], fZ, f1, fM] _ _ (GLe.refl _) m ?_
                 refine q_end fun gA w gB m => ?_
                 have h0_0 := rd2 gB h0_0
                 have h1_0 := rd2 gB h1_0
                 have h1_1 := rd2 gB h1_1
                 have gr := Ow2.mono (RI.mono _) gB gr
                 have gs := Ow2.mono (RI.mono _) gB gs
                 have f2 := Ow2.mono (RI.mono _) gB f2
                 have f3 := Ow2.mono (RI.mono _) gB f3
                 have fN := Ow2.mono (RI.mono _) gB fN
                 have e8 := Ow2.mono (RI.mono _) gB e8
                 have e9 := Ow2.mono (RI.mono _) gB e9
                 have et := Ow2.mono (RI.mono _) gB et
                 have eu := Ow2.mono (RI.mono _) gB eu
                 have ej := Ow2.mono (RI.mono _) gB ej
                 have dK := Ow2.mono (RI.mono _) gB dK
                 have dL := Ow2.mono (RI.mono _) gB dL
                 have da := Ow2.mono (RI.mono _) gB da
                 have bM := Ow.mono (RSl.mono (RI.mono _)) gB bM
                 have bN := Ow.mono (RSl.mono (RI.mono _)) gB bN
                 refine l_as f rfl rfl fun a f => l_nil ?_
                 have m := m.front 7 rfl
                 have m := m.front 7 rfl
                 have m : Mem W gA w (aE :: e6 :: e7 :: go :: gq :: Itm.box gw 27 [gn, gp] :: fZ :: f1 :: fM :: er :: es :: ei :: dH :: dJ :: c9 :: Itm.box cA 27 [cu, cw] :: Itm.box cc 27 [b6, b8] :: Itm.box bY 30 [bV] :: Itm.box aa 24 [v0_0] :: Itm.box ab 37 [v1_0, v1_1] :: Itm.box aA 27 [aB, aD] :: aC :: H) := m.front 21 rfl
                 have m := m.front 21 rfl
                 have m := m.front 5 rfl
                 have m : Mem W gA w (go :: gq :: aC :: aE :: e6 :: e7 :: Itm.box gw 27 [gn, gp] :: fZ :: f1 :: fM :: er :: es :: ei :: dH :: dJ :: c9 :: Itm.box cA 27 [cu, cw] :: Itm.box cc 27 [b6, b8] :: Itm.box bY 30 [bV] :: Itm.box aa 24 [v0_0] :: Itm.box ab 37 [v1_0, v1_1] :: Itm.box aA 27 [aB, aD] :: H) := m.front 5 rfl
                 have m := m.front 6 rfl
                 have m := m.front 16 rfl
                 have m : Mem W gA w (Itm.box aA 27 [aB, aD] :: Itm.box cA 27 [cu, cw] :: Itm.box gw 27 [gn, gp] :: go :: gq :: aC :: aE :: e6 :: e7 :: fZ :: f1 :: fM :: er :: es :: ei :: dH :: dJ :: c9 :: Itm.box cc 27 [b6, b8] :: Itm.box bY 30 [bV] :: Itm.box aa 24 [v0_0] :: Itm.box ab 37 [v1_0, v1_1] :: H) := m.front 21 rfl
                 have m := m.eraseAt 21
                 have m := m.eraseAt 20
                 have m : Mem W gA w (Itm.box aA 27 [aB, aD] :: Itm.box cA 27 [cu, cw] :: Itm.box gw 27 [gn, gp] :: go :: gq :: aC :: aE :: e6 :: e7 :: fZ :: f1 :: fM :: er :: es :: ei :: dH :: dJ :: c9 :: Itm.box cc 27 [b6, b8] :: H) := m.eraseAt 19
                 have m := m.eraseAt 18
                 have m := m.eraseAt 17
                 have m : Mem W gA w (Itm.box aA 27 [aB, aD] :: Itm.box cA 27 [cu, cw] :: Itm.box gw 27 [gn, gp] :: go :: gq :: aC :: aE :: e6 :: e7 :: fZ :: f1 :: fM :: er :: es :: ei :: dH :: H) := m.eraseAt 16
                 have m := m.eraseAt 15
                 have m := m.eraseAt 14
                 have m : Mem W gA w (Itm.box aA 27 [aB, aD] :: Itm.box cA 27 [cu, cw] :: Itm.box gw 27 [gn, gp] :: go :: gq :: aC :: aE :: e6 :: e7 :: fZ :: f1 :: fM :: er :: H) := m.eraseAt 13
                 have m := m.eraseAt 12
                 have m := m.eraseAt 11
                 have m : Mem W gA w (Itm.box aA 27 [aB, aD] :: Itm.box cA 27 [cu, cw] :: Itm.box gw 27 [gn, gp] :: go :: gq :: aC :: aE :: e6 :: e7 :: fZ :: H) := m.eraseAt 10
                 have m : Mem W gA w (Itm.box aA 27 [aB, aD] :: Itm.box cA 27 [cu, cw] :: Itm.box gw 27 [gn, gp] :: go :: gq :: aC :: aE :: e6 :: e7 :: H) := m.eraseAt 9
                 obtain rfl := sj fr
                 exact ⟨_, _, _, rfl, _, gw, gn, go, gp, gq, (GLe.trans fC (GLe.trans fJ (GLe.trans fP (GLe.trans fW (GLe.trans gu (GLe.trans f5 (GLe.trans gl (GLe.trans gy gB)))))))), f.weak ⟨rfl, rfl, rfl, rfl, rfl, rfl, trivial⟩, m, gr, gs⟩
               ·intro gt w gu m gv gv
                obtain ⟨fR, fS, fr⟩ := bind_some fr
                obtain ⟨f7, f8, fr⟩ := bind_some fr
                have h0_0 := rd2 gu h0_0
                have h1_0 := rd2 gu h1_0
                have h1_1 := rd2 gu h1_1
                have fN := Ow2.mono (RI.mono _) gu fN
                have e8 := Ow2.mono (RI.mono _) gu e8
                have e9 := Ow2.mono (RI.mono _) gu e9
                have et := Ow2.mono (RI.mono _) gu et
                have eu := Ow2.mono (RI.mono _) gu eu
                have ej := Ow2.mono (RI.mono _) gu ej
                have dK := Ow2.mono (RI.mono _) gu dK
                have dL := Ow2.mono (RI.mono _) gu dL
                have da := Ow2.mono (RI.mono _) gu da
                have bM := Ow.mono (RSl.mono (RI.mono _)) gu bM
                have bN := Ow.mono (RSl.mono (RI.mono _)) gu bN
                refine l_alloc (cs := [(.slice none 0 0), (.slice none 0 0)]) Tryz.zeroValue27 m f rfl rfl fun gw w a m f => l_nil ?_
                refine gv gt [Itm.box gw 27 [(.slice none 0 0), (.slice none 0 0)], fM] _ _ (GLe.refl _) m ?_
                refine q_one (i := 3) rfl (by kernel_rfl) rfl fun fO w fP m fQ fQ => ?_
                have h0_0 := rd2 fP h0_0
                have h1_0 := rd2 fP h1_0
                have h1_1 := rd2 fP h1_1
                have fN := Ow2.mono (RI.mono _) fP fN
                have e8 := Ow2.mono (RI.mono _) fP e8
                have e9 := Ow2.mono (RI.mono _) fP e9
                have et := Ow2.mono (RI.mono _) fP et
                have eu := Ow2.mono (RI.mono _) fP eu
                have ej := Ow2.mono (RI.mono _) fP ej
                have dK := Ow2.mono (RI.mono _) fP dK
                have dL := Ow2.mono (RI.mono _) fP dL
                have da := Ow2.mono (RI.mono _) fP da
                have bM := Ow.mono (RSl.mono (RI.mono _)) fP bM
                have bN := Ow.mono (RSl.mono (RI.mono _)) fP bN
                refine l_res f rfl rfl Tryz.call19 (Wk.laws_toDecomp m h1_0 h1_1 fS) fun fT fU fV w fW m fX a f => ?_
                obtain ⟨fY, fZ, f0, f1, rfl, rfl, f2, f3⟩ := fX
                have h0_0 := rd2 fW h0_0
                have h1_0 := rd2 fW h1_0
                have h1_1 := rd2 fW h1_1
                have fN := Ow2.mono (RI.mono _) fW fN
                have e8 := Ow2.mono (RI.mono _) fW e8
                have e9 := Ow2.mono (RI.mono _) fW e9
                have et := Ow2.mono (RI.mono _) fW et
                have eu := Ow2.mono (RI.mono _) fW eu
                have ej := Ow2.mono (RI.mono _) fW ej
                have dK := Ow2.mono (RI.mono _) fW dK
                have dL := Ow2.mono (RI.mono _) fW dL
                have da := Ow2.mono (RI.mono _) fW da
                have bM := Ow.mono (RSl.mono (RI.mono _)) fW bM
                have bN := Ow.mono (RSl.mono (RI.mono _)) fW bN
                refine l_nil ?_
                refine fQ fU [fZ, f1, Itm.box gw 27 [(.slice none 0 0), (.slice none 0 0)], fM] _ _ fW m ?_
                refine q_one (i := 4) rfl (by kernel_rfl) rfl fun f4 w f5 m f6 f6 => ?_
                have h0_0 := rd2 f5 h0_0
                have h1_0 := rd2 f5 h1_0
                have h1_1 := rd2 f5 h1_1
                have f2 := Ow2.mono (RI.mono _) f5 f2
                have f3 := Ow2.mono (RI.mono _) f5 f3
                have fN := Ow2.mono (RI.mono _) f5 fN
                have e8 := Ow2.mono (RI.mono _) f5 e8
                have e9 := Ow2.mono (RI.mono _) f5 e9
                have et := Ow2.mono (RI.mono _) f5 et
                have eu := Ow2.mono (RI.mono _) f5 eu
                have ej := Ow2.mono (RI.mono _) f5 ej
                have dK := Ow2.mono (RI.mono _) f5 dK
                have dL := Ow2.mono (RI.mono _) f5 dL
                have da := Ow2.mono (RI.mono _) f5 da
                have bM := Ow.mono (RSl.mono (RI.mono _)) f5 bM
                have bN := Ow.mono (RSl.mono (RI.mono _)) f5 bN
                refine l_res f rfl rfl Tryz.call20 (Ow2.lendCall (RI.mono _) 3 fN m rfl (fun f9 ga m gb => (Ow2.lendCall (RI.mono _) 0 (Ow2.mono (RI.mono _) ga f2) m rfl (fun gc gd m ge => (Ow2.lendCall (RI.mono _) 0 (Ow2.mono (RI.mono _) gd (Ow2.mono (RI.mono _) ga f3)) m rfl (fun gf gg m gh => Wk.impl_TidiedDecomp hW m (rd2 gg (rd2 gd gb)) (rd2 gg ge) gh f8) (fun _ G' _ _ ⟨a0, a1, a2, a3, e1, e2, o0, o1⟩ => ⟨a0, a1, a2, a3, e1, e2, Ow2.free (RI.free _) G' o0, Ow2.free (RI.free _) G' o1⟩))) (fun _ G' _ _ ⟨a0, a1, a2, a3, e1, e2, o0, o1⟩ => ⟨a0, a1, a2, a3, e1, e2, Ow2.free (RI.free _) G' o0, Ow2.free (RI.free _) G' o1⟩))) (fun _ G' _ _ ⟨a0, a1, a2, a3, e1, e2, o0, o1⟩ => ⟨a0, a1, a2, a3, e1, e2, Ow2.free (RI.free _) G' o0, Ow2.free (RI.free _) G' o1⟩)) fun gi gj gk w gl m gm a f => ?_
                obtain ⟨gn, go, gp, gq, rfl, rfl, gr, gs⟩ := gm
                have h0_0 := rd2 gl h0_0
                have h1_0 := rd2 gl h1_0
                have h1_1 := rd2 gl h1_1
                have f2 := Ow2.mono (RI.mono _) gl f2
                have f3 := Ow2.mono (RI.mono _) gl f3
                have fN := Ow2.mono (RI.mono _) gl fN
                have e8 := Ow2.mono (RI.mono _) gl e8
                have e9 := Ow2.mono (RI.mono _) gl e9
                have et := Ow2.mono (RI.mono _) gl et
                have eu := Ow2.mono (RI.mono _) gl eu
                have ej := Ow2.mono (RI.mono _) gl ej
                have dK := Ow2.mono (RI.mono _) gl dK
                have dL := Ow2.mono (RI.mono _) gl dL
                have da := Ow2.mono (RI.mono _) gl da
                have bM := Ow.mono (RSl.mono (RI.mono _)) gl bM
                have bN := Ow.mono (RSl.mono (RI.mono _)) gl bN
                refine l_nil ?_
                refine f6 gj [go, gq, fZ, f1, Itm.box gw 27 [(.slice none 0 0), (.slice none 0 0)], fM] _ _ gl m ?_
                refine q_mv 5 10 rfl (by kernel_rfl) f rfl rfl rfl fun a f => q_p 6 10 rfl (by kernel_rfl) f rfl rfl rfl (fun _ => r_extract (f.eval rfl) rfl) fun a f => q_p 7 10 rfl (by kernel_rfl) f rfl rfl rfl (fun _ => r_extract (f.eval rfl) rfl) fun a f => q_one (i := 9) rfl (by kernel_rfl) rfl fun gx w gy m gz gz => ?_
                have h0_0 := rd2 gy h0_0
                have h1_0 := rd2 gy h1_0
                have h1_1 := rd2 gy h1_1
                have gr := Ow2.mono (RI.mono _) gy gr
                have gs := Ow2.mono (RI.mono _) gy gs
                have f2 := Ow2.mono (RI.mono _) gy f2
                have f3 := Ow2.mono (RI.mono _) gy f3
                have fN := Ow2.mono (RI.mono _) gy fN
                have e8 := Ow2.mono (RI.mono _) gy e8
                have e9 := Ow2.mono (RI.mono _) gy e9
                have et := Ow2.mono (RI.mono _) gy et
                have eu := Ow2.mono (RI.mono _) gy eu
                have ej := Ow2.mono (RI.mono _) gy ej
                have dK := Ow2.mono (RI.mono _) gy dK
                have dL := Ow2.mono (RI.mono _) gy dL
                have da := Ow2.mono (RI.mono _) gy da
                have bM := Ow.mono (RSl.mono (RI.mono _)) gy bM
                have bN := Ow.mono (RSl.mono (RI.mono _)) gy bN
                refine l_boxStore 4 0 (ds := [gn, gp]) m Tryz.sizeOf27 f rfl rfl rfl (ones_cons (Ow2.one1 0 m gr rfl) (ones_cons (Ow2.one1 1 m gs rfl) ones_nil)) rfl (Nat.le_of_ble_eq_true rfl) rfl fun w m => l_nil ?_
                refine gz gx [go, gq, fZ, f1, Itm.box gw 27 [gn, gp], fM] _ _ (GLe.refl _) m ?_
                refine q_end fun gA w gB m => ?_
                have h0_0 := rd2 gB h0_0
                have h1_0 := rd2 gB h1_0
                have h1_1 := rd2 gB h1_1
                have gr := Ow2.mono (RI.mono _) gB gr
                have gs := Ow2.mono (RI.mono _) gB gs
                have f2 := Ow2.mono (RI.mono _) gB f2
                have f3 := Ow2.mono (RI.mono _) gB f3
                have fN := Ow2.mono (RI.mono _) gB fN
                have e8 := Ow2.mono (RI.mono _) gB e8
                have e9 := Ow2.mono (RI.mono _) gB e9
                have et := Ow2.mono (RI.mono _) gB et
                have eu := Ow2.mono (RI.mono _) gB eu
                have ej := Ow2.mono (RI.mono _) gB ej
                have dK := Ow2.mono (RI.mono _) gB dK
                have dL := Ow2.mono (RI.mono _) gB dL
                have da := Ow2.mono (RI.mono _) gB da
                have bM := Ow.mono (RSl.mono (RI.mono _)) gB bM
                have bN := Ow.mono (RSl.mono (RI.mono _)) gB bN
                refine l_as f rfl rfl fun a f => l_nil ?_
                have m := m.front 7 rfl
                have m := m.front 7 rfl
                have m : Mem W gA w (aE :: e6 :: e7 :: go :: gq :: fZ :: f1 :: Itm.box gw 27 [gn, gp] :: fM :: er :: es :: ei :: dH :: dJ :: c9 :: Itm.box cA 27 [cu, cw] :: Itm.box cc 27 [b6, b8] :: Itm.box bY 30 [bV] :: Itm.box aa 24 [v0_0] :: Itm.box ab 37 [v1_0, v1_1] :: Itm.box aA 27 [aB, aD] :: aC :: H) := m.front 21 rfl
                have m := m.front 21 rfl
                have m := m.front 5 rfl
                have m : Mem W gA w (go :: gq :: aC :: aE :: e6 :: e7 :: fZ :: f1 :: Itm.box gw 27 [gn, gp] :: fM :: er :: es :: ei :: dH :: dJ :: c9 :: Itm.box cA 27 [cu, cw] :: Itm.box cc 27 [b6, b8] :: Itm.box bY 30 [bV] :: Itm.box aa 24 [v0_0] :: Itm.box ab 37 [v1_0, v1_1] :: Itm.box aA 27 [aB, aD] :: H) := m.front 5 rfl
                have m := m.front 8 rfl
                have m := m.front 16 rfl
                have m : Mem W gA w (Itm.box aA 27 [aB, aD] :: Itm.box cA 27 [cu, cw] :: Itm.box gw 27 [gn, gp] :: go :: gq :: aC :: aE :: e6 :: e7 :: fZ :: f1 :: fM :: er :: es :: ei :: dH :: dJ :: c9 :: Itm.box cc 27 [b6, b8] :: Itm.box bY 30 [bV] :: Itm.box aa 24 [v0_0] :: Itm.box ab 37 [v1_0, v1_1] :: H) := m.front 21 rfl
                have m := m.eraseAt 21
                have m := m.eraseAt 20
                have m : Mem W gA w (Itm.box aA 27 [aB, aD] :: Itm.box cA 27 [cu, cw] :: Itm.box gw 27 [gn, gp] :: go :: gq :: aC :: aE :: e6 :: e7 :: fZ :: f1 :: fM :: er :: es :: ei :: dH :: dJ :: c9 :: Itm.box cc 27 [b6, b8] :: H) := m.eraseAt 19
                have m := m.eraseAt 18
                have m := m.eraseAt 17
                have m : Mem W gA w (Itm.box aA 27 [aB, aD] :: Itm.box cA 27 [cu, cw] :: Itm.box gw 27 [gn, gp] :: go :: gq :: aC :: aE :: e6 :: e7 :: fZ :: f1 :: fM :: er :: es :: ei :: dH :: H) := m.eraseAt 16
                have m := m.eraseAt 15
                have m := m.eraseAt 14
                have m : Mem W gA w (Itm.box aA 27 [aB, aD] :: Itm.box cA 27 [cu, cw] :: Itm.box gw 27 [gn, gp] :: go :: gq :: aC :: aE :: e6 :: e7 :: fZ :: f1 :: fM :: er :: H) := m.eraseAt 13
                have m := m.eraseAt 12
                have m := m.eraseAt 11
                have m : Mem W gA w (Itm.box aA 27 [aB, aD] :: Itm.box cA 27 [cu, cw] :: Itm.box gw 27 [gn, gp] :: go :: gq :: aC :: aE :: e6 :: e7 :: fZ :: H) := m.eraseAt 10
                have m : Mem W gA w (Itm.box aA 27 [aB, aD] :: Itm.box cA 27 [cu, cw] :: Itm.box gw 27 [gn, gp] :: go :: gq :: aC :: aE :: e6 :: e7 :: H) := m.eraseAt 9
                obtain rfl := sj fr
                exact ⟨_, _, _, rfl, _, gw, gn, go, gp, gq, (GLe.trans fC (GLe.trans fJ (GLe.trans gu (GLe.trans fP (GLe.trans fW (GLe.trans f5 (GLe.trans gl (GLe.trans gy gB)))))))), f.weak ⟨rfl, rfl, rfl, rfl, rfl, rfl, trivial⟩, m, gr, gs⟩
              ·intro gt w gu m gv gv
               obtain ⟨fE, fF, fr⟩ := bind_some fr
               obtain ⟨fR, fS, fr⟩ := bind_some fr
               obtain ⟨f7, f8, fr⟩ := bind_some fr
               have h0_0 := rd2 gu h0_0
               have h1_0 := rd2 gu h1_0
               have h1_1 := rd2 gu h1_1
               have e8 := Ow2.mono (RI.mono _) gu e8
               have e9 := Ow2.mono (RI.mono _) gu e9
               have et := Ow2.mono (RI.mono _) gu et
               have eu := Ow2.mono (RI.mono _) gu eu
               have ej := Ow2.mono (RI.mono _) gu ej
               have dK := Ow2.mono (RI.mono _) gu dK
               have dL := Ow2.mono (RI.mono _) gu dL
               have da := Ow2.mono (RI.mono _) gu da
               have bM := Ow.mono (RSl.mono (RI.mono _)) gu bM
               have bN := Ow.mono (RSl.mono (RI.mono _)) gu bN
               refine l_alloc (cs := [(.slice none 0 0), (.slice none 0 0)]) Tryz.zeroValue27 m f rfl rfl fun gw w a m f => l_nil ?_
               refine gv gt [Itm.box gw 27 [(.slice none 0 0), (.slice none 0 0)]] _ _ (GLe.refl _) m ?_
               refine q_one (i := 1) rfl (by kernel_rfl) rfl fun fB w fC m fD fD => ?_
               have h0_0 := rd2 fC h0_0
               have h1_0 := rd2 fC h1_0
               have h1_1 := rd2 fC h1_1
               have e8 := Ow2.mono (RI.mono _) fC e8
               have e9 := Ow2.mono (RI.mono _) fC e9
               have et := Ow2.mono (RI.mono _) fC et
               have eu := Ow2.mono (RI.mono _) fC eu
               have ej := Ow2.mono (RI.mono _) fC ej
               have dK := Ow2.mono (RI.mono _) fC dK
               have dL := Ow2.mono (RI.mono _) fC dL
               have da := Ow2.mono (RI.mono _) fC da
               have bM := Ow.mono (RSl.mono (RI.mono _)) fC bM
               have bN := Ow.mono (RSl.mono (RI.mono _)) fC bN
               refine l_res f rfl rfl Tryz.call10 (Wk.laws_toGraph m h0_0 fF) fun fG fH fI w fJ m fK a f => ?_
               obtain ⟨fL, fM, rfl, rfl, fN⟩ := fK
               have h0_0 := rd2 fJ h0_0
               have h1_0 := rd2 fJ h1_0
               have h1_1 := rd2 fJ h1_1
               have e8 := Ow2.mono (RI.mono _) fJ e8
               have e9 := Ow2.mono (RI.mono _) fJ e9
               have et := Ow2.mono (RI.mono _) fJ et
               have eu := Ow2.mono (RI.mono _) fJ eu
               have ej := Ow2.mono (RI.mono _) fJ ej
               have dK := Ow2.mono (RI.mono _) fJ dK
               have dL := Ow2.mono (RI.mono _) fJ dL
               have da := Ow2.mono (RI.mono _) fJ da
               have bM := Ow.mono (RSl.mono (RI.mono _)) fJ bM
               have bN := Ow.mono (RSl.mono (RI.mono _)) fJ bN
               refine l_nil ?_
               refine fD fH [fM, Itm.box gw 27 [(.slice none 0 0), (.slice none 0 0)]] _ _ fJ m ?_
               refine q_one (i := 3) rfl (by kernel_rfl) rfl fun fO w fP m fQ fQ => ?_
               have h0_0 := rd2 fP h0_0
               have h1_0 := rd2 fP h1_0
               have h1_1 := rd2 fP h1_1
               have fN := Ow2.mono (RI.mono _) fP fN
               have e8 := Ow2.mono (RI.mono _) fP e8
               have e9 := Ow2.mono (RI.mono _) fP e9
               have et := Ow2.mono (RI.mono _) fP et
               have eu := Ow2.mono (RI.mono _) fP eu
               have ej := Ow2.mono (RI.mono _) fP ej
               have dK := Ow2.mono (RI.mono _) fP dK
               have dL := Ow2.mono (RI.mono _) fP dL
               have da := Ow2.mono (RI.mono _) fP da
               have bM := Ow.mono (RSl.mono (RI.mono _)) fP bM
               have bN := Ow.mono (RSl.mono (RI.mono _)) fP bN
               refine l_res f rfl rfl Tryz.call19 (Wk.laws_toDecomp m h1_0 h1_1 fS) fun fT fU fV w fW m fX a f => ?_
               obtain ⟨fY, fZ, f0, f1, rfl, rfl, f2, f3⟩ := fX
               have h0_0 := rd2 fW h0_0
               have h1_0 := rd2 fW h1_0
               have h1_1 := rd2 fW h1_1
               have fN := Ow2.mono (RI.mono _) fW fN
               have e8 := Ow2.mono (RI.mono _) fW e8
               have e9 := Ow2.mono (RI.mono _) fW e9
               have et := Ow2.mono (RI.mono _) fW et
               have eu := Ow2.mono (RI.mono _) fW eu
               have ej := Ow2.mono (RI.mono _) fW ej
               have dK := Ow2.mono (RI.mono _) fW dK
               have dL := Ow2.mono (RI.mono _) fW dL
               have da := Ow2.mono (RI.mono _) fW da
               have bM := Ow.mono (RSl.mono (RI.mono _)) fW bM
               have bN := Ow.mono (RSl.mono (RI.mono _)) fW bN
               refine l_nil ?_
               refine fQ fU [fZ, f1, fM, Itm.box gw 27 [(.slice none 0 0), (.slice none 0 0)]] _ _ fW m ?_
               refine q_one (i := 4) rfl (by kernel_rfl) rfl fun f4 w f5 m f6 f6 => ?_
               have h0_0 := rd2 f5 h0_0
               have h1_0 := rd2 f5 h1_0
               have h1_1 := rd2 f5 h1_1
               have f2 := Ow2.mono (RI.mono _) f5 f2
               have f3 := Ow2.mono (RI.mono _) f5 f3
               have fN := Ow2.mono (RI.mono _) f5 fN
               have e8 := Ow2.mono (RI.mono _) f5 e8
               have e9 := Ow2.mono (RI.mono _) f5 e9
               have et := Ow2.mono (RI.mono _) f5 et
               have eu := Ow2.mono (RI.mono _) f5 eu
               have ej := Ow2.mono (RI.mono _) f5 ej
               have dK := Ow2.mono (RI.mono _) f5 dK
               have dL := Ow2.mono (RI.mono _) f5 dL
               have da := Ow2.mono (RI.mono _) f5 da
               have bM := Ow.mono (RSl.mono (RI.mono _)) f5 bM
               have bN := Ow.mono (RSl.mono (RI.mono _)) f5 bN
               refine l_res f rfl rfl Tryz.call20 (Ow2.lendCall (RI.mono _) 2 fN m rfl (fun f9 ga m gb => (Ow2.lendCall (RI.mono _) 0 (Ow2.mono (RI.mono _) ga f2) m rfl (fun gc gd m ge => (Ow2.lendCall (RI.mono _) 0 (Ow2.mono (RI.mono _) gd (Ow2.mono (RI.mono _) ga f3)) m rfl (fun gf gg m gh => Wk.impl_TidiedDecomp hW m (rd2 gg (rd2 gd gb)) (rd2 gg ge) gh f8) (fun _ G' _ _ ⟨a0, a1, a2, a3, e1, e2, o0, o1⟩ => ⟨a0, a1, a2, a3, e1, e2, Ow2.free (RI.free _) G' o0, Ow2.free (RI.free _) G' o1⟩))) (fun _ G' _ _ ⟨a0, a1, a2, a3, e1, e2, o0, o1⟩ => ⟨a0, a1, a2, a3, e1, e2, Ow2.free (RI.free _) G' o0, Ow2.free (RI.free _) G' o1⟩))) (fun _ G' _ _ ⟨a0, a1, a2, a3, e1, e2, o0, o1⟩ => ⟨a0, a1, a2, a3, e1, e2, Ow2.free (RI.free _) G' o0, Ow2.free (RI.free _) G' o1⟩)) fun gi gj gk w gl m gm a f => ?_
               obtain ⟨gn, go, gp, gq, rfl, rfl, gr, gs⟩ := gm
               have h0_0 := rd2 gl h0_0
               have h1_0 := rd2 gl h1_0
               have h1_1 := rd2 gl h1_1
               have f2 := Ow2.mono (RI.mono _) gl f2
               have f3 := Ow2.mono (RI.mono _) gl f3
               have fN := Ow2.mono (RI.mono _) gl fN
               have e8 := Ow2.mono (RI.mono _) gl e8
               have e9 := Ow2.mono (RI.mono _) gl e9
               have et := Ow2.mono (RI.mono _) gl et
               have eu := Ow2.mono (RI.mono _) gl eu
               have ej := Ow2.mono (RI.mono _) gl ej
               have dK := Ow2.mono (RI.mono _) gl dK
               have dL := Ow2.mono (RI.mono _) gl dL
               have da := Ow2.mono (RI.mono _) gl da
               have bM := Ow.mono (RSl.mono (RI.mono _)) gl bM
               have bN := Ow.mono (RSl.mono (RI.mono _)) gl bN
               refine l_nil ?_
               refine f6 gj [go, gq, fZ, f1, fM, Itm.box gw 27 [(.slice none 0 0), (.slice none 0 0)]] _ _ gl m ?_
               refine q_mv 5 10 rfl (by kernel_rfl) f rfl rfl rfl fun a f => q_p 6 10 rfl (by kernel_rfl) f rfl rfl rfl (fun _ => r_extract (f.eval rfl) rfl) fun a f => q_p 7 10 rfl (by kernel_rfl) f rfl rfl rfl (fun _ => r_extract (f.eval rfl) rfl) fun a f => q_one (i := 9) rfl (by kernel_rfl) rfl fun gx w gy m gz gz => ?_
               have h0_0 := rd2 gy h0_0
               have h1_0 := rd2 gy h1_0
               have h1_1 := rd2 gy h1_1
               have gr := Ow2.mono (RI.mono _) gy gr
               have gs := Ow2.mono (RI.mono _) gy gs
               have f2 := Ow2.mono (RI.mono _) gy f2
               have f3 := Ow2.mono (RI.mono _) gy f3
               have fN := Ow2.mono (RI.mono _) gy fN
               have e8 := Ow2.mono (RI.mono _) gy e8
               have e9 := Ow2.mono (RI.mono _) gy e9
               have et := Ow2.mono (RI.mono _) gy et
               have eu := Ow2.mono (RI.mono _) gy eu
               have ej := Ow2.mono (RI.mono _) gy ej
               have dK := Ow2.mono (RI.mono _) gy dK
               have dL := Ow2.mono (RI.mono _) gy dL
               have da := Ow2.mono (RI.mono _) gy da
               have bM := Ow.mono (RSl.mono (RI.mono _)) gy bM
               have bN := Ow.mono (RSl.mono (RI.mono _)) gy bN
               refine l_boxStore 5 0 (ds := [gn, gp]) m Tryz.sizeOf27 f rfl rfl rfl (ones_cons (Ow2.one1 0 m gr rfl) (ones_cons (Ow2.one1 1 m gs rfl) ones_nil)) rfl (Nat.le_of_ble_eq_true rfl) rfl fun w m => l_nil ?_
               refine gz gx [go, gq, fZ, f1, fM, Itm.box gw 27 [gn, gp]] _ _ (GLe.refl _) m ?_
               refine q_end fun gA w gB m => ?_
               have h0_0 := rd2 gB h0_0
               have h1_0 := rd2 gB h1_0
               have h1_1 := rd2 gB h1_1
               have gr := Ow2.mono (RI.mono _) gB gr
               have gs := Ow2.mono (RI.mono _) gB gs
               have f2 := Ow2.mono (RI.mono _) gB f2
               have f3 := Ow2.mono (RI.mono _) gB f3
               have fN := Ow2.mono (RI.mono _) gB fN
               have e8 := Ow2.mono (RI.mono _) gB e8
               have e9 := Ow2.mono (RI.mono _) gB e9
               have et := Ow2.mono (RI.mono _) gB et
               have eu := Ow2.mono (RI.mono _) gB eu
               have ej := Ow2.mono (RI.mono _) gB ej
               have dK := Ow2.mono (RI.mono _) gB dK
               have dL := Ow2.mono (RI.mono _) gB dL
               have da := Ow2.mono (RI.mono _) gB da
               have bM := Ow.mono (RSl.mono (RI.mono _)) gB bM
               have bN := Ow.mono (RSl.mono (RI.mono _)) gB bN
               refine l_as f rfl rfl fun a f => l_nil ?_
               have m := m.front 7 rfl
               have m := m.front 7 rfl
               have m : Mem W gA w (aE :: e6 :: e7 :: go :: gq :: fZ :: f1 :: fM :: Itm.box gw 27 [gn, gp] :: er :: es :: ei :: dH :: dJ :: c9 :: Itm.box cA 27 [cu, cw] :: Itm.box cc 27 [b6, b8] :: Itm.box bY 30 [bV] :: Itm.box aa 24 [v0_0] :: Itm.box ab 37 [v1_0, v1_1] :: Itm.box aA 27 [aB, aD] :: aC :: H) := m.front 21 rfl
               have m := m.front 21 rfl
               have m := m.front 5 rfl
               have m : Mem W gA w (go :: gq :: aC :: aE :: e6 :: e7 :: fZ :: f1 :: fM :: Itm.box gw 27 [gn, gp] :: er :: es :: ei :: dH :: dJ :: c9 :: Itm.box cA 27 [cu, cw] :: Itm.box cc 27 [b6, b8] :: Itm.box bY 30 [bV] :: Itm.box aa 24 [v0_0] :: Itm.box ab 37 [v1_0, v1_1] :: Itm.box aA 27 [aB, aD] :: H) := m.front 5 rfl
               have m := m.front 9 rfl
               have m := m.front 16 rfl
               have m : Mem W gA w (Itm.box aA 27 [aB, aD] :: Itm.box cA 27 [cu, cw] :: Itm.box gw 27 [gn, gp] :: go :: gq :: aC :: aE :: e6 :: e7 :: fZ :: f1 :: fM :: er :: es :: ei :: dH :: dJ :: c9 :: Itm.box cc 27 [b6, b8] :: Itm.box bY 30 [bV] :: Itm.box aa 24 [v0_0] :: Itm.box ab 37 [v1_0, v1_1] :: H) := m.front 21 rfl
               have m := m.eraseAt 21
               have m := m.eraseAt 20
               have m : Mem W gA w (Itm.box aA 27 [aB, aD] :: Itm.box cA 27 [cu, cw] :: Itm.box gw 27 [gn, gp] :: go :: gq :: aC :: aE :: e6 :: e7 :: fZ :: f1 :: fM :: er :: es :: ei :: dH :: dJ :: c9 :: Itm.box cc 27 [b6, b8] :: H) := m.eraseAt 19
               have m := m.eraseAt 18
               have m := m.eraseAt 17
               have m : Mem W gA w (Itm.box aA 27 [aB, aD] :: Itm.box cA 27 [cu, cw] :: Itm.box gw 27 [gn, gp] :: go :: gq :: aC :: aE :: e6 :: e7 :: fZ :: f1 :: fM :: er :: es :: ei :: dH :: H) := m.eraseAt 16
               have m := m.eraseAt 15
               have m := m.eraseAt 14
               have m : Mem W gA w (Itm.box aA 27 [aB, aD] :: Itm.box cA 27 [cu, cw] :: Itm.box gw 27 [gn, gp] :: go :: gq :: aC :: aE :: e6 :: e7 :: fZ :: f1 :: fM :: er :: H) := m.eraseAt 13
               have m := m.eraseAt 12
               have m := m.eraseAt 11
               have m : Mem W gA w (Itm.box aA 27 [aB, aD] :: Itm.box cA 27 [cu, cw] :: Itm.box gw 27 [gn, gp] :: go :: gq :: aC :: aE :: e6 :: e7 :: fZ :: H) := m.eraseAt 10
               have m : Mem W gA w (Itm.box aA 27 [aB, aD] :: Itm.box cA 27 [cu, cw] :: Itm.box gw 27 [gn, gp] :: go :: gq :: aC :: aE :: e6 :: e7 :: H) := m.eraseAt 9
               obtain rfl := sj fr
               exact ⟨_, _, _, rfl, _, gw, gn, go, gp, gq, (GLe.trans gu (GLe.trans fC (GLe.trans fJ (GLe.trans fP (GLe.trans fW (GLe.trans f5 (GLe.trans gl (GLe.trans gy gB)))))))), f.weak ⟨rfl, rfl, rfl, rfl, rfl, rfl, trivial⟩, m, gr, gs⟩
             ·rintro a w ⟨fs, ft, fu, rfl, fv, fw, fx, fy, fz, fA, gC, f, m, gD, gE⟩
              have bM := Ow.mono (RSl.mono (RI.mono _)) gC bM
              have bN := Ow.mono (RSl.mono (RI.mono _)) gC bN
              have e8 := Ow2.mono (RI.mono _) gC e8
              have e9 := Ow2.mono (RI.mono _) gC e9
              refine k_seq (k_seq (k_region ?_))
              refine l_boxAgg 2 0 (ds := [fx, fz]) m Ag27 f rfl rfl rfl rfl rfl fun a f => l_boxAgg 0 0 (ds := [aB, aD]) m Ag27 f rfl rfl rfl rfl rfl fun a f => ?_
              obtain ⟨gF, gG, hd⟩ := bind_some hd
              refine l_res f rfl rfl Tryz.call12 (Ow2.lendCall (RI.mono _) 3 gD m rfl (fun gH gI m gJ => (Ow2.lendCall (RI.mono _) 3 (Ow2.mono (RI.mono _) gI gE) m rfl (fun gK gL m gM => (Ow.lendCall (RSl.mono (RI.mono _)) 3 (Ow.mono (RSl.mono (RI.mono _)) gL (Ow.mono (RSl.mono (RI.mono _)) gI bM)) m rfl (fun gN gO m gP => (Ow.lendCall (RSl.mono (RI.mono _)) 3 (Ow.mono (RSl.mono (RI.mono _)) gO (Ow.mono (RSl.mono (RI.mono _)) gL (Ow.mono (RSl.mono (RI.mono _)) gI bN))) m rfl (fun gQ gR m gS => Wk.laws_eqDecomp m (rd2 gR (rd2 gO (rd2 gL gJ))) (rd2 gR (rd2 gO gM)) (rd2 gR gP) gS gG) (fun _ _ _ _ h => h))) (fun _ _ _ _ h => h))) (fun _ _ _ _ h => h))) (fun _ _ _ _ h => h)) fun gT gU gV w gW m gX a f => ?_
              obtain ⟨rfl, rfl⟩ := gX
              have gD := Ow2.mono (RI.mono _) gW gD
              have gE := Ow2.mono (RI.mono _) gW gE
              have bM := Ow.mono (RSl.mono (RI.mono _)) gW bM
              have bN := Ow.mono (RSl.mono (RI.mono _)) gW bN
              have e8 := Ow2.mono (RI.mono _) gW e8
              have e9 := Ow2.mono (RI.mono _) gW e9
              refine l_op f rfl rfl rfl (r_not (f.eval rfl)) fun a f => l_mv f rfl rfl fun a f => ?_
              refine l_cut 4 (fun a w => ∃ gY, GLe gU gY ∧ Mem W gY w (Itm.box aA 27 [aB, aD] :: Itm.box cA 27 [cu, cw] :: Itm.box fw 27 [fx, fz] :: fy :: fA :: aC :: aE :: e6 :: e7 :: H) ∧ Fr a 119 [(6, (.pointer (some ⟨aA, 0, none⟩))), (7, (.bool ay)), (10, (.pointer (some ⟨cA, 0, none⟩))), (13, (.int .i64 eX.1)), (15, (.pointer (some ⟨fw, 0, none⟩))), (16, (.bool fu)), (102, (.agg #[fx, fz])), (103, (.agg #[aB, aD])), (104, (.bool gF)), (105, (.bool (!gF))), (106, (.bool (!gF))), (110, (.bool ((!gF) || (fu != ay))))]) ?_ ?_
              ·rcases Bool.eq_false_or_eq_true (!gF) with gZ | gZ
               ·refine l_not' f rfl rfl rfl gZ fun a f => ?_
                refine l_not' f rfl rfl rfl gZ fun a f => l_not' f rfl rfl rfl gZ fun a f => l_op f rfl rfl rfl (r_pickT (f.eval rfl) gZ (f.eval rfl)) fun a f => ?_
                exact ⟨_, (GLe.refl _), m, f.weak ⟨rfl, rfl, rfl, rfl, rfl, rfl, rfl, rfl, rfl, rfl, rfl, by rw [gZ]; rfl, trivial⟩⟩
               ·refine l_run f rfl rfl gZ ?_
                refine l_mv f rfl rfl fun a f => l_run f rfl rfl gZ ?_
                refine l_mv f rfl rfl fun a f => l_run f rfl rfl gZ ?_
                refine l_op f rfl rfl rfl (r_bool_neq (f.eval rfl) (f.eval rfl) Tryz.underlying4) fun a f => l_op f rfl rfl rfl (r_pickF (f.eval rfl) gZ (f.eval rfl)) fun a f => ?_
                exact ⟨_, (GLe.refl _), m, f.weak ⟨rfl, rfl, rfl, rfl, rfl, rfl, rfl, rfl, rfl, rfl, rfl, by rw [gZ]; rfl, trivial⟩⟩
              ·rintro a w ⟨gY, g0, m, f⟩
               have gD := Ow2.mono (RI.mono _) g0 gD
               have gE := Ow2.mono (RI.mono _) g0 gE
               have bM := Ow.mono (RSl.mono (RI.mono _)) g0 bM
               have bN := Ow.mono (RSl.mono (RI.mono _)) g0 bN
               have e8 := Ow2.mono (RI.mono _) g0 e8
               have e9 := Ow2.mono (RI.mono _) g0 e9
               refine l_nil ?_
               rcases cond_some hd with ⟨g1, hd⟩ | ⟨g1, hd⟩
               ·refine k_true f rfl g1 ?_
                refine k_seq (k_region ?_)
                refine l_as f rfl rfl fun a f => l_nil ?_
                refine k_ret ?_
                have m : Mem W gY w H := Mem.drop (H' := [Itm.box aA 27 [aB, aD], Itm.box cA 27 [cu, cw], Itm.box fw 27 [fx, fz], fy, fA, aC, aE, e6, e7]) m
                obtain rfl := sj hd
                exact ⟨[(.bool false)], ⟨f.get _ _ rfl, trivial⟩, f.defers, _, [], (GLe.trans ah (GLe.trans ap (GLe.trans bL (GLe.trans bT (GLe.trans b4 (GLe.trans cr (GLe.trans cS (GLe.trans cW (GLe.trans cZ (GLe.trans c6 (GLe.trans dc (GLe.trans dq (GLe.trans du (GLe.trans dx (GLe.trans dE (GLe.trans dN (GLe.trans d6 (GLe.trans d9 (GLe.trans eg (GLe.trans ep (GLe.trans eS (GLe.trans eV (GLe.trans e4 (GLe.trans fl (GLe.trans gC (GLe.trans gW g0)))))))))))))))))))))))))), m, rfl, rfl⟩
               ·refine k_false f rfl g1 ?_
                refine k_skip ?_
                refine k_seq (k_region ?_)
                refine l_as f rfl rfl fun a f => l_nil (k_seq (k_region ?_))
                refine l_boxAgg 1 0 (ds := [cu, cw]) m Ag27 f rfl rfl rfl rfl rfl fun a f => l_mv f rfl rfl fun a f => ?_
                obtain ⟨g2, g3, hd⟩ := bind_some hd
                refine l_res f rfl rfl Tryz.call16 (Ow2.lendCall (RI.mono _) 7 e8 m rfl (fun g4 g5 m g6 => (Ow2.lendCall (RI.mono _) 7 (Ow2.mono (RI.mono _) g5 e9) m rfl (fun g7 g8 m g9 => Wk.laws_heldDecomp m (rd2 g8 g6) g9 g3) (fun _ _ _ _ h => h))) (fun _ _ _ _ h => h)) fun ha hb hc w he m hf a f => ?_
                obtain ⟨rfl, rfl⟩ := hf
                have gD := Ow2.mono (RI.mono _) he gD
                have gE := Ow2.mono (RI.mono _) he gE
                have bM := Ow.mono (RSl.mono (RI.mono _)) he bM
                have bN := Ow.mono (RSl.mono (RI.mono _)) he bN
                have e8 := Ow2.mono (RI.mono _) he e8
                have e9 := Ow2.mono (RI.mono _) he e9
                refine l_as f rfl rfl fun a f => l_nil (k_seq (k_seq (k_region ?_)))
                refine l_mv f rfl rfl fun a f => l_in f rfl rfl rfl b_lss fun a f => l_nil ?_
                rcases cond_some hd with ⟨hg, hd⟩ | ⟨hg, hd⟩
                ·refine k_true f rfl hg ?_
                 refine k_seq (k_region ?_)
                 refine l_as f rfl rfl fun a f => l_nil ?_
                 refine k_ret ?_
                 have m : Mem W hb w H := Mem.drop (H' := [Itm.box aA 27 [aB, aD], Itm.box cA 27 [cu, cw], Itm.box fw 27 [fx, fz], fy, fA, aC, aE, e6, e7]) m
                 obtain rfl := sj hd
                 exact ⟨[(.bool false)], ⟨f.get _ _ rfl, trivial⟩, f.defers, _, [], (GLe.trans ah (GLe.trans ap (GLe.trans bL (GLe.trans bT (GLe.trans b4 (GLe.trans cr (GLe.trans cS (GLe.trans cW (GLe.trans cZ (GLe.trans c6 (GLe.trans dc (GLe.trans dq (GLe.trans du (GLe.trans dx (GLe.trans dE (GLe.trans dN (GLe.trans d6 (GLe.trans d9 (GLe.trans eg (GLe.trans ep (GLe.trans eS (GLe.trans eV (GLe.trans e4 (GLe.trans fl (GLe.trans gC (GLe.trans gW (GLe.trans g0 he))))))))))))))))))))))))))), m, rfl, rfl⟩
                ·refine k_false f rfl hg ?_
                 refine k_skip ?_
                 refine k_seq (k_seq (k_region ?_))
                 refine l_mv f rfl rfl fun a f => l_mv f rfl rfl fun a f => l_in f rfl rfl rfl b_neq fun a f => l_nil ?_
                 rcases cond_some hd with ⟨hh, hd⟩ | ⟨hh, hd⟩
                 ·refine k_true f rfl hh ?_
                  refine k_seq (k_region ?_)
                  refine l_as f rfl rfl fun a f => l_nil ?_
                  refine k_ret ?_
                  have m : Mem W hb w H := Mem.drop (H' := [Itm.box aA 27 [aB, aD], Itm.box cA 27 [cu, cw], Itm.box fw 27 [fx, fz], fy, fA, aC, aE, e6, e7]) m
                  obtain rfl := sj hd
                  exact ⟨[(.bool false)], ⟨f.get _ _ rfl, trivial⟩, f.defers, _, [], (GLe.trans ah (GLe.trans ap (GLe.trans bL (GLe.trans bT (GLe.trans b4 (GLe.trans cr (GLe.trans cS (GLe.trans cW (GLe.trans cZ (GLe.trans c6 (GLe.trans dc (GLe.trans dq (GLe.trans du (GLe.trans dx (GLe.trans dE (GLe.trans dN (GLe.trans d6 (GLe.trans d9 (GLe.trans eg (GLe.trans ep (GLe.trans eS (GLe.trans eV (GLe.trans e4 (GLe.trans fl (GLe.trans gC (GLe.trans gW (GLe.trans g0 he))))))))))))))))))))))))))), m, rfl, rfl⟩
                 ·refine k_false f rfl hh ?_
                  refine k_skip ?_
                  refine k_seq (k_region ?_)
                  refine l_as f rfl rfl fun a f => l_nil ?_
                  refine k_ret ?_
                  have m : Mem W hb w H := Mem.drop (H' := [Itm.box aA 27 [aB, aD], Itm.box cA 27 [cu, cw], Itm.box fw 27 [fx, fz], fy, fA, aC, aE, e6, e7]) m
                  obtain rfl := sj hd
                  exact ⟨[(.bool true)], ⟨f.get _ _ rfl, trivial⟩, f.defers, _, [], (GLe.trans ah (GLe.trans ap (GLe.trans bL (GLe.trans bT (GLe.trans b4 (GLe.trans cr (GLe.trans cS (GLe.trans cW (GLe.trans cZ (GLe.trans c6 (GLe.trans dc (GLe.trans dq (GLe.trans du (GLe.trans dx (GLe.trans dE (GLe.trans dN (GLe.trans d6 (GLe.trans d9 (GLe.trans eg (GLe.trans ep (GLe.trans eS (GLe.trans eV (GLe.trans e4 (GLe.trans fl (GLe.trans gC (GLe.trans gW (GLe.trans g0 he))))))))))))))))))))))))))), m, rfl, rfl⟩

end Go.Proofs.YtebbefpdncgoiaaGreatDoor

set_option maxRecDepth 100000
namespace Go.Proofs.YtebbefpdncgoiaaGreatDoor
open Go Go.Sx
end Go.Proofs.YtebbefpdncgoiaaGreatDoor

/- Sets of vertices as numbers: what the bit operations do to membership. Plain facts. -/
namespace Go.Sx
theorem wrap32 (n : Int) : IntKind.u32.wrap n = n % 4294967296 := by simp [IntKind.wrap, IntKind.signed, IntKind.bits]

/-- a word of 32 bits -/
def VS (s : Int) : Prop := 0 ≤ s ∧ s < 4294967296
/-- is a vertex in a set -/
def has (s : Int) (v : Nat) : Bool := s.toNat.testBit v

theorem VS.nat {s : Int} (h : VS s) : ∃ n : Nat, s = n ∧ n < 4294967296 := ⟨s.toNat, by have := h.1; omega, by have := h.1; have := h.2; omega⟩
theorem VS.zero : VS 0 := ⟨by omega, by omega⟩
theorem VS.wrap (n : Int) : VS (IntKind.u32.wrap n) := by rw [wrap32]; exact ⟨by omega, by omega⟩
theorem VS.ofNat {n : Nat} (h : n < 4294967296) : VS (n : Int) := ⟨by omega, by omega⟩
theorem has_nat (n v : Nat) : has (n : Int) v = n.testBit v := by simp [has]
theorem has_zero (v : Nat) : has 0 v = false := by simp [has]

theorem ofInt_nat (n : Nat) (h : n < 4294967296) : (BitVec.ofInt 32 (n : Int)).toNat = n := by
  rw [BitVec.toNat_ofInt]
  omega

theorem ior_nat {a b : Nat} (ha : a < 4294967296) (hb : b < 4294967296) : ior .u32 (a : Int) (b : Int) = ((a ||| b : Nat) : Int) := by
  have hw : a ||| b < 4294967296 := Nat.or_lt_two_pow (n := 32) ha hb
  show IntKind.u32.wrap (((BitVec.ofInt 32 (a : Int) ||| BitVec.ofInt 32 (b : Int)).toNat : Nat) : Int) = _
  rw [BitVec.toNat_or, ofInt_nat a ha, ofInt_nat b hb, wrap32]; omega
theorem iand_nat {a b : Nat} (ha : a < 4294967296) (hb : b < 4294967296) : iand .u32 (a : Int) (b : Int) = ((a &&& b : Nat) : Int) := by
  have hw : a &&& b < 4294967296 := Nat.and_lt_two_pow (n := 32) _ hb
  show IntKind.u32.wrap (((BitVec.ofInt 32 (a : Int) &&& BitVec.ofInt 32 (b : Int)).toNat : Nat) : Int) = _
  rw [BitVec.toNat_and, ofInt_nat a ha, ofInt_nat b hb, wrap32]; omega
theorem VS.ior (a b : Int) : VS (ior .u32 a b) := VS.wrap _
theorem VS.iand (a b : Int) : VS (iand .u32 a b) := VS.wrap _
theorem VS.ixor (a b : Int) : VS (ixor .u32 a b) := VS.wrap _
theorem VS.iandNot (a b : Int) : VS (iandNot .u32 a b) := VS.wrap _
theorem VS.ishl (a b : Int) : VS (ishl .u32 a b) := VS.wrap _

theorem has_ior {a b : Int} (ha : VS a) (hb : VS b) (v : Nat) : has (ior .u32 a b) v = (has a v || has b v) := by
  obtain ⟨m, rfl, hm⟩ := ha.nat; obtain ⟨n, rfl, hn⟩ := hb.nat
  rw [ior_nat hm hn]; simp only [has_nat, Nat.testBit_or]
theorem has_iand {a b : Int} (ha : VS a) (hb : VS b) (v : Nat) : has (iand .u32 a b) v = (has a v && has b v) := by
  obtain ⟨m, rfl, hm⟩ := ha.nat; obtain ⟨n, rfl, hn⟩ := hb.nat
  rw [iand_nat hm hn]; simp only [has_nat, Nat.testBit_and]
theorem has_iandNot {a b : Int} (ha : VS a) (hb : VS b) (v : Nat) : has (iandNot .u32 a b) v = (has a v && !has b v) := by
  obtain ⟨m, rfl, hm⟩ := ha.nat; obtain ⟨n, rfl, hn⟩ := hb.nat
  have e : iandNot .u32 (m : Int) (n : Int) = (((BitVec.ofInt 32 (m : Int) &&& ~~~(BitVec.ofInt 32 (n : Int))).toNat : Nat) : Int) := by
    have hw := (BitVec.ofInt 32 (m : Int) &&& ~~~(BitVec.ofInt 32 (n : Int))).isLt
    show IntKind.u32.wrap (((BitVec.ofInt 32 (m : Int) &&& ~~~(BitVec.ofInt 32 (n : Int))).toNat : Nat) : Int) = _
    rw [wrap32]; omega
  rw [e, has_nat, has_nat, has_nat]
  have h1 : ∀ i, (BitVec.ofInt 32 (m : Int)).getLsbD i = m.testBit i := fun i => by rw [BitVec.getLsbD, ofInt_nat m hm]
  have h2 : ∀ i, (BitVec.ofInt 32 (n : Int)).getLsbD i = n.testBit i := fun i => by rw [BitVec.getLsbD, ofInt_nat n hn]
  rw [← BitVec.getLsbD, BitVec.getLsbD_and, BitVec.getLsbD_not, h1, h2]
  by_cases hv : v < 32
  · simp [hv]
  · have : m.testBit v = false := Nat.testBit_lt_two_pow (Nat.lt_of_lt_of_le hm (Nat.pow_le_pow_right (n := 2) (by omega) (show 32 ≤ v by omega)))
    simp [this]
theorem has_big {a : Int} (ha : VS a) {v : Nat} (hv : 32 ≤ v) : has a v = false := by
  obtain ⟨m, rfl, hm⟩ := ha.nat
  rw [has_nat]
  exact Nat.testBit_lt_two_pow (Nat.lt_of_lt_of_le hm (Nat.pow_le_pow_right (n := 2) (by omega) hv))
theorem VS.ext {a b : Int} (ha : VS a) (hb : VS b) (h : ∀ v, v < 32 → has a v = has b v) : a = b := by
  have : ∀ v, has a v = has b v := fun v => by
    by_cases hv : v < 32
    · exact h v hv
    · rw [has_big ha (by omega), has_big hb (by omega)]
  obtain ⟨m, rfl, hm⟩ := ha.nat; obtain ⟨n, rfl, hn⟩ := hb.nat
  congr 1
  apply Nat.eq_of_testBit_eq
  intro v
  have := this v
  rwa [has_nat, has_nat] at this
theorem VS.eq_zero {a : Int} (ha : VS a) : a = 0 ↔ ∀ v, v < 32 → has a v = false :=
  ⟨fun h v _ => by rw [h, has_zero], fun h => ha.ext VS.zero (fun v hv => by rw [h v hv, has_zero])⟩

/-- the set of one vertex -/
theorem one_eq {v : Nat} (hv : v < 32) : ishl .u32 1 (v : Int) = ((2 ^ v : Nat) : Int) := by
  have h : (2 : Nat) ^ v < 2 ^ 32 := Nat.pow_lt_pow_right (by omega) hv
  have h' : (2 : Nat) ^ 32 = 4294967296 := by decide
  rw [h'] at h
  show IntKind.u32.wrap (1 * 2 ^ (min ((v : Int)).toNat 32)) = _
  rw [wrap32, show min ((v : Int)).toNat 32 = v by simp; omega, Int.one_mul]
  have e : ((2 ^ v : Nat) : Int) = (2 : Int) ^ v := by simp
  rw [← e]
  generalize 2 ^ v = p at h ⊢
  omega
theorem has_one {v : Nat} (hv : v < 32) (u : Nat) : has (ishl .u32 1 (v : Int)) u = decide (u = v) := by
  rw [one_eq hv, has_nat, Nat.testBit_two_pow]
  simp [eq_comm]
theorem shr_eq (s : Int) (v : Nat) (h : VS s) (hv : v < 32) : ishr .u32 s (v : Int) = ((s.toNat >>> v : Nat) : Int) := by
  obtain ⟨m, rfl, hm⟩ := h.nat
  show Int.fdiv (m : Int) (2 ^ (min ((v : Int)).toNat 32)) = _
  rw [show min ((v : Int)).toNat 32 = v by simp; omega]
  have e : ((2 ^ v : Nat) : Int) = (2 : Int) ^ v := by simp
  rw [← e, Int.fdiv_eq_ediv_of_nonneg _ (Int.natCast_nonneg _), Nat.shiftRight_eq_div_pow]
  simp
theorem bitAt_eq {s : Int} {v : Nat} (h : VS s) (hv : v < 32) : (iand .u32 (ishr .u32 s (v : Int)) 1 == 1) = has s v := by
  rw [shr_eq s v h hv]
  have hs : s.toNat >>> v < 4294967296 := by
    obtain ⟨m, rfl, hm⟩ := h.nat
    rw [Nat.shiftRight_eq_div_pow]
    exact Nat.lt_of_le_of_lt (Nat.div_le_self _ _) hm
  have := iand_nat hs (show (1 : Nat) < 4294967296 by omega)
  rw [show (1 : Int) = ((1 : Nat) : Int) from rfl, this, has, Nat.testBit]
  rw [Nat.and_comm]
  have h1 : 1 &&& (s.toNat >>> v) = 0 ∨ 1 &&& (s.toNat >>> v) = 1 := by
    rw [Nat.and_comm, Nat.and_one_is_mod]; omega
  rcases h1 with e | e <;> rw [e] <;> rfl

/-- the numbers in a set, rising -/
def elems (s : Int) : List Int := ((List.range 32).filter (has s)).map Int.ofNat
theorem mem_elems {s : Int} {x : Int} : x ∈ elems s ↔ ∃ v : Nat, v < 32 ∧ has s v = true ∧ x = v := by
  unfold elems
  rw [List.mem_map]
  constructor
  · rintro ⟨v, hv, rfl⟩
    rw [List.mem_filter, List.mem_range] at hv
    exact ⟨v, hv.1, hv.2, rfl⟩
  · rintro ⟨v, h1, h2, rfl⟩
    exact ⟨v, List.mem_filter.2 ⟨List.mem_range.2 h1, h2⟩, rfl⟩
theorem mem_elems_nat {s : Int} (h : VS s) {v : Nat} : (v : Int) ∈ elems s ↔ has s v = true := by
  rw [mem_elems]
  constructor
  · rintro ⟨u, _, h2, h3⟩; obtain rfl : v = u := by omega
    exact h2
  · intro h2
    refine ⟨v, ?_, h2, rfl⟩
    by_cases hv : v < 32
    · exact hv
    · rw [has_big h (by omega)] at h2; cases h2
theorem elems_len (s : Int) : (elems s).length ≤ 32 := by
  unfold elems
  rw [List.length_map]
  exact Nat.le_trans (List.length_filter_le _ _) (by simp)

/-- rising lists -/
def Inc (l : List Int) : Prop := l.Pairwise (· < ·)
theorem elems_inc (s : Int) : Inc (elems s) := by
  unfold elems Inc
  rw [List.pairwise_map]
  refine List.Pairwise.filter _ ?_
  refine List.Pairwise.imp ?_ (List.pairwise_lt_range (n := 32))
  intro a b h
  show (a : Int) < (b : Int)
  omega
theorem Inc.ext : ∀ {l l' : List Int}, Inc l → Inc l' → (∀ x, x ∈ l ↔ x ∈ l') → l = l'
  | [], [], _, _, _ => rfl
  | [], y :: l', _, _, h => by have := (h y).2 (by simp); simp at this
  | x :: l, [], _, _, h => by have := (h x).1 (by simp); simp at this
  | x :: l, y :: l', h1, h2, h => by
    have h1' := List.pairwise_cons.1 h1; have h2' := List.pairwise_cons.1 h2
    have e : x = y := by
      rcases List.mem_cons.1 ((h x).1 (by simp)) with e | e
      · exact e
      · rcases List.mem_cons.1 ((h y).2 (by simp)) with e' | e'
        · exact e'.symm
        · have := h2'.1 x e; have := h1'.1 y e'; omega
    subst e
    have : l = l' := by
      refine Inc.ext h1'.2 h2'.2 (fun z => ?_)
      constructor
      · intro hz
        rcases List.mem_cons.1 ((h z).1 (List.mem_cons_of_mem _ hz)) with e | e
        · have := h1'.1 z hz; omega
        · exact e
      · intro hz
        rcases List.mem_cons.1 ((h z).2 (List.mem_cons_of_mem _ hz)) with e | e
        · have := h2'.1 z hz; omega
        · exact e
    rw [this]

/-- the least of a set, and what is left -/
theorem least_spec {s : Int} (h : VS s) (h0 : s ≠ 0) : ∃ k : Nat, k < 32 ∧ has s k = true ∧ (∀ v, v < k → has s v = false) ∧
    iand .u32 s (IntKind.u32.wrap (0 - s)) = ((2 ^ k : Nat) : Int) ∧ (∀ v, has (iand .u32 s (IntKind.u32.wrap (s - 1))) v = (has s v && !decide (v = k))) := by
  obtain ⟨m, rfl, hm⟩ := h.nat
  have hm0 : m ≠ 0 := by omega
  obtain ⟨q, hq, hk⟩ := Lib.ctzFrom_spec 32 m (by omega) hm
  have hc : Lib.ctz 32 m = Lib.ctzFrom 32 m := by unfold Lib.ctz; rw [if_neg hm0]
  obtain ⟨hl, _⟩ := Lib.lowest_bit 32 m hm0 hm
  rw [hc] at hl
  generalize Lib.ctzFrom 32 m = k at *
  have hpos : 0 < 2 ^ k := Nat.pow_pos (by omega)
  have hb : ∀ v, m.testBit v = (decide (v ≥ k) && (2 * q + 1).testBit (v - k)) := fun v => by rw [hq, Nat.mul_comm, Nat.testBit_mul_two_pow, Bool.and_comm]
  refine ⟨k, hk, ?_, fun v hv => ?_, ?_, fun v => ?_⟩
  · rw [has_nat, hb]; simp
  · rw [has_nat, hb]; simp; intro hc; omega
  · have e : IntKind.u32.wrap (0 - (m : Int)) = ((4294967296 - m : Nat) : Int) := by rw [wrap32]; omega
    rw [e, iand_nat hm (by omega)]
    rw [← hl]
  · have e : IntKind.u32.wrap ((m : Int) - 1) = ((m - 1 : Nat) : Int) := by rw [wrap32]; omega
    rw [e, iand_nat hm (by omega), has_nat, has_nat, Nat.testBit_and]
    have hm1 : m - 1 = 2 ^ k * (2 * q) + (2 ^ k - 1) := by rw [hq, Nat.mul_add]; omega
    have hb1 : (m - 1).testBit v = if v < k then true else (2 * q).testBit (v - k) := by
      rw [hm1, Nat.testBit_two_pow_mul_add _ (by omega)]
      split
      · rename_i hv; rw [Nat.testBit_two_pow_sub_one]; simp [hv]
      · rfl
    rw [hb1, hb]
    by_cases hv : v < k
    · simp [hv]; intro hc; omega
    · rw [if_neg hv]
      by_cases hvk : v = k
      · subst hvk; simp
      · obtain ⟨t, ht⟩ : ∃ t, v - k = t + 1 := ⟨v - k - 1, by omega⟩
        rw [ht, Nat.testBit_succ, Nat.testBit_succ]
        have e1 : (2 * q + 1) / 2 = q := by omega
        have e2 : 2 * q / 2 = q := by omega
        rw [e1, e2]
        simp [hvk]

theorem elems_least {s t : Int} {k : Nat} (hk : k < 32) (h1 : has s k = true) (h2 : ∀ v, v < k → has s v = false) (h3 : ∀ v, has t v = (has s v && !decide (v = k))) :
    elems s = (k : Int) :: elems t := by
  refine Inc.ext (elems_inc s) ?_ (fun x => ?_)
  · refine List.pairwise_cons.2 ⟨fun x hx => ?_, elems_inc t⟩
    obtain ⟨v, hv, h4, rfl⟩ := mem_elems.1 hx
    rw [h3] at h4
    simp at h4
    by_cases hc : v < k
    · rw [h2 v hc] at h4; simp at h4
    · omega
  · rw [List.mem_cons, mem_elems, mem_elems]
    constructor
    · rintro ⟨v, hv, h4, rfl⟩
      by_cases e : v = k
      · left; omega
      · right; exact ⟨v, hv, by rw [h3, h4]; simp [e], rfl⟩
    · rintro (rfl | ⟨v, hv, h4, rfl⟩)
      · exact ⟨k, hk, h1, rfl⟩
      · rw [h3] at h4; simp at h4
        exact ⟨v, hv, h4.1, rfl⟩
theorem elems_zero : elems 0 = [] := by
  unfold elems
  rw [List.filter_eq_nil_iff.2 (fun v _ => by simp [has_zero])]; rfl

theorem tz_table : ∀ k : Nat, k < 32 → idx tab32 (ishr .u32 (IntKind.u32.wrap (((2 ^ k : Nat) : Int) * 125613361)) 27) = some (k : Int) := by decide +kernel
end Go.Sx

namespace Go.Sx
/-- from a0 to b0 all pairs are in order, but for those from a to b -/
def Out (l : List Int) (a0 b0 a b : Int) : Prop := ∀ i j, a0 ≤ i → i < j → j < b0 → ¬ (a ≤ i ∧ j < b) → at' l i ≤ at' l j

theorem Out.keep {a0 a b b0 : Int} {l l' : List Int} (h : Rg a b l l') (h0 : 0 ≤ a0) (ha : a0 ≤ a) (hb : b ≤ b0) (c : Out l a0 b0 a b) : Out l' a0 b0 a b := by
  intro i j h1 h2 h3 h4
  by_cases hi : a ≤ i ∧ i < b
  · rw [h.out j (by omega) (by omega)]
    exact h.all (fun x => x ≤ at' l j) (fun k k1 k2 => c k j (by omega) (by omega) h3 (by omega)) i hi.1 hi.2
  · rw [h.out i (by omega) (by omega)]
    by_cases hj : a ≤ j ∧ j < b
    · exact h.all (fun x => at' l i ≤ x) (fun k k1 k2 => c i k (by omega) (by omega) (by omega) (by omega)) j hj.1 hj.2
    · rw [h.out j (by omega) (by omega)]; exact c i j h1 h2 h3 h4

theorem pdqsort_spec : ∀ (n : Nat) (l0 : List Int) (a0 b0 lim : Int), 0 ≤ a0 → a0 ≤ b0 → b0 ≤ l0.length → l0.length ≤ 1000000 → b0 - a0 ≤ 16 → b0 - a0 ≤ 12 + lim → 0 ≤ lim → lim ≤ 64 →
    (0 < a0 → ∀ k, a0 ≤ k → k < b0 → at' l0 (a0 - 1) ≤ at' l0 k) → b0 - a0 < n → ∃ l', D.slices_pdqsortOrdered_int64R n l0 a0 b0 lim = some l' ∧ Rg a0 b0 l0 l' ∧ Srt l' a0 b0 := by
  intro n
  induction n with
  | zero => intro l0 a0 b0 lim h1 h2 h3 h4 h5 h6 h7 h8 h9 h10; omega
  | succ n ih =>
    intro l0 a0 b0 lim h1 h2 h3 h4 h5 h6 h7 h8 h9 h10
    unfold D.slices_pdqsortOrdered_int64R
    refine loop_then (fun s => Rg a0 b0 l0 s.1 ∧ Out s.1 a0 b0 s.2.1 s.2.2.1 ∧ a0 ≤ s.2.1 ∧ s.2.1 ≤ s.2.2.1 ∧ s.2.2.1 ≤ b0 ∧ s.2.2.1 - s.2.1 ≤ 12 + s.2.2.2.1 ∧ 0 ≤ s.2.2.2.1 ∧ s.2.2.2.1 ≤ 64 ∧ (0 < s.2.1 → ∀ k, s.2.1 ≤ k → k < s.2.2.1 → at' s.1 (s.2.1 - 1) ≤ at' s.1 k))
      (fun s => (s.2.2.1 - s.2.1).toNat) (fun r => Rg a0 b0 l0 r ∧ Srt r a0 b0) ?_ ?_ ?_
    · rintro ⟨l, a, b, lm, bal, par⟩ ⟨hR, hO, g1, g2, g3, g4, g5, g6, g7⟩
      dsimp only at hR hO g1 g2 g3 g4 g5 g6 g7 ⊢
      have hll := hR.len
      have fin : ∀ l', Rg a b l l' → Srt l' a b → Rg a0 b0 l0 l' ∧ Srt l' a0 b0 := fun l' hr hs =>
        ⟨hR.trans (hr.widen g1 g3 h1), fun i j k1 k2 k3 => by
          by_cases hc : a ≤ i ∧ j < b
          · exact hs i j hc.1 k2 hc.2
          · exact (hO.keep hr h1 g1 g3) i j k1 k2 k3 hc⟩
      rw [w64 (show -9223372036854775808 ≤ b - a by omega) (by omega)]
      by_cases hs : b - a ≤ 12
      · obtain ⟨l', e, r1, r2⟩ := insertionSort_spec l a b (by omega) g2 (by omega) (by omega)
        refine ⟨.inr l', ?_, fin l' r1 r2⟩
        simp only [hs, decide_true, cond_true, e, Option.bind_some]
      · have hl0 : (lm == 0) = false := by simp; omega
        simp only [hs, decide_false, cond_false, hl0]
        refine bind_then (fun q : List Int × Int => Rg a b l q.1 ∧ b - a ≤ 13 + q.2 ∧ 0 ≤ q.2 ∧ q.2 ≤ 64) ?_ ?_
        · cases bal
          · obtain ⟨l1, e, r1⟩ := breakPatterns_spec l a b (by omega) (by omega) (by omega) (by omega) (by omega)
            refine ⟨(l1, lm - 1), ?_, r1, by dsimp only; omega, by dsimp only; omega, by dsimp only; omega⟩
            simp only [Bool.not_false, cond_true, e, Option.bind_some]
            rw [w64 (by omega) (by omega)]
          · exact ⟨(l, lm), rfl, Rg.refl _ _ _, by dsimp only; omega, by dsimp only; omega, by dsimp only; omega⟩
        rintro ⟨l1, lm1⟩ ⟨hr1, k1, k2, k3⟩
        dsimp only at hr1 k1 k2 k3 ⊢
        have hl1 := hr1.len
        obtain ⟨y, ey, c1, c2, c3⟩ := choosePivot_spec l1 a b (by omega) (by omega) (by omega) (by omega) (by omega)
        rw [ey, Option.bind_some]
        refine bind_then (fun q : List Int × Int × Int => Rg a b l q.1 ∧ a ≤ q.2.1 ∧ q.2.1 < b) ?_ ?_
        · cases (y.2.1 == 2)
          · exact ⟨_, rfl, by dsimp only; rw [c1]; exact hr1, c2, c3⟩
          · obtain ⟨l2, e2, r2⟩ := reverseRange_spec l1 a b (by omega) (by omega) (by omega) (by omega)
            rw [c1]
            simp only [cond_true, e2, Option.bind_some]
            rw [w64 (show -9223372036854775808 ≤ b - 1 by omega) (by omega), w64 (show -9223372036854775808 ≤ y.1 - a by omega) (by omega), w64 (show -9223372036854775808 ≤ b - 1 - (y.1 - a) by omega) (by omega)]
            exact ⟨_, rfl, hr1.trans r2, by dsimp only; omega, by dsimp only; omega⟩
        rintro ⟨l2, p, hint⟩ ⟨hr2, p1, p2⟩
        dsimp only at hr2 p1 p2 ⊢
        have hl2 := hr2.len
        refine bind_then (fun q : List Int ⊕ List Int => match q with | .inl q => q = l2 | .inr q => q = l2 ∧ Srt l2 a b) ?_ ?_
        · cases ((bal && par) && (hint == 1))
          · exact ⟨.inl l2, rfl, rfl⟩
          · obtain ⟨y2, e2, d1, d2⟩ := partialInsertion_spec l2 a b (by omega) (by omega) (by omega) (by omega) (by omega)
            simp only [cond_true, e2, Option.bind_some, d1]
            cases hy : y2.1
            · exact ⟨.inl l2, rfl, rfl⟩
            · exact ⟨.inr l2, rfl, rfl, d2 hy⟩
        rintro (q | q) hq
        case inr =>
          obtain ⟨rfl, hq⟩ := hq
          exact ⟨.inr q, rfl, fin q hr2 hq⟩
        dsimp only at hq ⊢
        subst hq
        have hO2 := hO.keep hr2 h1 g1 g3
        have g7' : 0 < a → ∀ k, a ≤ k → k < b → at' q (a - 1) ≤ at' q k := fun ha k m1 m2 => by
          rw [hr2.out (a - 1) (by omega) (.inl (by omega))]
          exact hr2.all (fun x => at' l (a - 1) ≤ x) (g7 ha) k m1 m2
        refine bind_then (fun c : Bool => c = true → 0 < a ∧ at' q p ≤ at' q (a - 1)) ?_ ?_
        · by_cases ha : 0 < a
          · have r1 : idx q (a - 1) = some (at' q (a - 1)) := idx_at (by omega) (by omega)
            have r2 : idx q p = some (at' q p) := idx_at (by omega) (by omega)
            rw [w64 (show -9223372036854775808 ≤ a - 1 by omega) (by omega)]
            simp only [ha, decide_true, cond_true, r1, r2, less_eq, Option.bind_some]
            exact ⟨_, rfl, fun h => ⟨by trivial, by simpa using h⟩⟩
          · simp only [ha, decide_false, cond_false]
            exact ⟨_, rfl, fun h => by cases h⟩
        intro c hc
        cases c
        · -- the pivot parts
          simp only [cond_false]
          obtain ⟨⟨mid, par', l3⟩, e3, P⟩ := partition_spec q a b p (by omega) (by omega) (by omega) p1 p2
          rw [e3, Option.bind_some]
          obtain ⟨hr3, m1, m2, m3, m4⟩ := P
          dsimp only at hr3 m1 m2 m3 m4 ⊢
          have hl3 := hr3.len
          have hO3 := hO2.keep hr3 h1 g1 g3
          have g7'' : 0 < a → ∀ k, a ≤ k → k < b → at' l3 (a - 1) ≤ at' l3 k := fun ha k n1 n2 => by
            rw [hr3.out (a - 1) (by omega) (.inl (by omega))]
            exact hr3.all (fun x => at' q (a - 1) ≤ x) (g7' ha) k n1 n2
          have hR3 : Rg a0 b0 l0 l3 := hR.trans ((hr2.trans hr3).widen g1 g3 h1)
          rw [w64 (show -9223372036854775808 ≤ mid - a by omega) (by omega), w64 (show -9223372036854775808 ≤ b - mid by omega) (by omega), w64 (show -9223372036854775808 ≤ mid + 1 by omega) (by omega)]
          by_cases hside : mid - a < b - mid
          · simp only [hside, decide_true, cond_true]
            obtain ⟨l4, e4, r4, s4⟩ := ih l3 a mid lm1 (by omega) m1 (by omega) (by omega) (by omega) (by omega) k2 k3 (fun ha k n1 n2 => g7'' ha k n1 (by omega)) (by omega)
            rw [e4, Option.bind_some]
            have hl4 := r4.len
            have em : ∀ k, mid ≤ k → at' l4 k = at' l3 k := fun k hk => r4.out k (by omega) (.inr hk)
            have lf : ∀ k, a ≤ k → k < mid → at' l4 k ≤ at' l4 mid := fun k n1 n2 => by
              rw [em mid (Int.le_refl _)]; exact r4.all (fun x => x ≤ at' l3 mid) m3 k n1 n2
            refine ⟨.inl _, rfl, ⟨hR3.trans (r4.widen g1 (by omega) h1), ?_, by dsimp only; omega, by dsimp only; omega, g3, by dsimp only; omega, k2, k3, ?_⟩, by dsimp only; omega⟩
            · have hO4 := hO3.keep (r4.widen (Int.le_refl a) (by omega) (by omega)) h1 g1 g3
              intro i j n1 n2 n3 n4
              dsimp only at n4 ⊢
              by_cases hin : a ≤ i ∧ j < b
              · by_cases hj : j < mid
                · exact s4 i j hin.1 n2 hj
                · have hi : i ≤ mid := by omega
                  have e1 : at' l4 i ≤ at' l4 mid := by
                    by_cases e : i = mid
                    · rw [e]; exact Int.le_refl _
                    · exact lf i hin.1 (by omega)
                  have e2 : at' l4 mid ≤ at' l4 j := by
                    by_cases e : j = mid
                    · rw [e]; exact Int.le_refl _
                    · rw [em mid (Int.le_refl _), em j (by omega)]; exact m4 j (by omega) hin.2
                  omega
              · exact hO4 i j n1 n2 n3 hin
            · intro _ k n1 n2
              dsimp only at n1 n2 ⊢
              rw [show mid + 1 - 1 = mid by omega, em mid (Int.le_refl _), em k (by omega)]
              exact m4 k (by omega) n2
          · simp only [hside, decide_false, cond_false]
            obtain ⟨l4, e4, r4, s4⟩ := ih l3 (mid + 1) b lm1 (by omega) (by omega) (by omega) (by omega) (by omega) (by omega) k2 k3 (fun _ k n1 n2 => by rw [show mid + 1 - 1 = mid by omega]; exact m4 k (by omega) n2) (by omega)
            rw [e4, Option.bind_some]
            have hl4 := r4.len
            have em : ∀ k, 0 ≤ k → k ≤ mid → at' l4 k = at' l3 k := fun k h0 hk => r4.out k h0 (.inl (by omega))
            have rt : ∀ k, mid < k → k < b → at' l4 mid ≤ at' l4 k := fun k n1 n2 => by
              rw [em mid (by omega) (Int.le_refl _)]; exact r4.all (fun x => at' l3 mid ≤ x) (fun k q1 q2 => m4 k (by omega) q2) k (by omega) n2
            refine ⟨.inl _, rfl, ⟨hR3.trans (r4.widen (by omega) g3 h1), ?_, g1, m1, by dsimp only; omega, by dsimp only; omega, k2, k3, ?_⟩, by dsimp only; omega⟩
            · have hO4 := hO3.keep (r4.widen (by omega) (Int.le_refl b) (by omega)) h1 g1 g3
              intro i j n1 n2 n3 n4
              dsimp only at n4 ⊢
              by_cases hin : a ≤ i ∧ j < b
              · by_cases hi : mid < i
                · exact s4 i j (by omega) n2 hin.2
                · have hj : mid ≤ j := by omega
                  have e1 : at' l4 i ≤ at' l4 mid := by
                    by_cases e : i = mid
                    · rw [e]; exact Int.le_refl _
                    · rw [em i (by omega) (by omega), em mid (by omega) (Int.le_refl _)]; exact m3 i hin.1 (by omega)
                  have e2 : at' l4 mid ≤ at' l4 j := by
                    by_cases e : j = mid
                    · rw [e]; exact Int.le_refl _
                    · exact rt j (by omega) hin.2
                  omega
              · exact hO4 i j n1 n2 n3 hin
            · intro ha k n1 n2
              dsimp only at ha n1 n2 ⊢
              rw [em (a - 1) (by omega) (by omega), em k (by omega) (by omega)]
              exact g7'' ha k n1 (by omega)
        · -- many are equal to the pivot
          simp only [cond_true]
          obtain ⟨hc1, hc2⟩ := hc rfl
          obtain ⟨⟨mid, l3⟩, e3, hr3, m1, m2, m3, m4⟩ := partitionEqual_spec q a b p (by omega) (by omega) (by omega) p1 p2
          rw [e3, Option.bind_some]
          dsimp only at hr3 m1 m2 m3 m4 ⊢
          have hl3 := hr3.len
          have hO3 := hO2.keep hr3 h1 g1 g3
          have lw : ∀ k, a ≤ k → k < b → at' q p ≤ at' l3 k := fun k n1 n2 =>
            hr3.all (fun x => at' q p ≤ x) (fun k q1 q2 => Int.le_trans hc2 (g7' hc1 k q1 q2)) k n1 n2
          refine ⟨.inl _, rfl, ⟨hR.trans ((hr2.trans hr3).widen g1 g3 h1), ?_, by dsimp only; omega, m2, g3, by dsimp only; omega, k2, k3, ?_⟩, by dsimp only; omega⟩
          · intro i j n1 n2 n3 n4
            dsimp only at n4 ⊢
            by_cases hin : a ≤ i ∧ j < b
            · have := m3 i hin.1 (by omega)
              have := lw j (by omega) hin.2
              omega
            · exact hO3 i j n1 n2 n3 hin
          · intro _ k n1 n2
            dsimp only at n1 n2 ⊢
            have := m3 (mid - 1) (by omega) (by omega)
            have := m4 k n1 n2
            omega
    · exact ⟨Rg.refl _ _ _, fun i j n1 n2 n3 n4 => by dsimp only at n4; omega, Int.le_refl _, h2, Int.le_refl _, h6, h7, h8, h9⟩
    · rintro r hr
      exact ⟨r, rfl, hr⟩
end Go.Sx

namespace Go.Sx
/-- slices.Sorted(slices.Values(l)), of a list that is not long -/
theorem sorted_spec (l : List Int) (hl : l.length ≤ 16) : ∃ y, D.slices_Sorted_int64 l = some y ∧ List.Perm y l ∧ Srt y 0 y.length := by
  unfold D.slices_Sorted_int64 D.slices_Collect_int64 D.slices_AppendSeq_int64_int64 D.slices_Sort_int64_int64 D.slices_pdqsortOrdered_int64 D.math_bits_Len
  rw [if_pos (show l.length ≤ 1000000 by omega)]
  simp only [Option.bind_some]
  rw [wu64 (by omega) (by omega), if_pos (by omega)]
  simp only [Option.bind_some]
  have hk : ∀ k : Nat, k ≤ 16 → k ≤ 12 + Lib.bitLen k ∧ Lib.bitLen k ≤ 64 := by decide
  obtain ⟨k1, k2⟩ := hk l.length hl
  have e : ((l.length : Int)).toNat = l.length := by omega
  have hb := recFuel_big
  obtain ⟨y, hy, hr, hs⟩ := pdqsort_spec recFuel l 0 l.length (Lib.bitLen l.length : Nat) (by omega) (by omega) (by omega) (by omega) (by omega) (by omega) (by omega) (by omega) (fun h => absurd h (by omega)) (by omega)
  rw [e, hy]
  refine ⟨y, rfl, hr.perm, ?_⟩
  rw [hr.len]; exact hs
end Go.Sx



/- The program's and the reference's first helpers in closed form: sets, graphs, orders. Plain. -/
namespace Go.Sx
/-- short enough for every loop -/
def Sh {α : Type} (xs : List α) : Prop := xs.length ≤ 4294967296

theorem l1In_eq (a b c : Int) : D.spec_l1In a b c = some (decide (b ≤ a) && decide (a ≤ c)) := rfl
theorem inRange_eq (a b c : Int) : D.impl_inRange a b c = some (decide (b ≤ a) && decide (a ≤ c)) := rfl

theorem any_beq (xs : List Int) (n : Int) : xs.any (fun x => x == n) = decide (n ∈ xs) := by
  rw [Bool.eq_iff_iff, List.any_eq_true]; simp
theorem l1Has_eq (xs : List Int) (n : Int) (h : Sh xs) : D.spec_l1Has xs n = some (decide (n ∈ xs)) := by
  unfold Sh at h
  unfold D.spec_l1Has
  refine (loop_anyb xs.length (fun i => xs.getD i 0 == n) true (fun i hi => ?_) ?_ rfl rfl).trans ?_
  · simp only [dlt hi, cond_true, idx_nat hi, Option.bind_some, wi' hi (by omega), getD_lt hi]
    cases xs[i] == n <;> rfl
  · simp only [dnlt, cond_false]
  · rw [range_any_list xs (fun x => x == n) _ (fun i hi => by rw [getD_lt hi]), any_beq]
theorem contains_eq (xs : List Int) (n : Int) (h : Sh xs) : D.slices_Contains_int64_int64 xs n = some (decide (n ∈ xs)) := by
  unfold Sh at h
  unfold D.slices_Contains_int64_int64 D.slices_Index_int64_int64
  have e : loopF (σ := Int) (ρ := (Unit) ⊕ (Int)) (fun (x_26 : Int) => cond (decide (x_26 < (xs.length : Int))) ((idx xs x_26).bind fun e_39 => cond (n == e_39) (some (.inr (.inr x_26))) (some (.inl (IntKind.i64.wrap (x_26 + 1))))) (some (.inr (.inl ())))) 0 =
      some (((List.range xs.length).findSome? (fun i => if xs.getD i 0 == n then some (Sum.inr (i : Int)) else none)).getD (.inl ())) := by
    refine loop_find xs.length _ _ (fun i hi => ?_) ?_
    · simp only [dlt hi, cond_true, idx_nat hi, Option.bind_some, wi' hi (by omega), getD_lt hi]
      rw [show (n == xs[i]) = (xs[i] == n) from Bool.beq_comm ..]
      cases xs[i] == n <;> rfl
    · simp only [dnlt, cond_false]
  rw [e, Option.bind_some]
  cases hf : (List.range xs.length).findSome? (fun i => if xs.getD i 0 == n then some (Sum.inr (i : Int) : Unit ⊕ Int) else none) with
  | none =>
    have : n ∉ xs := fun hm => by
      obtain ⟨i, hi, e⟩ := List.getElem_of_mem hm
      have := (List.findSome?_eq_none_iff.1 hf) i (List.mem_range.2 hi)
      rw [getD_lt hi, e] at this
      simp at this
    simp [this]
  | some r =>
    obtain ⟨i, hi, hr⟩ := List.exists_of_findSome?_eq_some hf
    have hi' := List.mem_range.1 hi
    rw [getD_lt hi'] at hr
    split at hr
    · rename_i hc
      cases hr
      have : n ∈ xs := by rw [← (beq_iff_eq.1 hc)]; exact List.getElem_mem _
      simp [this]
    · cases hr

/-- a set of numbers below n, as a list -/
def SetOf (xs : List Int) (n : Int) : Prop := Inc xs ∧ ∀ x ∈ xs, 0 ≤ x ∧ x < n
theorem SetOf.len : ∀ {xs : List Int} {n a : Int}, Inc xs → (∀ x ∈ xs, a ≤ x ∧ x < n) → xs = [] ∨ (xs.length : Int) ≤ n - a
  | [], _, _, _, _ => .inl rfl
  | x :: xs, n, a, h, hr => by
    right
    have h' := List.pairwise_cons.1 h
    have hx := hr x (by simp)
    rcases SetOf.len (a := x + 1) (n := n) h'.2 (fun y hy => ⟨by have := h'.1 y hy; omega, (hr y (by simp [hy])).2⟩) with e | e
    · subst e; simp; omega
    · simp; omega
theorem SetOf.length_le {xs : List Int} {n : Int} (h : SetOf xs n) (hn : 0 ≤ n) : (xs.length : Int) ≤ n := by
  rcases SetOf.len h.1 h.2 with e | e
  · subst e; simpa using hn
  · omega

theorem inc_iff (xs : List Int) : Inc xs ↔ ∀ i (hi : i + 1 < xs.length), xs[i] < xs[i + 1] := by
  unfold Inc
  constructor
  · intro h i hi
    exact List.pairwise_iff_getElem.1 h i (i + 1) (by omega) hi (by omega)
  · intro h
    rw [List.pairwise_iff_getElem]
    intro i j hi hj hij
    have key : ∀ k, ∀ hk : i + k + 1 < xs.length, xs[i] < xs[i + k + 1] := by
      intro k
      induction k with
      | zero => intro hk; exact h i hk
      | succ k ih => intro hk; have := ih (by omega); have := h (i + k + 1) hk; exact Int.lt_trans (ih (by omega)) this
    obtain ⟨k, rfl⟩ : ∃ k, j = i + k + 1 := ⟨j - i - 1, by omega⟩
    exact key k hj

def setB (xs : List Int) (n : Int) : Bool := (List.range xs.length).all fun i => (decide (0 ≤ xs.getD i 0) && decide (xs.getD i 0 ≤ n - 1)) && !(decide (0 < i) && decide (xs.getD i 0 ≤ xs.getD (i - 1) 0))
theorem setB_iff (xs : List Int) (n : Int) : setB xs n = true ↔ SetOf xs n := by
  unfold setB SetOf
  rw [all_forall, inc_iff]
  constructor
  · intro h
    refine ⟨fun i hi => ?_, fun x hx => ?_⟩
    · have := h (i + 1) hi
      simp [hi, show i < xs.length by omega] at this
      omega
    · obtain ⟨i, hi, rfl⟩ := List.getElem_of_mem hx
      have := h i hi
      simp [hi] at this
      omega
  · rintro ⟨h1, h2⟩ i hi
    have h3 := h2 _ (List.getElem_mem hi)
    simp [hi]
    refine ⟨by omega, ?_⟩
    rcases Nat.eq_zero_or_pos i with h0 | h0
    · exact .inl h0
    · right
      have := h1 (i - 1) (by omega)
      have e : i - 1 + 1 = i := by omega
      simp only [e] at this
      have e2 : xs[i - 1]?.getD 0 = xs[i - 1] := by rw [List.getElem?_eq_getElem (by omega)]; rfl
      rw [e2]; exact this

theorem increasing_eq (xs : List Int) (n : Int) (h : Sh xs) (h0 : 0 ≤ n) (hn : n ≤ 4294967296) : D.impl_increasing xs n = some (setB xs n) := by
  unfold Sh at h
  unfold D.impl_increasing
  refine loop_allb xs.length _ false (fun i hi => ?_) ?_ rfl rfl
  · simp only [dlt hi, cond_true, idx_nat hi, Option.bind_some, wi' hi (by omega), getD_lt hi, inRange_eq]
    rw [w64 (x := n - 1) (by omega) (by omega)]
    cases (decide (0 ≤ xs[i]) && decide (xs[i] ≤ n - 1))
    · simp
    · by_cases h0 : 0 < i
      · have e1 : IntKind.i64.wrap ((i : Int) - 1) = ((i - 1 : Nat) : Int) := by rw [w64 (by omega) (by omega)]; omega
        have hd : decide ((0 : Int) < (i : Int)) = true := by simp; omega
        simp only [Bool.not_true, cond_false, hd, cond_true, e1, idx_nat (show i - 1 < xs.length by omega), Option.bind_some, getD_lt (show i - 1 < xs.length by omega), h0, decide_true, Bool.true_and]
        cases decide (xs[i] ≤ xs[i - 1]) <;> rfl
      · have hd : decide ((0 : Int) < (i : Int)) = false := by simp; omega
        simp only [Bool.not_true, cond_false, hd, Option.bind_some, h0, decide_false, Bool.false_and, Bool.not_false, Bool.and_true, if_true]
  · simp only [dnlt, cond_false]

theorem l1Set_eq (xs : List Int) (n : Int) (h : Sh xs) (h0 : 0 ≤ n) (hn : n ≤ 4294967296) : D.spec_l1Set xs n = some (setB xs n) := by
  have hh := h
  unfold Sh at h
  unfold D.spec_l1Set
  by_cases hl : n < xs.length
  · have : setB xs n = false := by
      cases hb : setB xs n
      · rfl
      · have := ((setB_iff xs n).1 hb).length_le h0; omega
    simp [hl, this]
  · simp only [hl, decide_false, cond_false]
    refine loop_allb xs.length _ false (fun i hi => ?_) ?_ rfl rfl
    · simp only [dlt hi, cond_true, idx_nat hi, Option.bind_some, wi' hi (by omega), getD_lt hi, l1In_eq]
      rw [w64 (x := n - 1) (by omega) (by omega)]
      cases (decide (0 ≤ xs[i]) && decide (xs[i] ≤ n - 1))
      · simp
      · by_cases h0 : 0 < i
        · have e1 : IntKind.i64.wrap ((i : Int) - 1) = ((i - 1 : Nat) : Int) := by rw [w64 (by omega) (by omega)]; omega
          have hd : decide ((0 : Int) < (i : Int)) = true := by simp; omega
          simp only [Bool.not_true, cond_false, hd, cond_true, e1, idx_nat (show i - 1 < xs.length by omega), Option.bind_some, getD_lt (show i - 1 < xs.length by omega), h0, decide_true, Bool.true_and]
          cases decide (xs[i] ≤ xs[i - 1]) <;> rfl
        · have hd : decide ((0 : Int) < (i : Int)) = false := by simp; omega
          simp only [Bool.not_true, cond_false, hd, Option.bind_some, h0, decide_false, Bool.false_and, Bool.not_false, Bool.and_true, if_true]
    · simp only [dnlt, cond_false]

/-- row v of a graph -/
def row (g : List (List Int)) (v : Nat) : List Int := g.getD v []
theorem row_eq {g : List (List Int)} {v : Nat} (h : v < g.length) : row g v = g[v] := getD_lt h _
def adj (g : List (List Int)) (u v : Nat) : Prop := (v : Int) ∈ row g u

/-- a valid graph -/
structure GOk (g : List (List Int)) : Prop where
  n1 : 1 ≤ g.length
  n16 : g.length ≤ 16
  rows : ∀ v, v < g.length → SetOf (row g v) g.length
  irr : ∀ v, v < g.length → ¬ adj g v v
  sym : ∀ u v, u < g.length → adj g u v → adj g v u

theorem GOk.mem {g : List (List Int)} (h : GOk g) {u : Nat} (hu : u < g.length) {x : Int} (hx : x ∈ row g u) : ∃ v : Nat, x = v ∧ v < g.length ∧ adj g u v := by
  have := (h.rows u hu).2 x hx
  refine ⟨x.toNat, by omega, by omega, ?_⟩
  unfold adj
  rw [show ((x.toNat : Nat) : Int) = x by omega]; exact hx
theorem GOk.row_len {g : List (List Int)} (h : GOk g) {u : Nat} (hu : u < g.length) : (row g u).length ≤ 16 := by
  have := (h.rows u hu).length_le (by omega)
  have := h.n16
  omega
theorem GOk.lt {g : List (List Int)} (h : GOk g) {u v : Nat} (hu : u < g.length) (ha : adj g u v) : v < g.length := by
  obtain ⟨w, h1, h2, _⟩ := h.mem hu ha
  omega

/-- short in both ways -/
def Sh2 (g : List (List Int)) : Prop := Sh g ∧ ∀ r ∈ g, Sh r
theorem Sh2.row {g : List (List Int)} (h : Sh2 g) {v : Nat} (hv : v < g.length) : Sh (row g v) := by
  rw [row_eq hv]; exact h.2 _ (List.getElem_mem hv)
theorem idx_row {g : List (List Int)} {v : Nat} (h : v < g.length) : idx g (v : Int) = some (row g v) := by rw [row_eq h, idx_nat h]

def gB1 (g : List (List Int)) : Bool := (List.range g.length).all fun v => setB (row g v) g.length && !decide ((v : Int) ∈ row g v)
def gB2 (g : List (List Int)) : Bool := (List.range g.length).all fun v => (row g v).all fun x => decide ((v : Int) ∈ row g x.toNat)
def gB (g : List (List Int)) : Bool := decide (1 ≤ g.length) && decide (g.length ≤ 16) && gB1 g && gB2 g
theorem gB_iff (g : List (List Int)) : gB g = true ↔ GOk g := by
  unfold gB gB1 gB2
  simp only [Bool.and_eq_true, decide_eq_true_eq, setB_iff, Bool.not_eq_true', decide_eq_false_iff_not, List.all_eq_true, List.mem_range]
  constructor
  · rintro ⟨⟨⟨h1, h2⟩, h3⟩, h4⟩
    refine ⟨h1, h2, fun v hv => (h3 v hv).1, fun v hv => (h3 v hv).2, fun u v hu ha => ?_⟩
    have := h4 u hu v ha
    unfold adj
    simpa using this
  · intro h
    refine ⟨⟨⟨h.n1, h.n16⟩, fun v hv => ⟨h.rows v hv, h.irr v hv⟩⟩, fun v hv x hx => ?_⟩
    obtain ⟨u, rfl, hu, ha⟩ := h.mem hv hx
    have := h.sym v u hv ha
    simpa [adj] using this

theorem spec_GraphOk_eq (g : List (List Int)) (h : Sh2 g) : D.spec_GraphOk g = some (gB g) := by
  have hl : g.length ≤ 4294967296 := h.1
  unfold D.spec_GraphOk D.spec_l1Size
  simp only [Option.bind_some, l1In_eq]
  by_cases hn : 1 ≤ g.length ∧ g.length ≤ 16
  · have e : (decide ((1 : Int) ≤ (g.length : Int)) && decide ((g.length : Int) ≤ 16)) = true := by simp; omega
    simp only [e, Bool.not_true, cond_false]
    refine (loop_ck g.length (fun v => setB (row g v) g.length && !decide ((v : Int) ∈ row g v)) (.inl ()) (.inr false) (fun v hv => ?_) ?_).trans ?_
    rotate_left
    · simp only [dnlt, cond_false]
    · show cond (gB1 g) _ _ = _
      have e4 : gB g = (gB1 g && gB2 g) := by unfold gB; simp [hn.1, hn.2]
      rw [e4]
      cases hc : gB1 g with
      | false => rfl
      | true =>
        rw [cond_true, Bool.true_and]
        refine loop_allb g.length _ false (fun v hv => ?_) ?_ rfl rfl
        · have hset : SetOf (row g v) g.length := by
            have := (all_forall _ _).1 hc v hv
            simp only [Bool.and_eq_true] at this
            exact (setB_iff _ _).1 this.1
          simp only [dlt hv, cond_true]
          refine (loop_ck (row g v).length (fun i => decide ((v : Int) ∈ row g ((row g v).getD i 0).toNat)) (.inl ()) (.inr false) (fun i hi => ?_) ?_).trans ?_
          · have hx := hset.2 _ (List.getElem_mem hi)
            have e5 : idx g (row g v)[i] = some (row g ((row g v)[i]).toNat) := by
              have := idx_row (g := g) (v := ((row g v)[i]).toNat) (by omega)
              rwa [show ((((row g v)[i]).toNat : Nat) : Int) = (row g v)[i] by omega] at this
            have hs := h.row (v := ((row g v)[i]).toNat) (by omega)
            simp only [idx_row hv, Option.bind_some, dlt hi, cond_true, idx_nat hi, e5, l1Has_eq _ _ hs, wi (show i < 4611686018427387904 by have := h.row hv; unfold Sh at this; omega), getD_lt hi]
            cases decide ((v : Int) ∈ row g ((row g v)[i]).toNat) <;> rfl
          · simp only [idx_row hv, Option.bind_some, dnlt, cond_false]
          · rw [range_all_list (row g v) (fun x => decide ((v : Int) ∈ row g x.toNat)) _ (fun i hi => by rw [getD_lt hi]), wi' hv (by omega)]
            cases (row g v).all fun x => decide ((v : Int) ∈ row g x.toNat) <;> rfl
        · simp only [dnlt, cond_false]
    · simp only [dlt hv, cond_true, idx_row hv, Option.bind_some, l1Set_eq _ _ (h.row hv) (show (0 : Int) ≤ (g.length : Int) by omega) (by omega), l1Has_eq _ _ (h.row hv), wi' hv (by omega)]
      cases setB (row g v) g.length
      · rfl
      · cases decide ((v : Int) ∈ row g v) <;> rfl
  · have e : (decide ((1 : Int) ≤ (g.length : Int)) && decide ((g.length : Int) ≤ 16)) = false := by
      rw [Bool.eq_false_iff]; simp; omega
    simp only [e, Bool.not_false, cond_true]
    unfold gB
    congr 1
    symm
    rw [Bool.eq_false_iff]
    simp
    omega

theorem impl_GraphOk_eq (g : List (List Int)) (h : Sh2 g) : D.impl_GraphOk g = some (gB g) := by
  have hl : g.length ≤ 4294967296 := h.1
  unfold D.impl_GraphOk
  by_cases hn : 1 ≤ g.length ∧ g.length ≤ 16
  · have e : (decide ((g.length : Int) < (1 : Int)) || decide ((16 : Int) < (g.length : Int))) = false := by simp; omega
    simp only [e, cond_false]
    refine (loop_ck g.length (fun v => setB (row g v) g.length && !decide ((v : Int) ∈ row g v)) (.inl ()) (.inr false) (fun v hv => ?_) ?_).trans ?_
    rotate_left
    · simp only [dnlt, cond_false]
    · show cond (gB1 g) _ _ = _
      have e4 : gB g = (gB1 g && gB2 g) := by unfold gB; simp [hn.1, hn.2]
      rw [e4]
      cases hc : gB1 g with
      | false => rfl
      | true =>
        rw [cond_true, Bool.true_and]
        refine loop_allb g.length _ false (fun v hv => ?_) ?_ rfl rfl
        · have hset : SetOf (row g v) g.length := by
            have := (all_forall _ _).1 hc v hv
            simp only [Bool.and_eq_true] at this
            exact (setB_iff _ _).1 this.1
          simp only [dlt hv, cond_true, idx_row hv, Option.bind_some]
          refine (loop_ck (row g v).length (fun i => decide ((v : Int) ∈ row g ((row g v).getD i 0).toNat)) (.inl ()) (.inr false) (fun i hi => ?_) ?_).trans ?_
          · have hx := hset.2 _ (List.getElem_mem hi)
            have e5 : idx g (row g v)[i] = some (row g ((row g v)[i]).toNat) := by
              have := idx_row (g := g) (v := ((row g v)[i]).toNat) (by omega)
              rwa [show ((((row g v)[i]).toNat : Nat) : Int) = (row g v)[i] by omega] at this
            have hs := h.row (v := ((row g v)[i]).toNat) (by omega)
            simp only [Option.bind_some, dlt hi, cond_true, idx_nat hi, e5, contains_eq _ _ hs, wi (show i < 4611686018427387904 by have := h.row hv; unfold Sh at this; omega), getD_lt hi]
            cases decide ((v : Int) ∈ row g ((row g v)[i]).toNat) <;> rfl
          · simp only [dnlt, cond_false]
          · rw [range_all_list (row g v) (fun x => decide ((v : Int) ∈ row g x.toNat)) _ (fun i hi => by rw [getD_lt hi]), wi' hv (by omega)]
            cases (row g v).all fun x => decide ((v : Int) ∈ row g x.toNat) <;> rfl
        · simp only [dnlt, cond_false]
    · simp only [dlt hv, cond_true, idx_row hv, Option.bind_some, increasing_eq _ _ (h.row hv) (show (0 : Int) ≤ (g.length : Int) by omega) (by omega), contains_eq _ _ (h.row hv), wi' hv (by omega)]
      cases setB (row g v) g.length
      · rfl
      · cases decide ((v : Int) ∈ row g v) <;> rfl
  · have e : (decide ((g.length : Int) < (1 : Int)) || decide ((16 : Int) < (g.length : Int))) = true := by
      simp; omega
    simp only [e, cond_true]
    unfold gB
    congr 1
    symm
    rw [Bool.eq_false_iff]
    simp
    omega
end Go.Sx

/- Orders; the program's sets as bit masks; the reference's rising lists. Plain. -/
namespace Go.Sx
/-- an order of a graph -/
structure OOk (g : List (List Int)) (o : List Int) : Prop where
  len : o.length = g.length
  rng : ∀ x ∈ o, 0 ≤ x ∧ x < g.length
  nd : o.Nodup

def oB (g : List (List Int)) (o : List Int) : Bool := (List.range o.length).all fun i => (decide (0 ≤ o.getD i 0) && decide (o.getD i 0 ≤ (g.length : Int) - 1)) && !decide (o.getD i 0 ∈ o.take i)
theorem mem_take_iff {α : Type} {l : List α} {i : Nat} {x : α} : x ∈ l.take i ↔ ∃ j, ∃ h : j < l.length, j < i ∧ l[j] = x := by
  rw [List.mem_take_iff_getElem]
  constructor
  · rintro ⟨j, h, e⟩; exact ⟨j, by omega, by omega, e⟩
  · rintro ⟨j, h, h2, e⟩; exact ⟨j, by omega, e⟩
theorem nodup_iff {l : List Int} : l.Nodup ↔ ∀ i (hi : i < l.length), l[i] ∉ l.take i := by
  constructor
  · intro h i hi hm
    obtain ⟨j, hj, hji, e⟩ := mem_take_iff.1 hm
    have := (List.pairwise_iff_getElem.1 h) j i hj hi hji
    exact this e
  · intro h
    refine List.pairwise_iff_getElem.2 (fun i j hi hj hij e => h j hj (mem_take_iff.2 ⟨i, hi, hij, e⟩))
theorem oB_iff (g : List (List Int)) (o : List Int) (hl : o.length = g.length) : oB g o = true ↔ OOk g o := by
  unfold oB
  rw [all_forall]
  constructor
  · intro h
    refine ⟨hl, fun x hx => ?_, nodup_iff.2 fun i hi => ?_⟩
    · obtain ⟨i, hi, rfl⟩ := List.getElem_of_mem hx
      have := h i hi
      rw [getD_lt hi] at this
      simp at this; omega
    · have := h i hi
      rw [getD_lt hi] at this
      simp at this; exact this.2
  · intro h i hi
    have h1 := h.rng _ (List.getElem_mem hi)
    have h2 := nodup_iff.1 h.nd i hi
    rw [getD_lt hi]
    simp [h2]; omega

def ordB (g : List (List Int)) (o : List Int) : Bool := decide (o.length = g.length) && oB g o
theorem ordB_iff (g : List (List Int)) (o : List Int) : ordB g o = true ↔ OOk g o := by
  unfold ordB
  by_cases hl : o.length = g.length
  · simp [hl, oB_iff g o hl]
  · simp [hl]; intro h; exact hl h.len

theorem sorted_inc {y : List Int} (hs : Srt y 0 y.length) (hn : y.Nodup) : Inc y := by
  unfold Inc
  rw [List.pairwise_iff_getElem]
  intro i j hi hj hij
  have h1 := hs i j (by omega) (by omega) (by omega)
  have h2 := (List.pairwise_iff_getElem.1 hn) i j hi hj hij
  simp [at', hi, hj] at h1
  have : y[i] ≠ y[j] := h2
  omega
theorem impl_OrderOk_eq (g : List (List Int)) (o : List Int) (h : Sh2 g) (ho : Sh o) : D.impl_OrderOk g o = some (gB g && ordB g o) := by
  unfold D.impl_OrderOk
  rw [impl_GraphOk_eq g h, Option.bind_some]
  cases hg : gB g
  · rfl
  · have hg' := (gB_iff g).1 hg
    by_cases hl : o.length = g.length
    · have e : ((o.length : Int) != (g.length : Int)) = false := by simp [hl]
      have h16 := hg'.n16
      obtain ⟨y, h1, h2, h3⟩ := sorted_spec o (by omega)
      have hyl := h2.length_eq
      simp only [Bool.not_true, e, Bool.or_false, cond_false, h1, Option.bind_some, Bool.true_and]
      rw [increasing_eq y _ (by unfold Sh; omega) (by omega) (by omega), Option.bind_some]
      congr 1
      unfold ordB
      simp only [hl, decide_true, Bool.true_and]
      rw [Bool.eq_iff_iff, setB_iff, oB_iff g o hl]
      constructor
      · rintro ⟨k1, k2⟩
        refine ⟨hl, fun x hx => k2 x (h2.mem_iff.2 hx), h2.nodup_iff.1 ?_⟩
        exact List.Pairwise.imp (fun h e => by omega) k1
      · intro k
        exact ⟨sorted_inc h3 (h2.nodup_iff.2 k.nd), fun x hx => k.rng x (h2.mem_iff.1 hx)⟩
    · have e : ((o.length : Int) != (g.length : Int)) = true := by simp; omega
      simp [e, ordB, hl]

/-! ### masks -/
theorem impl_one_eq (v : Nat) : D.impl_one (v : Int) = some (ishl .u32 1 (v : Int)) := by
  unfold D.impl_one
  have : decide ((v : Int) < 0) = false := by simp
  rw [this]; rfl
theorem impl_one_eq' {x : Int} (h : 0 ≤ x) : D.impl_one x = some (ishl .u32 1 x) := by
  have := impl_one_eq x.toNat
  rwa [show ((x.toNat : Nat) : Int) = x by omega] at this
def mk (xs : List Int) : Int := xs.foldl (fun s v => ior .u32 s (ishl .u32 1 v)) 0
theorem maskOf_eq (xs : List Int) (h : Sh xs) (h0 : ∀ x ∈ xs, 0 ≤ x) : D.impl_maskOf xs = some (mk xs) := by
  unfold Sh at h
  unfold D.impl_maskOf
  refine (loop_listb xs (fun s i => (s, i)) (fun s v => ior .u32 s (ishl .u32 1 v)) (fun s => s) (fun _ => True) 0 trivial (fun s i hi _ => ⟨?_, trivial⟩) (fun s _ => ?_)).trans rfl
  · simp only [dlt hi, cond_true, idx_nat hi, Option.bind_some, wi' hi (by omega), impl_one_eq' (h0 _ (List.getElem_mem hi))]
  · simp only [dnlt, cond_false]
theorem VS_foldl_ior : ∀ (xs : List Int) (s : Int), VS s → VS (xs.foldl (fun s v => ior .u32 s (ishl .u32 1 v)) s)
  | [], s, h => h
  | x :: xs, s, _ => VS_foldl_ior xs _ (VS.ior _ _)
theorem VS.mk (xs : List Int) : VS (mk xs) := VS_foldl_ior xs 0 VS.zero
theorem has_foldl_ior (u : Nat) : ∀ (xs : List Int) (s : Int), VS s → (∀ x ∈ xs, 0 ≤ x ∧ x < 32) → has (xs.foldl (fun s v => ior .u32 s (ishl .u32 1 v)) s) u = (has s u || decide ((u : Int) ∈ xs))
  | [], s, _, _ => by simp
  | x :: xs, s, hs, h => by
    have hx := h x (by simp)
    rw [List.foldl_cons, has_foldl_ior u xs _ (VS.ior _ _) (fun y hy => h y (by simp [hy])), has_ior hs (VS.ishl _ _)]
    obtain ⟨k, rfl⟩ : ∃ k : Nat, x = k := ⟨x.toNat, by omega⟩
    rw [has_one (by omega)]
    by_cases hu : u = k
    · subst hu; simp
    · have : ¬ (u : Int) = (k : Int) := by omega
      simp [hu, this]
theorem has_mk {xs : List Int} (h : ∀ x ∈ xs, 0 ≤ x ∧ x < 32) (u : Nat) : has (mk xs) u = decide ((u : Int) ∈ xs) := by
  unfold mk; rw [has_foldl_ior u xs 0 VS.zero h, has_zero, Bool.false_or]

theorem GOk.mem0 {g : List (List Int)} (hg : GOk g) {r : List Int} (hr : r ∈ g) : r.length ≤ 16 ∧ ∀ x ∈ r, 0 ≤ x ∧ x < g.length := by
  obtain ⟨v, hv, rfl⟩ := List.getElem_of_mem hr
  rw [← row_eq hv]
  exact ⟨hg.row_len hv, (hg.rows v hv).2⟩
theorem netsOf_eq (g : List (List Int)) (hg : GOk g) : D.impl_netsOf g = some (g.map mk) := by
  have h16 := hg.n16
  unfold D.impl_netsOf
  refine (loop_map g (fun s i => (s, i)) mk (by omega) (fun s i hi _ => ?_) (fun s => ?_)).trans rfl
  · obtain ⟨h1, h2⟩ := hg.mem0 (List.getElem_mem hi)
    simp only [dlt hi, cond_true, idx_nat hi, Option.bind_some, wi' hi (by omega), maskOf_eq g[i] (by unfold Sh; omega) (fun x hx => (h2 x hx).1)]
  · simp only [dnlt, cond_false]
theorem narrow_eq (xs : List Int) (h : Sh xs) : D.impl_narrow xs = some xs := by
  unfold Sh at h
  unfold D.impl_narrow
  rw [makeD_zero (by omega) (by omega), Option.bind_some]
  refine (loop_map xs (fun s i => (s, i)) (fun x => x) h (fun s i hi _ => ?_) (fun s => ?_)).trans (by simp)
  · simp only [dlt hi, cond_true, idx_nat hi, Option.bind_some, wi' hi (by omega)]
  · simp only [dnlt, cond_false]
theorem wide_eq (xs : List Int) (h : Sh xs) : D.impl_wide xs = some xs := by
  unfold Sh at h
  unfold D.impl_wide
  rw [makeD_zero (by omega) (by omega), Option.bind_some]
  refine (loop_map xs (fun s i => (s, i)) (fun x => x) h (fun s i hi _ => ?_) (fun s => ?_)).trans (by simp)
  · simp only [dlt hi, cond_true, idx_nat hi, Option.bind_some, wi' hi (by omega)]
  · simp only [dnlt, cond_false]

theorem least_eq {s : Int} (h : VS s) (h0 : s ≠ 0) : ∃ k : Nat, k < 32 ∧ D.impl_vset_least s = some (k : Int) ∧ has s k = true ∧ (∀ v, v < k → has s v = false) ∧
    (∀ v, has (iand .u32 s (IntKind.u32.wrap (s - 1))) v = (has s v && !decide (v = k))) := by
  obtain ⟨k, h1, h2, h3, h4, h5⟩ := least_spec h h0
  refine ⟨k, h1, ?_, h2, h3, h5⟩
  unfold D.impl_vset_least D.math_bits_TrailingZeros32
  have e : (s == 0) = false := by simpa using h0
  simp only [e, cond_false, h4, tz_table k h1, Option.bind_some]
  rw [w64 (by omega) (by omega)]

theorem list_eq (s : Int) (h : VS s) : D.impl_vset_list s = some (elems s) := by
  unfold D.impl_vset_list
  have key : ∀ (n : Nat) (x : Int) (l : List Int), VS x → (elems x).length = n → l.length + n ≤ 32 →
      loopF (σ := Int × (List Int)) (ρ := ((List Int))) (fun (s_52 : Int × (List Int)) => match s_52 with | (x_55, l_56) => cond (x_55 != 0) ((D.impl_vset_least x_55).bind fun y_88 => (appendD l_56 ([y_88] : List Int)).bind fun l_99 => some (.inl ((iand .u32 x_55 (IntKind.u32.wrap (x_55 - 1))), l_99))) (some (.inr l_56))) (x, l) = some (l ++ elems x) := by
    intro n
    induction n with
    | zero =>
      intro x l hx hn _
      have e : elems x = [] := List.eq_nil_of_length_eq_zero hn
      have e0 : x = 0 := hx.eq_zero.2 fun v hv => by
        cases hc : has x v
        · rfl
        · have := mem_elems.2 ⟨v, hv, hc, rfl⟩; rw [e] at this; simp at this
      rw [e]
      refine loopF_done ?_
      have : (x != 0) = false := by simp [e0]
      simp only [this, cond_false, List.append_nil]
    | succ n ih =>
      intro x l hx hn hl
      have h0 : x ≠ 0 := by rintro rfl; rw [elems_zero] at hn; simp at hn
      obtain ⟨k, h1, h2, h3, h4, h5⟩ := least_eq hx h0
      have e := elems_least h1 h3 h4 h5
      have en : (elems (iand .u32 x (IntKind.u32.wrap (x - 1)))).length = n := by rw [e] at hn; simpa using hn
      have hstep := ih (iand .u32 x (IntKind.u32.wrap (x - 1))) (l ++ [(k : Int)]) (VS.iand _ _) en (by simp; omega)
      have e1 : (x != 0) = true := by simpa using h0
      rw [loopF_more (s' := (iand .u32 x (IntKind.u32.wrap (x - 1)), l ++ [(k : Int)]))]
      · rw [hstep, e]; simp
      · simp only [e1, cond_true, h2, Option.bind_some, appendD_ok (xs := l) (ys := [(k : Int)]) (by simp; omega)]
  have := key (elems s).length s [] h rfl (by simpa using elems_len s)
  rw [this]; simp
theorem elems_sh (s : Int) : Sh (elems s) := by have := elems_len s; unfold Sh; omega
theorem numbers_eq (s : Int) (h : VS s) : D.impl_vset_numbers s = some (elems s) := by
  unfold D.impl_vset_numbers
  rw [list_eq s h, Option.bind_some, wide_eq _ (elems_sh s)]; rfl
theorem results_eq (xs : List Int) (h : Sh xs) (hv : ∀ s ∈ xs, VS s) : D.impl_results xs = some (xs.map elems) := by
  unfold Sh at h
  unfold D.impl_results
  refine (loop_map xs (fun s i => (s, i)) elems h (fun s i hi _ => ?_) (fun s => ?_)).trans rfl
  · simp only [dlt hi, cond_true, idx_nat hi, Option.bind_some, wi' hi (by omega), numbers_eq _ (hv _ (List.getElem_mem hi))]
  · simp only [dnlt, cond_false]

/-! ### rising lists -/
theorem l1Copy_eq (xs : List Int) (h : Sh xs) : D.spec_l1Copy xs = some xs := by
  unfold Sh at h
  unfold D.spec_l1Copy
  rw [appendD_ok (by simpa using h)]; rfl
/-- with one more -/
def into (xs : List Int) (n : Int) : List Int := if n ∈ xs then xs else xs.takeWhile (fun x => decide (x < n)) ++ n :: xs.dropWhile (fun x => decide (x < n))
theorem mem_into {xs : List Int} {n x : Int} : x ∈ into xs n ↔ x = n ∨ x ∈ xs := by
  unfold into
  split
  · constructor
    · intro h; exact .inr h
    · rintro (rfl | h)
      · assumption
      · exact h
  · have e : x ∈ xs ↔ x ∈ xs.takeWhile (fun x => decide (x < n)) ++ xs.dropWhile (fun x => decide (x < n)) := by rw [List.takeWhile_append_dropWhile]
    rw [e]; simp only [List.mem_append, List.mem_cons]
    constructor
    · rintro (h | h | h) <;> simp [h]
    · rintro (h | h | h) <;> simp [h]
theorem inc_dropWhile {xs : List Int} {n : Int} (h : Inc xs) : ∀ y ∈ xs.dropWhile (fun x => decide (x < n)), n ≤ y := by
  induction xs with
  | nil => simp
  | cons x xs ih =>
    have h' := List.pairwise_cons.1 h
    intro y hy
    rw [List.dropWhile_cons] at hy
    split at hy
    · exact ih h'.2 y hy
    · rename_i hc
      simp at hc
      rcases List.mem_cons.1 hy with rfl | hy
      · exact hc
      · have := h'.1 y hy; omega
theorem inc_takeWhile {xs : List Int} {n : Int} : ∀ y ∈ xs.takeWhile (fun x => decide (x < n)), y < n := by
  intro y hy
  induction xs with
  | nil => simp at hy
  | cons x xs ih =>
    rw [List.takeWhile_cons] at hy
    split at hy
    · rename_i hc
      rcases List.mem_cons.1 hy with rfl | hy
      · simpa using hc
      · exact ih hy
    · simp at hy
theorem Inc.into {xs : List Int} (h : Inc xs) (n : Int) : Inc (into xs n) := by
  unfold Sx.into
  split
  · exact h
  · rename_i hn
    unfold Inc
    rw [List.pairwise_append]
    refine ⟨List.Pairwise.sublist (List.takeWhile_sublist _) h, List.pairwise_cons.2 ⟨fun y hy => ?_, List.Pairwise.sublist (List.dropWhile_sublist _) h⟩, fun a ha b hb => ?_⟩
    · have h1 := inc_dropWhile h y hy
      have h2 : y ≠ n := fun e => hn (e ▸ (List.dropWhile_sublist _).mem hy)
      omega
    · have h1 := inc_takeWhile a ha
      rcases List.mem_cons.1 hb with rfl | hb
      · exact h1
      · have := inc_dropWhile h b hb; omega
end Go.Sx

/- Open vertices, bags of an order: the reference's and the program's. Plain. -/
namespace Go.Sx
theorem into_len (xs : List Int) (n : Int) : (into xs n).length ≤ xs.length + 1 := by
  unfold into
  split
  · omega
  · have : (xs.takeWhile (fun x => decide (x < n)) ++ xs.dropWhile (fun x => decide (x < n))).length = xs.length := by rw [List.takeWhile_append_dropWhile]
    simp only [List.length_append, List.length_cons] at this ⊢; omega

theorem takeWhile_eq_take {α : Type} (p : α → Bool) : ∀ (xs : List α), xs.takeWhile p = xs.take (xs.takeWhile p).length ∧ xs.dropWhile p = xs.drop (xs.takeWhile p).length
  | [] => by simp
  | x :: xs => by
    rw [List.takeWhile_cons, List.dropWhile_cons]
    cases p x
    · simp
    · have := takeWhile_eq_take p xs
      simp only [if_true, List.length_cons, List.take_succ_cons, List.drop_succ_cons, ← this.1, ← this.2, and_self]
theorem takeWhile_get {α : Type} (p : α → Bool) : ∀ (xs : List α) (i : Nat) (h : i < (xs.takeWhile p).length) (h' : i < xs.length), p xs[i] = true
  | x :: xs, i, h, h' => by
    rw [List.takeWhile_cons] at h
    cases hp : p x
    · rw [hp] at h; simp at h
    · rw [hp] at h
      cases i with
      | zero => simpa using hp
      | succ i => simp only [if_true, List.length_cons] at h; simpa using takeWhile_get p xs i (by omega) (by simpa using h')
theorem takeWhile_stop {α : Type} (p : α → Bool) : ∀ (xs : List α) (h : (xs.takeWhile p).length < xs.length), p (xs[(xs.takeWhile p).length]) = false
  | x :: xs, h => by
    cases hp : p x
    · simp [List.takeWhile_cons, hp]
    · have h2 : (xs.takeWhile p).length < xs.length := by simpa [List.takeWhile_cons, hp] using h
      simpa [List.takeWhile_cons, hp] using takeWhile_stop p xs h2
theorem takeWhile_len_le {α : Type} (p : α → Bool) (xs : List α) : (xs.takeWhile p).length ≤ xs.length := (List.takeWhile_sublist _).length_le

theorem l1Into_eq (xs : List Int) (n : Int) (h : Inc xs) (hl : xs.length ≤ 4294967295) : D.spec_l1Into xs n = some (into xs n) := by
  unfold D.spec_l1Into
  generalize hk : (xs.takeWhile (fun x => decide (x < n))).length = k
  have hkl : k ≤ xs.length := by rw [← hk]; exact takeWhile_len_le _ _
  have htk : xs.takeWhile (fun x => decide (x < n)) = xs.take k := by rw [← hk]; exact (takeWhile_eq_take _ xs).1
  have hdk : xs.dropWhile (fun x => decide (x < n)) = xs.drop k := by rw [← hk]; exact (takeWhile_eq_take _ xs).2
  refine (loop_to (fun i => ((i : Nat) : Int)) k (k : Int) rfl (fun i hi => ?_) ?_).trans ?_
  · have hi' : i < xs.length := by omega
    have hp : decide (xs[i] < n) = true := takeWhile_get (fun x => decide (x < n)) xs i (by omega) hi'
    simp only [dlt hi', cond_true, idx_nat hi', Option.bind_some, hp, wi (show i < 4611686018427387904 by omega)]
  · by_cases hlt : k < xs.length
    · have hp : decide (xs[k] < n) = false := by
        have := takeWhile_stop (fun x => decide (x < n)) xs (by omega)
        simp only [hk] at this; exact this
      simp only [dlt hlt, cond_true, idx_nat hlt, Option.bind_some, hp, cond_false]
    · obtain rfl : k = xs.length := by omega
      simp only [dnlt, cond_false, Option.bind_some]
  · have hS1 : Sh (xs.take k) := by unfold Sh; rw [List.length_take]; omega
    have hrest : ((sliceD xs 0 (k : Int)).bind fun l_135 => (D.spec_l1Copy l_135).bind fun y_139 => (appendD y_139 ([n] : List Int)).bind fun l_154 => (sliceD xs (k : Int) (xs.length : Int)).bind fun l_160 => (appendD l_154 l_160).bind fun l_164 => some l_164) = some (xs.take k ++ n :: xs.drop k) := by
      simp only [sliceD_pre hkl, sliceD_post hkl, Option.bind_some, l1Copy_eq _ hS1]
      rw [appendD_ok (by simp; omega), Option.bind_some, appendD_ok (by simp; omega), Option.bind_some]
      simp
    by_cases hlt : k < xs.length
    · simp only [dlt hlt, cond_true, idx_nat hlt, Option.bind_some]
      by_cases he : xs[k] = n
      · have hm : n ∈ xs := by rw [← he]; exact List.getElem_mem _
        have : (xs[k] == n) = true := by simp [he]
        simp only [this, cond_true]
        unfold into; rw [if_pos hm]
      · have : (xs[k] == n) = false := by simpa using he
        simp only [this, cond_false, hrest]
        unfold into
        rw [htk, hdk, if_neg]
        intro hm
        obtain ⟨j, hj, e⟩ := List.getElem_of_mem hm
        have hst : decide (xs[k] < n) = false := by
          have := takeWhile_stop (fun x => decide (x < n)) xs (by omega)
          simp only [hk] at this; exact this
        simp at hst
        rcases Nat.lt_trichotomy j k with h1 | h1 | h1
        · have := takeWhile_get (fun x => decide (x < n)) xs j (by omega) hj
          simp at this; omega
        · subst h1; exact he e
        · have := (List.pairwise_iff_getElem.1 h) k j hlt hj h1
          omega
    · obtain rfl : k = xs.length := by omega
      simp only [dnlt, cond_false, Option.bind_some, hrest]
      unfold into
      rw [htk, hdk, if_neg]
      intro hm
      obtain ⟨j, hj, e⟩ := List.getElem_of_mem hm
      have := takeWhile_get (fun x => decide (x < n)) xs j (by omega) hj
      simp at this; omega

theorem Inc.short {s : List Int} {n : Nat} (h : Inc s) (hr : ∀ x ∈ s, 0 ≤ x ∧ x < n) : s.length ≤ n := by
  rcases SetOf.len h hr with e | e
  · subst e; simp
  · omega

end Go.Sx



/- What the laws draw with their dice: graphs that are right, orders that are right. Plain. -/
namespace Go.Sx
/-- dice in order: bytes, and a place among them -/
structure DK (b : List Int) (i : Int) : Prop where
  byte : ∀ x ∈ b, 0 ≤ x ∧ x ≤ 255
  len : b.length ≤ 4096
  i0 : 0 ≤ i
  i1 : i ≤ b.length

end Go.Sx

/- Drawn graphs and drawn orders are right. Plain. -/
namespace Go.Sx
end Go.Sx



/- Drawn orders, the other way: each number is put at a drawn place, what stands there moves on. Plain. -/
namespace Go.Sx
theorem ext_getD {a b : List Int} (hl : a.length = b.length) (h : ∀ j, j < a.length → a.getD j 0 = b.getD j 0) : a = b := by
  apply List.ext_getElem hl
  intro j h1 h2
  have := h j h1
  rwa [getD_lt h1, getD_lt h2] at this
theorem getD_set (l : List Int) (i j : Nat) (x : Int) (hi : i < l.length) : (l.set i x).getD j 0 = if j = i then x else l.getD j 0 := by
  simp only [List.getD_eq_getElem?_getD, List.getElem?_set]
  by_cases h : j = i
  · subst h; simp [hi]
  · rw [if_neg (fun e => h e.symm), if_neg h]
end Go.Sx
