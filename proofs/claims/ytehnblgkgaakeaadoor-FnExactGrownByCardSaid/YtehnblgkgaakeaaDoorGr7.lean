/- Parts of the proof: Wb, Qg, Wc, Wd, Ue, We, Wf, SxPRow. -/
import Derived.Test.YtehnblgkgaakeaaDoorGr6
import Derived.Deep.Strs
set_option linter.unusedVariables false
set_option linter.unusedSimpArgs false
set_option linter.unusedSectionVars false
/- Lists of prunes: accepted alike; what grows by them. Plain. -/
namespace Go.Sx
/-- all of a list is right, one after the other -/
def allP {α : Type} (ok : α → Int → Prop) (nx : α → Int → Int) : List α → Int → Prop
  | [], _ => True
  | p :: l, s => ok p s ∧ allP ok nx l (nx p s)
theorem loop_pr {α S : Type} {step : S → Option (S ⊕ (Unit ⊕ Bool))} (xs : List α) (enc : Int → Int → S) (ok : α → Int → Prop) (nx : α → Int → Int) (I : Int → Prop)
    (hstep : ∀ (i : Nat) (h : i < xs.length) s, I s → (ok xs[i] s ∧ step (enc s i) = some (.inl (enc (nx xs[i] s) ((i + 1 : Nat) : Int))) ∧ I (nx xs[i] s)) ∨ (¬ ok xs[i] s ∧ step (enc s i) = some (.inr (.inr false))))
    (hend : ∀ s, I s → step (enc s xs.length) = some (.inr (.inl ()))) :
    ∀ (k i : Nat) (s : Int), i + k = xs.length → I s → (allP ok nx (xs.drop i) s ∧ loopF step (enc s i) = some (.inl ())) ∨ (¬ allP ok nx (xs.drop i) s ∧ loopF step (enc s i) = some (.inr false))
  | 0, i, s, hi, hs => by
    obtain rfl : i = xs.length := by omega
    rw [List.drop_length]
    exact .inl ⟨trivial, loopF_done (hend s hs)⟩
  | k + 1, i, s, hi, hs => by
    have hil : i < xs.length := by omega
    rw [List.drop_eq_getElem_cons hil]
    rcases hstep i hil s hs with ⟨h1, h2, h3⟩ | ⟨h1, h2⟩
    · rcases loop_pr xs enc ok nx I hstep hend k (i + 1) _ (by omega) h3 with ⟨h4, h5⟩ | ⟨h4, h5⟩
      · exact .inl ⟨⟨h1, h4⟩, by rw [loopF_more h2]; exact h5⟩
      · exact .inr ⟨fun h => h4 h.2, by rw [loopF_more h2]; exact h5⟩
    · exact .inr ⟨fun h => h1 h.1, loopF_done h2⟩

abbrev Pr := Int × Int × Int
def okP (g : List (List Int)) (p : Pr) (s : Int) : Prop := ∃ v : Nat, p.1 = v ∧ has s v = true ∧ canB g s v p.2.1 p.2.2
def nxP (p : Pr) (s : Int) : Int := iandNot .u32 s (ishl .u32 1 p.1)

theorem elems_full {n : Nat} (hn : n ≤ 16) : elems (full n) = (List.range n).map Int.ofNat := by
  refine Inc.ext (elems_inc _) ?_ (fun z => ?_)
  · unfold Inc
    rw [List.pairwise_map]
    exact List.Pairwise.imp (fun {a b} h => by show (a : Int) < (b : Int); omega) List.pairwise_lt_range
  · rw [mem_elems, List.mem_map]
    constructor
    · rintro ⟨v, _, h, rfl⟩
      rw [has_full hn] at h
      exact ⟨v, List.mem_range.2 (of_decide_eq_true h), rfl⟩
    · rintro ⟨v, hv, rfl⟩
      have := List.mem_range.1 hv
      exact ⟨v, by omega, by rw [has_full hn]; exact decide_eq_true this, rfl⟩
theorem l16All_eq {g : List (List Int)} (hn : g.length ≤ 16) : D.spec_l16All g = some (elems (full g.length)) := by
  unfold D.spec_l16All
  rw [elems_full hn]
  refine (loop_to (fun i => ((List.range i).map Int.ofNat, (i : Int))) g.length ((List.range g.length).map Int.ofNat) rfl (fun i hi => ?_) ?_).trans rfl
  · simp only [dlt hi, cond_true, wi (show i < 4611686018427387904 by omega)]
    rw [appendD_ok (by simp; omega), Option.bind_some, List.range_succ, List.map_append]; rfl
  · simp only [dnlt, cond_false]
theorem l19Less_eq {s : Int} (hs : VS s) {v : Nat} (hv : v < 32) : D.spec_l19Less (elems s) (v : Int) = some (elems (iandNot .u32 s (ishl .u32 1 (v : Int)))) := by
  have hel := elems_len s
  have e0 : elems (iandNot .u32 s (ishl .u32 1 (v : Int))) = (elems s).filter fun x => x != (v : Int) := by
    refine Inc.ext (elems_inc _) (List.Pairwise.filter _ (elems_inc s)) (fun z => ?_)
    rw [List.mem_filter, mem_elems, mem_elems]
    constructor
    · rintro ⟨w, h1, h2, rfl⟩
      rw [has_iandNot hs (VS.ishl _ _), has_one hv, Bool.and_eq_true] at h2
      refine ⟨⟨w, h1, h2.1, rfl⟩, ?_⟩
      have := h2.2
      simp at this ⊢
      omega
    · rintro ⟨⟨w, h1, h2, rfl⟩, h3⟩
      refine ⟨w, h1, ?_, rfl⟩
      rw [has_iandNot hs (VS.ishl _ _), has_one hv, h2]
      simp at h3 ⊢
      omega
  rw [e0]
  unfold D.spec_l19Less
  refine (loop_to (fun i => (((elems s).take i).filter (fun x => x != (v : Int)), (i : Int))) (elems s).length ((elems s).filter fun x => x != (v : Int)) (by simp) (fun i hi => ?_) ?_).trans rfl
  · have hlen : (((elems s).take i).filter (fun x => x != (v : Int))).length ≤ 32 := Nat.le_trans (List.length_filter_le _ _) (by simp; omega)
    simp only [dlt hi, cond_true, idx_nat hi, Option.bind_some, wi (show i < 4611686018427387904 by omega)]
    rw [take_filter_succ (fun x => x != (v : Int)) hi]
    cases (elems s)[i] != (v : Int)
    · simp
    · rw [cond_true, appendD_ok (by rw [List.length_singleton]; omega), Option.bind_some]; simp
  · simp only [dnlt, cond_false, List.take_length]
theorem nx_in {n : Nat} (hn : n ≤ 16) {s : Int} (hs : In n s) {v : Nat} (hv : v < n) : In n (iandNot .u32 s (ishl .u32 1 (v : Int))) := ⟨VS.iandNot _ _, fun w hw => by
  rw [has_iandNot hs.1 (VS.ishl _ _), Bool.and_eq_true] at hw
  exact hs.2 w hw.1⟩
theorem full_in {n : Nat} (hn : n ≤ 16) : In n (full n) := ⟨full_vs n, fun w hw => by rw [has_full hn] at hw; exact of_decide_eq_true hw⟩

theorem spec_PrunesOk_ok {g : List (List Int)} (h : Sh2 g) {l : List Pr} (hl : l.length ≤ 4294967296) : ∃ r, D.spec_PrunesOk g l = some r ∧ (r = true ↔ GOk g ∧ l.length ≤ 16 ∧ allP (okP g) nxP l (full g.length)) := by
  unfold D.spec_PrunesOk
  rw [spec_GraphOk_eq g h, Option.bind_some]
  by_cases hg : GOk g
  · have h16 := hg.n16
    rw [gB_true hg]
    by_cases hl16 : l.length ≤ 16
    · have e : (!true || decide ((16 : Int) < (l.length : Int))) = false := by rw [decide_eq_false (by omega)]; rfl
      rw [e, cond_false, l16All_eq h16, Option.bind_some]
      refine Or.elim (loop_pr (step := (fun (s_156 : (List Int) × Int) => match s_156 with | (l_159, x_164) => cond (decide (x_164 < (l.length : Int))) ((idx l x_164).bind fun e_229 => (D.spec_l1Has l_159 e_229.1).bind fun y_235 => (cond (!y_235) (some true) ((idx l x_164).bind fun e_255 => (D.spec_l18Goes g l_159 e_255.1 e_255.2.1 e_255.2.2).bind fun y_259 => some (!y_259))).bind fun b_253 => cond b_253 (some (.inr (.inr false))) ((idx l x_164).bind fun e_268 => (D.spec_l19Less l_159 e_268.1).bind fun y_274 => some (.inl (y_274, (IntKind.i64.wrap (x_164 + 1)))))) (some (.inr (.inl ())))))
        l (fun s i => (elems s, i)) (okP g) nxP (In g.length) (fun i hi s hs => ?_) (fun s _ => ?_) l.length 0 (full g.length) (by omega) (full_in h16)) ?_ ?_
      · have hsh : Sh (elems s) := by have := elems_len s; unfold Sh; omega
        simp only [dlt hi, cond_true, idx_nat hi, Option.bind_some, l1Has_eq _ _ hsh, wi (show i < 4611686018427387904 by omega)]
        by_cases hm : l[i].1 ∈ elems s
        · obtain ⟨v, _, hv, e1⟩ := mem_elems.1 hm
          have hvn := hs.2 v hv
          obtain ⟨r, e2, hr⟩ := l18Goes_eq hg hs hvn l[i].2.1 l[i].2.2
          rw [decide_eq_true hm, Bool.not_true, cond_false]
          rw [e1]
          rw [e2, Option.bind_some, Option.bind_some]
          cases r
          · refine .inr ⟨fun ⟨v', e3, _, h4⟩ => ?_, rfl⟩
            have e4 : (v : Int) = v' := e1.symm.trans e3
            obtain rfl : v = v' := by omega
            have := hr.2 h4
            cases this
          · refine .inl ⟨⟨v, e1, hv, hr.1 rfl⟩, ?_, ?_⟩
            · rw [Bool.not_true, cond_false, l19Less_eq hs.1 (by omega), Option.bind_some]
              unfold nxP
              rw [e1]
            · unfold nxP
              rw [e1]; exact nx_in h16 hs hvn
        · rw [decide_eq_false hm, Bool.not_false, cond_true, Option.bind_some, cond_true]
          refine .inr ⟨fun ⟨v, e3, h3, _⟩ => hm ?_, rfl⟩
          rw [e3]; exact (mem_elems_nat hs.1).2 h3
      · simp only [dnlt, cond_false]
      · rintro ⟨h1, h2⟩
        rw [List.drop_zero] at h1
        rw [show ((0 : Nat) : Int) = 0 from rfl] at h2
        rw [h2]
        exact ⟨true, rfl, ⟨fun _ => ⟨hg, hl16, h1⟩, fun _ => rfl⟩⟩
      · rintro ⟨h1, h2⟩
        rw [List.drop_zero] at h1
        rw [show ((0 : Nat) : Int) = 0 from rfl] at h2
        rw [h2]
        exact ⟨false, rfl, ⟨(fun h => by cases h), fun h => absurd h.2.2 h1⟩⟩
    · have e : (!true || decide ((16 : Int) < (l.length : Int))) = true := by rw [decide_eq_true (by omega)]; rfl
      rw [e, cond_true]
      exact ⟨false, rfl, ⟨(fun h => by cases h), fun h => absurd h.2.1 hl16⟩⟩
  · have e : gB g = false := by rw [Bool.eq_false_iff]; intro hc; exact hg ((gB_iff g).1 hc)
    rw [e]
    exact ⟨false, rfl, ⟨(fun h => by cases h), fun h => absurd h.1 hg⟩⟩

theorem impl_PrunesOk_ok {g : List (List Int)} (h : Sh2 g) {l : List Pr} (hl : l.length ≤ 4294967296) : ∃ r, D.impl_PrunesOk g l = some r ∧ (r = true ↔ GOk g ∧ l.length ≤ 16 ∧ allP (okP g) nxP l (full g.length)) := by
  unfold D.impl_PrunesOk
  rw [impl_GraphOk_eq g h, Option.bind_some]
  by_cases hg : GOk g
  · have h16 := hg.n16
    rw [gB_true hg]
    by_cases hl16 : l.length ≤ 16
    · have e : (!true || decide ((16 : Int) < (l.length : Int))) = false := by rw [decide_eq_false (by omega)]; rfl
      rw [e, cond_false, netsOf_eq g hg, Option.bind_some, nets_all_full, Option.bind_some, List.length_map]
      refine Or.elim (loop_pr (step := (fun (s_208 : Int × Int) => match s_208 with | (x_211, x_212) => cond (decide (x_212 < (l.length : Int))) ((idx l x_212).bind fun e_300 => (D.impl_inRange e_300.1 0 (IntKind.i64.wrap ((g.length : Int) - 1))).bind fun y_306 => (cond (!y_306) (some true) ((D.impl_vset_has x_211 e_300.1).bind fun y_332 => some (!y_332))).bind fun b_330 => (cond b_330 (some true) ((D.impl_canPrune (g.map mk) x_211 e_300.1 e_300.2.1 e_300.2.2).bind fun y_364 => some (!y_364))).bind fun b_362 => cond b_362 (some (.inr (.inr false))) ((D.impl_one e_300.1).bind fun y_375 => some (.inl ((iandNot .u32 x_211 y_375), (IntKind.i64.wrap (x_212 + 1)))))) (some (.inr (.inl ())))))
        l (fun s i => (s, i)) (okP g) nxP (In g.length) (fun i hi s hs => ?_) (fun s _ => ?_) l.length 0 (full g.length) (by omega) (full_in h16)) ?_ ?_
      · simp only [dlt hi, cond_true, idx_nat hi, Option.bind_some, inRange_eq, wi (show i < 4611686018427387904 by omega)]
        rw [w64 (by omega) (by omega)]
        by_cases hr : 0 ≤ l[i].1 ∧ l[i].1 ≤ (g.length : Int) - 1
        · obtain ⟨v, e1⟩ : ∃ v : Nat, l[i].1 = v := ⟨l[i].1.toNat, by omega⟩
          have hvn : v < g.length := by omega
          rw [decide_eq_true hr.1, decide_eq_true hr.2, Bool.and_self, Bool.not_true, cond_false, e1, vset_has_eq hs.1 (by omega), Option.bind_some, Option.bind_some]
          cases hv : has s v
          · rw [Bool.not_false, cond_true, Option.bind_some, cond_true]
            refine .inr ⟨fun ⟨v', e3, h3, _⟩ => ?_, rfl⟩
            have e4 : (v : Int) = v' := e1.symm.trans e3
            obtain rfl : v = v' := by omega
            rw [hv] at h3; cases h3
          · obtain ⟨r, e2, hr'⟩ := canPrune_eq hg hs hvn l[i].2.1 l[i].2.2
            rw [Bool.not_true, cond_false, e2, Option.bind_some, Option.bind_some]
            cases r
            · refine .inr ⟨fun ⟨v', e3, _, h4⟩ => ?_, rfl⟩
              have e4 : (v : Int) = v' := e1.symm.trans e3
              obtain rfl : v = v' := by omega
              have := hr'.2 h4
              cases this
            · refine .inl ⟨⟨v, e1, hv, hr'.1 rfl⟩, ?_, ?_⟩
              · rw [Bool.not_true, cond_false, impl_one_eq, Option.bind_some]
                unfold nxP
                rw [e1]
              · unfold nxP
                rw [e1]; exact nx_in h16 hs hvn
        · have e5 : (decide ((0 : Int) ≤ l[i].1) && decide (l[i].1 ≤ (g.length : Int) - 1)) = false := by
            rw [Bool.eq_false_iff]
            intro hc
            rw [Bool.and_eq_true, decide_eq_true_eq, decide_eq_true_eq] at hc
            exact hr hc
          rw [e5, Bool.not_false, cond_true, Option.bind_some, cond_true, Option.bind_some, cond_true]
          refine .inr ⟨fun ⟨v, e3, h3, _⟩ => hr ?_, rfl⟩
          have := hs.2 v h3
          omega
      · simp only [dnlt, cond_false]
      · rintro ⟨h1, h2⟩
        rw [List.drop_zero] at h1
        rw [show ((0 : Nat) : Int) = 0 from rfl] at h2
        rw [h2]
        exact ⟨true, rfl, ⟨fun _ => ⟨hg, hl16, h1⟩, fun _ => rfl⟩⟩
      · rintro ⟨h1, h2⟩
        rw [List.drop_zero] at h1
        rw [show ((0 : Nat) : Int) = 0 from rfl] at h2
        rw [h2]
        exact ⟨false, rfl, ⟨(fun h => by cases h), fun h => absurd h.2.2 h1⟩⟩
    · have e : (!true || decide ((16 : Int) < (l.length : Int))) = true := by rw [decide_eq_true (by omega)]; rfl
      rw [e, cond_true]
      exact ⟨false, rfl, ⟨(fun h => by cases h), fun h => absurd h.2.1 hl16⟩⟩
  · have e : gB g = false := by rw [Bool.eq_false_iff]; intro hc; exact hg ((gB_iff g).1 hc)
    rw [e]
    exact ⟨false, rfl, ⟨(fun h => by cases h), fun h => absurd h.1 hg⟩⟩

theorem PrunesOk_both {g : List (List Int)} (h : Sh2 g) {l : List Pr} (hl : l.length ≤ 4294967296) : ∃ r, D.spec_PrunesOk g l = some r ∧ D.impl_PrunesOk g l = some r ∧ (r = true ↔ GOk g ∧ l.length ≤ 16 ∧ allP (okP g) nxP l (full g.length)) := by
  obtain ⟨r, e1, h1⟩ := spec_PrunesOk_ok h hl
  obtain ⟨r', e2, h2⟩ := impl_PrunesOk_ok h hl
  have : r = r' := by rw [Bool.eq_iff_iff, h1, h2]
  subst this
  exact ⟨r, e1, e2, h1⟩
end Go.Sx

/- The exact laws' own helpers in closed form: copies, equality, sizes, marks. Plain. -/
namespace Go.Sx
theorem loop_set {α S ρ β : Type} {step : S → Option (S ⊕ ρ)} {k : ρ → Option β} {s0 : S} (xs ys : List α) (hl : xs.length = ys.length) (enc : List α → Int → S) (r : ρ) (h0 : enc ys 0 = s0)
    (hstep : ∀ l (i : Nat) (h : i < xs.length), l.length = xs.length → step (enc l i) = some (.inl (enc (l.set i xs[i]) ((i + 1 : Nat) : Int))))
    (hend : step (enc xs xs.length) = some (.inr r)) : (loopF step s0).bind k = k r := by
  refine loop_to (fun i => enc (xs.take i ++ ys.drop i) (i : Int)) xs.length r (by simpa using h0) (fun i hi => ?_) ?_
  · have e : (xs.take i ++ ys.drop i).set i xs[i] = xs.take (i + 1) ++ ys.drop (i + 1) := by
      rw [List.take_succ_eq_append_getElem hi, List.drop_eq_getElem_cons (show i < ys.length by omega), List.set_append_right _ _ (by simp; omega)]
      have e0 : i - (xs.take i).length = 0 := by rw [List.length_take]; omega
      rw [e0, List.set_cons_zero, List.append_assoc]; rfl
    rw [hstep _ i hi (by simp; omega), e]
  · rw [← hend, List.take_length, hl, List.drop_length, List.append_nil]

theorem list_eq_all {α : Type} [DecidableEq α] (xs ys : List α) (d : α) (hl : xs.length = ys.length) : (List.range xs.length).all (fun i => decide (xs.getD i d = ys.getD i d)) = decide (xs = ys) := by
  rw [Bool.eq_iff_iff, all_forall, decide_eq_true_eq]
  constructor
  · intro h
    apply List.ext_getElem hl
    intro i h1 h2
    have := h i h1
    rw [getD_lt h1, getD_lt h2] at this
    exact of_decide_eq_true this
  · rintro rfl i _; simp
theorem eqS_eq (xs ys : List Int) (h : Sh xs) : D.laws_eqInt64S xs ys = some (decide (xs = ys)) := by
  unfold Sh at h
  unfold D.laws_eqInt64S
  by_cases hl : xs.length = ys.length
  · have e : ((xs.length : Int) != (ys.length : Int)) = false := by simp [hl]
    rw [e, cond_false, ← list_eq_all xs ys 0 hl]
    refine loop_allb xs.length _ false (fun i hi => ?_) ?_ rfl rfl
    · have hi' : i < ys.length := by omega
      simp only [dlt hi, cond_true, idx_nat hi, idx_nat hi', Option.bind_some, wi (show i < 4611686018427387904 by omega), getD_lt hi, getD_lt hi']
      by_cases hc : xs[i] = ys[i]
      · simp [hc]
      · have : (xs[i] != ys[i]) = true := by simpa using hc
        simp [hc, this]
    · simp only [dnlt, cond_false]
  · have e : ((xs.length : Int) != (ys.length : Int)) = true := by simp; omega
    have : xs ≠ ys := by rintro rfl; exact hl rfl
    simp [e, this]
theorem eqSS_eq (xs ys : List (List Int)) (h : Sh2 xs) : D.laws_eqInt64SS xs ys = some (decide (xs = ys)) := by
  obtain ⟨h, h2⟩ := h
  unfold Sh at h
  unfold D.laws_eqInt64SS
  by_cases hl : xs.length = ys.length
  · have e : ((xs.length : Int) != (ys.length : Int)) = false := by simp [hl]
    rw [e, cond_false, ← list_eq_all xs ys [] hl]
    refine loop_allb xs.length _ false (fun i hi => ?_) ?_ rfl rfl
    · have hi' : i < ys.length := by omega
      simp only [dlt hi, cond_true, idx_nat hi, idx_nat hi', Option.bind_some, wi (show i < 4611686018427387904 by omega), getD_lt hi, getD_lt hi', eqS_eq _ _ (h2 _ (List.getElem_mem hi))]
      by_cases hc : xs[i] = ys[i]
      · simp [hc]
      · simp [hc]
    · simp only [dnlt, cond_false]
  · have e : ((xs.length : Int) != (ys.length : Int)) = true := by simp; omega
    have : xs ≠ ys := by rintro rfl; exact hl rfl
    simp [e, this]
theorem eqGraph_eq (xs ys : List (List Int)) (h : Sh2 xs) : D.laws_eqGraph xs ys = some (decide (xs = ys)) := by
  unfold D.laws_eqGraph; rw [eqSS_eq xs ys h, Option.bind_some]; cases decide (xs = ys) <;> rfl

/-! ### sizes -/
/-- how many there are in all -/
def tot : List (List Int) → Int
  | [] => 0
  | x :: xs => x.length + tot xs
theorem tot_nonneg : ∀ xs, 0 ≤ tot xs
  | [] => Int.le_refl _
  | x :: xs => by have := tot_nonneg xs; simp only [tot]; omega
theorem tot_app : ∀ xs ys, tot (xs ++ ys) = tot xs + tot ys
  | [], ys => by simp [tot]
  | x :: xs, ys => by simp only [List.cons_append, tot, tot_app xs ys]; omega
theorem tot_take {xs : List (List Int)} {i : Nat} (h : i < xs.length) : tot (xs.take (i + 1)) = tot (xs.take i) + xs[i].length := by
  rw [List.take_succ_eq_append_getElem h, tot_app]; simp [tot]
theorem tot_le {xs : List (List Int)} {n : Int} (h : ∀ x ∈ xs, (x.length : Int) ≤ n) : tot xs ≤ xs.length * n := by
  induction xs with
  | nil => simp [tot]
  | cons x xs ih =>
    have := ih (fun y hy => h y (by simp [hy]))
    have := h x (by simp)
    simp only [tot, List.length_cons, Int.natCast_add, Int.add_mul]; omega
/-! ### marks -/
/-- so many numbers from k on -/
def numsI (k : Int) (n : Nat) : List Int := (List.range n).map fun (i : Nat) => k + (i : Int)
theorem numsI_len (k : Int) (n : Nat) : (numsI k n).length = n := by simp [numsI]
theorem numsI_get (k : Int) {n i : Nat} (h : i < (numsI k n).length) : (numsI k n)[i] = k + (i : Int) := by simp [numsI]
def marked (k : Int) : List (List Int) → List (List Int)
  | [] => []
  | x :: xs => numsI k x.length :: marked (k + x.length) xs
theorem marked_app : ∀ xs ys k, marked k (xs ++ ys) = marked k xs ++ marked (k + tot xs) ys
  | [], ys, k => by simp [marked, tot]
  | x :: xs, ys, k => by simp only [List.cons_append, marked, marked_app xs ys, tot]; rw [show k + (x.length : Int) + tot xs = k + (x.length + tot xs) by omega]
theorem marked_len : ∀ xs k, (marked k xs).length = xs.length
  | [], _ => rfl
  | x :: xs, k => by simp [marked, marked_len xs]
theorem marked_get : ∀ (xs : List (List Int)) (k : Int) (i : Nat) (h : i < xs.length), (marked k xs)[i]'(by rw [marked_len]; exact h) = numsI (k + tot (xs.take i)) xs[i].length
  | x :: xs, k, 0, h => by simp [marked, tot]
  | x :: xs, k, i + 1, h => by
    simp only [marked, List.getElem_cons_succ, List.take_succ_cons, tot]
    rw [marked_get xs (k + x.length) i (by simpa using h)]
    congr 1; omega
theorem markS_eq (xs : List Int) (k : Int) (h : Sh xs) (h0 : 0 ≤ k) (h1 : k ≤ 4611686018427387904) : D.laws_markInt64S xs k = some (k + xs.length, numsI k xs.length) := by
  unfold Sh at h
  unfold D.laws_markInt64S
  have e : (numsI k xs.length ++ xs.drop xs.length) = numsI k xs.length := by simp
  refine (loop_to (fun i => (numsI k i ++ xs.drop i, k + (i : Int), (i : Int))) xs.length (numsI k xs.length, k + (xs.length : Int)) (by simp [numsI]) (fun i hi => ?_) ?_).trans rfl
  · have hl : (numsI k i ++ xs.drop i).length = xs.length := by simp [numsI_len]; omega
    have hi' : i < (numsI k i ++ xs.drop i).length := by omega
    have hset : (numsI k i ++ xs.drop i).set i (k + i) = numsI k (i + 1) ++ xs.drop (i + 1) := by
      rw [List.drop_eq_getElem_cons hi, List.set_append_right _ _ (by rw [numsI_len]; omega)]
      simp only [numsI_len, Nat.sub_self, List.set_cons_zero]
      unfold numsI
      rw [List.range_succ, List.map_append]; simp
    simp only [dlt hi', cond_true, idx_nat hi', Option.bind_some, wi (show i < 4611686018427387904 by omega), Int.toNat_natCast, hset]
    rw [w64 (by omega) (by omega)]
    have : k + (i : Int) + 1 = k + ((i + 1 : Nat) : Int) := by omega
    rw [this]
  · simp only [e, numsI_len, dnlt, cond_false]
theorem markSS_eq (xs : List (List Int)) (k : Int) (h : Sh2 xs) (h0 : 0 ≤ k) (h1 : k + tot xs ≤ 4611686018427387904) : D.laws_markInt64SS xs k = some (k + tot xs, marked k xs) := by
  obtain ⟨h, h2⟩ := h
  unfold Sh at h
  unfold D.laws_markInt64SS
  have hml : ∀ i, i ≤ xs.length → (marked k (xs.take i)).length = i := fun i hi => by rw [marked_len, List.length_take]; omega
  refine (loop_to (fun i => (marked k (xs.take i) ++ xs.drop i, k + tot (xs.take i), (i : Int))) xs.length (marked k xs, k + tot xs) (by simp [marked, tot]) (fun i hi => ?_) ?_).trans rfl
  · have hm := hml i (by omega)
    have hl : (marked k (xs.take i) ++ xs.drop i).length = xs.length := by simp [hm]; omega
    have hi' : i < (marked k (xs.take i) ++ xs.drop i).length := by omega
    have hg : (marked k (xs.take i) ++ xs.drop i)[i] = xs[i] := by
      rw [List.getElem_append_right (by omega)]
      simp [hm]
    have ht := tot_take hi
    have htn : tot (xs.take (i + 1)) ≤ tot xs := by
      have := tot_app (xs.take (i + 1)) (xs.drop (i + 1))
      rw [List.take_append_drop] at this
      have := tot_nonneg (xs.drop (i + 1)); omega
    have htn0 := tot_nonneg (xs.take i)
    have hset : (marked k (xs.take i) ++ xs.drop i).set i (numsI (k + tot (xs.take i)) xs[i].length) = marked k (xs.take (i + 1)) ++ xs.drop (i + 1) := by
      have e0 : i - (marked k (xs.take i)).length = 0 := by omega
      rw [List.drop_eq_getElem_cons hi, List.set_append_right _ _ (by omega), List.take_succ_eq_append_getElem hi, marked_app, e0, List.set_cons_zero, List.append_assoc]
      rfl
    simp only [dlt hi', cond_true, idx_nat hi', hg, Option.bind_some, wi (show i < 4611686018427387904 by omega), Int.toNat_natCast, markS_eq xs[i] (k + tot (xs.take i)) (h2 _ (List.getElem_mem hi)) (by omega) (by omega), hset]
    rw [ht]
    have : k + tot (xs.take i) + (xs[i].length : Int) = k + (tot (xs.take i) + (xs[i].length : Int)) := by omega
    rw [this]
  · have e : marked k (xs.take xs.length) ++ xs.drop xs.length = marked k xs := by simp
    simp only [e, marked_len, dnlt, cond_false]
    simp only [List.take_length]
theorem markGraph_eq (xs : List (List Int)) (k : Int) (h : Sh2 xs) (h0 : 0 ≤ k) (h1 : k + tot xs ≤ 4611686018427387904) : D.laws_markGraph xs k = some (k + tot xs, marked k xs) := by
  unfold D.laws_markGraph; rw [markSS_eq xs k h h0 h1]; rfl

theorem heldS_eq (n : Nat) (k : Int) (h : n ≤ 4294967296) (h0 : 0 ≤ k) (h1 : k ≤ 4611686018427387904) : D.laws_heldInt64S (numsI k n) k = some (k + n) := by
  unfold D.laws_heldInt64S
  rw [numsI_len]
  refine (loop_to (fun i => (k + (i : Int), (i : Int))) n (.inl (k + (n : Int))) (by simp) (fun i hi => ?_) ?_).trans rfl
  · have hi' : i < (numsI k n).length := by rw [numsI_len]; exact hi
    simp only [dlt hi, cond_true, idx_nat hi', numsI_get, Option.bind_some, bne_self_eq_false, cond_false, wi (show i < 4611686018427387904 by omega)]
    rw [w64 (by omega) (by omega)]
    have : k + (i : Int) + 1 = k + ((i + 1 : Nat) : Int) := by omega
    rw [this]
  · simp only [dnlt, cond_false]
theorem heldSS_eq (xs : List (List Int)) (k : Int) (h : Sh2 xs) (h0 : 0 ≤ k) (h1 : k + tot xs ≤ 4611686018427387904) : D.laws_heldInt64SS (marked k xs) k = some (k + tot xs) := by
  obtain ⟨h, h2⟩ := h
  unfold Sh at h
  unfold D.laws_heldInt64SS
  rw [marked_len]
  refine (loop_to (fun i => (k + tot (xs.take i), (i : Int))) xs.length (.inl (k + tot xs)) (by simp [tot]) (fun i hi => ?_) ?_).trans rfl
  · have hi' : i < (marked k xs).length := by rw [marked_len]; exact hi
    have ht := tot_take hi
    have htn : tot (xs.take (i + 1)) ≤ tot xs := by
      have := tot_app (xs.take (i + 1)) (xs.drop (i + 1))
      rw [List.take_append_drop] at this
      have := tot_nonneg (xs.drop (i + 1)); omega
    have htn0 := tot_nonneg (xs.take i)
    simp only [dlt hi, cond_true, idx_nat hi', marked_get xs k i hi, Option.bind_some, heldS_eq xs[i].length (k + tot (xs.take i)) (h2 _ (List.getElem_mem hi)) (by omega) (by omega), wi (show i < 4611686018427387904 by omega)]
    have hd : decide (k + tot (xs.take i) + (xs[i].length : Int) < 0) = false := by simp; omega
    simp only [hd, cond_false, ht]
    have : k + tot (xs.take i) + (xs[i].length : Int) = k + (tot (xs.take i) + (xs[i].length : Int)) := by omega
    rw [this]
  · simp only [dnlt, cond_false, List.take_length]
end Go.Sx

/- What grows by prunes: the program's graph is the reference's. Plain. -/
namespace Go.Sx
/-! ### a vertex is joined to a set -/
def joinF (n : Nat) (F : List Int) (v : Nat) (S : Int) : List Int := (List.range n).map fun u => ior .u32 (ior .u32 (F.getD u 0) (if u = v then S else 0)) (if has S u then ishl .u32 1 (v : Int) else 0)
theorem joinF_get {n : Nat} {F : List Int} {v u : Nat} {S : Int} (hu : u < n) : (joinF n F v S).getD u 0 = ior .u32 (ior .u32 (F.getD u 0) (if u = v then S else 0)) (if has S u then ishl .u32 1 (v : Int) else 0) := by
  unfold joinF
  rw [getD_lt (by simpa using hu)]; simp
theorem vs_ite {c : Prop} [Decidable c] {a b : Int} (ha : VS a) (hb : VS b) : VS (if c then a else b) := by split <;> assumption
theorem joinF_nb {n : Nat} {F : List Int} {v u : Nat} {S : Int} (hn : n ≤ 16) (hF : FOk F n) (hS : In n S) (hv : v < n) (hu : u < n) (w : Nat) : nb (joinF n F v S) u w = (nb F u w || (decide (u = v) && has S w) || (has S u && decide (w = v))) := by
  unfold nb
  rw [joinF_get hu, has_ior (VS.ior _ _) (vs_ite (VS.ishl _ _) VS.zero), has_ior (hF.vs u hu) (vs_ite hS.1 VS.zero)]
  congr 1
  · congr 1
    by_cases h : u = v
    · rw [if_pos h, decide_eq_true h]; simp
    · rw [if_neg h, decide_eq_false h, has_zero]; simp
  · cases hc : has S u
    · rw [if_neg (by simp), has_zero]; simp
    · rw [if_pos rfl, has_one (by omega)]; simp
theorem joinF_ok {n : Nat} {F : List Int} {v : Nat} {S : Int} (hn : n ≤ 16) (hF : FOk F n) (hS : In n S) (hv : v < n) (hSv : has S v = false) : FOk (joinF n F v S) n := by
  refine ⟨by simp [joinF], fun u hu => by rw [joinF_get hu]; exact VS.ior _ _, fun u w hu h => ?_, fun u hu => ?_, fun u w hu h => ?_⟩
  · rw [joinF_nb hn hF hS hv hu] at h
    simp only [Bool.or_eq_true, Bool.and_eq_true, decide_eq_true_eq] at h
    rcases h with (h | h) | h
    · exact hF.lt u w hu h
    · exact hS.2 w h.2
    · omega
  · rw [joinF_nb hn hF hS hv hu, hF.irr u hu]
    by_cases h : u = v
    · subst h; simp [hSv]
    · simp [h]
  · have hw : w < n := by
      rw [joinF_nb hn hF hS hv hu] at h
      simp only [Bool.or_eq_true, Bool.and_eq_true, decide_eq_true_eq] at h
      rcases h with (h | h) | h
      · exact hF.lt u w hu h
      · exact hS.2 w h.2
      · omega
    rw [joinF_nb hn hF hS hv hu] at h
    rw [joinF_nb hn hF hS hv hw]
    simp only [Bool.or_eq_true, Bool.and_eq_true, decide_eq_true_eq] at h ⊢
    rcases h with (h | h) | h
    · exact .inl (.inl (hF.sym u w hu h))
    · exact .inr ⟨h.2, h.1⟩
    · exact .inl (.inr ⟨h.2, h.1⟩)

theorem nets_join_ok {n : Nat} (hn : n ≤ 16) {X : List Int} (hl : X.length = n) (hV : ∀ u, u < n → VS (X.getD u 0)) {v t : Nat} (hv : v < n) (ht : t < n) (hvt : v ≠ t) :
    ∃ y, D.impl_nets_join X (v : Int) (t : Int) = some y ∧ (y.length = n ∧ (∀ u, u < n → VS (y.getD u 0)) ∧ ∀ u w, u < n → nb y u w = (nb X u w || (decide (u = v) && decide (w = t)) || (decide (u = t) && decide (w = v)))) := by
  have hx : ∀ k, k < n → idx X (k : Int) = some (X.getD k 0) := fun k hk => by rw [idx_nat (by omega), getD_lt (by omega)]
  refine ⟨(X.set v (ior .u32 (X.getD v 0) (ishl .u32 1 (t : Int)))).set t (ior .u32 (X.getD t 0) (ishl .u32 1 (v : Int))), ?_, by simp [hl], fun u hu => ?_, fun u w hu => ?_⟩
  · unfold D.impl_nets_join
    have e1 : idx (X.set v (ior .u32 (X.getD v 0) (ishl .u32 1 (t : Int)))) (t : Int) = some (X.getD t 0) := by
      rw [idx_nat (by simp; omega), List.getElem_set_ne hvt]
      exact congrArg some (getD_lt (by omega) 0).symm
    simp only [hx v hv, Option.bind_some, impl_one_eq, Int.toNat_natCast, e1]
  · rw [List.getD_eq_getElem?_getD, List.getElem?_set]
    by_cases h : t = u
    · rw [if_pos h, if_pos (by simp; omega)]; exact VS.ior _ _
    · rw [if_neg h, List.getElem?_set]
      by_cases h2 : v = u
      · rw [if_pos h2, if_pos (by omega)]; exact VS.ior _ _
      · rw [if_neg h2, ← List.getD_eq_getElem?_getD]; exact hV u hu
  · unfold nb
    rw [List.getD_eq_getElem?_getD, List.getElem?_set]
    by_cases h : t = u
    · subst h
      rw [if_pos rfl, if_pos (by simp; omega), Option.getD_some, has_ior (hV _ hu) (VS.ishl _ _), has_one (by omega)]
      have : decide (t = v) = false := decide_eq_false (fun e => hvt e.symm)
      rw [this]; simp
    · rw [if_neg h, List.getElem?_set]
      have e2 : decide (u = t) = false := decide_eq_false (fun e => h e.symm)
      by_cases h2 : v = u
      · subst h2
        rw [if_pos rfl, if_pos (by omega), Option.getD_some, has_ior (hV _ hu) (VS.ishl _ _), has_one (by omega), e2]; simp
      · rw [if_neg h2, ← List.getD_eq_getElem?_getD, e2, decide_eq_false (fun e => h2 e.symm)]; simp

theorem joins_then {n : Nat} (hn : n ≤ 16) {F : List Int} (hF : FOk F n) {S : Int} (hS : In n S) {v : Nat} (hv : v < n) (hSv : has S v = false) {β : Type} {k : List Int → Option β} :
    (loopF (σ := (List Int) × Int) (ρ := ((List Int))) (fun (s_1146 : (List Int) × Int) => match s_1146 with | (l_1149, x_1152) => cond (decide (x_1152 < ((elems S).length : Int))) ((idx (elems S) x_1152).bind fun e_1176 => (D.impl_nets_join l_1149 (v : Int) e_1176).bind fun y_1182 => some (.inl (y_1182, (IntKind.i64.wrap (x_1152 + 1))))) (some (.inr l_1149))) (F, 0)).bind k = k (joinF n F v S) := by
  have hel := elems_len S
  have key := loop_then (k := fun r => some r) (Q := fun r => r = joinF n F v S)
    (step := (fun (s_1146 : (List Int) × Int) => match s_1146 with | (l_1149, x_1152) => cond (decide (x_1152 < ((elems S).length : Int))) ((idx (elems S) x_1152).bind fun e_1176 => (D.impl_nets_join l_1149 (v : Int) e_1176).bind fun y_1182 => some (.inl (y_1182, (IntKind.i64.wrap (x_1152 + 1))))) (some (.inr l_1149)))) (s := (F, 0))
    (fun s => ∃ i : Nat, s.2 = (i : Int) ∧ i ≤ (elems S).length ∧ s.1.length = n ∧ (∀ u, u < n → VS (s.1.getD u 0)) ∧ ∀ u w, u < n → nb s.1 u w = (nb F u w || (decide (u = v) && decide ((w : Int) ∈ (elems S).take i)) || (decide ((u : Int) ∈ (elems S).take i) && decide (w = v))))
    (fun s => (elems S).length - s.2.toNat) (fun r => r = joinF n F v S) ?_ ⟨0, rfl, by omega, hF.len, hF.vs, fun u w _ => by simp⟩ (fun r hr => ⟨r, rfl, hr⟩)
  · obtain ⟨y, e, rfl⟩ := key
    cases hL : loopF (σ := (List Int) × Int) (ρ := ((List Int))) (fun (s_1146 : (List Int) × Int) => match s_1146 with | (l_1149, x_1152) => cond (decide (x_1152 < ((elems S).length : Int))) ((idx (elems S) x_1152).bind fun e_1176 => (D.impl_nets_join l_1149 (v : Int) e_1176).bind fun y_1182 => some (.inl (y_1182, (IntKind.i64.wrap (x_1152 + 1))))) (some (.inr l_1149))) (F, 0) with
    | none => rw [hL] at e; cases e
    | some z => rw [hL] at e; cases e; rfl
  · rintro ⟨X, _⟩ ⟨i, rfl, hi, hXl, hXV, hX⟩
    dsimp only at hXl hXV hX ⊢
    by_cases hil : i < (elems S).length
    · obtain ⟨t, _, ht, et⟩ := mem_elems.1 (List.getElem_mem hil)
      have htn := hS.2 t ht
      have hvt : v ≠ t := fun e => by subst e; rw [hSv] at ht; cases ht
      obtain ⟨y, e, h1, h2, h3⟩ := nets_join_ok hn hXl hXV hv htn hvt
      simp only [dlt hil, cond_true, idx_nat hil, Option.bind_some, et, e, wi (show i < 4611686018427387904 by omega)]
      refine ⟨_, rfl, ⟨i + 1, rfl, by omega, h1, h2, fun u w hu => ?_⟩, by dsimp only; omega⟩
      rw [h3 u w hu, hX u w hu, List.take_succ_eq_append_getElem hil, et]
      have m : ∀ x : Nat, decide ((x : Int) ∈ (elems S).take i ++ [(t : Int)]) = (decide ((x : Int) ∈ (elems S).take i) || decide (x = t)) := fun x => by
        rw [Bool.eq_iff_iff, Bool.or_eq_true, decide_eq_true_eq, decide_eq_true_eq, decide_eq_true_eq, List.mem_append, List.mem_singleton]
        constructor
        · rintro (h | h)
          · exact .inl h
          · exact .inr (by omega)
        · rintro (h | h)
          · exact .inl h
          · exact .inr (by omega)
      rw [m w, m u]
      cases nb F u w <;> cases decide (u = v) <;> cases decide ((w : Int) ∈ (elems S).take i) <;> cases decide ((u : Int) ∈ (elems S).take i) <;> cases decide (w = v) <;> cases decide (w = t) <;> cases decide (u = t) <;> rfl
    · obtain rfl : i = (elems S).length := by omega
      simp only [dnlt, cond_false]
      refine ⟨_, rfl, ?_⟩
      have hJ := joinF_ok hn hF hS hv hSv
      refine FOk.ext hXl hJ.len hXV hJ.vs (fun u w hu => ?_)
      rw [hX u w hu, joinF_nb hn hF hS hv hu, List.take_length]
      have m : ∀ x : Nat, decide ((x : Int) ∈ elems S) = has S x := fun x => by
        rw [Bool.eq_iff_iff, decide_eq_true_eq, mem_elems_nat hS.1]
      rw [m w, m u]

/-! ### the same in lists -/
theorem row_joinF {n : Nat} (h1 : 1 ≤ n) (hn : n ≤ 16) {F : List Int} (hF : FOk F n) {S : Int} (hS : In n S) {v : Nat} (hv : v < n) (hSv : has S v = false) (h0 : ∀ w, nb F v w = false) {u : Nat} (hu : u < n) :
    row (grow (joinF n F v S)) u = if u = v then elems S else if has S u then into (row (grow F) u) (v : Int) else row (grow F) u := by
  have hJ := joinF_ok hn hF hS hv hSv
  have hg := GOk.grow hF h1 hn
  have hgl : (grow F).length = n := by rw [grow_len, hF.len]
  rw [row_grow]
  have hmem : ∀ z : Int, z ∈ elems ((joinF n F v S).getD u 0) ↔ ∃ w : Nat, z = w ∧ nb (joinF n F v S) u w = true := fun z => by
    rw [mem_elems]
    constructor
    · rintro ⟨w, _, h, rfl⟩; exact ⟨w, rfl, h⟩
    · rintro ⟨w, rfl, h⟩
      have := hJ.lt u w hu h
      exact ⟨w, by omega, h, rfl⟩
  by_cases huv : u = v
  · subst huv
    rw [if_pos rfl]
    refine Inc.ext (elems_inc _) (elems_inc _) (fun z => ?_)
    rw [hmem]
    constructor
    · rintro ⟨w, rfl, h⟩
      rw [joinF_nb hn hF hS hv hu, h0 w, hSv] at h
      simp at h
      exact (mem_elems_nat hS.1).2 h
    · intro hz
      obtain ⟨w, _, h, rfl⟩ := mem_elems.1 hz
      refine ⟨w, rfl, ?_⟩
      rw [joinF_nb hn hF hS hv hu, h]; simp
  · rw [if_neg huv]
    have hri : Inc (row (grow F) u) := (hg.rows u (by omega)).1
    by_cases hc : has S u = true
    · rw [if_pos hc]
      refine Inc.ext (elems_inc _) (hri.into _) (fun z => ?_)
      rw [hmem, mem_into]
      constructor
      · rintro ⟨w, rfl, h⟩
        rw [joinF_nb hn hF hS hv hu, hc, decide_eq_false huv] at h
        simp at h
        rcases h with h | h
        · exact .inr ((adj_grow hF hu).2 h)
        · exact .inl (by rw [h])
      · rintro (rfl | hz)
        · refine ⟨v, rfl, ?_⟩
          rw [joinF_nb hn hF hS hv hu, hc]; simp
        · obtain ⟨w, rfl, _, ha⟩ := hg.mem (by omega) hz
          refine ⟨w, rfl, ?_⟩
          rw [joinF_nb hn hF hS hv hu, (adj_grow hF hu).1 ha]; simp
    · rw [if_neg hc]
      rw [Bool.not_eq_true] at hc
      refine Inc.ext (elems_inc _) hri (fun z => ?_)
      rw [hmem]
      constructor
      · rintro ⟨w, rfl, h⟩
        rw [joinF_nb hn hF hS hv hu, hc, decide_eq_false huv] at h
        simp at h
        exact (adj_grow hF hu).2 h
      · intro hz
        obtain ⟨w, rfl, _, ha⟩ := hg.mem (by omega) hz
        refine ⟨w, rfl, ?_⟩
        rw [joinF_nb hn hF hS hv hu, (adj_grow hF hu).1 ha]; simp

theorem graph_rows {g g' : List (List Int)} (hl : g.length = g'.length) (h : ∀ u, u < g.length → row g u = row g' u) : g = g' := by
  refine List.ext_getElem hl (fun i h1 h2 => ?_)
  have := h i h1
  rwa [row_eq h1, row_eq h2] at this

theorem grow_then {n : Nat} (h1 : 1 ≤ n) (hn : n ≤ 16) {F : List Int} (hF : FOk F n) {S : Int} (hS : In n S) {v : Nat} (hv : v < n) (hSv : has S v = false) (h0 : ∀ w, nb F v w = false) {β : Type} {k : List (List Int) → Option β} {Q : β → Prop}
    (hk : ∃ y, k (grow (joinF n F v S)) = some y ∧ Q y) :
    ∃ y, (loopF (σ := (List (List Int)) × Int) (ρ := ((List (List Int)))) (fun (s_191 : (List (List Int)) × Int) => match s_191 with | (l_194, x_197) => cond (decide (x_197 < ((elems S).length : Int))) ((idx (elems S) x_197).bind fun e_244 => (idx (elems S) x_197).bind fun e_250 => (idx l_194 e_250).bind fun e_256 => (D.spec_l1Into e_256 (v : Int)).bind fun y_265 => (idx l_194 e_244).bind fun e_274 => some (.inl ((l_194.set (Int.toNat e_244) y_265), (IntKind.i64.wrap (x_197 + 1))))) (some (.inr l_194))) ((grow F).set v (elems S), 0)).bind k = some y ∧ Q y := by
  have hel := elems_len S
  have hg := GOk.grow hF h1 hn
  have hgl : (grow F).length = n := by rw [grow_len, hF.len]
  have hJ := joinF_ok hn hF hS hv hSv
  refine loop_then (fun s => ∃ i : Nat, s.2 = (i : Int) ∧ i ≤ (elems S).length ∧ s.1.length = n ∧ ∀ u, u < n → row s.1 u = if u = v then elems S else if (u : Int) ∈ (elems S).take i then into (row (grow F) u) (v : Int) else row (grow F) u)
    (fun s => (elems S).length - s.2.toNat) (fun r => r = grow (joinF n F v S)) ?_ ⟨0, rfl, by omega, by simp [hgl], fun u hu => ?_⟩ (fun r hr => by rw [hr]; exact hk)
  · rintro ⟨X, _⟩ ⟨i, rfl, hi, hXl, hX⟩
    dsimp only at hXl hX ⊢
    by_cases hil : i < (elems S).length
    · obtain ⟨t, _, ht, et⟩ := mem_elems.1 (List.getElem_mem hil)
      have htn := hS.2 t ht
      have hvt : t ≠ v := fun e => by subst e; rw [hSv] at ht; cases ht
      have hnt : (t : Int) ∉ (elems S).take i := fun hm => by
        rw [← et] at hm
        exact nodup_iff.1 (elems_inc S).nodup i hil hm
      have hr : row X t = row (grow F) t := by rw [hX t htn, if_neg hvt, if_neg hnt]
      have hrt := hg.rows t (by omega)
      have hrl := hg.row_len (u := t) (by omega)
      simp only [dlt hil, cond_true, idx_nat hil, Option.bind_some, et, idx_row (show t < X.length by omega), hr, l1Into_eq _ _ hrt.1 (show (row (grow F) t).length ≤ 4294967295 by omega), Int.toNat_natCast, wi (show i < 4611686018427387904 by omega)]
      refine ⟨_, rfl, ⟨i + 1, rfl, by omega, by simp [hXl], fun u hu => ?_⟩, by dsimp only; omega⟩
      dsimp only
      rw [row_set (by omega), List.take_succ_eq_append_getElem hil, et, hX u hu]
      by_cases hut : u = t
      · subst hut
        rw [if_pos rfl, if_neg hvt, if_pos (by simp)]
      · rw [if_neg hut]
        by_cases huv : u = v
        · rw [if_pos huv, if_pos huv]
        · rw [if_neg huv, if_neg huv]
          have : (u : Int) ∈ (elems S).take i ++ [(t : Int)] ↔ (u : Int) ∈ (elems S).take i := by
            rw [List.mem_append, List.mem_singleton]
            constructor
            · rintro (h | h)
              · exact h
              · exact absurd (by omega) hut
            · exact .inl
          by_cases hm : (u : Int) ∈ (elems S).take i
          · rw [if_pos hm, if_pos (this.2 hm)]
          · rw [if_neg hm, if_neg (fun h => hm (this.1 h))]
    · obtain rfl : i = (elems S).length := by omega
      simp only [dnlt, cond_false]
      refine ⟨_, rfl, graph_rows (by rw [hXl, grow_len, hJ.len]) (fun u hu => ?_)⟩
      have hun : u < n := by omega
      rw [hX u hun, row_joinF h1 hn hF hS hv hSv h0 hun, List.take_length]
      have : ((u : Int) ∈ elems S) = (has S u = true) := propext (mem_elems_nat hS.1)
      simp only [this]
  · dsimp only
    rw [row_set (by omega)]
    simp
end Go.Sx

/- What grows by a list of prunes: the program's is the reference's. Plain. -/
namespace Go.Sx
noncomputable def stepI (x0 : List Pr) : (List Int) × Int × Int → Option (((List Int) × Int × Int) ⊕ ((List Int) ⊕ ((List (List Int)) × Bool))) := (fun (s_716 : (List Int) × Int × Int) => match s_716 with | (l_719, x_722, x_723) => cond (decide ((0 : Int) ≤ x_723)) ((idx x0 x_723).bind fun e_963 => ((cond (e_963.2.2 != 1) ((D.impl_inRange e_963.2.1 0 (IntKind.i64.wrap ((x0.length : Int) - 1))).bind fun y_1033 => (cond (!y_1033) (some true) ((D.impl_vset_has x_722 e_963.2.1).bind fun y_1059 => some (!y_1059))).bind fun b_1057 => cond b_1057 (some (.inr (([] : List (List Int)), false))) ((D.impl_one e_963.2.1).bind fun y_1072 => cond (e_963.2.2 == 2) (some (.inl y_1072)) (cond (e_963.2.2 == 3) ((idx l_719 e_963.2.1).bind fun e_1081 => some (.inl e_1081)) (cond (e_963.2.2 == 4) ((idx l_719 e_963.2.1).bind fun e_1088 => some (.inl (ior .u32 e_1088 y_1072))) (some (.inl 0)))))) (some (.inl 0)) : Option (Int ⊕ (((List (List Int))) × Bool)))).bind fun q => match q with | .inl x_1030 => ((D.impl_vset_list x_1030).bind fun y_1094 => (loopF (σ := (List Int) × Int) (ρ := ((List Int))) (fun (s_1146 : (List Int) × Int) => match s_1146 with | (l_1149, x_1152) => cond (decide (x_1152 < (y_1094.length : Int))) ((idx y_1094 x_1152).bind fun e_1176 => (D.impl_nets_join l_1149 e_963.1 e_1176).bind fun y_1182 => some (.inl (y_1182, (IntKind.i64.wrap (x_1152 + 1))))) (some (.inr l_1149))) (l_719, 0)).bind fun l_1171 => (D.impl_one e_963.1).bind fun y_1191 => some (.inl (l_1171, (ior .u32 x_722 y_1191), (IntKind.i64.wrap (x_723 - 1))))) | .inr q => (some (.inr (.inr q)))) (some (.inr (.inl l_719))))
noncomputable def stepS (x0 : List Pr) : (List Int) × Int × (List (List Int)) → Option (((List Int) × Int × (List (List Int))) ⊕ ((List (List Int)) ⊕ ((List (List Int)) × Bool))) := (fun (s_424 : (List Int) × Int × (List (List Int))) => match s_424 with | (l_430, x_433, l_434) => cond (decide ((0 : Int) ≤ x_433)) ((idx x0 x_433).bind fun e_616 => (D.spec_l1In e_616.1 0 (IntKind.i64.wrap ((x0.length : Int) - 1))).bind fun y_622 => (cond (!y_622) (some true) ((D.spec_l1Has l_430 e_616.1).bind fun y_648 => some y_648)).bind fun b_646 => (cond b_646 (some true) ((D.spec_l1In e_616.2.2 1 4).bind fun y_674 => some (!y_674))).bind fun b_672 => (cond (b_672 || ((e_616.2.1 == (-1)) != (e_616.2.2 == 1))) (some true) ((cond (e_616.2.1 != (-1)) ((D.spec_l1Has l_430 e_616.2.1).bind fun y_760 => some (!y_760)) (some false)).bind fun b_758 => some b_758)).bind fun b_739 => cond b_739 (some (.inr (.inr (([] : List (List Int)), false)))) ((D.spec_l18Grow l_434 e_616.1 e_616.2.1 e_616.2.2).bind fun y_773 => (D.spec_l1Into l_430 e_616.1).bind fun y_782 => some (.inl (y_782, (IntKind.i64.wrap (x_433 - 1)), y_773)))) (some (.inr (.inl l_434))))

def nearS (F : List Int) (p : Pr) : Int := if p.2.2 = 2 then ishl .u32 1 p.2.1 else if p.2.2 = 3 then F.getD p.2.1.toNat 0 else if p.2.2 = 4 then ior .u32 (F.getD p.2.1.toNat 0) (ishl .u32 1 p.2.1) else 0
def Fs (n : Nat) : List Pr → List Int
  | [] => List.replicate n 0
  | p :: l => joinF n (Fs n l) p.1.toNat (nearS (Fs n l) p)
def vsOf (l : List Pr) : List Int := l.map (·.1)
/-- what is there when a list has been grown -/
structure GI (n : Nat) (l : List Pr) (s : Int) : Prop where
  f : FOk (Fs n l) n
  i : In n s
  mem : ∀ w : Nat, has s w = true ↔ (w : Int) ∈ vsOf l
  thr : ∀ u w, u < n → nb (Fs n l) u w = true → has s u = true ∧ has s w = true
  nonneg : ∀ x ∈ vsOf l, 0 ≤ x
theorem GI.nil (n : Nat) : GI n [] 0 := by
  have hz : ∀ u, (List.replicate n (0 : Int)).getD u 0 = 0 := fun u => by
    rw [List.getD_eq_getElem?_getD, List.getElem?_replicate]; split <;> rfl
  have hn : ∀ u w, nb (List.replicate n (0 : Int)) u w = false := fun u w => by unfold nb; rw [hz, has_zero]
  exact ⟨⟨by simp [Fs], fun u _ => by show VS ((List.replicate n (0 : Int)).getD u 0); rw [hz]; exact VS.zero, fun u w _ h => (by rw [show nb (Fs n []) u w = false from hn u w] at h; cases h), fun u _ => hn u u, fun u w _ h => (by rw [show nb (Fs n []) u w = false from hn u w] at h; cases h)⟩,
    ⟨VS.zero, fun w h => (by rw [has_zero] at h; cases h)⟩, fun w => (by rw [has_zero]; simp [vsOf]), fun u w _ h => (by rw [show nb (Fs n []) u w = false from hn u w] at h; cases h), by simp [vsOf]⟩
def needs (k : Int) : Prop := k = 2 ∨ k = 3 ∨ k = 4
theorem near_ok {n : Nat} (hn : n ≤ 16) {l : List Pr} {s : Int} (h : GI n l s) {p : Pr} (hby : needs p.2.2 → ∃ b : Nat, p.2.1 = b ∧ has s b = true) : In n (nearS (Fs n l) p) ∧ ∀ w, has (nearS (Fs n l) p) w = true → has s w = true := by
  have key : VS (nearS (Fs n l) p) ∧ ∀ w, has (nearS (Fs n l) p) w = true → has s w = true := by
    unfold nearS
    by_cases k2 : p.2.2 = 2
    · obtain ⟨b, e, hb⟩ := hby (.inl k2)
      have := h.i.2 b hb
      rw [if_pos k2, e]
      refine ⟨VS.ishl _ _, fun w hw => ?_⟩
      rw [has_one (by omega)] at hw
      rw [of_decide_eq_true hw]; exact hb
    · rw [if_neg k2]
      by_cases k3 : p.2.2 = 3
      · obtain ⟨b, e, hb⟩ := hby (.inr (.inl k3))
        have hbn := h.i.2 b hb
        rw [if_pos k3, e, Int.toNat_natCast]
        exact ⟨h.f.vs b hbn, fun w hw => (h.thr b w hbn hw).2⟩
      · rw [if_neg k3]
        by_cases k4 : p.2.2 = 4
        · obtain ⟨b, e, hb⟩ := hby (.inr (.inr k4))
          have hbn := h.i.2 b hb
          rw [if_pos k4, e, Int.toNat_natCast]
          refine ⟨VS.ior _ _, fun w hw => ?_⟩
          rw [has_ior (h.f.vs b hbn) (VS.ishl _ _), has_one (by omega), Bool.or_eq_true] at hw
          rcases hw with hw | hw
          · exact (h.thr b w hbn hw).2
          · rw [of_decide_eq_true hw]; exact hb
        · rw [if_neg k4]
          exact ⟨VS.zero, fun w hw => by rw [has_zero] at hw; cases hw⟩
  exact ⟨⟨key.1, fun w hw => h.i.2 w (key.2 w hw)⟩, key.2⟩
theorem GI.step {n : Nat} (hn : n ≤ 16) {l : List Pr} {s : Int} (h : GI n l s) {p : Pr} {v : Nat} (e : p.1 = v) (hv : v < n) (hsv : has s v = false) (hby : needs p.2.2 → ∃ b : Nat, p.2.1 = b ∧ has s b = true) :
    GI n (p :: l) (ior .u32 s (ishl .u32 1 (v : Int))) ∧ Fs n (p :: l) = joinF n (Fs n l) v (nearS (Fs n l) p) ∧ has (nearS (Fs n l) p) v = false ∧ ∀ w, nb (Fs n l) v w = false := by
  obtain ⟨hS, hSs⟩ := near_ok hn h hby
  have hSv : has (nearS (Fs n l) p) v = false := by
    rw [Bool.eq_false_iff]; intro hc; rw [hSs v hc] at hsv; cases hsv
  have eF : Fs n (p :: l) = joinF n (Fs n l) v (nearS (Fs n l) p) := by
    show joinF n (Fs n l) p.1.toNat _ = _
    rw [e, Int.toNat_natCast]
  have hh : ∀ w, has (ior .u32 s (ishl .u32 1 (v : Int))) w = (has s w || decide (w = v)) := fun w => by rw [has_ior h.i.1 (VS.ishl _ _), has_one (by omega)]
  refine ⟨⟨by rw [eF]; exact joinF_ok hn h.f hS hv hSv, ⟨VS.ior _ _, fun w hw => ?_⟩, fun w => ?_, fun u w hu hw => ?_, fun x hx => ?_⟩, eF, hSv, fun w => ?_⟩
  · rw [hh, Bool.or_eq_true, decide_eq_true_eq] at hw
    rcases hw with hw | hw
    · exact h.i.2 w hw
    · omega
  · rw [hh, Bool.or_eq_true, decide_eq_true_eq, h.mem]
    unfold vsOf
    rw [List.map_cons, List.mem_cons, e]
    constructor
    · rintro (hw | hw)
      · exact .inr hw
      · exact .inl (by omega)
    · rintro (hw | hw)
      · exact .inr (by omega)
      · exact .inl hw
  · rw [eF, joinF_nb hn h.f hS hv hu] at hw
    simp only [hh, Bool.or_eq_true, Bool.and_eq_true, decide_eq_true_eq] at hw ⊢
    rcases hw with (hw | hw) | hw
    · have := h.thr u w hu hw
      exact ⟨.inl this.1, .inl this.2⟩
    · exact ⟨.inr hw.1, .inl (hSs w hw.2)⟩
    · exact ⟨.inl (hSs u hw.1), .inr hw.2⟩
  · unfold vsOf at hx
    rw [List.map_cons, List.mem_cons, e] at hx
    rcases hx with rfl | hx
    · omega
    · exact h.nonneg x hx
  · rw [Bool.eq_false_iff]; intro hc
    rw [(h.thr v w hv hc).1] at hsv; cases hsv

def okI (p : Pr) (rest : List Pr) : Prop := p.2.2 ≠ 1 → p.2.1 ∈ vsOf rest
def okS (n : Nat) (p : Pr) (rest : List Pr) : Prop := (0 ≤ p.1 ∧ p.1 < n) ∧ p.1 ∉ vsOf rest ∧ (1 ≤ p.2.2 ∧ p.2.2 ≤ 4) ∧ (p.2.1 = -1 ↔ p.2.2 = 1) ∧ (p.2.1 ≠ -1 → p.2.1 ∈ vsOf rest)
def allTo (P : Pr → List Pr → Prop) (l : List Pr) (i : Nat) : Prop := ∀ j (h : j < l.length), j < i → P l[j] (l.drop (j + 1))
theorem allTo_succ {P : Pr → List Pr → Prop} {l : List Pr} {i : Nat} (hi : i < l.length) : allTo P l (i + 1) ↔ allTo P l i ∧ P l[i] (l.drop (i + 1)) := by
  constructor
  · intro h; exact ⟨fun j hj hji => h j hj (by omega), h i hi (by omega)⟩
  · rintro ⟨h1, h2⟩ j hj hji
    by_cases e : j = i
    · subst e; exact h2
    · exact h1 j hj (by omega)
theorem mem_has {n : Nat} {l : List Pr} {s : Int} (h : GI n l s) {b : Int} : b ∈ vsOf l → 0 ≤ b → ∃ c : Nat, b = c ∧ has s c = true := fun hb h0 => ⟨b.toNat, by omega, (h.mem _).2 (by rw [show ((b.toNat : Nat) : Int) = b by omega]; exact hb)⟩

theorem implG {l : List Pr} (h16 : l.length ≤ 16) (hv : ∀ j (h : j < l.length), 0 ≤ l[j].1 ∧ l[j].1 < l.length) (hd : (vsOf l).Nodup) : ∀ i, i ≤ l.length → ∀ s, GI l.length (l.drop i) s →
    (∃ s', allTo okI l i ∧ loopF (stepI l) (Fs l.length (l.drop i), s, (i : Int) - 1) = some (.inl (Fs l.length l)) ∧ GI l.length l s') ∨ (loopF (stepI l) (Fs l.length (l.drop i), s, (i : Int) - 1) = some (.inr ([], false)) ∧ ¬ allTo okI l i)
  | 0, _, s, h => by
    rw [List.drop_zero] at h ⊢
    exact .inl ⟨s, fun j _ hj => by omega, loopF_done (by unfold stepI; rfl), h⟩
  | i + 1, hi, s, h => by
    have hil : i < l.length := by omega
    have hdr := List.drop_eq_getElem_cons hil
    obtain ⟨v, e⟩ : ∃ v : Nat, l[i].1 = v := ⟨l[i].1.toNat, by have := hv i hil; omega⟩
    have hvn : v < l.length := by have := hv i hil; omega
    have hnot : (v : Int) ∉ vsOf (l.drop (i + 1)) := fun hm => by
      have h2 : (vsOf (l.drop i)).Nodup := by
        unfold vsOf at hd ⊢
        rw [List.map_drop]
        exact List.Pairwise.sublist (List.drop_sublist _ _) hd
      rw [hdr] at h2
      unfold vsOf at h2
      rw [List.map_cons, List.nodup_cons, e] at h2
      exact h2.1 hm
    have hsv : has s v = false := by
      rw [Bool.eq_false_iff]; intro hc; exact hnot ((h.mem v).1 hc)
    have hx : ∀ c : Nat, has s c = true → idx (Fs l.length (l.drop (i + 1))) (c : Int) = some ((Fs l.length (l.drop (i + 1))).getD c 0) := fun c hc => idx_F h.f (h.i.2 c hc)
    have ei : (((i + 1 : Nat) : Int) - 1) = (i : Int) := by omega
    have hwi : IntKind.i64.wrap ((i : Int) - 1) = (i : Int) - 1 := w64 (by omega) (by omega)
    have h0 : decide ((0 : Int) ≤ (i : Int)) = true := decide_eq_true (by omega)
    rw [ei]
    by_cases hok : okI l[i] (l.drop (i + 1))
    · -- on it goes
      have hby : ∀ hk : l[i].2.2 ≠ 1, ∃ b : Nat, l[i].2.1 = b ∧ has s b = true := fun hk => by
        have hm := hok hk
        obtain ⟨q, hq, e2⟩ := List.mem_map.1 hm
        obtain ⟨j, hj, e3⟩ := List.getElem_of_mem (List.mem_of_mem_drop hq)
        have := hv j hj
        rw [e3, e2] at this
        exact mem_has h hm this.1
      have hby' : needs l[i].2.2 → ∃ b : Nat, l[i].2.1 = b ∧ has s b = true := fun hk => hby (by rcases hk with hk | hk | hk <;> omega)
      obtain ⟨hG, eF, hSv, _⟩ := h.step h16 e hvn hsv hby'
      obtain ⟨hS, _⟩ := near_ok h16 h hby'
      rw [← hdr] at hG eF
      have hst : stepI l (Fs l.length (l.drop (i + 1)), s, (i : Int)) = some (.inl (Fs l.length (l.drop i), ior .u32 s (ishl .u32 1 (v : Int)), (i : Int) - 1)) := by
        unfold stepI
        simp only [h0, cond_true, idx_nat hil, Option.bind_some, hwi]
        have hq : ((cond (l[i].2.2 != 1) ((D.impl_inRange l[i].2.1 0 (IntKind.i64.wrap ((l.length : Int) - 1))).bind fun y_1033 => (cond (!y_1033) (some true) ((D.impl_vset_has s l[i].2.1).bind fun y_1059 => some (!y_1059))).bind fun b_1057 => cond b_1057 (some (.inr (([] : List (List Int)), false))) ((D.impl_one l[i].2.1).bind fun y_1072 => cond (l[i].2.2 == 2) (some (.inl y_1072)) (cond (l[i].2.2 == 3) ((idx (Fs l.length (l.drop (i + 1))) l[i].2.1).bind fun e_1081 => some (.inl e_1081)) (cond (l[i].2.2 == 4) ((idx (Fs l.length (l.drop (i + 1))) l[i].2.1).bind fun e_1088 => some (.inl (ior .u32 e_1088 y_1072))) (some (.inl 0)))))) (some (.inl 0)) : Option (Int ⊕ (((List (List Int))) × Bool)))) = some (.inl (nearS (Fs l.length (l.drop (i + 1))) l[i])) := by
          unfold nearS
          by_cases k1 : l[i].2.2 = 1
          · rw [k1]; rfl
          · obtain ⟨b, e2, hb⟩ := hby k1
            have hbn := h.i.2 b hb
            have c1 : (l[i].2.2 != 1) = true := by simp [k1]
            rw [c1, cond_true, e2, inRange_eq, Option.bind_some, w64 (by omega) (by omega), decide_eq_true (show (0 : Int) ≤ (b : Int) by omega), decide_eq_true (show (b : Int) ≤ (l.length : Int) - 1 by omega), Bool.and_self, Bool.not_true, cond_false, vset_has_eq h.i.1 (by omega), Option.bind_some, hb, Bool.not_true, Option.bind_some, cond_false, impl_one_eq, Option.bind_some, hx b hb, Option.bind_some, Option.bind_some, Int.toNat_natCast]
            by_cases k2 : l[i].2.2 = 2
            · rw [if_pos k2, k2]; rfl
            · rw [if_neg k2, show (l[i].2.2 == 2) = false by simp [k2], cond_false]
              by_cases k3 : l[i].2.2 = 3
              · rw [if_pos k3, k3]; rfl
              · rw [if_neg k3, show (l[i].2.2 == 3) = false by simp [k3], cond_false]
                by_cases k4 : l[i].2.2 = 4
                · rw [if_pos k4, k4]; rfl
                · rw [if_neg k4, show (l[i].2.2 == 4) = false by simp [k4], cond_false]
        rw [hq, Option.bind_some]
        simp only [list_eq _ hS.1, Option.bind_some, e]
        rw [joins_then h16 h.f hS hvn hSv, ← eF, impl_one_eq, Option.bind_some]
      rw [loopF_more hst]
      rcases implG h16 hv hd i (by omega) _ hG with ⟨s', h1, h2, h3⟩ | ⟨h1, h2⟩
      · exact .inl ⟨s', (allTo_succ hil).2 ⟨h1, hok⟩, h2, h3⟩
      · exact .inr ⟨h1, fun hc => h2 ((allTo_succ hil).1 hc).1⟩
    · refine .inr ⟨loopF_done ?_, fun hc => hok ((allTo_succ hil).1 hc).2⟩
      unfold okI at hok
      have k1 : l[i].2.2 ≠ 1 := fun hc => hok (fun hk => absurd hc hk)
      have hnm : l[i].2.1 ∉ vsOf (l.drop (i + 1)) := fun hc => hok (fun _ => hc)
      have c1 : (l[i].2.2 != 1) = true := by simp [k1]
      unfold stepI
      simp only [h0, cond_true, idx_nat hil, Option.bind_some, c1, inRange_eq]
      rw [w64 (by omega) (by omega)]
      by_cases hr : 0 ≤ l[i].2.1 ∧ l[i].2.1 ≤ (l.length : Int) - 1
      · obtain ⟨b, e2⟩ : ∃ b : Nat, l[i].2.1 = b := ⟨l[i].2.1.toNat, by omega⟩
        have hb : has s b = false := by
          rw [Bool.eq_false_iff]; intro hc
          have := (h.mem b).1 hc
          rw [← e2] at this; exact hnm this
        simp only [decide_eq_true hr.1, decide_eq_true hr.2, Bool.and_self, Bool.not_true, cond_false]
        rw [e2, vset_has_eq h.i.1 (by omega), Option.bind_some, hb, Bool.not_false, Option.bind_some, cond_true]; rfl
      · have e5 : (decide ((0 : Int) ≤ l[i].2.1) && decide (l[i].2.1 ≤ (l.length : Int) - 1)) = false := by
          rw [Bool.eq_false_iff]
          intro hc
          rw [Bool.and_eq_true, decide_eq_true_eq, decide_eq_true_eq] at hc
          exact hr hc
        rw [e5, Bool.not_false, cond_true, Option.bind_some, cond_true]; rfl
end Go.Sx

/- 'laws.FnExactLastingStables' comes to true. Plain. -/
namespace Go.Sx
/-- what lasts: stable sets that are near all -/
def Lsts (g : List (List Int)) (K : Int) : Prop := In g.length K ∧ (∀ u w, has K u = true → has K w = true → ¬ adj g u w) ∧ ∀ w, w < g.length → has K w = true ∨ ∃ v, has K v = true ∧ adj g v w

structure LSt (g : List (List Int)) (l : List Int) : Prop where
  up : l.Pairwise (fun a b => skey a < skey b)
  mem : ∀ K, K ∈ l ↔ Lsts g K
theorem LSt.vs {g : List (List Int)} {l : List Int} (h : LSt g l) : ∀ s ∈ l, VS s := fun s hs => ((h.mem s).1 hs).1.1
theorem LSt.len {g : List (List Int)} {l : List Int} (hg : GOk g) (h : LSt g l) : l.length ≤ 65536 := masks_len hg.n16 (fun K hK => ((h.mem K).1 hK).1) (rise_nodup h.up)

end Go.Sx

/- 'laws.FnExactGrownBy' comes to true. Plain. -/
namespace Go.Sx
theorem into_nil (b : Int) : into [] b = [b] := rfl
theorem l18Grow_ok {n : Nat} (h1 : 1 ≤ n) (hn : n ≤ 16) {l : List Pr} {s : Int} (h : GI n l s) {p : Pr} {v : Nat} (e : p.1 = v) (hv : v < n) (hsv : has s v = false) (hk : 1 ≤ p.2.2 ∧ p.2.2 ≤ 4) (hby : p.2.2 ≠ 1 → ∃ b : Nat, p.2.1 = b ∧ has s b = true) :
    D.spec_l18Grow (grow (Fs n l)) p.1 p.2.1 p.2.2 = some (grow (Fs n (p :: l))) := by
  have hby' : needs p.2.2 → ∃ b : Nat, p.2.1 = b ∧ has s b = true := fun hk => hby (by rcases hk with hk | hk | hk <;> omega)
  obtain ⟨_, eF, hSv, h0⟩ := h.step hn e hv hsv hby'
  obtain ⟨hS, _⟩ := near_ok hn h hby'
  have hgl : (grow (Fs n l)).length = n := by rw [grow_len, h.f.len]
  have hg := GOk.grow h.f h1 hn
  have hrl : ∀ b, b < n → Sh (row (grow (Fs n l)) b) := fun b hb => hg.sh2.row (by omega)
  rw [eF]
  unfold D.spec_l18Grow
  have pre : ∃ l1, ((cond ((p.2.2 == 3) || (p.2.2 == 4)) ((idx (grow (Fs n l)) p.2.1).bind fun e_42 => (D.spec_l1Copy e_42).bind fun y_48 => some y_48) (some ([] : List Int)) : Option ((List Int)))) = some l1 ∧
      ((cond ((p.2.2 == 2) || (p.2.2 == 4)) ((D.spec_l1Into l1 p.2.1).bind fun y_86 => some y_86) (some l1) : Option ((List Int)))) = some (elems (nearS (Fs n l) p)) := by
    unfold nearS
    by_cases k1 : p.2.2 = 1
    · rw [k1]
      exact ⟨[], rfl, by rw [if_neg (by omega), if_neg (by omega), if_neg (by omega), elems_zero]; rfl⟩
    · obtain ⟨b, e2, hb⟩ := hby k1
      have hbn := h.i.2 b hb
      have hro : row (grow (Fs n l)) b = elems ((Fs n l).getD b 0) := row_grow _ _
      rw [e2, Int.toNat_natCast, idx_row (show b < (grow (Fs n l)).length by omega), Option.bind_some, l1Copy_eq _ (hrl b hbn), Option.bind_some]
      have hel := elems_len ((Fs n l).getD b 0)
      rcases (show p.2.2 = 2 ∨ p.2.2 = 3 ∨ p.2.2 = 4 by omega) with k | k | k
      · rw [k]
        refine ⟨[], rfl, ?_⟩
        show ((D.spec_l1Into [] (b : Int)).bind fun y_86 => some y_86) = _
        rw [l1Into_eq [] _ (by simp [Inc]) (by simp), Option.bind_some, if_pos rfl]
        congr 1
        refine Inc.ext (by rw [into_nil]; simp [Inc]) (elems_inc _) (fun z => ?_)
        rw [into_nil, List.mem_singleton, mem_elems]
        constructor
        · rintro rfl; exact ⟨b, by omega, by rw [has_one (by omega)]; simp, rfl⟩
        · rintro ⟨w, _, hw, rfl⟩
          rw [has_one (by omega)] at hw
          rw [of_decide_eq_true hw]
      · rw [k]
        refine ⟨_, rfl, ?_⟩
        rw [if_neg (by omega), if_pos rfl, hro]; rfl
      · rw [k]
        refine ⟨_, rfl, ?_⟩
        show ((D.spec_l1Into (row (grow (Fs n l)) b) (b : Int)).bind fun y_86 => some y_86) = _
        rw [hro, l1Into_eq _ _ (elems_inc _) (by omega), Option.bind_some, if_neg (by omega), if_neg (by omega), if_pos rfl]
        congr 1
        refine Inc.ext ((elems_inc _).into _) (elems_inc _) (fun z => ?_)
        rw [mem_into, mem_elems, mem_elems]
        constructor
        · rintro (rfl | ⟨w, h3, h4, rfl⟩)
          · exact ⟨b, by omega, by rw [has_ior (h.f.vs b hbn) (VS.ishl _ _), has_one (by omega)]; simp, rfl⟩
          · exact ⟨w, h3, by rw [has_ior (h.f.vs b hbn) (VS.ishl _ _), h4]; rfl, rfl⟩
        · rintro ⟨w, h3, h4, rfl⟩
          rw [has_ior (h.f.vs b hbn) (VS.ishl _ _), has_one (by omega), Bool.or_eq_true] at h4
          rcases h4 with h4 | h4
          · exact .inr ⟨w, h3, h4, rfl⟩
          · exact .inl (by rw [of_decide_eq_true h4])
  obtain ⟨l1, e3, e4⟩ := pre
  rw [e3, Option.bind_some, e4, Option.bind_some, e, idx_row (show v < (grow (Fs n l)).length by omega), Option.bind_some, Int.toNat_natCast]
  obtain ⟨y, e5, rfl⟩ := grow_then (k := fun r => some r) (Q := fun r => r = grow (joinF n (Fs n l) v (nearS (Fs n l) p))) h1 hn h.f hS hv hSv h0 ⟨_, rfl, rfl⟩
  exact e5

theorem into_elems {s : Int} (hs : VS s) {v : Nat} (hv : v < 32) : into (elems s) (v : Int) = elems (ior .u32 s (ishl .u32 1 (v : Int))) := by
  refine Inc.ext ((elems_inc _).into _) (elems_inc _) (fun z => ?_)
  rw [mem_into, mem_elems, mem_elems]
  constructor
  · rintro (rfl | ⟨w, h3, h4, rfl⟩)
    · exact ⟨v, hv, by rw [has_ior hs (VS.ishl _ _), has_one hv]; simp, rfl⟩
    · exact ⟨w, h3, by rw [has_ior hs (VS.ishl _ _), h4]; rfl, rfl⟩
  · rintro ⟨w, h3, h4, rfl⟩
    rw [has_ior hs (VS.ishl _ _), has_one hv, Bool.or_eq_true] at h4
    rcases h4 with h4 | h4
    · exact .inr ⟨w, h3, h4, rfl⟩
    · exact .inl (by rw [of_decide_eq_true h4])

theorem specG {l : List Pr} (h1 : 1 ≤ l.length) (h16 : l.length ≤ 16) : ∀ i, i ≤ l.length → ∀ s, GI l.length (l.drop i) s →
    (∃ s', allTo (okS l.length) l i ∧ loopF (stepS l) (elems s, (i : Int) - 1, grow (Fs l.length (l.drop i))) = some (.inl (grow (Fs l.length l))) ∧ GI l.length l s') ∨ (loopF (stepS l) (elems s, (i : Int) - 1, grow (Fs l.length (l.drop i))) = some (.inr ([], false)) ∧ ¬ allTo (okS l.length) l i)
  | 0, _, s, h => by
    rw [List.drop_zero] at h ⊢
    exact .inl ⟨s, fun j _ hj => by omega, loopF_done (by unfold stepS; rfl), h⟩
  | i + 1, hi, s, h => by
    have hil : i < l.length := by omega
    have hdr := List.drop_eq_getElem_cons hil
    have ei : (((i + 1 : Nat) : Int) - 1) = (i : Int) := by omega
    have hwi : IntKind.i64.wrap ((i : Int) - 1) = (i : Int) - 1 := w64 (by omega) (by omega)
    have h0 : decide ((0 : Int) ≤ (i : Int)) = true := decide_eq_true (by omega)
    have hel := elems_len s
    have hsh : Sh (elems s) := by unfold Sh; omega
    have hm : ∀ x : Int, x ∈ elems s ↔ (0 ≤ x ∧ x ∈ vsOf (l.drop (i + 1))) := fun x => by
      rw [mem_elems]
      constructor
      · rintro ⟨w, _, hw, rfl⟩; exact ⟨by omega, (h.mem w).1 hw⟩
      · rintro ⟨hx0, hx⟩
        obtain ⟨c, rfl, hc⟩ := mem_has h hx hx0
        exact ⟨c, by have := h.i.2 c hc; omega, hc, rfl⟩
    rw [ei]
    -- the condition
    have hcond : ∀ {β : Type} (K : Bool → Option β), (((D.spec_l1In l[i].1 0 (IntKind.i64.wrap ((l.length : Int) - 1))).bind fun y_622 => (cond (!y_622) (some true) ((D.spec_l1Has (elems s) l[i].1).bind fun y_648 => some y_648)).bind fun b_646 => (cond b_646 (some true) ((D.spec_l1In l[i].2.2 1 4).bind fun y_674 => some (!y_674))).bind fun b_672 => (cond (b_672 || ((l[i].2.1 == (-1)) != (l[i].2.2 == 1))) (some true) ((cond (l[i].2.1 != (-1)) ((D.spec_l1Has (elems s) l[i].2.1).bind fun y_760 => some (!y_760)) (some false)).bind fun b_758 => some b_758)).bind fun b_739 => K b_739)) =
        K (!((decide (0 ≤ l[i].1) && decide (l[i].1 ≤ (l.length : Int) - 1)) && !decide (l[i].1 ∈ elems s) && (decide (1 ≤ l[i].2.2) && decide (l[i].2.2 ≤ 4)) && ((l[i].2.1 == (-1)) == (l[i].2.2 == 1)) && (!(l[i].2.1 != (-1)) || decide (l[i].2.1 ∈ elems s)))) := by
      intro β K
      rw [l1In_eq, l1In_eq, w64 (by omega) (by omega), l1Has_eq _ _ hsh, l1Has_eq _ _ hsh]
      simp only [Option.bind_some]
      cases (decide (0 ≤ l[i].1) && decide (l[i].1 ≤ (l.length : Int) - 1)) <;> cases decide (l[i].1 ∈ elems s) <;> cases (decide (1 ≤ l[i].2.2) && decide (l[i].2.2 ≤ 4)) <;> cases (l[i].2.1 == (-1)) <;> cases (l[i].2.2 == 1) <;> cases (l[i].2.1 != (-1)) <;> cases decide (l[i].2.1 ∈ elems s) <;> rfl
    have hiff : ((decide (0 ≤ l[i].1) && decide (l[i].1 ≤ (l.length : Int) - 1)) && !decide (l[i].1 ∈ elems s) && (decide (1 ≤ l[i].2.2) && decide (l[i].2.2 ≤ 4)) && ((l[i].2.1 == (-1)) == (l[i].2.2 == 1)) && (!(l[i].2.1 != (-1)) || decide (l[i].2.1 ∈ elems s))) = true ↔ okS l.length l[i] (l.drop (i + 1)) := by
      unfold okS
      simp only [Bool.and_eq_true, decide_eq_true_eq, Bool.not_eq_true', decide_eq_false_iff_not, Bool.or_eq_true, hm, beq_iff_eq, bne_eq_false_iff_eq]
      have hB : ((l[i].2.1 == (-1)) = (l[i].2.2 == 1)) ↔ (l[i].2.1 = -1 ↔ l[i].2.2 = 1) := by
        rw [Bool.eq_iff_iff, beq_iff_eq, beq_iff_eq]
      rw [hB]
      have hpos : ∀ x ∈ vsOf (l.drop (i + 1)), (∃ w : Nat, x = w ∧ w < 32) ∨ x < 0 ∨ 32 ≤ x := fun x _ => by
        by_cases hx : 0 ≤ x ∧ x < 32
        · exact .inl ⟨x.toNat, by omega, by omega⟩
        · right; omega
      constructor
      · rintro ⟨⟨⟨⟨a1, a2⟩, a3⟩, a4⟩, a5⟩
        refine ⟨⟨a1.1, by omega⟩, fun hc => a2 ⟨a1.1, hc⟩, a3, a4, fun hne => ?_⟩
        rcases a5 with a5 | a5
        · exact absurd a5 hne
        · exact a5.2
      · rintro ⟨a1, a2, a3, a4, a5⟩
        refine ⟨⟨⟨⟨⟨a1.1, by omega⟩, fun hc => a2 hc.2⟩, a3⟩, a4⟩, ?_⟩
        by_cases hne : l[i].2.1 = -1
        · exact .inl hne
        · right
          have hb := a5 hne
          refine ⟨?_, hb⟩
          -- what is there is no negative number
          have hall : ∀ x ∈ vsOf (l.drop (i + 1)), 0 ≤ x := fun x hx => by
            apply Classical.byContradiction
            intro hneg
            exact hneg (h.nonneg x hx)
          exact hall _ hb
    have hst : stepS l (elems s, (i : Int), grow (Fs l.length (l.drop (i + 1)))) = cond (!((decide (0 ≤ l[i].1) && decide (l[i].1 ≤ (l.length : Int) - 1)) && !decide (l[i].1 ∈ elems s) && (decide (1 ≤ l[i].2.2) && decide (l[i].2.2 ≤ 4)) && ((l[i].2.1 == (-1)) == (l[i].2.2 == 1)) && (!(l[i].2.1 != (-1)) || decide (l[i].2.1 ∈ elems s)))) (some (.inr (.inr (([] : List (List Int)), false)))) ((D.spec_l18Grow (grow (Fs l.length (l.drop (i + 1)))) l[i].1 l[i].2.1 l[i].2.2).bind fun y_773 => (D.spec_l1Into (elems s) l[i].1).bind fun y_782 => some (.inl (y_782, (i : Int) - 1, y_773))) := by
      unfold stepS
      simp only [h0, cond_true, idx_nat hil, Option.bind_some, hwi]
      exact hcond _
    by_cases hok : okS l.length l[i] (l.drop (i + 1))
    · rw [hiff.2 hok, Bool.not_true, cond_false] at hst
      obtain ⟨a1, a2, a3, a4, a5⟩ := hok
      obtain ⟨v, e⟩ : ∃ v : Nat, l[i].1 = v := ⟨l[i].1.toNat, by omega⟩
      have hvn : v < l.length := by omega
      have hsv : has s v = false := by
        rw [Bool.eq_false_iff]; intro hc; exact a2 (by rw [e]; exact (h.mem v).1 hc)
      have hby : l[i].2.2 ≠ 1 → ∃ b : Nat, l[i].2.1 = b ∧ has s b = true := fun hk => by
        have hb := a5 (fun hc => hk (a4.1 hc))
        exact mem_has h hb (h.nonneg _ hb)
      obtain ⟨hG, _⟩ := h.step h16 e hvn hsv (fun hk => hby (by rcases hk with hk | hk | hk <;> omega))
      rw [l18Grow_ok h1 h16 h e hvn hsv a3 hby, Option.bind_some, e, l1Into_eq _ _ (elems_inc _) (by omega), Option.bind_some, into_elems h.i.1 (by omega), ← hdr] at hst
      rw [← hdr] at hG
      rw [loopF_more hst]
      rcases specG h1 h16 i (by omega) _ hG with ⟨s', k1, k2, k3⟩ | ⟨k1, k2⟩
      · exact .inl ⟨s', (allTo_succ hil).2 ⟨k1, ⟨a1, a2, a3, a4, a5⟩⟩, k2, k3⟩
      · exact .inr ⟨k1, fun hc => k2 ((allTo_succ hil).1 hc).1⟩
    · have : ((decide (0 ≤ l[i].1) && decide (l[i].1 ≤ (l.length : Int) - 1)) && !decide (l[i].1 ∈ elems s) && (decide (1 ≤ l[i].2.2) && decide (l[i].2.2 ≤ 4)) && ((l[i].2.1 == (-1)) == (l[i].2.2 == 1)) && (!(l[i].2.1 != (-1)) || decide (l[i].2.1 ∈ elems s))) = false := by
        rw [Bool.eq_false_iff]; intro hc; exact hok (hiff.1 hc)
      rw [this, Bool.not_false, cond_true] at hst
      exact .inr ⟨loopF_done hst, fun hc => hok ((allTo_succ hil).1 hc).2⟩
end Go.Sx

/- 'laws.FnExactGrownBy' comes to true. Plain. -/
namespace Go.Sx
theorem allP_each {α : Type} {ok : α → Int → Prop} {nx : α → Int → Int} : ∀ {l : List α} {s : Int}, allP ok nx l s → ∀ p ∈ l, ∃ s', ok p s'
  | [], _, _, p, hp => by simp at hp
  | q :: l, s, h, p, hp => by
    rcases List.mem_cons.1 hp with rfl | hp
    · exact ⟨s, h.1⟩
    · exact allP_each h.2 p hp
theorem vs_drop {l : List Pr} {i : Nat} : vsOf (l.drop i) = (vsOf l).drop i := by unfold vsOf; rw [List.map_drop]
/-- the vertices of the list are all vertices -/
def VOk (l : List Pr) : Prop := (∀ j (h : j < l.length), 0 ≤ l[j].1 ∧ l[j].1 < l.length) ∧ (vsOf l).Nodup
theorem nodup_rev {l : List Int} : l.Nodup ↔ ∀ i (hi : i < l.length), l[i] ∉ l.drop (i + 1) := by
  constructor
  · intro h i hi hm
    have h2 : (l.drop i).Nodup := List.Pairwise.sublist (List.drop_sublist _ _) h
    rw [List.drop_eq_getElem_cons hi, List.nodup_cons] at h2
    exact h2.1 hm
  · intro h
    refine List.pairwise_iff_getElem.2 (fun i j hi hj hij e => h i hi ?_)
    rw [e]
    exact List.mem_drop_iff_getElem.2 ⟨j - (i + 1), by omega, by congr 1; omega⟩
theorem bind_of {α β : Type} {e : Option α} {x : α} (h : e = some x) (k : α → Option β) : e.bind k = k x := by rw [h]; rfl
theorem vok_of {l : List Pr} (h : allTo (okS l.length) l l.length) : VOk l := by
  refine ⟨fun j hj => (h j hj hj).1, ?_⟩
  rw [nodup_rev]
  intro i hi
  have hil : i < l.length := by simpa [vsOf] using hi
  have := (h i hil hil).2.1
  rw [vs_drop] at this
  have e : (vsOf l)[i] = l[i].1 := by simp [vsOf]
  rw [e]; exact this

theorem vs_len (l : List Pr) : (vsOf l).length = l.length := by simp [vsOf]
theorem increasing_vs {l : List Pr} (h16 : l.length ≤ 16) : ∃ b, ((D.slices_Sorted_int64 (vsOf l)).bind fun y => (D.impl_increasing y (l.length : Int)).bind fun y => some (!y)) = some (!b) ∧ (b = true ↔ VOk l) := by
  obtain ⟨y, h1, h2, h3⟩ := sorted_spec (vsOf l) (by rw [vs_len]; exact h16)
  have hyl := h2.length_eq
  rw [vs_len] at hyl
  refine ⟨setB y l.length, ?_, ?_⟩
  · rw [h1, Option.bind_some, increasing_eq y _ (by unfold Sh; omega) (by omega) (by omega)]; rfl
  · rw [setB_iff]
    constructor
    · rintro ⟨k1, k2⟩
      refine ⟨fun j hj => k2 _ (h2.mem_iff.2 ?_), h2.nodup_iff.1 ?_⟩
      · exact List.mem_map.2 ⟨l[j], List.getElem_mem hj, rfl⟩
      · exact List.Pairwise.imp (fun h e => by omega) k1
    · rintro ⟨k1, k2⟩
      refine ⟨sorted_inc h3 (h2.nodup_iff.2 k2), fun x hx => ?_⟩
      obtain ⟨q, hq, rfl⟩ := List.mem_map.1 (h2.mem_iff.1 hx)
      obtain ⟨j, hj, rfl⟩ := List.getElem_of_mem hq
      exact k1 j hj

theorem okI_of {l : List Pr} (h : allTo (okS l.length) l l.length) : allTo okI l l.length := fun j hj hji hk => by
  obtain ⟨_, _, _, a4, a5⟩ := h j hj hji
  exact a5 (fun hc => hk (a4.1 hc))
/-- what is accepted was grown right -/
theorem okS_of {l : List Pr} {g : List (List Int)} {s : Int} (hv : VOk l) (hi : allTo okI l l.length) (h : allP (okP g) nxP l s) : allTo (okS l.length) l l.length := fun j hj hji => by
  obtain ⟨s', v, e, _, hc⟩ := allP_each h l[j] (List.getElem_mem hj)
  have hnot : l[j].1 ∉ vsOf (l.drop (j + 1)) := by
    rw [vs_drop]
    have := nodup_rev.1 hv.2 j (by rw [vs_len]; exact hj)
    have e2 : (vsOf l)[j]'(by rw [vs_len]; exact hj) = l[j].1 := by simp [vsOf]
    rwa [e2] at this
  have hok := hi j hj hji
  unfold canB at hc
  by_cases k1 : l[j].2.2 = 1
  · rw [if_pos k1] at hc
    exact ⟨hv.1 j hj, hnot, by omega, ⟨fun _ => k1, fun _ => hc.1⟩, fun hne => absurd hc.1 hne⟩
  · rw [if_neg k1] at hc
    obtain ⟨u, e3, _, _, hk⟩ := hc
    refine ⟨hv.1 j hj, hnot, ?_, ⟨fun h => by omega, fun h => absurd h k1⟩, fun _ => hok k1⟩
    rcases hk with ⟨k, _⟩ | ⟨k, _⟩ | ⟨k, _⟩ <;> omega

theorem makeD_nil (n : Nat) (hn : n ≤ 4294967296) : makeD (([] : (List Int)) : (List Int)) (n : Int) (n : Int) = some (List.replicate n []) := makeD_ok (by omega) (by omega)
theorem grow_nil (n : Nat) : grow (Fs n []) = List.replicate n [] := by
  unfold Fs grow
  rw [List.map_replicate, elems_zero]

theorem GrownBy_both {l : List Pr} (hl : l.length ≤ 4294967295) : ∃ L b, D.spec_GrownBy l = some (L, b) ∧ D.impl_GrownBy l = some (L, b) ∧ Sh2 L ∧ tot L ≤ 4294967296 := by
  have hnil : Sh2 ([] : List (List Int)) ∧ tot ([] : List (List Int)) ≤ 4294967296 := ⟨⟨by simp [Sh], by simp⟩, by simp [tot]⟩
  -- the vertices are gathered
  have hgath : ∀ {β : Type} (k : List Int → Option β), (loopF (σ := (List Int) × Int) (ρ := ((List Int))) (fun (s_52 : (List Int) × Int) => match s_52 with | (l_55, x_60) => cond (decide (x_60 < (l.length : Int))) ((idx l x_60).bind fun e_87 => (appendD l_55 ([e_87.1] : List Int)).bind fun l_97 => some (.inl (l_97, (IntKind.i64.wrap (x_60 + 1))))) (some (.inr l_55))) (([] : List Int), 0)).bind k = k (vsOf l) := fun k => by
    refine loop_map l (fun s i => (s, i)) (fun p => p.1) (by omega) (fun s i hi _ => ?_) (fun s => ?_)
    · simp only [dlt hi, cond_true, idx_nat hi, Option.bind_some, wi (show i < 4611686018427387904 by omega)]
    · simp only [dnlt, cond_false]
  unfold D.spec_GrownBy D.impl_GrownBy
  rw [hgath, l1In_eq, Option.bind_some]
  by_cases hn : 1 ≤ l.length ∧ l.length ≤ 16
  · obtain ⟨h1, h16⟩ := hn
    have e1 : (decide ((1 : Int) ≤ (l.length : Int)) && decide ((l.length : Int) ≤ 16)) = true := by
      rw [decide_eq_true (show (1 : Int) ≤ (l.length : Int) by omega), decide_eq_true (show (l.length : Int) ≤ 16 by omega)]; rfl
    have e2 : (decide ((l.length : Int) < 1) || decide ((16 : Int) < (l.length : Int))) = false := by
      rw [decide_eq_false (show ¬ (l.length : Int) < 1 by omega), decide_eq_false (show ¬ (16 : Int) < (l.length : Int) by omega)]; rfl
    obtain ⟨b, e3, hb⟩ := increasing_vs h16
    rw [e1, Bool.not_true, cond_false, e2, cond_false, e3, Option.bind_some, makeD_nil l.length (by omega), Option.bind_some, makeD_ok (z := (0 : Int)) (by omega) (by omega)]
    have hw1 : IntKind.i64.wrap ((l.length : Int) - 1) = (l.length : Int) - 1 := w64 (by omega) (by omega)
    have hG0 : GI l.length (l.drop l.length) 0 := by rw [List.drop_length]; exact GI.nil _
    have hS := specG h1 h16 l.length (Nat.le_refl _) 0 hG0
    rw [List.drop_length, grow_nil, elems_zero, ← hw1] at hS
    have hdone : ∀ s', GI l.length l s' → Sh2 (grow (Fs l.length l)) ∧ tot (grow (Fs l.length l)) ≤ 4294967296 := fun s' h => by
      have hg := GOk.grow h.f h1 h16
      have hgl : (grow (Fs l.length l)).length = l.length := by rw [grow_len, h.f.len]
      have := tot_le (xs := grow (Fs l.length l)) (n := 16) (fun x hx => by have := (hg.mem0 hx).1; omega)
      exact ⟨hg.sh2, by omega⟩
    have hI : VOk l → _ := fun hv => implG h16 hv.1 hv.2 l.length (Nat.le_refl _) 0 hG0
    rw [List.drop_length, ← hw1] at hI
    rcases hS with ⟨s', hall, hS, hGS⟩ | ⟨hS, hnot⟩
    · have hv := vok_of hall
      obtain ⟨hsh, htot⟩ := hdone s' hGS
      obtain ⟨r, p1, p2, _⟩ := PrunesOk_both hsh (show l.length ≤ 4294967296 by omega)
      have hbt : b = true := hb.2 hv
      rcases hI hv with ⟨s2, _, hI, _⟩ | ⟨_, hno⟩
      · have hgr : D.impl_nets_graph__deep (Fs l.length l) = some (grow (Fs l.length l)) := nets_graph_eq _ (by rw [hGS.f.len]; exact h16) (fun u hu => hGS.f.vs u (by rw [hGS.f.len] at hu; exact hu))
        refine ⟨cond (!r) [] (grow (Fs l.length l)), r, ?_, ?_, ?_, ?_⟩
        · refine (bind_of hS _).trans ?_
          simp only [Option.bind_some, p1]
          cases r <;> rfl
        · rw [hbt, Bool.not_true, cond_false, Option.bind_some]
          refine (bind_of hI _).trans ?_
          simp only [Option.bind_some, hgr, p2]
          cases r <;> rfl
        · cases r
          · exact hnil.1
          · exact hsh
        · cases r
          · exact hnil.2
          · exact htot
      · exact absurd (okI_of hall) hno
    · refine ⟨[], false, ?_, ?_, hnil⟩
      · refine (bind_of hS _).trans ?_
        rfl
      · by_cases hv : VOk l
        · rw [hb.2 hv, Bool.not_true, cond_false, Option.bind_some]
          rcases hI hv with ⟨s2, hok, hI, hGI⟩ | ⟨hI, _⟩
          · obtain ⟨hsh, htot⟩ := hdone s2 hGI
            obtain ⟨r, p1, p2, hr⟩ := PrunesOk_both hsh (show l.length ≤ 4294967296 by omega)
            have hgr : D.impl_nets_graph__deep (Fs l.length l) = some (grow (Fs l.length l)) := nets_graph_eq _ (by rw [hGI.f.len]; exact h16) (fun u hu => hGI.f.vs u (by rw [hGI.f.len] at hu; exact hu))
            refine (bind_of hI _).trans ?_
            simp only [Option.bind_some, hgr, p2]
            cases r
            · rfl
            · exact absurd (okS_of hv hok (hr.1 rfl).2.2) hnot
          · refine (bind_of hI _).trans ?_
            rfl
        · have : b = false := by rw [Bool.eq_false_iff]; intro hc; exact hv (hb.1 hc)
          rw [this]; rfl
  · have e1 : (decide ((1 : Int) ≤ (l.length : Int)) && decide ((l.length : Int) ≤ 16)) = false := by
      rw [Bool.eq_false_iff]; intro hc
      rw [Bool.and_eq_true, decide_eq_true_eq, decide_eq_true_eq] at hc
      omega
    have e2 : (decide ((l.length : Int) < 1) || decide ((16 : Int) < (l.length : Int))) = true := by
      rw [Bool.or_eq_true, decide_eq_true_eq, decide_eq_true_eq]; omega
    rw [e1, e2]
    exact ⟨[], false, rfl, rfl, hnil⟩

/-! ### the rest of the law -/
theorem toPruneS_eq (l : List Pr) (hl : l.length ≤ 4294967295) : D.laws_toPruneS l = some l := by
  unfold D.laws_toPruneS
  rw [makeD_ok (by omega) (by omega), Option.bind_some]
  refine (loop_set l (List.replicate l.length ((0, 0, 0) : Pr)) (by simp) (fun s i => (s, i)) l rfl (fun s i hi hs => ?_) ?_).trans rfl
  · simp only [dlt hi, cond_true, idx_nat hi, Option.bind_some, idx_nat (show i < s.length by omega), Int.toNat_natCast, wi (show i < 4611686018427387904 by omega), D.laws_toPrune]
  · simp only [dnlt, cond_false]
theorem eqPruneS_self (l : List Pr) (hl : l.length ≤ 4294967295) : D.laws_eqPruneS l l = some true := by
  unfold D.laws_eqPruneS
  have e : ((l.length : Int) != (l.length : Int)) = false := by simp
  rw [e, cond_false]
  refine (loop_to (fun i => ((i : Nat) : Int)) l.length (.inl ()) rfl (fun i hi => ?_) ?_).trans rfl
  · simp only [dlt hi, cond_true, idx_nat hi, Option.bind_some, D.laws_eqPrune, bne_self_eq_false, cond_false, Bool.not_true, wi (show i < 4611686018427387904 by omega)]
  · simp only [dnlt, cond_false]
theorem markPruneS_ok (l : List Pr) (hl : l.length ≤ 4294967295) : ∃ y, D.laws_markPruneS l 1 = some y ∧ 0 ≤ y.1 := by
  unfold D.laws_markPruneS
  refine loop_then (fun s => ∃ i : Nat, s.2.2 = (i : Int) ∧ i ≤ l.length ∧ s.1.length = l.length ∧ s.2.1 = 1 + 3 * (i : Int)) (fun s => l.length - s.2.2.toNat) (fun r => 0 ≤ r.2) ?_ ⟨0, rfl, by omega, rfl, rfl⟩ (fun r hr => ⟨_, rfl, hr⟩)
  rintro ⟨X, k, _⟩ ⟨i, rfl, hi, hX, hk⟩
  dsimp only at hX hk ⊢
  subst hk
  by_cases hil : i < X.length
  · have a1 : IntKind.i64.wrap (1 + 3 * (i : Int) + 1) = 1 + 3 * (i : Int) + 1 := w64 (by omega) (by omega)
    have a2 : IntKind.i64.wrap (1 + 3 * (i : Int) + 1 + 1) = 1 + 3 * (i : Int) + 1 + 1 := w64 (by omega) (by omega)
    have a3 : IntKind.i64.wrap (1 + 3 * (i : Int) + 1 + 1 + 1) = 1 + 3 * (i : Int) + 1 + 1 + 1 := w64 (by omega) (by omega)
    have l1 : ∀ x : Pr, i < (X.set i x).length := fun x => by simpa using hil
    have l2 : ∀ x y : Pr, i < ((X.set i x).set i y).length := fun x y => by simpa using hil
    simp only [dlt hil, cond_true, idx_nat hil, Option.bind_some, Int.toNat_natCast, a1, a2, a3, idx_nat (l1 _), idx_nat (l2 _ _), wi (show i < 4611686018427387904 by omega)]
    exact ⟨_, rfl, ⟨i + 1, rfl, by omega, by simp [hX], by dsimp only; omega⟩, by dsimp only; omega⟩
  · have hd : decide ((i : Int) < (X.length : Int)) = false := decide_eq_false (by omega)
    simp only [hd, cond_false]
    exact ⟨_, rfl, show (0 : Int) ≤ 1 + 3 * (i : Int) by omega⟩

theorem FnExactGrownBy_true (l : List Pr) (hx : (l.length : Int) ≤ 9223372036854775807) : D.laws_FnExactGrownBy l = some true := by
  unfold D.laws_FnExactGrownBy D.laws_szPruneS
  rw [w64 (x := 1048576 - (l.length : Int)) (by omega) (by omega)]
  by_cases hs : 1048576 - (l.length : Int) < 0
  · rw [decide_eq_true hs]; rfl
  · have hl : l.length ≤ 4294967295 := by omega
    rw [decide_eq_false hs, cond_false, Option.bind_some, decide_eq_false hs, cond_false]
    obtain ⟨L, b, e1, e2, h2, h3⟩ := GrownBy_both hl
    obtain ⟨y, e3, hy⟩ := markPruneS_ok l hl
    have n1 := tot_nonneg L
    have d1 : decide (y.1 < 0) = false := decide_eq_false (by omega)
    have d2 : decide (1 + tot L < 0) = false := decide_eq_false (by omega)
    have hheld : D.laws_heldGraph (marked 1 L) 1 = some (1 + tot L) := by
      unfold D.laws_heldGraph
      rw [heldSS_eq L 1 h2 (by omega) (by omega), Option.bind_some, d2]; rfl
    simp only [toPruneS_eq l hl, e1, e2, Option.bind_some, eqGraph_eq L L h2, decide_true, Bool.not_true, bne_self_eq_false, Bool.or_self, cond_false, eqPruneS_self l hl, e3, d1, markGraph_eq L 1 h2 (by omega) (by omega), hheld, d2]
end Go.Sx

/- Rows of records that came in. -/
namespace Go.Sx
open Go.RowKit Go.ChangeShapes Go.WideShapes Go.Deep
section
variable {H : Type} {enc : TypeId × Value → H} {P : Program} {w : World} {base : Nat} {spare : Nat → Bool} {held : Bool}
theorem add_add' (a : Addr) (i j : Nat) : (a.add i).add j = a.add (i + j) := by
  obtain ⟨b, o, s⟩ := a
  unfold Addr.add
  by_cases hi : i = 0
  · subst hi; simp
  · by_cases hj : j = 0
    · subst hj; simp
    · rw [if_neg hj, if_neg hi, if_neg (by omega)]
      simp; omega
theorem int_cell {t : TypeId} {n : Nat} {cs : List Value} {y : DataW H × List MemPlace} (ht : P.underlying t = some (.int .i64)) (hl : cs.length = 1) (h : DataW.trod enc P w base spare held n t cs = some y) : ∃ z : Int, cs = [.int .i64 z] := by
  match cs, hl with
  | [v], _ =>
    obtain ⟨z, hz⟩ := Opens.int (enc := enc) (w := w) (base := base) (spare := spare) (held := held) ht n v y h
    exact ⟨z, by rw [hz]⟩
theorem opens_rec3 {e : TypeId} {f0 f1 f2 : Field} {n : Nat} {cs : List Value} {y : DataW H × List MemPlace} (he : P.underlying e = some (.struct #[f0, f1, f2])) (hn : P.cellsOf e = 3)
    (o0 : f0.offset = 0) (o1 : f1.offset = 1) (o2 : f2.offset = 2) (c0 : P.cellsOf f0.type = 1) (c1 : P.cellsOf f1.type = 1) (c2 : P.cellsOf f2.type = 1)
    (t0 : P.underlying f0.type = some (.int .i64)) (t1 : P.underlying f1.type = some (.int .i64)) (t2 : P.underlying f2.type = some (.int .i64))
    (h : DataW.trod enc P w base spare held n e cs = some y) : ∃ x, cs = P3.enc x := by
  obtain ⟨y0, y1, y2, m, _, hl, h0, h1, h2⟩ := trod_struct3 he h
  rw [hn] at hl
  match cs, hl with
  | [a, b, c], _ =>
    rw [o0, c0] at h0
    rw [o1, c1] at h1
    rw [o2, c2] at h2
    obtain ⟨p, hp⟩ := int_cell t0 rfl h0
    obtain ⟨q, hq⟩ := int_cell t1 rfl h1
    obtain ⟨r, hr⟩ := int_cell t2 rfl h2
    simp at hp hq hr
    exact ⟨(p, q, r), by rw [hp, hq, hr]; rfl⟩
theorem Opens.rows {α : Type} {E : Rec α} {t e : TypeId} (ht : P.underlying t = some (.slice e)) (hc : P.cellsOf e = E.m) (hE : ∀ n cs y, DataW.trod enc P w base spare held n e cs = some y → ∃ x, cs = E.enc x) : Opens enc P w base spare held t (RSr E) := by
  intro fuel v y h
  rcases open_slice ht h with ⟨h1, _⟩ | ⟨a, len, cap, m, n, D, Pl, h1, hb, hl, hm, hmm, hy, hx⟩
  · simp at h1; subst h1; exact ⟨[], RSr.nil _ _⟩
  · simp at h1; subst h1
    have hlm : len ≤ m := by rw [hmm]; split <;> omega
    rw [hc] at hx
    have hch : ∀ i, i < len → ∃ z, w.cells? base (a.add (i * E.m)) E.m = some (E.enc z) := fun i hi => by
      obtain ⟨cs', k1, k2⟩ := hx i (by omega)
      obtain ⟨z, rfl⟩ := hE n cs' _ k2
      exact ⟨z, k1⟩
    have : ∃ xs : List α, xs.length = len ∧ ∀ (i : Nat) x, xs[i]? = some x → w.cells? base (a.add (i * E.m)) E.m = some (E.enc x) := by
      clear hmm hx hb hl hm hlm h hy
      induction len with
      | zero => exact ⟨[], rfl, by simp⟩
      | succ k ih =>
        obtain ⟨xs, h1, h2⟩ := ih (fun i hi => hch i (by omega))
        obtain ⟨z, hz⟩ := hch k (by omega)
        refine ⟨xs ++ [z], by simp [h1], fun i x hi => ?_⟩
        rw [List.getElem?_append] at hi
        split at hi
        · exact h2 i x hi
        · rename_i hlt
          have hi0 : i - xs.length = 0 := by
            rcases Nat.eq_zero_or_pos (i - xs.length) with h | h
            · exact h
            · rw [List.getElem?_eq_none (by simp; omega)] at hi; cases hi
          rw [hi0] at hi
          simp at hi; subst hi
          obtain rfl : i = k := by omega
          exact hz
    obtain ⟨xs, hxl, hxs⟩ := this
    have hcell : ∀ (k : Nat) (c : Value), (xs.flatMap E.enc)[k]? = some c → w.cell? (a.add k) = some c := fun k c hk => by
      have hkl := (List.getElem?_eq_some_iff.1 hk).1
      rw [E.size] at hkl
      have hq : k / E.m < xs.length := Nat.div_lt_of_lt_mul (by rw [Nat.mul_comm]; exact hkl)
      have hr := Nat.mod_lt k E.pos
      have hd := Nat.div_add_mod k E.m
      have hcs := (World.cells?_some (hxs (k / E.m) xs[k / E.m] (by simp [hq]))).2.2 (k % E.m) hr
      have hg := E.get xs (k / E.m) xs[k / E.m] (k % E.m) ((E.enc xs[k / E.m])[k % E.m]'(by rw [E.len]; exact hr)) (by simp [hq]) (by simp)
      rw [show k / E.m * E.m + k % E.m = k by rw [Nat.mul_comm]; exact hd] at hg
      rw [hg] at hk
      cases hk
      have e2 : (a.add (k / E.m * E.m)).add (k % E.m) = a.add k := by
        have : k / E.m * E.m + k % E.m = k := by rw [Nat.mul_comm]; exact hd
        exact (add_add' a _ _).trans (congrArg a.add this)
      rw [e2] at hcs
      rw [hcs]; simp
    refine ⟨xs, .inr ⟨a, cap, by rw [hxl], by omega, hm, fun k c hk => ?_⟩⟩
    have h00 : ∃ c0, (xs.flatMap E.enc)[0]? = some c0 := by
      have hkl := (List.getElem?_eq_some_iff.1 hk).1
      exact ⟨(xs.flatMap E.enc)[0], by rw [List.getElem?_eq_getElem]⟩
    obtain ⟨c0, hc0⟩ := h00
    have h0 := spot_of_cell (hcell 0 c0 hc0)
    exact cell_G0 (hcell k c hk) (.inr h0)
end
end Go.Sx
