/- Parts of the proof: Qc, Qd, Qe, Qf, V1D, Ra, Rb, Rc, Rd, Re, F1D, Sa, Sb, Sc, Sd, Sg. -/
import Derived.Test.YtehnblgkgaakeaaDoorPb7
set_option linter.unusedVariables false
set_option linter.unusedSimpArgs false
set_option linter.unusedSectionVars false
/- The program's and the reference's first helpers in closed form: sets, graphs, orders. Plain. -/
namespace Go.Sx
/-- short enough for every loop -/
def Sh {α : Type} (xs : List α) : Prop := xs.length ≤ 4294967296

theorem l1In_eq (a b c : Int) : D.spec_l1In a b c = some (decide (b ≤ a) && decide (a ≤ c)) := rfl
theorem inRange_eq (a b c : Int) : D.impl_inRange a b c = some (decide (b ≤ a) && decide (a ≤ c)) := rfl

theorem any_beq (xs : List Int) (n : Int) : xs.any (fun x => x == n) = decide (n ∈ xs) := by
  rw [Bool.eq_iff_iff, List.any_eq_true]; simp
theorem l1Has_eq (xs : List Int) (n : Int) (h : Sh xs) : D.spec_l1Has xs n = some (decide (n ∈ xs)) := by
  unfold Sh at h
  unfold D.spec_l1Has
  refine (loop_anyb xs.length (fun i => xs.getD i 0 == n) true (fun i hi => ?_) ?_ rfl rfl).trans ?_
  · simp only [dlt hi, cond_true, idx_nat hi, Option.bind_some, wi' hi (by omega), getD_lt hi]
    cases xs[i] == n <;> rfl
  · simp only [dnlt, cond_false]
  · rw [range_any_list xs (fun x => x == n) _ (fun i hi => by rw [getD_lt hi]), any_beq]
theorem contains_eq (xs : List Int) (n : Int) (h : Sh xs) : D.slices_Contains_int64_int64 xs n = some (decide (n ∈ xs)) := by
  unfold Sh at h
  unfold D.slices_Contains_int64_int64 D.slices_Index_int64_int64
  have e : loopF (σ := Int) (ρ := (Unit) ⊕ (Int)) (fun (x_26 : Int) => cond (decide (x_26 < (xs.length : Int))) ((idx xs x_26).bind fun e_39 => cond (n == e_39) (some (.inr (.inr x_26))) (some (.inl (IntKind.i64.wrap (x_26 + 1))))) (some (.inr (.inl ())))) 0 =
      some (((List.range xs.length).findSome? (fun i => if xs.getD i 0 == n then some (Sum.inr (i : Int)) else none)).getD (.inl ())) := by
    refine loop_find xs.length _ _ (fun i hi => ?_) ?_
    · simp only [dlt hi, cond_true, idx_nat hi, Option.bind_some, wi' hi (by omega), getD_lt hi]
      rw [show (n == xs[i]) = (xs[i] == n) from Bool.beq_comm ..]
      cases xs[i] == n <;> rfl
    · simp only [dnlt, cond_false]
  rw [e, Option.bind_some]
  cases hf : (List.range xs.length).findSome? (fun i => if xs.getD i 0 == n then some (Sum.inr (i : Int) : Unit ⊕ Int) else none) with
  | none =>
    have : n ∉ xs := fun hm => by
      obtain ⟨i, hi, e⟩ := List.getElem_of_mem hm
      have := (List.findSome?_eq_none_iff.1 hf) i (List.mem_range.2 hi)
      rw [getD_lt hi, e] at this
      simp at this
    simp [this]
  | some r =>
    obtain ⟨i, hi, hr⟩ := List.exists_of_findSome?_eq_some hf
    have hi' := List.mem_range.1 hi
    rw [getD_lt hi'] at hr
    split at hr
    · rename_i hc
      cases hr
      have : n ∈ xs := by rw [← (beq_iff_eq.1 hc)]; exact List.getElem_mem _
      simp [this]
    · cases hr

/-- a set of numbers below n, as a list -/
def SetOf (xs : List Int) (n : Int) : Prop := Inc xs ∧ ∀ x ∈ xs, 0 ≤ x ∧ x < n
theorem SetOf.len : ∀ {xs : List Int} {n a : Int}, Inc xs → (∀ x ∈ xs, a ≤ x ∧ x < n) → xs = [] ∨ (xs.length : Int) ≤ n - a
  | [], _, _, _, _ => .inl rfl
  | x :: xs, n, a, h, hr => by
    right
    have h' := List.pairwise_cons.1 h
    have hx := hr x (by simp)
    rcases SetOf.len (a := x + 1) (n := n) h'.2 (fun y hy => ⟨by have := h'.1 y hy; omega, (hr y (by simp [hy])).2⟩) with e | e
    · subst e; simp; omega
    · simp; omega
theorem SetOf.length_le {xs : List Int} {n : Int} (h : SetOf xs n) (hn : 0 ≤ n) : (xs.length : Int) ≤ n := by
  rcases SetOf.len h.1 h.2 with e | e
  · subst e; simpa using hn
  · omega

theorem inc_iff (xs : List Int) : Inc xs ↔ ∀ i (hi : i + 1 < xs.length), xs[i] < xs[i + 1] := by
  unfold Inc
  constructor
  · intro h i hi
    exact List.pairwise_iff_getElem.1 h i (i + 1) (by omega) hi (by omega)
  · intro h
    rw [List.pairwise_iff_getElem]
    intro i j hi hj hij
    have key : ∀ k, ∀ hk : i + k + 1 < xs.length, xs[i] < xs[i + k + 1] := by
      intro k
      induction k with
      | zero => intro hk; exact h i hk
      | succ k ih => intro hk; have := ih (by omega); have := h (i + k + 1) hk; exact Int.lt_trans (ih (by omega)) this
    obtain ⟨k, rfl⟩ : ∃ k, j = i + k + 1 := ⟨j - i - 1, by omega⟩
    exact key k hj

def setB (xs : List Int) (n : Int) : Bool := (List.range xs.length).all fun i => (decide (0 ≤ xs.getD i 0) && decide (xs.getD i 0 ≤ n - 1)) && !(decide (0 < i) && decide (xs.getD i 0 ≤ xs.getD (i - 1) 0))
theorem setB_iff (xs : List Int) (n : Int) : setB xs n = true ↔ SetOf xs n := by
  unfold setB SetOf
  rw [all_forall, inc_iff]
  constructor
  · intro h
    refine ⟨fun i hi => ?_, fun x hx => ?_⟩
    · have := h (i + 1) hi
      simp [hi, show i < xs.length by omega] at this
      omega
    · obtain ⟨i, hi, rfl⟩ := List.getElem_of_mem hx
      have := h i hi
      simp [hi] at this
      omega
  · rintro ⟨h1, h2⟩ i hi
    have h3 := h2 _ (List.getElem_mem hi)
    simp [hi]
    refine ⟨by omega, ?_⟩
    rcases Nat.eq_zero_or_pos i with h0 | h0
    · exact .inl h0
    · right
      have := h1 (i - 1) (by omega)
      have e : i - 1 + 1 = i := by omega
      simp only [e] at this
      have e2 : xs[i - 1]?.getD 0 = xs[i - 1] := by rw [List.getElem?_eq_getElem (by omega)]; rfl
      rw [e2]; exact this

theorem increasing_eq (xs : List Int) (n : Int) (h : Sh xs) (h0 : 0 ≤ n) (hn : n ≤ 4294967296) : D.impl_increasing xs n = some (setB xs n) := by
  unfold Sh at h
  unfold D.impl_increasing
  refine loop_allb xs.length _ false (fun i hi => ?_) ?_ rfl rfl
  · simp only [dlt hi, cond_true, idx_nat hi, Option.bind_some, wi' hi (by omega), getD_lt hi, inRange_eq]
    rw [w64 (x := n - 1) (by omega) (by omega)]
    cases (decide (0 ≤ xs[i]) && decide (xs[i] ≤ n - 1))
    · simp
    · by_cases h0 : 0 < i
      · have e1 : IntKind.i64.wrap ((i : Int) - 1) = ((i - 1 : Nat) : Int) := by rw [w64 (by omega) (by omega)]; omega
        have hd : decide ((0 : Int) < (i : Int)) = true := by simp; omega
        simp only [Bool.not_true, cond_false, hd, cond_true, e1, idx_nat (show i - 1 < xs.length by omega), Option.bind_some, getD_lt (show i - 1 < xs.length by omega), h0, decide_true, Bool.true_and]
        cases decide (xs[i] ≤ xs[i - 1]) <;> rfl
      · have hd : decide ((0 : Int) < (i : Int)) = false := by simp; omega
        simp only [Bool.not_true, cond_false, hd, Option.bind_some, h0, decide_false, Bool.false_and, Bool.not_false, Bool.and_true, if_true]
  · simp only [dnlt, cond_false]

theorem l1Set_eq (xs : List Int) (n : Int) (h : Sh xs) (h0 : 0 ≤ n) (hn : n ≤ 4294967296) : D.spec_l1Set xs n = some (setB xs n) := by
  have hh := h
  unfold Sh at h
  unfold D.spec_l1Set
  by_cases hl : n < xs.length
  · have : setB xs n = false := by
      cases hb : setB xs n
      · rfl
      · have := ((setB_iff xs n).1 hb).length_le h0; omega
    simp [hl, this]
  · simp only [hl, decide_false, cond_false]
    refine loop_allb xs.length _ false (fun i hi => ?_) ?_ rfl rfl
    · simp only [dlt hi, cond_true, idx_nat hi, Option.bind_some, wi' hi (by omega), getD_lt hi, l1In_eq]
      rw [w64 (x := n - 1) (by omega) (by omega)]
      cases (decide (0 ≤ xs[i]) && decide (xs[i] ≤ n - 1))
      · simp
      · by_cases h0 : 0 < i
        · have e1 : IntKind.i64.wrap ((i : Int) - 1) = ((i - 1 : Nat) : Int) := by rw [w64 (by omega) (by omega)]; omega
          have hd : decide ((0 : Int) < (i : Int)) = true := by simp; omega
          simp only [Bool.not_true, cond_false, hd, cond_true, e1, idx_nat (show i - 1 < xs.length by omega), Option.bind_some, getD_lt (show i - 1 < xs.length by omega), h0, decide_true, Bool.true_and]
          cases decide (xs[i] ≤ xs[i - 1]) <;> rfl
        · have hd : decide ((0 : Int) < (i : Int)) = false := by simp; omega
          simp only [Bool.not_true, cond_false, hd, Option.bind_some, h0, decide_false, Bool.false_and, Bool.not_false, Bool.and_true, if_true]
    · simp only [dnlt, cond_false]

/-- row v of a graph -/
def row (g : List (List Int)) (v : Nat) : List Int := g.getD v []
theorem row_eq {g : List (List Int)} {v : Nat} (h : v < g.length) : row g v = g[v] := getD_lt h _
def adj (g : List (List Int)) (u v : Nat) : Prop := (v : Int) ∈ row g u

/-- a valid graph -/
structure GOk (g : List (List Int)) : Prop where
  n1 : 1 ≤ g.length
  n16 : g.length ≤ 16
  rows : ∀ v, v < g.length → SetOf (row g v) g.length
  irr : ∀ v, v < g.length → ¬ adj g v v
  sym : ∀ u v, u < g.length → adj g u v → adj g v u

theorem GOk.mem {g : List (List Int)} (h : GOk g) {u : Nat} (hu : u < g.length) {x : Int} (hx : x ∈ row g u) : ∃ v : Nat, x = v ∧ v < g.length ∧ adj g u v := by
  have := (h.rows u hu).2 x hx
  refine ⟨x.toNat, by omega, by omega, ?_⟩
  unfold adj
  rw [show ((x.toNat : Nat) : Int) = x by omega]; exact hx
theorem GOk.row_len {g : List (List Int)} (h : GOk g) {u : Nat} (hu : u < g.length) : (row g u).length ≤ 16 := by
  have := (h.rows u hu).length_le (by omega)
  have := h.n16
  omega
theorem GOk.lt {g : List (List Int)} (h : GOk g) {u v : Nat} (hu : u < g.length) (ha : adj g u v) : v < g.length := by
  obtain ⟨w, h1, h2, _⟩ := h.mem hu ha
  omega

/-- short in both ways -/
def Sh2 (g : List (List Int)) : Prop := Sh g ∧ ∀ r ∈ g, Sh r
theorem Sh2.row {g : List (List Int)} (h : Sh2 g) {v : Nat} (hv : v < g.length) : Sh (row g v) := by
  rw [row_eq hv]; exact h.2 _ (List.getElem_mem hv)
theorem idx_row {g : List (List Int)} {v : Nat} (h : v < g.length) : idx g (v : Int) = some (row g v) := by rw [row_eq h, idx_nat h]

def gB1 (g : List (List Int)) : Bool := (List.range g.length).all fun v => setB (row g v) g.length && !decide ((v : Int) ∈ row g v)
def gB2 (g : List (List Int)) : Bool := (List.range g.length).all fun v => (row g v).all fun x => decide ((v : Int) ∈ row g x.toNat)
def gB (g : List (List Int)) : Bool := decide (1 ≤ g.length) && decide (g.length ≤ 16) && gB1 g && gB2 g
theorem gB_iff (g : List (List Int)) : gB g = true ↔ GOk g := by
  unfold gB gB1 gB2
  simp only [Bool.and_eq_true, decide_eq_true_eq, setB_iff, Bool.not_eq_true', decide_eq_false_iff_not, List.all_eq_true, List.mem_range]
  constructor
  · rintro ⟨⟨⟨h1, h2⟩, h3⟩, h4⟩
    refine ⟨h1, h2, fun v hv => (h3 v hv).1, fun v hv => (h3 v hv).2, fun u v hu ha => ?_⟩
    have := h4 u hu v ha
    unfold adj
    simpa using this
  · intro h
    refine ⟨⟨⟨h.n1, h.n16⟩, fun v hv => ⟨h.rows v hv, h.irr v hv⟩⟩, fun v hv x hx => ?_⟩
    obtain ⟨u, rfl, hu, ha⟩ := h.mem hv hx
    have := h.sym v u hv ha
    simpa [adj] using this

theorem spec_GraphOk_eq (g : List (List Int)) (h : Sh2 g) : D.spec_GraphOk g = some (gB g) := by
  have hl : g.length ≤ 4294967296 := h.1
  unfold D.spec_GraphOk D.spec_l1Size
  simp only [Option.bind_some, l1In_eq]
  by_cases hn : 1 ≤ g.length ∧ g.length ≤ 16
  · have e : (decide ((1 : Int) ≤ (g.length : Int)) && decide ((g.length : Int) ≤ 16)) = true := by simp; omega
    simp only [e, Bool.not_true, cond_false]
    refine (loop_ck g.length (fun v => setB (row g v) g.length && !decide ((v : Int) ∈ row g v)) (.inl ()) (.inr false) (fun v hv => ?_) ?_).trans ?_
    rotate_left
    · simp only [dnlt, cond_false]
    · show cond (gB1 g) _ _ = _
      have e4 : gB g = (gB1 g && gB2 g) := by unfold gB; simp [hn.1, hn.2]
      rw [e4]
      cases hc : gB1 g with
      | false => rfl
      | true =>
        rw [cond_true, Bool.true_and]
        refine loop_allb g.length _ false (fun v hv => ?_) ?_ rfl rfl
        · have hset : SetOf (row g v) g.length := by
            have := (all_forall _ _).1 hc v hv
            simp only [Bool.and_eq_true] at this
            exact (setB_iff _ _).1 this.1
          simp only [dlt hv, cond_true]
          refine (loop_ck (row g v).length (fun i => decide ((v : Int) ∈ row g ((row g v).getD i 0).toNat)) (.inl ()) (.inr false) (fun i hi => ?_) ?_).trans ?_
          · have hx := hset.2 _ (List.getElem_mem hi)
            have e5 : idx g (row g v)[i] = some (row g ((row g v)[i]).toNat) := by
              have := idx_row (g := g) (v := ((row g v)[i]).toNat) (by omega)
              rwa [show ((((row g v)[i]).toNat : Nat) : Int) = (row g v)[i] by omega] at this
            have hs := h.row (v := ((row g v)[i]).toNat) (by omega)
            simp only [idx_row hv, Option.bind_some, dlt hi, cond_true, idx_nat hi, e5, l1Has_eq _ _ hs, wi (show i < 4611686018427387904 by have := h.row hv; unfold Sh at this; omega), getD_lt hi]
            cases decide ((v : Int) ∈ row g ((row g v)[i]).toNat) <;> rfl
          · simp only [idx_row hv, Option.bind_some, dnlt, cond_false]
          · rw [range_all_list (row g v) (fun x => decide ((v : Int) ∈ row g x.toNat)) _ (fun i hi => by rw [getD_lt hi]), wi' hv (by omega)]
            cases (row g v).all fun x => decide ((v : Int) ∈ row g x.toNat) <;> rfl
        · simp only [dnlt, cond_false]
    · simp only [dlt hv, cond_true, idx_row hv, Option.bind_some, l1Set_eq _ _ (h.row hv) (show (0 : Int) ≤ (g.length : Int) by omega) (by omega), l1Has_eq _ _ (h.row hv), wi' hv (by omega)]
      cases setB (row g v) g.length
      · rfl
      · cases decide ((v : Int) ∈ row g v) <;> rfl
  · have e : (decide ((1 : Int) ≤ (g.length : Int)) && decide ((g.length : Int) ≤ 16)) = false := by
      rw [Bool.eq_false_iff]; simp; omega
    simp only [e, Bool.not_false, cond_true]
    unfold gB
    congr 1
    symm
    rw [Bool.eq_false_iff]
    simp
    omega

theorem impl_GraphOk_eq (g : List (List Int)) (h : Sh2 g) : D.impl_GraphOk g = some (gB g) := by
  have hl : g.length ≤ 4294967296 := h.1
  unfold D.impl_GraphOk
  by_cases hn : 1 ≤ g.length ∧ g.length ≤ 16
  · have e : (decide ((g.length : Int) < (1 : Int)) || decide ((16 : Int) < (g.length : Int))) = false := by simp; omega
    simp only [e, cond_false]
    refine (loop_ck g.length (fun v => setB (row g v) g.length && !decide ((v : Int) ∈ row g v)) (.inl ()) (.inr false) (fun v hv => ?_) ?_).trans ?_
    rotate_left
    · simp only [dnlt, cond_false]
    · show cond (gB1 g) _ _ = _
      have e4 : gB g = (gB1 g && gB2 g) := by unfold gB; simp [hn.1, hn.2]
      rw [e4]
      cases hc : gB1 g with
      | false => rfl
      | true =>
        rw [cond_true, Bool.true_and]
        refine loop_allb g.length _ false (fun v hv => ?_) ?_ rfl rfl
        · have hset : SetOf (row g v) g.length := by
            have := (all_forall _ _).1 hc v hv
            simp only [Bool.and_eq_true] at this
            exact (setB_iff _ _).1 this.1
          simp only [dlt hv, cond_true, idx_row hv, Option.bind_some]
          refine (loop_ck (row g v).length (fun i => decide ((v : Int) ∈ row g ((row g v).getD i 0).toNat)) (.inl ()) (.inr false) (fun i hi => ?_) ?_).trans ?_
          · have hx := hset.2 _ (List.getElem_mem hi)
            have e5 : idx g (row g v)[i] = some (row g ((row g v)[i]).toNat) := by
              have := idx_row (g := g) (v := ((row g v)[i]).toNat) (by omega)
              rwa [show ((((row g v)[i]).toNat : Nat) : Int) = (row g v)[i] by omega] at this
            have hs := h.row (v := ((row g v)[i]).toNat) (by omega)
            simp only [Option.bind_some, dlt hi, cond_true, idx_nat hi, e5, contains_eq _ _ hs, wi (show i < 4611686018427387904 by have := h.row hv; unfold Sh at this; omega), getD_lt hi]
            cases decide ((v : Int) ∈ row g ((row g v)[i]).toNat) <;> rfl
          · simp only [dnlt, cond_false]
          · rw [range_all_list (row g v) (fun x => decide ((v : Int) ∈ row g x.toNat)) _ (fun i hi => by rw [getD_lt hi]), wi' hv (by omega)]
            cases (row g v).all fun x => decide ((v : Int) ∈ row g x.toNat) <;> rfl
        · simp only [dnlt, cond_false]
    · simp only [dlt hv, cond_true, idx_row hv, Option.bind_some, increasing_eq _ _ (h.row hv) (show (0 : Int) ≤ (g.length : Int) by omega) (by omega), contains_eq _ _ (h.row hv), wi' hv (by omega)]
      cases setB (row g v) g.length
      · rfl
      · cases decide ((v : Int) ∈ row g v) <;> rfl
  · have e : (decide ((g.length : Int) < (1 : Int)) || decide ((16 : Int) < (g.length : Int))) = true := by
      simp; omega
    simp only [e, cond_true]
    unfold gB
    congr 1
    symm
    rw [Bool.eq_false_iff]
    simp
    omega
end Go.Sx

/- Orders; the program's sets as bit masks; the reference's rising lists. Plain. -/
namespace Go.Sx
/-- an order of a graph -/
structure OOk (g : List (List Int)) (o : List Int) : Prop where
  len : o.length = g.length
  rng : ∀ x ∈ o, 0 ≤ x ∧ x < g.length
  nd : o.Nodup

def oB (g : List (List Int)) (o : List Int) : Bool := (List.range o.length).all fun i => (decide (0 ≤ o.getD i 0) && decide (o.getD i 0 ≤ (g.length : Int) - 1)) && !decide (o.getD i 0 ∈ o.take i)
theorem mem_take_iff {α : Type} {l : List α} {i : Nat} {x : α} : x ∈ l.take i ↔ ∃ j, ∃ h : j < l.length, j < i ∧ l[j] = x := by
  rw [List.mem_take_iff_getElem]
  constructor
  · rintro ⟨j, h, e⟩; exact ⟨j, by omega, by omega, e⟩
  · rintro ⟨j, h, h2, e⟩; exact ⟨j, by omega, e⟩
theorem nodup_iff {l : List Int} : l.Nodup ↔ ∀ i (hi : i < l.length), l[i] ∉ l.take i := by
  constructor
  · intro h i hi hm
    obtain ⟨j, hj, hji, e⟩ := mem_take_iff.1 hm
    have := (List.pairwise_iff_getElem.1 h) j i hj hi hji
    exact this e
  · intro h
    refine List.pairwise_iff_getElem.2 (fun i j hi hj hij e => h j hj (mem_take_iff.2 ⟨i, hi, hij, e⟩))
theorem oB_iff (g : List (List Int)) (o : List Int) (hl : o.length = g.length) : oB g o = true ↔ OOk g o := by
  unfold oB
  rw [all_forall]
  constructor
  · intro h
    refine ⟨hl, fun x hx => ?_, nodup_iff.2 fun i hi => ?_⟩
    · obtain ⟨i, hi, rfl⟩ := List.getElem_of_mem hx
      have := h i hi
      rw [getD_lt hi] at this
      simp at this; omega
    · have := h i hi
      rw [getD_lt hi] at this
      simp at this; exact this.2
  · intro h i hi
    have h1 := h.rng _ (List.getElem_mem hi)
    have h2 := nodup_iff.1 h.nd i hi
    rw [getD_lt hi]
    simp [h2]; omega

def ordB (g : List (List Int)) (o : List Int) : Bool := decide (o.length = g.length) && oB g o
theorem ordB_iff (g : List (List Int)) (o : List Int) : ordB g o = true ↔ OOk g o := by
  unfold ordB
  by_cases hl : o.length = g.length
  · simp [hl, oB_iff g o hl]
  · simp [hl]; intro h; exact hl h.len

theorem spec_OrderOk_eq (g : List (List Int)) (o : List Int) (h : Sh2 g) (ho : Sh o) : D.spec_OrderOk g o = some (gB g && ordB g o) := by
  have hl : g.length ≤ 4294967296 := h.1
  have hol : o.length ≤ 4294967296 := ho
  unfold D.spec_OrderOk
  rw [spec_GraphOk_eq g h, Option.bind_some]
  cases hg : gB g
  · rfl
  · have hg' := (gB_iff g).1 hg
    simp only [cond_true]
    unfold D.spec_l1Order D.spec_l1Size ordB
    simp only [Option.bind_some]
    by_cases hl : o.length = g.length
    · have e : ((o.length : Int) != (g.length : Int)) = false := by simp [hl]
      simp only [e, cond_false]
      simp only [Option.bind_fun_some, hl, decide_true, Bool.true_and]
      unfold oB
      rw [← hl]
      refine loop_allb o.length _ false (fun i hi => ?_) ?_ rfl rfl
      · have hsh : Sh (o.take i) := by unfold Sh; rw [List.length_take]; omega
        simp only [dlt hi, cond_true, idx_nat hi, Option.bind_some, wi' hi (by omega), getD_lt hi, ← hl, D.spec_l1There, D.spec_l1Size, l1In_eq, sliceD_pre (show i ≤ o.length by omega), l1Has_eq _ _ hsh]
        rw [w64 (x := (o.length : Int) - 1) (by omega) (by omega)]
        cases (decide (0 ≤ o[i]) && decide (o[i] ≤ (o.length : Int) - 1))
        · rfl
        · cases decide (o[i] ∈ o.take i) <;> rfl
      · simp only [dnlt, cond_false]
    · have e : ((o.length : Int) != (g.length : Int)) = true := by simp; omega
      simp [e, hl]

theorem sorted_inc {y : List Int} (hs : Srt y 0 y.length) (hn : y.Nodup) : Inc y := by
  unfold Inc
  rw [List.pairwise_iff_getElem]
  intro i j hi hj hij
  have h1 := hs i j (by omega) (by omega) (by omega)
  have h2 := (List.pairwise_iff_getElem.1 hn) i j hi hj hij
  simp [at', hi, hj] at h1
  have : y[i] ≠ y[j] := h2
  omega
theorem impl_OrderOk_eq (g : List (List Int)) (o : List Int) (h : Sh2 g) (ho : Sh o) : D.impl_OrderOk g o = some (gB g && ordB g o) := by
  unfold D.impl_OrderOk
  rw [impl_GraphOk_eq g h, Option.bind_some]
  cases hg : gB g
  · rfl
  · have hg' := (gB_iff g).1 hg
    by_cases hl : o.length = g.length
    · have e : ((o.length : Int) != (g.length : Int)) = false := by simp [hl]
      have h16 := hg'.n16
      obtain ⟨y, h1, h2, h3⟩ := sorted_spec o (by omega)
      have hyl := h2.length_eq
      simp only [Bool.not_true, e, Bool.or_false, cond_false, h1, Option.bind_some, Bool.true_and]
      rw [increasing_eq y _ (by unfold Sh; omega) (by omega) (by omega), Option.bind_some]
      congr 1
      unfold ordB
      simp only [hl, decide_true, Bool.true_and]
      rw [Bool.eq_iff_iff, setB_iff, oB_iff g o hl]
      constructor
      · rintro ⟨k1, k2⟩
        refine ⟨hl, fun x hx => k2 x (h2.mem_iff.2 hx), h2.nodup_iff.1 ?_⟩
        exact List.Pairwise.imp (fun h e => by omega) k1
      · intro k
        exact ⟨sorted_inc h3 (h2.nodup_iff.2 k.nd), fun x hx => k.rng x (h2.mem_iff.1 hx)⟩
    · have e : ((o.length : Int) != (g.length : Int)) = true := by simp; omega
      simp [e, ordB, hl]

/-! ### masks -/
theorem impl_one_eq (v : Nat) : D.impl_one (v : Int) = some (ishl .u32 1 (v : Int)) := by
  unfold D.impl_one
  have : decide ((v : Int) < 0) = false := by simp
  rw [this]; rfl
theorem impl_one_eq' {x : Int} (h : 0 ≤ x) : D.impl_one x = some (ishl .u32 1 x) := by
  have := impl_one_eq x.toNat
  rwa [show ((x.toNat : Nat) : Int) = x by omega] at this
def mk (xs : List Int) : Int := xs.foldl (fun s v => ior .u32 s (ishl .u32 1 v)) 0
theorem maskOf_eq (xs : List Int) (h : Sh xs) (h0 : ∀ x ∈ xs, 0 ≤ x) : D.impl_maskOf xs = some (mk xs) := by
  unfold Sh at h
  unfold D.impl_maskOf
  refine (loop_listb xs (fun s i => (s, i)) (fun s v => ior .u32 s (ishl .u32 1 v)) (fun s => s) (fun _ => True) 0 trivial (fun s i hi _ => ⟨?_, trivial⟩) (fun s _ => ?_)).trans rfl
  · simp only [dlt hi, cond_true, idx_nat hi, Option.bind_some, wi' hi (by omega), impl_one_eq' (h0 _ (List.getElem_mem hi))]
  · simp only [dnlt, cond_false]
theorem VS_foldl_ior : ∀ (xs : List Int) (s : Int), VS s → VS (xs.foldl (fun s v => ior .u32 s (ishl .u32 1 v)) s)
  | [], s, h => h
  | x :: xs, s, _ => VS_foldl_ior xs _ (VS.ior _ _)
theorem VS.mk (xs : List Int) : VS (mk xs) := VS_foldl_ior xs 0 VS.zero
theorem has_foldl_ior (u : Nat) : ∀ (xs : List Int) (s : Int), VS s → (∀ x ∈ xs, 0 ≤ x ∧ x < 32) → has (xs.foldl (fun s v => ior .u32 s (ishl .u32 1 v)) s) u = (has s u || decide ((u : Int) ∈ xs))
  | [], s, _, _ => by simp
  | x :: xs, s, hs, h => by
    have hx := h x (by simp)
    rw [List.foldl_cons, has_foldl_ior u xs _ (VS.ior _ _) (fun y hy => h y (by simp [hy])), has_ior hs (VS.ishl _ _)]
    obtain ⟨k, rfl⟩ : ∃ k : Nat, x = k := ⟨x.toNat, by omega⟩
    rw [has_one (by omega)]
    by_cases hu : u = k
    · subst hu; simp
    · have : ¬ (u : Int) = (k : Int) := by omega
      simp [hu, this]
theorem has_mk {xs : List Int} (h : ∀ x ∈ xs, 0 ≤ x ∧ x < 32) (u : Nat) : has (mk xs) u = decide ((u : Int) ∈ xs) := by
  unfold mk; rw [has_foldl_ior u xs 0 VS.zero h, has_zero, Bool.false_or]

theorem GOk.mem0 {g : List (List Int)} (hg : GOk g) {r : List Int} (hr : r ∈ g) : r.length ≤ 16 ∧ ∀ x ∈ r, 0 ≤ x ∧ x < g.length := by
  obtain ⟨v, hv, rfl⟩ := List.getElem_of_mem hr
  rw [← row_eq hv]
  exact ⟨hg.row_len hv, (hg.rows v hv).2⟩
theorem netsOf_eq (g : List (List Int)) (hg : GOk g) : D.impl_netsOf g = some (g.map mk) := by
  have h16 := hg.n16
  unfold D.impl_netsOf
  refine (loop_map g (fun s i => (s, i)) mk (by omega) (fun s i hi _ => ?_) (fun s => ?_)).trans rfl
  · obtain ⟨h1, h2⟩ := hg.mem0 (List.getElem_mem hi)
    simp only [dlt hi, cond_true, idx_nat hi, Option.bind_some, wi' hi (by omega), maskOf_eq g[i] (by unfold Sh; omega) (fun x hx => (h2 x hx).1)]
  · simp only [dnlt, cond_false]
theorem narrow_eq (xs : List Int) (h : Sh xs) : D.impl_narrow xs = some xs := by
  unfold Sh at h
  unfold D.impl_narrow
  rw [makeD_zero (by omega) (by omega), Option.bind_some]
  refine (loop_map xs (fun s i => (s, i)) (fun x => x) h (fun s i hi _ => ?_) (fun s => ?_)).trans (by simp)
  · simp only [dlt hi, cond_true, idx_nat hi, Option.bind_some, wi' hi (by omega)]
  · simp only [dnlt, cond_false]
theorem wide_eq (xs : List Int) (h : Sh xs) : D.impl_wide xs = some xs := by
  unfold Sh at h
  unfold D.impl_wide
  rw [makeD_zero (by omega) (by omega), Option.bind_some]
  refine (loop_map xs (fun s i => (s, i)) (fun x => x) h (fun s i hi _ => ?_) (fun s => ?_)).trans (by simp)
  · simp only [dlt hi, cond_true, idx_nat hi, Option.bind_some, wi' hi (by omega)]
  · simp only [dnlt, cond_false]

theorem least_eq {s : Int} (h : VS s) (h0 : s ≠ 0) : ∃ k : Nat, k < 32 ∧ D.impl_vset_least s = some (k : Int) ∧ has s k = true ∧ (∀ v, v < k → has s v = false) ∧
    (∀ v, has (iand .u32 s (IntKind.u32.wrap (s - 1))) v = (has s v && !decide (v = k))) := by
  obtain ⟨k, h1, h2, h3, h4, h5⟩ := least_spec h h0
  refine ⟨k, h1, ?_, h2, h3, h5⟩
  unfold D.impl_vset_least D.math_bits_TrailingZeros32
  have e : (s == 0) = false := by simpa using h0
  simp only [e, cond_false, h4, tz_table k h1, Option.bind_some]
  rw [w64 (by omega) (by omega)]

theorem list_eq (s : Int) (h : VS s) : D.impl_vset_list s = some (elems s) := by
  unfold D.impl_vset_list
  have key : ∀ (n : Nat) (x : Int) (l : List Int), VS x → (elems x).length = n → l.length + n ≤ 32 →
      loopF (σ := Int × (List Int)) (ρ := ((List Int))) (fun (s_52 : Int × (List Int)) => match s_52 with | (x_55, l_56) => cond (x_55 != 0) ((D.impl_vset_least x_55).bind fun y_88 => (appendD l_56 ([y_88] : List Int)).bind fun l_99 => some (.inl ((iand .u32 x_55 (IntKind.u32.wrap (x_55 - 1))), l_99))) (some (.inr l_56))) (x, l) = some (l ++ elems x) := by
    intro n
    induction n with
    | zero =>
      intro x l hx hn _
      have e : elems x = [] := List.eq_nil_of_length_eq_zero hn
      have e0 : x = 0 := hx.eq_zero.2 fun v hv => by
        cases hc : has x v
        · rfl
        · have := mem_elems.2 ⟨v, hv, hc, rfl⟩; rw [e] at this; simp at this
      rw [e]
      refine loopF_done ?_
      have : (x != 0) = false := by simp [e0]
      simp only [this, cond_false, List.append_nil]
    | succ n ih =>
      intro x l hx hn hl
      have h0 : x ≠ 0 := by rintro rfl; rw [elems_zero] at hn; simp at hn
      obtain ⟨k, h1, h2, h3, h4, h5⟩ := least_eq hx h0
      have e := elems_least h1 h3 h4 h5
      have en : (elems (iand .u32 x (IntKind.u32.wrap (x - 1)))).length = n := by rw [e] at hn; simpa using hn
      have hstep := ih (iand .u32 x (IntKind.u32.wrap (x - 1))) (l ++ [(k : Int)]) (VS.iand _ _) en (by simp; omega)
      have e1 : (x != 0) = true := by simpa using h0
      rw [loopF_more (s' := (iand .u32 x (IntKind.u32.wrap (x - 1)), l ++ [(k : Int)]))]
      · rw [hstep, e]; simp
      · simp only [e1, cond_true, h2, Option.bind_some, appendD_ok (xs := l) (ys := [(k : Int)]) (by simp; omega)]
  have := key (elems s).length s [] h rfl (by simpa using elems_len s)
  rw [this]; simp
theorem elems_sh (s : Int) : Sh (elems s) := by have := elems_len s; unfold Sh; omega
theorem numbers_eq (s : Int) (h : VS s) : D.impl_vset_numbers s = some (elems s) := by
  unfold D.impl_vset_numbers
  rw [list_eq s h, Option.bind_some, wide_eq _ (elems_sh s)]; rfl
theorem results_eq (xs : List Int) (h : Sh xs) (hv : ∀ s ∈ xs, VS s) : D.impl_results xs = some (xs.map elems) := by
  unfold Sh at h
  unfold D.impl_results
  refine (loop_map xs (fun s i => (s, i)) elems h (fun s i hi _ => ?_) (fun s => ?_)).trans rfl
  · simp only [dlt hi, cond_true, idx_nat hi, Option.bind_some, wi' hi (by omega), numbers_eq _ (hv _ (List.getElem_mem hi))]
  · simp only [dnlt, cond_false]

/-! ### rising lists -/
theorem l1Copy_eq (xs : List Int) (h : Sh xs) : D.spec_l1Copy xs = some xs := by
  unfold Sh at h
  unfold D.spec_l1Copy
  rw [appendD_ok (by simpa using h)]; rfl
/-- with one more -/
def into (xs : List Int) (n : Int) : List Int := if n ∈ xs then xs else xs.takeWhile (fun x => decide (x < n)) ++ n :: xs.dropWhile (fun x => decide (x < n))
theorem mem_into {xs : List Int} {n x : Int} : x ∈ into xs n ↔ x = n ∨ x ∈ xs := by
  unfold into
  split
  · constructor
    · intro h; exact .inr h
    · rintro (rfl | h)
      · assumption
      · exact h
  · have e : x ∈ xs ↔ x ∈ xs.takeWhile (fun x => decide (x < n)) ++ xs.dropWhile (fun x => decide (x < n)) := by rw [List.takeWhile_append_dropWhile]
    rw [e]; simp only [List.mem_append, List.mem_cons]
    constructor
    · rintro (h | h | h) <;> simp [h]
    · rintro (h | h | h) <;> simp [h]
theorem inc_dropWhile {xs : List Int} {n : Int} (h : Inc xs) : ∀ y ∈ xs.dropWhile (fun x => decide (x < n)), n ≤ y := by
  induction xs with
  | nil => simp
  | cons x xs ih =>
    have h' := List.pairwise_cons.1 h
    intro y hy
    rw [List.dropWhile_cons] at hy
    split at hy
    · exact ih h'.2 y hy
    · rename_i hc
      simp at hc
      rcases List.mem_cons.1 hy with rfl | hy
      · exact hc
      · have := h'.1 y hy; omega
theorem inc_takeWhile {xs : List Int} {n : Int} : ∀ y ∈ xs.takeWhile (fun x => decide (x < n)), y < n := by
  intro y hy
  induction xs with
  | nil => simp at hy
  | cons x xs ih =>
    rw [List.takeWhile_cons] at hy
    split at hy
    · rename_i hc
      rcases List.mem_cons.1 hy with rfl | hy
      · simpa using hc
      · exact ih hy
    · simp at hy
theorem Inc.into {xs : List Int} (h : Inc xs) (n : Int) : Inc (into xs n) := by
  unfold Sx.into
  split
  · exact h
  · rename_i hn
    unfold Inc
    rw [List.pairwise_append]
    refine ⟨List.Pairwise.sublist (List.takeWhile_sublist _) h, List.pairwise_cons.2 ⟨fun y hy => ?_, List.Pairwise.sublist (List.dropWhile_sublist _) h⟩, fun a ha b hb => ?_⟩
    · have h1 := inc_dropWhile h y hy
      have h2 : y ≠ n := fun e => hn (e ▸ (List.dropWhile_sublist _).mem hy)
      omega
    · have h1 := inc_takeWhile a ha
      rcases List.mem_cons.1 hb with rfl | hb
      · exact h1
      · have := inc_dropWhile h b hb; omega
end Go.Sx

/- Open vertices, bags of an order: the reference's and the program's. Plain. -/
namespace Go.Sx
theorem takeWhile_eq_take {α : Type} (p : α → Bool) : ∀ (xs : List α), xs.takeWhile p = xs.take (xs.takeWhile p).length ∧ xs.dropWhile p = xs.drop (xs.takeWhile p).length
  | [] => by simp
  | x :: xs => by
    rw [List.takeWhile_cons, List.dropWhile_cons]
    cases p x
    · simp
    · have := takeWhile_eq_take p xs
      simp only [if_true, List.length_cons, List.take_succ_cons, List.drop_succ_cons, ← this.1, ← this.2, and_self]
theorem takeWhile_get {α : Type} (p : α → Bool) : ∀ (xs : List α) (i : Nat) (h : i < (xs.takeWhile p).length) (h' : i < xs.length), p xs[i] = true
  | x :: xs, i, h, h' => by
    rw [List.takeWhile_cons] at h
    cases hp : p x
    · rw [hp] at h; simp at h
    · rw [hp] at h
      cases i with
      | zero => simpa using hp
      | succ i => simp only [if_true, List.length_cons] at h; simpa using takeWhile_get p xs i (by omega) (by simpa using h')
theorem takeWhile_stop {α : Type} (p : α → Bool) : ∀ (xs : List α) (h : (xs.takeWhile p).length < xs.length), p (xs[(xs.takeWhile p).length]) = false
  | x :: xs, h => by
    cases hp : p x
    · simp [List.takeWhile_cons, hp]
    · have h2 : (xs.takeWhile p).length < xs.length := by simpa [List.takeWhile_cons, hp] using h
      simpa [List.takeWhile_cons, hp] using takeWhile_stop p xs h2
theorem takeWhile_len_le {α : Type} (p : α → Bool) (xs : List α) : (xs.takeWhile p).length ≤ xs.length := (List.takeWhile_sublist _).length_le

theorem l1Into_eq (xs : List Int) (n : Int) (h : Inc xs) (hl : xs.length ≤ 4294967295) : D.spec_l1Into xs n = some (into xs n) := by
  unfold D.spec_l1Into
  generalize hk : (xs.takeWhile (fun x => decide (x < n))).length = k
  have hkl : k ≤ xs.length := by rw [← hk]; exact takeWhile_len_le _ _
  have htk : xs.takeWhile (fun x => decide (x < n)) = xs.take k := by rw [← hk]; exact (takeWhile_eq_take _ xs).1
  have hdk : xs.dropWhile (fun x => decide (x < n)) = xs.drop k := by rw [← hk]; exact (takeWhile_eq_take _ xs).2
  refine (loop_to (fun i => ((i : Nat) : Int)) k (k : Int) rfl (fun i hi => ?_) ?_).trans ?_
  · have hi' : i < xs.length := by omega
    have hp : decide (xs[i] < n) = true := takeWhile_get (fun x => decide (x < n)) xs i (by omega) hi'
    simp only [dlt hi', cond_true, idx_nat hi', Option.bind_some, hp, wi (show i < 4611686018427387904 by omega)]
  · by_cases hlt : k < xs.length
    · have hp : decide (xs[k] < n) = false := by
        have := takeWhile_stop (fun x => decide (x < n)) xs (by omega)
        simp only [hk] at this; exact this
      simp only [dlt hlt, cond_true, idx_nat hlt, Option.bind_some, hp, cond_false]
    · obtain rfl : k = xs.length := by omega
      simp only [dnlt, cond_false, Option.bind_some]
  · have hS1 : Sh (xs.take k) := by unfold Sh; rw [List.length_take]; omega
    have hrest : ((sliceD xs 0 (k : Int)).bind fun l_135 => (D.spec_l1Copy l_135).bind fun y_139 => (appendD y_139 ([n] : List Int)).bind fun l_154 => (sliceD xs (k : Int) (xs.length : Int)).bind fun l_160 => (appendD l_154 l_160).bind fun l_164 => some l_164) = some (xs.take k ++ n :: xs.drop k) := by
      simp only [sliceD_pre hkl, sliceD_post hkl, Option.bind_some, l1Copy_eq _ hS1]
      rw [appendD_ok (by simp; omega), Option.bind_some, appendD_ok (by simp; omega), Option.bind_some]
      simp
    by_cases hlt : k < xs.length
    · simp only [dlt hlt, cond_true, idx_nat hlt, Option.bind_some]
      by_cases he : xs[k] = n
      · have hm : n ∈ xs := by rw [← he]; exact List.getElem_mem _
        have : (xs[k] == n) = true := by simp [he]
        simp only [this, cond_true]
        unfold into; rw [if_pos hm]
      · have : (xs[k] == n) = false := by simpa using he
        simp only [this, cond_false, hrest]
        unfold into
        rw [htk, hdk, if_neg]
        intro hm
        obtain ⟨j, hj, e⟩ := List.getElem_of_mem hm
        have hst : decide (xs[k] < n) = false := by
          have := takeWhile_stop (fun x => decide (x < n)) xs (by omega)
          simp only [hk] at this; exact this
        simp at hst
        rcases Nat.lt_trichotomy j k with h1 | h1 | h1
        · have := takeWhile_get (fun x => decide (x < n)) xs j (by omega) hj
          simp at this; omega
        · subst h1; exact he e
        · have := (List.pairwise_iff_getElem.1 h) k j hlt hj h1
          omega
    · obtain rfl : k = xs.length := by omega
      simp only [dnlt, cond_false, Option.bind_some, hrest]
      unfold into
      rw [htk, hdk, if_neg]
      intro hm
      obtain ⟨j, hj, e⟩ := List.getElem_of_mem hm
      have := takeWhile_get (fun x => decide (x < n)) xs j (by omega) hj
      simp at this; omega

/-! ### open vertices -/
/-- has it a neighbour outside -/
def opn (g : List (List Int)) (l : List Int) (v : Int) : Prop := ∃ y ∈ row g v.toNat, y ∉ l
theorem Inc.short {s : List Int} {n : Nat} (h : Inc s) (hr : ∀ x ∈ s, 0 ≤ x ∧ x < n) : s.length ≤ n := by
  rcases SetOf.len h hr with e | e
  · subst e; simp
  · omega

theorem l12Open_eq (g : List (List Int)) (l : List Int) (hg : GOk g) (hl : l.length ≤ 16) (hr : ∀ x ∈ l, 0 ≤ x ∧ x < g.length) :
    ∃ s, D.spec_l12Open g l = some s ∧ Inc s ∧ ∀ x, x ∈ s ↔ x ∈ l ∧ opn g l x := by
  have h16 := hg.n16
  have hsh : Sh l := by unfold Sh; omega
  unfold D.spec_l12Open
  -- a round of the outer loop
  have inner : ∀ (s : List Int) (v : Nat), Inc s → (∀ x ∈ s, x ∈ l) → (v : Int) ∈ l →
      ∃ s', (row g v).foldl (fun s x => if x ∈ l then s else into s (v : Int)) s = s' ∧ Inc s' ∧ (∀ x, x ∈ s' ↔ x ∈ s ∨ (x = v ∧ opn g l x)) := by
    intro s v hs hsl hv
    have key : ∀ (r : List Int) (s : List Int), Inc s → (∀ x ∈ s, x ∈ l) → Inc (r.foldl (fun s x => if x ∈ l then s else into s (v : Int)) s) ∧ (∀ x, x ∈ r.foldl (fun s x => if x ∈ l then s else into s (v : Int)) s ↔ x ∈ s ∨ (x = v ∧ ∃ y ∈ r, y ∉ l)) := by
      intro r
      induction r with
      | nil => intro s h1 _; exact ⟨h1, fun x => by simp⟩
      | cons y r ih =>
        intro s h1 h2
        rw [List.foldl_cons]
        by_cases hy : y ∈ l
        · rw [if_pos hy]
          obtain ⟨i1, i2⟩ := ih s h1 h2
          refine ⟨i1, fun x => (i2 x).trans ?_⟩
          simp [hy]
        · rw [if_neg hy]
          obtain ⟨i1, i2⟩ := ih (into s v) (h1.into _) (fun x hx => by
            rcases mem_into.1 hx with rfl | hx
            · exact hv
            · exact h2 x hx)
          refine ⟨i1, fun x => (i2 x).trans ?_⟩
          rw [mem_into]
          simp [hy]
          constructor
          · rintro ((h | h) | h)
            · exact .inr h
            · exact .inl h
            · exact .inr h.1
          · rintro (h | h)
            · exact .inl (.inr h)
            · exact .inl (.inl h)
    obtain ⟨k1, k2⟩ := key (row g v) s hs hsl
    refine ⟨_, rfl, k1, fun x => (k2 x).trans ?_⟩
    constructor
    · rintro (h | ⟨rfl, h⟩)
      · exact .inl h
      · exact .inr ⟨rfl, by simpa [opn] using h⟩
    · rintro (h | ⟨rfl, h⟩)
      · exact .inl h
      · exact .inr ⟨rfl, by simpa [opn] using h⟩
  have hI : ∀ (r : List Int) (s : List Int), (∀ x ∈ r, x ∈ l) → Inc s → (∀ x ∈ s, x ∈ l) →
      ∃ s', r.foldl (fun s v => (row g v.toNat).foldl (fun s x => if x ∈ l then s else into s v) s) s = s' ∧ Inc s' ∧ (∀ x, x ∈ s' ↔ x ∈ s ∨ (x ∈ r ∧ opn g l x)) := by
    intro r
    induction r with
    | nil => intro s _ h _; exact ⟨s, rfl, h, fun x => by simp⟩
    | cons v r ih =>
      intro s hrl h1 h2
      have hv := hrl v (by simp)
      have hv0 := hr v hv
      obtain ⟨s1, e1, i1, i2⟩ := inner s v.toNat h1 h2 (by rwa [show ((v.toNat : Nat) : Int) = v by omega])
      rw [show ((v.toNat : Nat) : Int) = v by omega] at e1 i2
      obtain ⟨s2, e2, i3, i4⟩ := ih s1 (fun x hx => hrl x (by simp [hx])) i1 (fun x hx => by
        rcases (i2 x).1 hx with h | ⟨rfl, _⟩
        · exact h2 x h
        · exact hv)
      refine ⟨s2, by rw [List.foldl_cons, e1, e2], i3, fun x => ?_⟩
      rw [i4, i2]
      constructor
      · rintro ((h | ⟨rfl, h⟩) | ⟨h, h'⟩)
        · exact .inl h
        · exact .inr ⟨by simp, h⟩
        · exact .inr ⟨by simp [h], h'⟩
      · rintro (h | ⟨h, h'⟩)
        · exact .inl (.inl h)
        · rcases List.mem_cons.1 h with rfl | h
          · exact .inl (.inr ⟨rfl, h'⟩)
          · exact .inr ⟨h, h'⟩
  obtain ⟨s, e, i1, i2⟩ := hI l [] (fun _ h => h) (by simp [Inc]) (by simp)
  refine ⟨s, ?_, i1, fun x => (i2 x).trans (by simp)⟩
  refine (loop_listb l (fun s i => (s, i)) (fun s v => (row g v.toNat).foldl (fun s x => if x ∈ l then s else into s v) s) (fun s => s) (fun s => Inc s ∧ ∀ x ∈ s, x ∈ l) [] ⟨by simp [Inc], by simp⟩ (fun s i hi hs => ?_) (fun s _ => ?_)).trans ?_
  · have hv := List.getElem_mem hi
    have hv0 := hr _ hv
    obtain ⟨v, ev⟩ : ∃ v : Nat, l[i] = (v : Int) := ⟨l[i].toNat, by omega⟩
    have hvn : v < g.length := by omega
    obtain ⟨s', e', j1, j2⟩ := inner s v hs.1 hs.2 (by rw [← ev]; exact hv)
    refine ⟨?_, ?_⟩
    · simp only [dlt hi, cond_true]
      refine (loop_listb (row g v) (fun s i => (s, i)) (fun s x => if x ∈ l then s else into s (v : Int)) (fun s => s) (fun s => Inc s ∧ ∀ x ∈ s, x ∈ l) s hs (fun t j hj ht => ?_) (fun t _ => ?_)).trans ?_
      · have hts : t.length ≤ g.length := ht.1.short (fun x hx => hr x (ht.2 x hx))
        have hrl := hg.row_len hvn
        simp only [idx_nat hi, ev, Option.bind_some, idx_row hvn, dlt hj, cond_true, idx_nat hj, l1Has_eq _ _ hsh, wi (show j < 4611686018427387904 by omega), l1Into_eq t _ ht.1 (by omega)]
        by_cases hc : (row g v)[j] ∈ l
        · simp [hc, ht.1]; exact ht.2
        · simp only [hc, decide_false, Bool.not_false, cond_true, if_false]
          exact ⟨trivial, ht.1.into _, fun x hx => by
            rcases mem_into.1 hx with rfl | hx
            · rw [← ev]; exact hv
            · exact ht.2 x hx⟩
      · simp only [idx_nat hi, ev, Option.bind_some, idx_row hvn, dnlt, cond_false]
      · simp only [wi (show i < 4611686018427387904 by omega), ev, Int.toNat_natCast]
    · simp only [ev, Int.toNat_natCast]
      rw [e']
      refine ⟨j1, fun x hx => ?_⟩
      rcases (j2 x).1 hx with h | ⟨rfl, _⟩
      · exact hs.2 x h
      · rw [← ev]; exact hv
  · simp only [dnlt, cond_false]
  · simp only [e]

/-- the program's -/
theorem openOf_eq (g : List (List Int)) (s : Int) (hg : GOk g) (hs : VS s) (hr : ∀ v, has s v = true → v < g.length) :
    ∃ t, D.impl_openOf (g.map mk) s = some t ∧ VS t ∧ ∀ v, has t v = true ↔ has s v = true ∧ ∃ u : Nat, adj g v u ∧ has s u = false := by
  have h16 := hg.n16
  unfold D.impl_openOf
  rw [list_eq s hs, Option.bind_some]
  have hcond : ∀ v, v < g.length → ((iandNot .u32 (mk (row g v)) s != 0) = true ↔ ∃ u : Nat, adj g v u ∧ has s u = false) := by
    intro v hv
    have hrow : ∀ x ∈ row g v, 0 ≤ x ∧ x < 32 := fun x hx => by have := (hg.rows v hv).2 x hx; omega
    rw [bne_iff_ne, Ne, (VS.iandNot _ _).eq_zero]
    constructor
    · intro h
      apply Classical.byContradiction
      intro hn
      apply h
      intro u _
      rw [has_iandNot (VS.mk _) hs, has_mk hrow]
      by_cases ha : adj g v u
      · cases hc : has s u
        · exact absurd ⟨u, ha, hc⟩ hn
        · simp
      · have : ¬ (u : Int) ∈ row g v := ha
        simp [this]
    · rintro ⟨u, ha, hu⟩ h
      have hul := hg.lt hv ha
      have := h u (by omega)
      rw [has_iandNot (VS.mk _) hs, has_mk hrow, hu] at this
      have ha' : (u : Int) ∈ row g v := ha
      simp [ha'] at this
  refine ⟨_, (loop_listb (elems s) (fun t i => (t, i)) (fun t v => if (iandNot .u32 (mk (row g v.toNat)) s != 0) then ior .u32 t (ishl .u32 1 v) else t) (fun t => t) (fun _ => True) 0 trivial (fun t i hi _ => ⟨?_, trivial⟩) (fun t _ => ?_)), ?_⟩
  · obtain ⟨v, hv, hb, ev⟩ := mem_elems.1 (List.getElem_mem hi)
    have hvn := hr v hb
    have hel := elems_len s
    have e1 : idx (g.map mk) (v : Int) = some (mk (row g v)) := by
      rw [idx_nat (by simpa using hvn)]; simp [row_eq hvn]
    simp only [dlt hi, cond_true, idx_nat hi, Option.bind_some, ev, e1, impl_one_eq, wi (show i < 4611686018427387904 by omega), Int.toNat_natCast]
    cases (iandNot .u32 (mk (row g v)) s != 0) <;> rfl
  · simp only [dnlt, cond_false]
  · have key : ∀ (r : List Int) (t : Int), VS t → (∀ x ∈ r, ∃ v : Nat, x = v ∧ v < g.length) →
        VS (r.foldl (fun t v => if (iandNot .u32 (mk (row g v.toNat)) s != 0) then ior .u32 t (ishl .u32 1 v) else t) t) ∧
        ∀ v, has (r.foldl (fun t v => if (iandNot .u32 (mk (row g v.toNat)) s != 0) then ior .u32 t (ishl .u32 1 v) else t) t) v = true ↔ has t v = true ∨ ((v : Int) ∈ r ∧ ∃ u : Nat, adj g v u ∧ has s u = false) := by
      intro r
      induction r with
      | nil => intro t ht _; exact ⟨ht, fun v => by simp⟩
      | cons x r ih =>
        intro t ht hx
        obtain ⟨w, rfl, hw⟩ := hx x (by simp)
        rw [List.foldl_cons]
        have hc := hcond w hw
        simp only [Int.toNat_natCast]
        by_cases hb : (iandNot .u32 (mk (row g w)) s != 0) = true
        · rw [if_pos hb]
          obtain ⟨i1, i2⟩ := ih (ior .u32 t (ishl .u32 1 (w : Int))) (VS.ior _ _) (fun y hy => hx y (by simp [hy]))
          refine ⟨i1, fun v => (i2 v).trans ?_⟩
          rw [has_ior ht (VS.ishl _ _), has_one (by omega)]
          simp only [Bool.or_eq_true, decide_eq_true_eq, List.mem_cons]
          constructor
          · rintro ((h | rfl) | ⟨h, h'⟩)
            · exact .inl h
            · exact .inr ⟨.inl rfl, hc.1 hb⟩
            · exact .inr ⟨.inr h, h'⟩
          · rintro (h | ⟨h | h, h'⟩)
            · exact .inl (.inl h)
            · exact .inl (.inr (by omega))
            · exact .inr ⟨h, h'⟩
        · rw [if_neg hb]
          obtain ⟨i1, i2⟩ := ih t ht (fun y hy => hx y (by simp [hy]))
          refine ⟨i1, fun v => (i2 v).trans ?_⟩
          simp only [List.mem_cons]
          constructor
          · rintro (h | ⟨h, h'⟩)
            · exact .inl h
            · exact .inr ⟨.inr h, h'⟩
          · rintro (h | ⟨h | h, h'⟩)
            · exact .inl h
            · exfalso
              obtain rfl : v = w := by omega
              exact hb (hc.2 h')
            · exact .inr ⟨h, h'⟩
    obtain ⟨k1, k2⟩ := key (elems s) 0 VS.zero (fun x hx => by
      obtain ⟨v, _, hb, rfl⟩ := mem_elems.1 hx
      exact ⟨v, rfl, hr v hb⟩)
    refine ⟨k1, fun v => (k2 v).trans ?_⟩
    rw [has_zero, mem_elems_nat hs]
    simp
end Go.Sx

/- PathDecomp: the reference's and the program's are one. Plain. -/
namespace Go.Sx
noncomputable def openS (g : List (List Int)) (l : List Int) : List Int := (D.spec_l12Open g l).getD []
theorem openS_spec (g : List (List Int)) (l : List Int) (hg : GOk g) (hl : l.length ≤ 16) (hr : ∀ x ∈ l, 0 ≤ x ∧ x < g.length) :
    D.spec_l12Open g l = some (openS g l) ∧ Inc (openS g l) ∧ ∀ x, x ∈ openS g l ↔ x ∈ l ∧ opn g l x := by
  obtain ⟨s, h1, h2, h3⟩ := l12Open_eq g l hg hl hr
  have : openS g l = s := by unfold openS; rw [h1]; rfl
  rw [this]; exact ⟨h1, h2, h3⟩
noncomputable def bagAt (g : List (List Int)) (o : List Int) (i : Nat) : List Int := into (openS g (o.take i)) (o.getD i 0)
noncomputable def bagsOf (g : List (List Int)) (o : List Int) : List (List Int) := (List.range o.length).map (bagAt g o)
theorem bagsOf_len (g : List (List Int)) (o : List Int) : (bagsOf g o).length = o.length := by simp [bagsOf]

section
variable {g : List (List Int)} {o : List Int} (hg : GOk g) (ho : OOk g o)
include hg ho
theorem take_ok (i : Nat) : (o.take i).length ≤ 16 ∧ ∀ x ∈ o.take i, 0 ≤ x ∧ x < g.length := by
  have := hg.n16; have := ho.len
  exact ⟨by rw [List.length_take]; omega, fun x hx => ho.rng x (List.mem_of_mem_take hx)⟩

theorem has_take (i : Nat) (v : Nat) : has (mk (o.take i)) v = decide ((v : Int) ∈ o.take i) := by
  have := hg.n16
  exact has_mk (fun x hx => by have := (take_ok hg ho i).2 x hx; omega) v
omit hg ho in
theorem mk_take {i : Nat} (hi : i < o.length) : ior .u32 (mk (o.take i)) (ishl .u32 1 o[i]) = mk (o.take (i + 1)) := by
  unfold mk
  rw [List.take_succ_eq_append_getElem hi, List.foldl_append]; rfl

noncomputable def maskAt (g : List (List Int)) (o : List Int) (i : Nat) : Int := ior .u32 ((D.impl_openOf (g.map mk) (mk (o.take i))).getD 0) (ishl .u32 1 (o.getD i 0))
theorem maskAt_spec {i : Nat} (hi : i < o.length) : (∃ t, D.impl_openOf (g.map mk) (mk (o.take i)) = some t ∧ maskAt g o i = ior .u32 t (ishl .u32 1 o[i])) ∧ elems (maskAt g o i) = bagAt g o i := by
  have h16 := hg.n16
  obtain ⟨h1, h2⟩ := take_ok hg ho i
  obtain ⟨t, e, ht, k⟩ := openOf_eq g (mk (o.take i)) hg (VS.mk _) (fun v hv => by
    rw [has_take hg ho i] at hv
    have := h2 _ (of_decide_eq_true hv); omega)
  have hm : maskAt g o i = ior .u32 t (ishl .u32 1 o[i]) := by unfold maskAt; rw [e, getD_lt hi]; rfl
  refine ⟨⟨t, e, hm⟩, ?_⟩
  obtain ⟨k1, k2, k3⟩ := openS_spec g (o.take i) hg h1 h2
  have hoi := ho.rng _ (List.getElem_mem hi)
  obtain ⟨w, ew⟩ : ∃ w : Nat, o[i] = (w : Int) := ⟨o[i].toNat, by omega⟩
  refine Inc.ext (elems_inc _) (k2.into _) (fun x => ?_)
  unfold bagAt
  rw [mem_into, k3, mem_elems, hm, ew, getD_lt hi, ew]
  constructor
  · rintro ⟨v, hv, hb, rfl⟩
    rw [has_ior ht (VS.ishl _ _), has_one (by omega), Bool.or_eq_true, k, has_take hg ho i] at hb
    rcases hb with ⟨h3, u, h4, h5⟩ | h3
    · right
      refine ⟨of_decide_eq_true h3, ?_⟩
      rw [has_take hg ho i] at h5
      exact ⟨(u : Int), by simpa [adj] using h4, of_decide_eq_false h5⟩
    · left; have := of_decide_eq_true h3; omega
  · rintro (rfl | ⟨h3, y, h4, h5⟩)
    · refine ⟨w, by omega, ?_, rfl⟩
      rw [has_ior ht (VS.ishl _ _), has_one (by omega)]; simp
    · have hx := h2 x h3
      obtain ⟨v, rfl⟩ : ∃ v : Nat, x = v := ⟨x.toNat, by omega⟩
      refine ⟨v, by omega, ?_, rfl⟩
      rw [has_ior ht (VS.ishl _ _), Bool.or_eq_true, k, has_take hg ho i]
      left
      refine ⟨by simpa using h3, ?_⟩
      rw [Int.toNat_natCast] at h4
      obtain ⟨u, rfl, hu, ha⟩ := hg.mem (by omega) h4
      exact ⟨u, ha, by rw [has_take hg ho i]; simpa using h5⟩

theorem pathBags_eq : D.impl_pathBags (g.map mk) o = some ((List.range o.length).map (maskAt g o)) := by
  have h16 := hg.n16; have hl := ho.len
  unfold D.impl_pathBags
  refine (loop_to (fun i => ((List.range i).map (maskAt g o), mk (o.take i), (i : Int))) o.length ((List.range o.length).map (maskAt g o)) (by simp [mk]) (fun i hi => ?_) ?_).trans rfl
  · obtain ⟨⟨t, e, hm⟩, _⟩ := maskAt_spec hg ho hi
    have hoi := (ho.rng _ (List.getElem_mem hi)).1
    simp only [dlt hi, cond_true, idx_nat hi, Option.bind_some, wi (show i < 4611686018427387904 by omega), e, impl_one_eq' hoi]
    rw [appendD_ok (by simp; omega), Option.bind_some, mk_take hi, List.range_succ, List.map_append, ← hm]
    rfl
  · simp only [dnlt, cond_false]

theorem impl_PathBags_eq (h2 : Sh2 g) (h3 : Sh o) : D.impl_PathBags g o = some (bagsOf g o) := by
  have h16 := hg.n16; have hl := ho.len
  unfold D.impl_PathBags
  rw [impl_OrderOk_eq g o h2 h3, (gB_iff g).2 hg, (ordB_iff g o).2 ho]
  simp only [Option.bind_some, Bool.and_self, Bool.not_true, cond_false, netsOf_eq g hg, narrow_eq o h3, pathBags_eq hg ho]
  rw [results_eq _ (by unfold Sh; simp; omega) (fun s hs => by
    obtain ⟨i, _, rfl⟩ := List.mem_map.1 hs
    exact VS.ior _ _), Option.bind_some, List.map_map]
  unfold bagsOf
  congr 1
  apply List.map_congr_left
  intro i hi
  exact (maskAt_spec hg ho (List.mem_range.1 hi)).2
end

def linksTo (n : Nat) : List (List Int) := (List.range (n - 1)).map fun (i : Nat) => [(i : Int), ((i + 1 : Nat) : Int)]
theorem linksTo_len (n : Nat) : (linksTo n).length = n - 1 := by simp [linksTo]

end Go.Sx



/- What the laws draw with their dice: graphs that are right, orders that are right. Plain. -/
namespace Go.Sx
/-- dice in order: bytes, and a place among them -/
structure DK (b : List Int) (i : Int) : Prop where
  byte : ∀ x ∈ b, 0 ≤ x ∧ x ≤ 255
  len : b.length ≤ 4096
  i0 : 0 ≤ i
  i1 : i ≤ b.length

theorem iand_u64_le (a : Int) (n : Nat) (hn : n < 18446744073709551616) : 0 ≤ iand .u64 a (n : Int) ∧ iand .u64 a (n : Int) ≤ n := by
  have e : (BitVec.ofInt 64 (n : Int)).toNat = n := by rw [BitVec.toNat_ofInt]; omega
  have h : (BitVec.ofInt 64 a &&& BitVec.ofInt 64 (n : Int)).toNat ≤ n := by
    rw [BitVec.toNat_and, e]; exact Nat.and_le_right
  have w : ∀ m : Nat, m < 18446744073709551616 → IntKind.u64.wrap (m : Int) = m := fun m hm => by
    simp [IntKind.wrap, IntKind.signed, IntKind.bits]; omega
  have e2 : iand .u64 a (n : Int) = (((BitVec.ofInt 64 a &&& BitVec.ofInt 64 (n : Int)).toNat : Nat) : Int) := by
    show IntKind.u64.wrap (((BitVec.ofInt 64 a &&& BitVec.ofInt 64 (n : Int)).toNat : Nat) : Int) = _
    exact w _ (by omega)
  rw [e2]; omega
theorem tmod_rng {x n : Int} (hx : 0 ≤ x) (hn : 0 < n) : 0 ≤ Int.tmod x n ∧ Int.tmod x n < n :=
  ⟨Int.tmod_nonneg _ hx, Int.tmod_lt_of_pos _ hn⟩

theorem below_ok {b : List Int} {i : Int} (h : DK b i) (z n : Int) (hn : 0 < n) : ∃ r i' z', D.laws_dice_below b i z n = some (r, b, i', z') ∧ 0 ≤ r ∧ r < n ∧ DK b i' := by
  obtain ⟨h1, h2, h3, h4⟩ := h
  unfold D.laws_dice_below
  have hn0 : (n == 0) = false := by simp; omega
  have hc : ∀ y : Int, 0 ≤ iand .u64 y 16777215 ∧ iand .u64 y 16777215 ≤ 16777215 := fun y => iand_u64_le y 16777215 (by omega)
  by_cases hi : i < b.length
  · have hb := h1 _ (List.getElem_mem (show i.toNat < b.length by omega))
    simp only [hi, decide_true, cond_true, idx_int h3 hi, Option.bind_some, hn0, cond_false]
    have hy := hc (ishr .u64 (IntKind.u64.wrap ((IntKind.u64.wrap (z * 6364136223846793005)) + 1442695040888963407)) 33)
    generalize iand .u64 (ishr .u64 (IntKind.u64.wrap ((IntKind.u64.wrap (z * 6364136223846793005)) + 1442695040888963407)) 33) 16777215 = y at hy ⊢
    rw [w64 (x := y) (by omega) (by omega), w64 (x := b[i.toNat]) (by omega) (by omega), w64 (x := y + b[i.toNat]) (by omega) (by omega), w64 (x := i + 1) (by omega) (by omega)]
    have hr := tmod_rng (x := y + b[i.toNat]) (n := n) (by omega) hn
    exact ⟨_, _, _, rfl, hr.1, hr.2, h1, h2, by omega, by omega⟩
  · simp only [hi, decide_false, cond_false, hn0]
    have hy := hc (ishr .u64 (IntKind.u64.wrap ((IntKind.u64.wrap (z * 6364136223846793005)) + 1442695040888963407)) 33)
    generalize iand .u64 (ishr .u64 (IntKind.u64.wrap ((IntKind.u64.wrap (z * 6364136223846793005)) + 1442695040888963407)) 33) 16777215 = y at hy ⊢
    rw [w64 (x := y) (by omega) (by omega)]
    have hr := tmod_rng (x := y) (n := n) (by omega) hn
    exact ⟨_, _, _, rfl, hr.1, hr.2, h1, h2, h3, h4⟩

theorem below_then {b : List Int} {i : Int} (h : DK b i) (z n : Int) (hn : 0 < n) : ∃ y, D.laws_dice_below b i z n = some y ∧ (0 ≤ y.1 ∧ y.1 < n ∧ y.2.1 = b ∧ DK b y.2.2.1) := by
  obtain ⟨r, i', z', e, h1, h2, h3⟩ := below_ok h z n hn
  exact ⟨_, e, h1, h2, rfl, h3⟩
theorem roll_ok (code : List Int) (seed : Int) (h : ∀ x ∈ code, 0 ≤ x ∧ x ≤ 255) (hl : code.length ≤ 4096) : ∃ z, D.laws_roll code seed = some (code, 0, z) ∧ DK code 0 := by
  unfold D.laws_roll
  refine ⟨_, (loop_listb code (fun s i => (i, s)) (fun s e => IntKind.u64.wrap ((IntKind.u64.wrap ((IntKind.u64.wrap (s * 1099511628211)) + (IntKind.u64.wrap e))) + 3)) (fun s => s) (fun _ => True) _ trivial (fun s i hi _ => ⟨?_, trivial⟩) (fun s _ => ?_)).trans rfl, h, hl, by omega, by omega⟩
  · simp only [dlt hi, cond_true, idx_nat hi, Option.bind_some, wi (show i < 4611686018427387904 by omega)]
  · simp only [dnlt, cond_false]

/-! ### a graph out of edges -/
theorem l1Empty_eq (n : Nat) (hn : n ≤ 16) : D.spec_l1Empty (n : Int) = some (List.replicate n []) := by
  unfold D.spec_l1Empty
  refine (loop_to (fun i => ((i : Int), List.replicate i [])) n (List.replicate n []) (by simp) (fun i hi => ?_) ?_).trans rfl
  · simp only [dlt hi, cond_true, wi (show i < 4611686018427387904 by omega)]
    rw [appendD_ok (by simp; omega), Option.bind_some, ← List.replicate_succ']
  · simp only [dnlt, cond_false]

theorem row_set {g : List (List Int)} {u v : Nat} {r : List Int} (hu : u < g.length) : row (g.set u r) v = if v = u then r else row g v := by
  unfold row
  by_cases h : v = u
  · subst h; simp [hu]
  · rw [if_neg h, List.getD_eq_getElem?_getD, List.getElem?_set_ne (fun e => h e.symm), ← List.getD_eq_getElem?_getD]

theorem l1Link_ok {g : List (List Int)} (hg : GOk g) {u v : Nat} (hu : u < g.length) (hv : v < g.length) (huv : u ≠ v) :
    ∃ g', D.spec_l1Link g (u : Int) (v : Int) = some g' ∧ GOk g' ∧ g'.length = g.length ∧ ∀ a b, adj g' a b ↔ adj g a b ∨ (a = u ∧ b = v) ∨ (a = v ∧ b = u) := by
  have h16 := hg.n16
  have hru := hg.rows u hu; have hrv := hg.rows v hv
  have hlu := hg.row_len hu; have hlv := hg.row_len hv
  refine ⟨(g.set u (into (row g u) v)).set v (into (row g v) u), ?_, ?_⟩
  · unfold D.spec_l1Link
    have e1 : row (g.set u (into (row g u) v)) v = row g v := by rw [row_set hu, if_neg (Ne.symm huv)]
    simp only [idx_row hu, Option.bind_some, l1Into_eq _ _ hru.1 (show (row g u).length ≤ 4294967295 by omega), Int.toNat_natCast]
    rw [idx_row (show v < (g.set u (into (row g u) v)).length by simpa using hv), e1]
    simp only [Option.bind_some, l1Into_eq _ _ hrv.1 (show (row g v).length ≤ 4294967295 by omega)]
  · have hrow : ∀ w, row ((g.set u (into (row g u) v)).set v (into (row g v) u)) w = if w = v then into (row g v) u else if w = u then into (row g u) v else row g w := by
      intro w
      rw [row_set (by simpa using hv), row_set hu]
    have hadj : ∀ a b, adj ((g.set u (into (row g u) v)).set v (into (row g v) u)) a b ↔ adj g a b ∨ (a = u ∧ b = v) ∨ (a = v ∧ b = u) := by
      intro a b
      unfold adj
      rw [hrow]
      by_cases ha : a = v
      · subst ha
        rw [if_pos rfl, mem_into]
        constructor
        · rintro (h | h)
          · exact .inr (.inr ⟨rfl, by omega⟩)
          · exact .inl h
        · rintro (h | ⟨h, _⟩ | ⟨_, h⟩)
          · exact .inr h
          · exact absurd h.symm huv
          · exact .inl (by omega)
      · rw [if_neg ha]
        by_cases ha' : a = u
        · subst ha'
          rw [if_pos rfl, mem_into]
          constructor
          · rintro (h | h)
            · exact .inr (.inl ⟨rfl, by omega⟩)
            · exact .inl h
          · rintro (h | ⟨_, h⟩ | ⟨h, _⟩)
            · exact .inr h
            · exact .inl (by omega)
            · exact absurd h ha
        · rw [if_neg ha']
          constructor
          · exact .inl
          · rintro (h | ⟨h, _⟩ | ⟨h, _⟩)
            · exact h
            · exact absurd h ha'
            · exact absurd h ha
    refine ⟨⟨by simpa using hg.n1, by simpa using h16, fun w hw => ?_, fun w hw => ?_, fun a b ha hab => ?_⟩, by simp, hadj⟩
    · simp only [List.length_set] at hw ⊢
      rw [hrow]
      split
      · refine ⟨hrv.1.into _, fun x hx => ?_⟩
        rcases mem_into.1 hx with rfl | hx
        · omega
        · exact hrv.2 x hx
      · split
        · refine ⟨hru.1.into _, fun x hx => ?_⟩
          rcases mem_into.1 hx with rfl | hx
          · omega
          · exact hru.2 x hx
        · exact hg.rows w hw
    · simp only [List.length_set] at hw
      rw [hadj]
      rintro (h | ⟨h1, h2⟩ | ⟨h1, h2⟩)
      · exact hg.irr w hw h
      · omega
      · omega
    · simp only [List.length_set] at ha
      rw [hadj] at hab ⊢
      rcases hab with h | h | h
      · exact .inl (hg.sym a b ha h)
      · exact .inr (.inr ⟨h.2, h.1⟩)
      · exact .inr (.inl ⟨h.2, h.1⟩)

theorem GOk.empty {n : Nat} (h1 : 1 ≤ n) (h16 : n ≤ 16) : GOk (List.replicate n []) := by
  have hr : ∀ v, row (List.replicate n []) v = [] := fun v => by
    unfold row
    rw [List.getD_eq_getElem?_getD, List.getElem?_replicate]; split <;> rfl
  refine ⟨by simpa using h1, by simpa using h16, fun v _ => ?_, fun v _ => ?_, fun u v _ h => ?_⟩
  · rw [hr]; exact ⟨by simp [Inc], by simp⟩
  · unfold adj; rw [hr]; simp
  · unfold adj at h; rw [hr] at h; simp at h

/-- two vertices, the lesser one first -/
def EdgeIn (n : Nat) (e : List Int) : Prop := ∃ a b : Nat, e = [(a : Int), (b : Int)] ∧ a < b ∧ b < n
theorem setB_edge {n : Nat} {a b : Nat} (h : a < b) (hb : b < n) : setB [(a : Int), (b : Int)] n = true := by
  rw [setB_iff]
  refine ⟨by simp [Inc]; omega, fun x hx => ?_⟩
  simp at hx
  rcases hx with rfl | rfl <;> omega

theorem GraphOf_ok (n : Nat) (edges : List (List Int)) (h1 : 1 ≤ n) (h16 : n ≤ 16) (he : edges.length ≤ 120) (hE : ∀ e ∈ edges, EdgeIn n e) :
    ∃ g, D.spec_GraphOf (n : Int) edges = some (g, true) ∧ GOk g ∧ g.length = n ∧ ∀ a b : Nat, adj g a b ↔ ([(a : Int), (b : Int)] ∈ edges ∧ a < b) ∨ ([(b : Int), (a : Int)] ∈ edges ∧ b < a) := by
  unfold D.spec_GraphOf
  rw [l1In_eq]
  have e1 : (decide ((1 : Int) ≤ (n : Int)) && decide ((n : Int) ≤ 16)) = true := by simp; omega
  have e2 : decide ((120 : Int) < (edges.length : Int)) = false := by simp; omega
  simp only [Option.bind_some, e1, e2, Bool.not_true, Bool.or_false, cond_false, l1Empty_eq n h16]
  have key : ∀ (k i : Nat) (g : List (List Int)), i + k = edges.length → GOk g → g.length = n → (∀ a b : Nat, adj g a b ↔ ([(a : Int), (b : Int)] ∈ edges.take i ∧ a < b) ∨ ([(b : Int), (a : Int)] ∈ edges.take i ∧ b < a)) →
      ∃ g', loopF (σ := Int × (List (List Int))) (ρ := ((List (List Int))) ⊕ (((List (List Int))) × Bool)) (fun (s_217 : Int × (List (List Int))) => match s_217 with | (x_220, l_221) => cond (decide (x_220 < (edges.length : Int))) ((idx edges x_220).bind fun e_319 => (cond ((e_319.length : Int) != 2) (some true) ((idx edges x_220).bind fun e_356 => (D.spec_l1Set e_356 (n : Int)).bind fun y_362 => some (!y_362))).bind fun b_354 => cond b_354 (some (.inr (.inr (([] : List (List Int)), false)))) ((idx edges x_220).bind fun e_375 => (idx e_375 0).bind fun e_381 => (idx edges x_220).bind fun e_387 => (idx e_387 1).bind fun e_393 => (D.spec_l1Link l_221 e_381 e_393).bind fun y_401 => some (.inl ((IntKind.i64.wrap (x_220 + 1)), y_401)))) (some (.inr (.inl l_221)))) ((i : Int), g) = some (.inl g') ∧ GOk g' ∧ g'.length = n ∧ (∀ a b : Nat, adj g' a b ↔ ([(a : Int), (b : Int)] ∈ edges ∧ a < b) ∨ ([(b : Int), (a : Int)] ∈ edges ∧ b < a)) := by
    intro k
    induction k with
    | zero =>
      intro i g hi hg hl ha
      obtain rfl : i = edges.length := by omega
      rw [List.take_length] at ha
      exact ⟨g, loopF_done (by simp only [dnlt, cond_false]), hg, hl, ha⟩
    | succ k ih =>
      intro i g hi hg hl ha
      have hil : i < edges.length := by omega
      obtain ⟨a, b, eab, hab, hbn⟩ := hE _ (List.getElem_mem hil)
      obtain ⟨g', k1, k2, k3, k4⟩ := l1Link_ok hg (u := a) (v := b) (by omega) (by omega) (by omega)
      obtain ⟨g'', m1, m2⟩ := ih (i + 1) g' (by omega) k2 (by omega) (fun c d => by
        rw [k4, ha, List.take_succ_eq_append_getElem hil]
        simp only [List.mem_append, List.mem_singleton, eab, List.cons.injEq, and_true]
        constructor
        · rintro ((⟨h, h'⟩ | ⟨h, h'⟩) | ⟨rfl, rfl⟩ | ⟨rfl, rfl⟩)
          · exact .inl ⟨.inl h, h'⟩
          · exact .inr ⟨.inl h, h'⟩
          · exact .inl ⟨.inr ⟨rfl, rfl⟩, hab⟩
          · exact .inr ⟨.inr ⟨rfl, rfl⟩, hab⟩
        · rintro (⟨h | ⟨h, h2⟩, h'⟩ | ⟨h | ⟨h, h2⟩, h'⟩)
          · exact .inl (.inl ⟨h, h'⟩)
          · exact .inr (.inl ⟨by omega, by omega⟩)
          · exact .inl (.inr ⟨h, h'⟩)
          · exact .inr (.inr ⟨by omega, by omega⟩))
      refine ⟨g'', ?_, m2⟩
      rw [loopF_more (s' := (((i + 1 : Nat) : Int), g'))]
      · exact m1
      · have h0 : idx [(a : Int), (b : Int)] 0 = some (a : Int) := rfl
        have h1' : idx [(a : Int), (b : Int)] 1 = some (b : Int) := rfl
        have hlen : ((([(a : Int), (b : Int)]).length : Int) != 2) = false := rfl
        simp only [dlt hil, cond_true, idx_nat hil, eab, Option.bind_some, hlen, cond_false, l1Set_eq [(a : Int), (b : Int)] n (by simp [Sh]) (by omega) (by omega), setB_edge hab hbn, Bool.not_true, h0, h1', k1, wi (show i < 4611686018427387904 by omega)]
  obtain ⟨g', m1, m2, m3, m4⟩ := key edges.length 0 (List.replicate n []) (by omega) (GOk.empty h1 h16) (by simp) (fun a b => by
    unfold adj row
    rw [List.getD_eq_getElem?_getD, List.getElem?_replicate]
    split <;> simp)
  refine ⟨g', ?_, m2, m3, m4⟩
  rw [show ((0 : Nat) : Int) = 0 from rfl] at m1
  rw [m1]; rfl
end Go.Sx

/- Drawn graphs and drawn orders are right. Plain. -/
namespace Go.Sx
theorem w9Graph_ok {b : List Int} {i : Int} (h : DK b i) (z : Int) (most : Nat) (h1 : 1 ≤ most) (h8 : most ≤ 8) :
    ∃ y, D.laws_w9Graph b i z (most : Int) = some y ∧ (GOk y.1 ∧ y.1.length ≤ most ∧ y.2.1 = b ∧ DK b y.2.2.1) := by
  unfold D.laws_w9Graph
  refine bind_then _ (below_then h z most (by omega)) ?_
  rintro ⟨r, b1, i1, z1⟩ ⟨r0, r1, rfl, k1⟩
  dsimp only at r0 r1 k1 ⊢
  refine bind_then _ (below_then k1 z1 3 (by omega)) ?_
  rintro ⟨q, b2, i2, z2⟩ ⟨q0, q1, rfl, k2⟩
  dsimp only at q0 q1 k2 ⊢
  obtain ⟨n, en, en'⟩ : ∃ n : Nat, IntKind.i64.wrap (1 + r) = (n : Int) ∧ (n : Int) = 1 + r := ⟨(1 + r).toNat, by rw [w64 (by omega) (by omega)]; omega, by omega⟩
  rw [en]
  refine loop_then (fun s => ∃ v : Nat, s.2.1 = (v : Int) ∧ 1 ≤ v ∧ v ≤ n ∧ s.2.2.1 = b2 ∧ DK b2 s.2.2.2.1 ∧ s.1.length ≤ 8 * v + v ∧ ∀ e ∈ s.1, EdgeIn n e) (fun s => n - s.2.1.toNat)
    (fun r => r.2.1 = b2 ∧ DK b2 r.2.2.1 ∧ r.1.length ≤ 120 ∧ ∀ e ∈ r.1, EdgeIn n e) ?_ ?_ ?_
  · rintro ⟨l, _, b2, i, z⟩ ⟨v, rfl, g1, g2, rfl, hk, hl, hE⟩
    dsimp only at hk hl hE ⊢
    by_cases hv : v < n
    · simp only [dlt hv, cond_true]
      refine loop_then (fun s => ∃ u : Nat, s.2.1 = (u : Int) ∧ u ≤ v ∧ s.2.2.1 = b2 ∧ DK b2 s.2.2.2.1 ∧ s.1.length ≤ 8 * v + v + u ∧ ∀ e ∈ s.1, EdgeIn n e) (fun s => v - s.2.1.toNat)
        (fun r => r.2.1 = b2 ∧ DK b2 r.2.2.1 ∧ r.1.length ≤ 8 * v + v + v ∧ ∀ e ∈ r.1, EdgeIn n e) ?_ ⟨0, rfl, by omega, rfl, hk, by dsimp only; omega, hE⟩ ?_
      · rintro ⟨l, _, b2, i, z⟩ ⟨u, rfl, g3, rfl, hk, hl, hE⟩
        dsimp only at hk hl hE ⊢
        by_cases hu : u < v
        · simp only [dlt hu, cond_true]
          refine bind_then _ (below_then hk z 4 (by omega)) ?_
          rintro ⟨t, b2, i3, z3⟩ ⟨t0, t1, rfl, hk'⟩
          dsimp only at t0 t1 hk' ⊢
          by_cases hc : t < IntKind.i64.wrap (1 + q)
          · simp only [hc, decide_true, cond_true, wi (show u < 4611686018427387904 by omega)]
            rw [appendD_ok (by simp; omega), Option.bind_some]
            refine ⟨_, rfl, ⟨u + 1, rfl, by omega, rfl, hk', by simp; omega, fun e he => ?_⟩, by dsimp only; omega⟩
            rcases List.mem_append.1 he with he | he
            · exact hE e he
            · simp at he; subst he; exact ⟨u, v, rfl, hu, hv⟩
          · simp only [hc, decide_false, cond_false, wi (show u < 4611686018427387904 by omega)]
            exact ⟨_, rfl, ⟨u + 1, rfl, by omega, rfl, hk', by dsimp only; omega, hE⟩, by dsimp only; omega⟩
        · obtain rfl : u = v := by omega
          simp only [dnlt, cond_false]
          exact ⟨_, rfl, rfl, hk, by dsimp only; omega, hE⟩
      · rintro ⟨l, b2, i3, z3⟩ ⟨rfl, hk', hl', hE'⟩
        dsimp only at hk' hl' hE' ⊢
        simp only [wi (show v < 4611686018427387904 by omega)]
        exact ⟨_, rfl, ⟨v + 1, rfl, by omega, by omega, rfl, hk', by dsimp only; omega, hE'⟩, by dsimp only; omega⟩
    · obtain rfl : v = n := by omega
      simp only [dnlt, cond_false]
      exact ⟨_, rfl, rfl, hk, by dsimp only; omega, hE⟩
  · exact ⟨1, rfl, by omega, by omega, rfl, k2, by simp, by simp⟩
  · rintro ⟨l, b2, i3, z3⟩ ⟨rfl, hk, hl, hE⟩
    dsimp only at hk hl hE ⊢
    obtain ⟨g, m1, m2, m3, _⟩ := GraphOf_ok n l (by omega) (by omega) hl hE
    rw [m1, Option.bind_some]
    exact ⟨_, rfl, m2, by dsimp only; omega, rfl, hk⟩

theorem insert_perm (o : List Int) (c : Nat) (v : Int) : (o.take c ++ [v] ++ o.drop c).Perm (v :: o) := by
  rw [List.append_assoc]
  have h1 : (o.take c ++ ([v] ++ o.drop c)).Perm (v :: (o.take c ++ o.drop c)) := List.perm_middle
  rwa [List.take_append_drop] at h1

theorem w9Order_ok {b : List Int} {i : Int} (h : DK b i) (z : Int) (n : Nat) (h16 : n ≤ 16) :
    ∃ y, D.laws_w9Order b i z (n : Int) = some y ∧ (y.1.length = n ∧ (∀ x ∈ y.1, 0 ≤ x ∧ x < n) ∧ y.1.Nodup ∧ y.2.1 = b ∧ DK b y.2.2.1) := by
  unfold D.laws_w9Order
  refine loop_then (fun s => ∃ v : Nat, s.2.1 = (v : Int) ∧ v ≤ n ∧ s.2.2.1 = b ∧ DK b s.2.2.2.1 ∧ s.1.length = v ∧ (∀ x ∈ s.1, 0 ≤ x ∧ x < v) ∧ s.1.Nodup) (fun s => n - s.2.1.toNat)
    (fun r => r.1.length = n ∧ (∀ x ∈ r.1, 0 ≤ x ∧ x < n) ∧ r.1.Nodup ∧ r.2.1 = b ∧ DK b r.2.2.1) ?_ ⟨0, rfl, by omega, rfl, h, rfl, by simp, by simp⟩ ?_
  · rintro ⟨o, _, _, i, z⟩ ⟨v, rfl, hv, rfl, hk, hl, hr, hn⟩
    dsimp only at hk hl hr hn ⊢
    by_cases hvn : v < n
    · have ew : IntKind.i64.wrap ((o.length : Int) + 1) = (v : Int) + 1 := by rw [w64 (by omega) (by omega)]; omega
      simp only [dlt hvn, cond_true, ew]
      refine bind_then _ (below_then hk z ((v : Int) + 1) (by omega)) ?_
      rintro ⟨t, b3, i3, z3⟩ ⟨t0, t1, rfl, hk'⟩
      dsimp only at t0 t1 hk' ⊢
      obtain ⟨c, rfl⟩ : ∃ c : Nat, t = c := ⟨t.toNat, by omega⟩
      have hc : c ≤ o.length := by omega
      simp only [sliceD_pre hc, sliceD_post hc, Option.bind_some]
      rw [appendD_ok (by simp; omega), Option.bind_some, appendD_ok (by simp; omega), Option.bind_some, appendD_ok (by simp; omega), Option.bind_some, wi (show v < 4611686018427387904 by omega)]
      have hp := insert_perm o c v
      rw [List.nil_append]
      refine ⟨_, rfl, ⟨v + 1, rfl, by omega, rfl, hk', by rw [hp.length_eq]; simp; omega, fun x hx => ?_, hp.nodup_iff.2 (List.nodup_cons.2 ⟨fun hm => by have := hr _ hm; omega, hn⟩)⟩, by dsimp only; omega⟩
      rcases List.mem_cons.1 (hp.mem_iff.1 hx) with rfl | hx
      · omega
      · have := hr x hx; omega
    · obtain rfl : v = n := by omega
      simp only [dnlt, cond_false]
      exact ⟨_, rfl, hl, hr, hn, rfl, hk⟩
  · rintro ⟨o, b3, i3, z3⟩ ⟨h1, h2, h3, rfl, h5⟩
    exact ⟨_, rfl, h1, h2, h3, rfl, h5⟩
end Go.Sx

/- Trees of bags: the reference's own check, where it answers true. Plain. -/
namespace Go.Sx
theorem nodup_le : ∀ {l m : List Int}, l.Nodup → (∀ x ∈ l, x ∈ m) → l.length ≤ m.length
  | [], _, _, _ => by simp
  | x :: l, m, h, hs => by
    have h' := List.nodup_cons.1 h
    have hx := hs x (by simp)
    have := nodup_le (l := l) (m := m.erase x) h'.2 (fun y hy => by
      have hne : y ≠ x := fun e => h'.1 (e ▸ hy)
      exact (List.mem_erase_of_ne hne).2 (hs y (by simp [hy])))
    rw [List.length_erase_of_mem hx] at this
    have hp : 0 < m.length := List.length_pos_of_mem hx
    simp; omega
theorem nodup_all {l m : List Int} (hl : l.Nodup) (hm : m.Nodup) (h : ∀ x ∈ l, x ∈ m) (h' : ∀ x ∈ m, x ∈ l) : l.length = m.length :=
  Nat.le_antisymm (nodup_le hl h) (nodup_le hm h')
theorem Inc.nodup {l : List Int} (h : Inc l) : l.Nodup := List.Pairwise.imp (fun h e => by omega) h

/-- which bags have a vertex -/
def withV (bags : List (List Int)) (v : Int) : List Int := ((List.range bags.length).filter fun b => decide (v ∈ bags.getD b [])).map Int.ofNat
theorem mem_withV {bags : List (List Int)} {v x : Int} : x ∈ withV bags v ↔ ∃ b : Nat, x = b ∧ b < bags.length ∧ v ∈ bags.getD b [] := by
  unfold withV
  rw [List.mem_map]
  constructor
  · rintro ⟨b, hb, rfl⟩
    rw [List.mem_filter, List.mem_range] at hb
    exact ⟨b, rfl, hb.1, of_decide_eq_true hb.2⟩
  · rintro ⟨b, rfl, h1, h2⟩
    exact ⟨b, List.mem_filter.2 ⟨List.mem_range.2 h1, decide_eq_true h2⟩, rfl⟩
theorem withV_inc (bags : List (List Int)) (v : Int) : Inc (withV bags v) := by
  unfold withV Inc
  rw [List.pairwise_map]
  refine List.Pairwise.filter _ ?_
  refine List.Pairwise.imp ?_ (List.pairwise_lt_range (n := bags.length))
  intro a b h
  show (a : Int) < (b : Int)
  omega
/-- linked -/
def Lk (links : List (List Int)) (x y : Int) : Prop := [x, y] ∈ links ∨ [y, x] ∈ links
/-- m has the first of sel, and with each what is linked in sel -/
structure Closed (links : List (List Int)) (sel m : List Int) : Prop where
  sub : ∀ x ∈ m, x ∈ sel
  first : ∀ x, sel.head? = some x → x ∈ m
  step : ∀ x ∈ m, ∀ y ∈ sel, Lk links x y → y ∈ m

/-- all of sel hangs together -/
def Conn (links : List (List Int)) (sel : List Int) : Prop := ∀ m, Closed links sel m → ∀ x ∈ sel, x ∈ m
end Go.Sx

/- A tree of bags that is right, by the reference's own check. Plain. -/
namespace Go.Sx
/-- a link of two bags, the lesser one first -/
def LinkIn (n : Nat) (l : List Int) : Prop := ∃ a b : Nat, l = [(a : Int), (b : Int)] ∧ a < b ∧ b < n

/-- what a tree of bags of a graph is -/
structure TB (g bags links : List (List Int)) : Prop where
  n1 : 1 ≤ bags.length
  n16 : bags.length ≤ 16
  many : links.length + 1 = bags.length
  lks : ∀ l ∈ links, LinkIn bags.length l
  sets : ∀ b ∈ bags, SetOf b g.length
  tree : Conn links ((List.range bags.length).map Int.ofNat)
  edges : ∀ u v : Nat, u < g.length → adj g u v → ∃ b ∈ bags, (u : Int) ∈ b ∧ (v : Int) ∈ b
  some : ∀ v, v < g.length → withV bags v ≠ []
  conn : ∀ v, v < g.length → Conn links (withV bags v)

end Go.Sx

/- The bags of an order are a tree of bags, as wide as the order's separation; FnPathDecomp, plain. -/
namespace Go.Sx
section
variable {g : List (List Int)} {o : List Int} (hg : GOk g) (ho : OOk g o)
include hg ho

theorem bagsOf_get {i : Nat} (hi : i < o.length) : (bagsOf g o).getD i [] = bagAt g o i := by
  rw [getD_lt (by rw [bagsOf_len]; exact hi)]; simp [bagsOf]
theorem mem_bagAt {i : Nat} (hi : i < o.length) {x : Int} : x ∈ bagAt g o i ↔ x = o[i] ∨ (x ∈ o.take i ∧ opn g (o.take i) x) := by
  obtain ⟨h1, h2⟩ := take_ok hg ho i
  obtain ⟨_, _, k3⟩ := openS_spec g (o.take i) hg h1 h2
  unfold bagAt
  rw [mem_into, k3, getD_lt hi]
theorem bagAt_set {i : Nat} (hi : i < o.length) : SetOf (bagAt g o i) g.length := by
  obtain ⟨h1, h2⟩ := take_ok hg ho i
  obtain ⟨_, k2, _⟩ := openS_spec g (o.take i) hg h1 h2
  refine ⟨k2.into _, fun x hx => ?_⟩
  rcases (mem_bagAt hg ho hi).1 hx with rfl | ⟨h, _⟩
  · exact ho.rng _ (List.getElem_mem hi)
  · exact h2 x h
theorem notin_take {i : Nat} (hi : i < o.length) : o[i] ∉ o.take i := nodup_iff.1 ho.nd i hi
theorem bagAt_len {i : Nat} (hi : i < o.length) : (bagAt g o i).length = (openS g (o.take i)).length + 1 := by
  obtain ⟨h1, h2⟩ := take_ok hg ho i
  obtain ⟨_, k2, k3⟩ := openS_spec g (o.take i) hg h1 h2
  have hn : o[i] ∉ openS g (o.take i) := fun h => notin_take hg ho hi ((k3 _).1 h).1
  have h3 : (o[i] :: openS g (o.take i)).Nodup := List.nodup_cons.2 ⟨hn, k2.nodup⟩
  have := nodup_all (bagAt_set hg ho hi).1.nodup h3 (fun x hx => by
    rcases (mem_bagAt hg ho hi).1 hx with rfl | h
    · simp
    · exact List.mem_cons_of_mem _ ((k3 x).2 h)) (fun x hx => by
    rcases List.mem_cons.1 hx with rfl | h
    · exact (mem_bagAt hg ho hi).2 (.inl rfl)
    · exact (mem_bagAt hg ho hi).2 (.inr ((k3 x).1 h)))
  simpa using this

/-- the places of an order: every vertex has one -/
theorem place {v : Nat} (hv : v < g.length) : ∃ i, ∃ h : i < o.length, o[i] = (v : Int) := by
  have hsub : ∀ x ∈ o, x ∈ (List.range g.length).map Int.ofNat := fun x hx => by
    have := ho.rng x hx
    exact List.mem_map.2 ⟨x.toNat, List.mem_range.2 (by omega), by show ((x.toNat : Nat) : Int) = x; omega⟩
  have hm : (v : Int) ∈ o := by
    apply Classical.byContradiction
    intro hn
    have h1 : ((v : Int) :: o).Nodup := List.nodup_cons.2 ⟨hn, ho.nd⟩
    have := nodup_le h1 (m := (List.range g.length).map Int.ofNat) (fun x hx => by
      rcases List.mem_cons.1 hx with rfl | hx
      · exact List.mem_map.2 ⟨v, List.mem_range.2 hv, rfl⟩
      · exact hsub x hx)
    have := ho.len
    simp at *
    omega
  obtain ⟨i, hi, e⟩ := List.getElem_of_mem hm
  exact ⟨i, hi, e⟩

omit hg ho in
theorem linksTo_mem {n : Nat} {x y : Int} : [x, y] ∈ linksTo n ↔ ∃ i : Nat, i + 1 < n ∧ x = i ∧ y = ((i + 1 : Nat) : Int) := by
  unfold linksTo
  rw [List.mem_map]
  constructor
  · rintro ⟨i, hi, e⟩
    rw [List.mem_range] at hi
    simp at e
    exact ⟨i, by omega, e.1.symm, by omega⟩
  · rintro ⟨i, h1, rfl, rfl⟩
    exact ⟨i, List.mem_range.2 (by omega), rfl⟩

omit hg ho in
/-- a run of numbers hangs together -/
theorem conn_run {n : Nat} {sel : List Int} (hne : sel ≠ []) (hr : ∀ x ∈ sel, ∃ i : Nat, x = i ∧ i < n) (hinc : Inc sel) (hd : ∀ i : Nat, ((i + 1 : Nat) : Int) ∈ sel → (∃ j ∈ sel, j < ((i + 1 : Nat) : Int)) → (i : Int) ∈ sel) : Conn (linksTo n) sel := by
  obtain ⟨x0, sel', rfl⟩ : ∃ x l, sel = x :: l := by cases sel with
    | nil => exact absurd rfl hne
    | cons x l => exact ⟨x, l, rfl⟩
  have hmin : ∀ x ∈ x0 :: sel', x0 ≤ x := fun x hx => by
    rcases List.mem_cons.1 hx with rfl | hx
    · exact Int.le_refl _
    · have := (List.pairwise_cons.1 hinc).1 x hx; omega
  intro m hm
  have key : ∀ i : Nat, (i : Int) ∈ x0 :: sel' → (i : Int) ∈ m := by
    intro i
    induction i with
    | zero =>
      intro h
      obtain ⟨k, ek, _⟩ := hr x0 (by simp)
      have := hmin _ h
      have : x0 = ((0 : Nat) : Int) := by omega
      rw [← this]; exact hm.first x0 rfl
    | succ i ih =>
      intro h
      by_cases hc : x0 = ((i + 1 : Nat) : Int)
      · rw [← hc]; exact hm.first x0 rfl
      · have h1 := hd i h ⟨x0, by simp, by have := hmin _ h; omega⟩
        have h2 := ih h1
        obtain ⟨k, ek, hk⟩ := hr _ h
        exact hm.step _ h2 _ h (.inl (linksTo_mem.2 ⟨i, by omega, rfl, rfl⟩))
  intro x hx
  obtain ⟨i, rfl, _⟩ := hr x hx
  exact key i hx

theorem path_TB : TB g (bagsOf g o) (linksTo o.length) := by
  have h16 := hg.n16; have hn1 := hg.n1; have hl := ho.len
  have hbl := bagsOf_len g o
  refine ⟨by omega, by omega, by rw [linksTo_len]; omega, fun l hl' => ?_, fun b hb => ?_, ?_, fun u v hu hav => ?_, fun v hv => ?_, fun v hv => ?_⟩
  · obtain ⟨i, hi, rfl⟩ := List.mem_map.1 hl'
    rw [List.mem_range] at hi
    exact ⟨i, i + 1, rfl, by omega, by omega⟩
  · obtain ⟨i, hi, rfl⟩ := List.mem_map.1 hb
    exact bagAt_set hg ho (List.mem_range.1 hi)
  · rw [hbl]
    refine conn_run (by intro hc; have := congrArg List.length hc; rw [List.length_map, List.length_range, List.length_nil] at this; omega) (fun x hx => ?_) ?_ (fun i hi _ => ?_)
    · obtain ⟨i, hi, rfl⟩ := List.mem_map.1 hx
      exact ⟨i, rfl, List.mem_range.1 hi⟩
    · unfold Inc
      rw [List.pairwise_map]
      refine List.Pairwise.imp ?_ (List.pairwise_lt_range (n := o.length))
      intro a b h
      show (a : Int) < (b : Int)
      omega
    · obtain ⟨k, hk, e⟩ := List.mem_map.1 hi
      have e' : (k : Int) = ((i + 1 : Nat) : Int) := e
      exact List.mem_map.2 ⟨i, List.mem_range.2 (by have := List.mem_range.1 hk; omega), rfl⟩
  · have hv := hg.lt hu hav
    obtain ⟨i, hi, ei⟩ := place hg ho hu
    obtain ⟨j, hj, ej⟩ := place hg ho hv
    -- the later one's bag has both
    have both : ∀ (a b : Nat) (p q : Nat) (hp : p < o.length) (hq : q < o.length), o[p] = (a : Int) → o[q] = (b : Int) → p < q → adj g a b → ∃ bag ∈ bagsOf g o, (a : Int) ∈ bag ∧ (b : Int) ∈ bag := by
      intro a b p q hp hq ep eq hpq hab
      refine ⟨bagAt g o q, List.mem_map.2 ⟨q, List.mem_range.2 hq, rfl⟩, (mem_bagAt hg ho hq).2 (.inr ⟨mem_take_iff.2 ⟨p, hp, hpq, ep⟩, ?_⟩), (mem_bagAt hg ho hq).2 (.inl eq.symm)⟩
      refine ⟨(b : Int), by rw [Int.toNat_natCast]; exact hab, ?_⟩
      rw [← eq]; exact notin_take hg ho hq
    have hne : i ≠ j := by
      intro e; subst e
      have : u = v := by omega
      subst this
      exact hg.irr u hu hav
    rcases Nat.lt_or_gt_of_ne hne with h | h
    · exact both u v i j hi hj ei ej h hav
    · obtain ⟨b, h1, h2, h3⟩ := both v u j i hj hi ej ei h (hg.sym u v hu hav)
      exact ⟨b, h1, h3, h2⟩
  · obtain ⟨i, hi, ei⟩ := place hg ho hv
    intro hc
    have : (i : Int) ∈ withV (bagsOf g o) v := mem_withV.2 ⟨i, rfl, by omega, by rw [bagsOf_get hg ho hi]; exact (mem_bagAt hg ho hi).2 (.inl ei.symm)⟩
    rw [hc] at this; simp at this
  · obtain ⟨i0, hi0, ei0⟩ := place hg ho hv
    have hmem : ∀ i : Nat, (i : Int) ∈ withV (bagsOf g o) v ↔ i < o.length ∧ (v : Int) ∈ bagAt g o i := by
      intro i
      rw [mem_withV]
      constructor
      · rintro ⟨b, e, hb, h⟩
        obtain rfl : i = b := by omega
        rw [hbl] at hb
        rw [bagsOf_get hg ho hb] at h
        exact ⟨hb, h⟩
      · rintro ⟨h1, h2⟩
        exact ⟨i, rfl, by omega, by rw [bagsOf_get hg ho h1]; exact h2⟩
    refine conn_run (by
      intro hc
      have : (i0 : Int) ∈ withV (bagsOf g o) v := (hmem i0).2 ⟨hi0, (mem_bagAt hg ho hi0).2 (.inl ei0.symm)⟩
      rw [hc] at this; simp at this) (fun x hx => ?_) (withV_inc _ _) (fun i hi hj => ?_)
    · obtain ⟨b, rfl, hb, _⟩ := mem_withV.1 hx
      exact ⟨b, rfl, by omega⟩
    · obtain ⟨j, hj, hji⟩ := hj
      obtain ⟨k, rfl, hk, _⟩ := mem_withV.1 hj
      have h1 := (hmem (i + 1)).1 hi
      have h2 := (hmem k).1 hj
      have hki : k ≤ i := by omega
      refine (hmem i).2 ⟨by omega, ?_⟩
      have hil : i < o.length := by omega
      -- v is at most at place k
      have hvk : (v : Int) ∈ o.take (i + 1) := by
        rcases (mem_bagAt hg ho h2.1).1 h2.2 with e | ⟨h, _⟩
        · exact mem_take_iff.2 ⟨k, h2.1, by omega, e.symm⟩
        · obtain ⟨p, hp, hpk, e⟩ := mem_take_iff.1 h
          exact mem_take_iff.2 ⟨p, hp, by omega, e⟩
      rcases (mem_bagAt hg ho h1.1).1 h1.2 with e | ⟨_, w, hw, hwn⟩
      · rw [e] at hvk
        exact absurd hvk (notin_take hg ho h1.1)
      · rw [List.take_succ_eq_append_getElem hil] at hvk
        rcases List.mem_append.1 hvk with h | h
        · refine (mem_bagAt hg ho hil).2 (.inr ⟨h, w, hw, fun hwm => hwn ?_⟩)
          obtain ⟨p, hp, hpk, e⟩ := mem_take_iff.1 hwm
          exact mem_take_iff.2 ⟨p, hp, by omega, e⟩
        · simp at h
          exact (mem_bagAt hg ho hil).2 (.inl h)

/-! ### the width -/
omit hg ho in
theorem l1Max_eq (a b : Int) : D.spec_l1Max a b = some (max a b) := by
  unfold D.spec_l1Max
  by_cases h : b < a
  · simp only [h, decide_true, cond_true]; congr 1; omega
  · simp only [h, decide_false, cond_false]; congr 1; omega

noncomputable def sepAt (g : List (List Int)) (o : List Int) (i : Nat) : Int := ((openS g (o.take i)).length : Int)
/-- the greatest of the first ones -/
def mx (f : Nat → Int) : Nat → Int
  | 0 => 0
  | n + 1 => max (mx f n) (f n)

omit hg ho in
theorem mx_nonneg (f : Nat → Int) : ∀ n, 0 ≤ mx f n
  | 0 => Int.le_refl _
  | n + 1 => by have := mx_nonneg f n; simp only [mx]; omega

theorem sep_last : sepAt g o o.length = 0 := by
  obtain ⟨h1, h2⟩ := take_ok hg ho o.length
  obtain ⟨_, _, k3⟩ := openS_spec g (o.take o.length) hg h1 h2
  unfold sepAt
  have : openS g (o.take o.length) = [] := by
    apply List.eq_nil_iff_forall_not_mem.2
    intro x hx
    obtain ⟨hx1, y, hy, hyn⟩ := (k3 x).1 hx
    rw [List.take_length] at hx1 hyn
    have hxr := ho.rng x hx1
    obtain ⟨v, rfl, hv, _⟩ := hg.mem (u := x.toNat) (by omega) hy
    obtain ⟨p, hp, e⟩ := place hg ho hv
    exact hyn (e ▸ List.getElem_mem hp)
  rw [this]; rfl

theorem Separation_eq : D.spec_Separation g o = some (mx (sepAt g o) o.length) := by
  have h16 := hg.n16; have hl := ho.len
  have hgs : Sh2 g := ⟨by unfold Sh; omega, fun r hr => by have := (hg.mem0 hr).1; unfold Sh; omega⟩
  have hos : Sh o := by unfold Sh; omega
  unfold D.spec_Separation
  rw [spec_GraphOk_eq g hgs, spec_OrderOk_eq g o hgs hos, (gB_iff g).2 hg, (ordB_iff g o).2 ho]
  simp only [Option.bind_some, Bool.not_true, cond_false, Bool.and_self]
  have hlast := sep_last hg ho
  refine (loop_to (fun i => (mx (sepAt g o) i, (i : Int))) (o.length + 1) (mx (sepAt g o) o.length) (by simp [mx]) (fun i hi => ?_) ?_).trans rfl
  · obtain ⟨h1, h2⟩ := take_ok hg ho i
    obtain ⟨k1, _, _⟩ := openS_spec g (o.take i) hg h1 h2
    have hle : decide ((i : Int) ≤ (o.length : Int)) = true := by simp; omega
    simp only [hle, cond_true, sliceD_pre (show i ≤ o.length by omega), Option.bind_some, k1, l1Max_eq, wi (show i < 4611686018427387904 by omega), mx]
    rfl
  · have hle : decide (((o.length + 1 : Nat) : Int) ≤ (o.length : Int)) = false := by simp; omega
    simp only [hle, cond_false, mx, hlast]
    have := mx_nonneg (sepAt g o) o.length
    have e : max (mx (sepAt g o) o.length) 0 = mx (sepAt g o) o.length := by omega
    rw [e]
end

end Go.Sx



/- Drawn orders, the other way: each number is put at a drawn place, what stands there moves on. Plain. -/
namespace Go.Sx
theorem ext_getD {a b : List Int} (hl : a.length = b.length) (h : ∀ j, j < a.length → a.getD j 0 = b.getD j 0) : a = b := by
  apply List.ext_getElem hl
  intro j h1 h2
  have := h j h1
  rwa [getD_lt h1, getD_lt h2] at this
theorem getD_set (l : List Int) (i j : Nat) (x : Int) (hi : i < l.length) : (l.set i x).getD j 0 = if j = i then x else l.getD j 0 := by
  simp only [List.getD_eq_getElem?_getD, List.getElem?_set]
  by_cases h : j = i
  · subst h; simp [hi]
  · rw [if_neg (fun e => h e.symm), if_neg h]
end Go.Sx

/- Elimination: the filled neighbours and the later ones, by what they have. Plain. -/
namespace Go.Sx
/-- is w a neighbour of u, by masks -/
def nb (F : List Int) (u w : Nat) : Bool := has (F.getD u 0) w
/-- masks of a graph of n vertices -/
structure FOk (F : List Int) (n : Nat) : Prop where
  len : F.length = n
  vs : ∀ u, u < n → VS (F.getD u 0)
  lt : ∀ u w, u < n → nb F u w = true → w < n
  irr : ∀ u, u < n → nb F u u = false
  sym : ∀ u w, u < n → nb F u w = true → nb F w u = true

theorem FOk.ext {F F' : List Int} {n : Nat} (h : F.length = n) (h' : F'.length = n) (v : ∀ u, u < n → VS (F.getD u 0)) (v' : ∀ u, u < n → VS (F'.getD u 0)) (e : ∀ u w, u < n → nb F u w = nb F' u w) : F = F' := by
  refine ext_getD (by omega) (fun j hj => ?_)
  exact (v j (by omega)).ext (v' j (by omega)) (fun w _ => e j w (by omega))

theorem getD_map_mk (g : List (List Int)) (u : Nat) : (g.map mk).getD u 0 = mk (row g u) := by
  unfold row
  simp only [List.getD_eq_getElem?_getD, List.getElem?_map]
  cases g[u]? with
  | none => simp [mk]
  | some r => rfl
theorem nb_mk {g : List (List Int)} (hg : GOk g) {u w : Nat} (hu : u < g.length) : nb (g.map mk) u w = true ↔ adj g u w := by
  have h16 := hg.n16
  unfold nb
  rw [getD_map_mk, has_mk (fun x hx => by have := (hg.rows u hu).2 x hx; omega)]
  simp [adj]
theorem FOk.of {g : List (List Int)} (hg : GOk g) : FOk (g.map Sx.mk) g.length := by
  refine ⟨by simp, fun u _ => by rw [getD_map_mk]; exact VS.mk _, fun u w hu h => hg.lt hu ((nb_mk hg hu).1 h), fun u hu => ?_, fun u w hu h => ?_⟩
  · cases h : nb (g.map Sx.mk) u u
    · rfl
    · exact absurd ((nb_mk hg hu).1 h) (hg.irr u hu)
  · have ha := (nb_mk hg hu).1 h
    exact (nb_mk hg (hg.lt hu ha)).2 (hg.sym u w hu ha)

/-- the order is a perfect elimination order -/
def PEO (F : List Int) (o : List Int) : Prop := ∀ (j : Nat) (v u w : Nat), o[j]? = some (v : Int) → nb F v u = true → nb F v w = true → (u : Int) ∉ o.take (j + 1) → (w : Int) ∉ o.take (j + 1) → u ≠ w → nb F u w = true
/-- later neighbours -/
def Lat (F L : List Int) (o : List Int) (i : Nat) : Prop := ∀ (j : Nat) (v : Nat), j < i → o[j]? = some (v : Int) → ∀ w, nb L v w = (nb F v w && decide ((w : Int) ∉ o.take (j + 1)))

structure EInv (n : Nat) (F0 o : List Int) (i : Nat) (F L : List Int) (left : Int) : Prop where
  f : FOk F n
  lenL : L.length = n
  vsL : ∀ u, u < n → VS (L.getD u 0)
  vsl : VS left
  left : ∀ v, has left v = decide (v < n ∧ (v : Int) ∉ o.take i)
  mono : ∀ u w, u < n → nb F0 u w = true → nb F u w = true
  lat : Lat F L o i
  peo : ∀ (j : Nat) (v u w : Nat), j < i → o[j]? = some (v : Int) → nb F v u = true → nb F v w = true → (u : Int) ∉ o.take (j + 1) → (w : Int) ∉ o.take (j + 1) → u ≠ w → nb F u w = true
  same : PEO F0 o → F = F0

theorem mem_take_mono {o : List Int} {j i : Nat} (h : j ≤ i) {x : Int} (hx : x ∈ o.take j) : x ∈ o.take i := by
  rw [mem_take_iff] at hx ⊢
  obtain ⟨k, h1, h2, h3⟩ := hx
  exact ⟨k, h1, by omega, h3⟩

theorem EInv.step {n : Nat} {F0 o F L : List Int} {i v : Nat} {left : Int} (h16 : n ≤ 16) (hn : ∀ x ∈ o, 0 ≤ x ∧ x < n) (hnd : o.Nodup) (hi : i < o.length) (hv : o[i] = (v : Int)) (h : EInv n F0 o i F L left) {F' : List Int}
    (hl' : F'.length = n) (hv' : ∀ u, u < n → VS (F'.getD u 0)) (h' : ∀ u w, u < n → nb F' u w = (nb F u w || (has (iand .u32 (F.getD v 0) (iandNot .u32 left (ishl .u32 1 (v : Int)))) u && has (iand .u32 (F.getD v 0) (iandNot .u32 left (ishl .u32 1 (v : Int)))) w && decide (w ≠ u)))) :
    EInv n F0 o (i + 1) F' (L.set v (iand .u32 (F.getD v 0) (iandNot .u32 left (ishl .u32 1 (v : Int))))) (iandNot .u32 left (ishl .u32 1 (v : Int))) := by
  have hvn : v < n := by have := hn _ (List.getElem_mem hi); omega
  have hvt : (v : Int) ∉ o.take i := by rw [← hv]; exact nodup_iff.1 hnd i hi
  have htk : ∀ x : Nat, ((x : Int) ∈ o.take (i + 1)) ↔ ((x : Int) ∈ o.take i ∨ x = v) := fun x => by
    rw [List.take_succ_eq_append_getElem hi, List.mem_append, hv]; simp [Int.natCast_inj]
  have hleft : ∀ w, has (iandNot .u32 left (ishl .u32 1 (v : Int))) w = decide (w < n ∧ (w : Int) ∉ o.take (i + 1)) := fun w => by
    rw [has_iandNot h.vsl (VS.ishl _ _), has_one (by omega), h.left, Bool.eq_iff_iff]
    simp only [Bool.and_eq_true, decide_eq_true_eq, Bool.not_eq_true', decide_eq_false_iff_not, htk]
    constructor
    · rintro ⟨⟨a, b⟩, c⟩; exact ⟨a, fun hh => hh.elim b c⟩
    · rintro ⟨a, b⟩; exact ⟨⟨a, fun hh => b (.inl hh)⟩, fun hh => b (.inr hh)⟩
  have hS : ∀ w, has (iand .u32 (F.getD v 0) (iandNot .u32 left (ishl .u32 1 (v : Int)))) w = (nb F v w && decide ((w : Int) ∉ o.take (i + 1))) := fun w => by
    rw [has_iand (h.f.vs v hvn) (VS.iandNot _ _), hleft, Bool.eq_iff_iff]
    show (nb F v w && _) = true ↔ _
    simp only [Bool.and_eq_true, decide_eq_true_eq]
    exact ⟨fun ⟨a, b, c⟩ => ⟨a, c⟩, fun ⟨a, c⟩ => ⟨a, h.f.lt v w hvn a, c⟩⟩
  have hlV : VS (iandNot .u32 left (ishl .u32 1 (v : Int))) := VS.iandNot _ _
  generalize iandNot .u32 left (ishl .u32 1 (v : Int)) = left' at *
  generalize hSS : iand .u32 (F.getD v 0) left' = S at *
  have hSV : VS S := by rw [← hSS]; exact VS.iand _ _
  have hSlt : ∀ w, has S w = true → w < n ∧ (w : Int) ∉ o.take (i + 1) := fun w hw => by
    rw [hS] at hw
    simp only [Bool.and_eq_true, decide_eq_true_eq] at hw
    exact ⟨h.f.lt v w hvn hw.1, hw.2⟩
  have hmono : ∀ u w, u < n → nb F u w = true → nb F' u w = true := fun u w hu hh => by rw [h' u w hu, hh]; rfl
  -- rows of those that are gone do not change
  have hold : ∀ x : Nat, x < n → (x : Int) ∈ o.take (i + 1) → ∀ w, nb F' x w = nb F x w := fun x hx hm w => by
    rw [h' x w hx]
    have : has S x = false := by
      cases hc : has S x
      · rfl
      · exact absurd hm (hSlt x hc).2
    simp [this]
  have hf' : FOk F' n := by
    refine ⟨hl', hv', fun u w hu hh => ?_, fun u hu => ?_, fun u w hu hh => ?_⟩
    · rw [h' u w hu] at hh
      simp only [Bool.or_eq_true, Bool.and_eq_true] at hh
      rcases hh with hh | ⟨⟨_, hh⟩, _⟩
      · exact h.f.lt u w hu hh
      · exact (hSlt w hh).1
    · rw [h' u u hu, h.f.irr u hu]; simp
    · rw [h' u w hu] at hh
      simp only [Bool.or_eq_true, Bool.and_eq_true, decide_eq_true_eq] at hh
      rcases hh with hh | ⟨⟨h1, h2⟩, h3⟩
      · exact hmono w u (h.f.lt u w hu hh) (h.f.sym u w hu hh)
      · rw [h' w u (hSlt w h2).1, h1, h2]
        have : decide (u ≠ w) = true := by simpa using fun e => h3 e.symm
        simp [this]
  have hjv : ∀ j (x : Nat), o[j]? = some (x : Int) → j < o.length ∧ x < n ∧ (x : Int) ∈ o.take (j + 1) := fun j x hx => by
    obtain ⟨h1, h2⟩ := List.getElem?_eq_some_iff.1 hx
    have := hn _ (List.getElem_mem h1)
    refine ⟨h1, by omega, ?_⟩
    rw [mem_take_iff]; exact ⟨j, h1, by omega, h2⟩
  refine ⟨hf', by simp [h.lenL], fun u hu => ?_, hlV, hleft, fun u w hu hh => hmono u w hu (h.mono u w hu hh), fun j x hj hx w => ?_, fun j x u w hj hx h1 h2 h3 h4 h5 => ?_, fun hp => ?_⟩
  · rw [getD_set _ _ _ _ (by rw [h.lenL]; exact hvn)]
    split
    · exact hSV
    · exact h.vsL u hu
  · obtain ⟨k1, k2, k3⟩ := hjv j x hx
    have k4 := mem_take_mono (show j + 1 ≤ i + 1 by omega) k3
    rw [hold x k2 k4 w]
    unfold nb
    rw [getD_set _ _ _ _ (by rw [h.lenL]; exact hvn)]
    by_cases hji : j = i
    · subst hji
      rw [List.getElem?_eq_getElem hi, hv] at hx
      have : x = v := by
        have : (v : Int) = (x : Int) := by simpa using hx
        omega
      subst this
      rw [if_pos rfl, hS]; rfl
    · have hne : x ≠ v := fun e => by
        subst e
        exact hvt (mem_take_mono (show j + 1 ≤ i by omega) k3)
      rw [if_neg hne]
      exact h.lat j x (by omega) hx w
  · obtain ⟨k1, k2, k3⟩ := hjv j x hx
    have k4 := mem_take_mono (show j + 1 ≤ i + 1 by omega) k3
    rw [hold x k2 k4] at h1 h2
    by_cases hji : j = i
    · subst hji
      rw [List.getElem?_eq_getElem hi, hv] at hx
      have : x = v := by
        have : (v : Int) = (x : Int) := by simpa using hx
        omega
      subst this
      have hu : has S u = true := by rw [hS, h1]; simpa using h3
      have hw : has S w = true := by rw [hS, h2]; simpa using h4
      rw [h' u w (hSlt u hu).1, hu, hw]
      have : decide (w ≠ u) = true := by simpa using fun e => h5 e.symm
      simp [this]
    · exact hmono u w (h.f.lt x u k2 h1) (h.peo j x u w (by omega) hx h1 h2 h3 h4 h5)
  · have hFF := h.same hp
    subst hFF
    refine FOk.ext hl' h.f.len hv' h.f.vs (fun u w hu => ?_)
    rw [h' u w hu, Bool.eq_iff_iff]
    simp only [Bool.or_eq_true, Bool.and_eq_true, decide_eq_true_eq]
    constructor
    · rintro (hh | ⟨⟨h1, h2⟩, h3⟩)
      · exact hh
      · have k1 := (hSlt u h1).2; have k2 := (hSlt w h2).2
        rw [hS] at h1 h2
        simp only [Bool.and_eq_true] at h1 h2
        exact hp i v u w (by rw [List.getElem?_eq_getElem hi, hv]) h1.1 h2.1 k1 k2 (fun e => h3 e.symm)
    · exact .inl

end Go.Sx

/- How many a set has. Plain. -/
namespace Go.Sx
def cnt (n k : Nat) : Nat := ((List.range k).filter (fun i => n.testBit i)).length
theorem cnt_add (n a b : Nat) : cnt n (a + b) = cnt n a + cnt (n >>> a) b := by
  unfold cnt
  rw [List.range_add, List.filter_append, List.length_append, List.filter_map, List.length_map]
  congr 2
  apply List.filter_congr
  intro i _
  simp [Nat.testBit_shiftRight]
theorem cnt_mod (n k : Nat) : cnt (n % 2 ^ k) k = cnt n k := by
  unfold cnt
  congr 1
  apply List.filter_congr
  intro i hi
  have := List.mem_range.1 hi
  rw [Nat.testBit_mod_two_pow]; simp [this]
theorem elems_length (n : Nat) : (elems (n : Int)).length = cnt n 32 := by
  unfold elems cnt
  rw [List.length_map]
  rfl
theorem pop_all : ∀ b : Fin 256, strAt popTab (b.val : Int) = some ((cnt b.val 8 : Nat) : Int) := by decide +kernel
theorem pop_at {b : Nat} (h : b < 256) : strAt popTab (b : Int) = some ((cnt b 8 : Nat) : Int) := pop_all ⟨b, h⟩
theorem cnt_le (n k : Nat) : cnt n k ≤ k := by
  unfold cnt
  exact Nat.le_trans (List.length_filter_le _ _) (by simp)
theorem wrap8 {x : Int} (h0 : 0 ≤ x) (h : x < 256) : IntKind.u8.wrap x = x := by
  simp [IntKind.wrap, IntKind.signed, IntKind.bits]; omega

theorem OnesCount32_eq {s : Int} (h : VS s) : D.math_bits_OnesCount32 s = some ((elems s).length : Int) := by
  obtain ⟨n, rfl, hn⟩ := h.nat
  have s24 : ishr .u32 (n : Int) 24 = ((n >>> 24 : Nat) : Int) := shr_eq (n : Int) 24 h (by omega)
  have s16 : ishr .u32 (n : Int) 16 = ((n >>> 16 : Nat) : Int) := shr_eq (n : Int) 16 h (by omega)
  have s8 : ishr .u32 (n : Int) 8 = ((n >>> 8 : Nat) : Int) := shr_eq (n : Int) 8 h (by omega)
  have lt : ∀ k, n >>> k < 4294967296 := fun k => by
    rw [Nat.shiftRight_eq_div_pow]; exact Nat.lt_of_le_of_lt (Nat.div_le_self _ _) hn
  have a255 : ∀ m : Nat, m < 4294967296 → iand .u32 (m : Int) 255 = ((m % 256 : Nat) : Int) := fun m hm => by
    have := iand_nat hm (show (255 : Nat) < 4294967296 by omega)
    rw [show ((255 : Nat) : Int) = 255 from rfl] at this
    rw [this]
    congr 1
    exact Nat.and_two_pow_sub_one_eq_mod (n := 8) m
  have h24 : n >>> 24 < 256 := by rw [Nat.shiftRight_eq_div_pow]; exact Nat.div_lt_of_lt_mul (by simpa using hn)
  have ec : cnt n 32 = cnt (n % 256) 8 + cnt (n >>> 8 % 256) 8 + cnt (n >>> 16 % 256) 8 + cnt (n >>> 24) 8 := by
    rw [show (32 : Nat) = 8 + (8 + (8 + 8)) from rfl, cnt_add n 8, cnt_add _ 8, cnt_add _ 8]
    have e1 := cnt_mod n 8; have e2 := cnt_mod (n >>> 8) 8; have e3 := cnt_mod (n >>> 16) 8
    simp only [show (2 : Nat) ^ 8 = 256 from rfl] at e1 e2 e3
    rw [e1, e2, e3]
    simp only [← Nat.shiftRight_add, Nat.reduceAdd]
    omega
  unfold D.math_bits_OnesCount32
  rw [s24, s16, s8, a255 _ (lt 16), a255 _ (lt 8), a255 n hn, pop_at h24, pop_at (Nat.mod_lt _ (by omega)), pop_at (Nat.mod_lt _ (by omega)), pop_at (Nat.mod_lt _ (by omega))]
  simp only [Option.bind_some]
  have c1 := cnt_le (n >>> 24) 8; have c2 := cnt_le (n >>> 16 % 256) 8; have c3 := cnt_le (n >>> 8 % 256) 8; have c4 := cnt_le (n % 256) 8
  generalize cnt (n >>> 24) 8 = a at *; generalize cnt (n >>> 16 % 256) 8 = b at *; generalize cnt (n >>> 8 % 256) 8 = c at *; generalize cnt (n % 256) 8 = d at *
  rw [wrap8 (x := (a : Int) + b) (by omega) (by omega), wrap8 (x := (a : Int) + b + c) (by omega) (by omega), wrap8 (x := (a : Int) + b + c + d) (by omega) (by omega), w64 (by omega) (by omega), elems_length, ec]
  congr 1
  omega
theorem size_eq {s : Int} (h : VS s) : D.impl_vset_size s = some ((elems s).length : Int) := by
  unfold D.impl_vset_size; rw [OnesCount32_eq h]; rfl
end Go.Sx

/- The edges of a graph, listed by the program and by the reference; the filled graph of an order. Plain. -/
namespace Go.Sx
theorem OOk.sh {g : List (List Int)} {o : List Int} (hg : GOk g) (ho : OOk g o) : Sh o := by
  have := hg.n16; have := ho.len; unfold Sh; omega
/-- what filling comes to -/
structure Fill (g : List (List Int)) (o F L : List Int) : Prop where
  elim : D.impl_elimination (g.map mk) o = some (F, L)
  f : FOk F g.length
  lenL : L.length = g.length
  vsL : ∀ u, u < g.length → VS (L.getD u 0)
  mono : ∀ u w, u < g.length → adj g u w → nb F u w = true
  lat : Lat F L o g.length
  peo : PEO F o
  same : PEO (g.map mk) o → F = g.map mk

end Go.Sx

/- The bags of an order are a path of bags; their order. FnPathBags, plain. -/
namespace Go.Sx
theorem GOk.shr {g : List (List Int)} (hg : GOk g) : Sh2 g := by
  have h16 := hg.n16
  exact ⟨by unfold Sh; omega, fun r hr => by have := (hg.mem0 hr).1; unfold Sh; omega⟩

/-- what a path of bags of a graph is -/
structure PB (g bags : List (List Int)) : Prop where
  n16 : bags.length ≤ 16
  sets : ∀ i, i < bags.length → SetOf (bags.getD i []) g.length
  some : ∀ i, i < bags.length → bags.getD i [] ≠ []
  all : ∀ v : Nat, v < g.length → ∃ i, i < bags.length ∧ (v : Int) ∈ bags.getD i []
  edge : ∀ u v : Nat, u < g.length → adj g u v → ∃ i, i < bags.length ∧ (u : Int) ∈ bags.getD i [] ∧ (v : Int) ∈ bags.getD i []
  run : ∀ (v : Nat) (i j k : Nat), i < j → j < k → k < bags.length → (v : Int) ∈ bags.getD i [] → (v : Int) ∈ bags.getD k [] → (v : Int) ∈ bags.getD j []

theorem PB.sh {g bags : List (List Int)} (hg : GOk g) (h : PB g bags) : Sh2 bags := by
  have := h.n16; have := hg.n16
  refine ⟨by unfold Sh; omega, fun b hb => ?_⟩
  obtain ⟨i, hi, rfl⟩ := List.getElem_of_mem hb
  have := (h.sets i hi).length_le (by omega)
  rw [getD_lt hi] at this
  unfold Sh; omega

section
variable {g : List (List Int)} {o : List Int} (hg : GOk g) (ho : OOk g o)
include hg ho
theorem path_PB : PB g (bagsOf g o) := by
  have h16 := hg.n16; have hl := ho.len
  have hbl := bagsOf_len g o
  have hT := path_TB hg ho
  refine ⟨by omega, fun i hi => ?_, fun i hi => ?_, fun v hv => ?_, fun u v hu ha => ?_, fun v i j k h1 h2 h3 m1 m2 => ?_⟩
  · rw [bagsOf_get hg ho (by omega)]; exact bagAt_set hg ho (by omega)
  · rw [bagsOf_get hg ho (by omega)]
    intro hc
    have := bagAt_len hg ho (i := i) (by omega)
    rw [hc] at this; simp at this
  · obtain ⟨i, hi, ei⟩ := place hg ho hv
    exact ⟨i, by omega, by rw [bagsOf_get hg ho hi]; exact (mem_bagAt hg ho hi).2 (.inl ei.symm)⟩
  · obtain ⟨b, hb, h1, h2⟩ := hT.edges u v hu ha
    obtain ⟨i, hi, rfl⟩ := List.getElem_of_mem hb
    exact ⟨i, hi, by rw [getD_lt hi]; exact h1, by rw [getD_lt hi]; exact h2⟩
  · rw [bagsOf_get hg ho (by omega)] at m1 m2 ⊢
    have hj : j < o.length := by omega
    have hk : k < o.length := by omega
    -- v stands no later than at place i
    have hvi : (v : Int) ∈ o.take (i + 1) := by
      rcases (mem_bagAt hg ho (show i < o.length by omega)).1 m1 with e | ⟨h, _⟩
      · exact mem_take_iff.2 ⟨i, by omega, by omega, e.symm⟩
      · obtain ⟨p, hp, hpk, e⟩ := mem_take_iff.1 h
        exact mem_take_iff.2 ⟨p, hp, by omega, e⟩
    have up : ∀ (x : Int) (a b : Nat), a ≤ b → x ∈ o.take a → x ∈ o.take b := fun x a b hab h => by
      obtain ⟨p, hp, hpk, e⟩ := mem_take_iff.1 h
      exact mem_take_iff.2 ⟨p, hp, by omega, e⟩
    rcases (mem_bagAt hg ho hk).1 m2 with e | ⟨_, w, hw, hwn⟩
    · exact absurd (e ▸ up _ _ _ (by omega) hvi) (notin_take hg ho hk)
    · exact (mem_bagAt hg ho hj).2 (.inr ⟨up _ _ _ (by omega) hvi, w, hw, fun hm => hwn (up _ _ _ (by omega) hm)⟩)
end

/-! ### the order's separation, as the program has it -/
section
variable {g : List (List Int)} {o : List Int} (hg : GOk g) (ho : OOk g o)
include hg ho
theorem open_take (i : Nat) : ∃ t, D.impl_openOf (g.map mk) (mk (o.take i)) = some t ∧ VS t ∧ elems t = openS g (o.take i) := by
  have h16 := hg.n16
  obtain ⟨h1, h2⟩ := take_ok hg ho i
  obtain ⟨t, e, ht, k⟩ := openOf_eq g (mk (o.take i)) hg (VS.mk _) (fun v hv => by
    rw [has_take hg ho i] at hv
    have := h2 _ (of_decide_eq_true hv); omega)
  refine ⟨t, e, ht, ?_⟩
  obtain ⟨k1, k2, k3⟩ := openS_spec g (o.take i) hg h1 h2
  refine Inc.ext (elems_inc _) k2 (fun x => ?_)
  rw [k3, mem_elems]
  constructor
  · rintro ⟨v, hv, hb, rfl⟩
    obtain ⟨h3, u, h4, h5⟩ := (k v).1 hb
    rw [has_take hg ho i] at h3 h5
    exact ⟨of_decide_eq_true h3, (u : Int), by rw [Int.toNat_natCast]; exact h4, of_decide_eq_false h5⟩
  · rintro ⟨h3, y, h4, h5⟩
    have hx := h2 x h3
    obtain ⟨v, rfl⟩ : ∃ v : Nat, x = v := ⟨x.toNat, by omega⟩
    refine ⟨v, by omega, (k v).2 ⟨by rw [has_take hg ho i]; simpa using h3, ?_⟩, rfl⟩
    rw [Int.toNat_natCast] at h4
    obtain ⟨u, rfl, hu, ha⟩ := hg.mem (by omega) h4
    exact ⟨u, ha, by rw [has_take hg ho i]; simpa using h5⟩

theorem sep_zero : sepAt g o 0 = 0 := by
  obtain ⟨h1, h2⟩ := take_ok hg ho 0
  obtain ⟨_, _, k3⟩ := openS_spec g (o.take 0) hg h1 h2
  have : openS g (o.take 0) = [] := by
    apply List.eq_nil_iff_forall_not_mem.2
    intro x hx
    have := ((k3 x).1 hx).1
    simp at this
  unfold sepAt
  rw [this]; rfl

omit hg ho in
theorem mx_succ (f : Nat → Int) (h0 : f 0 ≤ 0) : ∀ n, mx (fun k => f (k + 1)) n = mx f (n + 1)
  | 0 => by simp only [mx]; omega
  | n + 1 => by
    have := mx_succ f h0 n
    simp only [mx] at this ⊢
    rw [this]

theorem impl_Separation_eq : D.impl_Separation g o = some (mx (sepAt g o) o.length) := by
  have h16 := hg.n16; have hl := ho.len
  unfold D.impl_Separation
  rw [impl_OrderOk_eq g o hg.shr (by unfold Sh; omega), (gB_iff g).2 hg, (ordB_iff g o).2 ho]
  simp only [Option.bind_some, Bool.not_true, cond_false, Bool.and_self, netsOf_eq g hg]
  refine (loop_to (fun i => (mk (o.take i), mx (fun k => sepAt g o (k + 1)) i, (i : Int))) o.length (mx (fun k => sepAt g o (k + 1)) o.length) (by simp [mx, mk]) (fun i hi => ?_) ?_).trans ?_
  · obtain ⟨t, e, ht, et⟩ := open_take hg ho (i + 1)
    have hoi := ho.rng _ (List.getElem_mem hi)
    simp only [dlt hi, cond_true, idx_nat hi, Option.bind_some, impl_one_eq' hoi.1, mk_take hi, e, size_eq ht, et, wi (show i < 4611686018427387904 by omega), mx]
    have e2 : ((openS g (o.take (i + 1))).length : Int) = sepAt g o (i + 1) := rfl
    rw [e2]
    congr 4
    split <;> omega
  · simp only [dnlt, cond_false]
  · have := mx_succ (sepAt g o) (by rw [sep_zero hg ho]; omega) o.length
    have h2 := sep_last hg ho
    have h3 := mx_nonneg (sepAt g o) o.length
    simp only [mx] at this
    rw [this, h2]
    congr 1; omega

theorem OpenOf_one (h1 : 1 ≤ o.length) : D.spec_OpenOf g (o.take 1) = some (openS g (o.take 1)) := by
  have h16 := hg.n16; have hl := ho.len
  obtain ⟨k1, k2⟩ := take_ok hg ho 1
  obtain ⟨e, _, _⟩ := openS_spec g (o.take 1) hg k1 k2
  unfold D.spec_OpenOf D.spec_SetOk D.spec_l1Size
  have hs : SetOf (o.take 1) g.length := by
    refine ⟨?_, k2⟩
    cases o with
    | nil => simp at h1
    | cons a o => simp [Inc]
  simp only [spec_GraphOk_eq g hg.shr, (gB_iff g).2 hg, Option.bind_some, Bool.not_true, cond_false, cond_true, l1Set_eq (o.take 1) g.length (by unfold Sh; omega) (by omega) (by omega), (setB_iff _ _).2 hs, e]
theorem sep_one (h1 : 1 ≤ o.length) : sepAt g o 1 ≤ mx (sepAt g o) o.length := by
  have key : ∀ n, 1 < n → sepAt g o 1 ≤ mx (sepAt g o) n := by
    intro n
    induction n with
    | zero => omega
    | succ n ih =>
      intro h
      simp only [mx]
      by_cases hn : n = 1
      · subst hn; omega
      · have := ih (by omega); omega
  by_cases h : o.length = 1
  · have := sep_last hg ho
    have := mx_nonneg (sepAt g o) o.length
    rw [h] at *
    omega
  · exact key _ (by omega)
end

/-! ### what is accepted as a path of bags -/
theorem l12Bag_eq (bags : List (List Int)) (u v : Int) (h : Sh2 bags) : D.spec_l12Bag bags u v = some (bags.any fun b => decide (u ∈ b) && decide (v ∈ b)) := by
  have hl : bags.length ≤ 4294967296 := h.1
  unfold D.spec_l12Bag
  rw [← range_any_list bags (fun b => decide (u ∈ b) && decide (v ∈ b)) (fun i => decide (u ∈ bags.getD i []) && decide (v ∈ bags.getD i [])) (fun i hi => by rw [getD_lt hi])]
  refine loop_anyb bags.length _ true (fun i hi => ?_) ?_ rfl rfl
  · have hb := h.2 _ (List.getElem_mem hi)
    simp only [dlt hi, cond_true, idx_nat hi, Option.bind_some, l1Has_eq _ _ hb, wi (show i < 4611686018427387904 by omega), getD_lt hi]
    by_cases h1 : u ∈ bags[i] <;> by_cases h2 : v ∈ bags[i] <;> simp [h1, h2]
  · simp only [dnlt, cond_false]

section
variable {g bags : List (List Int)} (hg : GOk g) (h : PB g bags)
include hg h
theorem l12Whole_true {v : Nat} (hv : v < g.length) : D.spec_l12Whole bags (v : Int) = some true := by
  have hsh := h.sh hg
  have hl := h.n16
  unfold D.spec_l12Whole
  obtain ⟨y, hy, hq⟩ : ∃ y, _ = some y ∧ y = true := loop_then (step := (fun (s_42 : Int × Int × Int × Int) => match s_42 with | (x_45, x_46, x_47, x_48) => cond (decide (x_48 < (bags.length : Int))) ((idx bags x_48).bind fun e_72 => (D.spec_l1Has e_72 (v : Int)).bind fun y_78 => cond y_78 (cond (decide (x_45 < 0)) (some (.inl (x_48, x_48, (IntKind.i64.wrap (x_47 + 1)), (IntKind.i64.wrap (x_48 + 1))))) (some (.inl (x_45, x_48, (IntKind.i64.wrap (x_47 + 1)), (IntKind.i64.wrap (x_48 + 1)))))) (some (.inl (x_45, x_46, x_47, (IntKind.i64.wrap (x_48 + 1)))))) (some (.inr (x_45, x_46, x_47))))) (s := ((-1), (-1), 0, 0))
    (k := fun (x_67, x_68, x_69) => some ((decide ((0 : Int) < x_69)) && ((IntKind.i64.wrap ((IntKind.i64.wrap (x_68 - x_67)) + 1)) == x_69))) (Q := fun y => y = true)
    (fun s => ∃ i : Nat, s.2.2.2 = (i : Int) ∧ i ≤ bags.length ∧ (((∀ j, j < i → (v : Int) ∉ bags.getD j []) ∧ s.1 = -1 ∧ s.2.1 = -1 ∧ s.2.2.1 = 0) ∨ (∃ f l : Nat, f ≤ l ∧ l < i ∧ s.1 = (f : Int) ∧ s.2.1 = (l : Int) ∧ s.2.2.1 = (l : Int) - f + 1 ∧ (v : Int) ∈ bags.getD l [] ∧ (∀ j, j < i → (v : Int) ∈ bags.getD j [] → j ≤ l))))
    (fun s => bags.length - s.2.2.2.toNat) (fun r => ∃ f l : Nat, f ≤ l ∧ l < 16 ∧ r.1 = (f : Int) ∧ r.2.1 = (l : Int) ∧ r.2.2 = (l : Int) - f + 1) (by
      rintro ⟨a, b, c, _⟩ ⟨i, rfl, hi, hc⟩
      dsimp only at hc ⊢
      by_cases hlt : i < bags.length
      · have hb := hsh.2 _ (List.getElem_mem hlt)
        have eg : bags.getD i [] = bags[i] := getD_lt hlt _
        simp only [dlt hlt, cond_true, idx_nat hlt, Option.bind_some, l1Has_eq _ _ hb, wi (show i < 4611686018427387904 by omega)]
        by_cases hm : (v : Int) ∈ bags[i]
        · simp only [hm, decide_true, cond_true]
          rcases hc with ⟨h1, rfl, rfl, rfl⟩ | ⟨f, l, hfl, hli, rfl, rfl, rfl, hml, hj⟩
          · have e : decide ((-1 : Int) < 0) = true := rfl
            simp only [e, cond_true]
            exact ⟨_, rfl, ⟨i + 1, rfl, by omega, .inr ⟨i, i, by omega, by omega, rfl, rfl, by dsimp only; rw [w64 (by omega) (by omega)]; omega, by rw [eg]; exact hm, fun j hj _ => by omega⟩⟩, by dsimp only; omega⟩
          · have e : decide ((f : Int) < 0) = false := by simp
            simp only [e, cond_false]
            have hli' : l + 1 = i := by
              apply Classical.byContradiction
              intro hne
              have := h.run v l (i - 1) i (by omega) (by omega) hlt hml (by rw [eg]; exact hm)
              have := hj (i - 1) (by omega) this
              omega
            exact ⟨_, rfl, ⟨i + 1, rfl, by omega, .inr ⟨f, i, by omega, by omega, rfl, rfl, by dsimp only; rw [w64 (by omega) (by omega)]; omega, by rw [eg]; exact hm, fun j hj _ => by omega⟩⟩, by dsimp only; omega⟩
        · simp only [hm, decide_false, cond_false]
          refine ⟨_, rfl, ⟨i + 1, rfl, by omega, ?_⟩, by dsimp only; omega⟩
          rcases hc with ⟨h1, rfl, rfl, rfl⟩ | ⟨f, l, hfl, hli, rfl, rfl, rfl, hml, hj⟩
          · refine .inl ⟨fun j hj => ?_, rfl, rfl, rfl⟩
            by_cases hji : j = i
            · subst hji; rw [eg]; exact hm
            · exact h1 j (by omega)
          · refine .inr ⟨f, l, hfl, by omega, rfl, rfl, rfl, hml, fun j hj' hjm => ?_⟩
            by_cases hji : j = i
            · subst hji; rw [eg] at hjm; exact absurd hjm hm
            · exact hj j (by omega) hjm
      · obtain rfl : i = bags.length := by omega
        simp only [dnlt, cond_false]
        refine ⟨_, rfl, ?_⟩
        rcases hc with ⟨h1, rfl, rfl, rfl⟩ | ⟨f, l, hfl, hli, rfl, rfl, rfl, hml, hj⟩
        · obtain ⟨i, hi, hm⟩ := h.all v hv
          exact absurd hm (h1 i hi)
        · exact ⟨f, l, hfl, by omega, rfl, rfl, rfl⟩) ⟨0, rfl, by omega, .inl ⟨fun j hj => by omega, rfl, rfl, rfl⟩⟩ (by
      rintro ⟨a, b, c⟩ ⟨f, l, h1, h2, rfl, rfl, rfl⟩
      refine ⟨_, rfl, ?_⟩
      rw [w64 (x := (l : Int) - f) (by omega) (by omega), w64 (x := (l : Int) - f + 1) (by omega) (by omega)]
      simp; omega)
  rw [hy, hq]

theorem spec_PathBagsOk_true : D.spec_PathBagsOk g bags = some true := by
  have hsh := h.sh hg
  have hl := h.n16
  have h16 := hg.n16
  unfold D.spec_PathBagsOk
  have e : decide ((16 : Int) < (bags.length : Int)) = false := by simp; omega
  simp only [spec_GraphOk_eq g hg.shr, (gB_iff g).2 hg, Option.bind_some, Bool.not_true, Bool.false_or, e, cond_false]
  refine (loop_to (fun i => (i : Int)) bags.length (.inl ()) rfl (fun i hi => ?_) ?_).trans ?_
  · have hb := hsh.2 _ (List.getElem_mem hi)
    have hs := h.sets i hi
    have hn := h.some i hi
    rw [getD_lt hi] at hs hn
    have h0 : ((bags[i].length : Int) == 0) = false := by
      simp; exact hn
    unfold D.spec_SetOk D.spec_l1Size
    simp only [dlt hi, cond_true, idx_nat hi, Option.bind_some, spec_GraphOk_eq g hg.shr, (gB_iff g).2 hg, l1Set_eq bags[i] g.length hb (by omega) (by omega), (setB_iff _ _).2 hs, Bool.not_true, cond_false, h0, wi (show i < 4611686018427387904 by omega)]
  · simp only [dnlt, cond_false]
  · refine (loop_to (fun i => (i : Int)) g.length (.inl ()) rfl (fun v hv => ?_) ?_).trans rfl
    · have hr := hg.row_len hv
      simp only [dlt hv, cond_true, l12Whole_true hg h hv, Option.bind_some, Bool.not_true, cond_false, idx_row hv]
      refine (loop_to (fun i => (i : Int)) (row g v).length (.inl ()) rfl (fun i hi => ?_) ?_).trans ?_
      · obtain ⟨w, ew, hw, ha⟩ := hg.mem hv (List.getElem_mem hi)
        obtain ⟨k, hk, m1, m2⟩ := h.edge v w hv ha
        have : (bags.any fun b => decide ((v : Int) ∈ b) && decide ((w : Int) ∈ b)) = true := by
          rw [List.any_eq_true]
          rw [getD_lt hk] at m1 m2
          exact ⟨bags[k], List.getElem_mem hk, by simp [m1, m2]⟩
        simp only [dlt hi, cond_true, idx_nat hi, Option.bind_some, ew, l12Bag_eq bags _ _ hsh, this, Bool.not_true, cond_false, wi (show i < 4611686018427387904 by omega)]
      · simp only [dnlt, cond_false]
      · simp only [wi (show v < 4611686018427387904 by omega)]
    · simp only [dnlt, cond_false]

theorem bagMasks_eq : D.impl_bagMasks bags = some (bags.map mk) := by
  have hsh := h.sh hg
  have hl := h.n16
  unfold D.impl_bagMasks
  refine (loop_map bags (fun s i => (s, i)) mk (by omega) (fun s i hi _ => ?_) (fun s => ?_)).trans rfl
  · have hb := hsh.2 _ (List.getElem_mem hi)
    have hs := h.sets i hi
    rw [getD_lt hi] at hs
    simp only [dlt hi, cond_true, idx_nat hi, Option.bind_some, maskOf_eq _ hb (fun x hx => (hs.2 x hx).1), wi (show i < 4611686018427387904 by omega)]
  · simp only [dnlt, cond_false]

theorem has_bag {i : Nat} (hi : i < bags.length) (v : Nat) : has (mk bags[i]) v = decide ((v : Int) ∈ bags.getD i []) := by
  have h16 := hg.n16
  have hs := h.sets i hi
  rw [getD_lt hi] at hs ⊢
  exact has_mk (fun x hx => by have := hs.2 x hx; omega) v

theorem coversEdges_true : D.impl_coversEdges (g.map mk) (bags.map mk) = some true := by
  have hsh := h.sh hg
  have hl := h.n16
  have h16 := hg.n16
  unfold D.impl_coversEdges
  refine (loop_to (fun i => (i : Int)) g.length (.inl ()) rfl (fun v hv => ?_) ?_).trans rfl
  · have hv' : v < (g.map mk).length := by simpa using hv
    have e1 : decide ((v : Int) < ((g.map mk).length : Int)) = true := dlt hv'
    simp only [e1, cond_true, idx_nat hv', Option.bind_some, List.getElem_map]
    obtain ⟨y, hy, hq⟩ := loop_then (step := (fun (s_340 : Int × Int) => match s_340 with | (x_343, x_344) => cond (decide (x_344 < ((bags.map mk).length : Int))) ((idx (bags.map mk) x_344).bind fun e_365 => (D.impl_vset_has e_365 (v : Int)).bind fun y_371 => cond y_371 (some (.inl ((ior .u32 x_343 e_365), (IntKind.i64.wrap (x_344 + 1))))) (some (.inl (x_343, (IntKind.i64.wrap (x_344 + 1)))))) (some (.inr x_343)))) (s := (0, 0))
      (k := fun r => some r) (Q := fun x => VS x ∧ ∀ u, has x u = true ↔ ∃ j, j < bags.length ∧ (v : Int) ∈ bags.getD j [] ∧ (u : Int) ∈ bags.getD j [])
      (fun s => ∃ i : Nat, s.2 = (i : Int) ∧ i ≤ bags.length ∧ VS s.1 ∧ ∀ u, has s.1 u = true ↔ ∃ j, j < i ∧ (v : Int) ∈ bags.getD j [] ∧ (u : Int) ∈ bags.getD j []) (fun s => bags.length - s.2.toNat)
      (fun x => VS x ∧ ∀ u, has x u = true ↔ ∃ j, j < bags.length ∧ (v : Int) ∈ bags.getD j [] ∧ (u : Int) ∈ bags.getD j []) (by
        rintro ⟨x, _⟩ ⟨i, rfl, hi, hx, hh⟩
        dsimp only at hx hh ⊢
        by_cases hlt : i < bags.length
        · have hlt' : i < (bags.map mk).length := by simpa using hlt
          have hhas : D.impl_vset_has (mk bags[i]) (v : Int) = some (has (mk bags[i]) v) := by
            unfold D.impl_vset_has
            have : decide ((v : Int) < 0) = false := by simp
            rw [this, cond_false, bitAt_eq (VS.mk _) (by omega)]
          simp only [dlt hlt', cond_true, idx_nat hlt', Option.bind_some, List.getElem_map, hhas, has_bag hg h hlt, wi (show i < 4611686018427387904 by omega)]
          by_cases hm : (v : Int) ∈ bags.getD i []
          · simp only [hm, decide_true, cond_true]
            refine ⟨_, rfl, ⟨i + 1, rfl, by omega, VS.ior _ _, fun u => ?_⟩, by dsimp only; omega⟩
            dsimp only
            rw [has_ior hx (VS.mk _), Bool.or_eq_true, hh, has_bag hg h hlt, decide_eq_true_eq]
            constructor
            · rintro (⟨j, h1, h2, h3⟩ | h1)
              · exact ⟨j, by omega, h2, h3⟩
              · exact ⟨i, by omega, hm, h1⟩
            · rintro ⟨j, h1, h2, h3⟩
              by_cases hji : j = i
              · subst hji; exact .inr h3
              · exact .inl ⟨j, by omega, h2, h3⟩
          · simp only [hm, decide_false, cond_false]
            refine ⟨_, rfl, ⟨i + 1, rfl, by omega, hx, fun u => ?_⟩, by dsimp only; omega⟩
            dsimp only
            rw [hh]
            constructor
            · rintro ⟨j, h1, h2⟩; exact ⟨j, by omega, h2⟩
            · rintro ⟨j, h1, h2, h3⟩
              by_cases hji : j = i
              · subst hji; exact absurd h2 hm
              · exact ⟨j, by omega, h2, h3⟩
        · obtain rfl : i = bags.length := by omega
          have : decide (((bags.length : Nat) : Int) < ((bags.map mk).length : Int)) = false := by simp
          simp only [this, cond_false]
          exact ⟨_, rfl, hx, hh⟩) ⟨0, rfl, by omega, VS.zero, fun u => by simp [has_zero]⟩ (fun r hr => ⟨r, rfl, hr⟩)
    rw [Option.bind_eq_some_iff] at hy
    obtain ⟨a, ha, hb⟩ := hy
    cases hb
    obtain ⟨hy1, hy2⟩ := hq
    rw [ha, Option.bind_some]
    have hhas : D.impl_vset_has y (v : Int) = some true := by
      unfold D.impl_vset_has
      have : decide ((v : Int) < 0) = false := by simp
      rw [this, cond_false, bitAt_eq hy1 (by omega)]
      congr 1
      rw [hy2]
      obtain ⟨i, hi, hm⟩ := h.all v hv
      exact ⟨i, hi, hm, hm⟩
    have hz : (iandNot .u32 (mk g[v]) y != 0) = false := by
      rw [bne_eq_false_iff_eq, (VS.iandNot _ _).eq_zero]
      intro u hu
      rw [has_iandNot (VS.mk _) hy1]
      have hrow : ∀ x ∈ g[v], 0 ≤ x ∧ x < 32 := fun x hx => by
        rw [← row_eq hv] at hx
        have := (hg.rows v hv).2 x hx; omega
      rw [has_mk hrow]
      by_cases ha : (u : Int) ∈ g[v]
      · rw [← row_eq hv] at ha
        obtain ⟨k, hk, m1, m2⟩ := h.edge v u hv ha
        have : has y u = true := (hy2 u).2 ⟨k, hk, m1, m2⟩
        simp [this]
      · simp [ha]
    simp only [hhas, Option.bind_some, Bool.not_true, hz, Bool.or_self, cond_false, wi (show v < 4611686018427387904 by omega)]
  · have : decide (((g.length : Nat) : Int) < ((g.map mk).length : Int)) = false := by simp
    simp only [this, cond_false]

theorem impl_PathBagsOk_true : D.impl_PathBagsOk g bags = some true := by
  have hsh := h.sh hg
  have hl := h.n16
  have h16 := hg.n16
  unfold D.impl_PathBagsOk
  have e : decide ((16 : Int) < (bags.length : Int)) = false := by simp; omega
  simp only [impl_GraphOk_eq g hg.shr, (gB_iff g).2 hg, Option.bind_some, Bool.not_true, Bool.false_or, e, cond_false]
  refine (loop_to (fun i => (i : Int)) bags.length (.inl ()) rfl (fun i hi => ?_) ?_).trans ?_
  · have hb := hsh.2 _ (List.getElem_mem hi)
    have hs := h.sets i hi
    have hn := h.some i hi
    rw [getD_lt hi] at hs hn
    have h0 : ((bags[i].length : Int) == 0) = false := by
      simp; exact hn
    simp only [dlt hi, cond_true, idx_nat hi, Option.bind_some, increasing_eq bags[i] g.length hb (by omega) (by omega), (setB_iff _ _).2 hs, Bool.not_true, cond_false, h0, wi (show i < 4611686018427387904 by omega)]
  · simp only [dnlt, cond_false]
  · dsimp only
    rw [bagMasks_eq hg h, Option.bind_some]
    obtain ⟨y, hy, hq⟩ := loop_then (step := (fun (s_198 : Int × Int × Int) => match s_198 with | (x_201, x_202, x_203) => cond (decide (x_203 < ((bags.map mk).length : Int))) ((idx (bags.map mk) x_203).bind fun e_216 => cond ((iand .u32 e_216 x_202) != 0) (some (.inr (.inr false))) (some (.inl (e_216, (ior .u32 x_202 (iandNot .u32 x_201 e_216)), (IntKind.i64.wrap (x_203 + 1)))))) (some (.inr (.inl ()))))) (s := (0, 0, 0))
      (k := fun (r : Unit ⊕ Bool) => some r) (Q := fun r => r = .inl ())
      (fun s => ∃ i : Nat, s.2.2 = (i : Int) ∧ i ≤ bags.length ∧ VS s.1 ∧ VS s.2.1 ∧ (∀ v, has s.1 v = true → 0 < i ∧ (v : Int) ∈ bags.getD (i - 1) []) ∧ (∀ v, has s.2.1 v = true → ∃ a b, a < b ∧ b < i ∧ (v : Int) ∈ bags.getD a [] ∧ (v : Int) ∉ bags.getD b [])) (fun s => bags.length - s.2.2.toNat)
      (fun r => r = .inl ()) (by
        rintro ⟨p, q, _⟩ ⟨i, rfl, hi, hp, hq, h1, h2⟩
        dsimp only at hp hq h1 h2 ⊢
        by_cases hlt : i < bags.length
        · have hlt' : i < (bags.map mk).length := by simpa using hlt
          have hz : (iand .u32 (mk bags[i]) q != 0) = false := by
            rw [bne_eq_false_iff_eq, (VS.iand _ _).eq_zero]
            intro u hu
            rw [has_iand (VS.mk _) hq, has_bag hg h hlt]
            by_cases hm : (u : Int) ∈ bags.getD i []
            · cases hc : has q u with
              | false => simp
              | true =>
                obtain ⟨a, b, hab, hbi, ma, mb⟩ := h2 u hc
                exact absurd (h.run u a b i hab hbi hlt ma hm) mb
            · rw [decide_eq_false hm, Bool.false_and]
          simp only [dlt hlt', cond_true, idx_nat hlt', Option.bind_some, List.getElem_map, hz, cond_false, wi (show i < 4611686018427387904 by omega)]
          refine ⟨_, rfl, ⟨i + 1, rfl, by omega, VS.mk _, VS.ior _ _, fun v hv => ⟨by omega, ?_⟩, fun v hv => ?_⟩, by dsimp only; omega⟩
          · dsimp only at hv
            rw [has_bag hg h hlt] at hv
            simpa using hv
          · dsimp only at hv
            rw [has_ior hq (VS.iandNot _ _), has_iandNot hp (VS.mk _), has_bag hg h hlt] at hv
            simp only [Bool.or_eq_true, Bool.and_eq_true, Bool.not_eq_true', decide_eq_false_iff_not] at hv
            rcases hv with hv | ⟨hv, hn⟩
            · obtain ⟨a, b, h3, h4, h5⟩ := h2 v hv
              exact ⟨a, b, h3, by omega, h5⟩
            · obtain ⟨h3, h4⟩ := h1 v hv
              exact ⟨i - 1, i, by omega, by omega, h4, hn⟩
        · obtain rfl : i = bags.length := by omega
          have : decide (((bags.length : Nat) : Int) < ((bags.map mk).length : Int)) = false := by simp
          simp only [this, cond_false]
          exact ⟨_, rfl, rfl⟩) ⟨0, rfl, by omega, VS.zero, VS.zero, fun v hv => by simp [has_zero] at hv, fun v hv => by simp [has_zero] at hv⟩ (fun r hr => ⟨r, rfl, hr⟩)
    rw [Option.bind_eq_some_iff] at hy
    obtain ⟨a, ha, hb⟩ := hy
    cases hb
    subst hq
    rw [ha, Option.bind_some]
    simp only [netsOf_eq g hg, Option.bind_some, coversEdges_true hg h]
end

section
variable {g : List (List Int)} {o : List Int} (hg : GOk g) (ho : OOk g o)
include hg ho
theorem bag_lens {i : Nat} (hi : i < (bagsOf g o).length) : (((bagsOf g o)[i]).length : Int) = sepAt g o i + 1 ∧ (bagsOf g o)[i].length ≤ 16 := by
  have hbl := bagsOf_len g o
  have h16 := hg.n16
  have hb := path_PB hg ho
  have eb : (bagsOf g o)[i] = bagAt g o i := by rw [← getD_lt hi []]; exact bagsOf_get hg ho (by omega)
  have hlen := bagAt_len hg ho (i := i) (by omega)
  have hs := (bagAt_set hg ho (i := i) (by omega)).length_le (by omega)
  rw [eb]
  unfold sepAt
  omega
theorem largestBag_eq : D.impl_largestBag (bagsOf g o) = some (mx (sepAt g o) o.length) := by
  have hbl := bagsOf_len g o
  have h16 := hg.n16; have hl := ho.len; have hn1 := hg.n1
  unfold D.impl_largestBag
  have e3 : (decide (((bagsOf g o).length : Int) < 1) || decide ((16 : Int) < ((bagsOf g o).length : Int))) = false := by simp; omega
  simp only [e3, cond_false]
  have hmx : mx (sepAt g o) o.length ≤ 16 := by
    have : ∀ n, n ≤ o.length → mx (sepAt g o) n ≤ 16 := by
      intro n
      induction n with
      | zero => intro _; simp [mx]
      | succ n ih =>
        intro h
        have h2 := ih (by omega)
        have h3 := bag_lens hg ho (i := n) (by omega)
        simp only [mx]; omega
    exact this _ (Nat.le_refl _)
  have h0 := mx_nonneg (sepAt g o) o.length
  refine (loop_to (fun i => ((if i = 0 then 0 else mx (sepAt g o) i + 1), (i : Int))) (bagsOf g o).length (mx (sepAt g o) o.length + 1) (by simp) (fun i hi => ?_) ?_).trans ?_
  · have hb := (bag_lens hg ho hi).1
    simp only [dlt hi, cond_true, idx_nat hi, Option.bind_some, wi (show i < 4611686018427387904 by omega), hb, Nat.add_eq_zero_iff, Nat.one_ne_zero, and_false, if_false, mx]
    have hs0 : 0 ≤ sepAt g o i := by unfold sepAt; omega
    have := mx_nonneg (sepAt g o) i
    congr 3
    by_cases hi0 : i = 0
    · subst hi0; simp only [if_true, mx]; split <;> omega
    · simp only [hi0, if_false]; split <;> omega
  · simp only [dnlt, cond_false]
    rw [if_neg (by omega), hbl]
  · rw [w64 (by omega) (by omega)]
    congr 1; omega
theorem BagsWidth_eq : D.impl_BagsWidth (bagsOf g o) = some (mx (sepAt g o) o.length) := by
  have hbl := bagsOf_len g o
  have h16 := hg.n16; have hl := ho.len; have hn1 := hg.n1
  unfold D.impl_BagsWidth D.slices_ContainsFunc_int64_int64__impl_BagsWidth_1 D.slices_IndexFunc_int64_int64__impl_BagsWidth_1
  have e1 : ∀ {β : Type} (k : Unit ⊕ Int → Option β), (loopF (σ := Int) (ρ := (Unit) ⊕ (Int)) (fun (x_40 : Int) => cond (decide (x_40 < ((bagsOf g o).length : Int))) ((idx (bagsOf g o) x_40).bind fun e_60 => (D.impl_BagsWidth_1 e_60).bind fun y_66 => cond y_66 (some (.inr (.inr x_40))) (some (.inl (IntKind.i64.wrap (x_40 + 1))))) (some (.inr (.inl ())))) 0).bind k = k (.inl ()) := by
    intro β k
    refine loop_to (fun i => (i : Int)) (bagsOf g o).length (Sum.inl ()) rfl (fun i hi => ?_) ?_
    · have := (bag_lens hg ho hi).2
      unfold D.impl_BagsWidth_1
      have e : decide ((16 : Int) < ((bagsOf g o)[i].length : Int)) = false := by simp; omega
      simp only [dlt hi, cond_true, idx_nat hi, Option.bind_some, e, cond_false, wi (show i < 4611686018427387904 by omega)]
    · simp only [dnlt, cond_false]
  rw [e1]
  have e2 : decide ((0 : Int) ≤ -1) = false := rfl
  simp only [Option.bind_some, e2, cond_false, largestBag_eq hg ho]

theorem bag_new {i : Nat} (hi : i < o.length) : elems (iandNot .u32 (mk (bagAt g o i)) (mk (o.take i))) = [o[i]] := by
  have h16 := hg.n16
  have hoi := ho.rng _ (List.getElem_mem hi)
  have hs := bagAt_set hg ho hi
  refine Inc.ext (elems_inc _) (by simp [Inc]) (fun x => ?_)
  rw [mem_elems, List.mem_singleton]
  constructor
  · rintro ⟨v, hv, hb, rfl⟩
    rw [has_iandNot (VS.mk _) (VS.mk _), has_mk (fun x hx => by have := hs.2 x hx; omega), has_take hg ho i] at hb
    simp only [Bool.and_eq_true, Bool.not_eq_true', decide_eq_true_eq, decide_eq_false_iff_not] at hb
    rcases (mem_bagAt hg ho hi).1 hb.1 with e | ⟨h, _⟩
    · exact e
    · exact absurd h hb.2
  · rintro rfl
    obtain ⟨v, ev⟩ : ∃ v : Nat, o[i] = (v : Int) := ⟨o[i].toNat, by omega⟩
    refine ⟨v, by omega, ?_, ev⟩
    rw [has_iandNot (VS.mk _) (VS.mk _), has_mk (fun x hx => by have := hs.2 x hx; omega), has_take hg ho i, ← ev]
    simp only [Bool.and_eq_true, Bool.not_eq_true', decide_eq_true_eq, decide_eq_false_iff_not]
    exact ⟨(mem_bagAt hg ho hi).2 (.inl rfl), notin_take hg ho hi⟩
theorem bag_seen {i : Nat} (hi : i < o.length) : ior .u32 (mk (o.take i)) (mk (bagAt g o i)) = mk (o.take (i + 1)) := by
  have h16 := hg.n16
  have hs := bagAt_set hg ho hi
  refine (VS.ior _ _).ext (VS.mk _) (fun v hv => ?_)
  rw [has_ior (VS.mk _) (VS.mk _), has_mk (xs := bagAt g o i) (fun x hx => by have := hs.2 x hx; omega), has_take hg ho i, has_take hg ho (i + 1), Bool.eq_iff_iff]
  simp only [Bool.or_eq_true, decide_eq_true_eq]
  rw [List.take_succ_eq_append_getElem hi, List.mem_append, List.mem_singleton, mem_bagAt hg ho hi]
  constructor
  · rintro (h | h | ⟨h, _⟩)
    · exact .inl h
    · exact .inr h
    · exact .inl h
  · rintro (h | h)
    · exact .inl h
    · exact .inr (.inl h)

theorem OrderOfBags_eq : D.impl_OrderOfBags g (bagsOf g o) = some o := by
  have hbl := bagsOf_len g o
  have h16 := hg.n16; have hl := ho.len
  have hb := path_PB hg ho
  unfold D.impl_OrderOfBags
  rw [impl_PathBagsOk_true hg hb, Option.bind_some]
  simp only [Bool.not_true, cond_false]
  rw [bagMasks_eq hg hb, Option.bind_some]
  refine (loop_to (fun i => (o.take i, mk (o.take i), (i : Int))) o.length o (by simp [mk]) (fun i hi => ?_) ?_).trans ?_
  · have hi' : i < ((bagsOf g o).map mk).length := by simpa [hbl] using hi
    have hi2 : i < (bagsOf g o).length := by omega
    have eb : (bagsOf g o)[i] = bagAt g o i := by rw [← getD_lt hi2 []]; exact bagsOf_get hg ho hi
    simp only [dlt hi', cond_true, idx_nat hi', Option.bind_some, List.getElem_map, eb, list_eq _ (VS.iandNot _ _), bag_new hg ho hi, bag_seen hg ho hi, wi (show i < 4611686018427387904 by omega)]
    rw [appendD_ok (by simp; omega), Option.bind_some, ← List.take_succ_eq_append_getElem hi]
  · have : decide (((o.length : Nat) : Int) < (((bagsOf g o).map mk).length : Int)) = false := by simp [hbl]
    simp only [this, cond_false, List.take_length]
  · simp only [wide_eq o (ho.sh hg), Option.bind_some]
end

theorem FnPathBags_true (code : List Int) (hb : ∀ x ∈ code, 0 ≤ x ∧ x ≤ 255) : D.laws_FnPathBags code = some true := by
  unfold D.laws_FnPathBags D.laws_big
  simp only [Option.bind_some]
  by_cases hl : (4096 : Int) < code.length
  · simp only [hl, decide_true, cond_true]
  · simp only [hl, decide_false, cond_false]
    obtain ⟨z, e1, k1⟩ := roll_ok code 1001 hb (by omega)
    simp only [e1, Option.bind_some]
    obtain ⟨⟨g, b, i, z2⟩, e2, hg, hg7, rfl, k2⟩ := w9Graph_ok k1 z 7 (by omega) (by omega)
    dsimp only at hg hg7 k2
    rw [show (((7 : Nat) : Nat) : Int) = 7 from rfl] at e2
    simp only [e2, Option.bind_some]
    obtain ⟨⟨o, b2, i2, z3⟩, e3, h1, h2, h3, rfl, k3⟩ := w9Order_ok k2 z2 g.length hg.n16
    dsimp only at h1 h2 h3 k3
    simp only [e3, Option.bind_some]
    have ho : OOk g o := ⟨h1, h2, h3⟩
    have h16 := hg.n16; have hn1 := hg.n1
    have hP := path_PB hg ho
    have hs1 := sliceD_pre (xs := o) (i := 1) (by omega)
    have hop := sep_one hg ho (by omega)
    unfold sepAt at hop
    rw [show (((1 : Nat) : Nat) : Int) = 1 from rfl] at hs1
    simp only [impl_PathBags_eq hg ho hg.shr (ho.sh hg), impl_Separation_eq hg ho, spec_PathBagsOk_true hg hP, impl_PathBagsOk_true hg hP, BagsWidth_eq hg ho, OrderOfBags_eq hg ho, Option.bind_some, Bool.not_true, cond_false, bne_self_eq_false,
      spec_OrderOk_eq g o hg.shr (ho.sh hg), (gB_iff g).2 hg, (ordB_iff g o).2 ho, Bool.and_self, cond_true, Separation_eq hg ho, hs1, OpenOf_one hg ho (by omega)]
    rw [decide_eq_true (Int.le_refl _), cond_true]
    congr 1
    exact decide_eq_true hop
end Go.Sx
