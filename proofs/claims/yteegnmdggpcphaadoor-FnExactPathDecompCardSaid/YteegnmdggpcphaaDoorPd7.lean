/- Parts of the proof: Qc, Qd, Qe, Qf, Qg, Qh. -/
import Derived.Test.YteegnmdggpcphaaDoorPd6
set_option linter.unusedVariables false
set_option linter.unusedSimpArgs false
set_option linter.unusedSectionVars false
/- The program's and the reference's first helpers in closed form: sets, graphs, orders. Plain. -/
namespace Go.Sx
/-- short enough for every loop -/
def Sh {α : Type} (xs : List α) : Prop := xs.length ≤ 4294967296

theorem l1In_eq (a b c : Int) : D.spec_l1In a b c = some (decide (b ≤ a) && decide (a ≤ c)) := rfl
theorem inRange_eq (a b c : Int) : D.impl_inRange a b c = some (decide (b ≤ a) && decide (a ≤ c)) := rfl

theorem any_beq (xs : List Int) (n : Int) : xs.any (fun x => x == n) = decide (n ∈ xs) := by
  rw [Bool.eq_iff_iff, List.any_eq_true]; simp
theorem l1Has_eq (xs : List Int) (n : Int) (h : Sh xs) : D.spec_l1Has xs n = some (decide (n ∈ xs)) := by
  unfold Sh at h
  unfold D.spec_l1Has
  refine (loop_anyb xs.length (fun i => xs.getD i 0 == n) true (fun i hi => ?_) ?_ rfl rfl).trans ?_
  · simp only [dlt hi, cond_true, idx_nat hi, Option.bind_some, wi' hi (by omega), getD_lt hi]
    cases xs[i] == n <;> rfl
  · simp only [dnlt, cond_false]
  · rw [range_any_list xs (fun x => x == n) _ (fun i hi => by rw [getD_lt hi]), any_beq]
theorem contains_eq (xs : List Int) (n : Int) (h : Sh xs) : D.slices_Contains_int64_int64 xs n = some (decide (n ∈ xs)) := by
  unfold Sh at h
  unfold D.slices_Contains_int64_int64 D.slices_Index_int64_int64
  have e : loopF (σ := Int) (ρ := (Unit) ⊕ (Int)) (fun (x_26 : Int) => cond (decide (x_26 < (xs.length : Int))) ((idx xs x_26).bind fun e_39 => cond (n == e_39) (some (.inr (.inr x_26))) (some (.inl (IntKind.i64.wrap (x_26 + 1))))) (some (.inr (.inl ())))) 0 =
      some (((List.range xs.length).findSome? (fun i => if xs.getD i 0 == n then some (Sum.inr (i : Int)) else none)).getD (.inl ())) := by
    refine loop_find xs.length _ _ (fun i hi => ?_) ?_
    · simp only [dlt hi, cond_true, idx_nat hi, Option.bind_some, wi' hi (by omega), getD_lt hi]
      rw [show (n == xs[i]) = (xs[i] == n) from Bool.beq_comm ..]
      cases xs[i] == n <;> rfl
    · simp only [dnlt, cond_false]
  rw [e, Option.bind_some]
  cases hf : (List.range xs.length).findSome? (fun i => if xs.getD i 0 == n then some (Sum.inr (i : Int) : Unit ⊕ Int) else none) with
  | none =>
    have : n ∉ xs := fun hm => by
      obtain ⟨i, hi, e⟩ := List.getElem_of_mem hm
      have := (List.findSome?_eq_none_iff.1 hf) i (List.mem_range.2 hi)
      rw [getD_lt hi, e] at this
      simp at this
    simp [this]
  | some r =>
    obtain ⟨i, hi, hr⟩ := List.exists_of_findSome?_eq_some hf
    have hi' := List.mem_range.1 hi
    rw [getD_lt hi'] at hr
    split at hr
    · rename_i hc
      cases hr
      have : n ∈ xs := by rw [← (beq_iff_eq.1 hc)]; exact List.getElem_mem _
      simp [this]
    · cases hr

/-- a set of numbers below n, as a list -/
def SetOf (xs : List Int) (n : Int) : Prop := Inc xs ∧ ∀ x ∈ xs, 0 ≤ x ∧ x < n
theorem SetOf.len : ∀ {xs : List Int} {n a : Int}, Inc xs → (∀ x ∈ xs, a ≤ x ∧ x < n) → xs = [] ∨ (xs.length : Int) ≤ n - a
  | [], _, _, _, _ => .inl rfl
  | x :: xs, n, a, h, hr => by
    right
    have h' := List.pairwise_cons.1 h
    have hx := hr x (by simp)
    rcases SetOf.len (a := x + 1) (n := n) h'.2 (fun y hy => ⟨by have := h'.1 y hy; omega, (hr y (by simp [hy])).2⟩) with e | e
    · subst e; simp; omega
    · simp; omega
theorem SetOf.length_le {xs : List Int} {n : Int} (h : SetOf xs n) (hn : 0 ≤ n) : (xs.length : Int) ≤ n := by
  rcases SetOf.len h.1 h.2 with e | e
  · subst e; simpa using hn
  · omega

theorem inc_iff (xs : List Int) : Inc xs ↔ ∀ i (hi : i + 1 < xs.length), xs[i] < xs[i + 1] := by
  unfold Inc
  constructor
  · intro h i hi
    exact List.pairwise_iff_getElem.1 h i (i + 1) (by omega) hi (by omega)
  · intro h
    rw [List.pairwise_iff_getElem]
    intro i j hi hj hij
    have key : ∀ k, ∀ hk : i + k + 1 < xs.length, xs[i] < xs[i + k + 1] := by
      intro k
      induction k with
      | zero => intro hk; exact h i hk
      | succ k ih => intro hk; have := ih (by omega); have := h (i + k + 1) hk; exact Int.lt_trans (ih (by omega)) this
    obtain ⟨k, rfl⟩ : ∃ k, j = i + k + 1 := ⟨j - i - 1, by omega⟩
    exact key k hj

def setB (xs : List Int) (n : Int) : Bool := (List.range xs.length).all fun i => (decide (0 ≤ xs.getD i 0) && decide (xs.getD i 0 ≤ n - 1)) && !(decide (0 < i) && decide (xs.getD i 0 ≤ xs.getD (i - 1) 0))
theorem setB_iff (xs : List Int) (n : Int) : setB xs n = true ↔ SetOf xs n := by
  unfold setB SetOf
  rw [all_forall, inc_iff]
  constructor
  · intro h
    refine ⟨fun i hi => ?_, fun x hx => ?_⟩
    · have := h (i + 1) hi
      simp [hi, show i < xs.length by omega] at this
      omega
    · obtain ⟨i, hi, rfl⟩ := List.getElem_of_mem hx
      have := h i hi
      simp [hi] at this
      omega
  · rintro ⟨h1, h2⟩ i hi
    have h3 := h2 _ (List.getElem_mem hi)
    simp [hi]
    refine ⟨by omega, ?_⟩
    rcases Nat.eq_zero_or_pos i with h0 | h0
    · exact .inl h0
    · right
      have := h1 (i - 1) (by omega)
      have e : i - 1 + 1 = i := by omega
      simp only [e] at this
      have e2 : xs[i - 1]?.getD 0 = xs[i - 1] := by rw [List.getElem?_eq_getElem (by omega)]; rfl
      rw [e2]; exact this

theorem increasing_eq (xs : List Int) (n : Int) (h : Sh xs) (h0 : 0 ≤ n) (hn : n ≤ 4294967296) : D.impl_increasing xs n = some (setB xs n) := by
  unfold Sh at h
  unfold D.impl_increasing
  refine loop_allb xs.length _ false (fun i hi => ?_) ?_ rfl rfl
  · simp only [dlt hi, cond_true, idx_nat hi, Option.bind_some, wi' hi (by omega), getD_lt hi, inRange_eq]
    rw [w64 (x := n - 1) (by omega) (by omega)]
    cases (decide (0 ≤ xs[i]) && decide (xs[i] ≤ n - 1))
    · simp
    · by_cases h0 : 0 < i
      · have e1 : IntKind.i64.wrap ((i : Int) - 1) = ((i - 1 : Nat) : Int) := by rw [w64 (by omega) (by omega)]; omega
        have hd : decide ((0 : Int) < (i : Int)) = true := by simp; omega
        simp only [Bool.not_true, cond_false, hd, cond_true, e1, idx_nat (show i - 1 < xs.length by omega), Option.bind_some, getD_lt (show i - 1 < xs.length by omega), h0, decide_true, Bool.true_and]
        cases decide (xs[i] ≤ xs[i - 1]) <;> rfl
      · have hd : decide ((0 : Int) < (i : Int)) = false := by simp; omega
        simp only [Bool.not_true, cond_false, hd, Option.bind_some, h0, decide_false, Bool.false_and, Bool.not_false, Bool.and_true, if_true]
  · simp only [dnlt, cond_false]

theorem l1Set_eq (xs : List Int) (n : Int) (h : Sh xs) (h0 : 0 ≤ n) (hn : n ≤ 4294967296) : D.spec_l1Set xs n = some (setB xs n) := by
  have hh := h
  unfold Sh at h
  unfold D.spec_l1Set
  by_cases hl : n < xs.length
  · have : setB xs n = false := by
      cases hb : setB xs n
      · rfl
      · have := ((setB_iff xs n).1 hb).length_le h0; omega
    simp [hl, this]
  · simp only [hl, decide_false, cond_false]
    refine loop_allb xs.length _ false (fun i hi => ?_) ?_ rfl rfl
    · simp only [dlt hi, cond_true, idx_nat hi, Option.bind_some, wi' hi (by omega), getD_lt hi, l1In_eq]
      rw [w64 (x := n - 1) (by omega) (by omega)]
      cases (decide (0 ≤ xs[i]) && decide (xs[i] ≤ n - 1))
      · simp
      · by_cases h0 : 0 < i
        · have e1 : IntKind.i64.wrap ((i : Int) - 1) = ((i - 1 : Nat) : Int) := by rw [w64 (by omega) (by omega)]; omega
          have hd : decide ((0 : Int) < (i : Int)) = true := by simp; omega
          simp only [Bool.not_true, cond_false, hd, cond_true, e1, idx_nat (show i - 1 < xs.length by omega), Option.bind_some, getD_lt (show i - 1 < xs.length by omega), h0, decide_true, Bool.true_and]
          cases decide (xs[i] ≤ xs[i - 1]) <;> rfl
        · have hd : decide ((0 : Int) < (i : Int)) = false := by simp; omega
          simp only [Bool.not_true, cond_false, hd, Option.bind_some, h0, decide_false, Bool.false_and, Bool.not_false, Bool.and_true, if_true]
    · simp only [dnlt, cond_false]

/-- row v of a graph -/
def row (g : List (List Int)) (v : Nat) : List Int := g.getD v []
theorem row_eq {g : List (List Int)} {v : Nat} (h : v < g.length) : row g v = g[v] := getD_lt h _
def adj (g : List (List Int)) (u v : Nat) : Prop := (v : Int) ∈ row g u

/-- a valid graph -/
structure GOk (g : List (List Int)) : Prop where
  n1 : 1 ≤ g.length
  n16 : g.length ≤ 16
  rows : ∀ v, v < g.length → SetOf (row g v) g.length
  irr : ∀ v, v < g.length → ¬ adj g v v
  sym : ∀ u v, u < g.length → adj g u v → adj g v u

theorem GOk.mem {g : List (List Int)} (h : GOk g) {u : Nat} (hu : u < g.length) {x : Int} (hx : x ∈ row g u) : ∃ v : Nat, x = v ∧ v < g.length ∧ adj g u v := by
  have := (h.rows u hu).2 x hx
  refine ⟨x.toNat, by omega, by omega, ?_⟩
  unfold adj
  rw [show ((x.toNat : Nat) : Int) = x by omega]; exact hx
theorem GOk.row_len {g : List (List Int)} (h : GOk g) {u : Nat} (hu : u < g.length) : (row g u).length ≤ 16 := by
  have := (h.rows u hu).length_le (by omega)
  have := h.n16
  omega
theorem GOk.lt {g : List (List Int)} (h : GOk g) {u v : Nat} (hu : u < g.length) (ha : adj g u v) : v < g.length := by
  obtain ⟨w, h1, h2, _⟩ := h.mem hu ha
  omega

/-- short in both ways -/
def Sh2 (g : List (List Int)) : Prop := Sh g ∧ ∀ r ∈ g, Sh r
theorem Sh2.row {g : List (List Int)} (h : Sh2 g) {v : Nat} (hv : v < g.length) : Sh (row g v) := by
  rw [row_eq hv]; exact h.2 _ (List.getElem_mem hv)
theorem idx_row {g : List (List Int)} {v : Nat} (h : v < g.length) : idx g (v : Int) = some (row g v) := by rw [row_eq h, idx_nat h]

def gB1 (g : List (List Int)) : Bool := (List.range g.length).all fun v => setB (row g v) g.length && !decide ((v : Int) ∈ row g v)
def gB2 (g : List (List Int)) : Bool := (List.range g.length).all fun v => (row g v).all fun x => decide ((v : Int) ∈ row g x.toNat)
def gB (g : List (List Int)) : Bool := decide (1 ≤ g.length) && decide (g.length ≤ 16) && gB1 g && gB2 g
theorem gB_iff (g : List (List Int)) : gB g = true ↔ GOk g := by
  unfold gB gB1 gB2
  simp only [Bool.and_eq_true, decide_eq_true_eq, setB_iff, Bool.not_eq_true', decide_eq_false_iff_not, List.all_eq_true, List.mem_range]
  constructor
  · rintro ⟨⟨⟨h1, h2⟩, h3⟩, h4⟩
    refine ⟨h1, h2, fun v hv => (h3 v hv).1, fun v hv => (h3 v hv).2, fun u v hu ha => ?_⟩
    have := h4 u hu v ha
    unfold adj
    simpa using this
  · intro h
    refine ⟨⟨⟨h.n1, h.n16⟩, fun v hv => ⟨h.rows v hv, h.irr v hv⟩⟩, fun v hv x hx => ?_⟩
    obtain ⟨u, rfl, hu, ha⟩ := h.mem hv hx
    have := h.sym v u hv ha
    simpa [adj] using this

theorem spec_GraphOk_eq (g : List (List Int)) (h : Sh2 g) : D.spec_GraphOk g = some (gB g) := by
  have hl : g.length ≤ 4294967296 := h.1
  unfold D.spec_GraphOk D.spec_l1Size
  simp only [Option.bind_some, l1In_eq]
  by_cases hn : 1 ≤ g.length ∧ g.length ≤ 16
  · have e : (decide ((1 : Int) ≤ (g.length : Int)) && decide ((g.length : Int) ≤ 16)) = true := by simp; omega
    simp only [e, Bool.not_true, cond_false]
    refine (loop_ck g.length (fun v => setB (row g v) g.length && !decide ((v : Int) ∈ row g v)) (.inl ()) (.inr false) (fun v hv => ?_) ?_).trans ?_
    rotate_left
    · simp only [dnlt, cond_false]
    · show cond (gB1 g) _ _ = _
      have e4 : gB g = (gB1 g && gB2 g) := by unfold gB; simp [hn.1, hn.2]
      rw [e4]
      cases hc : gB1 g with
      | false => rfl
      | true =>
        rw [cond_true, Bool.true_and]
        refine loop_allb g.length _ false (fun v hv => ?_) ?_ rfl rfl
        · have hset : SetOf (row g v) g.length := by
            have := (all_forall _ _).1 hc v hv
            simp only [Bool.and_eq_true] at this
            exact (setB_iff _ _).1 this.1
          simp only [dlt hv, cond_true]
          refine (loop_ck (row g v).length (fun i => decide ((v : Int) ∈ row g ((row g v).getD i 0).toNat)) (.inl ()) (.inr false) (fun i hi => ?_) ?_).trans ?_
          · have hx := hset.2 _ (List.getElem_mem hi)
            have e5 : idx g (row g v)[i] = some (row g ((row g v)[i]).toNat) := by
              have := idx_row (g := g) (v := ((row g v)[i]).toNat) (by omega)
              rwa [show ((((row g v)[i]).toNat : Nat) : Int) = (row g v)[i] by omega] at this
            have hs := h.row (v := ((row g v)[i]).toNat) (by omega)
            simp only [idx_row hv, Option.bind_some, dlt hi, cond_true, idx_nat hi, e5, l1Has_eq _ _ hs, wi (show i < 4611686018427387904 by have := h.row hv; unfold Sh at this; omega), getD_lt hi]
            cases decide ((v : Int) ∈ row g ((row g v)[i]).toNat) <;> rfl
          · simp only [idx_row hv, Option.bind_some, dnlt, cond_false]
          · rw [range_all_list (row g v) (fun x => decide ((v : Int) ∈ row g x.toNat)) _ (fun i hi => by rw [getD_lt hi]), wi' hv (by omega)]
            cases (row g v).all fun x => decide ((v : Int) ∈ row g x.toNat) <;> rfl
        · simp only [dnlt, cond_false]
    · simp only [dlt hv, cond_true, idx_row hv, Option.bind_some, l1Set_eq _ _ (h.row hv) (show (0 : Int) ≤ (g.length : Int) by omega) (by omega), l1Has_eq _ _ (h.row hv), wi' hv (by omega)]
      cases setB (row g v) g.length
      · rfl
      · cases decide ((v : Int) ∈ row g v) <;> rfl
  · have e : (decide ((1 : Int) ≤ (g.length : Int)) && decide ((g.length : Int) ≤ 16)) = false := by
      rw [Bool.eq_false_iff]; simp; omega
    simp only [e, Bool.not_false, cond_true]
    unfold gB
    congr 1
    symm
    rw [Bool.eq_false_iff]
    simp
    omega

theorem impl_GraphOk_eq (g : List (List Int)) (h : Sh2 g) : D.impl_GraphOk g = some (gB g) := by
  have hl : g.length ≤ 4294967296 := h.1
  unfold D.impl_GraphOk
  by_cases hn : 1 ≤ g.length ∧ g.length ≤ 16
  · have e : (decide ((g.length : Int) < (1 : Int)) || decide ((16 : Int) < (g.length : Int))) = false := by simp; omega
    simp only [e, cond_false]
    refine (loop_ck g.length (fun v => setB (row g v) g.length && !decide ((v : Int) ∈ row g v)) (.inl ()) (.inr false) (fun v hv => ?_) ?_).trans ?_
    rotate_left
    · simp only [dnlt, cond_false]
    · show cond (gB1 g) _ _ = _
      have e4 : gB g = (gB1 g && gB2 g) := by unfold gB; simp [hn.1, hn.2]
      rw [e4]
      cases hc : gB1 g with
      | false => rfl
      | true =>
        rw [cond_true, Bool.true_and]
        refine loop_allb g.length _ false (fun v hv => ?_) ?_ rfl rfl
        · have hset : SetOf (row g v) g.length := by
            have := (all_forall _ _).1 hc v hv
            simp only [Bool.and_eq_true] at this
            exact (setB_iff _ _).1 this.1
          simp only [dlt hv, cond_true, idx_row hv, Option.bind_some]
          refine (loop_ck (row g v).length (fun i => decide ((v : Int) ∈ row g ((row g v).getD i 0).toNat)) (.inl ()) (.inr false) (fun i hi => ?_) ?_).trans ?_
          · have hx := hset.2 _ (List.getElem_mem hi)
            have e5 : idx g (row g v)[i] = some (row g ((row g v)[i]).toNat) := by
              have := idx_row (g := g) (v := ((row g v)[i]).toNat) (by omega)
              rwa [show ((((row g v)[i]).toNat : Nat) : Int) = (row g v)[i] by omega] at this
            have hs := h.row (v := ((row g v)[i]).toNat) (by omega)
            simp only [Option.bind_some, dlt hi, cond_true, idx_nat hi, e5, contains_eq _ _ hs, wi (show i < 4611686018427387904 by have := h.row hv; unfold Sh at this; omega), getD_lt hi]
            cases decide ((v : Int) ∈ row g ((row g v)[i]).toNat) <;> rfl
          · simp only [dnlt, cond_false]
          · rw [range_all_list (row g v) (fun x => decide ((v : Int) ∈ row g x.toNat)) _ (fun i hi => by rw [getD_lt hi]), wi' hv (by omega)]
            cases (row g v).all fun x => decide ((v : Int) ∈ row g x.toNat) <;> rfl
        · simp only [dnlt, cond_false]
    · simp only [dlt hv, cond_true, idx_row hv, Option.bind_some, increasing_eq _ _ (h.row hv) (show (0 : Int) ≤ (g.length : Int) by omega) (by omega), contains_eq _ _ (h.row hv), wi' hv (by omega)]
      cases setB (row g v) g.length
      · rfl
      · cases decide ((v : Int) ∈ row g v) <;> rfl
  · have e : (decide ((g.length : Int) < (1 : Int)) || decide ((16 : Int) < (g.length : Int))) = true := by
      simp; omega
    simp only [e, cond_true]
    unfold gB
    congr 1
    symm
    rw [Bool.eq_false_iff]
    simp
    omega
end Go.Sx

/- Orders; the program's sets as bit masks; the reference's rising lists. Plain. -/
namespace Go.Sx
/-- an order of a graph -/
structure OOk (g : List (List Int)) (o : List Int) : Prop where
  len : o.length = g.length
  rng : ∀ x ∈ o, 0 ≤ x ∧ x < g.length
  nd : o.Nodup

def oB (g : List (List Int)) (o : List Int) : Bool := (List.range o.length).all fun i => (decide (0 ≤ o.getD i 0) && decide (o.getD i 0 ≤ (g.length : Int) - 1)) && !decide (o.getD i 0 ∈ o.take i)
theorem mem_take_iff {α : Type} {l : List α} {i : Nat} {x : α} : x ∈ l.take i ↔ ∃ j, ∃ h : j < l.length, j < i ∧ l[j] = x := by
  rw [List.mem_take_iff_getElem]
  constructor
  · rintro ⟨j, h, e⟩; exact ⟨j, by omega, by omega, e⟩
  · rintro ⟨j, h, h2, e⟩; exact ⟨j, by omega, e⟩
theorem nodup_iff {l : List Int} : l.Nodup ↔ ∀ i (hi : i < l.length), l[i] ∉ l.take i := by
  constructor
  · intro h i hi hm
    obtain ⟨j, hj, hji, e⟩ := mem_take_iff.1 hm
    have := (List.pairwise_iff_getElem.1 h) j i hj hi hji
    exact this e
  · intro h
    refine List.pairwise_iff_getElem.2 (fun i j hi hj hij e => h j hj (mem_take_iff.2 ⟨i, hi, hij, e⟩))
theorem oB_iff (g : List (List Int)) (o : List Int) (hl : o.length = g.length) : oB g o = true ↔ OOk g o := by
  unfold oB
  rw [all_forall]
  constructor
  · intro h
    refine ⟨hl, fun x hx => ?_, nodup_iff.2 fun i hi => ?_⟩
    · obtain ⟨i, hi, rfl⟩ := List.getElem_of_mem hx
      have := h i hi
      rw [getD_lt hi] at this
      simp at this; omega
    · have := h i hi
      rw [getD_lt hi] at this
      simp at this; exact this.2
  · intro h i hi
    have h1 := h.rng _ (List.getElem_mem hi)
    have h2 := nodup_iff.1 h.nd i hi
    rw [getD_lt hi]
    simp [h2]; omega

def ordB (g : List (List Int)) (o : List Int) : Bool := decide (o.length = g.length) && oB g o
theorem ordB_iff (g : List (List Int)) (o : List Int) : ordB g o = true ↔ OOk g o := by
  unfold ordB
  by_cases hl : o.length = g.length
  · simp [hl, oB_iff g o hl]
  · simp [hl]; intro h; exact hl h.len

theorem spec_OrderOk_eq (g : List (List Int)) (o : List Int) (h : Sh2 g) (ho : Sh o) : D.spec_OrderOk g o = some (gB g && ordB g o) := by
  have hl : g.length ≤ 4294967296 := h.1
  have hol : o.length ≤ 4294967296 := ho
  unfold D.spec_OrderOk
  rw [spec_GraphOk_eq g h, Option.bind_some]
  cases hg : gB g
  · rfl
  · have hg' := (gB_iff g).1 hg
    simp only [cond_true]
    unfold D.spec_l1Order D.spec_l1Size ordB
    simp only [Option.bind_some]
    by_cases hl : o.length = g.length
    · have e : ((o.length : Int) != (g.length : Int)) = false := by simp [hl]
      simp only [e, cond_false]
      simp only [Option.bind_fun_some, hl, decide_true, Bool.true_and]
      unfold oB
      rw [← hl]
      refine loop_allb o.length _ false (fun i hi => ?_) ?_ rfl rfl
      · have hsh : Sh (o.take i) := by unfold Sh; rw [List.length_take]; omega
        simp only [dlt hi, cond_true, idx_nat hi, Option.bind_some, wi' hi (by omega), getD_lt hi, ← hl, D.spec_l1There, D.spec_l1Size, l1In_eq, sliceD_pre (show i ≤ o.length by omega), l1Has_eq _ _ hsh]
        rw [w64 (x := (o.length : Int) - 1) (by omega) (by omega)]
        cases (decide (0 ≤ o[i]) && decide (o[i] ≤ (o.length : Int) - 1))
        · rfl
        · cases decide (o[i] ∈ o.take i) <;> rfl
      · simp only [dnlt, cond_false]
    · have e : ((o.length : Int) != (g.length : Int)) = true := by simp; omega
      simp [e, hl]

theorem sorted_inc {y : List Int} (hs : Srt y 0 y.length) (hn : y.Nodup) : Inc y := by
  unfold Inc
  rw [List.pairwise_iff_getElem]
  intro i j hi hj hij
  have h1 := hs i j (by omega) (by omega) (by omega)
  have h2 := (List.pairwise_iff_getElem.1 hn) i j hi hj hij
  simp [at', hi, hj] at h1
  have : y[i] ≠ y[j] := h2
  omega
theorem impl_OrderOk_eq (g : List (List Int)) (o : List Int) (h : Sh2 g) (ho : Sh o) : D.impl_OrderOk g o = some (gB g && ordB g o) := by
  unfold D.impl_OrderOk
  rw [impl_GraphOk_eq g h, Option.bind_some]
  cases hg : gB g
  · rfl
  · have hg' := (gB_iff g).1 hg
    by_cases hl : o.length = g.length
    · have e : ((o.length : Int) != (g.length : Int)) = false := by simp [hl]
      have h16 := hg'.n16
      obtain ⟨y, h1, h2, h3⟩ := sorted_spec o (by omega)
      have hyl := h2.length_eq
      simp only [Bool.not_true, e, Bool.or_false, cond_false, h1, Option.bind_some, Bool.true_and]
      rw [increasing_eq y _ (by unfold Sh; omega) (by omega) (by omega), Option.bind_some]
      congr 1
      unfold ordB
      simp only [hl, decide_true, Bool.true_and]
      rw [Bool.eq_iff_iff, setB_iff, oB_iff g o hl]
      constructor
      · rintro ⟨k1, k2⟩
        refine ⟨hl, fun x hx => k2 x (h2.mem_iff.2 hx), h2.nodup_iff.1 ?_⟩
        exact List.Pairwise.imp (fun h e => by omega) k1
      · intro k
        exact ⟨sorted_inc h3 (h2.nodup_iff.2 k.nd), fun x hx => k.rng x (h2.mem_iff.1 hx)⟩
    · have e : ((o.length : Int) != (g.length : Int)) = true := by simp; omega
      simp [e, ordB, hl]

/-! ### masks -/
theorem impl_one_eq (v : Nat) : D.impl_one (v : Int) = some (ishl .u32 1 (v : Int)) := by
  unfold D.impl_one
  have : decide ((v : Int) < 0) = false := by simp
  rw [this]; rfl
theorem impl_one_eq' {x : Int} (h : 0 ≤ x) : D.impl_one x = some (ishl .u32 1 x) := by
  have := impl_one_eq x.toNat
  rwa [show ((x.toNat : Nat) : Int) = x by omega] at this
def mk (xs : List Int) : Int := xs.foldl (fun s v => ior .u32 s (ishl .u32 1 v)) 0
theorem maskOf_eq (xs : List Int) (h : Sh xs) (h0 : ∀ x ∈ xs, 0 ≤ x) : D.impl_maskOf xs = some (mk xs) := by
  unfold Sh at h
  unfold D.impl_maskOf
  refine (loop_listb xs (fun s i => (s, i)) (fun s v => ior .u32 s (ishl .u32 1 v)) (fun s => s) (fun _ => True) 0 trivial (fun s i hi _ => ⟨?_, trivial⟩) (fun s _ => ?_)).trans rfl
  · simp only [dlt hi, cond_true, idx_nat hi, Option.bind_some, wi' hi (by omega), impl_one_eq' (h0 _ (List.getElem_mem hi))]
  · simp only [dnlt, cond_false]
theorem VS_foldl_ior : ∀ (xs : List Int) (s : Int), VS s → VS (xs.foldl (fun s v => ior .u32 s (ishl .u32 1 v)) s)
  | [], s, h => h
  | x :: xs, s, _ => VS_foldl_ior xs _ (VS.ior _ _)
theorem VS.mk (xs : List Int) : VS (mk xs) := VS_foldl_ior xs 0 VS.zero
theorem has_foldl_ior (u : Nat) : ∀ (xs : List Int) (s : Int), VS s → (∀ x ∈ xs, 0 ≤ x ∧ x < 32) → has (xs.foldl (fun s v => ior .u32 s (ishl .u32 1 v)) s) u = (has s u || decide ((u : Int) ∈ xs))
  | [], s, _, _ => by simp
  | x :: xs, s, hs, h => by
    have hx := h x (by simp)
    rw [List.foldl_cons, has_foldl_ior u xs _ (VS.ior _ _) (fun y hy => h y (by simp [hy])), has_ior hs (VS.ishl _ _)]
    obtain ⟨k, rfl⟩ : ∃ k : Nat, x = k := ⟨x.toNat, by omega⟩
    rw [has_one (by omega)]
    by_cases hu : u = k
    · subst hu; simp
    · have : ¬ (u : Int) = (k : Int) := by omega
      simp [hu, this]
theorem has_mk {xs : List Int} (h : ∀ x ∈ xs, 0 ≤ x ∧ x < 32) (u : Nat) : has (mk xs) u = decide ((u : Int) ∈ xs) := by
  unfold mk; rw [has_foldl_ior u xs 0 VS.zero h, has_zero, Bool.false_or]

theorem GOk.mem0 {g : List (List Int)} (hg : GOk g) {r : List Int} (hr : r ∈ g) : r.length ≤ 16 ∧ ∀ x ∈ r, 0 ≤ x ∧ x < g.length := by
  obtain ⟨v, hv, rfl⟩ := List.getElem_of_mem hr
  rw [← row_eq hv]
  exact ⟨hg.row_len hv, (hg.rows v hv).2⟩
theorem netsOf_eq (g : List (List Int)) (hg : GOk g) : D.impl_netsOf g = some (g.map mk) := by
  have h16 := hg.n16
  unfold D.impl_netsOf
  refine (loop_map g (fun s i => (s, i)) mk (by omega) (fun s i hi _ => ?_) (fun s => ?_)).trans rfl
  · obtain ⟨h1, h2⟩ := hg.mem0 (List.getElem_mem hi)
    simp only [dlt hi, cond_true, idx_nat hi, Option.bind_some, wi' hi (by omega), maskOf_eq g[i] (by unfold Sh; omega) (fun x hx => (h2 x hx).1)]
  · simp only [dnlt, cond_false]
theorem narrow_eq (xs : List Int) (h : Sh xs) : D.impl_narrow xs = some xs := by
  unfold Sh at h
  unfold D.impl_narrow
  rw [makeD_zero (by omega) (by omega), Option.bind_some]
  refine (loop_map xs (fun s i => (s, i)) (fun x => x) h (fun s i hi _ => ?_) (fun s => ?_)).trans (by simp)
  · simp only [dlt hi, cond_true, idx_nat hi, Option.bind_some, wi' hi (by omega)]
  · simp only [dnlt, cond_false]
theorem wide_eq (xs : List Int) (h : Sh xs) : D.impl_wide xs = some xs := by
  unfold Sh at h
  unfold D.impl_wide
  rw [makeD_zero (by omega) (by omega), Option.bind_some]
  refine (loop_map xs (fun s i => (s, i)) (fun x => x) h (fun s i hi _ => ?_) (fun s => ?_)).trans (by simp)
  · simp only [dlt hi, cond_true, idx_nat hi, Option.bind_some, wi' hi (by omega)]
  · simp only [dnlt, cond_false]

theorem least_eq {s : Int} (h : VS s) (h0 : s ≠ 0) : ∃ k : Nat, k < 32 ∧ D.impl_vset_least s = some (k : Int) ∧ has s k = true ∧ (∀ v, v < k → has s v = false) ∧
    (∀ v, has (iand .u32 s (IntKind.u32.wrap (s - 1))) v = (has s v && !decide (v = k))) := by
  obtain ⟨k, h1, h2, h3, h4, h5⟩ := least_spec h h0
  refine ⟨k, h1, ?_, h2, h3, h5⟩
  unfold D.impl_vset_least D.math_bits_TrailingZeros32
  have e : (s == 0) = false := by simpa using h0
  simp only [e, cond_false, h4, tz_table k h1, Option.bind_some]
  rw [w64 (by omega) (by omega)]

theorem list_eq (s : Int) (h : VS s) : D.impl_vset_list s = some (elems s) := by
  unfold D.impl_vset_list
  have key : ∀ (n : Nat) (x : Int) (l : List Int), VS x → (elems x).length = n → l.length + n ≤ 32 →
      loopF (σ := Int × (List Int)) (ρ := ((List Int))) (fun (s_52 : Int × (List Int)) => match s_52 with | (x_55, l_56) => cond (x_55 != 0) ((D.impl_vset_least x_55).bind fun y_88 => (appendD l_56 ([y_88] : List Int)).bind fun l_99 => some (.inl ((iand .u32 x_55 (IntKind.u32.wrap (x_55 - 1))), l_99))) (some (.inr l_56))) (x, l) = some (l ++ elems x) := by
    intro n
    induction n with
    | zero =>
      intro x l hx hn _
      have e : elems x = [] := List.eq_nil_of_length_eq_zero hn
      have e0 : x = 0 := hx.eq_zero.2 fun v hv => by
        cases hc : has x v
        · rfl
        · have := mem_elems.2 ⟨v, hv, hc, rfl⟩; rw [e] at this; simp at this
      rw [e]
      refine loopF_done ?_
      have : (x != 0) = false := by simp [e0]
      simp only [this, cond_false, List.append_nil]
    | succ n ih =>
      intro x l hx hn hl
      have h0 : x ≠ 0 := by rintro rfl; rw [elems_zero] at hn; simp at hn
      obtain ⟨k, h1, h2, h3, h4, h5⟩ := least_eq hx h0
      have e := elems_least h1 h3 h4 h5
      have en : (elems (iand .u32 x (IntKind.u32.wrap (x - 1)))).length = n := by rw [e] at hn; simpa using hn
      have hstep := ih (iand .u32 x (IntKind.u32.wrap (x - 1))) (l ++ [(k : Int)]) (VS.iand _ _) en (by simp; omega)
      have e1 : (x != 0) = true := by simpa using h0
      rw [loopF_more (s' := (iand .u32 x (IntKind.u32.wrap (x - 1)), l ++ [(k : Int)]))]
      · rw [hstep, e]; simp
      · simp only [e1, cond_true, h2, Option.bind_some, appendD_ok (xs := l) (ys := [(k : Int)]) (by simp; omega)]
  have := key (elems s).length s [] h rfl (by simpa using elems_len s)
  rw [this]; simp
theorem elems_sh (s : Int) : Sh (elems s) := by have := elems_len s; unfold Sh; omega
theorem numbers_eq (s : Int) (h : VS s) : D.impl_vset_numbers s = some (elems s) := by
  unfold D.impl_vset_numbers
  rw [list_eq s h, Option.bind_some, wide_eq _ (elems_sh s)]; rfl
theorem results_eq (xs : List Int) (h : Sh xs) (hv : ∀ s ∈ xs, VS s) : D.impl_results xs = some (xs.map elems) := by
  unfold Sh at h
  unfold D.impl_results
  refine (loop_map xs (fun s i => (s, i)) elems h (fun s i hi _ => ?_) (fun s => ?_)).trans rfl
  · simp only [dlt hi, cond_true, idx_nat hi, Option.bind_some, wi' hi (by omega), numbers_eq _ (hv _ (List.getElem_mem hi))]
  · simp only [dnlt, cond_false]

/-! ### rising lists -/
theorem l1Copy_eq (xs : List Int) (h : Sh xs) : D.spec_l1Copy xs = some xs := by
  unfold Sh at h
  unfold D.spec_l1Copy
  rw [appendD_ok (by simpa using h)]; rfl
/-- with one more -/
def into (xs : List Int) (n : Int) : List Int := if n ∈ xs then xs else xs.takeWhile (fun x => decide (x < n)) ++ n :: xs.dropWhile (fun x => decide (x < n))
theorem mem_into {xs : List Int} {n x : Int} : x ∈ into xs n ↔ x = n ∨ x ∈ xs := by
  unfold into
  split
  · constructor
    · intro h; exact .inr h
    · rintro (rfl | h)
      · assumption
      · exact h
  · have e : x ∈ xs ↔ x ∈ xs.takeWhile (fun x => decide (x < n)) ++ xs.dropWhile (fun x => decide (x < n)) := by rw [List.takeWhile_append_dropWhile]
    rw [e]; simp only [List.mem_append, List.mem_cons]
    constructor
    · rintro (h | h | h) <;> simp [h]
    · rintro (h | h | h) <;> simp [h]
theorem inc_dropWhile {xs : List Int} {n : Int} (h : Inc xs) : ∀ y ∈ xs.dropWhile (fun x => decide (x < n)), n ≤ y := by
  induction xs with
  | nil => simp
  | cons x xs ih =>
    have h' := List.pairwise_cons.1 h
    intro y hy
    rw [List.dropWhile_cons] at hy
    split at hy
    · exact ih h'.2 y hy
    · rename_i hc
      simp at hc
      rcases List.mem_cons.1 hy with rfl | hy
      · exact hc
      · have := h'.1 y hy; omega
theorem inc_takeWhile {xs : List Int} {n : Int} : ∀ y ∈ xs.takeWhile (fun x => decide (x < n)), y < n := by
  intro y hy
  induction xs with
  | nil => simp at hy
  | cons x xs ih =>
    rw [List.takeWhile_cons] at hy
    split at hy
    · rename_i hc
      rcases List.mem_cons.1 hy with rfl | hy
      · simpa using hc
      · exact ih hy
    · simp at hy
theorem Inc.into {xs : List Int} (h : Inc xs) (n : Int) : Inc (into xs n) := by
  unfold Sx.into
  split
  · exact h
  · rename_i hn
    unfold Inc
    rw [List.pairwise_append]
    refine ⟨List.Pairwise.sublist (List.takeWhile_sublist _) h, List.pairwise_cons.2 ⟨fun y hy => ?_, List.Pairwise.sublist (List.dropWhile_sublist _) h⟩, fun a ha b hb => ?_⟩
    · have h1 := inc_dropWhile h y hy
      have h2 : y ≠ n := fun e => hn (e ▸ (List.dropWhile_sublist _).mem hy)
      omega
    · have h1 := inc_takeWhile a ha
      rcases List.mem_cons.1 hb with rfl | hb
      · exact h1
      · have := inc_dropWhile h b hb; omega
end Go.Sx

/- Open vertices, bags of an order: the reference's and the program's. Plain. -/
namespace Go.Sx
theorem into_len (xs : List Int) (n : Int) : (into xs n).length ≤ xs.length + 1 := by
  unfold into
  split
  · omega
  · have : (xs.takeWhile (fun x => decide (x < n)) ++ xs.dropWhile (fun x => decide (x < n))).length = xs.length := by rw [List.takeWhile_append_dropWhile]
    simp only [List.length_append, List.length_cons] at this ⊢; omega

theorem takeWhile_eq_take {α : Type} (p : α → Bool) : ∀ (xs : List α), xs.takeWhile p = xs.take (xs.takeWhile p).length ∧ xs.dropWhile p = xs.drop (xs.takeWhile p).length
  | [] => by simp
  | x :: xs => by
    rw [List.takeWhile_cons, List.dropWhile_cons]
    cases p x
    · simp
    · have := takeWhile_eq_take p xs
      simp only [if_true, List.length_cons, List.take_succ_cons, List.drop_succ_cons, ← this.1, ← this.2, and_self]
theorem takeWhile_get {α : Type} (p : α → Bool) : ∀ (xs : List α) (i : Nat) (h : i < (xs.takeWhile p).length) (h' : i < xs.length), p xs[i] = true
  | x :: xs, i, h, h' => by
    rw [List.takeWhile_cons] at h
    cases hp : p x
    · rw [hp] at h; simp at h
    · rw [hp] at h
      cases i with
      | zero => simpa using hp
      | succ i => simp only [if_true, List.length_cons] at h; simpa using takeWhile_get p xs i (by omega) (by simpa using h')
theorem takeWhile_stop {α : Type} (p : α → Bool) : ∀ (xs : List α) (h : (xs.takeWhile p).length < xs.length), p (xs[(xs.takeWhile p).length]) = false
  | x :: xs, h => by
    cases hp : p x
    · simp [List.takeWhile_cons, hp]
    · have h2 : (xs.takeWhile p).length < xs.length := by simpa [List.takeWhile_cons, hp] using h
      simpa [List.takeWhile_cons, hp] using takeWhile_stop p xs h2
theorem takeWhile_len_le {α : Type} (p : α → Bool) (xs : List α) : (xs.takeWhile p).length ≤ xs.length := (List.takeWhile_sublist _).length_le

theorem l1Into_eq (xs : List Int) (n : Int) (h : Inc xs) (hl : xs.length ≤ 4294967295) : D.spec_l1Into xs n = some (into xs n) := by
  unfold D.spec_l1Into
  generalize hk : (xs.takeWhile (fun x => decide (x < n))).length = k
  have hkl : k ≤ xs.length := by rw [← hk]; exact takeWhile_len_le _ _
  have htk : xs.takeWhile (fun x => decide (x < n)) = xs.take k := by rw [← hk]; exact (takeWhile_eq_take _ xs).1
  have hdk : xs.dropWhile (fun x => decide (x < n)) = xs.drop k := by rw [← hk]; exact (takeWhile_eq_take _ xs).2
  refine (loop_to (fun i => ((i : Nat) : Int)) k (k : Int) rfl (fun i hi => ?_) ?_).trans ?_
  · have hi' : i < xs.length := by omega
    have hp : decide (xs[i] < n) = true := takeWhile_get (fun x => decide (x < n)) xs i (by omega) hi'
    simp only [dlt hi', cond_true, idx_nat hi', Option.bind_some, hp, wi (show i < 4611686018427387904 by omega)]
  · by_cases hlt : k < xs.length
    · have hp : decide (xs[k] < n) = false := by
        have := takeWhile_stop (fun x => decide (x < n)) xs (by omega)
        simp only [hk] at this; exact this
      simp only [dlt hlt, cond_true, idx_nat hlt, Option.bind_some, hp, cond_false]
    · obtain rfl : k = xs.length := by omega
      simp only [dnlt, cond_false, Option.bind_some]
  · have hS1 : Sh (xs.take k) := by unfold Sh; rw [List.length_take]; omega
    have hrest : ((sliceD xs 0 (k : Int)).bind fun l_135 => (D.spec_l1Copy l_135).bind fun y_139 => (appendD y_139 ([n] : List Int)).bind fun l_154 => (sliceD xs (k : Int) (xs.length : Int)).bind fun l_160 => (appendD l_154 l_160).bind fun l_164 => some l_164) = some (xs.take k ++ n :: xs.drop k) := by
      simp only [sliceD_pre hkl, sliceD_post hkl, Option.bind_some, l1Copy_eq _ hS1]
      rw [appendD_ok (by simp; omega), Option.bind_some, appendD_ok (by simp; omega), Option.bind_some]
      simp
    by_cases hlt : k < xs.length
    · simp only [dlt hlt, cond_true, idx_nat hlt, Option.bind_some]
      by_cases he : xs[k] = n
      · have hm : n ∈ xs := by rw [← he]; exact List.getElem_mem _
        have : (xs[k] == n) = true := by simp [he]
        simp only [this, cond_true]
        unfold into; rw [if_pos hm]
      · have : (xs[k] == n) = false := by simpa using he
        simp only [this, cond_false, hrest]
        unfold into
        rw [htk, hdk, if_neg]
        intro hm
        obtain ⟨j, hj, e⟩ := List.getElem_of_mem hm
        have hst : decide (xs[k] < n) = false := by
          have := takeWhile_stop (fun x => decide (x < n)) xs (by omega)
          simp only [hk] at this; exact this
        simp at hst
        rcases Nat.lt_trichotomy j k with h1 | h1 | h1
        · have := takeWhile_get (fun x => decide (x < n)) xs j (by omega) hj
          simp at this; omega
        · subst h1; exact he e
        · have := (List.pairwise_iff_getElem.1 h) k j hlt hj h1
          omega
    · obtain rfl : k = xs.length := by omega
      simp only [dnlt, cond_false, Option.bind_some, hrest]
      unfold into
      rw [htk, hdk, if_neg]
      intro hm
      obtain ⟨j, hj, e⟩ := List.getElem_of_mem hm
      have := takeWhile_get (fun x => decide (x < n)) xs j (by omega) hj
      simp at this; omega

/-! ### open vertices -/
/-- has it a neighbour outside -/
def opn (g : List (List Int)) (l : List Int) (v : Int) : Prop := ∃ y ∈ row g v.toNat, y ∉ l
theorem Inc.short {s : List Int} {n : Nat} (h : Inc s) (hr : ∀ x ∈ s, 0 ≤ x ∧ x < n) : s.length ≤ n := by
  rcases SetOf.len h hr with e | e
  · subst e; simp
  · omega

theorem l12Open_eq (g : List (List Int)) (l : List Int) (hg : GOk g) (hl : l.length ≤ 16) (hr : ∀ x ∈ l, 0 ≤ x ∧ x < g.length) :
    ∃ s, D.spec_l12Open g l = some s ∧ Inc s ∧ ∀ x, x ∈ s ↔ x ∈ l ∧ opn g l x := by
  have h16 := hg.n16
  have hsh : Sh l := by unfold Sh; omega
  unfold D.spec_l12Open
  -- a round of the outer loop
  have inner : ∀ (s : List Int) (v : Nat), Inc s → (∀ x ∈ s, x ∈ l) → (v : Int) ∈ l →
      ∃ s', (row g v).foldl (fun s x => if x ∈ l then s else into s (v : Int)) s = s' ∧ Inc s' ∧ (∀ x, x ∈ s' ↔ x ∈ s ∨ (x = v ∧ opn g l x)) := by
    intro s v hs hsl hv
    have key : ∀ (r : List Int) (s : List Int), Inc s → (∀ x ∈ s, x ∈ l) → Inc (r.foldl (fun s x => if x ∈ l then s else into s (v : Int)) s) ∧ (∀ x, x ∈ r.foldl (fun s x => if x ∈ l then s else into s (v : Int)) s ↔ x ∈ s ∨ (x = v ∧ ∃ y ∈ r, y ∉ l)) := by
      intro r
      induction r with
      | nil => intro s h1 _; exact ⟨h1, fun x => by simp⟩
      | cons y r ih =>
        intro s h1 h2
        rw [List.foldl_cons]
        by_cases hy : y ∈ l
        · rw [if_pos hy]
          obtain ⟨i1, i2⟩ := ih s h1 h2
          refine ⟨i1, fun x => (i2 x).trans ?_⟩
          simp [hy]
        · rw [if_neg hy]
          obtain ⟨i1, i2⟩ := ih (into s v) (h1.into _) (fun x hx => by
            rcases mem_into.1 hx with rfl | hx
            · exact hv
            · exact h2 x hx)
          refine ⟨i1, fun x => (i2 x).trans ?_⟩
          rw [mem_into]
          simp [hy]
          constructor
          · rintro ((h | h) | h)
            · exact .inr h
            · exact .inl h
            · exact .inr h.1
          · rintro (h | h)
            · exact .inl (.inr h)
            · exact .inl (.inl h)
    obtain ⟨k1, k2⟩ := key (row g v) s hs hsl
    refine ⟨_, rfl, k1, fun x => (k2 x).trans ?_⟩
    constructor
    · rintro (h | ⟨rfl, h⟩)
      · exact .inl h
      · exact .inr ⟨rfl, by simpa [opn] using h⟩
    · rintro (h | ⟨rfl, h⟩)
      · exact .inl h
      · exact .inr ⟨rfl, by simpa [opn] using h⟩
  have hI : ∀ (r : List Int) (s : List Int), (∀ x ∈ r, x ∈ l) → Inc s → (∀ x ∈ s, x ∈ l) →
      ∃ s', r.foldl (fun s v => (row g v.toNat).foldl (fun s x => if x ∈ l then s else into s v) s) s = s' ∧ Inc s' ∧ (∀ x, x ∈ s' ↔ x ∈ s ∨ (x ∈ r ∧ opn g l x)) := by
    intro r
    induction r with
    | nil => intro s _ h _; exact ⟨s, rfl, h, fun x => by simp⟩
    | cons v r ih =>
      intro s hrl h1 h2
      have hv := hrl v (by simp)
      have hv0 := hr v hv
      obtain ⟨s1, e1, i1, i2⟩ := inner s v.toNat h1 h2 (by rwa [show ((v.toNat : Nat) : Int) = v by omega])
      rw [show ((v.toNat : Nat) : Int) = v by omega] at e1 i2
      obtain ⟨s2, e2, i3, i4⟩ := ih s1 (fun x hx => hrl x (by simp [hx])) i1 (fun x hx => by
        rcases (i2 x).1 hx with h | ⟨rfl, _⟩
        · exact h2 x h
        · exact hv)
      refine ⟨s2, by rw [List.foldl_cons, e1, e2], i3, fun x => ?_⟩
      rw [i4, i2]
      constructor
      · rintro ((h | ⟨rfl, h⟩) | ⟨h, h'⟩)
        · exact .inl h
        · exact .inr ⟨by simp, h⟩
        · exact .inr ⟨by simp [h], h'⟩
      · rintro (h | ⟨h, h'⟩)
        · exact .inl (.inl h)
        · rcases List.mem_cons.1 h with rfl | h
          · exact .inl (.inr ⟨rfl, h'⟩)
          · exact .inr ⟨h, h'⟩
  obtain ⟨s, e, i1, i2⟩ := hI l [] (fun _ h => h) (by simp [Inc]) (by simp)
  refine ⟨s, ?_, i1, fun x => (i2 x).trans (by simp)⟩
  refine (loop_listb l (fun s i => (s, i)) (fun s v => (row g v.toNat).foldl (fun s x => if x ∈ l then s else into s v) s) (fun s => s) (fun s => Inc s ∧ ∀ x ∈ s, x ∈ l) [] ⟨by simp [Inc], by simp⟩ (fun s i hi hs => ?_) (fun s _ => ?_)).trans ?_
  · have hv := List.getElem_mem hi
    have hv0 := hr _ hv
    obtain ⟨v, ev⟩ : ∃ v : Nat, l[i] = (v : Int) := ⟨l[i].toNat, by omega⟩
    have hvn : v < g.length := by omega
    obtain ⟨s', e', j1, j2⟩ := inner s v hs.1 hs.2 (by rw [← ev]; exact hv)
    refine ⟨?_, ?_⟩
    · simp only [dlt hi, cond_true]
      refine (loop_listb (row g v) (fun s i => (s, i)) (fun s x => if x ∈ l then s else into s (v : Int)) (fun s => s) (fun s => Inc s ∧ ∀ x ∈ s, x ∈ l) s hs (fun t j hj ht => ?_) (fun t _ => ?_)).trans ?_
      · have hts : t.length ≤ g.length := ht.1.short (fun x hx => hr x (ht.2 x hx))
        have hrl := hg.row_len hvn
        simp only [idx_nat hi, ev, Option.bind_some, idx_row hvn, dlt hj, cond_true, idx_nat hj, l1Has_eq _ _ hsh, wi (show j < 4611686018427387904 by omega), l1Into_eq t _ ht.1 (by omega)]
        by_cases hc : (row g v)[j] ∈ l
        · simp [hc, ht.1]; exact ht.2
        · simp only [hc, decide_false, Bool.not_false, cond_true, if_false]
          exact ⟨trivial, ht.1.into _, fun x hx => by
            rcases mem_into.1 hx with rfl | hx
            · rw [← ev]; exact hv
            · exact ht.2 x hx⟩
      · simp only [idx_nat hi, ev, Option.bind_some, idx_row hvn, dnlt, cond_false]
      · simp only [wi (show i < 4611686018427387904 by omega), ev, Int.toNat_natCast]
    · simp only [ev, Int.toNat_natCast]
      rw [e']
      refine ⟨j1, fun x hx => ?_⟩
      rcases (j2 x).1 hx with h | ⟨rfl, _⟩
      · exact hs.2 x h
      · rw [← ev]; exact hv
  · simp only [dnlt, cond_false]
  · simp only [e]

/-- the program's -/
theorem openOf_eq (g : List (List Int)) (s : Int) (hg : GOk g) (hs : VS s) (hr : ∀ v, has s v = true → v < g.length) :
    ∃ t, D.impl_openOf (g.map mk) s = some t ∧ VS t ∧ ∀ v, has t v = true ↔ has s v = true ∧ ∃ u : Nat, adj g v u ∧ has s u = false := by
  have h16 := hg.n16
  unfold D.impl_openOf
  rw [list_eq s hs, Option.bind_some]
  have hcond : ∀ v, v < g.length → ((iandNot .u32 (mk (row g v)) s != 0) = true ↔ ∃ u : Nat, adj g v u ∧ has s u = false) := by
    intro v hv
    have hrow : ∀ x ∈ row g v, 0 ≤ x ∧ x < 32 := fun x hx => by have := (hg.rows v hv).2 x hx; omega
    rw [bne_iff_ne, Ne, (VS.iandNot _ _).eq_zero]
    constructor
    · intro h
      apply Classical.byContradiction
      intro hn
      apply h
      intro u _
      rw [has_iandNot (VS.mk _) hs, has_mk hrow]
      by_cases ha : adj g v u
      · cases hc : has s u
        · exact absurd ⟨u, ha, hc⟩ hn
        · simp
      · have : ¬ (u : Int) ∈ row g v := ha
        simp [this]
    · rintro ⟨u, ha, hu⟩ h
      have hul := hg.lt hv ha
      have := h u (by omega)
      rw [has_iandNot (VS.mk _) hs, has_mk hrow, hu] at this
      have ha' : (u : Int) ∈ row g v := ha
      simp [ha'] at this
  refine ⟨_, (loop_listb (elems s) (fun t i => (t, i)) (fun t v => if (iandNot .u32 (mk (row g v.toNat)) s != 0) then ior .u32 t (ishl .u32 1 v) else t) (fun t => t) (fun _ => True) 0 trivial (fun t i hi _ => ⟨?_, trivial⟩) (fun t _ => ?_)), ?_⟩
  · obtain ⟨v, hv, hb, ev⟩ := mem_elems.1 (List.getElem_mem hi)
    have hvn := hr v hb
    have hel := elems_len s
    have e1 : idx (g.map mk) (v : Int) = some (mk (row g v)) := by
      rw [idx_nat (by simpa using hvn)]; simp [row_eq hvn]
    simp only [dlt hi, cond_true, idx_nat hi, Option.bind_some, ev, e1, impl_one_eq, wi (show i < 4611686018427387904 by omega), Int.toNat_natCast]
    cases (iandNot .u32 (mk (row g v)) s != 0) <;> rfl
  · simp only [dnlt, cond_false]
  · have key : ∀ (r : List Int) (t : Int), VS t → (∀ x ∈ r, ∃ v : Nat, x = v ∧ v < g.length) →
        VS (r.foldl (fun t v => if (iandNot .u32 (mk (row g v.toNat)) s != 0) then ior .u32 t (ishl .u32 1 v) else t) t) ∧
        ∀ v, has (r.foldl (fun t v => if (iandNot .u32 (mk (row g v.toNat)) s != 0) then ior .u32 t (ishl .u32 1 v) else t) t) v = true ↔ has t v = true ∨ ((v : Int) ∈ r ∧ ∃ u : Nat, adj g v u ∧ has s u = false) := by
      intro r
      induction r with
      | nil => intro t ht _; exact ⟨ht, fun v => by simp⟩
      | cons x r ih =>
        intro t ht hx
        obtain ⟨w, rfl, hw⟩ := hx x (by simp)
        rw [List.foldl_cons]
        have hc := hcond w hw
        simp only [Int.toNat_natCast]
        by_cases hb : (iandNot .u32 (mk (row g w)) s != 0) = true
        · rw [if_pos hb]
          obtain ⟨i1, i2⟩ := ih (ior .u32 t (ishl .u32 1 (w : Int))) (VS.ior _ _) (fun y hy => hx y (by simp [hy]))
          refine ⟨i1, fun v => (i2 v).trans ?_⟩
          rw [has_ior ht (VS.ishl _ _), has_one (by omega)]
          simp only [Bool.or_eq_true, decide_eq_true_eq, List.mem_cons]
          constructor
          · rintro ((h | rfl) | ⟨h, h'⟩)
            · exact .inl h
            · exact .inr ⟨.inl rfl, hc.1 hb⟩
            · exact .inr ⟨.inr h, h'⟩
          · rintro (h | ⟨h | h, h'⟩)
            · exact .inl (.inl h)
            · exact .inl (.inr (by omega))
            · exact .inr ⟨h, h'⟩
        · rw [if_neg hb]
          obtain ⟨i1, i2⟩ := ih t ht (fun y hy => hx y (by simp [hy]))
          refine ⟨i1, fun v => (i2 v).trans ?_⟩
          simp only [List.mem_cons]
          constructor
          · rintro (h | ⟨h, h'⟩)
            · exact .inl h
            · exact .inr ⟨.inr h, h'⟩
          · rintro (h | ⟨h | h, h'⟩)
            · exact .inl h
            · exfalso
              obtain rfl : v = w := by omega
              exact hb (hc.2 h')
            · exact .inr ⟨h, h'⟩
    obtain ⟨k1, k2⟩ := key (elems s) 0 VS.zero (fun x hx => by
      obtain ⟨v, _, hb, rfl⟩ := mem_elems.1 hx
      exact ⟨v, rfl, hr v hb⟩)
    refine ⟨k1, fun v => (k2 v).trans ?_⟩
    rw [has_zero, mem_elems_nat hs]
    simp
end Go.Sx

/- PathDecomp: the reference's and the program's are one. Plain. -/
namespace Go.Sx
noncomputable def openS (g : List (List Int)) (l : List Int) : List Int := (D.spec_l12Open g l).getD []
theorem openS_spec (g : List (List Int)) (l : List Int) (hg : GOk g) (hl : l.length ≤ 16) (hr : ∀ x ∈ l, 0 ≤ x ∧ x < g.length) :
    D.spec_l12Open g l = some (openS g l) ∧ Inc (openS g l) ∧ ∀ x, x ∈ openS g l ↔ x ∈ l ∧ opn g l x := by
  obtain ⟨s, h1, h2, h3⟩ := l12Open_eq g l hg hl hr
  have : openS g l = s := by unfold openS; rw [h1]; rfl
  rw [this]; exact ⟨h1, h2, h3⟩
noncomputable def bagAt (g : List (List Int)) (o : List Int) (i : Nat) : List Int := into (openS g (o.take i)) (o.getD i 0)
noncomputable def bagsOf (g : List (List Int)) (o : List Int) : List (List Int) := (List.range o.length).map (bagAt g o)
theorem bagsOf_len (g : List (List Int)) (o : List Int) : (bagsOf g o).length = o.length := by simp [bagsOf]

section
variable {g : List (List Int)} {o : List Int} (hg : GOk g) (ho : OOk g o)
include hg ho
theorem take_ok (i : Nat) : (o.take i).length ≤ 16 ∧ ∀ x ∈ o.take i, 0 ≤ x ∧ x < g.length := by
  have := hg.n16; have := ho.len
  exact ⟨by rw [List.length_take]; omega, fun x hx => ho.rng x (List.mem_of_mem_take hx)⟩

theorem l12Bags_eq : D.spec_l12Bags g o = some (bagsOf g o) := by
  have h16 := hg.n16; have hl := ho.len
  unfold D.spec_l12Bags
  refine (loop_to (fun i => ((List.range i).map (bagAt g o), (i : Int))) o.length (bagsOf g o) (by simp) (fun i hi => ?_) ?_).trans rfl
  · obtain ⟨h1, h2⟩ := take_ok hg ho i
    obtain ⟨k1, k2, k3⟩ := openS_spec g (o.take i) hg h1 h2
    have hs := k2.short (n := g.length) (fun x hx => h2 x ((k3 x).1 hx).1)
    simp only [dlt hi, cond_true, idx_nat hi, Option.bind_some, wi (show i < 4611686018427387904 by omega), sliceD_pre (show i ≤ o.length by omega), k1, l1Into_eq _ _ k2 (show (openS g (o.take i)).length ≤ 4294967295 by omega)]
    rw [appendD_ok (by simp; omega), Option.bind_some, List.range_succ, List.map_append]
    have eb : bagAt g o i = into (openS g (o.take i)) o[i] := by unfold bagAt; rw [getD_lt hi]
    simp [eb]
  · simp only [dnlt, cond_false]; rfl

theorem has_take (i : Nat) (v : Nat) : has (mk (o.take i)) v = decide ((v : Int) ∈ o.take i) := by
  have := hg.n16
  exact has_mk (fun x hx => by have := (take_ok hg ho i).2 x hx; omega) v
omit hg ho in
theorem mk_take {i : Nat} (hi : i < o.length) : ior .u32 (mk (o.take i)) (ishl .u32 1 o[i]) = mk (o.take (i + 1)) := by
  unfold mk
  rw [List.take_succ_eq_append_getElem hi, List.foldl_append]; rfl

noncomputable def maskAt (g : List (List Int)) (o : List Int) (i : Nat) : Int := ior .u32 ((D.impl_openOf (g.map mk) (mk (o.take i))).getD 0) (ishl .u32 1 (o.getD i 0))
theorem maskAt_spec {i : Nat} (hi : i < o.length) : (∃ t, D.impl_openOf (g.map mk) (mk (o.take i)) = some t ∧ maskAt g o i = ior .u32 t (ishl .u32 1 o[i])) ∧ elems (maskAt g o i) = bagAt g o i := by
  have h16 := hg.n16
  obtain ⟨h1, h2⟩ := take_ok hg ho i
  obtain ⟨t, e, ht, k⟩ := openOf_eq g (mk (o.take i)) hg (VS.mk _) (fun v hv => by
    rw [has_take hg ho i] at hv
    have := h2 _ (of_decide_eq_true hv); omega)
  have hm : maskAt g o i = ior .u32 t (ishl .u32 1 o[i]) := by unfold maskAt; rw [e, getD_lt hi]; rfl
  refine ⟨⟨t, e, hm⟩, ?_⟩
  obtain ⟨k1, k2, k3⟩ := openS_spec g (o.take i) hg h1 h2
  have hoi := ho.rng _ (List.getElem_mem hi)
  obtain ⟨w, ew⟩ : ∃ w : Nat, o[i] = (w : Int) := ⟨o[i].toNat, by omega⟩
  refine Inc.ext (elems_inc _) (k2.into _) (fun x => ?_)
  unfold bagAt
  rw [mem_into, k3, mem_elems, hm, ew, getD_lt hi, ew]
  constructor
  · rintro ⟨v, hv, hb, rfl⟩
    rw [has_ior ht (VS.ishl _ _), has_one (by omega), Bool.or_eq_true, k, has_take hg ho i] at hb
    rcases hb with ⟨h3, u, h4, h5⟩ | h3
    · right
      refine ⟨of_decide_eq_true h3, ?_⟩
      rw [has_take hg ho i] at h5
      exact ⟨(u : Int), by simpa [adj] using h4, of_decide_eq_false h5⟩
    · left; have := of_decide_eq_true h3; omega
  · rintro (rfl | ⟨h3, y, h4, h5⟩)
    · refine ⟨w, by omega, ?_, rfl⟩
      rw [has_ior ht (VS.ishl _ _), has_one (by omega)]; simp
    · have hx := h2 x h3
      obtain ⟨v, rfl⟩ : ∃ v : Nat, x = v := ⟨x.toNat, by omega⟩
      refine ⟨v, by omega, ?_, rfl⟩
      rw [has_ior ht (VS.ishl _ _), Bool.or_eq_true, k, has_take hg ho i]
      left
      refine ⟨by simpa using h3, ?_⟩
      rw [Int.toNat_natCast] at h4
      obtain ⟨u, rfl, hu, ha⟩ := hg.mem (by omega) h4
      exact ⟨u, ha, by rw [has_take hg ho i]; simpa using h5⟩

theorem pathBags_eq : D.impl_pathBags (g.map mk) o = some ((List.range o.length).map (maskAt g o)) := by
  have h16 := hg.n16; have hl := ho.len
  unfold D.impl_pathBags
  refine (loop_to (fun i => ((List.range i).map (maskAt g o), mk (o.take i), (i : Int))) o.length ((List.range o.length).map (maskAt g o)) (by simp [mk]) (fun i hi => ?_) ?_).trans rfl
  · obtain ⟨⟨t, e, hm⟩, _⟩ := maskAt_spec hg ho hi
    have hoi := (ho.rng _ (List.getElem_mem hi)).1
    simp only [dlt hi, cond_true, idx_nat hi, Option.bind_some, wi (show i < 4611686018427387904 by omega), e, impl_one_eq' hoi]
    rw [appendD_ok (by simp; omega), Option.bind_some, mk_take hi, List.range_succ, List.map_append, ← hm]
    rfl
  · simp only [dnlt, cond_false]

theorem impl_PathBags_eq (h2 : Sh2 g) (h3 : Sh o) : D.impl_PathBags g o = some (bagsOf g o) := by
  have h16 := hg.n16; have hl := ho.len
  unfold D.impl_PathBags
  rw [impl_OrderOk_eq g o h2 h3, (gB_iff g).2 hg, (ordB_iff g o).2 ho]
  simp only [Option.bind_some, Bool.and_self, Bool.not_true, cond_false, netsOf_eq g hg, narrow_eq o h3, pathBags_eq hg ho]
  rw [results_eq _ (by unfold Sh; simp; omega) (fun s hs => by
    obtain ⟨i, _, rfl⟩ := List.mem_map.1 hs
    exact VS.ior _ _), Option.bind_some, List.map_map]
  unfold bagsOf
  congr 1
  apply List.map_congr_left
  intro i hi
  exact (maskAt_spec hg ho (List.mem_range.1 hi)).2
end

def linksTo (n : Nat) : List (List Int) := (List.range (n - 1)).map fun (i : Nat) => [(i : Int), ((i + 1 : Nat) : Int)]
theorem linksTo_len (n : Nat) : (linksTo n).length = n - 1 := by simp [linksTo]

open Classical in
/-- what both come to -/
noncomputable def pathDecomp (g : List (List Int)) (o : List Int) : List (List Int) × List (List Int) × Bool :=
  if GOk g ∧ OOk g o then (bagsOf g o, linksTo o.length, true) else ([], [], false)

theorem spec_PathDecomp_eq (g : List (List Int)) (o : List Int) (h2 : Sh2 g) (h3 : Sh o) : D.spec_PathDecomp g o = some (pathDecomp g o) := by
  unfold D.spec_PathDecomp pathDecomp
  rw [spec_GraphOk_eq g h2, spec_OrderOk_eq g o h2 h3]
  by_cases hc : GOk g ∧ OOk g o
  · obtain ⟨hg, ho⟩ := hc
    have h16 := hg.n16; have hl := ho.len; have h1 := hg.n1
    rw [if_pos ⟨hg, ho⟩, (gB_iff g).2 hg, (ordB_iff g o).2 ho]
    simp only [Option.bind_some, Bool.and_self, Bool.not_true, cond_false, l12Bags_eq hg ho]
    refine (loop_to (fun i => (((i + 1 : Nat) : Int), (List.range i).map fun (i : Nat) => [(i : Int), ((i + 1 : Nat) : Int)])) (o.length - 1) (linksTo o.length) (by simp) (fun i hi => ?_) ?_).trans rfl
    · simp only [dlt (show i + 1 < o.length by omega), cond_true]
      rw [wi (show i + 1 < 4611686018427387904 by omega), w64 (by omega) (by omega), appendD_ok (by simp; omega), Option.bind_some, List.range_succ, List.map_append]
      have : ((i + 1 : Nat) : Int) - 1 = (i : Int) := by omega
      rw [this]; rfl
    · rw [show o.length - 1 + 1 = o.length by omega]
      simp only [dnlt, cond_false]; rfl
  · rw [if_neg hc]
    cases hg : gB g
    · rfl
    · cases ho : ordB g o
      · rfl
      · exact absurd ⟨(gB_iff g).1 hg, (ordB_iff g o).1 ho⟩ hc

theorem impl_PathDecomp_eq (g : List (List Int)) (o : List Int) (h2 : Sh2 g) (h3 : Sh o) : D.impl_PathDecomp g o = some (pathDecomp g o) := by
  unfold D.impl_PathDecomp pathDecomp
  rw [impl_OrderOk_eq g o h2 h3]
  by_cases hc : GOk g ∧ OOk g o
  · obtain ⟨hg, ho⟩ := hc
    have h16 := hg.n16; have hl := ho.len; have h1 := hg.n1
    rw [if_pos ⟨hg, ho⟩, (gB_iff g).2 hg, (ordB_iff g o).2 ho]
    simp only [Option.bind_some, Bool.and_self, Bool.not_true, cond_false, impl_PathBags_eq hg ho h2 h3, bagsOf_len]
    refine (loop_to (fun i => (((i + 1 : Nat) : Int), (List.range i).map fun (i : Nat) => [(i : Int), ((i + 1 : Nat) : Int)])) (o.length - 1) (linksTo o.length) (by simp) (fun i hi => ?_) ?_).trans rfl
    · simp only [dlt (show i + 1 < o.length by omega), cond_true]
      have e : ((i + 1 : Nat) : Int) - 1 = (i : Int) := by omega
      rw [wi (show i + 1 < 4611686018427387904 by omega), w64 (by omega) (by omega), e]
      unfold D.impl_sortedLink
      rw [Option.bind_some, appendD_ok (by simp; omega), Option.bind_some, List.range_succ, List.map_append, if_neg (by omega), if_pos (by omega)]
      rfl
    · rw [show o.length - 1 + 1 = o.length by omega]
      simp only [dnlt, cond_false]; rfl
  · rw [if_neg hc]
    cases hg : gB g
    · rfl
    · cases ho : ordB g o
      · rfl
      · exact absurd ⟨(gB_iff g).1 hg, (ordB_iff g o).1 ho⟩ hc
end Go.Sx

/- The exact laws' own helpers in closed form: copies, equality, sizes, marks. Plain. -/
namespace Go.Sx
theorem loop_set {α S ρ β : Type} {step : S → Option (S ⊕ ρ)} {k : ρ → Option β} {s0 : S} (xs ys : List α) (hl : xs.length = ys.length) (enc : List α → Int → S) (r : ρ) (h0 : enc ys 0 = s0)
    (hstep : ∀ l (i : Nat) (h : i < xs.length), l.length = xs.length → step (enc l i) = some (.inl (enc (l.set i xs[i]) ((i + 1 : Nat) : Int))))
    (hend : step (enc xs xs.length) = some (.inr r)) : (loopF step s0).bind k = k r := by
  refine loop_to (fun i => enc (xs.take i ++ ys.drop i) (i : Int)) xs.length r (by simpa using h0) (fun i hi => ?_) ?_
  · have e : (xs.take i ++ ys.drop i).set i xs[i] = xs.take (i + 1) ++ ys.drop (i + 1) := by
      rw [List.take_succ_eq_append_getElem hi, List.drop_eq_getElem_cons (show i < ys.length by omega), List.set_append_right _ _ (by simp; omega)]
      have e0 : i - (xs.take i).length = 0 := by rw [List.length_take]; omega
      rw [e0, List.set_cons_zero, List.append_assoc]; rfl
    rw [hstep _ i hi (by simp; omega), e]
  · rw [← hend, List.take_length, hl, List.drop_length, List.append_nil]

theorem toS_eq (xs : List Int) (h : Sh xs) : D.laws_toInt64S xs = some xs := by
  unfold Sh at h
  unfold D.laws_toInt64S
  rw [makeD_ok (by omega) (by omega), Option.bind_some]
  refine (loop_set xs (List.replicate xs.length 0) (by simp) (fun l i => (l, i)) xs rfl (fun l i hi hl => ?_) ?_).trans rfl
  · simp only [dlt hi, cond_true, idx_nat hi, idx_nat (show i < l.length by omega), Option.bind_some, wi (show i < 4611686018427387904 by omega), Int.toNat_natCast]
  · simp only [dnlt, cond_false]
theorem toSS_eq (xs : List (List Int)) (h : Sh2 xs) : D.laws_toInt64SS xs = some xs := by
  obtain ⟨h, h2⟩ := h
  unfold Sh at h
  unfold D.laws_toInt64SS
  rw [makeD_ok (by omega) (by omega), Option.bind_some]
  refine (loop_set xs (List.replicate xs.length []) (by simp) (fun l i => (l, i)) xs rfl (fun l i hi hl => ?_) ?_).trans rfl
  · simp only [dlt hi, cond_true, idx_nat hi, idx_nat (show i < l.length by omega), Option.bind_some, wi (show i < 4611686018427387904 by omega), Int.toNat_natCast, toS_eq _ (h2 _ (List.getElem_mem hi))]
  · simp only [dnlt, cond_false]
theorem toGraph_eq (g : List (List Int)) (h : Sh2 g) : D.laws_toGraph g = some g := by
  unfold D.laws_toGraph; rw [toSS_eq g h]; rfl

theorem list_eq_all {α : Type} [DecidableEq α] (xs ys : List α) (d : α) (hl : xs.length = ys.length) : (List.range xs.length).all (fun i => decide (xs.getD i d = ys.getD i d)) = decide (xs = ys) := by
  rw [Bool.eq_iff_iff, all_forall, decide_eq_true_eq]
  constructor
  · intro h
    apply List.ext_getElem hl
    intro i h1 h2
    have := h i h1
    rw [getD_lt h1, getD_lt h2] at this
    exact of_decide_eq_true this
  · rintro rfl i _; simp
theorem eqS_eq (xs ys : List Int) (h : Sh xs) : D.laws_eqInt64S xs ys = some (decide (xs = ys)) := by
  unfold Sh at h
  unfold D.laws_eqInt64S
  by_cases hl : xs.length = ys.length
  · have e : ((xs.length : Int) != (ys.length : Int)) = false := by simp [hl]
    rw [e, cond_false, ← list_eq_all xs ys 0 hl]
    refine loop_allb xs.length _ false (fun i hi => ?_) ?_ rfl rfl
    · have hi' : i < ys.length := by omega
      simp only [dlt hi, cond_true, idx_nat hi, idx_nat hi', Option.bind_some, wi (show i < 4611686018427387904 by omega), getD_lt hi, getD_lt hi']
      by_cases hc : xs[i] = ys[i]
      · simp [hc]
      · have : (xs[i] != ys[i]) = true := by simpa using hc
        simp [hc, this]
    · simp only [dnlt, cond_false]
  · have e : ((xs.length : Int) != (ys.length : Int)) = true := by simp; omega
    have : xs ≠ ys := by rintro rfl; exact hl rfl
    simp [e, this]
theorem eqSS_eq (xs ys : List (List Int)) (h : Sh2 xs) : D.laws_eqInt64SS xs ys = some (decide (xs = ys)) := by
  obtain ⟨h, h2⟩ := h
  unfold Sh at h
  unfold D.laws_eqInt64SS
  by_cases hl : xs.length = ys.length
  · have e : ((xs.length : Int) != (ys.length : Int)) = false := by simp [hl]
    rw [e, cond_false, ← list_eq_all xs ys [] hl]
    refine loop_allb xs.length _ false (fun i hi => ?_) ?_ rfl rfl
    · have hi' : i < ys.length := by omega
      simp only [dlt hi, cond_true, idx_nat hi, idx_nat hi', Option.bind_some, wi (show i < 4611686018427387904 by omega), getD_lt hi, getD_lt hi', eqS_eq _ _ (h2 _ (List.getElem_mem hi))]
      by_cases hc : xs[i] = ys[i]
      · simp [hc]
      · simp [hc]
    · simp only [dnlt, cond_false]
  · have e : ((xs.length : Int) != (ys.length : Int)) = true := by simp; omega
    have : xs ≠ ys := by rintro rfl; exact hl rfl
    simp [e, this]
theorem eqGraph_eq (xs ys : List (List Int)) (h : Sh2 xs) : D.laws_eqGraph xs ys = some (decide (xs = ys)) := by
  unfold D.laws_eqGraph; rw [eqSS_eq xs ys h, Option.bind_some]; cases decide (xs = ys) <;> rfl

/-! ### sizes -/
/-- how many there are in all -/
def tot : List (List Int) → Int
  | [] => 0
  | x :: xs => x.length + tot xs
theorem tot_nonneg : ∀ xs, 0 ≤ tot xs
  | [] => Int.le_refl _
  | x :: xs => by have := tot_nonneg xs; simp only [tot]; omega
theorem tot_app : ∀ xs ys, tot (xs ++ ys) = tot xs + tot ys
  | [], ys => by simp [tot]
  | x :: xs, ys => by simp only [List.cons_append, tot, tot_app xs ys]; omega
theorem tot_mem : ∀ {xs : List (List Int)} {x}, x ∈ xs → (x.length : Int) ≤ tot xs
  | y :: xs, x, h => by
    have := tot_nonneg xs
    simp only [tot]
    rcases List.mem_cons.1 h with rfl | h
    · omega
    · have := tot_mem h; omega
theorem tot_take {xs : List (List Int)} {i : Nat} (h : i < xs.length) : tot (xs.take (i + 1)) = tot (xs.take i) + xs[i].length := by
  rw [List.take_succ_eq_append_getElem h, tot_app]; simp [tot]
theorem tot_le {xs : List (List Int)} {n : Int} (h : ∀ x ∈ xs, (x.length : Int) ≤ n) : tot xs ≤ xs.length * n := by
  induction xs with
  | nil => simp [tot]
  | cons x xs ih =>
    have := ih (fun y hy => h y (by simp [hy]))
    have := h x (by simp)
    simp only [tot, List.length_cons, Int.natCast_add, Int.add_mul]; omega
theorem Sh2.of_tot {xs : List (List Int)} (h : Sh xs) (h2 : tot xs ≤ 4294967296) : Sh2 xs := ⟨h, fun x hx => by have := tot_mem hx; unfold Sh; omega⟩

theorem szS_eq (xs : List Int) (k : Int) (hx : (xs.length : Int) ≤ 9223372036854775807) (h0 : 0 ≤ k) (h1 : k ≤ 1048576) :
    D.laws_szInt64S xs k = some (if (xs.length : Int) ≤ k then k - xs.length else -1) := by
  unfold D.laws_szInt64S
  rw [w64 (by omega) (by omega)]
  by_cases h : k - (xs.length : Int) < 0
  · rw [if_neg (by omega)]; simp [h]
  · rw [if_pos (by omega)]; simp [h]
theorem szSS_eq (xs : List (List Int)) (k : Int) (hx : (xs.length : Int) ≤ 9223372036854775807) (hx2 : ∀ x ∈ xs, (x.length : Int) ≤ 9223372036854775807) (h0 : 0 ≤ k) (h1 : k ≤ 1048576) :
    ∃ y, D.laws_szInt64SS xs k = some y ∧ (y < 0 ∨ (y + xs.length + tot xs = k ∧ 0 ≤ y)) := by
  unfold D.laws_szInt64SS
  rw [w64 (by omega) (by omega)]
  by_cases h : k - (xs.length : Int) < 0
  · simp only [h, decide_true, cond_true]; exact ⟨-1, rfl, .inl (by omega)⟩
  · simp only [h, decide_false, cond_false]
    have key : ∀ (n i : Nat) (l : Int), i + n = xs.length → 0 ≤ l → l + tot (xs.take i) = k - xs.length →
        ∃ r, loopF (σ := Int × Int) (ρ := (Int) ⊕ (Int)) (fun (s_39 : Int × Int) => match s_39 with | (x_42, x_43) => cond (decide (x_43 < (xs.length : Int))) ((idx xs x_43).bind fun e_64 => (D.laws_szInt64S e_64 x_42).bind fun y_70 => cond (decide (y_70 < 0)) (some (.inr (.inr (-1)))) (some (.inl (y_70, (IntKind.i64.wrap (x_43 + 1)))))) (some (.inr (.inl x_42)))) (l, (i : Int)) = some r ∧
          (r = .inr (-1) ∨ ∃ y, r = .inl y ∧ y + xs.length + tot xs = k ∧ 0 ≤ y) := by
      intro n
      induction n with
      | zero =>
        intro i l hi hl he
        obtain rfl : i = xs.length := by omega
        refine ⟨.inl l, loopF_done (by simp only [dnlt, cond_false]), .inr ⟨l, rfl, ?_, hl⟩⟩
        rw [List.take_length] at he; omega
      | succ n ih =>
        intro i l hi hl he
        have hil : i < xs.length := by omega
        have ht := tot_nonneg (xs.take i)
        have e1 := szS_eq xs[i] l (hx2 _ (List.getElem_mem hil)) hl (by omega)
        by_cases hc : (xs[i].length : Int) ≤ l
        · rw [if_pos hc] at e1
          obtain ⟨r, hr, hp⟩ := ih (i + 1) (l - xs[i].length) (by omega) (by omega) (by rw [tot_take hil]; omega)
          refine ⟨r, ?_, hp⟩
          rw [loopF_more (s' := (l - xs[i].length, ((i + 1 : Nat) : Int)))]
          · exact hr
          · have hd : decide (l - (xs[i].length : Int) < 0) = false := by simp; omega
            simp only [dlt hil, cond_true, idx_nat hil, Option.bind_some, e1, hd, cond_false, wi (show i < 4611686018427387904 by omega)]
        · rw [if_neg hc] at e1
          refine ⟨.inr (-1), loopF_done ?_, .inl rfl⟩
          have hd : decide ((-1 : Int) < 0) = true := by decide
          simp only [dlt hil, cond_true, idx_nat hil, Option.bind_some, e1, hd]
    obtain ⟨r, hr, hp⟩ := key xs.length 0 (k - xs.length) (by omega) (by omega) (by simp [tot])
    rw [show ((0 : Nat) : Int) = 0 from rfl] at hr
    rw [hr, Option.bind_some]
    rcases hp with rfl | ⟨y, rfl, h1, h2⟩
    · exact ⟨-1, rfl, .inl (by omega)⟩
    · exact ⟨y, rfl, .inr ⟨h1, h2⟩⟩
theorem szGraph_eq (xs : List (List Int)) (k : Int) (hx : (xs.length : Int) ≤ 9223372036854775807) (hx2 : ∀ x ∈ xs, (x.length : Int) ≤ 9223372036854775807) (h0 : 0 ≤ k) (h1 : k ≤ 1048576) :
    ∃ y, D.laws_szGraph xs k = some y ∧ (y < 0 ∨ (y + xs.length + tot xs = k ∧ 0 ≤ y)) := by
  obtain ⟨y, e, h⟩ := szSS_eq xs k hx hx2 h0 h1
  unfold D.laws_szGraph
  rw [e, Option.bind_some]
  by_cases hy : y < 0
  · simp only [hy, decide_true, cond_true]; exact ⟨-1, rfl, .inl (by omega)⟩
  · simp only [hy, decide_false, cond_false]; exact ⟨y, rfl, h⟩

/-! ### marks -/
/-- so many numbers from k on -/
def numsI (k : Int) (n : Nat) : List Int := (List.range n).map fun (i : Nat) => k + (i : Int)
theorem numsI_len (k : Int) (n : Nat) : (numsI k n).length = n := by simp [numsI]
theorem numsI_get (k : Int) {n i : Nat} (h : i < (numsI k n).length) : (numsI k n)[i] = k + (i : Int) := by simp [numsI]
def marked (k : Int) : List (List Int) → List (List Int)
  | [] => []
  | x :: xs => numsI k x.length :: marked (k + x.length) xs
theorem marked_app : ∀ xs ys k, marked k (xs ++ ys) = marked k xs ++ marked (k + tot xs) ys
  | [], ys, k => by simp [marked, tot]
  | x :: xs, ys, k => by simp only [List.cons_append, marked, marked_app xs ys, tot]; rw [show k + (x.length : Int) + tot xs = k + (x.length + tot xs) by omega]
theorem marked_len : ∀ xs k, (marked k xs).length = xs.length
  | [], _ => rfl
  | x :: xs, k => by simp [marked, marked_len xs]
theorem marked_get : ∀ (xs : List (List Int)) (k : Int) (i : Nat) (h : i < xs.length), (marked k xs)[i]'(by rw [marked_len]; exact h) = numsI (k + tot (xs.take i)) xs[i].length
  | x :: xs, k, 0, h => by simp [marked, tot]
  | x :: xs, k, i + 1, h => by
    simp only [marked, List.getElem_cons_succ, List.take_succ_cons, tot]
    rw [marked_get xs (k + x.length) i (by simpa using h)]
    congr 1; omega
theorem tot_marked : ∀ (xs : List (List Int)) (k : Int), tot (marked k xs) = tot xs
  | [], _ => rfl
  | x :: xs, k => by simp [marked, tot, numsI_len, tot_marked xs]

theorem markS_eq (xs : List Int) (k : Int) (h : Sh xs) (h0 : 0 ≤ k) (h1 : k ≤ 4611686018427387904) : D.laws_markInt64S xs k = some (k + xs.length, numsI k xs.length) := by
  unfold Sh at h
  unfold D.laws_markInt64S
  have e : (numsI k xs.length ++ xs.drop xs.length) = numsI k xs.length := by simp
  refine (loop_to (fun i => (numsI k i ++ xs.drop i, k + (i : Int), (i : Int))) xs.length (numsI k xs.length, k + (xs.length : Int)) (by simp [numsI]) (fun i hi => ?_) ?_).trans rfl
  · have hl : (numsI k i ++ xs.drop i).length = xs.length := by simp [numsI_len]; omega
    have hi' : i < (numsI k i ++ xs.drop i).length := by omega
    have hset : (numsI k i ++ xs.drop i).set i (k + i) = numsI k (i + 1) ++ xs.drop (i + 1) := by
      rw [List.drop_eq_getElem_cons hi, List.set_append_right _ _ (by rw [numsI_len]; omega)]
      simp only [numsI_len, Nat.sub_self, List.set_cons_zero]
      unfold numsI
      rw [List.range_succ, List.map_append]; simp
    simp only [dlt hi', cond_true, idx_nat hi', Option.bind_some, wi (show i < 4611686018427387904 by omega), Int.toNat_natCast, hset]
    rw [w64 (by omega) (by omega)]
    have : k + (i : Int) + 1 = k + ((i + 1 : Nat) : Int) := by omega
    rw [this]
  · simp only [e, numsI_len, dnlt, cond_false]
theorem markSS_eq (xs : List (List Int)) (k : Int) (h : Sh2 xs) (h0 : 0 ≤ k) (h1 : k + tot xs ≤ 4611686018427387904) : D.laws_markInt64SS xs k = some (k + tot xs, marked k xs) := by
  obtain ⟨h, h2⟩ := h
  unfold Sh at h
  unfold D.laws_markInt64SS
  have hml : ∀ i, i ≤ xs.length → (marked k (xs.take i)).length = i := fun i hi => by rw [marked_len, List.length_take]; omega
  refine (loop_to (fun i => (marked k (xs.take i) ++ xs.drop i, k + tot (xs.take i), (i : Int))) xs.length (marked k xs, k + tot xs) (by simp [marked, tot]) (fun i hi => ?_) ?_).trans rfl
  · have hm := hml i (by omega)
    have hl : (marked k (xs.take i) ++ xs.drop i).length = xs.length := by simp [hm]; omega
    have hi' : i < (marked k (xs.take i) ++ xs.drop i).length := by omega
    have hg : (marked k (xs.take i) ++ xs.drop i)[i] = xs[i] := by
      rw [List.getElem_append_right (by omega)]
      simp [hm]
    have ht := tot_take hi
    have htn : tot (xs.take (i + 1)) ≤ tot xs := by
      have := tot_app (xs.take (i + 1)) (xs.drop (i + 1))
      rw [List.take_append_drop] at this
      have := tot_nonneg (xs.drop (i + 1)); omega
    have htn0 := tot_nonneg (xs.take i)
    have hset : (marked k (xs.take i) ++ xs.drop i).set i (numsI (k + tot (xs.take i)) xs[i].length) = marked k (xs.take (i + 1)) ++ xs.drop (i + 1) := by
      have e0 : i - (marked k (xs.take i)).length = 0 := by omega
      rw [List.drop_eq_getElem_cons hi, List.set_append_right _ _ (by omega), List.take_succ_eq_append_getElem hi, marked_app, e0, List.set_cons_zero, List.append_assoc]
      rfl
    simp only [dlt hi', cond_true, idx_nat hi', hg, Option.bind_some, wi (show i < 4611686018427387904 by omega), Int.toNat_natCast, markS_eq xs[i] (k + tot (xs.take i)) (h2 _ (List.getElem_mem hi)) (by omega) (by omega), hset]
    rw [ht]
    have : k + tot (xs.take i) + (xs[i].length : Int) = k + (tot (xs.take i) + (xs[i].length : Int)) := by omega
    rw [this]
  · have e : marked k (xs.take xs.length) ++ xs.drop xs.length = marked k xs := by simp
    simp only [e, marked_len, dnlt, cond_false]
    simp only [List.take_length]
theorem markGraph_eq (xs : List (List Int)) (k : Int) (h : Sh2 xs) (h0 : 0 ≤ k) (h1 : k + tot xs ≤ 4611686018427387904) : D.laws_markGraph xs k = some (k + tot xs, marked k xs) := by
  unfold D.laws_markGraph; rw [markSS_eq xs k h h0 h1]; rfl

theorem heldS_eq (n : Nat) (k : Int) (h : n ≤ 4294967296) (h0 : 0 ≤ k) (h1 : k ≤ 4611686018427387904) : D.laws_heldInt64S (numsI k n) k = some (k + n) := by
  unfold D.laws_heldInt64S
  rw [numsI_len]
  refine (loop_to (fun i => (k + (i : Int), (i : Int))) n (.inl (k + (n : Int))) (by simp) (fun i hi => ?_) ?_).trans rfl
  · have hi' : i < (numsI k n).length := by rw [numsI_len]; exact hi
    simp only [dlt hi, cond_true, idx_nat hi', numsI_get, Option.bind_some, bne_self_eq_false, cond_false, wi (show i < 4611686018427387904 by omega)]
    rw [w64 (by omega) (by omega)]
    have : k + (i : Int) + 1 = k + ((i + 1 : Nat) : Int) := by omega
    rw [this]
  · simp only [dnlt, cond_false]
theorem heldSS_eq (xs : List (List Int)) (k : Int) (h : Sh2 xs) (h0 : 0 ≤ k) (h1 : k + tot xs ≤ 4611686018427387904) : D.laws_heldInt64SS (marked k xs) k = some (k + tot xs) := by
  obtain ⟨h, h2⟩ := h
  unfold Sh at h
  unfold D.laws_heldInt64SS
  rw [marked_len]
  refine (loop_to (fun i => (k + tot (xs.take i), (i : Int))) xs.length (.inl (k + tot xs)) (by simp [tot]) (fun i hi => ?_) ?_).trans rfl
  · have hi' : i < (marked k xs).length := by rw [marked_len]; exact hi
    have ht := tot_take hi
    have htn : tot (xs.take (i + 1)) ≤ tot xs := by
      have := tot_app (xs.take (i + 1)) (xs.drop (i + 1))
      rw [List.take_append_drop] at this
      have := tot_nonneg (xs.drop (i + 1)); omega
    have htn0 := tot_nonneg (xs.take i)
    simp only [dlt hi, cond_true, idx_nat hi', marked_get xs k i hi, Option.bind_some, heldS_eq xs[i].length (k + tot (xs.take i)) (h2 _ (List.getElem_mem hi)) (by omega) (by omega), wi (show i < 4611686018427387904 by omega)]
    have hd : decide (k + tot (xs.take i) + (xs[i].length : Int) < 0) = false := by simp; omega
    simp only [hd, cond_false, ht]
    have : k + tot (xs.take i) + (xs[i].length : Int) = k + (tot (xs.take i) + (xs[i].length : Int)) := by omega
    rw [this]
  · simp only [dnlt, cond_false, List.take_length]
end Go.Sx

/- FnExactPathDecomp, plain: the law's own function answers true. -/
namespace Go.Sx
theorem eqDecomp_eq (a b c d : List (List Int)) (h1 : Sh2 a) (h2 : Sh2 b) : D.laws_eqDecomp a b c d = some (decide (a = c) && decide (b = d)) := by
  unfold D.laws_eqDecomp
  rw [eqSS_eq a c h1, Option.bind_some]
  cases decide (a = c)
  · rfl
  · rw [eqSS_eq b d h2, Option.bind_some]; cases decide (b = d) <;> rfl
theorem markDecomp_eq (a b : List (List Int)) (k : Int) (h1 : Sh2 a) (h2 : Sh2 b) (h0 : 0 ≤ k) (h : k + tot a + tot b ≤ 4611686018427387904) :
    D.laws_markDecomp a b k = some (k + tot a + tot b, marked k a, marked (k + tot a) b) := by
  have := tot_nonneg a; have := tot_nonneg b
  unfold D.laws_markDecomp
  rw [markSS_eq a k h1 h0 (by omega), Option.bind_some, markSS_eq b _ h2 (by dsimp only; omega) (by dsimp only; omega)]; rfl
theorem heldDecomp_eq (a b : List (List Int)) (k : Int) (h1 : Sh2 a) (h2 : Sh2 b) (h0 : 0 ≤ k) (h : k + tot a + tot b ≤ 4611686018427387904) :
    D.laws_heldDecomp (marked k a) (marked (k + tot a) b) k = some (k + tot a + tot b) := by
  have := tot_nonneg a; have := tot_nonneg b
  unfold D.laws_heldDecomp
  rw [heldSS_eq a k h1 h0 (by omega), Option.bind_some, heldSS_eq b _ h2 (by omega) (by omega)]
  have d1 : decide (k + tot a < 0) = false := by simp; omega
  have d2 : decide (k + tot a + tot b < 0) = false := by simp; omega
  simp only [d1, d2, cond_false, Option.bind_some]

theorem pathDecomp_small (g : List (List Int)) (o : List Int) : Sh2 (pathDecomp g o).1 ∧ Sh2 (pathDecomp g o).2.1 ∧ tot (pathDecomp g o).1 ≤ 4294967296 ∧ tot (pathDecomp g o).2.1 ≤ 4294967296 := by
  unfold pathDecomp
  split
  · rename_i hc
    obtain ⟨hg, ho⟩ := hc
    have h16 := hg.n16; have hl := ho.len
    have hb : ∀ x ∈ bagsOf g o, (x.length : Int) ≤ 17 := by
      intro x hx
      obtain ⟨i, hi, rfl⟩ := List.mem_map.1 hx
      obtain ⟨h1, h2⟩ := take_ok hg ho i
      obtain ⟨k1, k2, k3⟩ := openS_spec g (o.take i) hg h1 h2
      have hs := k2.short (n := g.length) (fun x hx => h2 x ((k3 x).1 hx).1)
      have := into_len (openS g (o.take i)) (o.getD i 0)
      unfold bagAt; omega
    have hk : ∀ x ∈ linksTo o.length, (x.length : Int) ≤ 17 := by
      intro x hx
      obtain ⟨i, hi, rfl⟩ := List.mem_map.1 hx
      simp
    have t1 := tot_le hb; have t2 := tot_le hk
    rw [bagsOf_len] at t1; rw [linksTo_len] at t2
    refine ⟨Sh2.of_tot (by unfold Sh; rw [bagsOf_len]; omega) (show tot (bagsOf g o) ≤ _ by omega), Sh2.of_tot (by unfold Sh; rw [linksTo_len]; omega) (show tot (linksTo o.length) ≤ _ by omega), ?_, ?_⟩
    · show tot (bagsOf g o) ≤ _; omega
    · show tot (linksTo o.length) ≤ _; omega
  · refine ⟨⟨by simp [Sh], by simp⟩, ⟨by simp [Sh], by simp⟩, by simp [tot], by simp [tot]⟩

theorem FnExactPathDecomp_true (g : List (List Int)) (o : List Int) (hx : (g.length : Int) ≤ 9223372036854775807) (hx2 : ∀ x ∈ g, (x.length : Int) ≤ 9223372036854775807) : D.laws_FnExactPathDecomp g o = some true := by
  unfold D.laws_FnExactPathDecomp
  by_cases h : (1048576 : Int) < o.length
  · simp only [h, decide_true, cond_true]
  · simp only [h, decide_false, cond_false]
    obtain ⟨y, e, hy⟩ := szGraph_eq g 1048576 hx hx2 (by omega) (by omega)
    rw [e, Option.bind_some]
    rcases hy with hy | ⟨hy, hy0⟩
    · simp only [hy, decide_true, cond_true]
    · have hd : decide (y < 0) = false := by simp; omega
      have htn := tot_nonneg g
      have h1 : Sh2 g := Sh2.of_tot (by unfold Sh; omega) (by omega)
      have h2 : Sh o := by unfold Sh; omega
      obtain ⟨r1, r2, r3, r4⟩ := pathDecomp_small g o
      generalize hr : pathDecomp g o = r at r1 r2 r3 r4
      have n1 := tot_nonneg r.1; have n2 := tot_nonneg r.2.1
      simp only [hd, cond_false, toGraph_eq g h1, toS_eq o h2, spec_PathDecomp_eq g o h1 h2, impl_PathDecomp_eq g o h1 h2, hr, Option.bind_some, eqDecomp_eq _ _ _ _ r1 r2, decide_true, Bool.and_self, Bool.not_true, bne_self_eq_false, Bool.or_false,
        eqGraph_eq g g h1, eqS_eq o o h2, markGraph_eq g 1 h1 (by omega) (by omega)]
      rw [markS_eq o _ h2 (by omega) (by omega)]
      have d1 : decide (1 + tot g + (o.length : Int) < 0) = false := by simp; omega
      have d2 : decide (1 + tot r.1 + tot r.2.1 < 0) = false := by simp; omega
      simp only [Option.bind_some, d1, cond_false, markDecomp_eq r.1 r.2.1 1 r1 r2 (by omega) (by omega), heldDecomp_eq r.1 r.2.1 1 r1 r2 (by omega) (by omega), d2, bne_self_eq_false]
end Go.Sx
