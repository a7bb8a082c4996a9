/- Parts of the proof: Qc, Qd, Qe, V1D, Ra, Rb, F1D, Sa, Sb, Sc, Ua, Ub, Rc, Rd, Sd, Se, Ta, Sf, Qf, Re, Tb, Tc, Uc, Ud, Qg, Ue. -/
import Derived.Test.YtocakchlhemmeaaDoorLa6
import Derived.KernelRfl
set_option linter.unusedVariables false
set_option linter.unusedSimpArgs false
set_option linter.unusedSectionVars false
/- The program's and the reference's first helpers in closed form: sets, graphs, orders. Plain. -/
namespace Go.Sx
/-- short enough for every loop -/
def Sh {α : Type} (xs : List α) : Prop := xs.length ≤ 4294967296

theorem l1In_eq (a b c : Int) : D.spec_l1In a b c = some (decide (b ≤ a) && decide (a ≤ c)) := rfl
theorem inRange_eq (a b c : Int) : D.impl_inRange a b c = some (decide (b ≤ a) && decide (a ≤ c)) := rfl

theorem any_beq (xs : List Int) (n : Int) : xs.any (fun x => x == n) = decide (n ∈ xs) := by
  rw [Bool.eq_iff_iff, List.any_eq_true]; simp
theorem l1Has_eq (xs : List Int) (n : Int) (h : Sh xs) : D.spec_l1Has xs n = some (decide (n ∈ xs)) := by
  unfold Sh at h
  unfold D.spec_l1Has
  refine (loop_anyb xs.length (fun i => xs.getD i 0 == n) true (fun i hi => ?_) ?_ rfl rfl).trans ?_
  · simp only [dlt hi, cond_true, idx_nat hi, Option.bind_some, wi' hi (by omega), getD_lt hi]
    cases xs[i] == n <;> rfl
  · simp only [dnlt, cond_false]
  · rw [range_any_list xs (fun x => x == n) _ (fun i hi => by rw [getD_lt hi]), any_beq]
theorem contains_eq (xs : List Int) (n : Int) (h : Sh xs) : D.slices_Contains_int64_int64 xs n = some (decide (n ∈ xs)) := by
  unfold Sh at h
  unfold D.slices_Contains_int64_int64 D.slices_Index_int64_int64
  have e : loopF (σ := Int) (ρ := (Unit) ⊕ (Int)) (fun (x_26 : Int) => cond (decide (x_26 < (xs.length : Int))) ((idx xs x_26).bind fun e_39 => cond (n == e_39) (some (.inr (.inr x_26))) (some (.inl (IntKind.i64.wrap (x_26 + 1))))) (some (.inr (.inl ())))) 0 =
      some (((List.range xs.length).findSome? (fun i => if xs.getD i 0 == n then some (Sum.inr (i : Int)) else none)).getD (.inl ())) := by
    refine loop_find xs.length _ _ (fun i hi => ?_) ?_
    · simp only [dlt hi, cond_true, idx_nat hi, Option.bind_some, wi' hi (by omega), getD_lt hi]
      rw [show (n == xs[i]) = (xs[i] == n) from Bool.beq_comm ..]
      cases xs[i] == n <;> rfl
    · simp only [dnlt, cond_false]
  rw [e, Option.bind_some]
  cases hf : (List.range xs.length).findSome? (fun i => if xs.getD i 0 == n then some (Sum.inr (i : Int) : Unit ⊕ Int) else none) with
  | none =>
    have : n ∉ xs := fun hm => by
      obtain ⟨i, hi, e⟩ := List.getElem_of_mem hm
      have := (List.findSome?_eq_none_iff.1 hf) i (List.mem_range.2 hi)
      rw [getD_lt hi, e] at this
      simp at this
    simp [this]
  | some r =>
    obtain ⟨i, hi, hr⟩ := List.exists_of_findSome?_eq_some hf
    have hi' := List.mem_range.1 hi
    rw [getD_lt hi'] at hr
    split at hr
    · rename_i hc
      cases hr
      have : n ∈ xs := by rw [← (beq_iff_eq.1 hc)]; exact List.getElem_mem _
      simp [this]
    · cases hr

/-- a set of numbers below n, as a list -/
def SetOf (xs : List Int) (n : Int) : Prop := Inc xs ∧ ∀ x ∈ xs, 0 ≤ x ∧ x < n
theorem SetOf.len : ∀ {xs : List Int} {n a : Int}, Inc xs → (∀ x ∈ xs, a ≤ x ∧ x < n) → xs = [] ∨ (xs.length : Int) ≤ n - a
  | [], _, _, _, _ => .inl rfl
  | x :: xs, n, a, h, hr => by
    right
    have h' := List.pairwise_cons.1 h
    have hx := hr x (by simp)
    rcases SetOf.len (a := x + 1) (n := n) h'.2 (fun y hy => ⟨by have := h'.1 y hy; omega, (hr y (by simp [hy])).2⟩) with e | e
    · subst e; simp; omega
    · simp; omega
theorem SetOf.length_le {xs : List Int} {n : Int} (h : SetOf xs n) (hn : 0 ≤ n) : (xs.length : Int) ≤ n := by
  rcases SetOf.len h.1 h.2 with e | e
  · subst e; simpa using hn
  · omega

theorem inc_iff (xs : List Int) : Inc xs ↔ ∀ i (hi : i + 1 < xs.length), xs[i] < xs[i + 1] := by
  unfold Inc
  constructor
  · intro h i hi
    exact List.pairwise_iff_getElem.1 h i (i + 1) (by omega) hi (by omega)
  · intro h
    rw [List.pairwise_iff_getElem]
    intro i j hi hj hij
    have key : ∀ k, ∀ hk : i + k + 1 < xs.length, xs[i] < xs[i + k + 1] := by
      intro k
      induction k with
      | zero => intro hk; exact h i hk
      | succ k ih => intro hk; have := ih (by omega); have := h (i + k + 1) hk; exact Int.lt_trans (ih (by omega)) this
    obtain ⟨k, rfl⟩ : ∃ k, j = i + k + 1 := ⟨j - i - 1, by omega⟩
    exact key k hj

def setB (xs : List Int) (n : Int) : Bool := (List.range xs.length).all fun i => (decide (0 ≤ xs.getD i 0) && decide (xs.getD i 0 ≤ n - 1)) && !(decide (0 < i) && decide (xs.getD i 0 ≤ xs.getD (i - 1) 0))
theorem setB_iff (xs : List Int) (n : Int) : setB xs n = true ↔ SetOf xs n := by
  unfold setB SetOf
  rw [all_forall, inc_iff]
  constructor
  · intro h
    refine ⟨fun i hi => ?_, fun x hx => ?_⟩
    · have := h (i + 1) hi
      simp [hi, show i < xs.length by omega] at this
      omega
    · obtain ⟨i, hi, rfl⟩ := List.getElem_of_mem hx
      have := h i hi
      simp [hi] at this
      omega
  · rintro ⟨h1, h2⟩ i hi
    have h3 := h2 _ (List.getElem_mem hi)
    simp [hi]
    refine ⟨by omega, ?_⟩
    rcases Nat.eq_zero_or_pos i with h0 | h0
    · exact .inl h0
    · right
      have := h1 (i - 1) (by omega)
      have e : i - 1 + 1 = i := by omega
      simp only [e] at this
      have e2 : xs[i - 1]?.getD 0 = xs[i - 1] := by rw [List.getElem?_eq_getElem (by omega)]; rfl
      rw [e2]; exact this

theorem increasing_eq (xs : List Int) (n : Int) (h : Sh xs) (h0 : 0 ≤ n) (hn : n ≤ 4294967296) : D.impl_increasing xs n = some (setB xs n) := by
  unfold Sh at h
  unfold D.impl_increasing
  refine loop_allb xs.length _ false (fun i hi => ?_) ?_ rfl rfl
  · simp only [dlt hi, cond_true, idx_nat hi, Option.bind_some, wi' hi (by omega), getD_lt hi, inRange_eq]
    rw [w64 (x := n - 1) (by omega) (by omega)]
    cases (decide (0 ≤ xs[i]) && decide (xs[i] ≤ n - 1))
    · simp
    · by_cases h0 : 0 < i
      · have e1 : IntKind.i64.wrap ((i : Int) - 1) = ((i - 1 : Nat) : Int) := by rw [w64 (by omega) (by omega)]; omega
        have hd : decide ((0 : Int) < (i : Int)) = true := by simp; omega
        simp only [Bool.not_true, cond_false, hd, cond_true, e1, idx_nat (show i - 1 < xs.length by omega), Option.bind_some, getD_lt (show i - 1 < xs.length by omega), h0, decide_true, Bool.true_and]
        cases decide (xs[i] ≤ xs[i - 1]) <;> rfl
      · have hd : decide ((0 : Int) < (i : Int)) = false := by simp; omega
        simp only [Bool.not_true, cond_false, hd, Option.bind_some, h0, decide_false, Bool.false_and, Bool.not_false, Bool.and_true, if_true]
  · simp only [dnlt, cond_false]

theorem l1Set_eq (xs : List Int) (n : Int) (h : Sh xs) (h0 : 0 ≤ n) (hn : n ≤ 4294967296) : D.spec_l1Set xs n = some (setB xs n) := by
  have hh := h
  unfold Sh at h
  unfold D.spec_l1Set
  by_cases hl : n < xs.length
  · have : setB xs n = false := by
      cases hb : setB xs n
      · rfl
      · have := ((setB_iff xs n).1 hb).length_le h0; omega
    simp [hl, this]
  · simp only [hl, decide_false, cond_false]
    refine loop_allb xs.length _ false (fun i hi => ?_) ?_ rfl rfl
    · simp only [dlt hi, cond_true, idx_nat hi, Option.bind_some, wi' hi (by omega), getD_lt hi, l1In_eq]
      rw [w64 (x := n - 1) (by omega) (by omega)]
      cases (decide (0 ≤ xs[i]) && decide (xs[i] ≤ n - 1))
      · simp
      · by_cases h0 : 0 < i
        · have e1 : IntKind.i64.wrap ((i : Int) - 1) = ((i - 1 : Nat) : Int) := by rw [w64 (by omega) (by omega)]; omega
          have hd : decide ((0 : Int) < (i : Int)) = true := by simp; omega
          simp only [Bool.not_true, cond_false, hd, cond_true, e1, idx_nat (show i - 1 < xs.length by omega), Option.bind_some, getD_lt (show i - 1 < xs.length by omega), h0, decide_true, Bool.true_and]
          cases decide (xs[i] ≤ xs[i - 1]) <;> rfl
        · have hd : decide ((0 : Int) < (i : Int)) = false := by simp; omega
          simp only [Bool.not_true, cond_false, hd, Option.bind_some, h0, decide_false, Bool.false_and, Bool.not_false, Bool.and_true, if_true]
    · simp only [dnlt, cond_false]

/-- row v of a graph -/
def row (g : List (List Int)) (v : Nat) : List Int := g.getD v []
theorem row_eq {g : List (List Int)} {v : Nat} (h : v < g.length) : row g v = g[v] := getD_lt h _
def adj (g : List (List Int)) (u v : Nat) : Prop := (v : Int) ∈ row g u

/-- a valid graph -/
structure GOk (g : List (List Int)) : Prop where
  n1 : 1 ≤ g.length
  n16 : g.length ≤ 16
  rows : ∀ v, v < g.length → SetOf (row g v) g.length
  irr : ∀ v, v < g.length → ¬ adj g v v
  sym : ∀ u v, u < g.length → adj g u v → adj g v u

theorem GOk.mem {g : List (List Int)} (h : GOk g) {u : Nat} (hu : u < g.length) {x : Int} (hx : x ∈ row g u) : ∃ v : Nat, x = v ∧ v < g.length ∧ adj g u v := by
  have := (h.rows u hu).2 x hx
  refine ⟨x.toNat, by omega, by omega, ?_⟩
  unfold adj
  rw [show ((x.toNat : Nat) : Int) = x by omega]; exact hx
theorem GOk.row_len {g : List (List Int)} (h : GOk g) {u : Nat} (hu : u < g.length) : (row g u).length ≤ 16 := by
  have := (h.rows u hu).length_le (by omega)
  have := h.n16
  omega
theorem GOk.lt {g : List (List Int)} (h : GOk g) {u v : Nat} (hu : u < g.length) (ha : adj g u v) : v < g.length := by
  obtain ⟨w, h1, h2, _⟩ := h.mem hu ha
  omega

/-- short in both ways -/
def Sh2 (g : List (List Int)) : Prop := Sh g ∧ ∀ r ∈ g, Sh r
theorem Sh2.row {g : List (List Int)} (h : Sh2 g) {v : Nat} (hv : v < g.length) : Sh (row g v) := by
  rw [row_eq hv]; exact h.2 _ (List.getElem_mem hv)
theorem idx_row {g : List (List Int)} {v : Nat} (h : v < g.length) : idx g (v : Int) = some (row g v) := by rw [row_eq h, idx_nat h]

def gB1 (g : List (List Int)) : Bool := (List.range g.length).all fun v => setB (row g v) g.length && !decide ((v : Int) ∈ row g v)
def gB2 (g : List (List Int)) : Bool := (List.range g.length).all fun v => (row g v).all fun x => decide ((v : Int) ∈ row g x.toNat)
def gB (g : List (List Int)) : Bool := decide (1 ≤ g.length) && decide (g.length ≤ 16) && gB1 g && gB2 g
theorem gB_iff (g : List (List Int)) : gB g = true ↔ GOk g := by
  unfold gB gB1 gB2
  simp only [Bool.and_eq_true, decide_eq_true_eq, setB_iff, Bool.not_eq_true', decide_eq_false_iff_not, List.all_eq_true, List.mem_range]
  constructor
  · rintro ⟨⟨⟨h1, h2⟩, h3⟩, h4⟩
    refine ⟨h1, h2, fun v hv => (h3 v hv).1, fun v hv => (h3 v hv).2, fun u v hu ha => ?_⟩
    have := h4 u hu v ha
    unfold adj
    simpa using this
  · intro h
    refine ⟨⟨⟨h.n1, h.n16⟩, fun v hv => ⟨h.rows v hv, h.irr v hv⟩⟩, fun v hv x hx => ?_⟩
    obtain ⟨u, rfl, hu, ha⟩ := h.mem hv hx
    have := h.sym v u hv ha
    simpa [adj] using this

theorem spec_GraphOk_eq (g : List (List Int)) (h : Sh2 g) : D.spec_GraphOk g = some (gB g) := by
  have hl : g.length ≤ 4294967296 := h.1
  unfold D.spec_GraphOk D.spec_l1Size
  simp only [Option.bind_some, l1In_eq]
  by_cases hn : 1 ≤ g.length ∧ g.length ≤ 16
  · have e : (decide ((1 : Int) ≤ (g.length : Int)) && decide ((g.length : Int) ≤ 16)) = true := by simp; omega
    simp only [e, Bool.not_true, cond_false]
    refine (loop_ck g.length (fun v => setB (row g v) g.length && !decide ((v : Int) ∈ row g v)) (.inl ()) (.inr false) (fun v hv => ?_) ?_).trans ?_
    rotate_left
    · simp only [dnlt, cond_false]
    · show cond (gB1 g) _ _ = _
      have e4 : gB g = (gB1 g && gB2 g) := by unfold gB; simp [hn.1, hn.2]
      rw [e4]
      cases hc : gB1 g with
      | false => rfl
      | true =>
        rw [cond_true, Bool.true_and]
        refine loop_allb g.length _ false (fun v hv => ?_) ?_ rfl rfl
        · have hset : SetOf (row g v) g.length := by
            have := (all_forall _ _).1 hc v hv
            simp only [Bool.and_eq_true] at this
            exact (setB_iff _ _).1 this.1
          simp only [dlt hv, cond_true]
          refine (loop_ck (row g v).length (fun i => decide ((v : Int) ∈ row g ((row g v).getD i 0).toNat)) (.inl ()) (.inr false) (fun i hi => ?_) ?_).trans ?_
          · have hx := hset.2 _ (List.getElem_mem hi)
            have e5 : idx g (row g v)[i] = some (row g ((row g v)[i]).toNat) := by
              have := idx_row (g := g) (v := ((row g v)[i]).toNat) (by omega)
              rwa [show ((((row g v)[i]).toNat : Nat) : Int) = (row g v)[i] by omega] at this
            have hs := h.row (v := ((row g v)[i]).toNat) (by omega)
            simp only [idx_row hv, Option.bind_some, dlt hi, cond_true, idx_nat hi, e5, l1Has_eq _ _ hs, wi (show i < 4611686018427387904 by have := h.row hv; unfold Sh at this; omega), getD_lt hi]
            cases decide ((v : Int) ∈ row g ((row g v)[i]).toNat) <;> rfl
          · simp only [idx_row hv, Option.bind_some, dnlt, cond_false]
          · rw [range_all_list (row g v) (fun x => decide ((v : Int) ∈ row g x.toNat)) _ (fun i hi => by rw [getD_lt hi]), wi' hv (by omega)]
            cases (row g v).all fun x => decide ((v : Int) ∈ row g x.toNat) <;> rfl
        · simp only [dnlt, cond_false]
    · simp only [dlt hv, cond_true, idx_row hv, Option.bind_some, l1Set_eq _ _ (h.row hv) (show (0 : Int) ≤ (g.length : Int) by omega) (by omega), l1Has_eq _ _ (h.row hv), wi' hv (by omega)]
      cases setB (row g v) g.length
      · rfl
      · cases decide ((v : Int) ∈ row g v) <;> rfl
  · have e : (decide ((1 : Int) ≤ (g.length : Int)) && decide ((g.length : Int) ≤ 16)) = false := by
      rw [Bool.eq_false_iff]; simp; omega
    simp only [e, Bool.not_false, cond_true]
    unfold gB
    congr 1
    symm
    rw [Bool.eq_false_iff]
    simp
    omega

theorem impl_GraphOk_eq (g : List (List Int)) (h : Sh2 g) : D.impl_GraphOk g = some (gB g) := by
  have hl : g.length ≤ 4294967296 := h.1
  unfold D.impl_GraphOk
  by_cases hn : 1 ≤ g.length ∧ g.length ≤ 16
  · have e : (decide ((g.length : Int) < (1 : Int)) || decide ((16 : Int) < (g.length : Int))) = false := by simp; omega
    simp only [e, cond_false]
    refine (loop_ck g.length (fun v => setB (row g v) g.length && !decide ((v : Int) ∈ row g v)) (.inl ()) (.inr false) (fun v hv => ?_) ?_).trans ?_
    rotate_left
    · simp only [dnlt, cond_false]
    · show cond (gB1 g) _ _ = _
      have e4 : gB g = (gB1 g && gB2 g) := by unfold gB; simp [hn.1, hn.2]
      rw [e4]
      cases hc : gB1 g with
      | false => rfl
      | true =>
        rw [cond_true, Bool.true_and]
        refine loop_allb g.length _ false (fun v hv => ?_) ?_ rfl rfl
        · have hset : SetOf (row g v) g.length := by
            have := (all_forall _ _).1 hc v hv
            simp only [Bool.and_eq_true] at this
            exact (setB_iff _ _).1 this.1
          simp only [dlt hv, cond_true, idx_row hv, Option.bind_some]
          refine (loop_ck (row g v).length (fun i => decide ((v : Int) ∈ row g ((row g v).getD i 0).toNat)) (.inl ()) (.inr false) (fun i hi => ?_) ?_).trans ?_
          · have hx := hset.2 _ (List.getElem_mem hi)
            have e5 : idx g (row g v)[i] = some (row g ((row g v)[i]).toNat) := by
              have := idx_row (g := g) (v := ((row g v)[i]).toNat) (by omega)
              rwa [show ((((row g v)[i]).toNat : Nat) : Int) = (row g v)[i] by omega] at this
            have hs := h.row (v := ((row g v)[i]).toNat) (by omega)
            simp only [Option.bind_some, dlt hi, cond_true, idx_nat hi, e5, contains_eq _ _ hs, wi (show i < 4611686018427387904 by have := h.row hv; unfold Sh at this; omega), getD_lt hi]
            cases decide ((v : Int) ∈ row g ((row g v)[i]).toNat) <;> rfl
          · simp only [dnlt, cond_false]
          · rw [range_all_list (row g v) (fun x => decide ((v : Int) ∈ row g x.toNat)) _ (fun i hi => by rw [getD_lt hi]), wi' hv (by omega)]
            cases (row g v).all fun x => decide ((v : Int) ∈ row g x.toNat) <;> rfl
        · simp only [dnlt, cond_false]
    · simp only [dlt hv, cond_true, idx_row hv, Option.bind_some, increasing_eq _ _ (h.row hv) (show (0 : Int) ≤ (g.length : Int) by omega) (by omega), contains_eq _ _ (h.row hv), wi' hv (by omega)]
      cases setB (row g v) g.length
      · rfl
      · cases decide ((v : Int) ∈ row g v) <;> rfl
  · have e : (decide ((g.length : Int) < (1 : Int)) || decide ((16 : Int) < (g.length : Int))) = true := by
      simp; omega
    simp only [e, cond_true]
    unfold gB
    congr 1
    symm
    rw [Bool.eq_false_iff]
    simp
    omega
end Go.Sx

/- Orders; the program's sets as bit masks; the reference's rising lists. Plain. -/
namespace Go.Sx
/-- an order of a graph -/
structure OOk (g : List (List Int)) (o : List Int) : Prop where
  len : o.length = g.length
  rng : ∀ x ∈ o, 0 ≤ x ∧ x < g.length
  nd : o.Nodup

def oB (g : List (List Int)) (o : List Int) : Bool := (List.range o.length).all fun i => (decide (0 ≤ o.getD i 0) && decide (o.getD i 0 ≤ (g.length : Int) - 1)) && !decide (o.getD i 0 ∈ o.take i)
theorem mem_take_iff {α : Type} {l : List α} {i : Nat} {x : α} : x ∈ l.take i ↔ ∃ j, ∃ h : j < l.length, j < i ∧ l[j] = x := by
  rw [List.mem_take_iff_getElem]
  constructor
  · rintro ⟨j, h, e⟩; exact ⟨j, by omega, by omega, e⟩
  · rintro ⟨j, h, h2, e⟩; exact ⟨j, by omega, e⟩
theorem nodup_iff {l : List Int} : l.Nodup ↔ ∀ i (hi : i < l.length), l[i] ∉ l.take i := by
  constructor
  · intro h i hi hm
    obtain ⟨j, hj, hji, e⟩ := mem_take_iff.1 hm
    have := (List.pairwise_iff_getElem.1 h) j i hj hi hji
    exact this e
  · intro h
    refine List.pairwise_iff_getElem.2 (fun i j hi hj hij e => h j hj (mem_take_iff.2 ⟨i, hi, hij, e⟩))
theorem oB_iff (g : List (List Int)) (o : List Int) (hl : o.length = g.length) : oB g o = true ↔ OOk g o := by
  unfold oB
  rw [all_forall]
  constructor
  · intro h
    refine ⟨hl, fun x hx => ?_, nodup_iff.2 fun i hi => ?_⟩
    · obtain ⟨i, hi, rfl⟩ := List.getElem_of_mem hx
      have := h i hi
      rw [getD_lt hi] at this
      simp at this; omega
    · have := h i hi
      rw [getD_lt hi] at this
      simp at this; exact this.2
  · intro h i hi
    have h1 := h.rng _ (List.getElem_mem hi)
    have h2 := nodup_iff.1 h.nd i hi
    rw [getD_lt hi]
    simp [h2]; omega

def ordB (g : List (List Int)) (o : List Int) : Bool := decide (o.length = g.length) && oB g o
theorem ordB_iff (g : List (List Int)) (o : List Int) : ordB g o = true ↔ OOk g o := by
  unfold ordB
  by_cases hl : o.length = g.length
  · simp [hl, oB_iff g o hl]
  · simp [hl]; intro h; exact hl h.len

theorem sorted_inc {y : List Int} (hs : Srt y 0 y.length) (hn : y.Nodup) : Inc y := by
  unfold Inc
  rw [List.pairwise_iff_getElem]
  intro i j hi hj hij
  have h1 := hs i j (by omega) (by omega) (by omega)
  have h2 := (List.pairwise_iff_getElem.1 hn) i j hi hj hij
  simp [at', hi, hj] at h1
  have : y[i] ≠ y[j] := h2
  omega
theorem impl_OrderOk_eq (g : List (List Int)) (o : List Int) (h : Sh2 g) (ho : Sh o) : D.impl_OrderOk g o = some (gB g && ordB g o) := by
  unfold D.impl_OrderOk
  rw [impl_GraphOk_eq g h, Option.bind_some]
  cases hg : gB g
  · rfl
  · have hg' := (gB_iff g).1 hg
    by_cases hl : o.length = g.length
    · have e : ((o.length : Int) != (g.length : Int)) = false := by simp [hl]
      have h16 := hg'.n16
      obtain ⟨y, h1, h2, h3⟩ := sorted_spec o (by omega)
      have hyl := h2.length_eq
      simp only [Bool.not_true, e, Bool.or_false, cond_false, h1, Option.bind_some, Bool.true_and]
      rw [increasing_eq y _ (by unfold Sh; omega) (by omega) (by omega), Option.bind_some]
      congr 1
      unfold ordB
      simp only [hl, decide_true, Bool.true_and]
      rw [Bool.eq_iff_iff, setB_iff, oB_iff g o hl]
      constructor
      · rintro ⟨k1, k2⟩
        refine ⟨hl, fun x hx => k2 x (h2.mem_iff.2 hx), h2.nodup_iff.1 ?_⟩
        exact List.Pairwise.imp (fun h e => by omega) k1
      · intro k
        exact ⟨sorted_inc h3 (h2.nodup_iff.2 k.nd), fun x hx => k.rng x (h2.mem_iff.1 hx)⟩
    · have e : ((o.length : Int) != (g.length : Int)) = true := by simp; omega
      simp [e, ordB, hl]

/-! ### masks -/
theorem impl_one_eq (v : Nat) : D.impl_one (v : Int) = some (ishl .u32 1 (v : Int)) := by
  unfold D.impl_one
  have : decide ((v : Int) < 0) = false := by simp
  rw [this]; rfl
theorem impl_one_eq' {x : Int} (h : 0 ≤ x) : D.impl_one x = some (ishl .u32 1 x) := by
  have := impl_one_eq x.toNat
  rwa [show ((x.toNat : Nat) : Int) = x by omega] at this
def mk (xs : List Int) : Int := xs.foldl (fun s v => ior .u32 s (ishl .u32 1 v)) 0
theorem maskOf_eq (xs : List Int) (h : Sh xs) (h0 : ∀ x ∈ xs, 0 ≤ x) : D.impl_maskOf xs = some (mk xs) := by
  unfold Sh at h
  unfold D.impl_maskOf
  refine (loop_listb xs (fun s i => (s, i)) (fun s v => ior .u32 s (ishl .u32 1 v)) (fun s => s) (fun _ => True) 0 trivial (fun s i hi _ => ⟨?_, trivial⟩) (fun s _ => ?_)).trans rfl
  · simp only [dlt hi, cond_true, idx_nat hi, Option.bind_some, wi' hi (by omega), impl_one_eq' (h0 _ (List.getElem_mem hi))]
  · simp only [dnlt, cond_false]
theorem VS_foldl_ior : ∀ (xs : List Int) (s : Int), VS s → VS (xs.foldl (fun s v => ior .u32 s (ishl .u32 1 v)) s)
  | [], s, h => h
  | x :: xs, s, _ => VS_foldl_ior xs _ (VS.ior _ _)
theorem VS.mk (xs : List Int) : VS (mk xs) := VS_foldl_ior xs 0 VS.zero
theorem has_foldl_ior (u : Nat) : ∀ (xs : List Int) (s : Int), VS s → (∀ x ∈ xs, 0 ≤ x ∧ x < 32) → has (xs.foldl (fun s v => ior .u32 s (ishl .u32 1 v)) s) u = (has s u || decide ((u : Int) ∈ xs))
  | [], s, _, _ => by simp
  | x :: xs, s, hs, h => by
    have hx := h x (by simp)
    rw [List.foldl_cons, has_foldl_ior u xs _ (VS.ior _ _) (fun y hy => h y (by simp [hy])), has_ior hs (VS.ishl _ _)]
    obtain ⟨k, rfl⟩ : ∃ k : Nat, x = k := ⟨x.toNat, by omega⟩
    rw [has_one (by omega)]
    by_cases hu : u = k
    · subst hu; simp
    · have : ¬ (u : Int) = (k : Int) := by omega
      simp [hu, this]
theorem has_mk {xs : List Int} (h : ∀ x ∈ xs, 0 ≤ x ∧ x < 32) (u : Nat) : has (mk xs) u = decide ((u : Int) ∈ xs) := by
  unfold mk; rw [has_foldl_ior u xs 0 VS.zero h, has_zero, Bool.false_or]

theorem GOk.mem0 {g : List (List Int)} (hg : GOk g) {r : List Int} (hr : r ∈ g) : r.length ≤ 16 ∧ ∀ x ∈ r, 0 ≤ x ∧ x < g.length := by
  obtain ⟨v, hv, rfl⟩ := List.getElem_of_mem hr
  rw [← row_eq hv]
  exact ⟨hg.row_len hv, (hg.rows v hv).2⟩
theorem netsOf_eq (g : List (List Int)) (hg : GOk g) : D.impl_netsOf g = some (g.map mk) := by
  have h16 := hg.n16
  unfold D.impl_netsOf
  refine (loop_map g (fun s i => (s, i)) mk (by omega) (fun s i hi _ => ?_) (fun s => ?_)).trans rfl
  · obtain ⟨h1, h2⟩ := hg.mem0 (List.getElem_mem hi)
    simp only [dlt hi, cond_true, idx_nat hi, Option.bind_some, wi' hi (by omega), maskOf_eq g[i] (by unfold Sh; omega) (fun x hx => (h2 x hx).1)]
  · simp only [dnlt, cond_false]
theorem narrow_eq (xs : List Int) (h : Sh xs) : D.impl_narrow xs = some xs := by
  unfold Sh at h
  unfold D.impl_narrow
  rw [makeD_zero (by omega) (by omega), Option.bind_some]
  refine (loop_map xs (fun s i => (s, i)) (fun x => x) h (fun s i hi _ => ?_) (fun s => ?_)).trans (by simp)
  · simp only [dlt hi, cond_true, idx_nat hi, Option.bind_some, wi' hi (by omega)]
  · simp only [dnlt, cond_false]
theorem wide_eq (xs : List Int) (h : Sh xs) : D.impl_wide xs = some xs := by
  unfold Sh at h
  unfold D.impl_wide
  rw [makeD_zero (by omega) (by omega), Option.bind_some]
  refine (loop_map xs (fun s i => (s, i)) (fun x => x) h (fun s i hi _ => ?_) (fun s => ?_)).trans (by simp)
  · simp only [dlt hi, cond_true, idx_nat hi, Option.bind_some, wi' hi (by omega)]
  · simp only [dnlt, cond_false]

theorem least_eq {s : Int} (h : VS s) (h0 : s ≠ 0) : ∃ k : Nat, k < 32 ∧ D.impl_vset_least s = some (k : Int) ∧ has s k = true ∧ (∀ v, v < k → has s v = false) ∧
    (∀ v, has (iand .u32 s (IntKind.u32.wrap (s - 1))) v = (has s v && !decide (v = k))) := by
  obtain ⟨k, h1, h2, h3, h4, h5⟩ := least_spec h h0
  refine ⟨k, h1, ?_, h2, h3, h5⟩
  unfold D.impl_vset_least D.math_bits_TrailingZeros32
  have e : (s == 0) = false := by simpa using h0
  simp only [e, cond_false, h4, tz_table k h1, Option.bind_some]
  rw [w64 (by omega) (by omega)]

theorem list_eq (s : Int) (h : VS s) : D.impl_vset_list s = some (elems s) := by
  unfold D.impl_vset_list
  have key : ∀ (n : Nat) (x : Int) (l : List Int), VS x → (elems x).length = n → l.length + n ≤ 32 →
      loopF (σ := Int × (List Int)) (ρ := ((List Int))) (fun (s_52 : Int × (List Int)) => match s_52 with | (x_55, l_56) => cond (x_55 != 0) ((D.impl_vset_least x_55).bind fun y_88 => (appendD l_56 ([y_88] : List Int)).bind fun l_99 => some (.inl ((iand .u32 x_55 (IntKind.u32.wrap (x_55 - 1))), l_99))) (some (.inr l_56))) (x, l) = some (l ++ elems x) := by
    intro n
    induction n with
    | zero =>
      intro x l hx hn _
      have e : elems x = [] := List.eq_nil_of_length_eq_zero hn
      have e0 : x = 0 := hx.eq_zero.2 fun v hv => by
        cases hc : has x v
        · rfl
        · have := mem_elems.2 ⟨v, hv, hc, rfl⟩; rw [e] at this; simp at this
      rw [e]
      refine loopF_done ?_
      have : (x != 0) = false := by simp [e0]
      simp only [this, cond_false, List.append_nil]
    | succ n ih =>
      intro x l hx hn hl
      have h0 : x ≠ 0 := by rintro rfl; rw [elems_zero] at hn; simp at hn
      obtain ⟨k, h1, h2, h3, h4, h5⟩ := least_eq hx h0
      have e := elems_least h1 h3 h4 h5
      have en : (elems (iand .u32 x (IntKind.u32.wrap (x - 1)))).length = n := by rw [e] at hn; simpa using hn
      have hstep := ih (iand .u32 x (IntKind.u32.wrap (x - 1))) (l ++ [(k : Int)]) (VS.iand _ _) en (by simp; omega)
      have e1 : (x != 0) = true := by simpa using h0
      rw [loopF_more (s' := (iand .u32 x (IntKind.u32.wrap (x - 1)), l ++ [(k : Int)]))]
      · rw [hstep, e]; simp
      · simp only [e1, cond_true, h2, Option.bind_some, appendD_ok (xs := l) (ys := [(k : Int)]) (by simp; omega)]
  have := key (elems s).length s [] h rfl (by simpa using elems_len s)
  rw [this]; simp
theorem elems_sh (s : Int) : Sh (elems s) := by have := elems_len s; unfold Sh; omega
theorem numbers_eq (s : Int) (h : VS s) : D.impl_vset_numbers s = some (elems s) := by
  unfold D.impl_vset_numbers
  rw [list_eq s h, Option.bind_some, wide_eq _ (elems_sh s)]; rfl
theorem results_eq (xs : List Int) (h : Sh xs) (hv : ∀ s ∈ xs, VS s) : D.impl_results xs = some (xs.map elems) := by
  unfold Sh at h
  unfold D.impl_results
  refine (loop_map xs (fun s i => (s, i)) elems h (fun s i hi _ => ?_) (fun s => ?_)).trans rfl
  · simp only [dlt hi, cond_true, idx_nat hi, Option.bind_some, wi' hi (by omega), numbers_eq _ (hv _ (List.getElem_mem hi))]
  · simp only [dnlt, cond_false]

end Go.Sx

/- Open vertices, bags of an order: the reference's and the program's. Plain. -/
namespace Go.Sx
end Go.Sx



/- What the laws draw with their dice: graphs that are right, orders that are right. Plain. -/
namespace Go.Sx
/-- dice in order: bytes, and a place among them -/
structure DK (b : List Int) (i : Int) : Prop where
  byte : ∀ x ∈ b, 0 ≤ x ∧ x ≤ 255
  len : b.length ≤ 4096
  i0 : 0 ≤ i
  i1 : i ≤ b.length

end Go.Sx

/- Drawn graphs and drawn orders are right. Plain. -/
namespace Go.Sx
end Go.Sx



/- Drawn orders, the other way: each number is put at a drawn place, what stands there moves on. Plain. -/
namespace Go.Sx
theorem ext_getD {a b : List Int} (hl : a.length = b.length) (h : ∀ j, j < a.length → a.getD j 0 = b.getD j 0) : a = b := by
  apply List.ext_getElem hl
  intro j h1 h2
  have := h j h1
  rwa [getD_lt h1, getD_lt h2] at this
theorem getD_set (l : List Int) (i j : Nat) (x : Int) (hi : i < l.length) : (l.set i x).getD j 0 = if j = i then x else l.getD j 0 := by
  simp only [List.getD_eq_getElem?_getD, List.getElem?_set]
  by_cases h : j = i
  · subst h; simp [hi]
  · rw [if_neg (fun e => h e.symm), if_neg h]
end Go.Sx

/- Elimination: the filled neighbours and the later ones, by what they have. Plain. -/
namespace Go.Sx
/-- is w a neighbour of u, by masks -/
def nb (F : List Int) (u w : Nat) : Bool := has (F.getD u 0) w
/-- masks of a graph of n vertices -/
structure FOk (F : List Int) (n : Nat) : Prop where
  len : F.length = n
  vs : ∀ u, u < n → VS (F.getD u 0)
  lt : ∀ u w, u < n → nb F u w = true → w < n
  irr : ∀ u, u < n → nb F u u = false
  sym : ∀ u w, u < n → nb F u w = true → nb F w u = true

theorem FOk.ext {F F' : List Int} {n : Nat} (h : F.length = n) (h' : F'.length = n) (v : ∀ u, u < n → VS (F.getD u 0)) (v' : ∀ u, u < n → VS (F'.getD u 0)) (e : ∀ u w, u < n → nb F u w = nb F' u w) : F = F' := by
  refine ext_getD (by omega) (fun j hj => ?_)
  exact (v j (by omega)).ext (v' j (by omega)) (fun w _ => e j w (by omega))

theorem getD_map_mk (g : List (List Int)) (u : Nat) : (g.map mk).getD u 0 = mk (row g u) := by
  unfold row
  simp only [List.getD_eq_getElem?_getD, List.getElem?_map]
  cases g[u]? with
  | none => simp [mk]
  | some r => rfl
theorem nb_mk {g : List (List Int)} (hg : GOk g) {u w : Nat} (hu : u < g.length) : nb (g.map mk) u w = true ↔ adj g u w := by
  have h16 := hg.n16
  unfold nb
  rw [getD_map_mk, has_mk (fun x hx => by have := (hg.rows u hu).2 x hx; omega)]
  simp [adj]
theorem FOk.of {g : List (List Int)} (hg : GOk g) : FOk (g.map Sx.mk) g.length := by
  refine ⟨by simp, fun u _ => by rw [getD_map_mk]; exact VS.mk _, fun u w hu h => hg.lt hu ((nb_mk hg hu).1 h), fun u hu => ?_, fun u w hu h => ?_⟩
  · cases h : nb (g.map Sx.mk) u u
    · rfl
    · exact absurd ((nb_mk hg hu).1 h) (hg.irr u hu)
  · have ha := (nb_mk hg hu).1 h
    exact (nb_mk hg (hg.lt hu ha)).2 (hg.sym u w hu ha)

/-- the graph of masks -/
def grow (F : List Int) : List (List Int) := F.map elems
theorem row_grow (F : List Int) (u : Nat) : row (grow F) u = elems (F.getD u 0) := by
  unfold row grow
  simp only [List.getD_eq_getElem?_getD, List.getElem?_map]
  cases F[u]? with
  | none => simp [elems_zero]
  | some r => rfl
theorem adj_grow {F : List Int} {n u w : Nat} (h : FOk F n) (hu : u < n) : adj (grow F) u w ↔ nb F u w = true := by
  unfold adj nb
  rw [row_grow, mem_elems_nat (h.vs u hu)]
theorem GOk.grow {F : List Int} {n : Nat} (h : FOk F n) (h1 : 1 ≤ n) (h16 : n ≤ 16) : GOk (grow F) := by
  have hl : (Sx.grow F).length = n := by unfold Sx.grow; rw [List.length_map, h.len]
  refine ⟨by omega, by omega, fun v hv => ?_, fun v hv ha => ?_, fun u v hu ha => ?_⟩
  · rw [row_grow, hl]
    refine ⟨elems_inc _, fun x hx => ?_⟩
    obtain ⟨w, _, h2, rfl⟩ := mem_elems.1 hx
    have := h.lt v w (by omega) h2
    omega
  · rw [adj_grow h (by omega)] at ha
    rw [h.irr v (by omega)] at ha; cases ha
  · rw [adj_grow h (by omega)] at ha
    have := h.lt u v (by omega) ha
    rw [adj_grow h (by omega)]
    exact h.sym u v (by omega) ha
theorem mk_elems {s : Int} (h : VS s) : mk (elems s) = s := by
  refine (VS.mk _).ext h (fun v hv => ?_)
  rw [has_mk (fun x hx => by obtain ⟨w, h1, _, rfl⟩ := mem_elems.1 hx; omega), Bool.eq_iff_iff, decide_eq_true_eq, mem_elems_nat h]
theorem all_mask : ∀ n : Fin 17, ∀ v : Fin 32, has (IntKind.u32.wrap (ishl .u32 1 (n.val : Int) - 1)) v.val = decide (v.val < n.val) := by decide +kernel
/-- the order is a perfect elimination order -/
def PEO (F : List Int) (o : List Int) : Prop := ∀ (j : Nat) (v u w : Nat), o[j]? = some (v : Int) → nb F v u = true → nb F v w = true → (u : Int) ∉ o.take (j + 1) → (w : Int) ∉ o.take (j + 1) → u ≠ w → nb F u w = true
/-- later neighbours -/
def Lat (F L : List Int) (o : List Int) (i : Nat) : Prop := ∀ (j : Nat) (v : Nat), j < i → o[j]? = some (v : Int) → ∀ w, nb L v w = (nb F v w && decide ((w : Int) ∉ o.take (j + 1)))

structure EInv (n : Nat) (F0 o : List Int) (i : Nat) (F L : List Int) (left : Int) : Prop where
  f : FOk F n
  lenL : L.length = n
  vsL : ∀ u, u < n → VS (L.getD u 0)
  vsl : VS left
  left : ∀ v, has left v = decide (v < n ∧ (v : Int) ∉ o.take i)
  mono : ∀ u w, u < n → nb F0 u w = true → nb F u w = true
  lat : Lat F L o i
  peo : ∀ (j : Nat) (v u w : Nat), j < i → o[j]? = some (v : Int) → nb F v u = true → nb F v w = true → (u : Int) ∉ o.take (j + 1) → (w : Int) ∉ o.take (j + 1) → u ≠ w → nb F u w = true
  same : PEO F0 o → F = F0

theorem mem_take_mono {o : List Int} {j i : Nat} (h : j ≤ i) {x : Int} (hx : x ∈ o.take j) : x ∈ o.take i := by
  rw [mem_take_iff] at hx ⊢
  obtain ⟨k, h1, h2, h3⟩ := hx
  exact ⟨k, h1, by omega, h3⟩

theorem EInv.step {n : Nat} {F0 o F L : List Int} {i v : Nat} {left : Int} (h16 : n ≤ 16) (hn : ∀ x ∈ o, 0 ≤ x ∧ x < n) (hnd : o.Nodup) (hi : i < o.length) (hv : o[i] = (v : Int)) (h : EInv n F0 o i F L left) {F' : List Int}
    (hl' : F'.length = n) (hv' : ∀ u, u < n → VS (F'.getD u 0)) (h' : ∀ u w, u < n → nb F' u w = (nb F u w || (has (iand .u32 (F.getD v 0) (iandNot .u32 left (ishl .u32 1 (v : Int)))) u && has (iand .u32 (F.getD v 0) (iandNot .u32 left (ishl .u32 1 (v : Int)))) w && decide (w ≠ u)))) :
    EInv n F0 o (i + 1) F' (L.set v (iand .u32 (F.getD v 0) (iandNot .u32 left (ishl .u32 1 (v : Int))))) (iandNot .u32 left (ishl .u32 1 (v : Int))) := by
  have hvn : v < n := by have := hn _ (List.getElem_mem hi); omega
  have hvt : (v : Int) ∉ o.take i := by rw [← hv]; exact nodup_iff.1 hnd i hi
  have htk : ∀ x : Nat, ((x : Int) ∈ o.take (i + 1)) ↔ ((x : Int) ∈ o.take i ∨ x = v) := fun x => by
    rw [List.take_succ_eq_append_getElem hi, List.mem_append, hv]; simp [Int.natCast_inj]
  have hleft : ∀ w, has (iandNot .u32 left (ishl .u32 1 (v : Int))) w = decide (w < n ∧ (w : Int) ∉ o.take (i + 1)) := fun w => by
    rw [has_iandNot h.vsl (VS.ishl _ _), has_one (by omega), h.left, Bool.eq_iff_iff]
    simp only [Bool.and_eq_true, decide_eq_true_eq, Bool.not_eq_true', decide_eq_false_iff_not, htk]
    constructor
    · rintro ⟨⟨a, b⟩, c⟩; exact ⟨a, fun hh => hh.elim b c⟩
    · rintro ⟨a, b⟩; exact ⟨⟨a, fun hh => b (.inl hh)⟩, fun hh => b (.inr hh)⟩
  have hS : ∀ w, has (iand .u32 (F.getD v 0) (iandNot .u32 left (ishl .u32 1 (v : Int)))) w = (nb F v w && decide ((w : Int) ∉ o.take (i + 1))) := fun w => by
    rw [has_iand (h.f.vs v hvn) (VS.iandNot _ _), hleft, Bool.eq_iff_iff]
    show (nb F v w && _) = true ↔ _
    simp only [Bool.and_eq_true, decide_eq_true_eq]
    exact ⟨fun ⟨a, b, c⟩ => ⟨a, c⟩, fun ⟨a, c⟩ => ⟨a, h.f.lt v w hvn a, c⟩⟩
  have hlV : VS (iandNot .u32 left (ishl .u32 1 (v : Int))) := VS.iandNot _ _
  generalize iandNot .u32 left (ishl .u32 1 (v : Int)) = left' at *
  generalize hSS : iand .u32 (F.getD v 0) left' = S at *
  have hSV : VS S := by rw [← hSS]; exact VS.iand _ _
  have hSlt : ∀ w, has S w = true → w < n ∧ (w : Int) ∉ o.take (i + 1) := fun w hw => by
    rw [hS] at hw
    simp only [Bool.and_eq_true, decide_eq_true_eq] at hw
    exact ⟨h.f.lt v w hvn hw.1, hw.2⟩
  have hmono : ∀ u w, u < n → nb F u w = true → nb F' u w = true := fun u w hu hh => by rw [h' u w hu, hh]; rfl
  -- rows of those that are gone do not change
  have hold : ∀ x : Nat, x < n → (x : Int) ∈ o.take (i + 1) → ∀ w, nb F' x w = nb F x w := fun x hx hm w => by
    rw [h' x w hx]
    have : has S x = false := by
      cases hc : has S x
      · rfl
      · exact absurd hm (hSlt x hc).2
    simp [this]
  have hf' : FOk F' n := by
    refine ⟨hl', hv', fun u w hu hh => ?_, fun u hu => ?_, fun u w hu hh => ?_⟩
    · rw [h' u w hu] at hh
      simp only [Bool.or_eq_true, Bool.and_eq_true] at hh
      rcases hh with hh | ⟨⟨_, hh⟩, _⟩
      · exact h.f.lt u w hu hh
      · exact (hSlt w hh).1
    · rw [h' u u hu, h.f.irr u hu]; simp
    · rw [h' u w hu] at hh
      simp only [Bool.or_eq_true, Bool.and_eq_true, decide_eq_true_eq] at hh
      rcases hh with hh | ⟨⟨h1, h2⟩, h3⟩
      · exact hmono w u (h.f.lt u w hu hh) (h.f.sym u w hu hh)
      · rw [h' w u (hSlt w h2).1, h1, h2]
        have : decide (u ≠ w) = true := by simpa using fun e => h3 e.symm
        simp [this]
  have hjv : ∀ j (x : Nat), o[j]? = some (x : Int) → j < o.length ∧ x < n ∧ (x : Int) ∈ o.take (j + 1) := fun j x hx => by
    obtain ⟨h1, h2⟩ := List.getElem?_eq_some_iff.1 hx
    have := hn _ (List.getElem_mem h1)
    refine ⟨h1, by omega, ?_⟩
    rw [mem_take_iff]; exact ⟨j, h1, by omega, h2⟩
  refine ⟨hf', by simp [h.lenL], fun u hu => ?_, hlV, hleft, fun u w hu hh => hmono u w hu (h.mono u w hu hh), fun j x hj hx w => ?_, fun j x u w hj hx h1 h2 h3 h4 h5 => ?_, fun hp => ?_⟩
  · rw [getD_set _ _ _ _ (by rw [h.lenL]; exact hvn)]
    split
    · exact hSV
    · exact h.vsL u hu
  · obtain ⟨k1, k2, k3⟩ := hjv j x hx
    have k4 := mem_take_mono (show j + 1 ≤ i + 1 by omega) k3
    rw [hold x k2 k4 w]
    unfold nb
    rw [getD_set _ _ _ _ (by rw [h.lenL]; exact hvn)]
    by_cases hji : j = i
    · subst hji
      rw [List.getElem?_eq_getElem hi, hv] at hx
      have : x = v := by
        have : (v : Int) = (x : Int) := by simpa using hx
        omega
      subst this
      rw [if_pos rfl, hS]; rfl
    · have hne : x ≠ v := fun e => by
        subst e
        exact hvt (mem_take_mono (show j + 1 ≤ i by omega) k3)
      rw [if_neg hne]
      exact h.lat j x (by omega) hx w
  · obtain ⟨k1, k2, k3⟩ := hjv j x hx
    have k4 := mem_take_mono (show j + 1 ≤ i + 1 by omega) k3
    rw [hold x k2 k4] at h1 h2
    by_cases hji : j = i
    · subst hji
      rw [List.getElem?_eq_getElem hi, hv] at hx
      have : x = v := by
        have : (v : Int) = (x : Int) := by simpa using hx
        omega
      subst this
      have hu : has S u = true := by rw [hS, h1]; simpa using h3
      have hw : has S w = true := by rw [hS, h2]; simpa using h4
      rw [h' u w (hSlt u hu).1, hu, hw]
      have : decide (w ≠ u) = true := by simpa using fun e => h5 e.symm
      simp [this]
    · exact hmono u w (h.f.lt x u k2 h1) (h.peo j x u w (by omega) hx h1 h2 h3 h4 h5)
  · have hFF := h.same hp
    subst hFF
    refine FOk.ext hl' h.f.len hv' h.f.vs (fun u w hu => ?_)
    rw [h' u w hu, Bool.eq_iff_iff]
    simp only [Bool.or_eq_true, Bool.and_eq_true, decide_eq_true_eq]
    constructor
    · rintro (hh | ⟨⟨h1, h2⟩, h3⟩)
      · exact hh
      · have k1 := (hSlt u h1).2; have k2 := (hSlt w h2).2
        rw [hS] at h1 h2
        simp only [Bool.and_eq_true] at h1 h2
        exact hp i v u w (by rw [List.getElem?_eq_getElem hi, hv]) h1.1 h2.1 k1 k2 (fun e => h3 e.symm)
    · exact .inl

end Go.Sx

/- How many a set has. Plain. -/
namespace Go.Sx
def cnt (n k : Nat) : Nat := ((List.range k).filter (fun i => n.testBit i)).length
theorem cnt_add (n a b : Nat) : cnt n (a + b) = cnt n a + cnt (n >>> a) b := by
  unfold cnt
  rw [List.range_add, List.filter_append, List.length_append, List.filter_map, List.length_map]
  congr 2
  apply List.filter_congr
  intro i _
  simp [Nat.testBit_shiftRight]
theorem cnt_mod (n k : Nat) : cnt (n % 2 ^ k) k = cnt n k := by
  unfold cnt
  congr 1
  apply List.filter_congr
  intro i hi
  have := List.mem_range.1 hi
  rw [Nat.testBit_mod_two_pow]; simp [this]
theorem elems_length (n : Nat) : (elems (n : Int)).length = cnt n 32 := by
  unfold elems cnt
  rw [List.length_map]
  rfl
theorem pop_all : ∀ b : Fin 256, strAt popTab (b.val : Int) = some ((cnt b.val 8 : Nat) : Int) := by decide +kernel
theorem pop_at {b : Nat} (h : b < 256) : strAt popTab (b : Int) = some ((cnt b 8 : Nat) : Int) := pop_all ⟨b, h⟩
theorem cnt_le (n k : Nat) : cnt n k ≤ k := by
  unfold cnt
  exact Nat.le_trans (List.length_filter_le _ _) (by simp)
theorem wrap8 {x : Int} (h0 : 0 ≤ x) (h : x < 256) : IntKind.u8.wrap x = x := by
  simp [IntKind.wrap, IntKind.signed, IntKind.bits]; omega

theorem OnesCount32_eq {s : Int} (h : VS s) : D.math_bits_OnesCount32 s = some ((elems s).length : Int) := by
  obtain ⟨n, rfl, hn⟩ := h.nat
  have s24 : ishr .u32 (n : Int) 24 = ((n >>> 24 : Nat) : Int) := shr_eq (n : Int) 24 h (by omega)
  have s16 : ishr .u32 (n : Int) 16 = ((n >>> 16 : Nat) : Int) := shr_eq (n : Int) 16 h (by omega)
  have s8 : ishr .u32 (n : Int) 8 = ((n >>> 8 : Nat) : Int) := shr_eq (n : Int) 8 h (by omega)
  have lt : ∀ k, n >>> k < 4294967296 := fun k => by
    rw [Nat.shiftRight_eq_div_pow]; exact Nat.lt_of_le_of_lt (Nat.div_le_self _ _) hn
  have a255 : ∀ m : Nat, m < 4294967296 → iand .u32 (m : Int) 255 = ((m % 256 : Nat) : Int) := fun m hm => by
    have := iand_nat hm (show (255 : Nat) < 4294967296 by omega)
    rw [show ((255 : Nat) : Int) = 255 from rfl] at this
    rw [this]
    congr 1
    exact Nat.and_two_pow_sub_one_eq_mod (n := 8) m
  have h24 : n >>> 24 < 256 := by rw [Nat.shiftRight_eq_div_pow]; exact Nat.div_lt_of_lt_mul (by simpa using hn)
  have ec : cnt n 32 = cnt (n % 256) 8 + cnt (n >>> 8 % 256) 8 + cnt (n >>> 16 % 256) 8 + cnt (n >>> 24) 8 := by
    rw [show (32 : Nat) = 8 + (8 + (8 + 8)) from rfl, cnt_add n 8, cnt_add _ 8, cnt_add _ 8]
    have e1 := cnt_mod n 8; have e2 := cnt_mod (n >>> 8) 8; have e3 := cnt_mod (n >>> 16) 8
    simp only [show (2 : Nat) ^ 8 = 256 from rfl] at e1 e2 e3
    rw [e1, e2, e3]
    simp only [← Nat.shiftRight_add, Nat.reduceAdd]
    omega
  unfold D.math_bits_OnesCount32
  rw [s24, s16, s8, a255 _ (lt 16), a255 _ (lt 8), a255 n hn, pop_at h24, pop_at (Nat.mod_lt _ (by omega)), pop_at (Nat.mod_lt _ (by omega)), pop_at (Nat.mod_lt _ (by omega))]
  simp only [Option.bind_some]
  have c1 := cnt_le (n >>> 24) 8; have c2 := cnt_le (n >>> 16 % 256) 8; have c3 := cnt_le (n >>> 8 % 256) 8; have c4 := cnt_le (n % 256) 8
  generalize cnt (n >>> 24) 8 = a at *; generalize cnt (n >>> 16 % 256) 8 = b at *; generalize cnt (n >>> 8 % 256) 8 = c at *; generalize cnt (n % 256) 8 = d at *
  rw [wrap8 (x := (a : Int) + b) (by omega) (by omega), wrap8 (x := (a : Int) + b + c) (by omega) (by omega), wrap8 (x := (a : Int) + b + c + d) (by omega) (by omega), w64 (by omega) (by omega), elems_length, ec]
  congr 1
  omega
theorem size_eq {s : Int} (h : VS s) : D.impl_vset_size s = some ((elems s).length : Int) := by
  unfold D.impl_vset_size; rw [OnesCount32_eq h]; rfl
end Go.Sx

/- Sets in the order of their elements, and by size first: what the program's comparisons say, by a key. Plain. -/
namespace Go.Sx
/-- comparing lists -/
def cz : List Int → List Int → Int
  | [], [] => 0
  | [], _ :: _ => -1
  | _ :: _, [] => 1
  | a :: x, b :: y => if a < b then -1 else if b < a then 1 else cz x y
theorem cz_range : ∀ x y, cz x y = -1 ∨ cz x y = 0 ∨ cz x y = 1
  | [], [] => .inr (.inl rfl)
  | [], _ :: _ => .inl rfl
  | _ :: _, [] => .inr (.inr rfl)
  | a :: x, b :: y => by
    unfold cz
    split
    · exact .inl rfl
    · split
      · exact .inr (.inr rfl)
      · exact cz_range x y
theorem cmp_int (a b : Int) : D.cmp_Compare_int a b = some (if a < b then -1 else if b < a then 1 else 0) := by
  unfold D.cmp_Compare_int D.cmp_isNaN_int
  simp only [bne_self_eq_false, Option.bind_some, cond_false]
  by_cases h : a < b
  · simp [h]
  · by_cases h2 : b < a <;> simp [h, h2]
theorem compare_eq (x y : List Int) (hx : Sh x) (hy : Sh y) : D.slices_Compare_int_int x y = some (cz x y) := by
  unfold Sh at hx hy
  unfold D.slices_Compare_int_int
  have key : ∀ (K : Unit ⊕ Int → Option Int), K (.inl ()) = cond (decide ((x.length : Int) < (y.length : Int))) (some (-1)) (some 0) → (∀ z, K (.inr z) = some z) → ∀ (k i : Nat), i + k = x.length → (i ≤ y.length) → (loopF (σ := Int) (ρ := (Unit) ⊕ (Int)) (fun (x_54 : Int) => cond (decide (x_54 < (x.length : Int))) ((idx x x_54).bind fun e_81 => cond (decide ((y.length : Int) ≤ x_54)) (some (.inr (.inr 1))) ((idx y x_54).bind fun e_88 => (D.cmp_Compare_int e_81 e_88).bind fun y_94 => cond (y_94 != 0) (some (.inr (.inr y_94))) (some (.inl (IntKind.i64.wrap (x_54 + 1)))))) (some (.inr (.inl ())))) (i : Int)).bind K = some (cz (x.drop i) (y.drop i)) := by
    intro K hK1 hK2 k
    induction k with
    | zero =>
      intro i hi hiy
      obtain rfl : i = x.length := by omega
      rw [loopF_done (r := Sum.inl ()) (by simp only [dnlt, cond_false])]
      simp only [Option.bind_some, List.drop_length, hK1]
      by_cases h : x.length < y.length
      · have e : decide ((x.length : Int) < (y.length : Int)) = true := by simp; omega
        rw [e, cond_true, List.drop_eq_getElem_cons h]; rfl
      · have e : decide ((x.length : Int) < (y.length : Int)) = false := by simp; omega
        rw [e, cond_false, List.drop_eq_nil_of_le (by omega)]; rfl
    | succ k ih =>
      intro i hi hiy
      have hix : i < x.length := by omega
      by_cases h : i < y.length
      · have e : decide ((y.length : Int) ≤ (i : Int)) = false := by simp; omega
        rw [List.drop_eq_getElem_cons hix, List.drop_eq_getElem_cons h]
        by_cases h1 : x[i] < y[i]
        · rw [loopF_done (r := Sum.inr (-1)) (by simp only [dlt hix, cond_true, idx_nat hix, idx_nat h, Option.bind_some, e, cond_false, cmp_int, h1, if_true]; rfl), Option.bind_some, hK2]
          simp [cz, h1]
        · by_cases h2 : y[i] < x[i]
          · rw [loopF_done (r := Sum.inr 1) (by simp only [dlt hix, cond_true, idx_nat hix, idx_nat h, Option.bind_some, e, cond_false, cmp_int, h1, h2, if_true, if_false]; rfl), Option.bind_some, hK2]
            simp [cz, h1, h2]
          · rw [loopF_more (s' := ((i + 1 : Nat) : Int)) (by simp only [dlt hix, cond_true, idx_nat hix, idx_nat h, Option.bind_some, e, cond_false, cmp_int, h1, h2, if_false, wi (show i < 4611686018427387904 by omega)]; rfl), ih (i + 1) (by omega) (by omega)]
            simp [cz, h1, h2]
      · obtain rfl : i = y.length := by omega
        have e : decide ((y.length : Int) ≤ (y.length : Int)) = true := by simp
        rw [loopF_done (r := Sum.inr 1) (by simp only [dlt hix, cond_true, idx_nat hix, Option.bind_some, e]), Option.bind_some, hK2]
        simp only [List.drop_length]
        rw [List.drop_eq_getElem_cons hix]; rfl
  exact key _ rfl (fun _ => rfl) x.length 0 (by omega) (by omega)

/-! ### a key for lists -/
def lk : Nat → List Int → Int
  | 0, _ => 0
  | _ + 1, [] => 0
  | d + 1, a :: l => (a + 1) * 33 ^ d + lk d l
theorem pow33 (d : Nat) : (1 : Int) ≤ 33 ^ d := by
  have : (0 : Int) < 33 ^ d := Int.pow_pos (by omega)
  omega
theorem lk_bound : ∀ (d : Nat) (l : List Int), (∀ x ∈ l, 0 ≤ x ∧ x < 32) → 0 ≤ lk d l ∧ lk d l < 33 ^ d
  | 0, l, _ => by simp [lk]
  | d + 1, [], _ => by have := pow33 (d + 1); simp only [lk]; omega
  | d + 1, a :: l, h => by
    have h1 := lk_bound d l (fun x hx => h x (List.mem_cons_of_mem _ hx))
    have ha := h a (by simp)
    have hp := pow33 d
    simp only [lk]
    generalize hq : (33 : Int) ^ d = p at *
    have e : (33 : Int) ^ (d + 1) = p * 33 := by rw [← hq, Int.pow_succ]
    rw [e]
    have h2 : (a + 1) * p ≤ 32 * p := Int.mul_le_mul_of_nonneg_right (by omega) (by omega)
    have h3 : 0 ≤ (a + 1) * p := Int.mul_nonneg (by omega) (by omega)
    omega
theorem lk_cmp : ∀ (d : Nat) (x y : List Int), x.length ≤ d → y.length ≤ d → (∀ z ∈ x, 0 ≤ z ∧ z < 32) → (∀ z ∈ y, 0 ≤ z ∧ z < 32) → (cz x y < 0 ↔ lk d x < lk d y)
  | d, [], [], _, _, _, _ => by cases d <;> simp [cz, lk]
  | 0, _ :: _, _, h, _, _, _ => by simp at h
  | 0, _, _ :: _, _, h, _, _ => by simp at h
  | d + 1, [], b :: y, _, h, _, hy => by
    have h1 := lk_bound d y (fun x hx => hy x (List.mem_cons_of_mem _ hx))
    have hb := hy b (by simp)
    have hp := pow33 d
    simp only [cz, lk]
    have h3 : 1 * (33 : Int) ^ d ≤ (b + 1) * 33 ^ d := Int.mul_le_mul_of_nonneg_right (by omega) (by omega)
    constructor
    · intro _; omega
    · intro _; omega
  | d + 1, a :: x, [], h, _, hx, _ => by
    have h1 := lk_bound d x (fun z hz => hx z (List.mem_cons_of_mem _ hz))
    have ha := hx a (by simp)
    have hp := pow33 d
    simp only [cz, lk]
    have h3 : 1 * (33 : Int) ^ d ≤ (a + 1) * 33 ^ d := Int.mul_le_mul_of_nonneg_right (by omega) (by omega)
    constructor
    · intro hc; omega
    · intro hc; omega
  | d + 1, a :: x, b :: y, hlx, hly, hx, hy => by
    have ih := lk_cmp d x y (by simpa using hlx) (by simpa using hly) (fun z hz => hx z (List.mem_cons_of_mem _ hz)) (fun z hz => hy z (List.mem_cons_of_mem _ hz))
    have h1 := lk_bound d x (fun z hz => hx z (List.mem_cons_of_mem _ hz))
    have h2 := lk_bound d y (fun z hz => hy z (List.mem_cons_of_mem _ hz))
    have hp := pow33 d
    simp only [cz, lk]
    by_cases hab : a < b
    · rw [if_pos hab]
      have h3 : (a + 1 + 1) * (33 : Int) ^ d ≤ (b + 1) * 33 ^ d := Int.mul_le_mul_of_nonneg_right (by omega) (by omega)
      have h4 : (a + 1 + 1) * (33 : Int) ^ d = (a + 1) * 33 ^ d + 33 ^ d := by rw [Int.add_mul (a + 1) 1, Int.one_mul]
      constructor
      · intro _; omega
      · intro _; omega
    · by_cases hba : b < a
      · rw [if_neg hab, if_pos hba]
        have h3 : (b + 1 + 1) * (33 : Int) ^ d ≤ (a + 1) * 33 ^ d := Int.mul_le_mul_of_nonneg_right (by omega) (by omega)
        have h4 : (b + 1 + 1) * (33 : Int) ^ d = (b + 1) * 33 ^ d + 33 ^ d := by rw [Int.add_mul (b + 1) 1, Int.one_mul]
        constructor
        · intro hc; omega
        · intro hc; omega
      · rw [if_neg hab, if_neg hba]
        obtain rfl : a = b := by omega
        rw [ih]; omega
theorem cz_zero : ∀ x y, cz x y = 0 ↔ x = y
  | [], [] => by simp [cz]
  | [], _ :: _ => by simp [cz]
  | _ :: _, [] => by simp [cz]
  | a :: x, b :: y => by
    unfold cz
    by_cases h : a < b
    · simp [h]; omega
    · by_cases h2 : b < a
      · simp [h, h2]; omega
      · obtain rfl : a = b := by omega
        simp [cz_zero x y]
theorem cz_anti : ∀ x y, cz y x = - cz x y
  | [], [] => rfl
  | [], _ :: _ => rfl
  | _ :: _, [] => rfl
  | a :: x, b :: y => by
    unfold cz
    by_cases h : a < b
    · have h2 : ¬ b < a := by omega
      simp [h, h2]
    · by_cases h2 : b < a
      · simp [h, h2]
      · simp [h, h2, cz_anti x y]
theorem lk_inj {d : Nat} {x y : List Int} (hx : x.length ≤ d) (hy : y.length ≤ d) (h1 : ∀ z ∈ x, 0 ≤ z ∧ z < 32) (h2 : ∀ z ∈ y, 0 ≤ z ∧ z < 32) (h : lk d x = lk d y) : x = y := by
  have a := lk_cmp d x y hx hy h1 h2
  have b := lk_cmp d y x hy hx h2 h1
  rw [cz_anti x y] at b
  rw [← cz_zero]
  rcases cz_range x y with e | e | e <;> omega

/-! ### the two comparisons of sets -/
theorem elems_rng (s : Int) : ∀ z ∈ elems s, 0 ≤ z ∧ z < 32 := fun z hz => by
  obtain ⟨v, h1, _, rfl⟩ := mem_elems.1 hz; omega
def lkey (s : Int) : Int := lk 32 (elems s)
def skey (s : Int) : Int := ((elems s).length : Int) * 33 ^ 32 + lkey s
theorem lkey_bound (s : Int) : 0 ≤ lkey s ∧ lkey s < 33 ^ 32 := lk_bound 32 _ (elems_rng s)
theorem elems_inj {s t : Int} (hs : VS s) (ht : VS t) (h : elems s = elems t) : s = t := by rw [← mk_elems hs, ← mk_elems ht, h]
theorem lkey_inj {s t : Int} (hs : VS s) (ht : VS t) (h : lkey s = lkey t) : s = t :=
  elems_inj hs ht (lk_inj (elems_len s) (elems_len t) (elems_rng s) (elems_rng t) h)
theorem skey_inj {s t : Int} (hs : VS s) (ht : VS t) (h : skey s = skey t) : s = t := by
  unfold skey at h
  have h1 := lkey_bound s; have h2 := lkey_bound t
  refine lkey_inj hs ht ?_
  have key : ∀ (a b p x y : Int), 0 ≤ x → x < p → 0 ≤ y → y < p → a * p + x = b * p + y → x = y := by
    intro a b p x y hx hxp hy hyp he
    have e1 : (a * p + x) % p = x := by rw [Int.add_comm, Int.add_mul_emod_self_right, Int.emod_eq_of_lt hx hxp]
    have e2 : (b * p + y) % p = y := by rw [Int.add_comm, Int.add_mul_emod_self_right, Int.emod_eq_of_lt hy hyp]
    rw [← e1, ← e2, he]
  exact key _ _ _ _ _ h1.1 h1.2 h2.1 h2.2 h
theorem compareSets_eq {s t : Int} (hs : VS s) (ht : VS t) : D.impl_compareSets s t = some (cz (elems s) (elems t)) := by
  unfold D.impl_compareSets
  rw [list_eq s hs, Option.bind_some, list_eq t ht, Option.bind_some, compare_eq _ _ (elems_sh s) (elems_sh t)]
  rfl
noncomputable abbrev byLex : Gs.Srtd Int where
  dflt := 0
  key := lkey
  good := VS
  cmp := D.impl_compareSets
  law := fun s t hs ht => ⟨_, compareSets_eq hs ht, by rw [decide_eq_decide]; exact lk_cmp 32 _ _ (elems_len s) (elems_len t) (elems_rng s) (elems_rng t)⟩
theorem bySize_eq {s t : Int} (hs : VS s) (ht : VS t) : D.impl_bySize s t = some (if (elems s).length = (elems t).length then cz (elems s) (elems t) else ((elems s).length : Int) - (elems t).length) := by
  have h1 := elems_len s; have h2 := elems_len t
  unfold D.impl_bySize
  simp only [size_eq hs, size_eq ht, Option.bind_some, compareSets_eq hs ht]
  by_cases h : (elems s).length = (elems t).length
  · rw [if_pos h, h]; simp
  · rw [if_neg h]
    have : (((elems s).length : Int) != ((elems t).length : Int)) = true := by rw [bne_iff_ne]; omega
    rw [this, cond_true, w64 (by omega) (by omega)]
theorem skey_lt {s t : Int} : skey s < skey t ↔ (if (elems s).length = (elems t).length then cz (elems s) (elems t) else ((elems s).length : Int) - (elems t).length) < 0 := by
  have h1 := lkey_bound s; have h2 := lkey_bound t
  unfold skey
  by_cases h : (elems s).length = (elems t).length
  · rw [if_pos h, h, lk_cmp 32 _ _ (elems_len s) (elems_len t) (elems_rng s) (elems_rng t)]
    unfold lkey
    omega
  · rw [if_neg h]
    have key : ∀ (p : Int) (a b : Nat) (x y : Int), a < b → 0 ≤ x → x < p → 0 ≤ y → (a : Int) * p + x < b * p + y := by
      intro p a b x y hab hx hxp hy
      have h3 : ((a : Int) + 1) * p ≤ b * p := Int.mul_le_mul_of_nonneg_right (by omega) (by omega)
      have h4 : ((a : Int) + 1) * p = a * p + p := by rw [Int.add_mul, Int.one_mul]
      omega
    rcases Nat.lt_or_gt_of_ne h with c | c
    · have := key (33 ^ 32) _ _ (lkey s) (lkey t) c h1.1 h1.2 h2.1
      constructor
      · intro _; omega
      · intro _; exact this
    · have := key (33 ^ 32) _ _ (lkey t) (lkey s) c h2.1 h2.2 h1.1
      constructor
      · intro hc; omega
      · intro hc; omega
noncomputable abbrev bySz : Gs.Srtd Int where
  dflt := 0
  key := skey
  good := VS
  cmp := D.impl_bySize
  law := fun s t hs ht => ⟨_, bySize_eq hs ht, by rw [decide_eq_decide]; exact skey_lt.symm⟩

/-- a list that rises by an injective key is the only one of its elements -/
theorem rise_unique {k : Int → Int} : ∀ {l l' : List Int}, l.Pairwise (fun a b => k a < k b) → l'.Pairwise (fun a b => k a < k b) → (∀ x, x ∈ l ↔ x ∈ l') → l = l'
  | [], [], _, _, _ => rfl
  | [], y :: l', _, _, h => by have := (h y).2 (by simp); simp at this
  | x :: l, [], _, _, h => by have := (h x).1 (by simp); simp at this
  | x :: l, y :: l', h1, h2, h => by
    have h1' := List.pairwise_cons.1 h1; have h2' := List.pairwise_cons.1 h2
    have e : x = y := by
      rcases List.mem_cons.1 ((h x).1 (by simp)) with e | e
      · exact e
      · rcases List.mem_cons.1 ((h y).2 (by simp)) with e' | e'
        · exact e'.symm
        · have := h2'.1 x e; have := h1'.1 y e'; omega
    subst e
    have : l = l' := by
      refine rise_unique h1'.2 h2'.2 (fun z => ?_)
      constructor
      · intro hz
        rcases List.mem_cons.1 ((h z).1 (List.mem_cons_of_mem _ hz)) with e | e
        · subst e; have := h1'.1 z hz; omega
        · exact e
      · intro hz
        rcases List.mem_cons.1 ((h z).2 (List.mem_cons_of_mem _ hz)) with e | e
        · subst e; have := h2'.1 z hz; omega
        · exact e
    rw [this]
/-- what sorting comes to: the things in the order of their keys -/
theorem sorted_rise (I : Gs.Srtd Int) (hinj : ∀ x y, I.good x → I.good y → I.key x = I.key y → x = y) (l : List Int) (hG : ∀ x ∈ l, I.good x) (hn : l.Nodup) (hlen : l.length ≤ 1000000) :
    ∃ l', DG.Sort I.cmp l = some l' ∧ List.Perm l' l ∧ l'.Pairwise (fun a b => I.key a < I.key b) := by
  obtain ⟨l', e, hp, hs⟩ := @Gs.sort_spec Int I l hG hlen
  refine ⟨l', e, hp, ?_⟩
  rw [List.pairwise_iff_getElem]
  intro i j hi hj hij
  have h := hs i j (by omega) (by omega) (by omega)
  unfold Gs.at' Gs.el at h
  rw [Int.toNat_natCast, Int.toNat_natCast, getD_lt hi, getD_lt hj] at h
  have hne : l'[i] ≠ l'[j] := fun e => by
    have hn' := hp.nodup_iff.2 hn
    have := (List.nodup_iff_pairwise_ne.1 hn')
    exact (List.pairwise_iff_getElem.1 this) i j hi hj hij e
  have g1 := hG _ (hp.mem_iff.1 (List.getElem_mem hi))
  have g2 := hG _ (hp.mem_iff.1 (List.getElem_mem hj))
  have hk : I.key l'[i] ≠ I.key l'[j] := fun e => hne (hinj _ _ g1 g2 e)
  omega
end Go.Sx

/- Sorts by a comparison are one sort. Plain, made by program. -/
namespace Go.Sx
theorem se_insertionSort_impl_vset_impl_compareSets : D.slices_insertionSortCmpFunc_impl_vset__impl_compareSets = DG.insertionSort D.impl_compareSets := by kernel_rfl
theorem se_heapSort_impl_vset_impl_compareSets : D.slices_heapSortCmpFunc_impl_vset__impl_compareSets = DG.heapSort D.impl_compareSets := by kernel_rfl
theorem se_breakPatterns_impl_vset_impl_compareSets : D.slices_breakPatternsCmpFunc_impl_vset__impl_compareSets = DG.breakPatterns D.impl_compareSets := by kernel_rfl
theorem se_choosePivot_impl_vset_impl_compareSets : D.slices_choosePivotCmpFunc_impl_vset__impl_compareSets = DG.choosePivot D.impl_compareSets := by kernel_rfl
theorem se_reverseRange_impl_vset_impl_compareSets : D.slices_reverseRangeCmpFunc_impl_vset__impl_compareSets = DG.reverseRange D.impl_compareSets := by kernel_rfl
theorem se_partialInsertionSort_impl_vset_impl_compareSets : D.slices_partialInsertionSortCmpFunc_impl_vset__impl_compareSets = DG.partialInsertionSort D.impl_compareSets := by kernel_rfl
theorem se_partitionEqual_impl_vset_impl_compareSets : D.slices_partitionEqualCmpFunc_impl_vset__impl_compareSets = DG.partitionEqual D.impl_compareSets := by kernel_rfl
theorem se_partition_impl_vset_impl_compareSets : D.slices_partitionCmpFunc_impl_vset__impl_compareSets = DG.partition D.impl_compareSets := by kernel_rfl
theorem se_pdqsort_impl_vset_impl_compareSets : ∀ (n : Nat) x a b c, D.slices_pdqsortCmpFunc_impl_vset__impl_compareSetsR n x a b c = DG.pdqsortR D.impl_compareSets n x a b c
  | 0, _, _, _, _ => rfl
  | n + 1, x, a, b, c => by
    unfold D.slices_pdqsortCmpFunc_impl_vset__impl_compareSetsR DG.pdqsortR
    rw [se_insertionSort_impl_vset_impl_compareSets, se_heapSort_impl_vset_impl_compareSets, se_breakPatterns_impl_vset_impl_compareSets, se_choosePivot_impl_vset_impl_compareSets, se_reverseRange_impl_vset_impl_compareSets, se_partialInsertionSort_impl_vset_impl_compareSets, se_partitionEqual_impl_vset_impl_compareSets, se_partition_impl_vset_impl_compareSets, funext (fun x => funext fun a => funext fun b => funext fun c => se_pdqsort_impl_vset_impl_compareSets n x a b c)]
    kernel_rfl
theorem se_impl_vset_impl_compareSets (x) : D.slices_SortFunc_impl_vset_impl_vset__impl_compareSets x = DG.Sort D.impl_compareSets x := by
  unfold D.slices_SortFunc_impl_vset_impl_vset__impl_compareSets DG.Sort D.slices_pdqsortCmpFunc_impl_vset__impl_compareSets DG.pdqsort
  simp only [se_pdqsort_impl_vset_impl_compareSets]
theorem se_insertionSort_impl_vset_impl_bySize : D.slices_insertionSortCmpFunc_impl_vset__impl_bySize = DG.insertionSort D.impl_bySize := by kernel_rfl
theorem se_heapSort_impl_vset_impl_bySize : D.slices_heapSortCmpFunc_impl_vset__impl_bySize = DG.heapSort D.impl_bySize := by kernel_rfl
theorem se_breakPatterns_impl_vset_impl_bySize : D.slices_breakPatternsCmpFunc_impl_vset__impl_bySize = DG.breakPatterns D.impl_bySize := by kernel_rfl
theorem se_choosePivot_impl_vset_impl_bySize : D.slices_choosePivotCmpFunc_impl_vset__impl_bySize = DG.choosePivot D.impl_bySize := by kernel_rfl
theorem se_reverseRange_impl_vset_impl_bySize : D.slices_reverseRangeCmpFunc_impl_vset__impl_bySize = DG.reverseRange D.impl_bySize := by kernel_rfl
theorem se_partialInsertionSort_impl_vset_impl_bySize : D.slices_partialInsertionSortCmpFunc_impl_vset__impl_bySize = DG.partialInsertionSort D.impl_bySize := by kernel_rfl
theorem se_partitionEqual_impl_vset_impl_bySize : D.slices_partitionEqualCmpFunc_impl_vset__impl_bySize = DG.partitionEqual D.impl_bySize := by kernel_rfl
theorem se_partition_impl_vset_impl_bySize : D.slices_partitionCmpFunc_impl_vset__impl_bySize = DG.partition D.impl_bySize := by kernel_rfl
theorem se_pdqsort_impl_vset_impl_bySize : ∀ (n : Nat) x a b c, D.slices_pdqsortCmpFunc_impl_vset__impl_bySizeR n x a b c = DG.pdqsortR D.impl_bySize n x a b c
  | 0, _, _, _, _ => rfl
  | n + 1, x, a, b, c => by
    unfold D.slices_pdqsortCmpFunc_impl_vset__impl_bySizeR DG.pdqsortR
    rw [se_insertionSort_impl_vset_impl_bySize, se_heapSort_impl_vset_impl_bySize, se_breakPatterns_impl_vset_impl_bySize, se_choosePivot_impl_vset_impl_bySize, se_reverseRange_impl_vset_impl_bySize, se_partialInsertionSort_impl_vset_impl_bySize, se_partitionEqual_impl_vset_impl_bySize, se_partition_impl_vset_impl_bySize, funext (fun x => funext fun a => funext fun b => funext fun c => se_pdqsort_impl_vset_impl_bySize n x a b c)]
    kernel_rfl
theorem se_impl_vset_impl_bySize (x) : D.slices_SortFunc_impl_vset_impl_vset__impl_bySize x = DG.Sort D.impl_bySize x := by
  unfold D.slices_SortFunc_impl_vset_impl_vset__impl_bySize DG.Sort D.slices_pdqsortCmpFunc_impl_vset__impl_bySize DG.pdqsort
  simp only [se_pdqsort_impl_vset_impl_bySize]
end Go.Sx

/- Trees of bags: the reference's own check, where it answers true. Plain. -/
namespace Go.Sx
theorem nodup_le : ∀ {l m : List Int}, l.Nodup → (∀ x ∈ l, x ∈ m) → l.length ≤ m.length
  | [], _, _, _ => by simp
  | x :: l, m, h, hs => by
    have h' := List.nodup_cons.1 h
    have hx := hs x (by simp)
    have := nodup_le (l := l) (m := m.erase x) h'.2 (fun y hy => by
      have hne : y ≠ x := fun e => h'.1 (e ▸ hy)
      exact (List.mem_erase_of_ne hne).2 (hs y (by simp [hy])))
    rw [List.length_erase_of_mem hx] at this
    have hp : 0 < m.length := List.length_pos_of_mem hx
    simp; omega
theorem Inc.nodup {l : List Int} (h : Inc l) : l.Nodup := List.Pairwise.imp (fun h e => by omega) h

/-- which bags have a vertex -/
def withV (bags : List (List Int)) (v : Int) : List Int := ((List.range bags.length).filter fun b => decide (v ∈ bags.getD b [])).map Int.ofNat
/-- linked -/
def Lk (links : List (List Int)) (x y : Int) : Prop := [x, y] ∈ links ∨ [y, x] ∈ links
/-- m has the first of sel, and with each what is linked in sel -/
structure Closed (links : List (List Int)) (sel m : List Int) : Prop where
  sub : ∀ x ∈ m, x ∈ sel
  first : ∀ x, sel.head? = some x → x ∈ m
  step : ∀ x ∈ m, ∀ y ∈ sel, Lk links x y → y ∈ m

/-- all of sel hangs together -/
def Conn (links : List (List Int)) (sel : List Int) : Prop := ∀ m, Closed links sel m → ∀ x ∈ sel, x ∈ m
end Go.Sx

/- A tree of bags that is right, by the reference's own check. Plain. -/
namespace Go.Sx
/-- a link of two bags, the lesser one first -/
def LinkIn (n : Nat) (l : List Int) : Prop := ∃ a b : Nat, l = [(a : Int), (b : Int)] ∧ a < b ∧ b < n

/-- what a tree of bags of a graph is -/
structure TB (g bags links : List (List Int)) : Prop where
  n1 : 1 ≤ bags.length
  n16 : bags.length ≤ 16
  many : links.length + 1 = bags.length
  lks : ∀ l ∈ links, LinkIn bags.length l
  sets : ∀ b ∈ bags, SetOf b g.length
  tree : Conn links ((List.range bags.length).map Int.ofNat)
  edges : ∀ u v : Nat, u < g.length → adj g u v → ∃ b ∈ bags, (u : Int) ∈ b ∧ (v : Int) ∈ b
  some : ∀ v, v < g.length → withV bags v ≠ []
  conn : ∀ v, v < g.length → Conn links (withV bags v)

end Go.Sx

/- The edges of a graph, listed by the program and by the reference; the filled graph of an order. Plain. -/
namespace Go.Sx
def rowF (r : List Int) (u : Nat) (s : List (List Int)) : List (List Int) := (List.range r.length).foldl (fun s i => if (u : Int) < r.getD i 0 then s ++ [[(u : Int), r.getD i 0]] else s) s
theorem inner_edges (r : List Int) (u : Nat) (s0 : List (List Int)) (h : s0.length + r.length ≤ 4294967296) {step : List (List Int) × Int → Option ((List (List Int) × Int) ⊕ List (List Int))}
    (hstep : ∀ s (i : Nat) (hi : i < r.length), step (s, (i : Int)) = cond (decide ((u : Int) < r[i])) ((appendD s [[(u : Int), r[i]]]).bind fun l => some (.inl (l, ((i + 1 : Nat) : Int)))) (some (.inl (s, ((i + 1 : Nat) : Int)))))
    (hend : ∀ s, step (s, (r.length : Int)) = some (.inr s)) : loopF step (s0, 0) = some (rowF r u s0) ∧ (rowF r u s0).length ≤ s0.length + r.length := by
  have key := loop_nat (step := step) r.length (fun s i => (s, i)) (fun s i => if (u : Int) < r.getD i 0 then s ++ [[(u : Int), r.getD i 0]] else s) (fun s => s) (fun i s => s.length ≤ s0.length + i) s0 (by omega)
    (fun s i hi hs => ?_) (fun s _ => hend s)
  · exact key
  · have hg : r.getD i 0 = r[i] := getD_lt hi 0
    refine ⟨?_, ?_⟩
    · rw [hstep s i hi, hg]
      by_cases hc : (u : Int) < r[i]
      · rw [decide_eq_true hc, cond_true, appendD_ok (by simp; omega), if_pos hc]; rfl
      · rw [decide_eq_false hc, cond_false, if_neg hc]
    · rw [hg]
      split
      · rw [List.length_append, List.length_singleton]; omega
      · omega
def edgesF (g : List (List Int)) : List (List Int) := (List.range g.length).foldl (fun s u => rowF (row g u) u s) []

theorem impl_edgesOf_eq (g : List (List Int)) (hg : GOk g) : D.impl_edgesOf g = some (edgesF g) := by
  have h16 := hg.n16
  unfold D.impl_edgesOf
  have key := loop_nat (ρ := List (List Int)) (step := (fun (s_288 : (List (List Int)) × Int) => match s_288 with | (l_291, x_296) => cond (decide (x_296 < (g.length : Int))) ((idx g x_296).bind fun e_441 => (loopF (σ := (List (List Int)) × Int) (ρ := ((List (List Int)))) (fun (s_508 : (List (List Int)) × Int) => match s_508 with | (l_511, x_516) => cond (decide (x_516 < (e_441.length : Int))) ((idx e_441 x_516).bind fun e_551 => cond (decide (x_296 < e_551)) ((appendD l_511 ([([x_296, e_551] : List Int)] : List (List Int))).bind fun l_569 => some (.inl (l_569, (IntKind.i64.wrap (x_516 + 1))))) (some (.inl (l_511, (IntKind.i64.wrap (x_516 + 1)))))) (some (.inr l_511))) (l_291, 0)).bind fun l_544 => some (.inl (l_544, (IntKind.i64.wrap (x_296 + 1))))) (some (.inr l_291))))
    g.length (fun s i => (s, i)) (fun s u => rowF (row g u) u s) (fun s => s) (fun i s => s.length ≤ 16 * i) [] (by simp) (fun s u hu hs => ?_) (fun s _ => ?_)
  · exact congrArg (fun z => Option.bind z fun l => some l) key.1
  · have hr := hg.row_len hu
    obtain ⟨k1, k2⟩ := inner_edges (row g u) u s (by omega) (step := (fun (s_508 : (List (List Int)) × Int) => match s_508 with | (l_511, x_516) => cond (decide (x_516 < ((row g u).length : Int))) ((idx (row g u) x_516).bind fun e_551 => cond (decide ((u : Int) < e_551)) ((appendD l_511 ([([(u : Int), e_551] : List Int)] : List (List Int))).bind fun l_569 => some (.inl (l_569, (IntKind.i64.wrap (x_516 + 1))))) (some (.inl (l_511, (IntKind.i64.wrap (x_516 + 1)))))) (some (.inr l_511)))) (fun s i hi => by
        simp only [dlt hi, cond_true, idx_nat hi, Option.bind_some, wi (show i < 4611686018427387904 by omega)]) (fun s => by simp only [dnlt, cond_false])
    refine ⟨?_, by omega⟩
    simp only [dlt hu, cond_true, idx_row hu, Option.bind_some, wi (show u < 4611686018427387904 by omega)]
    exact (congrArg (fun z => Option.bind z _) k1).trans rfl
  · simp only [dnlt, cond_false]

theorem GOk.sh2 {g : List (List Int)} (hg : GOk g) : Sh2 g := by
  have h16 := hg.n16
  exact ⟨by unfold Sh; omega, fun r hr => by have := (hg.mem0 hr).1; unfold Sh; omega⟩
theorem gB_true {g : List (List Int)} (hg : GOk g) : gB g = true := (gB_iff g).2 hg
theorem impl_ManyEdges_eq (g : List (List Int)) (hg : GOk g) : D.impl_ManyEdges g = some ((edgesF g).length : Int) := by
  unfold D.impl_ManyEdges D.impl_EdgesOf
  rw [impl_GraphOk_eq g hg.sh2, gB_true hg, Option.bind_some, Bool.not_true, cond_false, impl_edgesOf_eq g hg]; rfl
theorem nets_graph_eq (F : List Int) (h : F.length ≤ 16) (hV : ∀ u, u < F.length → VS (F.getD u 0)) : D.impl_nets_graph F = some (grow F) := by
  unfold D.impl_nets_graph
  refine (loop_map F (fun s i => (i, s)) elems (by omega) (fun s i hi _ => ?_) (fun s => ?_)).trans rfl
  · have := hV i hi
    rw [getD_lt hi] at this
    simp only [dlt hi, cond_true, idx_nat hi, Option.bind_some, numbers_eq _ this, wi (show i < 4611686018427387904 by omega)]
  · simp only [dnlt, cond_false]

theorem OOk.sh {g : List (List Int)} {o : List Int} (hg : GOk g) (ho : OOk g o) : Sh o := by
  have := hg.n16; have := ho.len; unfold Sh; omega
theorem impl_OrderOk_true {g : List (List Int)} {o : List Int} (hg : GOk g) (ho : OOk g o) : D.impl_OrderOk g o = some true := by
  rw [impl_OrderOk_eq g o hg.sh2 (ho.sh hg), gB_true hg, (ordB_iff g o).2 ho]; rfl

/-- what filling comes to -/
structure Fill (g : List (List Int)) (o F L : List Int) : Prop where
  elim : D.impl_elimination (g.map mk) o = some (F, L)
  f : FOk F g.length
  lenL : L.length = g.length
  vsL : ∀ u, u < g.length → VS (L.getD u 0)
  mono : ∀ u w, u < g.length → adj g u w → nb F u w = true
  lat : Lat F L o g.length
  peo : PEO F o
  same : PEO (g.map mk) o → F = g.map mk

theorem Fill.FillOf {g : List (List Int)} {o F L : List Int} (hg : GOk g) (ho : OOk g o) (h : Fill g o F L) : D.impl_FillOf g o = some (grow F, true) := by
  have h16 := hg.n16
  unfold D.impl_FillOf
  rw [impl_OrderOk_true hg ho, Option.bind_some, Bool.not_true, cond_false, netsOf_eq g hg, Option.bind_some, narrow_eq o (ho.sh hg), Option.bind_some, h.elim, Option.bind_some, nets_graph_eq F (by rw [h.f.len]; omega) (fun u hu => h.f.vs u (by rw [h.f.len] at hu; exact hu))]
  rfl
theorem Fill.gok {g : List (List Int)} {o F L : List Int} (hg : GOk g) (h : Fill g o F L) : GOk (grow F) := GOk.grow h.f hg.n1 hg.n16
end Go.Sx

/- Who is left, cliques, and the reference's perfect orders, where there is one. Plain. -/
namespace Go.Sx
theorem least_of {P : Nat → Prop} (h : ∃ j, P j) : ∃ j, P j ∧ ∀ i, i < j → ¬ P i := by
  obtain ⟨j, hj⟩ := h
  induction j using Nat.strongRecOn with
  | ind j ih =>
    by_cases hc : ∃ i, i < j ∧ P i
    · obtain ⟨i, h1, h2⟩ := hc; exact ih i h1 h2
    · exact ⟨j, hj, fun i hi hp => hc ⟨i, hi, hp⟩⟩

end Go.Sx

/- Sums over the first numbers, counted pairs; the first least of a list. Plain. -/
namespace Go.Sx
/-! ### the first least of a list -/
def ast (f : Int → Int) (s : Int × Int) (v : Int) : Int × Int := if s.1 < 0 ∨ f v < s.2 then (v, f v) else s
def amin (f : Int → Int) (l : List Int) : Int × Int := l.foldl (ast f) (-1, 0)
theorem ast_run (f : Int → Int) : ∀ (l : List Int) (b : Int), 0 ≤ b → (∀ x ∈ l, 0 ≤ x) → ∃ c, l.foldl (ast f) (b, f b) = (c, f c) ∧ (c = b ∨ c ∈ l) ∧ 0 ≤ c ∧ f c ≤ f b ∧ ∀ x ∈ l, f c ≤ f x
  | [], b, hb, _ => ⟨b, rfl, .inl rfl, hb, Int.le_refl _, by simp⟩
  | x :: l, b, hb, hl => by
    have hx := hl x (by simp)
    have hl' := fun y hy => hl y (List.mem_cons_of_mem x hy)
    rw [List.foldl_cons]
    by_cases hc : f x < f b
    · have e : ast f (b, f b) x = (x, f x) := by unfold ast; rw [if_pos (.inr hc)]
      rw [e]
      obtain ⟨c, h1, h2, h3, h4, h5⟩ := ast_run f l x hx hl'
      refine ⟨c, h1, .inr ?_, h3, by omega, fun y hy => ?_⟩
      · rcases h2 with rfl | h2
        · simp
        · exact List.mem_cons_of_mem _ h2
      · rcases List.mem_cons.1 hy with rfl | hy
        · exact h4
        · exact h5 y hy
    · have e : ast f (b, f b) x = (b, f b) := by unfold ast; rw [if_neg (fun h => h.elim (fun h => by dsimp only at h; omega) hc)]
      rw [e]
      obtain ⟨c, h1, h2, h3, h4, h5⟩ := ast_run f l b hb hl'
      refine ⟨c, h1, ?_, h3, h4, fun y hy => ?_⟩
      · rcases h2 with h2 | h2
        · exact .inl h2
        · exact .inr (List.mem_cons_of_mem _ h2)
      · rcases List.mem_cons.1 hy with rfl | hy
        · omega
        · exact h5 y hy
theorem ast_first (f : Int → Int) (x : Int) : ast f (-1, 0) x = (x, f x) := by unfold ast; rw [if_pos (.inl (by decide))]
theorem amin_ok (f : Int → Int) {l : List Int} (hne : l ≠ []) (hl : ∀ x ∈ l, 0 ≤ x) : ∃ c, amin f l = (c, f c) ∧ c ∈ l ∧ ∀ x ∈ l, f c ≤ f x := by
  cases l with
  | nil => exact absurd rfl hne
  | cons x l =>
    unfold amin
    rw [List.foldl_cons, ast_first]
    obtain ⟨c, h1, h2, h3, h4, h5⟩ := ast_run f l x (hl x (by simp)) (fun y hy => hl y (List.mem_cons_of_mem _ hy))
    refine ⟨c, h1, ?_, fun y hy => ?_⟩
    · rcases h2 with rfl | h2
      · simp
      · exact List.mem_cons_of_mem _ h2
    · rcases List.mem_cons.1 hy with rfl | hy
      · exact h4
      · exact h5 y hy
/-! ### those below a number that are in a set -/
def els (s : Int) (i : Nat) : List Int := ((List.range i).filter (has s)).map Int.ofNat
theorem els_succ (s : Int) (i : Nat) : els s (i + 1) = if has s i then els s i ++ [(i : Int)] else els s i := by
  unfold els
  rw [List.range_succ, List.filter_append, List.map_append]
  cases h : has s i <;> simp [h]
theorem els_all {s : Int} {n : Nat} (hn : n ≤ 32) (h : ∀ v, has s v = true → v < n) : els s n = elems s := by
  unfold els elems
  obtain ⟨k, hk⟩ : ∃ k, 32 = n + k := ⟨32 - n, by omega⟩
  rw [hk, List.range_add, List.filter_append]
  have : ((List.range k).map (fun x => n + x)).filter (has s) = [] := by
    rw [List.filter_eq_nil_iff]
    intro x hx hc
    obtain ⟨y, _, rfl⟩ := List.mem_map.1 hx
    have := h _ hc; omega
  rw [this, List.append_nil]
theorem elems_nonneg (s : Int) : ∀ x ∈ elems s, 0 ≤ x := fun x hx => by
  obtain ⟨v, _, _, rfl⟩ := mem_elems.1 hx; omega
def full (n : Nat) : Int := IntKind.u32.wrap (ishl .u32 1 (n : Int) - 1)
theorem full_vs (n : Nat) : VS (full n) := VS.wrap _
theorem has_full {n : Nat} (h : n ≤ 16) (v : Nat) : has (full n) v = decide (v < n) := by
  by_cases hv : v < 32
  · exact all_mask ⟨n, by omega⟩ ⟨v, hv⟩
  · rw [has_big (full_vs n) (by omega)]; symm; simp; omega
theorem nets_all_full (F : List Int) : D.impl_nets_all F = some (full F.length) := by
  unfold D.impl_nets_all D.impl_firstOf
  have : decide ((F.length : Int) < 0) = false := by simp
  rw [this]; rfl
end Go.Sx

/- 'laws.FnFill' comes to true. Plain. -/
namespace Go.Sx
theorem Fill.many {g : List (List Int)} {o F L : List Int} (hg : GOk g) (ho : OOk g o) (h : Fill g o F L) : D.impl_FillMany g o = some (IntKind.i64.wrap (((edgesF (grow F)).length : Int) - ((edgesF g).length : Int))) := by
  unfold D.impl_FillMany
  rw [h.FillOf hg ho, Option.bind_some]
  simp only [Bool.not_true, cond_false]
  rw [impl_ManyEdges_eq _ (h.gok hg), Option.bind_some, impl_ManyEdges_eq _ hg]
  rfl
end Go.Sx

/- PathDecomp: the reference's and the program's are one. Plain. -/
namespace Go.Sx
section
variable {g : List (List Int)} {o : List Int} (hg : GOk g) (ho : OOk g o)
include hg ho
end

end Go.Sx

/- The bags of an order are a tree of bags, as wide as the order's separation; FnPathDecomp, plain. -/
namespace Go.Sx
section
variable {g : List (List Int)} {o : List Int} (hg : GOk g) (ho : OOk g o)
include hg ho

/-- the places of an order: every vertex has one -/
theorem place {v : Nat} (hv : v < g.length) : ∃ i, ∃ h : i < o.length, o[i] = (v : Int) := by
  have hsub : ∀ x ∈ o, x ∈ (List.range g.length).map Int.ofNat := fun x hx => by
    have := ho.rng x hx
    exact List.mem_map.2 ⟨x.toNat, List.mem_range.2 (by omega), by show ((x.toNat : Nat) : Int) = x; omega⟩
  have hm : (v : Int) ∈ o := by
    apply Classical.byContradiction
    intro hn
    have h1 : ((v : Int) :: o).Nodup := List.nodup_cons.2 ⟨hn, ho.nd⟩
    have := nodup_le h1 (m := (List.range g.length).map Int.ofNat) (fun x hx => by
      rcases List.mem_cons.1 hx with rfl | hx
      · exact List.mem_map.2 ⟨v, List.mem_range.2 hv, rfl⟩
      · exact hsub x hx)
    have := ho.len
    simp at *
    omega
  obtain ⟨i, hi, e⟩ := List.getElem_of_mem hm
  exact ⟨i, hi, e⟩

/-- the greatest of the first ones -/
def mx (f : Nat → Int) : Nat → Int
  | 0 => 0
  | n + 1 => max (mx f n) (f n)

end

end Go.Sx

/- The degeneracy: what both compute, and that no order's width is below it. Plain. -/
namespace Go.Sx
/-- a set of some of the first vertices, of that many -/
structure SQ (n : Nat) (s : Int) (k : Nat) : Prop where
  vs : VS s
  lt : ∀ v, has s v = true → v < n
  card : (elems s).length = k
theorem SQ.full {n : Nat} (h : n ≤ 16) : SQ n (full n) n := by
  refine ⟨full_vs n, fun v hv => by rw [has_full h] at hv; exact of_decide_eq_true hv, ?_⟩
  rw [← els_all (n := n) (by omega) (fun v hv => by rw [has_full h] at hv; exact of_decide_eq_true hv)]
  unfold els
  rw [List.length_map, List.filter_eq_self.2 (fun v hv => by rw [has_full h]; exact decide_eq_true (List.mem_range.1 hv)), List.length_range]
theorem SQ.ne {n k : Nat} {s : Int} (h : SQ n s (k + 1)) : elems s ≠ [] := fun e => by have := h.card; rw [e] at this; simp at this
theorem SQ.z {n : Nat} {s : Int} (h : SQ n s 0) : s = 0 := by
  rw [h.vs.eq_zero]
  intro v hv
  cases hc : has s v
  · rfl
  · have : (v : Int) ∈ elems s := (mem_elems_nat h.vs).2 hc
    have h0 := h.card
    rw [List.length_eq_zero_iff] at h0
    rw [h0] at this; simp at this
/-- the first least -/
theorem SQ.min {n k : Nat} {s : Int} (h : SQ n s (k + 1)) (f : Int → Int) : ∃ c : Nat, c < n ∧ has s c = true ∧ amin f (elems s) = ((c : Int), f c) ∧ ∀ v : Nat, has s v = true → f c ≤ f v := by
  obtain ⟨c, h1, h2, h3⟩ := amin_ok f h.ne (elems_nonneg s)
  obtain ⟨v, _, h5, rfl⟩ := mem_elems.1 h2
  exact ⟨v, h.lt v h5, h5, h1, fun w hw => h3 w ((mem_elems_nat h.vs).2 hw)⟩
theorem idx_nets {g : List (List Int)} {v : Nat} (h : v < g.length) : idx (g.map mk) (v : Int) = some (mk (row g v)) := by
  rw [idx_nat (by simpa using h), List.getElem_map, row_eq h]
end Go.Sx

/- Orders that take, again and again, who costs least: the program's and the reference's are one. Plain. -/
namespace Go.Sx
structure GQ (n i : Nat) (F o : List Int) (s : Int) : Prop where
  f : FOk F n
  left : SQ n s (n - i)
  len : o.length = i
  rng : ∀ x ∈ o, ∃ v : Nat, x = v ∧ v < n ∧ has s v = false
  nd : o.Nodup
theorem idx_F {F : List Int} {n v : Nat} (h : FOk F n) (hv : v < n) : idx F (v : Int) = some (F.getD v 0) := by
  have := h.len
  rw [idx_nat (by omega), getD_lt (by omega)]
end Go.Sx

/- The greatest cliques: the program finds each of them once. Plain. -/
namespace Go.Sx
/-- neighbours of each other -/
def CQ (F : List Int) (K : Int) : Prop := ∀ u w, has K u = true → has K w = true → u ≠ w → nb F u w = true
/-- and nobody more -/
def MX (F : List Int) (n : Nat) (K : Int) : Prop := CQ F K ∧ ∀ w, w < n → has K w = false → ∃ u, has K u = true ∧ nb F u w = false
/-- a set of vertices -/
def In (n : Nat) (K : Int) : Prop := VS K ∧ ∀ w, has K w = true → w < n
structure Tgt (F : List Int) (n : Nat) (C O K : Int) : Prop where
  ok : In n K
  mx : MX F n K
  sup : ∀ w, has C w = true → has K w = true
  sub : ∀ w, has K w = true → has C w = true ∨ has O w = true

theorem In.lt {n : Nat} {K : Int} (h : In n K) (hn : n ≤ 16) : 0 ≤ K ∧ K < 65536 := by
  obtain ⟨m, rfl, hm⟩ := h.1.nat
  refine ⟨by omega, ?_⟩
  have : m < 2 ^ 16 := by
    apply Nat.lt_pow_two_of_testBit
    intro i hi
    cases hc : m.testBit i
    · rfl
    · have := h.2 i (by rw [has_nat]; exact hc)
      omega
  omega
theorem masks_len {n : Nat} {l : List Int} (hn : n ≤ 16) (h : ∀ K ∈ l, In n K) (hd : l.Nodup) : l.length ≤ 65536 := by
  have := nodup_le (m := (List.range 65536).map Int.ofNat) hd (fun K hK => by
    have := (h K hK).lt hn
    exact List.mem_map.2 ⟨K.toNat, List.mem_range.2 (by omega), by show ((K.toNat : Nat) : Int) = K; omega⟩)
  simpa using this

structure BK (F : List Int) (n : Nat) (C O S : Int) : Prop where
  c : In n C
  o : In n O
  s : In n S
  cq : CQ F C
  cn : ∀ w, w < n → ((has O w = true ∨ has S w = true) ↔ ∀ u, has C u = true → nb F u w = true)
  dis : ∀ w, has O w = true → has S w = false

theorem BK.notin {F : List Int} {n : Nat} {C O S : Int} (hF : FOk F n) (h : BK F n C O S) {w : Nat} (hw : has O w = true) : has C w = false := by
  cases hc : has C w
  · rfl
  · have := (h.cn w (h.o.2 w hw)).1 (.inl hw) w hc
    rw [hF.irr w (h.o.2 w hw)] at this; cases this

theorem grow_ok {F : List Int} {n : Nat} (hn : n ≤ 16) (hF : FOk F n) : ∀ (fuel : Nat) (C O S : Int) (x4 : List Int), (elems O).length < fuel → BK F n C O S → x4.Nodup → (∀ K ∈ x4, In n K) → (∀ K ∈ x4, ¬ Tgt F n C O K) →
    ∃ y, D.impl_growCliquesR fuel F C O S x4 = some y ∧ ∃ R, y = x4 ++ R ∧ (x4 ++ R).Nodup ∧ ∀ K, K ∈ R ↔ Tgt F n C O K
  | 0, _, _, _, _, h, _, _, _, _ => by omega
  | fuel + 1, C, O, S, x4, hf, hB, hd, hi, ht => by
    have hlen := hF.len
    have hx4 := masks_len hn hi hd
    unfold D.impl_growCliquesR
    by_cases hO : O = 0
    · subst hO
      have e0 : ((0 : Int) == 0) = true := rfl
      rw [e0, cond_true]
      by_cases hS : S = 0
      · subst hS
        rw [e0, cond_true, appendD_ok (by simp; omega)]
        have hT : Tgt F n C 0 C := ⟨hB.c, ⟨hB.cq, fun w hw hc => by
          apply Classical.byContradiction
          intro hne
          have := (hB.cn w hw).2 (fun u hu => by
            cases h : nb F u w
            · exact absurd ⟨u, hu, h⟩ hne
            · rfl)
          simp [has_zero] at this⟩, fun w h => h, fun w h => .inl h⟩
        refine ⟨_, rfl, [C], rfl, ?_, fun K => ?_⟩
        · rw [List.nodup_append]
          refine ⟨hd, by simp, fun a ha b hb e => ?_⟩
          rw [List.mem_singleton] at hb
          subst hb; subst e
          exact ht a ha hT
        · rw [List.mem_singleton]
          constructor
          · rintro rfl; exact hT
          · intro h
            refine h.ok.1.ext hB.c.1 (fun v _ => ?_)
            rw [Bool.eq_iff_iff]
            refine ⟨fun hv => ?_, h.sup v⟩
            rcases h.sub v hv with h | h
            · exact h
            · rw [has_zero] at h; cases h
      · have e1 : (S == 0) = false := by simpa using hS
        rw [e1, cond_false]
        refine ⟨_, rfl, [], by simp, by simpa using hd, fun K => ?_⟩
        simp only [List.not_mem_nil, false_iff]
        intro h
        have hK : K = C := by
          refine h.ok.1.ext hB.c.1 (fun v _ => ?_)
          rw [Bool.eq_iff_iff]
          refine ⟨fun hv => ?_, h.sup v⟩
          rcases h.sub v hv with h | h
          · exact h
          · rw [has_zero] at h; cases h
        subst hK
        apply hS
        rw [hB.s.1.eq_zero]
        intro w hw
        cases hc : has S w
        · rfl
        · have hwn := hB.s.2 w hc
          have hcn := (hB.cn w hwn).1 (.inr hc)
          have hKw : has K w = false := by
            cases hk : has K w
            · rfl
            · have := hcn w hk
              rw [hF.irr w hwn] at this; cases this
          obtain ⟨u, h1, h2⟩ := h.mx.2 w hwn hKw
          rw [hcn u h1] at h2; cases h2
    · have e1 : (O == 0) = false := by simpa using hO
      rw [e1, cond_false, list_eq O hB.o.1, Option.bind_some]
      have hel := elems_len O
      -- the K of the first ones
      refine loop_then (fun st => ∃ i : Nat, st.2.2.2 = (i : Int) ∧ i ≤ (elems O).length ∧ VS st.1 ∧ VS st.2.1 ∧ (∀ w : Nat, has st.1 w = (has O w && decide ((w : Int) ∉ (elems O).take i))) ∧ (∀ w : Nat, has st.2.1 w = (has S w || decide ((w : Int) ∈ (elems O).take i))) ∧
          ∃ R, st.2.2.1 = x4 ++ R ∧ (x4 ++ R).Nodup ∧ ∀ K, K ∈ R ↔ Tgt F n C O K ∧ ∃ w : Nat, (w : Int) ∈ (elems O).take i ∧ has K w = true) (fun st => (elems O).length - st.2.2.2.toNat)
        (fun r => ∃ R, r = x4 ++ R ∧ (x4 ++ R).Nodup ∧ ∀ K, K ∈ R ↔ Tgt F n C O K) ?_ ⟨0, rfl, by omega, hB.o.1, hB.s.1, fun w => by simp, fun w => by simp, [], by simp, by simpa using hd, fun K => by simp⟩ (fun r hr => ⟨r, rfl, hr⟩)
      rintro ⟨o, s, acc, _⟩ ⟨i, rfl, hil, ho, hs, hho, hhs, R, rfl, hRn, hR⟩
      dsimp only at ho hs hho hhs hRn hR ⊢
      by_cases hlt : i < (elems O).length
      · obtain ⟨v, hv32, hv1, hv2⟩ := mem_elems.1 (List.getElem_mem hlt)
        have hvn := hB.o.2 v hv1
        have hvC := hB.notin hF hv1
        have htk : ∀ w : Nat, ((w : Int) ∈ (elems O).take (i + 1)) ↔ ((w : Int) ∈ (elems O).take i ∨ w = v) := fun w => by
          rw [List.take_succ_eq_append_getElem hlt, List.mem_append, hv2]; simp [Int.natCast_inj]
        have hvt : (v : Int) ∉ (elems O).take i := by rw [← hv2]; exact nodup_iff.1 (elems_inc O).nodup i hlt
        have hle : ∀ w : Nat, (w : Int) ∈ (elems O).take i → has O w = true := fun w hw => (mem_elems_nat hB.o.1).1 (List.mem_of_mem_take hw)
        simp only [dlt hlt, cond_true, idx_nat hlt, hv2, Option.bind_some, impl_one_eq, idx_F hF hvn]
        have hC' : ∀ w, has (ior .u32 C (ishl .u32 1 (v : Int))) w = (has C w || decide (w = v)) := fun w => by rw [has_ior hB.c.1 (VS.ishl _ _), has_one hv32]
        have hO' : ∀ w, has (iand .u32 o (F.getD v 0)) w = (has o w && nb F v w) := fun w => has_iand ho (hF.vs v hvn) w
        have hS' : ∀ w, has (iand .u32 s (F.getD v 0)) w = (has s w && nb F v w) := fun w => has_iand hs (hF.vs v hvn) w
        have hB' : BK F n (ior .u32 C (ishl .u32 1 (v : Int))) (iand .u32 o (F.getD v 0)) (iand .u32 s (F.getD v 0)) := by
          have hcnv := (hB.cn v hvn).1 (.inl hv1)
          refine ⟨⟨VS.ior _ _, fun w hw => ?_⟩, ⟨VS.iand _ _, fun w hw => ?_⟩, ⟨VS.iand _ _, fun w hw => ?_⟩, fun u w hu hw huw => ?_, fun w hw => ?_, fun w hw => ?_⟩
          · rw [hC', Bool.or_eq_true, decide_eq_true_eq] at hw
            rcases hw with h | rfl
            · exact hB.c.2 w h
            · exact hvn
          · rw [hO', Bool.and_eq_true] at hw; exact hF.lt v w hvn hw.2
          · rw [hS', Bool.and_eq_true] at hw; exact hF.lt v w hvn hw.2
          · rw [hC', Bool.or_eq_true, decide_eq_true_eq] at hu hw
            rcases hu with hu | rfl
            · rcases hw with hw | rfl
              · exact hB.cq u w hu hw huw
              · exact hcnv u hu
            · rcases hw with hw | rfl
              · exact hF.sym w u (hB.c.2 w hw) (hcnv w hw)
              · exact absurd rfl huw
          · rw [hO', hS', hho, hhs]
            simp only [Bool.and_eq_true, Bool.or_eq_true, decide_eq_true_eq]
            constructor
            · intro h u hu
              rw [hC', Bool.or_eq_true, decide_eq_true_eq] at hu
              have hos : has O w = true ∨ has S w = true := by
                rcases h with ⟨⟨h, _⟩, _⟩ | ⟨h | h, _⟩
                · exact .inl h
                · exact .inr h
                · exact .inl (hle w h)
              have hvw : nb F v w = true := by rcases h with ⟨_, h⟩ | ⟨_, h⟩ <;> exact h
              rcases hu with hu | rfl
              · exact (hB.cn w hw).1 hos u hu
              · exact hvw
            · intro h
              have hvw : nb F v w = true := h v (by rw [hC']; simp)
              have hos := (hB.cn w hw).2 (fun u hu => h u (by rw [hC', hu]; rfl))
              by_cases hm : (w : Int) ∈ (elems O).take i
              · exact .inr ⟨.inr hm, hvw⟩
              · rcases hos with hos | hos
                · exact .inl ⟨⟨hos, hm⟩, hvw⟩
                · exact .inr ⟨.inl hos, hvw⟩
          · rw [hO', hho] at hw
            simp only [Bool.and_eq_true, decide_eq_true_eq] at hw
            rw [hS', hhs, hB.dis w hw.1.1, decide_eq_false hw.1.2]; rfl
        have hfu : (elems (iand .u32 o (F.getD v 0))).length < fuel := by
          have h1 : ((v : Int) :: elems (iand .u32 o (F.getD v 0))).length ≤ (elems O).length := by
            refine nodup_le (List.nodup_cons.2 ⟨fun hc => ?_, (elems_inc _).nodup⟩) (fun x hx => ?_)
            · rw [mem_elems_nat (VS.iand _ _), hO', hF.irr v hvn] at hc; simp at hc
            · rcases List.mem_cons.1 hx with rfl | hx
              · exact (mem_elems_nat hB.o.1).2 hv1
              · obtain ⟨w, _, h2, rfl⟩ := mem_elems.1 hx
                rw [hO', hho] at h2
                simp only [Bool.and_eq_true] at h2
                exact (mem_elems_nat hB.o.1).2 h2.1.1
          rw [List.length_cons] at h1; omega
        have hsubT : ∀ K, Tgt F n (ior .u32 C (ishl .u32 1 (v : Int))) (iand .u32 o (F.getD v 0)) K → Tgt F n C O K ∧ has K v = true ∧ ∀ w : Nat, (w : Int) ∈ (elems O).take i → has K w = false := fun K hK => by
          refine ⟨⟨hK.ok, hK.mx, fun w hw => hK.sup w (by rw [hC', hw]; rfl), fun w hw => ?_⟩, hK.sup v (by rw [hC']; simp), fun w hw => ?_⟩
          · rcases hK.sub w hw with h | h
            · rw [hC', Bool.or_eq_true, decide_eq_true_eq] at h
              rcases h with h | rfl
              · exact .inl h
              · exact .inr hv1
            · rw [hO', hho] at h
              simp only [Bool.and_eq_true] at h
              exact .inr h.1.1
          · cases hk : has K w
            · rfl
            · exfalso
              rcases hK.sub w hk with h | h
              · rw [hC', Bool.or_eq_true, decide_eq_true_eq] at h
                rcases h with h | rfl
                · rw [hB.notin hF (hle w hw)] at h; cases h
                · exact hvt hw
              · rw [hO', hho] at h
                simp only [Bool.and_eq_true, decide_eq_true_eq] at h
                exact h.1.2 hw
        have hRi : ∀ K ∈ x4 ++ R, In n K := fun K hK => by
          rcases List.mem_append.1 hK with h | h
          · exact hi K h
          · exact ((hR K).1 h).1.ok
        obtain ⟨y, e2, R2, rfl, hn2, hm2⟩ := grow_ok hn hF fuel _ _ _ (x4 ++ R) hfu hB' hRn hRi (fun K hK hT => by
          obtain ⟨k1, k2, k3⟩ := hsubT K hT
          rcases List.mem_append.1 hK with h | h
          · exact ht K h k1
          · obtain ⟨_, w, hw1, hw2⟩ := (hR K).1 h
            rw [k3 w hw1] at hw2; cases hw2)
        rw [e2, Option.bind_some, wi (show i < 4611686018427387904 by omega)]
        refine ⟨_, rfl, ⟨i + 1, rfl, by omega, VS.iandNot _ _, VS.ior _ _, fun w => ?_, fun w => ?_, R ++ R2, by rw [List.append_assoc], by rw [← List.append_assoc]; exact hn2, fun K => ?_⟩, by dsimp only; omega⟩
        · dsimp only
          rw [has_iandNot ho (VS.ishl _ _), has_one hv32, hho]
          have : decide ((w : Int) ∉ (elems O).take (i + 1)) = (decide ((w : Int) ∉ (elems O).take i) && !decide (w = v)) := by
            rw [Bool.eq_iff_iff]; simp only [decide_eq_true_eq, Bool.and_eq_true, Bool.not_eq_true', decide_eq_false_iff_not, htk, not_or]
          rw [this, Bool.and_assoc]
        · dsimp only
          rw [has_ior hs (VS.ishl _ _), has_one hv32, hhs]
          have : decide ((w : Int) ∈ (elems O).take (i + 1)) = (decide ((w : Int) ∈ (elems O).take i) || decide (w = v)) := by
            rw [Bool.eq_iff_iff]; simp only [decide_eq_true_eq, Bool.or_eq_true, htk]
          rw [this, Bool.or_assoc]
        · rw [List.mem_append, hR, hm2]
          constructor
          · rintro (⟨h1, w, hw1, hw2⟩ | h)
            · exact ⟨h1, w, (htk w).2 (.inl hw1), hw2⟩
            · obtain ⟨k1, k2, _⟩ := hsubT K h
              exact ⟨k1, v, (htk v).2 (.inr rfl), k2⟩
          · rintro ⟨h1, w, hw1, hw2⟩
            by_cases hex : ∃ w : Nat, (w : Int) ∈ (elems O).take i ∧ has K w = true
            · exact .inl ⟨h1, hex⟩
            · right
              have hno : ∀ w : Nat, (w : Int) ∈ (elems O).take i → has K w = false := fun w hw => by
                cases hk : has K w
                · rfl
                · exact absurd ⟨w, hw, hk⟩ hex
              have hKv : has K v = true := by
                rcases (htk w).1 hw1 with h | rfl
                · rw [hno w h] at hw2; cases hw2
                · exact hw2
              refine ⟨h1.ok, h1.mx, fun u hu => ?_, fun u hu => ?_⟩
              · rw [hC', Bool.or_eq_true, decide_eq_true_eq] at hu
                rcases hu with hu | rfl
                · exact h1.sup u hu
                · exact hKv
              · rw [hC', hO', hho]
                simp only [Bool.or_eq_true, Bool.and_eq_true, decide_eq_true_eq]
                by_cases huv : u = v
                · exact .inl (.inr huv)
                · rcases h1.sub u hu with h | h
                  · exact .inl (.inl h)
                  · refine .inr ⟨⟨h, fun hm => ?_⟩, h1.mx.1 v u hKv hu (fun e => huv e.symm)⟩
                    rw [hno u hm] at hu; cases hu
      · obtain rfl : i = (elems O).length := by omega
        simp only [dnlt, cond_false]
        refine ⟨_, rfl, R, rfl, hRn, fun K => ?_⟩
        rw [hR, List.take_length]
        constructor
        · exact fun h => h.1
        · intro h
          refine ⟨h, ?_⟩
          -- the set is not C: there is one more
          obtain ⟨b, hb32, hb1, hb2, _⟩ := least_spec hB.o.1 hO
          have hbn := hB.o.2 b hb1
          apply Classical.byContradiction
          intro hne
          have hKC : ∀ w, has K w = true → has C w = true := fun w hw => by
            rcases h.sub w hw with h | h
            · exact h
            · exact absurd ⟨w, (mem_elems_nat hB.o.1).2 h, hw⟩ hne
          have hKb : has K b = false := by
            cases hk : has K b
            · rfl
            · have := hB.notin hF hb1
              rw [hKC b hk] at this; cases this
          obtain ⟨u, h1, h2⟩ := h.mx.2 b hbn hKb
          have := (hB.cn b hbn).1 (.inl hb1) u (hKC u h1)
          rw [this] at h2; cases h2

theorem recFuel_33 : 33 ≤ recFuel := by have := recFuel_big; omega
/-- the program's list of the greatest cliques -/
theorem cliquesOf_ok {F : List Int} {n : Nat} (h1 : 1 ≤ n) (hn : n ≤ 16) (hF : FOk F n) : ∃ l, D.impl_cliquesOf F = some l ∧ l.Pairwise (fun a b => lkey a < lkey b) ∧ ∀ K, K ∈ l ↔ In n K ∧ MX F n K := by
  have hlen := hF.len
  unfold D.impl_cliquesOf D.impl_growCliques
  rw [nets_all_full, Option.bind_some, hlen]
  have hel := elems_len (full n)
  have h33 := recFuel_33
  obtain ⟨y, e, R, hy, hd, hR⟩ := grow_ok hn hF recFuel 0 (full n) 0 [] (by omega) ⟨⟨VS.zero, fun w hw => by rw [has_zero] at hw; cases hw⟩, ⟨full_vs n, fun w hw => by rw [has_full hn] at hw; exact of_decide_eq_true hw⟩, ⟨VS.zero, fun w hw => by rw [has_zero] at hw; cases hw⟩,
    fun u w hu => (by rw [has_zero] at hu; cases hu), fun w hw => ⟨fun _ u hu => (by rw [has_zero] at hu; cases hu), fun _ => .inl (by rw [has_full hn]; exact decide_eq_true hw)⟩, fun w _ => has_zero w⟩ (by simp) (by simp) (by simp)
  rw [List.nil_append] at hd hy
  subst hy
  have hT : ∀ K, Tgt F n 0 (full n) K ↔ In n K ∧ MX F n K := fun K => ⟨fun h => ⟨h.ok, h.mx⟩, fun ⟨h1, h2⟩ => ⟨h1, h2, fun w hw => (by rw [has_zero] at hw; cases hw), fun w hw => .inr (by rw [has_full hn]; exact decide_eq_true (h1.2 w hw))⟩⟩
  rw [e, Option.bind_some, se_impl_vset_impl_compareSets]
  obtain ⟨l', e2, hp, hs⟩ := sorted_rise byLex (fun x y => lkey_inj) y (fun K hK => ((hT K).1 ((hR K).1 hK)).1.1) hd (by
    have := masks_len hn (fun K hK => ((hT K).1 ((hR K).1 hK)).1) hd
    omega)
  refine ⟨l', by rw [show DG.Sort D.impl_compareSets y = some l' from e2]; rfl, hs, fun K => ?_⟩
  rw [hp.mem_iff, hR, hT]

theorem rise_nodup {k : Int → Int} {l : List Int} (h : l.Pairwise (fun a b => k a < k b)) : l.Nodup := List.Pairwise.imp (fun h e => by subst e; omega) h

/-- the complement's neighbours -/
theorem complement_ok {F : List Int} {n : Nat} (hn : n ≤ 16) (hF : FOk F n) : ∃ F', D.impl_complement F = some F' ∧ FOk F' n ∧ ∀ u w, u < n → nb F' u w = (decide (w < n) && !nb F u w && !decide (w = u)) := by
  have hlen := hF.len
  unfold D.impl_complement
  have h1 := loop_to (k := fun l : List Int => some l) (step := (fun (s_78 : (List Int) × Int) => match s_78 with | (l_81, x_86) => cond (decide (x_86 < (F.length : Int))) ((idx F x_86).bind fun e_127 => (D.impl_nets_all F).bind fun y_133 => (D.impl_one x_86).bind fun y_140 => (appendD l_81 ([(iandNot .u32 (iandNot .u32 y_133 e_127) y_140)] : List Int)).bind fun l_151 => some (.inl (l_151, (IntKind.i64.wrap (x_86 + 1))))) (some (.inr l_81)))) (s0 := ([], 0))
    (fun i => ((List.range i).map (fun v => iandNot .u32 (iandNot .u32 (full n) (F.getD v 0)) (ishl .u32 1 ((v : Nat) : Int))), (i : Int))) n ((List.range n).map (fun v => iandNot .u32 (iandNot .u32 (full n) (F.getD v 0)) (ishl .u32 1 ((v : Nat) : Int)))) (by simp) (fun i hi => by
      simp only [hlen, dlt hi, cond_true, idx_F hF hi, Option.bind_some, nets_all_full, hlen, impl_one_eq, wi (show i < 4611686018427387904 by omega)]
      rw [appendD_ok (by simp; omega), Option.bind_some, List.range_succ, List.map_append]; rfl) (by
      simp only [hlen, dnlt, cond_false])
  have hget : ∀ u, u < n → ((List.range n).map (fun v => iandNot .u32 (iandNot .u32 (full n) (F.getD v 0)) (ishl .u32 1 ((v : Nat) : Int)))).getD u 0 = iandNot .u32 (iandNot .u32 (full n) (F.getD u 0)) (ishl .u32 1 (u : Int)) := fun u hu => by
    rw [getD_lt (by simpa using hu)]; simp
  have hnb : ∀ u w, u < n → nb ((List.range n).map (fun v => iandNot .u32 (iandNot .u32 (full n) (F.getD v 0)) (ishl .u32 1 ((v : Nat) : Int)))) u w = (decide (w < n) && !nb F u w && !decide (w = u)) := fun u w hu => by
    unfold nb
    rw [hget u hu, has_iandNot (VS.iandNot _ _) (VS.ishl _ _), has_iandNot (full_vs n) (hF.vs u hu), has_one (by omega), has_full hn]
  refine ⟨_, h1, ⟨by simp, fun u hu => by rw [hget u hu]; exact VS.iandNot _ _, fun u w hu h => ?_, fun u hu => ?_, fun u w hu h => ?_⟩, hnb⟩
  · rw [hnb u w hu] at h
    simp only [Bool.and_eq_true, decide_eq_true_eq] at h
    exact h.1.1
  · rw [hnb u u hu]; simp
  · rw [hnb u w hu] at h
    simp only [Bool.and_eq_true, decide_eq_true_eq, Bool.not_eq_true', decide_eq_false_iff_not] at h
    rw [hnb w u h.1.1]
    have h2 : nb F w u = false := by
      cases hc : nb F w u
      · rfl
      · have := hF.sym w u h.1.1 hc
        rw [this] at h; simp at h
    have h3 : decide (u < n) = true := decide_eq_true hu
    have h4 : decide (u = w) = false := by simp; exact fun e => h.2 e.symm
    rw [h2, h3, h4]; rfl
end Go.Sx

/- Sets as 64-bit numbers, as the reference has them. Plain. -/
namespace Go.Sx
/-- a set of at most 16 -/
def S16 (s : Int) : Prop := 0 ≤ s ∧ s < 65536
theorem S16.vs {s : Int} (h : S16 s) : VS s := ⟨h.1, by have := h.2; omega⟩
theorem S16.nat {s : Int} (h : S16 s) : ∃ n : Nat, s = n ∧ n < 65536 := ⟨s.toNat, by have := h.1; omega, by have := h.1; have := h.2; omega⟩
theorem S16.lt {s : Int} (h : S16 s) {v : Nat} (hv : has s v = true) : v < 16 := by
  obtain ⟨n, rfl, hn⟩ := h.nat
  rw [has_nat] at hv
  have := Nat.ge_two_pow_of_testBit hv
  apply Classical.byContradiction
  intro hc
  have h2 : 2 ^ 16 ≤ 2 ^ v := Nat.pow_le_pow_right (by omega) (by omega)
  omega
theorem In.s16 {n : Nat} {K : Int} (h : In n K) (hn : n ≤ 16) : S16 K := h.lt hn
theorem In.of {n i : Nat} (h : i < 2 ^ n) (hn : n ≤ 16) : In n (i : Int) := by
  have : 2 ^ n ≤ 2 ^ 16 := Nat.pow_le_pow_right (by omega) hn
  refine ⟨⟨by omega, by omega⟩, fun w hw => ?_⟩
  rw [has_nat] at hw
  have := Nat.ge_two_pow_of_testBit hw
  apply Classical.byContradiction
  intro hc
  have h2 : 2 ^ n ≤ 2 ^ w := Nat.pow_le_pow_right (by omega) (by omega)
  omega
theorem ofInt64_nat (n : Nat) (h : n < 18446744073709551616) : (BitVec.ofInt 64 (n : Int)).toNat = n := by
  rw [BitVec.toNat_ofInt]; omega
theorem and64 {a b : Nat} (ha : a < 4294967296) (hb : b < 4294967296) : iand .i64 (a : Int) (b : Int) = ((a &&& b : Nat) : Int) := by
  have hw : a &&& b < 4294967296 := Nat.and_lt_two_pow (n := 32) _ hb
  show IntKind.i64.wrap (((BitVec.ofInt 64 (a : Int) &&& BitVec.ofInt 64 (b : Int)).toNat : Nat) : Int) = _
  rw [BitVec.toNat_and, ofInt64_nat a (by omega), ofInt64_nat b (by omega), w64 (by omega) (by omega)]
theorem or64 {a b : Nat} (ha : a < 4294967296) (hb : b < 4294967296) : ior .i64 (a : Int) (b : Int) = ((a ||| b : Nat) : Int) := by
  have hw : a ||| b < 4294967296 := Nat.or_lt_two_pow (n := 32) ha hb
  show IntKind.i64.wrap (((BitVec.ofInt 64 (a : Int) ||| BitVec.ofInt 64 (b : Int)).toNat : Nat) : Int) = _
  rw [BitVec.toNat_or, ofInt64_nat a (by omega), ofInt64_nat b (by omega), w64 (by omega) (by omega)]
theorem xor64 {a b : Nat} (ha : a < 4294967296) (hb : b < 4294967296) : ixor .i64 (a : Int) (b : Int) = ((a ^^^ b : Nat) : Int) := by
  have hw : a ^^^ b < 4294967296 := Nat.xor_lt_two_pow (n := 32) ha hb
  show IntKind.i64.wrap (((BitVec.ofInt 64 (a : Int) ^^^ BitVec.ofInt 64 (b : Int)).toNat : Nat) : Int) = _
  rw [BitVec.toNat_xor, ofInt64_nat a (by omega), ofInt64_nat b (by omega), w64 (by omega) (by omega)]
/-- on sets both widths are one -/
theorem and6432 {a b : Int} (ha : VS a) (hb : VS b) : iand .i64 a b = iand .u32 a b := by
  obtain ⟨m, rfl, hm⟩ := ha.nat; obtain ⟨n, rfl, hn⟩ := hb.nat
  rw [and64 hm hn, iand_nat hm hn]
theorem or6432 {a b : Int} (ha : VS a) (hb : VS b) : ior .i64 a b = ior .u32 a b := by
  obtain ⟨m, rfl, hm⟩ := ha.nat; obtain ⟨n, rfl, hn⟩ := hb.nat
  rw [or64 hm hn, ior_nat hm hn]
theorem shl64 {v : Nat} (hv : v < 32) : ishl .i64 1 (v : Int) = ishl .u32 1 (v : Int) := by
  rw [one_eq hv]
  have h : (2 : Nat) ^ v < 2 ^ 32 := Nat.pow_lt_pow_right (by omega) hv
  have h' : (2 : Nat) ^ 32 = 4294967296 := by decide
  rw [h'] at h
  show IntKind.i64.wrap (1 * 2 ^ (min ((v : Int)).toNat 64)) = _
  rw [show min ((v : Int)).toNat 64 = v by simp; omega, Int.one_mul]
  have e : ((2 ^ v : Nat) : Int) = (2 : Int) ^ v := by simp
  rw [← e]
  generalize 2 ^ v = p at h ⊢
  rw [w64 (by omega) (by omega)]
theorem shr64 {s : Int} (h : VS s) (v : Nat) (hv : v < 64) : ishr .i64 s (v : Int) = ((s.toNat >>> v : Nat) : Int) := by
  obtain ⟨m, rfl, hm⟩ := h.nat
  show Int.fdiv (m : Int) (2 ^ (min ((v : Int)).toNat 64)) = _
  rw [show min ((v : Int)).toNat 64 = v by simp; omega]
  have e : ((2 ^ v : Nat) : Int) = (2 : Int) ^ v := by simp
  rw [← e, Int.fdiv_eq_ediv_of_nonneg _ (Int.natCast_nonneg _), Nat.shiftRight_eq_div_pow]
  simp
theorem bit64 {s : Int} (h : VS s) {v : Nat} (hv : v < 64) : (iand .i64 (ishr .i64 s (v : Int)) 1 == 1) = has s v := by
  rw [shr64 h v hv]
  have hs : s.toNat >>> v < 4294967296 := by
    obtain ⟨m, rfl, hm⟩ := h.nat
    rw [Nat.shiftRight_eq_div_pow]
    exact Nat.lt_of_le_of_lt (Nat.div_le_self _ _) hm
  rw [show (1 : Int) = ((1 : Nat) : Int) from rfl, and64 hs (by omega), has, Nat.testBit]
  rw [Nat.and_comm]
  have h1 : 1 &&& (s.toNat >>> v) = 0 ∨ 1 &&& (s.toNat >>> v) = 1 := by
    rw [Nat.and_comm, Nat.and_one_is_mod]; omega
  rcases h1 with e | e <;> rw [e] <;> rfl
theorem uw {v : Nat} (hv : v < 1000) : IntKind.u64.wrap (v : Int) = (v : Int) := wu64 (by omega) (by omega)
theorem unneg (v : Nat) : decide ((v : Int) < 0) = false := by simp

theorem l25Bits_eq {g : List (List Int)} (hg : GOk g) : D.spec_l25Bits g = some (g.map mk) := by
  have h16 := hg.n16
  unfold D.spec_l25Bits
  refine (loop_to (fun i => ((g.take i).map mk, (i : Int))) g.length (g.map mk) (by simp) (fun i hi => ?_) ?_).trans rfl
  · have hr := hg.row_len hi
    simp only [dlt hi, cond_true]
    refine (loop_to (fun k => (mk ((row g i).take k), (k : Int))) (row g i).length (mk (row g i)) (by simp [mk]) (fun k hk => ?_) ?_).trans ?_
    · obtain ⟨w, e1, hw, _⟩ := hg.mem hi (List.getElem_mem hk)
      simp only [idx_row hi, Option.bind_some, dlt hk, cond_true, idx_nat hk, e1, uw (show w < 1000 by omega), unneg, cond_false, wi (show k < 4611686018427387904 by omega)]
      rw [shl64 (show w < 32 by omega), or6432 (VS.mk _) (VS.ishl _ _)]
      have : mk ((row g i).take (k + 1)) = ior .u32 (mk ((row g i).take k)) (ishl .u32 1 (w : Int)) := by
        unfold mk
        rw [List.take_succ_eq_append_getElem hk, List.foldl_append, e1]; rfl
      rw [this]
    · simp only [idx_row hi, Option.bind_some, dnlt, cond_false, List.take_length]
    · rw [appendD_ok (by simp; omega), Option.bind_some, wi (show i < 4611686018427387904 by omega), List.take_succ_eq_append_getElem hi, List.map_append, ← row_eq hi]; rfl
  · simp only [dnlt, cond_false, List.take_length]
theorem pow_full {n : Nat} (hn : n ≤ 16) : full n = ((2 ^ n - 1 : Nat) : Int) := by
  have key : ∀ k : Fin 17, full k.val = ((2 ^ k.val - 1 : Nat) : Int) := by decide +kernel
  exact key ⟨n, by omega⟩
theorem l25All_eq {g : List (List Int)} (hg : GOk g) : D.spec_l25All g = some (full g.length) := by
  have h16 := hg.n16
  unfold D.spec_l25All
  rw [uw (by omega), unneg, cond_false, shl64 (by omega), one_eq (by omega), pow_full h16]
  have h : (2 : Nat) ^ g.length ≤ 2 ^ 16 := Nat.pow_le_pow_right (by omega) h16
  have h0 : 0 < (2 : Nat) ^ g.length := Nat.pow_pos (by omega)
  rw [w64 (by omega) (by omega)]
  congr 1; omega

def stB (g : List (List Int)) (b : Int) : Bool := (List.range g.length).all fun v => !(has b v && (iand .u32 (mk (row g v)) b != 0))
theorem l25Stable_eq {g : List (List Int)} (hg : GOk g) {b : Int} (hb : VS b) : D.spec_l25Stable (g.map mk) b = some (stB g b) := by
  have h16 := hg.n16
  unfold D.spec_l25Stable
  refine (loop_ck g.length (fun v => !(has b v && (iand .u32 (mk (row g v)) b != 0))) (.inl ()) (.inr false) (fun v hv => ?_) ?_).trans ?_
  · have e1 : decide ((v : Int) < ((g.map mk).length : Int)) = true := by rw [List.length_map]; exact dlt hv
    simp only [e1, cond_true, uw (show v < 1000 by omega), unneg, cond_false, bit64 hb (show v < 64 by omega), idx_nets hv, Option.bind_some, and6432 (VS.mk _) hb, wi (show v < 4611686018427387904 by omega)]
    cases has b v
    · simp
    · simp only [cond_true, Option.bind_some, Bool.true_and]
      cases (iand .u32 (mk (row g v)) b != 0) <;> rfl
  · have e1 : decide ((g.length : Int) < ((g.map mk).length : Int)) = false := by rw [List.length_map]; exact dnlt
    simp only [e1, cond_false]
  · unfold stB
    cases (List.range g.length).all fun v => !(has b v && (iand .u32 (mk (row g v)) b != 0)) <;> rfl
theorem stB_iff {g : List (List Int)} (hg : GOk g) {b : Int} (hb : In g.length b) : stB g b = true ↔ ∀ u w, has b u = true → has b w = true → ¬ adj g u w := by
  have h16 := hg.n16
  unfold stB
  rw [all_forall]
  constructor
  · intro h u w hu hw ha
    have hu' := hb.2 u hu
    have := h u hu'
    rw [hu] at this
    simp only [Bool.true_and, Bool.not_eq_true', bne_eq_false_iff_eq] at this
    rw [(VS.iand _ _).eq_zero] at this
    have hw' := hb.2 w hw
    have h2 := this w (by omega)
    rw [has_iand (VS.mk _) hb.1, hw, has_mk (fun x hx => by have := (hg.rows u hu').2 x hx; omega)] at h2
    simp only [Bool.and_true, decide_eq_false_iff_not] at h2
    exact h2 ha
  · intro h v hv
    cases hc : has b v with
    | false => rfl
    | true =>
      simp only [Bool.true_and, Bool.not_eq_true', bne_eq_false_iff_eq]
      rw [(VS.iand _ _).eq_zero]
      intro w hw
      rw [has_iand (VS.mk _) hb.1, has_mk (fun x hx => by have := (hg.rows v hv).2 x hx; omega)]
      cases hw2 : has b w with
      | false => simp
      | true =>
        have : (w : Int) ∉ row g v := h v w hc hw2
        simp [this]

def nearF (g : List (List Int)) (b : Int) : Nat → Int
  | 0 => b
  | v + 1 => if has b v then ior .u32 (nearF g b v) (mk (row g v)) else nearF g b v
theorem nearF_vs (g : List (List Int)) {b : Int} (hb : VS b) : ∀ n, VS (nearF g b n)
  | 0 => hb
  | n + 1 => by
    unfold nearF
    split
    · exact VS.ior _ _
    · exact nearF_vs g hb n
theorem has_nearF {g : List (List Int)} (hg : GOk g) {b : Int} (hb : VS b) (w : Nat) : ∀ n, n ≤ g.length → (has (nearF g b n) w = true ↔ has b w = true ∨ ∃ v, v < n ∧ has b v = true ∧ adj g v w)
  | 0, _ => by simp [nearF]
  | n + 1, hn => by
    have h16 := hg.n16
    have ih := has_nearF hg hb w n (by omega)
    unfold nearF
    by_cases hc : has b n = true
    · rw [if_pos hc, has_ior (nearF_vs g hb n) (VS.mk _), Bool.or_eq_true, ih, has_mk (fun x hx => by have := (hg.rows n (by omega)).2 x hx; omega), decide_eq_true_eq]
      constructor
      · rintro ((h | ⟨v, h1, h2⟩) | h)
        · exact .inl h
        · exact .inr ⟨v, by omega, h2⟩
        · exact .inr ⟨n, by omega, hc, h⟩
      · rintro (h | ⟨v, h1, h2, h3⟩)
        · exact .inl (.inl h)
        · by_cases e : v = n
          · subst e; exact .inr h3
          · exact .inl (.inr ⟨v, by omega, h2, h3⟩)
    · rw [if_neg hc, ih]
      constructor
      · rintro (h | ⟨v, h1, h2⟩)
        · exact .inl h
        · exact .inr ⟨v, by omega, h2⟩
      · rintro (h | ⟨v, h1, h2, h3⟩)
        · exact .inl h
        · by_cases e : v = n
          · subst e; exact absurd h2 hc
          · exact .inr ⟨v, by omega, h2, h3⟩

/-! ### how many; the lesser -/
theorem lowbits64 {s : Int} (h : VS s) (h0 : s ≠ 0) : iand .i64 s (IntKind.i64.wrap (s - 1)) = iand .u32 s (IntKind.u32.wrap (s - 1)) := by
  obtain ⟨m, rfl, hm⟩ := h.nat
  have hm0 : m ≠ 0 := by omega
  have e1 : IntKind.i64.wrap ((m : Int) - 1) = ((m - 1 : Nat) : Int) := by rw [w64 (by omega) (by omega)]; omega
  have e2 : IntKind.u32.wrap ((m : Int) - 1) = ((m - 1 : Nat) : Int) := by rw [wrap32]; omega
  rw [e1, e2, and64 hm (by omega), iand_nat hm (by omega)]
theorem l25Many_eq {s : Int} (h : VS s) : D.spec_l25Many s = some ((elems s).length : Int) := by
  have hel := elems_len s
  unfold D.spec_l25Many
  obtain ⟨y, hy, hq⟩ := loop_then (step := (fun (s_10 : Int × Int) => match s_10 with | (x_13, x_14) => cond (decide ((0 : Int) < x_13)) (some (.inl ((iand .i64 x_13 (IntKind.i64.wrap (x_13 - 1))), (IntKind.i64.wrap (x_14 + 1))))) (some (.inr x_14)))) (s := (s, 0)) (k := fun x => some x) (Q := fun y => y = ((elems s).length : Int))
    (fun st => VS st.1 ∧ ∃ c : Nat, st.2 = (c : Int) ∧ c + (elems st.1).length = (elems s).length) (fun st => (elems st.1).length) (fun r => r = ((elems s).length : Int)) (by
      rintro ⟨x, _⟩ ⟨hx, c, rfl, hc⟩
      dsimp only at hx hc ⊢
      by_cases h0 : x = 0
      · subst h0
        rw [elems_zero] at hc
        simp only [List.length_nil, Nat.add_zero] at hc
        have e : decide ((0 : Int) < 0) = false := rfl
        rw [e, cond_false]
        exact ⟨_, rfl, by show (c : Int) = _; omega⟩
      · have e : decide ((0 : Int) < x) = true := by have := hx.1; simp; omega
        obtain ⟨k, hk, h1, h2, _, h3⟩ := least_spec hx h0
        have he := elems_least hk h1 h2 h3
        have hl : (elems x).length = (elems (iand .u32 x (IntKind.u32.wrap (x - 1)))).length + 1 := by rw [he]; rfl
        rw [e, cond_true, lowbits64 hx h0, wi (show c < 4611686018427387904 by omega)]
        exact ⟨_, rfl, ⟨VS.iand _ _, c + 1, rfl, by dsimp only; omega⟩, by dsimp only; omega⟩) ⟨h, 0, rfl, by simp⟩ (fun r hr => ⟨r, rfl, hr⟩)
  rw [hy, hq]

theorem low64 {m : Nat} (h : m < 4294967296) (h0 : m ≠ 0) : ∃ k : Nat, k < 32 ∧ m.testBit k = true ∧ (∀ v, v < k → m.testBit v = false) ∧ iand .i64 (m : Int) (IntKind.i64.wrap (0 - (m : Int))) = ((2 ^ k : Nat) : Int) := by
  obtain ⟨q, hq, hk64⟩ := Lib.ctzFrom_spec 64 m (by omega) (by omega)
  obtain ⟨hl, _⟩ := Lib.lowest_bit 64 m h0 (by omega)
  have hc : Lib.ctz 64 m = Lib.ctzFrom 64 m := by unfold Lib.ctz; rw [if_neg h0]
  rw [hc] at hl
  generalize Lib.ctzFrom 64 m = k at *
  have hpos : 0 < 2 ^ k := Nat.pow_pos (by omega)
  have hb : ∀ v, m.testBit v = (decide (v ≥ k) && (2 * q + 1).testBit (v - k)) := fun v => by rw [hq, Nat.mul_comm, Nat.testBit_mul_two_pow, Bool.and_comm]
  have hkb : m.testBit k = true := by rw [hb]; simp
  have hk : k < 32 := by
    have := Nat.ge_two_pow_of_testBit hkb
    apply Classical.byContradiction
    intro hc
    have h2 : 2 ^ 32 ≤ 2 ^ k := Nat.pow_le_pow_right (by omega) (by omega)
    omega
  refine ⟨k, hk, hkb, fun v hv => by rw [hb]; simp; intro hc; omega, ?_⟩
  have hpk : 2 ^ k < 2 ^ 32 := Nat.pow_lt_pow_right (by omega) hk
  rw [w64 (by omega) (by omega)]
  show IntKind.i64.wrap (((BitVec.ofInt 64 (m : Int) &&& BitVec.ofInt 64 (0 - (m : Int))).toNat : Nat) : Int) = _
  have e : (BitVec.ofInt 64 (0 - (m : Int))).toNat = 2 ^ 64 - m := by rw [BitVec.toNat_ofInt]; omega
  rw [BitVec.toNat_and, ofInt64_nat m (by omega), e, hl, w64 (by omega) (by omega)]
/-- a set stands ahead of another one of as many -/
def Ahead (a b : Int) : Prop := ∃ v, has a v = true ∧ has b v = false ∧ ∀ u, u < v → has a u = has b u
theorem l25Less_eq {a b : Int} (ha : VS a) (hb : VS b) : ∃ r, D.spec_l25Less a b = some r ∧ (r = true ↔ Ahead a b) := by
  obtain ⟨m, rfl, hm⟩ := ha.nat; obtain ⟨n, rfl, hn⟩ := hb.nat
  unfold D.spec_l25Less
  rw [xor64 hm hn]
  refine ⟨_, rfl, ?_⟩
  have hx : m ^^^ n < 4294967296 := Nat.xor_lt_two_pow (n := 32) hm hn
  by_cases h0 : m ^^^ n = 0
  · rw [h0]
    have hmn : m = n := Nat.eq_of_testBit_eq fun i => by
      have := congrArg (fun z => z.testBit i) h0
      simp only [Nat.testBit_xor, Nat.zero_testBit] at this
      cases h1 : m.testBit i <;> cases h2 : n.testBit i <;> simp_all
    have e : iand .i64 ((m : Nat) : Int) (iand .i64 ((0 : Nat) : Int) (IntKind.i64.wrap (0 - ((0 : Nat) : Int)))) = 0 := by
      have : iand .i64 ((0 : Nat) : Int) (IntKind.i64.wrap (0 - ((0 : Nat) : Int))) = ((0 : Nat) : Int) := by decide
      rw [this, and64 hm (by omega), Nat.and_zero]; rfl
    rw [e]
    simp only [bne_self_eq_false, Bool.false_eq_true, false_iff]
    rintro ⟨v, h1, h2, _⟩
    rw [hmn, h2] at h1; cases h1
  · obtain ⟨k, hk, k1, k2, k3⟩ := low64 hx h0
    have hpk : 2 ^ k < 2 ^ 32 := Nat.pow_lt_pow_right (by omega) hk
    rw [k3, and64 hm (by omega), bne_iff_ne]
    have hne : ((m &&& 2 ^ k : Nat) : Int) ≠ 0 ↔ m.testBit k = true := by
      constructor
      · intro h
        cases hc : m.testBit k
        · exfalso
          apply h
          have : m &&& 2 ^ k = 0 := Nat.eq_of_testBit_eq fun i => by
            rw [Nat.testBit_and, Nat.testBit_two_pow, Nat.zero_testBit]
            by_cases e : k = i
            · subst e; simp [hc]
            · simp [e]
          rw [this]; rfl
        · rfl
      · intro h h2
        have h3 : m &&& 2 ^ k = 0 := by omega
        have := congrArg (fun z => z.testBit k) h3
        simp only [Nat.testBit_and, Nat.testBit_two_pow, Nat.zero_testBit, h] at this
        simp at this
    rw [hne]
    rw [Nat.testBit_xor] at k1
    have hag : ∀ v, v < k → m.testBit v = n.testBit v := fun v hv => by
      have := k2 v hv
      rw [Nat.testBit_xor] at this
      cases h1 : m.testBit v <;> cases h2 : n.testBit v <;> simp_all
    constructor
    · intro h
      refine ⟨k, by rw [has_nat]; exact h, ?_, fun u hu => by rw [has_nat, has_nat]; exact hag u hu⟩
      rw [has_nat]
      rw [h] at k1
      cases hc : n.testBit k
      · rfl
      · rw [hc] at k1; cases k1
    · rintro ⟨v, h1, h2, h3⟩
      rw [has_nat] at h1 h2
      rcases Nat.lt_trichotomy v k with c | c | c
      · have := hag v c; rw [h1, h2] at this; cases this
      · subst c; exact h1
      · have := h3 k c
        rw [has_nat, has_nat] at this
        rw [this] at k1
        simp at k1
theorem cz_ahead : ∀ {x y : List Int}, Inc x → Inc y → x.length = y.length → (cz x y < 0 ↔ ∃ v ∈ x, v ∉ y ∧ ∀ u, u < v → (u ∈ x ↔ u ∈ y))
  | [], [], _, _, _ => by simp [cz]
  | [], _ :: _, _, _, h => by simp at h
  | _ :: _, [], _, _, h => by simp at h
  | a :: x, b :: y, h1, h2, hl => by
    have g1 := List.pairwise_cons.1 h1; have g2 := List.pairwise_cons.1 h2
    unfold cz
    by_cases hab : a < b
    · rw [if_pos hab]
      constructor
      · intro _
        refine ⟨a, by simp, fun hm => ?_, fun u hu => ⟨fun hm => ?_, fun hm => ?_⟩⟩
        · rcases List.mem_cons.1 hm with e | e
          · omega
          · have := g2.1 a e; omega
        · rcases List.mem_cons.1 hm with e | e
          · omega
          · have := g1.1 u e; omega
        · rcases List.mem_cons.1 hm with e | e
          · omega
          · have := g2.1 u e; omega
      · intro _; omega
    · rw [if_neg hab]
      by_cases hba : b < a
      · rw [if_pos hba]
        constructor
        · intro h; omega
        · rintro ⟨v, hv, hn, hag⟩
          have hva : a ≤ v := by
            rcases List.mem_cons.1 hv with e | e
            · omega
            · have := g1.1 v e; omega
          have := (hag b (by omega)).2 (by simp)
          rcases List.mem_cons.1 this with e | e
          · omega
          · have := g1.1 b e; omega
      · rw [if_neg hba]
        obtain rfl : a = b := by omega
        rw [cz_ahead g1.2 g2.2 (by simpa using hl)]
        constructor
        · rintro ⟨v, hv, hn, hag⟩
          have := g1.1 v hv
          refine ⟨v, List.mem_cons_of_mem _ hv, fun hm => ?_, fun u hu => ?_⟩
          · rcases List.mem_cons.1 hm with e | e
            · omega
            · exact hn e
          · rw [List.mem_cons, List.mem_cons, hag u hu]
        · rintro ⟨v, hv, hn, hag⟩
          have hv' : v ∈ x := by
            rcases List.mem_cons.1 hv with e | e
            · exact absurd (by rw [e]; simp) hn
            · exact e
          refine ⟨v, hv', fun hm => hn (List.mem_cons_of_mem _ hm), fun u hu => ?_⟩
          have := hag u hu
          rw [List.mem_cons, List.mem_cons] at this
          constructor
          · intro hm
            have ha := g1.1 u hm
            rcases this.1 (.inr hm) with e | e
            · omega
            · exact e
          · intro hm
            have ha := g2.1 u hm
            rcases this.2 (.inr hm) with e | e
            · omega
            · exact e
theorem ahead_iff {a b : Int} (ha : VS a) (hb : VS b) (hl : (elems a).length = (elems b).length) : Ahead a b ↔ cz (elems a) (elems b) < 0 := by
  rw [cz_ahead (elems_inc a) (elems_inc b) hl]
  constructor
  · rintro ⟨v, h1, h2, h3⟩
    refine ⟨(v : Int), (mem_elems_nat ha).2 h1, fun hm => ?_, fun u hu => ?_⟩
    · rw [(mem_elems_nat hb).1 hm] at h2; cases h2
    · constructor
      · intro hm
        obtain ⟨w, _, q, rfl⟩ := mem_elems.1 hm
        exact (mem_elems_nat hb).2 (by rw [← h3 w (by omega)]; exact q)
      · intro hm
        obtain ⟨w, _, q, rfl⟩ := mem_elems.1 hm
        exact (mem_elems_nat ha).2 (by rw [h3 w (by omega)]; exact q)
  · rintro ⟨v, h1, h2, h3⟩
    obtain ⟨w, _, q, rfl⟩ := mem_elems.1 h1
    refine ⟨w, q, ?_, fun u hu => ?_⟩
    · cases hc : has b w
      · rfl
      · exact absurd ((mem_elems_nat hb).2 hc) h2
    · have := h3 (u : Int) (by omega)
      rw [mem_elems_nat ha, mem_elems_nat hb] at this
      rw [Bool.eq_iff_iff]; exact this

/-- putting a set among others in order -/
theorem l25Insert_eq {l : List Int} {b : Int} (hl : ∀ x ∈ l, VS x) (hb : VS b) (hlen : l.length ≤ 1000000) (hs : l.Pairwise (fun a b => skey a < skey b)) (hn : b ∉ l) :
    ∃ y, D.spec_l25Insert l b = some y ∧ (y.Pairwise (fun a b => skey a < skey b) ∧ y.length = l.length + 1 ∧ ∀ x, x ∈ y ↔ x = b ∨ x ∈ l) := by
  have hbl := elems_len b
  unfold D.spec_l25Insert
  refine loop_then (fun k : Int => ∃ i : Nat, k = (i : Int) ∧ i ≤ l.length ∧ ∀ j (hj : j < l.length), i ≤ j → skey b < skey l[j]) (fun k => k.toNat)
    (fun k => ∃ i : Nat, k = (i : Int) ∧ i ≤ l.length ∧ (∀ j (hj : j < l.length), i ≤ j → skey b < skey l[j]) ∧ (∀ j (hj : j < l.length), j < i → skey l[j] < skey b)) ?_ ⟨l.length, rfl, Nat.le_refl _, fun j hj h => by omega⟩ ?_
  · rintro k ⟨i, rfl, hi, hk⟩
    by_cases h0 : i = 0
    · subst h0
      have e : decide ((0 : Int) < ((0 : Nat) : Int)) = false := rfl
      simp only [e, cond_false, Option.bind_some]
      exact ⟨_, rfl, 0, rfl, by omega, hk, fun j hj h => by omega⟩
    · have e : decide ((0 : Int) < (i : Int)) = true := by simp; omega
      have hi1 : i - 1 < l.length := by omega
      have ew : IntKind.i64.wrap ((i : Int) - 1) = ((i - 1 : Nat) : Int) := by rw [w64 (by omega) (by omega)]; omega
      have hv := hl _ (List.getElem_mem hi1)
      have hll := elems_len l[i - 1]
      obtain ⟨r, er, hr⟩ := l25Less_eq hb hv
      have hcond : ((cond (decide (((elems b).length : Int) < ((elems l[i - 1]).length : Int))) (some true) ((cond (((elems b).length : Int) == ((elems l[i - 1]).length : Int)) (some r) (some false)).bind fun b_701 => some b_701)).bind fun b_676 => some b_676) = some (decide (skey b < skey l[i - 1])) := by
        have hsk := skey_lt (s := b) (t := l[i - 1])
        rcases Nat.lt_trichotomy (elems b).length (elems l[i - 1]).length with c | c | c
        · have e1 : decide (((elems b).length : Int) < ((elems l[i - 1]).length : Int)) = true := by simp; omega
          rw [e1, cond_true, Option.bind_some]
          congr 1
          symm
          rw [decide_eq_true_eq, hsk, if_neg (by omega)]; omega
        · have e1 : decide (((elems b).length : Int) < ((elems l[i - 1]).length : Int)) = false := by simp; omega
          have e2 : (((elems b).length : Int) == ((elems l[i - 1]).length : Int)) = true := by simp; omega
          rw [e1, cond_false, e2, cond_true, Option.bind_some, Option.bind_some]
          congr 1
          rw [Bool.eq_iff_iff, decide_eq_true_eq, hsk, if_pos c, hr, ahead_iff hb hv c]
        · have e1 : decide (((elems b).length : Int) < ((elems l[i - 1]).length : Int)) = false := by simp; omega
          have e2 : (((elems b).length : Int) == ((elems l[i - 1]).length : Int)) = false := by simp; omega
          rw [e1, cond_false, e2, cond_false, Option.bind_some, Option.bind_some]
          congr 1
          symm
          rw [decide_eq_false_iff_not, hsk, if_neg (by omega)]; omega
      simp only [e, cond_true, l25Many_eq hb, Option.bind_some, ew, idx_nat hi1, l25Many_eq hv, er] at hcond ⊢
      rw [hcond, Option.bind_some]
      by_cases hc : skey b < skey l[i - 1]
      · rw [decide_eq_true hc, cond_true]
        refine ⟨_, rfl, ⟨i - 1, rfl, by omega, fun j hj hij => ?_⟩, by simp only [Int.toNat_natCast]; omega⟩
        by_cases hj' : j = i - 1
        · subst hj'; exact hc
        · exact hk j hj (by omega)
      · rw [decide_eq_false hc, cond_false]
        refine ⟨_, rfl, i, rfl, hi, hk, fun j hj hij => ?_⟩
        have hne : skey l[i - 1] ≠ skey b := fun e => hn (by rw [← skey_inj hv hb e]; exact List.getElem_mem _)
        by_cases hj' : j = i - 1
        · subst hj'; omega
        · have := (List.pairwise_iff_getElem.1 hs) j (i - 1) hj hi1 (by omega)
          omega
  · rintro k ⟨i, rfl, hi, h1, h2⟩
    rw [sliceD_pre hi, Option.bind_some, appendD_ok (by simp; omega), Option.bind_some, List.nil_append, appendD_ok (by simp; omega), Option.bind_some, sliceD_post hi, Option.bind_some, appendD_ok (by simp; omega), Option.bind_some]
    refine ⟨_, rfl, ?_, ?_, fun x => ?_⟩
    · rw [List.append_assoc, List.pairwise_append]
      refine ⟨hs.sublist (List.take_sublist _ _), ?_, fun x hx y hy => ?_⟩
      · rw [List.singleton_append, List.pairwise_cons]
        refine ⟨fun y hy => ?_, hs.sublist (List.drop_sublist _ _)⟩
        obtain ⟨j, hj, rfl⟩ := List.getElem_of_mem hy
        rw [List.length_drop] at hj
        rw [List.getElem_drop]
        exact h1 _ (by omega) (by omega)
      · obtain ⟨j, hj, hji, rfl⟩ := mem_take_iff.1 hx
        have hb' := h2 j hj hji
        rw [List.singleton_append, List.mem_cons] at hy
        rcases hy with rfl | hy
        · exact hb'
        · obtain ⟨j', hj', rfl⟩ := List.getElem_of_mem hy
          rw [List.length_drop] at hj'
          rw [List.getElem_drop]
          have := h1 (i + j') (by omega) (by omega)
          omega
    · simp; omega
    · have e := List.take_append_drop i l
      rw [List.mem_append, List.mem_append, List.mem_singleton]
      constructor
      · rintro ((h | h) | h)
        · exact .inr (List.mem_of_mem_take h)
        · exact .inl h
        · exact .inr (List.mem_of_mem_drop h)
      · rintro (h | h)
        · exact .inl (.inr h)
        · rw [← e] at h
          rcases List.mem_append.1 h with h | h
          · exact .inl (.inl h)
          · exact .inr h

theorem l25Set_eq {s : Int} (h : S16 s) : D.spec_l25Set s = some (elems s) := by
  unfold D.spec_l25Set
  -- the first place beyond all
  obtain ⟨j, hj1, hj2⟩ := least_of (P := fun j => s.toNat >>> j = 0) ⟨16, by
    obtain ⟨n, rfl, hn⟩ := h.nat
    rw [Nat.shiftRight_eq_div_pow]; simp; omega⟩
  have hj16 : j ≤ 16 := by
    apply Classical.byContradiction
    intro hc
    refine hj2 16 (by omega) ?_
    obtain ⟨n, rfl, hn⟩ := h.nat
    rw [Nat.shiftRight_eq_div_pow]; simp; omega
  have hlt : ∀ v, has s v = true → v < j := fun v hv => by
    apply Classical.byContradiction
    intro hc
    have : (s.toNat >>> j).testBit (v - j) = true := by
      rw [Nat.testBit_shiftRight]
      rw [show j + (v - j) = v by omega]; exact hv
    rw [hj1] at this; simp at this
  refine (loop_to (fun i => (els s i, (i : Int))) j (elems s) (by simp [els]) (fun i hi => ?_) ?_).trans rfl
  · have hle : (els s i).length ≤ 16 := by
      unfold els
      rw [List.length_map]
      exact Nat.le_trans (List.length_filter_le _ _) (by simp; omega)
    have e1 : decide ((0 : Int) < ishr .i64 s (i : Int)) = true := by
      rw [shr64 h.vs i (by omega)]
      have h2 : s.toNat >>> i ≠ 0 := hj2 i hi
      rw [decide_eq_true_eq]
      generalize s.toNat >>> i = z at h2 ⊢
      omega
    simp only [uw (show i < 1000 by omega), unneg, cond_false, e1, cond_true, bit64 h.vs (show i < 64 by omega), wi (show i < 4611686018427387904 by omega)]
    rw [els_succ]
    cases has s i
    · rfl
    · rw [cond_true, appendD_ok (by simp; omega), Option.bind_some]; rfl
  · have e1 : decide ((0 : Int) < ishr .i64 s (j : Int)) = false := by
      rw [shr64 h.vs j (by omega), hj1]; rfl
    simp only [uw (show j < 1000 by omega), unneg, cond_false, e1]
    rw [els_all (by omega) hlt]
end Go.Sx

/- The exact laws' own helpers in closed form: copies, equality, sizes, marks. Plain. -/
namespace Go.Sx
theorem loop_set {α S ρ β : Type} {step : S → Option (S ⊕ ρ)} {k : ρ → Option β} {s0 : S} (xs ys : List α) (hl : xs.length = ys.length) (enc : List α → Int → S) (r : ρ) (h0 : enc ys 0 = s0)
    (hstep : ∀ l (i : Nat) (h : i < xs.length), l.length = xs.length → step (enc l i) = some (.inl (enc (l.set i xs[i]) ((i + 1 : Nat) : Int))))
    (hend : step (enc xs xs.length) = some (.inr r)) : (loopF step s0).bind k = k r := by
  refine loop_to (fun i => enc (xs.take i ++ ys.drop i) (i : Int)) xs.length r (by simpa using h0) (fun i hi => ?_) ?_
  · have e : (xs.take i ++ ys.drop i).set i xs[i] = xs.take (i + 1) ++ ys.drop (i + 1) := by
      rw [List.take_succ_eq_append_getElem hi, List.drop_eq_getElem_cons (show i < ys.length by omega), List.set_append_right _ _ (by simp; omega)]
      have e0 : i - (xs.take i).length = 0 := by rw [List.length_take]; omega
      rw [e0, List.set_cons_zero, List.append_assoc]; rfl
    rw [hstep _ i hi (by simp; omega), e]
  · rw [← hend, List.take_length, hl, List.drop_length, List.append_nil]

theorem toS_eq (xs : List Int) (h : Sh xs) : D.laws_toInt64S xs = some xs := by
  unfold Sh at h
  unfold D.laws_toInt64S
  rw [makeD_ok (by omega) (by omega), Option.bind_some]
  refine (loop_set xs (List.replicate xs.length 0) (by simp) (fun l i => (l, i)) xs rfl (fun l i hi hl => ?_) ?_).trans rfl
  · simp only [dlt hi, cond_true, idx_nat hi, idx_nat (show i < l.length by omega), Option.bind_some, wi (show i < 4611686018427387904 by omega), Int.toNat_natCast]
  · simp only [dnlt, cond_false]
theorem toSS_eq (xs : List (List Int)) (h : Sh2 xs) : D.laws_toInt64SS xs = some xs := by
  obtain ⟨h, h2⟩ := h
  unfold Sh at h
  unfold D.laws_toInt64SS
  rw [makeD_ok (by omega) (by omega), Option.bind_some]
  refine (loop_set xs (List.replicate xs.length []) (by simp) (fun l i => (l, i)) xs rfl (fun l i hi hl => ?_) ?_).trans rfl
  · simp only [dlt hi, cond_true, idx_nat hi, idx_nat (show i < l.length by omega), Option.bind_some, wi (show i < 4611686018427387904 by omega), Int.toNat_natCast, toS_eq _ (h2 _ (List.getElem_mem hi))]
  · simp only [dnlt, cond_false]
theorem toGraph_eq (g : List (List Int)) (h : Sh2 g) : D.laws_toGraph g = some g := by
  unfold D.laws_toGraph; rw [toSS_eq g h]; rfl

theorem list_eq_all {α : Type} [DecidableEq α] (xs ys : List α) (d : α) (hl : xs.length = ys.length) : (List.range xs.length).all (fun i => decide (xs.getD i d = ys.getD i d)) = decide (xs = ys) := by
  rw [Bool.eq_iff_iff, all_forall, decide_eq_true_eq]
  constructor
  · intro h
    apply List.ext_getElem hl
    intro i h1 h2
    have := h i h1
    rw [getD_lt h1, getD_lt h2] at this
    exact of_decide_eq_true this
  · rintro rfl i _; simp
theorem eqS_eq (xs ys : List Int) (h : Sh xs) : D.laws_eqInt64S xs ys = some (decide (xs = ys)) := by
  unfold Sh at h
  unfold D.laws_eqInt64S
  by_cases hl : xs.length = ys.length
  · have e : ((xs.length : Int) != (ys.length : Int)) = false := by simp [hl]
    rw [e, cond_false, ← list_eq_all xs ys 0 hl]
    refine loop_allb xs.length _ false (fun i hi => ?_) ?_ rfl rfl
    · have hi' : i < ys.length := by omega
      simp only [dlt hi, cond_true, idx_nat hi, idx_nat hi', Option.bind_some, wi (show i < 4611686018427387904 by omega), getD_lt hi, getD_lt hi']
      by_cases hc : xs[i] = ys[i]
      · simp [hc]
      · have : (xs[i] != ys[i]) = true := by simpa using hc
        simp [hc, this]
    · simp only [dnlt, cond_false]
  · have e : ((xs.length : Int) != (ys.length : Int)) = true := by simp; omega
    have : xs ≠ ys := by rintro rfl; exact hl rfl
    simp [e, this]
theorem eqSS_eq (xs ys : List (List Int)) (h : Sh2 xs) : D.laws_eqInt64SS xs ys = some (decide (xs = ys)) := by
  obtain ⟨h, h2⟩ := h
  unfold Sh at h
  unfold D.laws_eqInt64SS
  by_cases hl : xs.length = ys.length
  · have e : ((xs.length : Int) != (ys.length : Int)) = false := by simp [hl]
    rw [e, cond_false, ← list_eq_all xs ys [] hl]
    refine loop_allb xs.length _ false (fun i hi => ?_) ?_ rfl rfl
    · have hi' : i < ys.length := by omega
      simp only [dlt hi, cond_true, idx_nat hi, idx_nat hi', Option.bind_some, wi (show i < 4611686018427387904 by omega), getD_lt hi, getD_lt hi', eqS_eq _ _ (h2 _ (List.getElem_mem hi))]
      by_cases hc : xs[i] = ys[i]
      · simp [hc]
      · simp [hc]
    · simp only [dnlt, cond_false]
  · have e : ((xs.length : Int) != (ys.length : Int)) = true := by simp; omega
    have : xs ≠ ys := by rintro rfl; exact hl rfl
    simp [e, this]
theorem eqGraph_eq (xs ys : List (List Int)) (h : Sh2 xs) : D.laws_eqGraph xs ys = some (decide (xs = ys)) := by
  unfold D.laws_eqGraph; rw [eqSS_eq xs ys h, Option.bind_some]; cases decide (xs = ys) <;> rfl

/-! ### sizes -/
/-- how many there are in all -/
def tot : List (List Int) → Int
  | [] => 0
  | x :: xs => x.length + tot xs
theorem tot_nonneg : ∀ xs, 0 ≤ tot xs
  | [] => Int.le_refl _
  | x :: xs => by have := tot_nonneg xs; simp only [tot]; omega
theorem tot_app : ∀ xs ys, tot (xs ++ ys) = tot xs + tot ys
  | [], ys => by simp [tot]
  | x :: xs, ys => by simp only [List.cons_append, tot, tot_app xs ys]; omega
theorem tot_mem : ∀ {xs : List (List Int)} {x}, x ∈ xs → (x.length : Int) ≤ tot xs
  | y :: xs, x, h => by
    have := tot_nonneg xs
    simp only [tot]
    rcases List.mem_cons.1 h with rfl | h
    · omega
    · have := tot_mem h; omega
theorem tot_take {xs : List (List Int)} {i : Nat} (h : i < xs.length) : tot (xs.take (i + 1)) = tot (xs.take i) + xs[i].length := by
  rw [List.take_succ_eq_append_getElem h, tot_app]; simp [tot]
theorem tot_le {xs : List (List Int)} {n : Int} (h : ∀ x ∈ xs, (x.length : Int) ≤ n) : tot xs ≤ xs.length * n := by
  induction xs with
  | nil => simp [tot]
  | cons x xs ih =>
    have := ih (fun y hy => h y (by simp [hy]))
    have := h x (by simp)
    simp only [tot, List.length_cons, Int.natCast_add, Int.add_mul]; omega
theorem Sh2.of_tot {xs : List (List Int)} (h : Sh xs) (h2 : tot xs ≤ 4294967296) : Sh2 xs := ⟨h, fun x hx => by have := tot_mem hx; unfold Sh; omega⟩

theorem szS_eq (xs : List Int) (k : Int) (hx : (xs.length : Int) ≤ 9223372036854775807) (h0 : 0 ≤ k) (h1 : k ≤ 1048576) :
    D.laws_szInt64S xs k = some (if (xs.length : Int) ≤ k then k - xs.length else -1) := by
  unfold D.laws_szInt64S
  rw [w64 (by omega) (by omega)]
  by_cases h : k - (xs.length : Int) < 0
  · rw [if_neg (by omega)]; simp [h]
  · rw [if_pos (by omega)]; simp [h]
theorem szSS_eq (xs : List (List Int)) (k : Int) (hx : (xs.length : Int) ≤ 9223372036854775807) (hx2 : ∀ x ∈ xs, (x.length : Int) ≤ 9223372036854775807) (h0 : 0 ≤ k) (h1 : k ≤ 1048576) :
    ∃ y, D.laws_szInt64SS xs k = some y ∧ (y < 0 ∨ (y + xs.length + tot xs = k ∧ 0 ≤ y)) := by
  unfold D.laws_szInt64SS
  rw [w64 (by omega) (by omega)]
  by_cases h : k - (xs.length : Int) < 0
  · simp only [h, decide_true, cond_true]; exact ⟨-1, rfl, .inl (by omega)⟩
  · simp only [h, decide_false, cond_false]
    have key : ∀ (n i : Nat) (l : Int), i + n = xs.length → 0 ≤ l → l + tot (xs.take i) = k - xs.length →
        ∃ r, loopF (σ := Int × Int) (ρ := (Int) ⊕ (Int)) (fun (s_39 : Int × Int) => match s_39 with | (x_42, x_43) => cond (decide (x_43 < (xs.length : Int))) ((idx xs x_43).bind fun e_64 => (D.laws_szInt64S e_64 x_42).bind fun y_70 => cond (decide (y_70 < 0)) (some (.inr (.inr (-1)))) (some (.inl (y_70, (IntKind.i64.wrap (x_43 + 1)))))) (some (.inr (.inl x_42)))) (l, (i : Int)) = some r ∧
          (r = .inr (-1) ∨ ∃ y, r = .inl y ∧ y + xs.length + tot xs = k ∧ 0 ≤ y) := by
      intro n
      induction n with
      | zero =>
        intro i l hi hl he
        obtain rfl : i = xs.length := by omega
        refine ⟨.inl l, loopF_done (by simp only [dnlt, cond_false]), .inr ⟨l, rfl, ?_, hl⟩⟩
        rw [List.take_length] at he; omega
      | succ n ih =>
        intro i l hi hl he
        have hil : i < xs.length := by omega
        have ht := tot_nonneg (xs.take i)
        have e1 := szS_eq xs[i] l (hx2 _ (List.getElem_mem hil)) hl (by omega)
        by_cases hc : (xs[i].length : Int) ≤ l
        · rw [if_pos hc] at e1
          obtain ⟨r, hr, hp⟩ := ih (i + 1) (l - xs[i].length) (by omega) (by omega) (by rw [tot_take hil]; omega)
          refine ⟨r, ?_, hp⟩
          rw [loopF_more (s' := (l - xs[i].length, ((i + 1 : Nat) : Int)))]
          · exact hr
          · have hd : decide (l - (xs[i].length : Int) < 0) = false := by simp; omega
            simp only [dlt hil, cond_true, idx_nat hil, Option.bind_some, e1, hd, cond_false, wi (show i < 4611686018427387904 by omega)]
        · rw [if_neg hc] at e1
          refine ⟨.inr (-1), loopF_done ?_, .inl rfl⟩
          have hd : decide ((-1 : Int) < 0) = true := by decide
          simp only [dlt hil, cond_true, idx_nat hil, Option.bind_some, e1, hd]
    obtain ⟨r, hr, hp⟩ := key xs.length 0 (k - xs.length) (by omega) (by omega) (by simp [tot])
    rw [show ((0 : Nat) : Int) = 0 from rfl] at hr
    rw [hr, Option.bind_some]
    rcases hp with rfl | ⟨y, rfl, h1, h2⟩
    · exact ⟨-1, rfl, .inl (by omega)⟩
    · exact ⟨y, rfl, .inr ⟨h1, h2⟩⟩
theorem szGraph_eq (xs : List (List Int)) (k : Int) (hx : (xs.length : Int) ≤ 9223372036854775807) (hx2 : ∀ x ∈ xs, (x.length : Int) ≤ 9223372036854775807) (h0 : 0 ≤ k) (h1 : k ≤ 1048576) :
    ∃ y, D.laws_szGraph xs k = some y ∧ (y < 0 ∨ (y + xs.length + tot xs = k ∧ 0 ≤ y)) := by
  obtain ⟨y, e, h⟩ := szSS_eq xs k hx hx2 h0 h1
  unfold D.laws_szGraph
  rw [e, Option.bind_some]
  by_cases hy : y < 0
  · simp only [hy, decide_true, cond_true]; exact ⟨-1, rfl, .inl (by omega)⟩
  · simp only [hy, decide_false, cond_false]; exact ⟨y, rfl, h⟩

/-! ### marks -/
/-- so many numbers from k on -/
def numsI (k : Int) (n : Nat) : List Int := (List.range n).map fun (i : Nat) => k + (i : Int)
theorem numsI_len (k : Int) (n : Nat) : (numsI k n).length = n := by simp [numsI]
theorem numsI_get (k : Int) {n i : Nat} (h : i < (numsI k n).length) : (numsI k n)[i] = k + (i : Int) := by simp [numsI]
def marked (k : Int) : List (List Int) → List (List Int)
  | [] => []
  | x :: xs => numsI k x.length :: marked (k + x.length) xs
theorem marked_app : ∀ xs ys k, marked k (xs ++ ys) = marked k xs ++ marked (k + tot xs) ys
  | [], ys, k => by simp [marked, tot]
  | x :: xs, ys, k => by simp only [List.cons_append, marked, marked_app xs ys, tot]; rw [show k + (x.length : Int) + tot xs = k + (x.length + tot xs) by omega]
theorem marked_len : ∀ xs k, (marked k xs).length = xs.length
  | [], _ => rfl
  | x :: xs, k => by simp [marked, marked_len xs]
theorem marked_get : ∀ (xs : List (List Int)) (k : Int) (i : Nat) (h : i < xs.length), (marked k xs)[i]'(by rw [marked_len]; exact h) = numsI (k + tot (xs.take i)) xs[i].length
  | x :: xs, k, 0, h => by simp [marked, tot]
  | x :: xs, k, i + 1, h => by
    simp only [marked, List.getElem_cons_succ, List.take_succ_cons, tot]
    rw [marked_get xs (k + x.length) i (by simpa using h)]
    congr 1; omega
theorem markS_eq (xs : List Int) (k : Int) (h : Sh xs) (h0 : 0 ≤ k) (h1 : k ≤ 4611686018427387904) : D.laws_markInt64S xs k = some (k + xs.length, numsI k xs.length) := by
  unfold Sh at h
  unfold D.laws_markInt64S
  have e : (numsI k xs.length ++ xs.drop xs.length) = numsI k xs.length := by simp
  refine (loop_to (fun i => (numsI k i ++ xs.drop i, k + (i : Int), (i : Int))) xs.length (numsI k xs.length, k + (xs.length : Int)) (by simp [numsI]) (fun i hi => ?_) ?_).trans rfl
  · have hl : (numsI k i ++ xs.drop i).length = xs.length := by simp [numsI_len]; omega
    have hi' : i < (numsI k i ++ xs.drop i).length := by omega
    have hset : (numsI k i ++ xs.drop i).set i (k + i) = numsI k (i + 1) ++ xs.drop (i + 1) := by
      rw [List.drop_eq_getElem_cons hi, List.set_append_right _ _ (by rw [numsI_len]; omega)]
      simp only [numsI_len, Nat.sub_self, List.set_cons_zero]
      unfold numsI
      rw [List.range_succ, List.map_append]; simp
    simp only [dlt hi', cond_true, idx_nat hi', Option.bind_some, wi (show i < 4611686018427387904 by omega), Int.toNat_natCast, hset]
    rw [w64 (by omega) (by omega)]
    have : k + (i : Int) + 1 = k + ((i + 1 : Nat) : Int) := by omega
    rw [this]
  · simp only [e, numsI_len, dnlt, cond_false]
theorem markSS_eq (xs : List (List Int)) (k : Int) (h : Sh2 xs) (h0 : 0 ≤ k) (h1 : k + tot xs ≤ 4611686018427387904) : D.laws_markInt64SS xs k = some (k + tot xs, marked k xs) := by
  obtain ⟨h, h2⟩ := h
  unfold Sh at h
  unfold D.laws_markInt64SS
  have hml : ∀ i, i ≤ xs.length → (marked k (xs.take i)).length = i := fun i hi => by rw [marked_len, List.length_take]; omega
  refine (loop_to (fun i => (marked k (xs.take i) ++ xs.drop i, k + tot (xs.take i), (i : Int))) xs.length (marked k xs, k + tot xs) (by simp [marked, tot]) (fun i hi => ?_) ?_).trans rfl
  · have hm := hml i (by omega)
    have hl : (marked k (xs.take i) ++ xs.drop i).length = xs.length := by simp [hm]; omega
    have hi' : i < (marked k (xs.take i) ++ xs.drop i).length := by omega
    have hg : (marked k (xs.take i) ++ xs.drop i)[i] = xs[i] := by
      rw [List.getElem_append_right (by omega)]
      simp [hm]
    have ht := tot_take hi
    have htn : tot (xs.take (i + 1)) ≤ tot xs := by
      have := tot_app (xs.take (i + 1)) (xs.drop (i + 1))
      rw [List.take_append_drop] at this
      have := tot_nonneg (xs.drop (i + 1)); omega
    have htn0 := tot_nonneg (xs.take i)
    have hset : (marked k (xs.take i) ++ xs.drop i).set i (numsI (k + tot (xs.take i)) xs[i].length) = marked k (xs.take (i + 1)) ++ xs.drop (i + 1) := by
      have e0 : i - (marked k (xs.take i)).length = 0 := by omega
      rw [List.drop_eq_getElem_cons hi, List.set_append_right _ _ (by omega), List.take_succ_eq_append_getElem hi, marked_app, e0, List.set_cons_zero, List.append_assoc]
      rfl
    simp only [dlt hi', cond_true, idx_nat hi', hg, Option.bind_some, wi (show i < 4611686018427387904 by omega), Int.toNat_natCast, markS_eq xs[i] (k + tot (xs.take i)) (h2 _ (List.getElem_mem hi)) (by omega) (by omega), hset]
    rw [ht]
    have : k + tot (xs.take i) + (xs[i].length : Int) = k + (tot (xs.take i) + (xs[i].length : Int)) := by omega
    rw [this]
  · have e : marked k (xs.take xs.length) ++ xs.drop xs.length = marked k xs := by simp
    simp only [e, marked_len, dnlt, cond_false]
    simp only [List.take_length]
theorem markGraph_eq (xs : List (List Int)) (k : Int) (h : Sh2 xs) (h0 : 0 ≤ k) (h1 : k + tot xs ≤ 4611686018427387904) : D.laws_markGraph xs k = some (k + tot xs, marked k xs) := by
  unfold D.laws_markGraph; rw [markSS_eq xs k h h0 h1]; rfl

theorem heldS_eq (n : Nat) (k : Int) (h : n ≤ 4294967296) (h0 : 0 ≤ k) (h1 : k ≤ 4611686018427387904) : D.laws_heldInt64S (numsI k n) k = some (k + n) := by
  unfold D.laws_heldInt64S
  rw [numsI_len]
  refine (loop_to (fun i => (k + (i : Int), (i : Int))) n (.inl (k + (n : Int))) (by simp) (fun i hi => ?_) ?_).trans rfl
  · have hi' : i < (numsI k n).length := by rw [numsI_len]; exact hi
    simp only [dlt hi, cond_true, idx_nat hi', numsI_get, Option.bind_some, bne_self_eq_false, cond_false, wi (show i < 4611686018427387904 by omega)]
    rw [w64 (by omega) (by omega)]
    have : k + (i : Int) + 1 = k + ((i + 1 : Nat) : Int) := by omega
    rw [this]
  · simp only [dnlt, cond_false]
theorem heldSS_eq (xs : List (List Int)) (k : Int) (h : Sh2 xs) (h0 : 0 ≤ k) (h1 : k + tot xs ≤ 4611686018427387904) : D.laws_heldInt64SS (marked k xs) k = some (k + tot xs) := by
  obtain ⟨h, h2⟩ := h
  unfold Sh at h
  unfold D.laws_heldInt64SS
  rw [marked_len]
  refine (loop_to (fun i => (k + tot (xs.take i), (i : Int))) xs.length (.inl (k + tot xs)) (by simp [tot]) (fun i hi => ?_) ?_).trans rfl
  · have hi' : i < (marked k xs).length := by rw [marked_len]; exact hi
    have ht := tot_take hi
    have htn : tot (xs.take (i + 1)) ≤ tot xs := by
      have := tot_app (xs.take (i + 1)) (xs.drop (i + 1))
      rw [List.take_append_drop] at this
      have := tot_nonneg (xs.drop (i + 1)); omega
    have htn0 := tot_nonneg (xs.take i)
    simp only [dlt hi, cond_true, idx_nat hi', marked_get xs k i hi, Option.bind_some, heldS_eq xs[i].length (k + tot (xs.take i)) (h2 _ (List.getElem_mem hi)) (by omega) (by omega), wi (show i < 4611686018427387904 by omega)]
    have hd : decide (k + tot (xs.take i) + (xs[i].length : Int) < 0) = false := by simp; omega
    simp only [hd, cond_false, ht]
    have : k + tot (xs.take i) + (xs[i].length : Int) = k + (tot (xs.take i) + (xs[i].length : Int)) := by omega
    rw [this]
  · simp only [dnlt, cond_false, List.take_length]
end Go.Sx

/- 'laws.FnExactLastingStables' comes to true. Plain. -/
namespace Go.Sx
/-- what lasts: stable sets that are near all -/
def Lsts (g : List (List Int)) (K : Int) : Prop := In g.length K ∧ (∀ u w, has K u = true → has K w = true → ¬ adj g u w) ∧ ∀ w, w < g.length → has K w = true ∨ ∃ v, has K v = true ∧ adj g v w

theorem lst_iff {g : List (List Int)} (hg : GOk g) {F' : List Int} (hF' : FOk F' g.length) (hnb : ∀ u w, u < g.length → nb F' u w = (decide (w < g.length) && !nb (g.map mk) u w && !decide (w = u))) (K : Int) :
    In g.length K ∧ MX F' g.length K ↔ Lsts g K := by
  have h : ∀ u w, u < g.length → w < g.length → (nb F' u w = true ↔ ¬ adj g u w ∧ w ≠ u) := fun u w hu hw => by
    rw [hnb u w hu]
    simp only [Bool.and_eq_true, Bool.not_eq_true', decide_eq_true_eq, decide_eq_false_iff_not]
    rw [← nb_mk hg hu]
    constructor
    · rintro ⟨⟨_, h1⟩, h2⟩; exact ⟨by rw [h1]; simp, h2⟩
    · rintro ⟨h1, h2⟩; exact ⟨⟨hw, by simpa using h1⟩, h2⟩
  constructor
  · rintro ⟨hi, hc, hm⟩
    refine ⟨hi, fun u w hu hw ha => ?_, fun w hw => ?_⟩
    · by_cases e : u = w
      · subst e; exact hg.irr u (hi.2 u hu) ha
      · exact ((h u w (hi.2 u hu) (hi.2 w hw)).1 (hc u w hu hw e)).1 ha
    · cases hK : has K w with
      | true => exact .inl rfl
      | false =>
        right
        obtain ⟨u, h1, h2⟩ := hm w hw hK
        refine ⟨u, h1, ?_⟩
        apply Classical.byContradiction
        intro hna
        have : nb F' u w = true := (h u w (hi.2 u h1) hw).2 ⟨hna, fun e => by subst e; rw [h1] at hK; cases hK⟩
        rw [this] at h2; cases h2
  · rintro ⟨hi, hs, hd⟩
    refine ⟨hi, fun u w hu hw huw => (h u w (hi.2 u hu) (hi.2 w hw)).2 ⟨hs u w hu hw, fun e => huw e.symm⟩, fun w hw hK => ?_⟩
    rcases hd w hw with h1 | ⟨v, h1, h2⟩
    · rw [h1] at hK; cases hK
    · refine ⟨v, h1, ?_⟩
      cases hc : nb F' v w
      · rfl
      · exact absurd h2 ((h v w (hi.2 v h1) hw).1 hc).1

structure LSt (g : List (List Int)) (l : List Int) : Prop where
  up : l.Pairwise (fun a b => skey a < skey b)
  mem : ∀ K, K ∈ l ↔ Lsts g K
theorem LSt.uniq {g : List (List Int)} {l l' : List Int} (h : LSt g l) (h' : LSt g l') : l = l' := rise_unique h.up h'.up (fun x => by rw [h.mem, h'.mem])
theorem LSt.vs {g : List (List Int)} {l : List Int} (h : LSt g l) : ∀ s ∈ l, VS s := fun s hs => ((h.mem s).1 hs).1.1
theorem LSt.len {g : List (List Int)} {l : List Int} (hg : GOk g) (h : LSt g l) : l.length ≤ 65536 := masks_len hg.n16 (fun K hK => ((h.mem K).1 hK).1) (rise_nodup h.up)

theorem impl_Lasting_ok {g : List (List Int)} (hg : GOk g) : ∃ l, D.impl_LastingStables g = some (l.map elems) ∧ LSt g l := by
  have h16 := hg.n16
  obtain ⟨F', e1, hF', hnb⟩ := complement_ok h16 (FOk.of hg)
  obtain ⟨l0, e2, hs0, hm0⟩ := cliquesOf_ok hg.n1 h16 hF'
  obtain ⟨l, e3, hp, hs⟩ := sorted_rise bySz (fun x y => skey_inj) l0 (fun K hK => ((hm0 K).1 hK).1.1) (rise_nodup hs0) (by
    have := masks_len h16 (fun K hK => ((hm0 K).1 hK).1) (rise_nodup hs0)
    omega)
  have hL : LSt g l := ⟨hs, fun K => by rw [hp.mem_iff, hm0, lst_iff hg hF' hnb]⟩
  refine ⟨l, ?_, hL⟩
  unfold D.impl_LastingStables
  rw [impl_GraphOk_eq g hg.sh2, gB_true hg, Option.bind_some, Bool.not_true, cond_false, netsOf_eq g hg, Option.bind_some, e1, Option.bind_some, e2, Option.bind_some, se_impl_vset_impl_bySize]
  rw [show DG.Sort D.impl_bySize l0 = some l from e3, Option.bind_some, results_eq l (by have := hL.len hg; unfold Sh; omega) hL.vs]
  rfl

theorem spec_Lasting_ok {g : List (List Int)} (hg : GOk g) : ∃ l, D.spec_LastingStables g = some (l.map elems) ∧ LSt g l := by
  have h16 := hg.n16
  have hp16 : (2 : Nat) ^ g.length ≤ 2 ^ 16 := Nat.pow_le_pow_right (by omega) h16
  have hp0 : 0 < (2 : Nat) ^ g.length := Nat.pow_pos (by omega)
  unfold D.spec_LastingStables
  rw [spec_GraphOk_eq g hg.sh2, gB_true hg, Option.bind_some, Bool.not_true, cond_false, l25Bits_eq hg, Option.bind_some]
  obtain ⟨l, hl, hL⟩ : ∃ l, loopF _ _ = some l ∧ LSt g l := by
    have key := loop_then (k := fun l : List Int => some l) (Q := fun l => LSt g l) (step := (fun (s_227 : (List Int) × Int) => match s_227 with | (l_230, x_235) => (D.spec_l25All g).bind fun y_337 => cond (decide (x_235 ≤ y_337)) ((D.spec_l25Stable (g.map mk) x_235).bind fun y_345 => cond (!y_345) (some (.inl (l_230, (IntKind.i64.wrap (x_235 + 1))))) ((loopF (σ := Int × Int) (ρ := (Int)) (fun (s_381 : Int × Int) => match s_381 with | (x_384, x_385) => cond (decide (x_385 < ((g.map mk).length : Int))) (cond (decide ((IntKind.u64.wrap x_385) < 0)) none (cond ((iand .i64 (ishr .i64 x_235 (IntKind.u64.wrap x_385)) 1) == 1) ((idx (g.map mk) x_385).bind fun e_402 => some (.inl ((ior .i64 x_384 e_402), (IntKind.i64.wrap (x_385 + 1))))) (some (.inl (x_384, (IntKind.i64.wrap (x_385 + 1))))))) (some (.inr x_384))) (x_235, 0)).bind fun x_397 => (D.spec_l25All g).bind fun y_408 => cond (x_397 == y_408) ((D.spec_l25Insert l_230 x_235).bind fun y_416 => some (.inl (y_416, (IntKind.i64.wrap (x_235 + 1))))) (some (.inl (l_230, (IntKind.i64.wrap (x_235 + 1))))))) (some (.inr l_230)))) (s := (([] : List Int), 0))
      (fun st => ∃ i : Nat, st.2 = (i : Int) ∧ i ≤ 2 ^ g.length ∧ st.1.length ≤ i ∧ st.1.Pairwise (fun a b => skey a < skey b) ∧ ∀ K, K ∈ st.1 ↔ Lsts g K ∧ K < (i : Int)) (fun st => 2 ^ g.length - st.2.toNat) (fun l => LSt g l) (by
        rintro ⟨l, _⟩ ⟨i, rfl, hi, hll, hup, hmem⟩
        dsimp only at hll hup hmem ⊢
        rw [l25All_eq hg, Option.bind_some, pow_full h16]
        by_cases hlt : i < 2 ^ g.length
        · have hb := In.of hlt h16
          have e1 : decide ((i : Int) ≤ ((2 ^ g.length - 1 : Nat) : Int)) = true := by rw [decide_eq_true_eq]; omega
          have hw : IntKind.i64.wrap ((i : Int) + 1) = ((i + 1 : Nat) : Int) := wi (by omega)
          have hskip : ¬ Lsts g (i : Int) → ∀ K, K ∈ l ↔ Lsts g K ∧ K < ((i + 1 : Nat) : Int) := fun hno K => by
            rw [hmem]
            constructor
            · rintro ⟨h1, h2⟩; exact ⟨h1, by omega⟩
            · rintro ⟨h1, h2⟩
              refine ⟨h1, ?_⟩
              by_cases e : K = (i : Int)
              · subst e; exact absurd h1 hno
              · omega
          rw [e1, cond_true, l25Stable_eq hg hb.1, Option.bind_some, hw]
          cases hst : stB g (i : Int) with
          | false =>
            rw [Bool.not_false, cond_true]
            refine ⟨_, rfl, ⟨i + 1, rfl, hlt, by dsimp only; omega, hup, hskip (fun h => ?_)⟩, by dsimp only; omega⟩
            have := (stB_iff hg hb).2 h.2.1
            rw [hst] at this; cases this
          | true =>
            rw [Bool.not_true, cond_false]
            refine bind_eq (x := nearF g (i : Int) g.length) (loop_to (k := fun x => some x) (fun v => (nearF g (i : Int) v, (v : Int))) g.length (nearF g (i : Int) g.length) rfl (fun v hv => ?_) ?_ |> fun h => by
                rw [Option.bind_eq_some_iff] at h
                obtain ⟨z, h1, h2⟩ := h
                cases h2
                exact h1) ?_
            · simp only [List.length_map, dlt hv, cond_true, uw (show v < 1000 by omega), unneg, cond_false, bit64 hb.1 (show v < 64 by omega), idx_nets hv, Option.bind_some, or6432 (nearF_vs g hb.1 v) (VS.mk _), wi (show v < 4611686018427387904 by omega), nearF]
              cases has (i : Int) v <;> rfl
            · simp only [List.length_map, dnlt, cond_false]
            · rw [Option.bind_some]
              have hne : nearF g (i : Int) g.length = ((2 ^ g.length - 1 : Nat) : Int) ↔ ∀ w, w < g.length → has (i : Int) w = true ∨ ∃ v, has (i : Int) v = true ∧ adj g v w := by
                rw [← pow_full h16]
                have hnf := fun w => has_nearF hg hb.1 w g.length (Nat.le_refl _)
                constructor
                · intro e w hw
                  have := (hnf w).1 (by rw [e, has_full h16]; exact decide_eq_true hw)
                  rcases this with h | ⟨v, _, h⟩
                  · exact .inl h
                  · exact .inr ⟨v, h⟩
                · intro h
                  refine (nearF_vs g hb.1 _).ext (full_vs _) (fun w _ => ?_)
                  rw [Bool.eq_iff_iff, hnf, has_full h16, decide_eq_true_eq]
                  constructor
                  · rintro (h1 | ⟨v, h0, h1, h2⟩)
                    · exact hb.2 w h1
                    · exact hg.lt h0 h2
                  · intro hw
                    rcases h w hw with h | ⟨v, h1, h2⟩
                    · exact .inl h
                    · exact .inr ⟨v, hb.2 v h1, h1, h2⟩
              by_cases hc : nearF g (i : Int) g.length = ((2 ^ g.length - 1 : Nat) : Int)
              · have e2 : (nearF g (i : Int) g.length == ((2 ^ g.length - 1 : Nat) : Int)) = true := by simpa using hc
                have hlst : Lsts g (i : Int) := ⟨hb, (stB_iff hg hb).1 hst, hne.1 hc⟩
                rw [e2, cond_true]
                obtain ⟨y, e3, k1, k2, k3⟩ := l25Insert_eq (l := l) (b := (i : Int)) (fun x hx => ((hmem x).1 hx).1.1.1) hb.1 (by omega) hup (fun hm => by have := ((hmem _).1 hm).2; omega)
                rw [e3, Option.bind_some]
                refine ⟨_, rfl, ⟨i + 1, rfl, hlt, by dsimp only; omega, k1, fun K => ?_⟩, by dsimp only; omega⟩
                dsimp only
                rw [k3, hmem]
                constructor
                · rintro (rfl | ⟨h1, h2⟩)
                  · exact ⟨hlst, by omega⟩
                  · exact ⟨h1, by omega⟩
                · rintro ⟨h1, h2⟩
                  by_cases e : K = (i : Int)
                  · exact .inl e
                  · exact .inr ⟨h1, by omega⟩
              · have e2 : (nearF g (i : Int) g.length == ((2 ^ g.length - 1 : Nat) : Int)) = false := by simpa using hc
                rw [e2, cond_false]
                exact ⟨_, rfl, ⟨i + 1, rfl, hlt, by dsimp only; omega, hup, hskip (fun h => hc (hne.2 h.2.2))⟩, by dsimp only; omega⟩
        · obtain rfl : i = 2 ^ g.length := by omega
          have e1 : decide ((((2 : Nat) ^ g.length : Nat) : Int) ≤ ((2 ^ g.length - 1 : Nat) : Int)) = false := by rw [decide_eq_false_iff_not]; omega
          rw [e1, cond_false]
          refine ⟨_, rfl, hup, fun K => ?_⟩
          rw [hmem]
          constructor
          · exact fun h => h.1
          · intro h
            refine ⟨h, ?_⟩
            obtain ⟨m, rfl, hm⟩ := (h.1.s16 h16).nat
            have : m < 2 ^ g.length := by
              apply Nat.lt_pow_two_of_testBit
              intro j hj
              cases hc : m.testBit j
              · rfl
              · have := h.1.2 j (by rw [has_nat]; exact hc)
                omega
            omega) ⟨0, rfl, by omega, by simp, by simp, fun K => ⟨fun h => by simp at h, fun h => by
              have := (h.1.1.s16 h16).1
              have h2 := h.2
              omega⟩⟩ (fun r hr => ⟨r, rfl, hr⟩)
    obtain ⟨y, hy, hq⟩ := key
    rw [Option.bind_eq_some_iff] at hy
    obtain ⟨z, h1, h2⟩ := hy
    cases h2
    exact ⟨_, h1, hq⟩
  rw [hl, Option.bind_some]
  refine ⟨l, ?_, hL⟩
  have hlen := hL.len hg
  refine (loop_map l (fun s i => (s, i)) elems (by omega) (fun s i hi _ => ?_) (fun s => ?_)).trans rfl
  · have hs := ((hL.mem _).1 (List.getElem_mem hi)).1.s16 h16
    simp only [dlt hi, cond_true, idx_nat hi, Option.bind_some, l25Set_eq hs, wi (show i < 4611686018427387904 by omega)]
  · simp only [dnlt, cond_false]

theorem tot_elems (l : List Int) : tot (l.map elems) ≤ l.length * 32 := by
  have := tot_le (xs := l.map elems) (n := 32) (fun x hx => by
    obtain ⟨s, _, rfl⟩ := List.mem_map.1 hx
    have := elems_len s; omega)
  rwa [List.length_map] at this
theorem Lasting_both (g : List (List Int)) (h : Sh2 g) : ∃ L : List (List Int), D.spec_LastingStables g = some L ∧ D.impl_LastingStables g = some L ∧ Sh2 L ∧ tot L ≤ 4294967296 := by
  by_cases hg : GOk g
  · obtain ⟨l, e1, h1⟩ := spec_Lasting_ok hg
    obtain ⟨l', e2, h2⟩ := impl_Lasting_ok hg
    rw [← h1.uniq h2] at e2
    have hl := h1.len hg
    have ht := tot_elems l
    exact ⟨_, e1, e2, Sh2.of_tot (by unfold Sh; rw [List.length_map]; omega) (by omega), by omega⟩
  · have hb : gB g = false := by
      cases hc : gB g
      · rfl
      · exact absurd ((gB_iff g).1 hc) hg
    refine ⟨[], ?_, ?_, ⟨by simp [Sh], by simp⟩, by simp [tot]⟩
    · unfold D.spec_LastingStables
      rw [spec_GraphOk_eq g h, hb]; rfl
    · unfold D.impl_LastingStables
      rw [impl_GraphOk_eq g h, hb]; rfl

theorem FnExactLastingStables_true (g : List (List Int)) (hx : (g.length : Int) ≤ 9223372036854775807) (hx2 : ∀ x ∈ g, (x.length : Int) ≤ 9223372036854775807) : D.laws_FnExactLastingStables g = some true := by
  unfold D.laws_FnExactLastingStables
  obtain ⟨y, e, hy⟩ := szGraph_eq g 1048576 hx hx2 (by omega) (by omega)
  rw [e, Option.bind_some]
  rcases hy with hy | ⟨hy, hy0⟩
  · simp only [hy, decide_true, cond_true]
  · have hd : decide (y < 0) = false := by simp; omega
    have htn := tot_nonneg g
    have h1 : Sh2 g := Sh2.of_tot (by unfold Sh; omega) (by omega)
    obtain ⟨L, e1, e2, h2, h3⟩ := Lasting_both g h1
    have n1 := tot_nonneg L
    simp only [hd, cond_false, toGraph_eq g h1, e1, e2, Option.bind_some, eqSS_eq L L h2, decide_true, Bool.not_true, eqGraph_eq g g h1, markGraph_eq g 1 h1 (by omega) (by omega)]
    have d1 : decide (1 + tot g < 0) = false := by simp; omega
    have d2 : decide (1 + tot L < 0) = false := by simp; omega
    simp only [Option.bind_some, d1, cond_false, markSS_eq L 1 h2 (by omega) (by omega), heldSS_eq L 1 h2 (by omega) (by omega), d2, bne_self_eq_false]
end Go.Sx
