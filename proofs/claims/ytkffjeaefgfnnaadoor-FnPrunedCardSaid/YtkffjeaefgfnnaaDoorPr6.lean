/- Parts of the proof: Qc, Qd, Qe, V1D, Ra, Rb, F1D, Sa, Sb, Sc, Ua, Ub, Rc, Rd, Sd, Se, Ta, Sf, Qf, Re, Tb, Tc, Uc, Va, Vc, Td, Ud, Vb, Vd, Wa, Wb, Qg, Wc, Wd, Ue, We, Wf, Yd, Ye, Yf. -/
import Derived.Test.YtkffjeaefgfnnaaDoorPr5
import Derived.KernelRfl
set_option linter.unusedVariables false
set_option linter.unusedSimpArgs false
set_option linter.unusedSectionVars false
/- The program's and the reference's first helpers in closed form: sets, graphs, orders. Plain. -/
namespace Go.Sx
/-- short enough for every loop -/
def Sh {α : Type} (xs : List α) : Prop := xs.length ≤ 4294967296

theorem l1In_eq (a b c : Int) : D.d a b c = some (decide (b ≤ a) && decide (a ≤ c)) := rfl
theorem inRange_eq (a b c : Int) : D.i a b c = some (decide (b ≤ a) && decide (a ≤ c)) := rfl

theorem any_beq (xs : List Int) (n : Int) : xs.any (fun x => x == n) = decide (n ∈ xs) := by
  rw [Bool.eq_iff_iff, List.any_eq_true]; simp
theorem l1Has_eq (xs : List Int) (n : Int) (h : Sh xs) : D.e xs n = some (decide (n ∈ xs)) := by
  unfold Sh at h
  unfold D.e
  refine (loop_anyb xs.length (fun i => xs.getD i 0 == n) true (fun i hi => ?_) ?_ rfl rfl).trans ?_
  · simp only [dlt hi, cond_true, idx_nat hi, Option.bind_some, wi' hi (by omega), getD_lt hi]
    cases xs[i] == n <;> rfl
  · simp only [dnlt, cond_false]
  · rw [range_any_list xs (fun x => x == n) _ (fun i hi => by rw [getD_lt hi]), any_beq]
theorem contains_eq (xs : List Int) (n : Int) (h : Sh xs) : D.F xs n = some (decide (n ∈ xs)) := by
  unfold Sh at h
  unfold D.F D.x0
  have e : loopF (σ := Int) (ρ := (Unit) ⊕ (Int)) (fun (x_26 : Int) => cond (decide (x_26 < (xs.length : Int))) ((idx xs x_26).bind fun e_39 => cond (n == e_39) (some (.inr (.inr x_26))) (some (.inl (IntKind.i64.wrap (x_26 + 1))))) (some (.inr (.inl ())))) 0 =
      some (((List.range xs.length).findSome? (fun i => if xs.getD i 0 == n then some (Sum.inr (i : Int)) else none)).getD (.inl ())) := by
    refine loop_find xs.length _ _ (fun i hi => ?_) ?_
    · simp only [dlt hi, cond_true, idx_nat hi, Option.bind_some, wi' hi (by omega), getD_lt hi]
      rw [show (n == xs[i]) = (xs[i] == n) from Bool.beq_comm ..]
      cases xs[i] == n <;> rfl
    · simp only [dnlt, cond_false]
  rw [e, Option.bind_some]
  cases hf : (List.range xs.length).findSome? (fun i => if xs.getD i 0 == n then some (Sum.inr (i : Int) : Unit ⊕ Int) else none) with
  | none =>
    have : n ∉ xs := fun hm => by
      obtain ⟨i, hi, e⟩ := List.getElem_of_mem hm
      have := (List.findSome?_eq_none_iff.1 hf) i (List.mem_range.2 hi)
      rw [getD_lt hi, e] at this
      simp at this
    simp [this]
  | some r =>
    obtain ⟨i, hi, hr⟩ := List.exists_of_findSome?_eq_some hf
    have hi' := List.mem_range.1 hi
    rw [getD_lt hi'] at hr
    split at hr
    · rename_i hc
      cases hr
      have : n ∈ xs := by rw [← (beq_iff_eq.1 hc)]; exact List.getElem_mem _
      simp [this]
    · cases hr

/-- a set of numbers below n, as a list -/
def SetOf (xs : List Int) (n : Int) : Prop := Inc xs ∧ ∀ x ∈ xs, 0 ≤ x ∧ x < n
theorem SetOf.len : ∀ {xs : List Int} {n a : Int}, Inc xs → (∀ x ∈ xs, a ≤ x ∧ x < n) → xs = [] ∨ (xs.length : Int) ≤ n - a
  | [], _, _, _, _ => .inl rfl
  | x :: xs, n, a, h, hr => by
    right
    have h' := List.pairwise_cons.1 h
    have hx := hr x (by simp)
    rcases SetOf.len (a := x + 1) (n := n) h'.2 (fun y hy => ⟨by have := h'.1 y hy; omega, (hr y (by simp [hy])).2⟩) with e | e
    · subst e; simp; omega
    · simp; omega
theorem SetOf.length_le {xs : List Int} {n : Int} (h : SetOf xs n) (hn : 0 ≤ n) : (xs.length : Int) ≤ n := by
  rcases SetOf.len h.1 h.2 with e | e
  · subst e; simpa using hn
  · omega

theorem inc_iff (xs : List Int) : Inc xs ↔ ∀ i (hi : i + 1 < xs.length), xs[i] < xs[i + 1] := by
  unfold Inc
  constructor
  · intro h i hi
    exact List.pairwise_iff_getElem.1 h i (i + 1) (by omega) hi (by omega)
  · intro h
    rw [List.pairwise_iff_getElem]
    intro i j hi hj hij
    have key : ∀ k, ∀ hk : i + k + 1 < xs.length, xs[i] < xs[i + k + 1] := by
      intro k
      induction k with
      | zero => intro hk; exact h i hk
      | succ k ih => intro hk; have := ih (by omega); have := h (i + k + 1) hk; exact Int.lt_trans (ih (by omega)) this
    obtain ⟨k, rfl⟩ : ∃ k, j = i + k + 1 := ⟨j - i - 1, by omega⟩
    exact key k hj

def setB (xs : List Int) (n : Int) : Bool := (List.range xs.length).all fun i => (decide (0 ≤ xs.getD i 0) && decide (xs.getD i 0 ≤ n - 1)) && !(decide (0 < i) && decide (xs.getD i 0 ≤ xs.getD (i - 1) 0))
theorem setB_iff (xs : List Int) (n : Int) : setB xs n = true ↔ SetOf xs n := by
  unfold setB SetOf
  rw [all_forall, inc_iff]
  constructor
  · intro h
    refine ⟨fun i hi => ?_, fun x hx => ?_⟩
    · have := h (i + 1) hi
      simp [hi, show i < xs.length by omega] at this
      omega
    · obtain ⟨i, hi, rfl⟩ := List.getElem_of_mem hx
      have := h i hi
      simp [hi] at this
      omega
  · rintro ⟨h1, h2⟩ i hi
    have h3 := h2 _ (List.getElem_mem hi)
    simp [hi]
    refine ⟨by omega, ?_⟩
    rcases Nat.eq_zero_or_pos i with h0 | h0
    · exact .inl h0
    · right
      have := h1 (i - 1) (by omega)
      have e : i - 1 + 1 = i := by omega
      simp only [e] at this
      have e2 : xs[i - 1]?.getD 0 = xs[i - 1] := by rw [List.getElem?_eq_getElem (by omega)]; rfl
      rw [e2]; exact this

theorem increasing_eq (xs : List Int) (n : Int) (h : Sh xs) (h0 : 0 ≤ n) (hn : n ≤ 4294967296) : D.q xs n = some (setB xs n) := by
  unfold Sh at h
  unfold D.q
  refine loop_allb xs.length _ false (fun i hi => ?_) ?_ rfl rfl
  · simp only [dlt hi, cond_true, idx_nat hi, Option.bind_some, wi' hi (by omega), getD_lt hi, inRange_eq]
    rw [w64 (x := n - 1) (by omega) (by omega)]
    cases (decide (0 ≤ xs[i]) && decide (xs[i] ≤ n - 1))
    · simp
    · by_cases h0 : 0 < i
      · have e1 : IntKind.i64.wrap ((i : Int) - 1) = ((i - 1 : Nat) : Int) := by rw [w64 (by omega) (by omega)]; omega
        have hd : decide ((0 : Int) < (i : Int)) = true := by simp; omega
        simp only [Bool.not_true, cond_false, hd, cond_true, e1, idx_nat (show i - 1 < xs.length by omega), Option.bind_some, getD_lt (show i - 1 < xs.length by omega), h0, decide_true, Bool.true_and]
        cases decide (xs[i] ≤ xs[i - 1]) <;> rfl
      · have hd : decide ((0 : Int) < (i : Int)) = false := by simp; omega
        simp only [Bool.not_true, cond_false, hd, Option.bind_some, h0, decide_false, Bool.false_and, Bool.not_false, Bool.and_true, if_true]
  · simp only [dnlt, cond_false]

theorem l1Set_eq (xs : List Int) (n : Int) (h : Sh xs) (h0 : 0 ≤ n) (hn : n ≤ 4294967296) : D.p xs n = some (setB xs n) := by
  have hh := h
  unfold Sh at h
  unfold D.p
  by_cases hl : n < xs.length
  · have : setB xs n = false := by
      cases hb : setB xs n
      · rfl
      · have := ((setB_iff xs n).1 hb).length_le h0; omega
    simp [hl, this]
  · simp only [hl, decide_false, cond_false]
    refine loop_allb xs.length _ false (fun i hi => ?_) ?_ rfl rfl
    · simp only [dlt hi, cond_true, idx_nat hi, Option.bind_some, wi' hi (by omega), getD_lt hi, l1In_eq]
      rw [w64 (x := n - 1) (by omega) (by omega)]
      cases (decide (0 ≤ xs[i]) && decide (xs[i] ≤ n - 1))
      · simp
      · by_cases h0 : 0 < i
        · have e1 : IntKind.i64.wrap ((i : Int) - 1) = ((i - 1 : Nat) : Int) := by rw [w64 (by omega) (by omega)]; omega
          have hd : decide ((0 : Int) < (i : Int)) = true := by simp; omega
          simp only [Bool.not_true, cond_false, hd, cond_true, e1, idx_nat (show i - 1 < xs.length by omega), Option.bind_some, getD_lt (show i - 1 < xs.length by omega), h0, decide_true, Bool.true_and]
          cases decide (xs[i] ≤ xs[i - 1]) <;> rfl
        · have hd : decide ((0 : Int) < (i : Int)) = false := by simp; omega
          simp only [Bool.not_true, cond_false, hd, Option.bind_some, h0, decide_false, Bool.false_and, Bool.not_false, Bool.and_true, if_true]
    · simp only [dnlt, cond_false]

/-- row v of a graph -/
def row (g : List (List Int)) (v : Nat) : List Int := g.getD v []
theorem row_eq {g : List (List Int)} {v : Nat} (h : v < g.length) : row g v = g[v] := getD_lt h _
def adj (g : List (List Int)) (u v : Nat) : Prop := (v : Int) ∈ row g u

/-- a valid graph -/
structure GOk (g : List (List Int)) : Prop where
  n1 : 1 ≤ g.length
  n16 : g.length ≤ 16
  rows : ∀ v, v < g.length → SetOf (row g v) g.length
  irr : ∀ v, v < g.length → ¬ adj g v v
  sym : ∀ u v, u < g.length → adj g u v → adj g v u

theorem GOk.mem {g : List (List Int)} (h : GOk g) {u : Nat} (hu : u < g.length) {x : Int} (hx : x ∈ row g u) : ∃ v : Nat, x = v ∧ v < g.length ∧ adj g u v := by
  have := (h.rows u hu).2 x hx
  refine ⟨x.toNat, by omega, by omega, ?_⟩
  unfold adj
  rw [show ((x.toNat : Nat) : Int) = x by omega]; exact hx
theorem GOk.row_len {g : List (List Int)} (h : GOk g) {u : Nat} (hu : u < g.length) : (row g u).length ≤ 16 := by
  have := (h.rows u hu).length_le (by omega)
  have := h.n16
  omega
theorem GOk.lt {g : List (List Int)} (h : GOk g) {u v : Nat} (hu : u < g.length) (ha : adj g u v) : v < g.length := by
  obtain ⟨w, h1, h2, _⟩ := h.mem hu ha
  omega

/-- short in both ways -/
def Sh2 (g : List (List Int)) : Prop := Sh g ∧ ∀ r ∈ g, Sh r
theorem Sh2.row {g : List (List Int)} (h : Sh2 g) {v : Nat} (hv : v < g.length) : Sh (row g v) := by
  rw [row_eq hv]; exact h.2 _ (List.getElem_mem hv)
theorem idx_row {g : List (List Int)} {v : Nat} (h : v < g.length) : idx g (v : Int) = some (row g v) := by rw [row_eq h, idx_nat h]

def gB1 (g : List (List Int)) : Bool := (List.range g.length).all fun v => setB (row g v) g.length && !decide ((v : Int) ∈ row g v)
def gB2 (g : List (List Int)) : Bool := (List.range g.length).all fun v => (row g v).all fun x => decide ((v : Int) ∈ row g x.toNat)
def gB (g : List (List Int)) : Bool := decide (1 ≤ g.length) && decide (g.length ≤ 16) && gB1 g && gB2 g
theorem gB_iff (g : List (List Int)) : gB g = true ↔ GOk g := by
  unfold gB gB1 gB2
  simp only [Bool.and_eq_true, decide_eq_true_eq, setB_iff, Bool.not_eq_true', decide_eq_false_iff_not, List.all_eq_true, List.mem_range]
  constructor
  · rintro ⟨⟨⟨h1, h2⟩, h3⟩, h4⟩
    refine ⟨h1, h2, fun v hv => (h3 v hv).1, fun v hv => (h3 v hv).2, fun u v hu ha => ?_⟩
    have := h4 u hu v ha
    unfold adj
    simpa using this
  · intro h
    refine ⟨⟨⟨h.n1, h.n16⟩, fun v hv => ⟨h.rows v hv, h.irr v hv⟩⟩, fun v hv x hx => ?_⟩
    obtain ⟨u, rfl, hu, ha⟩ := h.mem hv hx
    have := h.sym v u hv ha
    simpa [adj] using this

theorem spec_GraphOk_eq (g : List (List Int)) (h : Sh2 g) : D.m g = some (gB g) := by
  have hl : g.length ≤ 4294967296 := h.1
  unfold D.m D.c
  simp only [Option.bind_some, l1In_eq]
  by_cases hn : 1 ≤ g.length ∧ g.length ≤ 16
  · have e : (decide ((1 : Int) ≤ (g.length : Int)) && decide ((g.length : Int) ≤ 16)) = true := by simp; omega
    simp only [e, Bool.not_true, cond_false]
    refine (loop_ck g.length (fun v => setB (row g v) g.length && !decide ((v : Int) ∈ row g v)) (.inl ()) (.inr false) (fun v hv => ?_) ?_).trans ?_
    rotate_left
    · simp only [dnlt, cond_false]
    · show cond (gB1 g) _ _ = _
      have e4 : gB g = (gB1 g && gB2 g) := by unfold gB; simp [hn.1, hn.2]
      rw [e4]
      cases hc : gB1 g with
      | false => rfl
      | true =>
        rw [cond_true, Bool.true_and]
        refine loop_allb g.length _ false (fun v hv => ?_) ?_ rfl rfl
        · have hset : SetOf (row g v) g.length := by
            have := (all_forall _ _).1 hc v hv
            simp only [Bool.and_eq_true] at this
            exact (setB_iff _ _).1 this.1
          simp only [dlt hv, cond_true]
          refine (loop_ck (row g v).length (fun i => decide ((v : Int) ∈ row g ((row g v).getD i 0).toNat)) (.inl ()) (.inr false) (fun i hi => ?_) ?_).trans ?_
          · have hx := hset.2 _ (List.getElem_mem hi)
            have e5 : idx g (row g v)[i] = some (row g ((row g v)[i]).toNat) := by
              have := idx_row (g := g) (v := ((row g v)[i]).toNat) (by omega)
              rwa [show ((((row g v)[i]).toNat : Nat) : Int) = (row g v)[i] by omega] at this
            have hs := h.row (v := ((row g v)[i]).toNat) (by omega)
            simp only [idx_row hv, Option.bind_some, dlt hi, cond_true, idx_nat hi, e5, l1Has_eq _ _ hs, wi (show i < 4611686018427387904 by have := h.row hv; unfold Sh at this; omega), getD_lt hi]
            cases decide ((v : Int) ∈ row g ((row g v)[i]).toNat) <;> rfl
          · simp only [idx_row hv, Option.bind_some, dnlt, cond_false]
          · rw [range_all_list (row g v) (fun x => decide ((v : Int) ∈ row g x.toNat)) _ (fun i hi => by rw [getD_lt hi]), wi' hv (by omega)]
            cases (row g v).all fun x => decide ((v : Int) ∈ row g x.toNat) <;> rfl
        · simp only [dnlt, cond_false]
    · simp only [dlt hv, cond_true, idx_row hv, Option.bind_some, l1Set_eq _ _ (h.row hv) (show (0 : Int) ≤ (g.length : Int) by omega) (by omega), l1Has_eq _ _ (h.row hv), wi' hv (by omega)]
      cases setB (row g v) g.length
      · rfl
      · cases decide ((v : Int) ∈ row g v) <;> rfl
  · have e : (decide ((1 : Int) ≤ (g.length : Int)) && decide ((g.length : Int) ≤ 16)) = false := by
      rw [Bool.eq_false_iff]; simp; omega
    simp only [e, Bool.not_false, cond_true]
    unfold gB
    congr 1
    symm
    rw [Bool.eq_false_iff]
    simp
    omega

theorem impl_GraphOk_eq (g : List (List Int)) (h : Sh2 g) : D.l g = some (gB g) := by
  have hl : g.length ≤ 4294967296 := h.1
  unfold D.l
  by_cases hn : 1 ≤ g.length ∧ g.length ≤ 16
  · have e : (decide ((g.length : Int) < (1 : Int)) || decide ((16 : Int) < (g.length : Int))) = false := by simp; omega
    simp only [e, cond_false]
    refine (loop_ck g.length (fun v => setB (row g v) g.length && !decide ((v : Int) ∈ row g v)) (.inl ()) (.inr false) (fun v hv => ?_) ?_).trans ?_
    rotate_left
    · simp only [dnlt, cond_false]
    · show cond (gB1 g) _ _ = _
      have e4 : gB g = (gB1 g && gB2 g) := by unfold gB; simp [hn.1, hn.2]
      rw [e4]
      cases hc : gB1 g with
      | false => rfl
      | true =>
        rw [cond_true, Bool.true_and]
        refine loop_allb g.length _ false (fun v hv => ?_) ?_ rfl rfl
        · have hset : SetOf (row g v) g.length := by
            have := (all_forall _ _).1 hc v hv
            simp only [Bool.and_eq_true] at this
            exact (setB_iff _ _).1 this.1
          simp only [dlt hv, cond_true, idx_row hv, Option.bind_some]
          refine (loop_ck (row g v).length (fun i => decide ((v : Int) ∈ row g ((row g v).getD i 0).toNat)) (.inl ()) (.inr false) (fun i hi => ?_) ?_).trans ?_
          · have hx := hset.2 _ (List.getElem_mem hi)
            have e5 : idx g (row g v)[i] = some (row g ((row g v)[i]).toNat) := by
              have := idx_row (g := g) (v := ((row g v)[i]).toNat) (by omega)
              rwa [show ((((row g v)[i]).toNat : Nat) : Int) = (row g v)[i] by omega] at this
            have hs := h.row (v := ((row g v)[i]).toNat) (by omega)
            simp only [Option.bind_some, dlt hi, cond_true, idx_nat hi, e5, contains_eq _ _ hs, wi (show i < 4611686018427387904 by have := h.row hv; unfold Sh at this; omega), getD_lt hi]
            cases decide ((v : Int) ∈ row g ((row g v)[i]).toNat) <;> rfl
          · simp only [dnlt, cond_false]
          · rw [range_all_list (row g v) (fun x => decide ((v : Int) ∈ row g x.toNat)) _ (fun i hi => by rw [getD_lt hi]), wi' hv (by omega)]
            cases (row g v).all fun x => decide ((v : Int) ∈ row g x.toNat) <;> rfl
        · simp only [dnlt, cond_false]
    · simp only [dlt hv, cond_true, idx_row hv, Option.bind_some, increasing_eq _ _ (h.row hv) (show (0 : Int) ≤ (g.length : Int) by omega) (by omega), contains_eq _ _ (h.row hv), wi' hv (by omega)]
      cases setB (row g v) g.length
      · rfl
      · cases decide ((v : Int) ∈ row g v) <;> rfl
  · have e : (decide ((g.length : Int) < (1 : Int)) || decide ((16 : Int) < (g.length : Int))) = true := by
      simp; omega
    simp only [e, cond_true]
    unfold gB
    congr 1
    symm
    rw [Bool.eq_false_iff]
    simp
    omega
end Go.Sx

/- Orders; the program's sets as bit masks; the reference's rising lists. Plain. -/
namespace Go.Sx
/-- an order of a graph -/
structure OOk (g : List (List Int)) (o : List Int) : Prop where
  len : o.length = g.length
  rng : ∀ x ∈ o, 0 ≤ x ∧ x < g.length
  nd : o.Nodup

theorem mem_take_iff {α : Type} {l : List α} {i : Nat} {x : α} : x ∈ l.take i ↔ ∃ j, ∃ h : j < l.length, j < i ∧ l[j] = x := by
  rw [List.mem_take_iff_getElem]
  constructor
  · rintro ⟨j, h, e⟩; exact ⟨j, by omega, by omega, e⟩
  · rintro ⟨j, h, h2, e⟩; exact ⟨j, by omega, e⟩
theorem nodup_iff {l : List Int} : l.Nodup ↔ ∀ i (hi : i < l.length), l[i] ∉ l.take i := by
  constructor
  · intro h i hi hm
    obtain ⟨j, hj, hji, e⟩ := mem_take_iff.1 hm
    have := (List.pairwise_iff_getElem.1 h) j i hj hi hji
    exact this e
  · intro h
    refine List.pairwise_iff_getElem.2 (fun i j hi hj hij e => h j hj (mem_take_iff.2 ⟨i, hi, hij, e⟩))
theorem sorted_inc {y : List Int} (hs : Srt y 0 y.length) (hn : y.Nodup) : Inc y := by
  unfold Inc
  rw [List.pairwise_iff_getElem]
  intro i j hi hj hij
  have h1 := hs i j (by omega) (by omega) (by omega)
  have h2 := (List.pairwise_iff_getElem.1 hn) i j hi hj hij
  simp [at', hi, hj] at h1
  have : y[i] ≠ y[j] := h2
  omega
/-! ### masks -/
theorem impl_one_eq (v : Nat) : D.b (v : Int) = some (ishl .u32 1 (v : Int)) := by
  unfold D.b
  have : decide ((v : Int) < 0) = false := by simp
  rw [this]; rfl
theorem impl_one_eq' {x : Int} (h : 0 ≤ x) : D.b x = some (ishl .u32 1 x) := by
  have := impl_one_eq x.toNat
  rwa [show ((x.toNat : Nat) : Int) = x by omega] at this
def mk (xs : List Int) : Int := xs.foldl (fun s v => ior .u32 s (ishl .u32 1 v)) 0
theorem maskOf_eq (xs : List Int) (h : Sh xs) (h0 : ∀ x ∈ xs, 0 ≤ x) : D.t xs = some (mk xs) := by
  unfold Sh at h
  unfold D.t
  refine (loop_listb xs (fun s i => (s, i)) (fun s v => ior .u32 s (ishl .u32 1 v)) (fun s => s) (fun _ => True) 0 trivial (fun s i hi _ => ⟨?_, trivial⟩) (fun s _ => ?_)).trans rfl
  · simp only [dlt hi, cond_true, idx_nat hi, Option.bind_some, wi' hi (by omega), impl_one_eq' (h0 _ (List.getElem_mem hi))]
  · simp only [dnlt, cond_false]
theorem VS_foldl_ior : ∀ (xs : List Int) (s : Int), VS s → VS (xs.foldl (fun s v => ior .u32 s (ishl .u32 1 v)) s)
  | [], s, h => h
  | x :: xs, s, _ => VS_foldl_ior xs _ (VS.ior _ _)
theorem VS.mk (xs : List Int) : VS (mk xs) := VS_foldl_ior xs 0 VS.zero
theorem has_foldl_ior (u : Nat) : ∀ (xs : List Int) (s : Int), VS s → (∀ x ∈ xs, 0 ≤ x ∧ x < 32) → has (xs.foldl (fun s v => ior .u32 s (ishl .u32 1 v)) s) u = (has s u || decide ((u : Int) ∈ xs))
  | [], s, _, _ => by simp
  | x :: xs, s, hs, h => by
    have hx := h x (by simp)
    rw [List.foldl_cons, has_foldl_ior u xs _ (VS.ior _ _) (fun y hy => h y (by simp [hy])), has_ior hs (VS.ishl _ _)]
    obtain ⟨k, rfl⟩ : ∃ k : Nat, x = k := ⟨x.toNat, by omega⟩
    rw [has_one (by omega)]
    by_cases hu : u = k
    · subst hu; simp
    · have : ¬ (u : Int) = (k : Int) := by omega
      simp [hu, this]
theorem has_mk {xs : List Int} (h : ∀ x ∈ xs, 0 ≤ x ∧ x < 32) (u : Nat) : has (mk xs) u = decide ((u : Int) ∈ xs) := by
  unfold mk; rw [has_foldl_ior u xs 0 VS.zero h, has_zero, Bool.false_or]

theorem GOk.mem0 {g : List (List Int)} (hg : GOk g) {r : List Int} (hr : r ∈ g) : r.length ≤ 16 ∧ ∀ x ∈ r, 0 ≤ x ∧ x < g.length := by
  obtain ⟨v, hv, rfl⟩ := List.getElem_of_mem hr
  rw [← row_eq hv]
  exact ⟨hg.row_len hv, (hg.rows v hv).2⟩
theorem netsOf_eq (g : List (List Int)) (hg : GOk g) : D.v g = some (g.map mk) := by
  have h16 := hg.n16
  unfold D.v
  refine (loop_map g (fun s i => (s, i)) mk (by omega) (fun s i hi _ => ?_) (fun s => ?_)).trans rfl
  · obtain ⟨h1, h2⟩ := hg.mem0 (List.getElem_mem hi)
    simp only [dlt hi, cond_true, idx_nat hi, Option.bind_some, wi' hi (by omega), maskOf_eq g[i] (by unfold Sh; omega) (fun x hx => (h2 x hx).1)]
  · simp only [dnlt, cond_false]
theorem wide_eq (xs : List Int) (h : Sh xs) : D.c0 xs = some xs := by
  unfold Sh at h
  unfold D.c0
  rw [makeD_zero (by omega) (by omega), Option.bind_some]
  refine (loop_map xs (fun s i => (s, i)) (fun x => x) h (fun s i hi _ => ?_) (fun s => ?_)).trans (by simp)
  · simp only [dlt hi, cond_true, idx_nat hi, Option.bind_some, wi' hi (by omega)]
  · simp only [dnlt, cond_false]

theorem least_eq {s : Int} (h : VS s) (h0 : s ≠ 0) : ∃ k : Nat, k < 32 ∧ D.S s = some (k : Int) ∧ has s k = true ∧ (∀ v, v < k → has s v = false) ∧
    (∀ v, has (iand .u32 s (IntKind.u32.wrap (s - 1))) v = (has s v && !decide (v = k))) := by
  obtain ⟨k, h1, h2, h3, h4, h5⟩ := least_spec h h0
  refine ⟨k, h1, ?_, h2, h3, h5⟩
  unfold D.S D.u0
  have e : (s == 0) = false := by simpa using h0
  simp only [e, cond_false, h4, tz_table k h1, Option.bind_some]
  rw [w64 (by omega) (by omega)]

theorem list_eq (s : Int) (h : VS s) : D.n s = some (elems s) := by
  unfold D.n
  have key : ∀ (n : Nat) (x : Int) (l : List Int), VS x → (elems x).length = n → l.length + n ≤ 32 →
      loopF (σ := Int × (List Int)) (ρ := ((List Int))) (fun (s_52 : Int × (List Int)) => match s_52 with | (x_55, l_56) => cond (x_55 != 0) ((D.S x_55).bind fun y_88 => (appendD l_56 ([y_88] : List Int)).bind fun l_99 => some (.inl ((iand .u32 x_55 (IntKind.u32.wrap (x_55 - 1))), l_99))) (some (.inr l_56))) (x, l) = some (l ++ elems x) := by
    intro n
    induction n with
    | zero =>
      intro x l hx hn _
      have e : elems x = [] := List.eq_nil_of_length_eq_zero hn
      have e0 : x = 0 := hx.eq_zero.2 fun v hv => by
        cases hc : has x v
        · rfl
        · have := mem_elems.2 ⟨v, hv, hc, rfl⟩; rw [e] at this; simp at this
      rw [e]
      refine loopF_done ?_
      have : (x != 0) = false := by simp [e0]
      simp only [this, cond_false, List.append_nil]
    | succ n ih =>
      intro x l hx hn hl
      have h0 : x ≠ 0 := by rintro rfl; rw [elems_zero] at hn; simp at hn
      obtain ⟨k, h1, h2, h3, h4, h5⟩ := least_eq hx h0
      have e := elems_least h1 h3 h4 h5
      have en : (elems (iand .u32 x (IntKind.u32.wrap (x - 1)))).length = n := by rw [e] at hn; simpa using hn
      have hstep := ih (iand .u32 x (IntKind.u32.wrap (x - 1))) (l ++ [(k : Int)]) (VS.iand _ _) en (by simp; omega)
      have e1 : (x != 0) = true := by simpa using h0
      rw [loopF_more (s' := (iand .u32 x (IntKind.u32.wrap (x - 1)), l ++ [(k : Int)]))]
      · rw [hstep, e]; simp
      · simp only [e1, cond_true, h2, Option.bind_some, appendD_ok (xs := l) (ys := [(k : Int)]) (by simp; omega)]
  have := key (elems s).length s [] h rfl (by simpa using elems_len s)
  rw [this]; simp
theorem elems_sh (s : Int) : Sh (elems s) := by have := elems_len s; unfold Sh; omega
theorem numbers_eq (s : Int) (h : VS s) : D.x s = some (elems s) := by
  unfold D.x
  rw [list_eq s h, Option.bind_some, wide_eq _ (elems_sh s)]; rfl
/-! ### rising lists -/
theorem l1Copy_eq (xs : List Int) (h : Sh xs) : D.h xs = some xs := by
  unfold Sh at h
  unfold D.h
  rw [appendD_ok (by simpa using h)]; rfl
/-- with one more -/
def into (xs : List Int) (n : Int) : List Int := if n ∈ xs then xs else xs.takeWhile (fun x => decide (x < n)) ++ n :: xs.dropWhile (fun x => decide (x < n))
theorem mem_into {xs : List Int} {n x : Int} : x ∈ into xs n ↔ x = n ∨ x ∈ xs := by
  unfold into
  split
  · constructor
    · intro h; exact .inr h
    · rintro (rfl | h)
      · assumption
      · exact h
  · have e : x ∈ xs ↔ x ∈ xs.takeWhile (fun x => decide (x < n)) ++ xs.dropWhile (fun x => decide (x < n)) := by rw [List.takeWhile_append_dropWhile]
    rw [e]; simp only [List.mem_append, List.mem_cons]
    constructor
    · rintro (h | h | h) <;> simp [h]
    · rintro (h | h | h) <;> simp [h]
theorem inc_dropWhile {xs : List Int} {n : Int} (h : Inc xs) : ∀ y ∈ xs.dropWhile (fun x => decide (x < n)), n ≤ y := by
  induction xs with
  | nil => simp
  | cons x xs ih =>
    have h' := List.pairwise_cons.1 h
    intro y hy
    rw [List.dropWhile_cons] at hy
    split at hy
    · exact ih h'.2 y hy
    · rename_i hc
      simp at hc
      rcases List.mem_cons.1 hy with rfl | hy
      · exact hc
      · have := h'.1 y hy; omega
theorem inc_takeWhile {xs : List Int} {n : Int} : ∀ y ∈ xs.takeWhile (fun x => decide (x < n)), y < n := by
  intro y hy
  induction xs with
  | nil => simp at hy
  | cons x xs ih =>
    rw [List.takeWhile_cons] at hy
    split at hy
    · rename_i hc
      rcases List.mem_cons.1 hy with rfl | hy
      · simpa using hc
      · exact ih hy
    · simp at hy
theorem Inc.into {xs : List Int} (h : Inc xs) (n : Int) : Inc (into xs n) := by
  unfold Sx.into
  split
  · exact h
  · rename_i hn
    unfold Inc
    rw [List.pairwise_append]
    refine ⟨List.Pairwise.sublist (List.takeWhile_sublist _) h, List.pairwise_cons.2 ⟨fun y hy => ?_, List.Pairwise.sublist (List.dropWhile_sublist _) h⟩, fun a ha b hb => ?_⟩
    · have h1 := inc_dropWhile h y hy
      have h2 : y ≠ n := fun e => hn (e ▸ (List.dropWhile_sublist _).mem hy)
      omega
    · have h1 := inc_takeWhile a ha
      rcases List.mem_cons.1 hb with rfl | hb
      · exact h1
      · have := inc_dropWhile h b hb; omega
end Go.Sx

/- Open vertices, bags of an order: the reference's and the program's. Plain. -/
namespace Go.Sx
theorem takeWhile_eq_take {α : Type} (p : α → Bool) : ∀ (xs : List α), xs.takeWhile p = xs.take (xs.takeWhile p).length ∧ xs.dropWhile p = xs.drop (xs.takeWhile p).length
  | [] => by simp
  | x :: xs => by
    rw [List.takeWhile_cons, List.dropWhile_cons]
    cases p x
    · simp
    · have := takeWhile_eq_take p xs
      simp only [if_true, List.length_cons, List.take_succ_cons, List.drop_succ_cons, ← this.1, ← this.2, and_self]
theorem takeWhile_get {α : Type} (p : α → Bool) : ∀ (xs : List α) (i : Nat) (h : i < (xs.takeWhile p).length) (h' : i < xs.length), p xs[i] = true
  | x :: xs, i, h, h' => by
    rw [List.takeWhile_cons] at h
    cases hp : p x
    · rw [hp] at h; simp at h
    · rw [hp] at h
      cases i with
      | zero => simpa using hp
      | succ i => simp only [if_true, List.length_cons] at h; simpa using takeWhile_get p xs i (by omega) (by simpa using h')
theorem takeWhile_stop {α : Type} (p : α → Bool) : ∀ (xs : List α) (h : (xs.takeWhile p).length < xs.length), p (xs[(xs.takeWhile p).length]) = false
  | x :: xs, h => by
    cases hp : p x
    · simp [List.takeWhile_cons, hp]
    · have h2 : (xs.takeWhile p).length < xs.length := by simpa [List.takeWhile_cons, hp] using h
      simpa [List.takeWhile_cons, hp] using takeWhile_stop p xs h2
theorem takeWhile_len_le {α : Type} (p : α → Bool) (xs : List α) : (xs.takeWhile p).length ≤ xs.length := (List.takeWhile_sublist _).length_le

theorem l1Into_eq (xs : List Int) (n : Int) (h : Inc xs) (hl : xs.length ≤ 4294967295) : D.J xs n = some (into xs n) := by
  unfold D.J
  generalize hk : (xs.takeWhile (fun x => decide (x < n))).length = k
  have hkl : k ≤ xs.length := by rw [← hk]; exact takeWhile_len_le _ _
  have htk : xs.takeWhile (fun x => decide (x < n)) = xs.take k := by rw [← hk]; exact (takeWhile_eq_take _ xs).1
  have hdk : xs.dropWhile (fun x => decide (x < n)) = xs.drop k := by rw [← hk]; exact (takeWhile_eq_take _ xs).2
  refine (loop_to (fun i => ((i : Nat) : Int)) k (k : Int) rfl (fun i hi => ?_) ?_).trans ?_
  · have hi' : i < xs.length := by omega
    have hp : decide (xs[i] < n) = true := takeWhile_get (fun x => decide (x < n)) xs i (by omega) hi'
    simp only [dlt hi', cond_true, idx_nat hi', Option.bind_some, hp, wi (show i < 4611686018427387904 by omega)]
  · by_cases hlt : k < xs.length
    · have hp : decide (xs[k] < n) = false := by
        have := takeWhile_stop (fun x => decide (x < n)) xs (by omega)
        simp only [hk] at this; exact this
      simp only [dlt hlt, cond_true, idx_nat hlt, Option.bind_some, hp, cond_false]
    · obtain rfl : k = xs.length := by omega
      simp only [dnlt, cond_false, Option.bind_some]
  · have hS1 : Sh (xs.take k) := by unfold Sh; rw [List.length_take]; omega
    have hrest : ((sliceD xs 0 (k : Int)).bind fun l_135 => (D.h l_135).bind fun y_139 => (appendD y_139 ([n] : List Int)).bind fun l_154 => (sliceD xs (k : Int) (xs.length : Int)).bind fun l_160 => (appendD l_154 l_160).bind fun l_164 => some l_164) = some (xs.take k ++ n :: xs.drop k) := by
      simp only [sliceD_pre hkl, sliceD_post hkl, Option.bind_some, l1Copy_eq _ hS1]
      rw [appendD_ok (by simp; omega), Option.bind_some, appendD_ok (by simp; omega), Option.bind_some]
      simp
    by_cases hlt : k < xs.length
    · simp only [dlt hlt, cond_true, idx_nat hlt, Option.bind_some]
      by_cases he : xs[k] = n
      · have hm : n ∈ xs := by rw [← he]; exact List.getElem_mem _
        have : (xs[k] == n) = true := by simp [he]
        simp only [this, cond_true]
        unfold into; rw [if_pos hm]
      · have : (xs[k] == n) = false := by simpa using he
        simp only [this, cond_false, hrest]
        unfold into
        rw [htk, hdk, if_neg]
        intro hm
        obtain ⟨j, hj, e⟩ := List.getElem_of_mem hm
        have hst : decide (xs[k] < n) = false := by
          have := takeWhile_stop (fun x => decide (x < n)) xs (by omega)
          simp only [hk] at this; exact this
        simp at hst
        rcases Nat.lt_trichotomy j k with h1 | h1 | h1
        · have := takeWhile_get (fun x => decide (x < n)) xs j (by omega) hj
          simp at this; omega
        · subst h1; exact he e
        · have := (List.pairwise_iff_getElem.1 h) k j hlt hj h1
          omega
    · obtain rfl : k = xs.length := by omega
      simp only [dnlt, cond_false, Option.bind_some, hrest]
      unfold into
      rw [htk, hdk, if_neg]
      intro hm
      obtain ⟨j, hj, e⟩ := List.getElem_of_mem hm
      have := takeWhile_get (fun x => decide (x < n)) xs j (by omega) hj
      simp at this; omega

end Go.Sx



/- What the laws draw with their dice: graphs that are right, orders that are right. Plain. -/
namespace Go.Sx
/-- dice in order: bytes, and a place among them -/
structure DK (b : List Int) (i : Int) : Prop where
  byte : ∀ x ∈ b, 0 ≤ x ∧ x ≤ 255
  len : b.length ≤ 4096
  i0 : 0 ≤ i
  i1 : i ≤ b.length

theorem iand_u64_le (a : Int) (n : Nat) (hn : n < 18446744073709551616) : 0 ≤ iand .u64 a (n : Int) ∧ iand .u64 a (n : Int) ≤ n := by
  have e : (BitVec.ofInt 64 (n : Int)).toNat = n := by rw [BitVec.toNat_ofInt]; omega
  have h : (BitVec.ofInt 64 a &&& BitVec.ofInt 64 (n : Int)).toNat ≤ n := by
    rw [BitVec.toNat_and, e]; exact Nat.and_le_right
  have w : ∀ m : Nat, m < 18446744073709551616 → IntKind.u64.wrap (m : Int) = m := fun m hm => by
    simp [IntKind.wrap, IntKind.signed, IntKind.bits]; omega
  have e2 : iand .u64 a (n : Int) = (((BitVec.ofInt 64 a &&& BitVec.ofInt 64 (n : Int)).toNat : Nat) : Int) := by
    show IntKind.u64.wrap (((BitVec.ofInt 64 a &&& BitVec.ofInt 64 (n : Int)).toNat : Nat) : Int) = _
    exact w _ (by omega)
  rw [e2]; omega
theorem tmod_rng {x n : Int} (hx : 0 ≤ x) (hn : 0 < n) : 0 ≤ Int.tmod x n ∧ Int.tmod x n < n :=
  ⟨Int.tmod_nonneg _ hx, Int.tmod_lt_of_pos _ hn⟩

theorem below_ok {b : List Int} {i : Int} (h : DK b i) (z n : Int) (hn : 0 < n) : ∃ r i' z', D.k b i z n = some (r, b, i', z') ∧ 0 ≤ r ∧ r < n ∧ DK b i' := by
  obtain ⟨h1, h2, h3, h4⟩ := h
  unfold D.k
  have hn0 : (n == 0) = false := by simp; omega
  have hc : ∀ y : Int, 0 ≤ iand .u64 y 16777215 ∧ iand .u64 y 16777215 ≤ 16777215 := fun y => iand_u64_le y 16777215 (by omega)
  by_cases hi : i < b.length
  · have hb := h1 _ (List.getElem_mem (show i.toNat < b.length by omega))
    simp only [hi, decide_true, cond_true, idx_int h3 hi, Option.bind_some, hn0, cond_false]
    have hy := hc (ishr .u64 (IntKind.u64.wrap ((IntKind.u64.wrap (z * 6364136223846793005)) + 1442695040888963407)) 33)
    generalize iand .u64 (ishr .u64 (IntKind.u64.wrap ((IntKind.u64.wrap (z * 6364136223846793005)) + 1442695040888963407)) 33) 16777215 = y at hy ⊢
    rw [w64 (x := y) (by omega) (by omega), w64 (x := b[i.toNat]) (by omega) (by omega), w64 (x := y + b[i.toNat]) (by omega) (by omega), w64 (x := i + 1) (by omega) (by omega)]
    have hr := tmod_rng (x := y + b[i.toNat]) (n := n) (by omega) hn
    exact ⟨_, _, _, rfl, hr.1, hr.2, h1, h2, by omega, by omega⟩
  · simp only [hi, decide_false, cond_false, hn0]
    have hy := hc (ishr .u64 (IntKind.u64.wrap ((IntKind.u64.wrap (z * 6364136223846793005)) + 1442695040888963407)) 33)
    generalize iand .u64 (ishr .u64 (IntKind.u64.wrap ((IntKind.u64.wrap (z * 6364136223846793005)) + 1442695040888963407)) 33) 16777215 = y at hy ⊢
    rw [w64 (x := y) (by omega) (by omega)]
    have hr := tmod_rng (x := y) (n := n) (by omega) hn
    exact ⟨_, _, _, rfl, hr.1, hr.2, h1, h2, h3, h4⟩

theorem below_then {b : List Int} {i : Int} (h : DK b i) (z n : Int) (hn : 0 < n) : ∃ y, D.k b i z n = some y ∧ (0 ≤ y.1 ∧ y.1 < n ∧ y.2.1 = b ∧ DK b y.2.2.1) := by
  obtain ⟨r, i', z', e, h1, h2, h3⟩ := below_ok h z n hn
  exact ⟨_, e, h1, h2, rfl, h3⟩
theorem roll_ok (code : List Int) (seed : Int) (h : ∀ x ∈ code, 0 ≤ x ∧ x ≤ 255) (hl : code.length ≤ 4096) : ∃ z, D.p0 code seed = some (code, 0, z) ∧ DK code 0 := by
  unfold D.p0
  refine ⟨_, (loop_listb code (fun s i => (i, s)) (fun s e => IntKind.u64.wrap ((IntKind.u64.wrap ((IntKind.u64.wrap (s * 1099511628211)) + (IntKind.u64.wrap e))) + 3)) (fun s => s) (fun _ => True) _ trivial (fun s i hi _ => ⟨?_, trivial⟩) (fun s _ => ?_)).trans rfl, h, hl, by omega, by omega⟩
  · simp only [dlt hi, cond_true, idx_nat hi, Option.bind_some, wi (show i < 4611686018427387904 by omega)]
  · simp only [dnlt, cond_false]

/-! ### a graph out of edges -/
theorem l1Empty_eq (n : Nat) (hn : n ≤ 16) : D.D (n : Int) = some (List.replicate n []) := by
  unfold D.D
  refine (loop_to (fun i => ((i : Int), List.replicate i [])) n (List.replicate n []) (by simp) (fun i hi => ?_) ?_).trans rfl
  · simp only [dlt hi, cond_true, wi (show i < 4611686018427387904 by omega)]
    rw [appendD_ok (by simp; omega), Option.bind_some, ← List.replicate_succ']
  · simp only [dnlt, cond_false]

theorem row_set {g : List (List Int)} {u v : Nat} {r : List Int} (hu : u < g.length) : row (g.set u r) v = if v = u then r else row g v := by
  unfold row
  by_cases h : v = u
  · subst h; simp [hu]
  · rw [if_neg h, List.getD_eq_getElem?_getD, List.getElem?_set_ne (fun e => h e.symm), ← List.getD_eq_getElem?_getD]

theorem l1Link_ok {g : List (List Int)} (hg : GOk g) {u v : Nat} (hu : u < g.length) (hv : v < g.length) (huv : u ≠ v) :
    ∃ g', D.o g (u : Int) (v : Int) = some g' ∧ GOk g' ∧ g'.length = g.length ∧ ∀ a b, adj g' a b ↔ adj g a b ∨ (a = u ∧ b = v) ∨ (a = v ∧ b = u) := by
  have h16 := hg.n16
  have hru := hg.rows u hu; have hrv := hg.rows v hv
  have hlu := hg.row_len hu; have hlv := hg.row_len hv
  refine ⟨(g.set u (into (row g u) v)).set v (into (row g v) u), ?_, ?_⟩
  · unfold D.o
    have e1 : row (g.set u (into (row g u) v)) v = row g v := by rw [row_set hu, if_neg (Ne.symm huv)]
    simp only [idx_row hu, Option.bind_some, l1Into_eq _ _ hru.1 (show (row g u).length ≤ 4294967295 by omega), Int.toNat_natCast]
    rw [idx_row (show v < (g.set u (into (row g u) v)).length by simpa using hv), e1]
    simp only [Option.bind_some, l1Into_eq _ _ hrv.1 (show (row g v).length ≤ 4294967295 by omega)]
  · have hrow : ∀ w, row ((g.set u (into (row g u) v)).set v (into (row g v) u)) w = if w = v then into (row g v) u else if w = u then into (row g u) v else row g w := by
      intro w
      rw [row_set (by simpa using hv), row_set hu]
    have hadj : ∀ a b, adj ((g.set u (into (row g u) v)).set v (into (row g v) u)) a b ↔ adj g a b ∨ (a = u ∧ b = v) ∨ (a = v ∧ b = u) := by
      intro a b
      unfold adj
      rw [hrow]
      by_cases ha : a = v
      · subst ha
        rw [if_pos rfl, mem_into]
        constructor
        · rintro (h | h)
          · exact .inr (.inr ⟨rfl, by omega⟩)
          · exact .inl h
        · rintro (h | ⟨h, _⟩ | ⟨_, h⟩)
          · exact .inr h
          · exact absurd h.symm huv
          · exact .inl (by omega)
      · rw [if_neg ha]
        by_cases ha' : a = u
        · subst ha'
          rw [if_pos rfl, mem_into]
          constructor
          · rintro (h | h)
            · exact .inr (.inl ⟨rfl, by omega⟩)
            · exact .inl h
          · rintro (h | ⟨_, h⟩ | ⟨h, _⟩)
            · exact .inr h
            · exact .inl (by omega)
            · exact absurd h ha
        · rw [if_neg ha']
          constructor
          · exact .inl
          · rintro (h | ⟨h, _⟩ | ⟨h, _⟩)
            · exact h
            · exact absurd h ha'
            · exact absurd h ha
    refine ⟨⟨by simpa using hg.n1, by simpa using h16, fun w hw => ?_, fun w hw => ?_, fun a b ha hab => ?_⟩, by simp, hadj⟩
    · simp only [List.length_set] at hw ⊢
      rw [hrow]
      split
      · refine ⟨hrv.1.into _, fun x hx => ?_⟩
        rcases mem_into.1 hx with rfl | hx
        · omega
        · exact hrv.2 x hx
      · split
        · refine ⟨hru.1.into _, fun x hx => ?_⟩
          rcases mem_into.1 hx with rfl | hx
          · omega
          · exact hru.2 x hx
        · exact hg.rows w hw
    · simp only [List.length_set] at hw
      rw [hadj]
      rintro (h | ⟨h1, h2⟩ | ⟨h1, h2⟩)
      · exact hg.irr w hw h
      · omega
      · omega
    · simp only [List.length_set] at ha
      rw [hadj] at hab ⊢
      rcases hab with h | h | h
      · exact .inl (hg.sym a b ha h)
      · exact .inr (.inr ⟨h.2, h.1⟩)
      · exact .inr (.inl ⟨h.2, h.1⟩)

theorem GOk.empty {n : Nat} (h1 : 1 ≤ n) (h16 : n ≤ 16) : GOk (List.replicate n []) := by
  have hr : ∀ v, row (List.replicate n []) v = [] := fun v => by
    unfold row
    rw [List.getD_eq_getElem?_getD, List.getElem?_replicate]; split <;> rfl
  refine ⟨by simpa using h1, by simpa using h16, fun v _ => ?_, fun v _ => ?_, fun u v _ h => ?_⟩
  · rw [hr]; exact ⟨by simp [Inc], by simp⟩
  · unfold adj; rw [hr]; simp
  · unfold adj at h; rw [hr] at h; simp at h

/-- two vertices, the lesser one first -/
def EdgeIn (n : Nat) (e : List Int) : Prop := ∃ a b : Nat, e = [(a : Int), (b : Int)] ∧ a < b ∧ b < n
theorem setB_edge {n : Nat} {a b : Nat} (h : a < b) (hb : b < n) : setB [(a : Int), (b : Int)] n = true := by
  rw [setB_iff]
  refine ⟨by simp [Inc]; omega, fun x hx => ?_⟩
  simp at hx
  rcases hx with rfl | rfl <;> omega

theorem GraphOf_ok (n : Nat) (edges : List (List Int)) (h1 : 1 ≤ n) (h16 : n ≤ 16) (he : edges.length ≤ 120) (hE : ∀ e ∈ edges, EdgeIn n e) :
    ∃ g, D.R (n : Int) edges = some (g, true) ∧ GOk g ∧ g.length = n ∧ ∀ a b : Nat, adj g a b ↔ ([(a : Int), (b : Int)] ∈ edges ∧ a < b) ∨ ([(b : Int), (a : Int)] ∈ edges ∧ b < a) := by
  unfold D.R
  rw [l1In_eq]
  have e1 : (decide ((1 : Int) ≤ (n : Int)) && decide ((n : Int) ≤ 16)) = true := by simp; omega
  have e2 : decide ((120 : Int) < (edges.length : Int)) = false := by simp; omega
  simp only [Option.bind_some, e1, e2, Bool.not_true, Bool.or_false, cond_false, l1Empty_eq n h16]
  have key : ∀ (k i : Nat) (g : List (List Int)), i + k = edges.length → GOk g → g.length = n → (∀ a b : Nat, adj g a b ↔ ([(a : Int), (b : Int)] ∈ edges.take i ∧ a < b) ∨ ([(b : Int), (a : Int)] ∈ edges.take i ∧ b < a)) →
      ∃ g', loopF (σ := Int × (List (List Int))) (ρ := ((List (List Int))) ⊕ (((List (List Int))) × Bool)) (fun (s_217 : Int × (List (List Int))) => match s_217 with | (x_220, l_221) => cond (decide (x_220 < (edges.length : Int))) ((idx edges x_220).bind fun e_319 => (cond ((e_319.length : Int) != 2) (some true) ((idx edges x_220).bind fun e_356 => (D.p e_356 (n : Int)).bind fun y_362 => some (!y_362))).bind fun b_354 => cond b_354 (some (.inr (.inr (([] : List (List Int)), false)))) ((idx edges x_220).bind fun e_375 => (idx e_375 0).bind fun e_381 => (idx edges x_220).bind fun e_387 => (idx e_387 1).bind fun e_393 => (D.o l_221 e_381 e_393).bind fun y_401 => some (.inl ((IntKind.i64.wrap (x_220 + 1)), y_401)))) (some (.inr (.inl l_221)))) ((i : Int), g) = some (.inl g') ∧ GOk g' ∧ g'.length = n ∧ (∀ a b : Nat, adj g' a b ↔ ([(a : Int), (b : Int)] ∈ edges ∧ a < b) ∨ ([(b : Int), (a : Int)] ∈ edges ∧ b < a)) := by
    intro k
    induction k with
    | zero =>
      intro i g hi hg hl ha
      obtain rfl : i = edges.length := by omega
      rw [List.take_length] at ha
      exact ⟨g, loopF_done (by simp only [dnlt, cond_false]), hg, hl, ha⟩
    | succ k ih =>
      intro i g hi hg hl ha
      have hil : i < edges.length := by omega
      obtain ⟨a, b, eab, hab, hbn⟩ := hE _ (List.getElem_mem hil)
      obtain ⟨g', k1, k2, k3, k4⟩ := l1Link_ok hg (u := a) (v := b) (by omega) (by omega) (by omega)
      obtain ⟨g'', m1, m2⟩ := ih (i + 1) g' (by omega) k2 (by omega) (fun c d => by
        rw [k4, ha, List.take_succ_eq_append_getElem hil]
        simp only [List.mem_append, List.mem_singleton, eab, List.cons.injEq, and_true]
        constructor
        · rintro ((⟨h, h'⟩ | ⟨h, h'⟩) | ⟨rfl, rfl⟩ | ⟨rfl, rfl⟩)
          · exact .inl ⟨.inl h, h'⟩
          · exact .inr ⟨.inl h, h'⟩
          · exact .inl ⟨.inr ⟨rfl, rfl⟩, hab⟩
          · exact .inr ⟨.inr ⟨rfl, rfl⟩, hab⟩
        · rintro (⟨h | ⟨h, h2⟩, h'⟩ | ⟨h | ⟨h, h2⟩, h'⟩)
          · exact .inl (.inl ⟨h, h'⟩)
          · exact .inr (.inl ⟨by omega, by omega⟩)
          · exact .inl (.inr ⟨h, h'⟩)
          · exact .inr (.inr ⟨by omega, by omega⟩))
      refine ⟨g'', ?_, m2⟩
      rw [loopF_more (s' := (((i + 1 : Nat) : Int), g'))]
      · exact m1
      · have h0 : idx [(a : Int), (b : Int)] 0 = some (a : Int) := rfl
        have h1' : idx [(a : Int), (b : Int)] 1 = some (b : Int) := rfl
        have hlen : ((([(a : Int), (b : Int)]).length : Int) != 2) = false := rfl
        simp only [dlt hil, cond_true, idx_nat hil, eab, Option.bind_some, hlen, cond_false, l1Set_eq [(a : Int), (b : Int)] n (by simp [Sh]) (by omega) (by omega), setB_edge hab hbn, Bool.not_true, h0, h1', k1, wi (show i < 4611686018427387904 by omega)]
  obtain ⟨g', m1, m2, m3, m4⟩ := key edges.length 0 (List.replicate n []) (by omega) (GOk.empty h1 h16) (by simp) (fun a b => by
    unfold adj row
    rw [List.getD_eq_getElem?_getD, List.getElem?_replicate]
    split <;> simp)
  refine ⟨g', ?_, m2, m3, m4⟩
  rw [show ((0 : Nat) : Int) = 0 from rfl] at m1
  rw [m1]; rfl
end Go.Sx

/- Drawn graphs and drawn orders are right. Plain. -/
namespace Go.Sx
end Go.Sx



/- Drawn orders, the other way: each number is put at a drawn place, what stands there moves on. Plain. -/
namespace Go.Sx
theorem ext_getD {a b : List Int} (hl : a.length = b.length) (h : ∀ j, j < a.length → a.getD j 0 = b.getD j 0) : a = b := by
  apply List.ext_getElem hl
  intro j h1 h2
  have := h j h1
  rwa [getD_lt h1, getD_lt h2] at this
theorem getD_set (l : List Int) (i j : Nat) (x : Int) (hi : i < l.length) : (l.set i x).getD j 0 = if j = i then x else l.getD j 0 := by
  simp only [List.getD_eq_getElem?_getD, List.getElem?_set]
  by_cases h : j = i
  · subst h; simp [hi]
  · rw [if_neg (fun e => h e.symm), if_neg h]
end Go.Sx

/- Elimination: the filled neighbours and the later ones, by what they have. Plain. -/
namespace Go.Sx
/-- is w a neighbour of u, by masks -/
def nb (F : List Int) (u w : Nat) : Bool := has (F.getD u 0) w
/-- masks of a graph of n vertices -/
structure FOk (F : List Int) (n : Nat) : Prop where
  len : F.length = n
  vs : ∀ u, u < n → VS (F.getD u 0)
  lt : ∀ u w, u < n → nb F u w = true → w < n
  irr : ∀ u, u < n → nb F u u = false
  sym : ∀ u w, u < n → nb F u w = true → nb F w u = true

theorem FOk.ext {F F' : List Int} {n : Nat} (h : F.length = n) (h' : F'.length = n) (v : ∀ u, u < n → VS (F.getD u 0)) (v' : ∀ u, u < n → VS (F'.getD u 0)) (e : ∀ u w, u < n → nb F u w = nb F' u w) : F = F' := by
  refine ext_getD (by omega) (fun j hj => ?_)
  exact (v j (by omega)).ext (v' j (by omega)) (fun w _ => e j w (by omega))

theorem getD_map_mk (g : List (List Int)) (u : Nat) : (g.map mk).getD u 0 = mk (row g u) := by
  unfold row
  simp only [List.getD_eq_getElem?_getD, List.getElem?_map]
  cases g[u]? with
  | none => simp [mk]
  | some r => rfl
theorem nb_mk {g : List (List Int)} (hg : GOk g) {u w : Nat} (hu : u < g.length) : nb (g.map mk) u w = true ↔ adj g u w := by
  have h16 := hg.n16
  unfold nb
  rw [getD_map_mk, has_mk (fun x hx => by have := (hg.rows u hu).2 x hx; omega)]
  simp [adj]
theorem FOk.of {g : List (List Int)} (hg : GOk g) : FOk (g.map Sx.mk) g.length := by
  refine ⟨by simp, fun u _ => by rw [getD_map_mk]; exact VS.mk _, fun u w hu h => hg.lt hu ((nb_mk hg hu).1 h), fun u hu => ?_, fun u w hu h => ?_⟩
  · cases h : nb (g.map Sx.mk) u u
    · rfl
    · exact absurd ((nb_mk hg hu).1 h) (hg.irr u hu)
  · have ha := (nb_mk hg hu).1 h
    exact (nb_mk hg (hg.lt hu ha)).2 (hg.sym u w hu ha)

/-- the graph of masks -/
def grow (F : List Int) : List (List Int) := F.map elems
theorem mk_elems {s : Int} (h : VS s) : mk (elems s) = s := by
  refine (VS.mk _).ext h (fun v hv => ?_)
  rw [has_mk (fun x hx => by obtain ⟨w, h1, _, rfl⟩ := mem_elems.1 hx; omega), Bool.eq_iff_iff, decide_eq_true_eq, mem_elems_nat h]
theorem all_mask : ∀ n : Fin 17, ∀ v : Fin 32, has (IntKind.u32.wrap (ishl .u32 1 (n.val : Int) - 1)) v.val = decide (v.val < n.val) := by decide +kernel
/-- the order is a perfect elimination order -/
def PEO (F : List Int) (o : List Int) : Prop := ∀ (j : Nat) (v u w : Nat), o[j]? = some (v : Int) → nb F v u = true → nb F v w = true → (u : Int) ∉ o.take (j + 1) → (w : Int) ∉ o.take (j + 1) → u ≠ w → nb F u w = true
/-- later neighbours -/
def Lat (F L : List Int) (o : List Int) (i : Nat) : Prop := ∀ (j : Nat) (v : Nat), j < i → o[j]? = some (v : Int) → ∀ w, nb L v w = (nb F v w && decide ((w : Int) ∉ o.take (j + 1)))

/-- reached from u over those that are gone -/
inductive Via (F : List Int) (gone : Nat → Prop) (u : Nat) : Nat → Prop
  | me : Via F gone u u
  | step {x y : Nat} : Via F gone u x → nb F x y = true → gone y → Via F gone u y
theorem Via.mono {F : List Int} {g g' : Nat → Prop} {u x : Nat} (h : Via F g u x) (hg : ∀ y, g y → g' y) : Via F g' u x := by
  induction h with
  | me => exact .me
  | step _ h1 h2 ih => exact .step ih h1 (hg _ h2)
theorem Via.end_ {F : List Int} {g : Nat → Prop} {u x : Nat} (h : Via F g u x) : x = u ∨ g x := by
  cases h with
  | me => exact .inl rfl
  | step _ _ h2 => exact .inr h2
theorem Via.lt {F : List Int} {n : Nat} (hF : FOk F n) {g : Nat → Prop} {u x : Nat} (hu : u < n) (h : Via F g u x) : x < n := by
  induction h with
  | me => exact hu
  | step _ h1 _ ih => exact hF.lt _ _ ih h1
/-- and the way back -/
theorem Via.back {F : List Int} {n : Nat} (hF : FOk F n) {g g' : Nat → Prop} (hg : ∀ y, g y → g' y) {v x : Nat} (hv : v < n) (hgv : g' v) (h : Via F g v x) : ∀ z, Via F g' z x → Via F g' z v := by
  induction h with
  | me => exact fun z h => h
  | step hx h1 h2 ih =>
    intro z hz
    have hxn := Via.lt hF hv hx
    refine ih z (.step hz (hF.sym _ _ hxn h1) ?_)
    rcases hx.end_ with e | e
    · rw [e]; exact hgv
    · exact hg _ e
/-- behind v, by those that are gone -/
def Bhd (F : List Int) (gone : Nat → Prop) (v w : Nat) : Prop := ∃ x, Via F gone v x ∧ nb F x w = true

structure EInv (n : Nat) (F0 o : List Int) (i : Nat) (F L : List Int) (left : Int) : Prop where
  f : FOk F n
  lenL : L.length = n
  vsL : ∀ u, u < n → VS (L.getD u 0)
  vsl : VS left
  left : ∀ v, has left v = decide (v < n ∧ (v : Int) ∉ o.take i)
  mono : ∀ u w, u < n → nb F0 u w = true → nb F u w = true
  lat : Lat F L o i
  peo : ∀ (j : Nat) (v u w : Nat), j < i → o[j]? = some (v : Int) → nb F v u = true → nb F v w = true → (u : Int) ∉ o.take (j + 1) → (w : Int) ∉ o.take (j + 1) → u ≠ w → nb F u w = true
  same : PEO F0 o → F = F0
  via : ∀ u w : Nat, u < n → (u : Int) ∉ o.take i → (w : Int) ∉ o.take i → u ≠ w → (nb F u w = true ↔ Bhd F0 (fun x => (x : Int) ∈ o.take i) u w)
  latb : ∀ (j : Nat) (v : Nat), j < i → o[j]? = some (v : Int) → ∀ w : Nat, nb L v w = true ↔ (w : Int) ∉ o.take (j + 1) ∧ Bhd F0 (fun x => (x : Int) ∈ o.take j) v w

theorem mem_take_mono {o : List Int} {j i : Nat} (h : j ≤ i) {x : Int} (hx : x ∈ o.take j) : x ∈ o.take i := by
  rw [mem_take_iff] at hx ⊢
  obtain ⟨k, h1, h2, h3⟩ := hx
  exact ⟨k, h1, by omega, h3⟩

theorem EInv.step {n : Nat} {F0 o F L : List Int} {i v : Nat} {left : Int} (h16 : n ≤ 16) (h0 : FOk F0 n) (hn : ∀ x ∈ o, 0 ≤ x ∧ x < n) (hnd : o.Nodup) (hi : i < o.length) (hv : o[i] = (v : Int)) (h : EInv n F0 o i F L left) {F' : List Int}
    (hl' : F'.length = n) (hv' : ∀ u, u < n → VS (F'.getD u 0)) (h' : ∀ u w, u < n → nb F' u w = (nb F u w || (has (iand .u32 (F.getD v 0) (iandNot .u32 left (ishl .u32 1 (v : Int)))) u && has (iand .u32 (F.getD v 0) (iandNot .u32 left (ishl .u32 1 (v : Int)))) w && decide (w ≠ u)))) :
    EInv n F0 o (i + 1) F' (L.set v (iand .u32 (F.getD v 0) (iandNot .u32 left (ishl .u32 1 (v : Int))))) (iandNot .u32 left (ishl .u32 1 (v : Int))) := by
  have hvn : v < n := by have := hn _ (List.getElem_mem hi); omega
  have hvt : (v : Int) ∉ o.take i := by rw [← hv]; exact nodup_iff.1 hnd i hi
  have htk : ∀ x : Nat, ((x : Int) ∈ o.take (i + 1)) ↔ ((x : Int) ∈ o.take i ∨ x = v) := fun x => by
    rw [List.take_succ_eq_append_getElem hi, List.mem_append, hv]; simp [Int.natCast_inj]
  have hleft : ∀ w, has (iandNot .u32 left (ishl .u32 1 (v : Int))) w = decide (w < n ∧ (w : Int) ∉ o.take (i + 1)) := fun w => by
    rw [has_iandNot h.vsl (VS.ishl _ _), has_one (by omega), h.left, Bool.eq_iff_iff]
    simp only [Bool.and_eq_true, decide_eq_true_eq, Bool.not_eq_true', decide_eq_false_iff_not, htk]
    constructor
    · rintro ⟨⟨a, b⟩, c⟩; exact ⟨a, fun hh => hh.elim b c⟩
    · rintro ⟨a, b⟩; exact ⟨⟨a, fun hh => b (.inl hh)⟩, fun hh => b (.inr hh)⟩
  have hS : ∀ w, has (iand .u32 (F.getD v 0) (iandNot .u32 left (ishl .u32 1 (v : Int)))) w = (nb F v w && decide ((w : Int) ∉ o.take (i + 1))) := fun w => by
    rw [has_iand (h.f.vs v hvn) (VS.iandNot _ _), hleft, Bool.eq_iff_iff]
    show (nb F v w && _) = true ↔ _
    simp only [Bool.and_eq_true, decide_eq_true_eq]
    exact ⟨fun ⟨a, b, c⟩ => ⟨a, c⟩, fun ⟨a, c⟩ => ⟨a, h.f.lt v w hvn a, c⟩⟩
  have hlV : VS (iandNot .u32 left (ishl .u32 1 (v : Int))) := VS.iandNot _ _
  generalize iandNot .u32 left (ishl .u32 1 (v : Int)) = left' at *
  generalize hSS : iand .u32 (F.getD v 0) left' = S at *
  have hSV : VS S := by rw [← hSS]; exact VS.iand _ _
  have hSlt : ∀ w, has S w = true → w < n ∧ (w : Int) ∉ o.take (i + 1) := fun w hw => by
    rw [hS] at hw
    simp only [Bool.and_eq_true, decide_eq_true_eq] at hw
    exact ⟨h.f.lt v w hvn hw.1, hw.2⟩
  have hmono : ∀ u w, u < n → nb F u w = true → nb F' u w = true := fun u w hu hh => by rw [h' u w hu, hh]; rfl
  -- rows of those that are gone do not change
  have hold : ∀ x : Nat, x < n → (x : Int) ∈ o.take (i + 1) → ∀ w, nb F' x w = nb F x w := fun x hx hm w => by
    rw [h' x w hx]
    have : has S x = false := by
      cases hc : has S x
      · rfl
      · exact absurd hm (hSlt x hc).2
    simp [this]
  have hf' : FOk F' n := by
    refine ⟨hl', hv', fun u w hu hh => ?_, fun u hu => ?_, fun u w hu hh => ?_⟩
    · rw [h' u w hu] at hh
      simp only [Bool.or_eq_true, Bool.and_eq_true] at hh
      rcases hh with hh | ⟨⟨_, hh⟩, _⟩
      · exact h.f.lt u w hu hh
      · exact (hSlt w hh).1
    · rw [h' u u hu, h.f.irr u hu]; simp
    · rw [h' u w hu] at hh
      simp only [Bool.or_eq_true, Bool.and_eq_true, decide_eq_true_eq] at hh
      rcases hh with hh | ⟨⟨h1, h2⟩, h3⟩
      · exact hmono w u (h.f.lt u w hu hh) (h.f.sym u w hu hh)
      · rw [h' w u (hSlt w h2).1, h1, h2]
        have : decide (u ≠ w) = true := by simpa using fun e => h3 e.symm
        simp [this]
  have hjv : ∀ j (x : Nat), o[j]? = some (x : Int) → j < o.length ∧ x < n ∧ (x : Int) ∈ o.take (j + 1) := fun j x hx => by
    obtain ⟨h1, h2⟩ := List.getElem?_eq_some_iff.1 hx
    have := hn _ (List.getElem_mem h1)
    refine ⟨h1, by omega, ?_⟩
    rw [mem_take_iff]; exact ⟨j, h1, by omega, h2⟩
  refine ⟨hf', by simp [h.lenL], fun u hu => ?_, hlV, hleft, fun u w hu hh => hmono u w hu (h.mono u w hu hh), fun j x hj hx w => ?_, fun j x u w hj hx h1 h2 h3 h4 h5 => ?_, fun hp => ?_, fun u w hu k1 k2 huw => ?_, fun j x hj hx w => ?_⟩
  · rw [getD_set _ _ _ _ (by rw [h.lenL]; exact hvn)]
    split
    · exact hSV
    · exact h.vsL u hu
  · obtain ⟨k1, k2, k3⟩ := hjv j x hx
    have k4 := mem_take_mono (show j + 1 ≤ i + 1 by omega) k3
    rw [hold x k2 k4 w]
    unfold nb
    rw [getD_set _ _ _ _ (by rw [h.lenL]; exact hvn)]
    by_cases hji : j = i
    · subst hji
      rw [List.getElem?_eq_getElem hi, hv] at hx
      have : x = v := by
        have : (v : Int) = (x : Int) := by simpa using hx
        omega
      subst this
      rw [if_pos rfl, hS]; rfl
    · have hne : x ≠ v := fun e => by
        subst e
        exact hvt (mem_take_mono (show j + 1 ≤ i by omega) k3)
      rw [if_neg hne]
      exact h.lat j x (by omega) hx w
  · obtain ⟨k1, k2, k3⟩ := hjv j x hx
    have k4 := mem_take_mono (show j + 1 ≤ i + 1 by omega) k3
    rw [hold x k2 k4] at h1 h2
    by_cases hji : j = i
    · subst hji
      rw [List.getElem?_eq_getElem hi, hv] at hx
      have : x = v := by
        have : (v : Int) = (x : Int) := by simpa using hx
        omega
      subst this
      have hu : has S u = true := by rw [hS, h1]; simpa using h3
      have hw : has S w = true := by rw [hS, h2]; simpa using h4
      rw [h' u w (hSlt u hu).1, hu, hw]
      have : decide (w ≠ u) = true := by simpa using fun e => h5 e.symm
      simp [this]
    · exact hmono u w (h.f.lt x u k2 h1) (h.peo j x u w (by omega) hx h1 h2 h3 h4 h5)
  · have hFF := h.same hp
    subst hFF
    refine FOk.ext hl' h.f.len hv' h.f.vs (fun u w hu => ?_)
    rw [h' u w hu, Bool.eq_iff_iff]
    simp only [Bool.or_eq_true, Bool.and_eq_true, decide_eq_true_eq]
    constructor
    · rintro (hh | ⟨⟨h1, h2⟩, h3⟩)
      · exact hh
      · have k1 := (hSlt u h1).2; have k2 := (hSlt w h2).2
        rw [hS] at h1 h2
        simp only [Bool.and_eq_true] at h1 h2
        exact hp i v u w (by rw [List.getElem?_eq_getElem hi, hv]) h1.1 h2.1 k1 k2 (fun e => h3 e.symm)
    · exact .inl
  · have q1 : (u : Int) ∉ o.take i := fun e => k1 ((htk u).2 (.inl e))
    have q2 : (w : Int) ∉ o.take i := fun e => k2 ((htk w).2 (.inl e))
    have huv : u ≠ v := fun e => k1 ((htk u).2 (.inr e))
    have hwv : w ≠ v := fun e => k2 ((htk w).2 (.inr e))
    have hgg : ∀ y : Nat, (y : Int) ∈ o.take i → (y : Int) ∈ o.take (i + 1) := fun y hy => (htk y).2 (.inl hy)
    rw [h' u w hu]
    simp only [Bool.or_eq_true, Bool.and_eq_true, decide_eq_true_eq]
    constructor
    · rintro (hh | ⟨⟨a1, a2⟩, _⟩)
      · obtain ⟨x, hx, e⟩ := (h.via u w hu q1 q2 huw).1 hh
        exact ⟨x, hx.mono hgg, e⟩
      · rw [hS] at a1 a2
        simp only [Bool.and_eq_true, decide_eq_true_eq] at a1 a2
        obtain ⟨x, hx, ex⟩ := (h.via v u hvn hvt q1 (fun e => huv e.symm)).1 a1.1
        obtain ⟨y, hy, ey⟩ := (h.via v w hvn hvt q2 (fun e => hwv e.symm)).1 a2.1
        have hvg : (v : Int) ∈ o.take (i + 1) := (htk v).2 (.inr rfl)
        have hxn := Via.lt h0 hvn hx
        have hxg : (x : Int) ∈ o.take (i + 1) := by
          rcases hx.end_ with e | e
          · rw [e]; exact hvg
          · exact hgg x e
        have hux : Via F0 (fun x => (x : Int) ∈ o.take (i + 1)) u x := .step .me (h0.sym x u hxn ex) hxg
        have huv' := Via.back h0 (g' := fun x => (x : Int) ∈ o.take (i + 1)) hgg hvn hvg hx u hux
        have hgo : ∀ y, Via F0 (fun x => (x : Int) ∈ o.take i) v y → Via F0 (fun x => (x : Int) ∈ o.take (i + 1)) u y := fun y hy => by
          induction hy with
          | me => exact huv'
          | step _ b1 b2 ih => exact .step ih b1 (hgg _ b2)
        exact ⟨y, hgo y hy, ey⟩
    · rintro ⟨x, hx, ex⟩
      have hcl : ∀ x, Via F0 (fun x => (x : Int) ∈ o.take (i + 1)) u x → Via F0 (fun x => (x : Int) ∈ o.take i) u x ∨ (Bhd F0 (fun x => (x : Int) ∈ o.take i) u v ∧ Via F0 (fun x => (x : Int) ∈ o.take i) v x) := fun x hx => by
        induction hx with
        | me => exact .inl .me
        | @step a b _ b1 b2 ih =>
          rcases (htk b).1 b2 with b2 | b2
          · rcases ih with ih | ⟨ih1, ih2⟩
            · exact .inl (.step ih b1 b2)
            · exact .inr ⟨ih1, .step ih2 b1 b2⟩
          · rcases ih with ih | ⟨ih1, ih2⟩
            · subst b2; exact .inr ⟨⟨a, ih, b1⟩, .me⟩
            · subst b2; exact .inr ⟨ih1, .me⟩
      rcases hcl x hx with hx | ⟨hx1, hx2⟩
      · exact .inl ((h.via u w hu q1 q2 huw).2 ⟨x, hx, ex⟩)
      · right
        have a1 := (h.via u v hu q1 hvt huv).2 hx1
        have a2 := (h.via v w hvn hvt q2 (fun e => hwv e.symm)).2 ⟨x, hx2, ex⟩
        refine ⟨⟨?_, ?_⟩, fun e => huw e.symm⟩
        · rw [hS, h.f.sym u v hu a1]; simpa using k1
        · rw [hS, a2]; simpa using k2
  · obtain ⟨k1, k2, k3⟩ := hjv j x hx
    unfold nb
    rw [getD_set _ _ _ _ (by rw [h.lenL]; exact hvn)]
    by_cases hji : j = i
    · subst hji
      rw [List.getElem?_eq_getElem hi, hv] at hx
      have : x = v := by
        have : (v : Int) = (x : Int) := by simpa using hx
        omega
      subst this
      rw [if_pos rfl, hS, Bool.and_eq_true, decide_eq_true_eq]
      constructor
      · rintro ⟨b1, b2⟩
        have b3 : (w : Int) ∉ o.take j := fun e => b2 ((htk w).2 (.inl e))
        have b4 : x ≠ w := fun e => b2 ((htk w).2 (.inr e.symm))
        exact ⟨b2, (h.via x w hvn hvt b3 b4).1 b1⟩
      · rintro ⟨b2, b1⟩
        have b3 : (w : Int) ∉ o.take j := fun e => b2 ((htk w).2 (.inl e))
        have b4 : x ≠ w := fun e => b2 ((htk w).2 (.inr e.symm))
        exact ⟨(h.via x w hvn hvt b3 b4).2 b1, b2⟩
    · have hne : x ≠ v := fun e => by
        subst e
        exact hvt (mem_take_mono (show j + 1 ≤ i by omega) k3)
      rw [if_neg hne]
      exact h.latb j x (by omega) hx w

end Go.Sx

/- How many a set has. Plain. -/
namespace Go.Sx
end Go.Sx

/- Sets in the order of their elements, and by size first: what the program's comparisons say, by a key. Plain. -/
namespace Go.Sx
/-- comparing lists -/
def cz : List Int → List Int → Int
  | [], [] => 0
  | [], _ :: _ => -1
  | _ :: _, [] => 1
  | a :: x, b :: y => if a < b then -1 else if b < a then 1 else cz x y
/-! ### a key for lists -/
def lk : Nat → List Int → Int
  | 0, _ => 0
  | _ + 1, [] => 0
  | d + 1, a :: l => (a + 1) * 33 ^ d + lk d l
def lkey (s : Int) : Int := lk 32 (elems s)
def skey (s : Int) : Int := ((elems s).length : Int) * 33 ^ 32 + lkey s
end Go.Sx

/- Sorts by a comparison are one sort. Plain, made by program. -/
namespace Go.Sx
end Go.Sx

/- Trees of bags: the reference's own check, where it answers true. Plain. -/
namespace Go.Sx
theorem nodup_le : ∀ {l m : List Int}, l.Nodup → (∀ x ∈ l, x ∈ m) → l.length ≤ m.length
  | [], _, _, _ => by simp
  | x :: l, m, h, hs => by
    have h' := List.nodup_cons.1 h
    have hx := hs x (by simp)
    have := nodup_le (l := l) (m := m.erase x) h'.2 (fun y hy => by
      have hne : y ≠ x := fun e => h'.1 (e ▸ hy)
      exact (List.mem_erase_of_ne hne).2 (hs y (by simp [hy])))
    rw [List.length_erase_of_mem hx] at this
    have hp : 0 < m.length := List.length_pos_of_mem hx
    simp; omega
theorem l1All_eq (n : Nat) (hn : n ≤ 4294967295) : D.g0 (n : Int) = some ((List.range n).map Int.ofNat) := by
  unfold D.g0
  refine (loop_to (fun i => ((List.range i).map Int.ofNat, (i : Int))) n ((List.range n).map Int.ofNat) (by simp) (fun i hi => ?_) ?_).trans rfl
  · simp only [dlt hi, cond_true, wi (show i < 4611686018427387904 by omega)]
    rw [appendD_ok (by simp; omega), Option.bind_some, List.range_succ, List.map_append]; rfl
  · simp only [dnlt, cond_false]

/-- which bags have a vertex -/
def withV (bags : List (List Int)) (v : Int) : List Int := ((List.range bags.length).filter fun b => decide (v ∈ bags.getD b [])).map Int.ofNat
/-- linked -/
def Lk (links : List (List Int)) (x y : Int) : Prop := [x, y] ∈ links ∨ [y, x] ∈ links
/-- m has the first of sel, and with each what is linked in sel -/
structure Closed (links : List (List Int)) (sel m : List Int) : Prop where
  sub : ∀ x ∈ m, x ∈ sel
  first : ∀ x, sel.head? = some x → x ∈ m
  step : ∀ x ∈ m, ∀ y ∈ sel, Lk links x y → y ∈ m

/-- all of sel hangs together -/
def Conn (links : List (List Int)) (sel : List Int) : Prop := ∀ m, Closed links sel m → ∀ x ∈ sel, x ∈ m
end Go.Sx

/- A tree of bags that is right, by the reference's own check. Plain. -/
namespace Go.Sx
/-- a link of two bags, the lesser one first -/
def LinkIn (n : Nat) (l : List Int) : Prop := ∃ a b : Nat, l = [(a : Int), (b : Int)] ∧ a < b ∧ b < n

/-- what a tree of bags of a graph is -/
structure TB (g bags links : List (List Int)) : Prop where
  n1 : 1 ≤ bags.length
  n16 : bags.length ≤ 16
  many : links.length + 1 = bags.length
  lks : ∀ l ∈ links, LinkIn bags.length l
  sets : ∀ b ∈ bags, SetOf b g.length
  tree : Conn links ((List.range bags.length).map Int.ofNat)
  edges : ∀ u v : Nat, u < g.length → adj g u v → ∃ b ∈ bags, (u : Int) ∈ b ∧ (v : Int) ∈ b
  some : ∀ v, v < g.length → withV bags v ≠ []
  conn : ∀ v, v < g.length → Conn links (withV bags v)

end Go.Sx

/- The edges of a graph, listed by the program and by the reference; the filled graph of an order. Plain. -/
namespace Go.Sx
theorem GOk.sh2 {g : List (List Int)} (hg : GOk g) : Sh2 g := by
  have h16 := hg.n16
  exact ⟨by unfold Sh; omega, fun r hr => by have := (hg.mem0 hr).1; unfold Sh; omega⟩
theorem gB_true {g : List (List Int)} (hg : GOk g) : gB g = true := (gB_iff g).2 hg
theorem nets_graph_eq (F : List Int) (h : F.length ≤ 16) (hV : ∀ u, u < F.length → VS (F.getD u 0)) : D.H F = some (grow F) := by
  unfold D.H
  refine (loop_map F (fun s i => (i, s)) elems (by omega) (fun s i hi _ => ?_) (fun s => ?_)).trans rfl
  · have := hV i hi
    rw [getD_lt hi] at this
    simp only [dlt hi, cond_true, idx_nat hi, Option.bind_some, numbers_eq _ this, wi (show i < 4611686018427387904 by omega)]
  · simp only [dnlt, cond_false]

theorem OOk.sh {g : List (List Int)} {o : List Int} (hg : GOk g) (ho : OOk g o) : Sh o := by
  have := hg.n16; have := ho.len; unfold Sh; omega
/-- what filling comes to -/
structure Fill (g : List (List Int)) (o F L : List Int) : Prop where
  elim : D.K0 (g.map mk) o = some (F, L)
  f : FOk F g.length
  lenL : L.length = g.length
  vsL : ∀ u, u < g.length → VS (L.getD u 0)
  mono : ∀ u w, u < g.length → adj g u w → nb F u w = true
  lat : Lat F L o g.length
  peo : PEO F o
  same : PEO (g.map mk) o → F = g.map mk
  latb : ∀ (j : Nat) (v : Nat), o[j]? = some (v : Int) → ∀ w : Nat, nb L v w = true ↔ (w : Int) ∉ o.take (j + 1) ∧ Bhd (g.map mk) (fun x => (x : Int) ∈ o.take j) v w

end Go.Sx

/- Who is left, cliques, and the reference's perfect orders, where there is one. Plain. -/
namespace Go.Sx
theorem take_filter_succ {α : Type} (p : α → Bool) {l : List α} {i : Nat} (hi : i < l.length) : (l.take (i + 1)).filter p = (l.take i).filter p ++ (if p l[i] then [l[i]] else []) := by
  rw [List.take_succ_eq_append_getElem hi, List.filter_append]
  congr 1
  rw [List.filter_cons, List.filter_nil]

theorem l1Edge_eq (g : List (List Int)) (hg : GOk g) {u : Nat} (hu : u < g.length) (w : Int) : D.Y g (u : Int) w = some (decide (w ∈ row g u)) := by
  unfold D.Y
  rw [idx_row hu, Option.bind_some, l1Has_eq _ _ (hg.sh2.row hu)]; rfl

end Go.Sx

/- Sums over the first numbers, counted pairs; the first least of a list. Plain. -/
namespace Go.Sx
/-! ### sums -/
def sumN (f : Nat → Nat) : Nat → Nat
  | 0 => 0
  | n + 1 => sumN f n + f n
def bit (b : Bool) : Nat := if b then 1 else 0
/-- pairs that are so, by rows -/
def S2 (n : Nat) (p : Nat → Nat → Bool) : Nat := sumN (fun u => sumN (fun w => bit (p u w)) n) n
/-! ### the first least of a list -/
def ast (f : Int → Int) (s : Int × Int) (v : Int) : Int × Int := if s.1 < 0 ∨ f v < s.2 then (v, f v) else s
def amin (f : Int → Int) (l : List Int) : Int × Int := l.foldl (ast f) (-1, 0)
theorem ast_run (f : Int → Int) : ∀ (l : List Int) (b : Int), 0 ≤ b → (∀ x ∈ l, 0 ≤ x) → ∃ c, l.foldl (ast f) (b, f b) = (c, f c) ∧ (c = b ∨ c ∈ l) ∧ 0 ≤ c ∧ f c ≤ f b ∧ ∀ x ∈ l, f c ≤ f x
  | [], b, hb, _ => ⟨b, rfl, .inl rfl, hb, Int.le_refl _, by simp⟩
  | x :: l, b, hb, hl => by
    have hx := hl x (by simp)
    have hl' := fun y hy => hl y (List.mem_cons_of_mem x hy)
    rw [List.foldl_cons]
    by_cases hc : f x < f b
    · have e : ast f (b, f b) x = (x, f x) := by unfold ast; rw [if_pos (.inr hc)]
      rw [e]
      obtain ⟨c, h1, h2, h3, h4, h5⟩ := ast_run f l x hx hl'
      refine ⟨c, h1, .inr ?_, h3, by omega, fun y hy => ?_⟩
      · rcases h2 with rfl | h2
        · simp
        · exact List.mem_cons_of_mem _ h2
      · rcases List.mem_cons.1 hy with rfl | hy
        · exact h4
        · exact h5 y hy
    · have e : ast f (b, f b) x = (b, f b) := by unfold ast; rw [if_neg (fun h => h.elim (fun h => by dsimp only at h; omega) hc)]
      rw [e]
      obtain ⟨c, h1, h2, h3, h4, h5⟩ := ast_run f l b hb hl'
      refine ⟨c, h1, ?_, h3, h4, fun y hy => ?_⟩
      · rcases h2 with h2 | h2
        · exact .inl h2
        · exact .inr (List.mem_cons_of_mem _ h2)
      · rcases List.mem_cons.1 hy with rfl | hy
        · omega
        · exact h5 y hy
theorem ast_first (f : Int → Int) (x : Int) : ast f (-1, 0) x = (x, f x) := by unfold ast; rw [if_pos (.inl (by decide))]
theorem amin_ok (f : Int → Int) {l : List Int} (hne : l ≠ []) (hl : ∀ x ∈ l, 0 ≤ x) : ∃ c, amin f l = (c, f c) ∧ c ∈ l ∧ ∀ x ∈ l, f c ≤ f x := by
  cases l with
  | nil => exact absurd rfl hne
  | cons x l =>
    unfold amin
    rw [List.foldl_cons, ast_first]
    obtain ⟨c, h1, h2, h3, h4, h5⟩ := ast_run f l x (hl x (by simp)) (fun y hy => hl y (List.mem_cons_of_mem _ hy))
    refine ⟨c, h1, ?_, fun y hy => ?_⟩
    · rcases h2 with rfl | h2
      · simp
      · exact List.mem_cons_of_mem _ h2
    · rcases List.mem_cons.1 hy with rfl | hy
      · exact h4
      · exact h5 y hy
theorem elems_nonneg (s : Int) : ∀ x ∈ elems s, 0 ≤ x := fun x hx => by
  obtain ⟨v, _, _, rfl⟩ := mem_elems.1 hx; omega
def full (n : Nat) : Int := IntKind.u32.wrap (ishl .u32 1 (n : Int) - 1)
theorem full_vs (n : Nat) : VS (full n) := VS.wrap _
theorem has_full {n : Nat} (h : n ≤ 16) (v : Nat) : has (full n) v = decide (v < n) := by
  by_cases hv : v < 32
  · exact all_mask ⟨n, by omega⟩ ⟨v, hv⟩
  · rw [has_big (full_vs n) (by omega)]; symm; simp; omega
theorem nets_all_full (F : List Int) : D.B F = some (full F.length) := by
  unfold D.B D.t0
  have : decide ((F.length : Int) < 0) = false := by simp
  rw [this]; rfl
end Go.Sx

/- 'laws.FnFill' comes to true. Plain. -/
namespace Go.Sx
theorem l1There_eq {g : List (List Int)} (hg : GOk g) {u : Nat} (hu : u < g.length) : D.l0 g (u : Int) = some true := by
  have := hg.n16
  unfold D.l0 D.c
  simp only [Option.bind_some, l1In_eq]
  rw [w64 (by omega) (by omega)]
  simp; omega
end Go.Sx

/- PathDecomp: the reference's and the program's are one. Plain. -/
namespace Go.Sx
section
variable {g : List (List Int)} {o : List Int} (hg : GOk g) (ho : OOk g o)
include hg ho
end

end Go.Sx

/- The bags of an order are a tree of bags, as wide as the order's separation; FnPathDecomp, plain. -/
namespace Go.Sx
section
variable {g : List (List Int)} {o : List Int} (hg : GOk g) (ho : OOk g o)
include hg ho

/-- the greatest of the first ones -/
def mx (f : Nat → Int) : Nat → Int
  | 0 => 0
  | n + 1 => max (mx f n) (f n)

end

end Go.Sx

/- The degeneracy: what both compute, and that no order's width is below it. Plain. -/
namespace Go.Sx
/-- neighbours within a set -/
def dg (g : List (List Int)) (s : Int) (v : Int) : Int := ((elems (iand .u32 (mk (row g v.toNat)) s)).length : Int)
/-- a set of some of the first vertices, of that many -/
structure SQ (n : Nat) (s : Int) (k : Nat) : Prop where
  vs : VS s
  lt : ∀ v, has s v = true → v < n
  card : (elems s).length = k
theorem SQ.ne {n k : Nat} {s : Int} (h : SQ n s (k + 1)) : elems s ≠ [] := fun e => by have := h.card; rw [e] at this; simp at this
theorem SQ.z {n : Nat} {s : Int} (h : SQ n s 0) : s = 0 := by
  rw [h.vs.eq_zero]
  intro v hv
  cases hc : has s v
  · rfl
  · have : (v : Int) ∈ elems s := (mem_elems_nat h.vs).2 hc
    have h0 := h.card
    rw [List.length_eq_zero_iff] at h0
    rw [h0] at this; simp at this
/-- the first least -/
theorem SQ.min {n k : Nat} {s : Int} (h : SQ n s (k + 1)) (f : Int → Int) : ∃ c : Nat, c < n ∧ has s c = true ∧ amin f (elems s) = ((c : Int), f c) ∧ ∀ v : Nat, has s v = true → f c ≤ f v := by
  obtain ⟨c, h1, h2, h3⟩ := amin_ok f h.ne (elems_nonneg s)
  obtain ⟨v, _, h5, rfl⟩ := mem_elems.1 h2
  exact ⟨v, h.lt v h5, h5, h1, fun w hw => h3 w ((mem_elems_nat h.vs).2 hw)⟩
end Go.Sx

/- Orders that take, again and again, who costs least: the program's and the reference's are one. Plain. -/
namespace Go.Sx
structure GQ (n i : Nat) (F o : List Int) (s : Int) : Prop where
  f : FOk F n
  left : SQ n s (n - i)
  len : o.length = i
  rng : ∀ x ∈ o, ∃ v : Nat, x = v ∧ v < n ∧ has s v = false
  nd : o.Nodup
theorem idx_F {F : List Int} {n v : Nat} (h : FOk F n) (hv : v < n) : idx F (v : Int) = some (F.getD v 0) := by
  have := h.len
  rw [idx_nat (by omega), getD_lt (by omega)]
theorem l1CopyGraph_eq {g : List (List Int)} (hg : GOk g) : D.r0 g = some g := by
  have h16 := hg.n16
  unfold D.r0
  refine (loop_map g (fun s i => (i, s)) (fun r => r) (by omega) (fun s i hi _ => ?_) (fun s => ?_)).trans (by simp)
  · simp only [dlt hi, cond_true, idx_nat hi, Option.bind_some, l1Copy_eq _ (hg.sh2.2 _ (List.getElem_mem hi)), wi (show i < 4611686018427387904 by omega)]
  · simp only [dnlt, cond_false]
end Go.Sx

/- The greatest cliques: the program finds each of them once. Plain. -/
namespace Go.Sx
/-- neighbours of each other -/
def CQ (F : List Int) (K : Int) : Prop := ∀ u w, has K u = true → has K w = true → u ≠ w → nb F u w = true
/-- and nobody more -/
def MX (F : List Int) (n : Nat) (K : Int) : Prop := CQ F K ∧ ∀ w, w < n → has K w = false → ∃ u, has K u = true ∧ nb F u w = false
/-- a set of vertices -/
def In (n : Nat) (K : Int) : Prop := VS K ∧ ∀ w, has K w = true → w < n
structure Tgt (F : List Int) (n : Nat) (C O K : Int) : Prop where
  ok : In n K
  mx : MX F n K
  sup : ∀ w, has C w = true → has K w = true
  sub : ∀ w, has K w = true → has C w = true ∨ has O w = true

theorem In.lt {n : Nat} {K : Int} (h : In n K) (hn : n ≤ 16) : 0 ≤ K ∧ K < 65536 := by
  obtain ⟨m, rfl, hm⟩ := h.1.nat
  refine ⟨by omega, ?_⟩
  have : m < 2 ^ 16 := by
    apply Nat.lt_pow_two_of_testBit
    intro i hi
    cases hc : m.testBit i
    · rfl
    · have := h.2 i (by rw [has_nat]; exact hc)
      omega
  omega
theorem masks_len {n : Nat} {l : List Int} (hn : n ≤ 16) (h : ∀ K ∈ l, In n K) (hd : l.Nodup) : l.length ≤ 65536 := by
  have := nodup_le (m := (List.range 65536).map Int.ofNat) hd (fun K hK => by
    have := (h K hK).lt hn
    exact List.mem_map.2 ⟨K.toNat, List.mem_range.2 (by omega), by show ((K.toNat : Nat) : Int) = K; omega⟩)
  simpa using this

structure BK (F : List Int) (n : Nat) (C O S : Int) : Prop where
  c : In n C
  o : In n O
  s : In n S
  cq : CQ F C
  cn : ∀ w, w < n → ((has O w = true ∨ has S w = true) ↔ ∀ u, has C u = true → nb F u w = true)
  dis : ∀ w, has O w = true → has S w = false

theorem rise_nodup {k : Int → Int} {l : List Int} (h : l.Pairwise (fun a b => k a < k b)) : l.Nodup := List.Pairwise.imp (fun h e => by subst e; omega) h

end Go.Sx

/- What the reference draws from bytes: graphs, right or wrong, orders, sets. Plain. -/
namespace Go.Sx
/-- a draw: something, and the bytes with a place in them -/
def Dw {α : Type} (b : List Int) (P : α → Prop) (e : Option (α × List Int × Int × Int)) : Prop := ∃ y, e = some y ∧ (P y.1 ∧ y.2.1 = b ∧ DK b y.2.2.1)
theorem Dw.then {α β : Type} {b : List Int} {P : α → Prop} {e : Option (α × List Int × Int × Int)} {k : α × List Int × Int × Int → Option β} {Q : β → Prop} (h : Dw b P e)
    (hk : ∀ a i z, P a → DK b i → ∃ y, k (a, b, i, z) = some y ∧ Q y) : ∃ y, e.bind k = some y ∧ Q y := by
  obtain ⟨⟨a, b', i, z⟩, rfl, h1, h2, h3⟩ := h
  dsimp only at h1 h2 h3
  subst h2
  exact hk a i z h1 h3

/-- few rows, and few in each -/
def Few (g : List (List Int)) : Prop := g.length ≤ 17 ∧ ∀ r ∈ g, r.length ≤ 17
theorem Few.sh2 {g : List (List Int)} (h : Few g) : Sh2 g := ⟨by have := h.1; unfold Sh; omega, fun r hr => by have := h.2 r hr; unfold Sh; omega⟩
theorem Few.set {g : List (List Int)} (h : Few g) (k : Nat) {r : List Int} (hr : r.length ≤ 17) : Few (g.set k r) := by
  refine ⟨by have := h.1; simpa using this, fun x hx => ?_⟩
  rcases List.mem_or_eq_of_mem_set hx with hx | rfl
  · exact h.2 x hx
  · exact hr

end Go.Sx

/- The reference's greatest cliques are the program's. Plain. -/
namespace Go.Sx
theorem elems_mk {n : Nat} {x : List Int} (hn : n ≤ 16) (hi : Inc x) (hr : ∀ z ∈ x, 0 ≤ z ∧ z < n) : elems (mk x) = x := by
  have h32 : ∀ z ∈ x, 0 ≤ z ∧ z < 32 := fun z hz => by have := hr z hz; omega
  refine Inc.ext (elems_inc _) hi (fun z => ?_)
  rw [mem_elems]
  constructor
  · rintro ⟨v, _, h, rfl⟩
    rw [has_mk h32] at h
    exact of_decide_eq_true h
  · intro hz
    have := h32 z hz
    refine ⟨z.toNat, by omega, ?_, by omega⟩
    rw [has_mk h32, show ((z.toNat : Nat) : Int) = z by omega]
    exact decide_eq_true hz

def Cq (g : List (List Int)) (x : List Int) : Prop := ∀ u w : Nat, (u : Int) ∈ x → (w : Int) ∈ x → u ≠ w → adj g u w
/-- a greatest clique, as a list -/
structure Fin' (g : List (List Int)) (x : List Int) : Prop where
  inc : Inc x
  rng : ∀ z ∈ x, 0 ≤ z ∧ z < g.length
  cq : Cq g x
  mx : ∀ w, w < g.length → ∃ u : Nat, (u : Int) ∈ x ∧ ¬ adj g u w
structure SK (g : List (List Int)) (set left out : List Int) : Prop where
  inc : Inc (set ++ left)
  r1 : ∀ z ∈ set ++ left, 0 ≤ z ∧ z < g.length
  r2 : ∀ z ∈ out, 0 ≤ z ∧ z < g.length
  cq : Cq g set
  cn : ∀ w : Nat, w < g.length → (((w : Int) ∈ left ∨ (w : Int) ∈ out) ↔ ∀ u : Nat, (u : Int) ∈ set → adj g u w)
  len : out.length + left.length ≤ 16

/-- the greatest cliques, in order -/
structure GC (g : List (List Int)) (l : List Int) : Prop where
  up : l.Pairwise fun a b => lkey a < lkey b
  mem : ∀ K, K ∈ l ↔ In g.length K ∧ MX (g.map mk) g.length K

end Go.Sx

/- 'laws.FnOrders' comes to true. Plain. -/
namespace Go.Sx
/-- pairs of a set that are no neighbours -/
def mis (F : List Int) (n : Nat) (S : Int) : Nat := S2 n (fun u w => has S u && (has S w && (decide (w < u) && !nb F w u)))
/-! ### both greedy orders -/
def cd (F : List Int) (s v : Int) : Int := ((elems (iand .u32 (F.getD v.toNat 0) s)).length : Int)
def cf (n : Nat) (F : List Int) (s v : Int) : Int := (mis F n (iand .u32 (F.getD v.toNat 0) s) : Int)
section
variable {g : List (List Int)} (hg : GOk g)
include hg
theorem OOk.shl {o : List Int} (ho : OOk g o) : Sh o := ho.sh hg
end
end Go.Sx

/- Sets as 64-bit numbers, as the reference has them. Plain. -/
namespace Go.Sx
/-- a set of at most 16 -/
def S16 (s : Int) : Prop := 0 ≤ s ∧ s < 65536
theorem S16.vs {s : Int} (h : S16 s) : VS s := ⟨h.1, by have := h.2; omega⟩
theorem S16.nat {s : Int} (h : S16 s) : ∃ n : Nat, s = n ∧ n < 65536 := ⟨s.toNat, by have := h.1; omega, by have := h.1; have := h.2; omega⟩
theorem S16.lt {s : Int} (h : S16 s) {v : Nat} (hv : has s v = true) : v < 16 := by
  obtain ⟨n, rfl, hn⟩ := h.nat
  rw [has_nat] at hv
  have := Nat.ge_two_pow_of_testBit hv
  apply Classical.byContradiction
  intro hc
  have h2 : 2 ^ 16 ≤ 2 ^ v := Nat.pow_le_pow_right (by omega) (by omega)
  omega
theorem In.of {n i : Nat} (h : i < 2 ^ n) (hn : n ≤ 16) : In n (i : Int) := by
  have : 2 ^ n ≤ 2 ^ 16 := Nat.pow_le_pow_right (by omega) hn
  refine ⟨⟨by omega, by omega⟩, fun w hw => ?_⟩
  rw [has_nat] at hw
  have := Nat.ge_two_pow_of_testBit hw
  apply Classical.byContradiction
  intro hc
  have h2 : 2 ^ n ≤ 2 ^ w := Nat.pow_le_pow_right (by omega) (by omega)
  omega
end Go.Sx

/- A graph whose vertices are renamed by an order; 'laws.FnSetsOk' comes to true. Plain. -/
namespace Go.Sx
/-! ### renaming -/
theorem vset_has_eq {s : Int} (h : VS s) {v : Nat} (hv : v < 32) : D.g s (v : Int) = some (has s v) := by
  unfold D.g
  have : decide ((v : Int) < 0) = false := by simp
  rw [this, cond_false, bitAt_eq h hv]
theorem impl_SetOk_eq (g : List (List Int)) (s : List Int) (h : Sh2 g) (hs : Sh s) : D.e0 g s = some (gB g && setB s g.length) := by
  unfold D.e0
  rw [impl_GraphOk_eq g h, Option.bind_some]
  cases gB g
  · rfl
  · have := h.1
    unfold Sh at this
    rw [cond_true, increasing_eq s _ hs (by omega) (by omega)]; rfl

theorem spec_SetOk_eq (g : List (List Int)) (s : List Int) (h : Sh2 g) (hs : Sh s) : D.Z g s = some (gB g && setB s g.length) := by
  unfold D.Z D.c
  rw [spec_GraphOk_eq g h, Option.bind_some]
  cases gB g
  · rfl
  · have := h.1
    unfold Sh at this
    rw [cond_true, Option.bind_some, l1Set_eq s _ hs (by omega) (by omega)]; rfl

end Go.Sx

/- 'laws.FnCliques' comes to true. Plain. -/
namespace Go.Sx
end Go.Sx

/- Prunes of a graph: the program accepts what the reference accepts. Plain. -/
namespace Go.Sx
theorem l1Same_eq (x y : List Int) (hx : Sh x) : D.f x y = some (decide (x = y)) := by
  unfold Sh at hx
  unfold D.f
  by_cases hl : x.length = y.length
  · have e : ((x.length : Int) != (y.length : Int)) = false := by simp [hl]
    rw [e, cond_false]
    refine (loop_allb x.length (fun i => x.getD i 0 == y.getD i 0) false (fun i hi => ?_) ?_ rfl rfl).trans ?_
    · have hi' : i < y.length := by omega
      simp only [dlt hi, cond_true, idx_nat hi, idx_nat hi', Option.bind_some, getD_lt hi, getD_lt hi', wi (show i < 4611686018427387904 by omega)]
      by_cases h : x[i] = y[i]
      · have : (x[i] != y[i]) = false := by simp [h]
        rw [this, cond_false, if_pos (by simp [h])]
      · have : (x[i] != y[i]) = true := by simp [h]
        rw [this, cond_true, if_neg (by simp [h])]
    · simp only [dnlt, cond_false]
    · congr 1
      rw [Bool.eq_iff_iff, all_forall, decide_eq_true_eq]
      constructor
      · intro h
        exact ext_getD hl (fun j hj => by have := h j hj; simpa using this)
      · rintro rfl i _; simp
  · have e : ((x.length : Int) != (y.length : Int)) = true := by simp; omega
    rw [e, cond_true, decide_eq_false (fun h => hl (by rw [h]))]

/-- who of a set is near v, but for one -/
def nearN (g : List (List Int)) (v : Nat) (but : Int) (l : List Int) : List Int := (row g v).filter fun x => x != but && decide (x ∈ l)
theorem l18Near_eq {g : List (List Int)} (hg : GOk g) {v : Nat} (hv : v < g.length) (but : Int) (l : List Int) (hl : Sh l) : D.u g l (v : Int) but = some (nearN g v but l) := by
  have hr := hg.row_len hv
  unfold D.u nearN
  refine (loop_to (fun i => (((row g v).take i).filter (fun x => x != but && decide (x ∈ l)), (i : Int))) (row g v).length ((row g v).filter fun x => x != but && decide (x ∈ l)) (by simp) (fun i hi => ?_) ?_).trans rfl
  · have hlen : (((row g v).take i).filter (fun x => x != but && decide (x ∈ l))).length ≤ 16 := Nat.le_trans (List.length_filter_le _ _) (by simp; omega)
    simp only [idx_row hv, Option.bind_some, dlt hi, cond_true, idx_nat hi, l1Has_eq _ _ hl, wi (show i < 4611686018427387904 by omega)]
    rw [take_filter_succ (fun x => x != but && decide (x ∈ l)) hi]
    cases (row g v)[i] != but
    · simp
    · rw [cond_true, Option.bind_some, Bool.true_and]
      cases decide ((row g v)[i] ∈ l)
      · simp
      · rw [cond_true, appendD_ok (by rw [List.length_singleton]; omega), Option.bind_some]; simp
  · simp only [idx_row hv, Option.bind_some, dnlt, cond_false, List.take_length]
theorem mem_nearN {g : List (List Int)} {v : Nat} {but : Int} {s : Int} (hs : VS s) (w : Nat) : (w : Int) ∈ nearN g v but (elems s) ↔ adj g v w ∧ (w : Int) ≠ but ∧ has s w = true := by
  unfold nearN adj
  rw [List.mem_filter, Bool.and_eq_true, decide_eq_true_eq, mem_elems_nat hs]
  simp

/-- may v be pruned by b, in the set s? -/
def canB (g : List (List Int)) (s : Int) (v : Nat) (b k : Int) : Prop :=
  if k = 1 then b = -1 ∧ ∀ w, has s w = true → ¬ adj g v w
  else ∃ u : Nat, b = u ∧ u ≠ v ∧ has s u = true ∧
    ((k = 2 ∧ ∀ w, has s w = true → (adj g v w ↔ w = u)) ∨ (k = 3 ∧ ¬ adj g v u ∧ ∀ w, has s w = true → (adj g v w ↔ adj g u w)) ∨
      (k = 4 ∧ adj g v u ∧ ∀ w, has s w = true → w ≠ u → w ≠ v → (adj g v w ↔ adj g u w)))

theorem nil_len {l : List Int} : (((l.length : Int) == 0) = true) ↔ l = [] := by
  rw [beq_iff_eq]
  constructor
  · intro h; exact List.length_eq_zero_iff.1 (by omega)
  · rintro rfl; rfl
theorem nearN_nil {g : List (List Int)} (hg : GOk g) {v : Nat} (hv : v < g.length) {but : Int} {s : Int} (hs : VS s) : nearN g v but (elems s) = [] ↔ ∀ w : Nat, adj g v w → (w : Int) ≠ but → has s w = true → False := by
  constructor
  · intro h w h1 h2 h3
    have := (mem_nearN (g := g) (v := v) (but := but) hs w).2 ⟨h1, h2, h3⟩
    rw [h] at this; simp at this
  · intro h
    cases hl : nearN g v but (elems s) with
    | nil => rfl
    | cons a l =>
      exfalso
      have ha : a ∈ nearN g v but (elems s) := by rw [hl]; simp
      obtain ⟨w, rfl, _, _⟩ := hg.mem hv (List.mem_filter.1 ha).1
      obtain ⟨h1, h2, h3⟩ := (mem_nearN hs w).1 ha
      exact h w h1 h2 h3
theorem nearN_same {g : List (List Int)} (hg : GOk g) {v u : Nat} (hv : v < g.length) (hu : u < g.length) {a b : Int} {s : Int} (hs : VS s) : nearN g v a (elems s) = nearN g u b (elems s) ↔ ∀ w : Nat, has s w = true → ((adj g v w ∧ (w : Int) ≠ a) ↔ (adj g u w ∧ (w : Int) ≠ b)) := by
  constructor
  · intro h w hw
    have h1 := mem_nearN (g := g) (v := v) (but := a) hs w
    have h2 := mem_nearN (g := g) (v := u) (but := b) hs w
    rw [h] at h1
    have h3 := h1.symm.trans h2
    constructor
    · rintro ⟨a1, a2⟩; have := h3.1 ⟨a1, a2, hw⟩; exact ⟨this.1, this.2.1⟩
    · rintro ⟨a1, a2⟩; have := h3.2 ⟨a1, a2, hw⟩; exact ⟨this.1, this.2.1⟩
  · intro h
    refine Inc.ext (List.Pairwise.filter _ (hg.rows v hv).1) (List.Pairwise.filter _ (hg.rows u hu).1) (fun x => ?_)
    constructor
    · intro hx
      obtain ⟨w, rfl, _, _⟩ := hg.mem hv (List.mem_filter.1 hx).1
      obtain ⟨h1, h2, h3⟩ := (mem_nearN hs w).1 hx
      have := (h w h3).1 ⟨h1, h2⟩
      exact (mem_nearN hs w).2 ⟨this.1, this.2, h3⟩
    · intro hx
      obtain ⟨w, rfl, _, _⟩ := hg.mem hu (List.mem_filter.1 hx).1
      obtain ⟨h1, h2, h3⟩ := (mem_nearN hs w).1 hx
      have := (h w h3).2 ⟨h1, h2⟩
      exact (mem_nearN hs w).2 ⟨this.1, this.2, h3⟩

theorem l18Goes_eq {g : List (List Int)} (hg : GOk g) {s : Int} (hs : In g.length s) {v : Nat} (hv : v < g.length) (b k : Int) : ∃ r, D.T g (elems s) (v : Int) b k = some r ∧ (r = true ↔ canB g s v b k) := by
  have hel := elems_len s
  have hsh : Sh (elems s) := by unfold Sh; omega
  unfold D.T canB
  rw [l18Near_eq hg hv b _ hsh, Option.bind_some]
  by_cases h1 : k = 1
  · have e : (k == 1) = true := by simp [h1]
    rw [e, cond_true, if_pos h1]
    refine ⟨_, rfl, ?_⟩
    rw [Bool.and_eq_true, nil_len, beq_iff_eq, nearN_nil hg hv hs.1]
    constructor
    · rintro ⟨h2, h3⟩
      exact ⟨h2, fun w hw ha => h3 w ha (by omega) hw⟩
    · rintro ⟨h2, h3⟩
      exact ⟨h2, fun w ha _ hw => h3 w hw ha⟩
  · have e : (k == 1) = false := by simp [h1]
    rw [e, cond_false, if_neg h1]
    by_cases h2 : b = (v : Int)
    · have e2 : (b == (v : Int)) = true := by simp [h2]
      rw [e2, cond_true, Option.bind_some, cond_true]
      refine ⟨false, rfl, ?_⟩
      constructor
      · intro h; cases h
      · rintro ⟨u, h3, h4, _⟩; omega
    · have e2 : (b == (v : Int)) = false := by simp [h2]
      rw [e2, cond_false, l1Has_eq _ _ hsh, Option.bind_some, Option.bind_some]
      by_cases h3 : b ∈ elems s
      · obtain ⟨u, hu, rfl⟩ : ∃ u : Nat, has s u = true ∧ b = u := by
          obtain ⟨u, _, h4, h5⟩ := mem_elems.1 h3
          exact ⟨u, h4, h5⟩
        have hun := hs.2 u hu
        have huv : u ≠ v := fun e => h2 (by rw [e])
        rw [decide_eq_true h3, Bool.not_true, cond_false, idx_row hv, Option.bind_some, l1Has_eq _ _ (hg.sh2.row hv), Option.bind_some]
        have hex : ∀ Q : Nat → Prop, (∃ u' : Nat, (u : Int) = u' ∧ u' ≠ v ∧ has s u' = true ∧ Q u') ↔ Q u := fun Q => by
          constructor
          · rintro ⟨u', h5, _, _, h6⟩
            obtain rfl : u = u' := by omega
            exact h6
          · intro h; exact ⟨u, rfl, huv, hu, h⟩
        rw [hex (fun u => (k = 2 ∧ ∀ w, has s w = true → (adj g v w ↔ w = u)) ∨ (k = 3 ∧ ¬ adj g v u ∧ ∀ w, has s w = true → (adj g v w ↔ adj g u w)) ∨ (k = 4 ∧ adj g v u ∧ ∀ w, has s w = true → w ≠ u → w ≠ v → (adj g v w ↔ adj g u w)))]
        have hadj : decide ((u : Int) ∈ row g v) = true ↔ adj g v u := by rw [decide_eq_true_eq]; rfl
        have hnv : ∀ w : Nat, (w : Int) ≠ (u : Int) ↔ w ≠ u := fun w => by constructor <;> intro h <;> omega
        have hnv2 : ∀ w : Nat, (w : Int) ≠ (v : Int) ↔ w ≠ v := fun w => by constructor <;> intro h <;> omega
        have hsym : adj g u v ↔ adj g v u := ⟨hg.sym u v hun, hg.sym v u hv⟩
        by_cases k2 : k = 2
        · subst k2
          rw [show ((2 : Int) == 2) = true from rfl, cond_true]
          refine ⟨_, rfl, ?_⟩
          rw [Bool.and_eq_true, hadj, nil_len, nearN_nil hg hv hs.1]
          constructor
          · rintro ⟨ha, h5⟩
            refine .inl ⟨rfl, fun w hw => ⟨fun hA => ?_, fun e => by rw [e]; exact ha⟩⟩
            apply Classical.byContradiction
            intro hne
            exact h5 w hA ((hnv w).2 hne) hw
          · rintro (⟨_, h5⟩ | ⟨h5, _⟩ | ⟨h5, _⟩)
            · exact ⟨(h5 u hu).2 rfl, fun w hA hne hw => (hnv w).1 hne ((h5 w hw).1 hA)⟩
            · cases h5
            · cases h5
        · have e4 : (k == 2) = false := by simp [k2]
          rw [e4, cond_false]
          by_cases k3 : k = 3
          · subst k3
            rw [show ((3 : Int) == 3) = true from rfl, cond_true]
            by_cases ha : adj g v u
            · rw [hadj.2 ha, Bool.not_true, cond_false]
              refine ⟨false, rfl, ?_⟩
              constructor
              · intro h; cases h
              · rintro (⟨h5, _⟩ | ⟨_, h5, _⟩ | ⟨h5, _⟩)
                · cases h5
                · exact absurd ha h5
                · cases h5
            · have e5 : decide ((u : Int) ∈ row g v) = false := decide_eq_false ha
              rw [e5, Bool.not_false, cond_true, l18Near_eq hg hun (v : Int) _ hsh, Option.bind_some, l1Same_eq _ _ (by have := hg.row_len hv; exact Nat.le_trans (List.length_filter_le _ _) (by omega)), Option.bind_some, Option.bind_some]
              refine ⟨_, rfl, ?_⟩
              rw [decide_eq_true_eq, nearN_same hg hv hun hs.1]
              constructor
              · intro h
                refine .inr (.inl ⟨rfl, ha, fun w hw => ?_⟩)
                have := h w hw
                constructor
                · intro hA
                  exact (this.1 ⟨hA, (hnv w).2 (fun e => ha (e ▸ hA))⟩).1
                · intro hA
                  exact (this.2 ⟨hA, (hnv2 w).2 (fun e => ha (hsym.1 (e ▸ hA)))⟩).1
              · rintro (⟨h5, _⟩ | ⟨_, _, h5⟩ | ⟨h5, _⟩)
                · cases h5
                · intro w hw
                  have := h5 w hw
                  constructor
                  · rintro ⟨hA, _⟩
                    exact ⟨this.1 hA, (hnv2 w).2 (fun e => hg.irr v hv (e ▸ hA))⟩
                  · rintro ⟨hA, _⟩
                    exact ⟨this.2 hA, (hnv w).2 (fun e => hg.irr u hun (e ▸ hA))⟩
                · cases h5
          · have e5 : (k == 3) = false := by simp [k3]
            rw [e5, cond_false]
            by_cases k4 : k = 4
            · subst k4
              rw [show ((4 : Int) == 4) = true from rfl, cond_true]
              by_cases ha : adj g v u
              · rw [hadj.2 ha, cond_true, l18Near_eq hg hun (v : Int) _ hsh, Option.bind_some, l1Same_eq _ _ (by have := hg.row_len hv; exact Nat.le_trans (List.length_filter_le _ _) (by omega)), Option.bind_some, Option.bind_some]
                refine ⟨_, rfl, ?_⟩
                rw [decide_eq_true_eq, nearN_same hg hv hun hs.1]
                constructor
                · intro h
                  refine .inr (.inr ⟨rfl, ha, fun w hw h6 h7 => ?_⟩)
                  have := h w hw
                  exact ⟨fun hA => (this.1 ⟨hA, (hnv w).2 h6⟩).1, fun hA => (this.2 ⟨hA, (hnv2 w).2 h7⟩).1⟩
                · rintro (⟨h5, _⟩ | ⟨h5, _⟩ | ⟨_, _, h5⟩)
                  · cases h5
                  · cases h5
                  · intro w hw
                    constructor
                    · rintro ⟨hA, h6⟩
                      have h7 : w ≠ v := fun e => hg.irr v hv (e ▸ hA)
                      exact ⟨(h5 w hw ((hnv w).1 h6) h7).1 hA, (hnv2 w).2 h7⟩
                    · rintro ⟨hA, h6⟩
                      have h7 : w ≠ u := fun e => hg.irr u hun (e ▸ hA)
                      exact ⟨(h5 w hw h7 ((hnv2 w).1 h6)).2 hA, (hnv w).2 h7⟩
              · have e6 : decide ((u : Int) ∈ row g v) = false := decide_eq_false ha
                rw [e6, cond_false, Option.bind_some]
                refine ⟨false, rfl, ?_⟩
                constructor
                · intro h; cases h
                · rintro (⟨h5, _⟩ | ⟨h5, _⟩ | ⟨_, h5, _⟩)
                  · cases h5
                  · cases h5
                  · exact absurd h5 ha
            · have e6 : (k == 4) = false := by simp [k4]
              rw [e6, cond_false]
              refine ⟨false, rfl, ?_⟩
              constructor
              · intro h; cases h
              · rintro (⟨h5, _⟩ | ⟨h5, _⟩ | ⟨h5, _⟩)
                · exact absurd h5 k2
                · exact absurd h5 k3
                · exact absurd h5 k4
      · rw [decide_eq_false h3, Bool.not_false, cond_true]
        refine ⟨false, rfl, ?_⟩
        constructor
        · intro h; cases h
        · rintro ⟨u, rfl, _, hu, _⟩
          exact absurd ((mem_elems_nat hs.1).2 hu) h3

theorem eq_mask {a b : Int} (ha : VS a) (hb : VS b) : ((a == b) = true) ↔ ∀ w, has a w = has b w := by
  rw [beq_iff_eq]
  constructor
  · rintro rfl w; rfl
  · intro h; exact ha.ext hb (fun v _ => h v)

theorem canPrune_eq {g : List (List Int)} (hg : GOk g) {s : Int} (hs : In g.length s) {v : Nat} (hv : v < g.length) (b k : Int) : ∃ r, D.A (g.map mk) s (v : Int) b k = some r ∧ (r = true ↔ canB g s v b k) := by
  have h16 := hg.n16
  have hF := FOk.of hg
  have hml : ((g.map mk).length : Int) = g.length := by simp
  have hh : ∀ (x : Nat), x < g.length → ∀ w, has (iand .u32 ((g.map mk).getD x 0) s) w = true ↔ adj g x w ∧ has s w = true := fun x hx w => by
    rw [has_iand (hF.vs x hx) hs.1, Bool.and_eq_true]
    exact and_congr (nb_mk hg hx) Iff.rfl
  unfold D.A canB
  rw [idx_F hF hv, Option.bind_some]
  by_cases h1 : k = 1
  · have e : (k == 1) = true := by simp [h1]
    rw [e, cond_true, if_pos h1]
    refine ⟨_, rfl, ?_⟩
    rw [Bool.and_eq_true, beq_iff_eq, eq_mask (VS.iand _ _) VS.zero]
    refine and_congr Iff.rfl ?_
    constructor
    · intro h w hw ha
      have := h w
      rw [has_zero, (hh v hv w).2 ⟨ha, hw⟩] at this; cases this
    · intro h w
      rw [has_zero, Bool.eq_false_iff]
      intro hc
      obtain ⟨ha, hw⟩ := (hh v hv w).1 hc
      exact h w hw ha
  · have e : (k == 1) = false := by simp [h1]
    rw [e, cond_false, if_neg h1, inRange_eq, Option.bind_some, hml, w64 (by omega) (by omega)]
    by_cases h2 : (0 ≤ b ∧ b ≤ (g.length : Int) - 1) ∧ b ≠ v
    · obtain ⟨⟨h3, h4⟩, h5⟩ := h2
      obtain ⟨u, rfl⟩ : ∃ u : Nat, b = u := ⟨b.toNat, by omega⟩
      have hun : u < g.length := by omega
      have huv : u ≠ v := fun e => h5 (by rw [e])
      have e2 : (!(decide ((0 : Int) ≤ (u : Int)) && decide ((u : Int) ≤ (g.length : Int) - 1)) || ((u : Int) == (v : Int))) = false := by
        rw [decide_eq_true h3, decide_eq_true h4]; simp; omega
      rw [e2, cond_false, vset_has_eq hs.1 (by omega), Option.bind_some, Option.bind_some]
      cases hu : has s u
      · rw [Bool.not_false, cond_true]
        refine ⟨false, rfl, ?_⟩
        constructor
        · intro h; cases h
        · rintro ⟨u', h6, _, h7, _⟩
          obtain rfl : u = u' := by omega
          rw [hu] at h7; cases h7
      · rw [Bool.not_true, cond_false, idx_F hF hun, Option.bind_some]
        have hex : ∀ Q : Nat → Prop, (∃ u' : Nat, (u : Int) = u' ∧ u' ≠ v ∧ has s u' = true ∧ Q u') ↔ Q u := fun Q => by
          constructor
          · rintro ⟨u', h5, _, _, h6⟩
            obtain rfl : u = u' := by omega
            exact h6
          · intro h; exact ⟨u, rfl, huv, hu, h⟩
        rw [hex (fun u => (k = 2 ∧ ∀ w, has s w = true → (adj g v w ↔ w = u)) ∨ (k = 3 ∧ ¬ adj g v u ∧ ∀ w, has s w = true → (adj g v w ↔ adj g u w)) ∨ (k = 4 ∧ adj g v u ∧ ∀ w, has s w = true → w ≠ u → w ≠ v → (adj g v w ↔ adj g u w)))]
        have hsym : adj g u v ↔ adj g v u := ⟨hg.sym u v hun, hg.sym v u hv⟩
        by_cases k2 : k = 2
        · subst k2
          rw [show ((2 : Int) == 2) = true from rfl, cond_true, impl_one_eq, Option.bind_some]
          refine ⟨_, rfl, ?_⟩
          rw [eq_mask (VS.iand _ _) (VS.ishl _ _)]
          constructor
          · intro h
            refine .inl ⟨rfl, fun w hw => ?_⟩
            have := h w
            rw [has_one (by omega)] at this
            constructor
            · intro hA
              rw [(hh v hv w).2 ⟨hA, hw⟩] at this
              exact of_decide_eq_true this.symm
            · intro e
              rw [decide_eq_true e] at this
              exact ((hh v hv w).1 this).1
          · rintro (⟨_, h5⟩ | ⟨h5, _⟩ | ⟨h5, _⟩)
            · intro w
              rw [has_one (by omega), Bool.eq_iff_iff, hh v hv w, decide_eq_true_eq]
              constructor
              · rintro ⟨hA, hw⟩; exact (h5 w hw).1 hA
              · intro e
                have hw : has s w = true := by rw [e]; exact hu
                exact ⟨(h5 w hw).2 e, hw⟩
            · cases h5
            · cases h5
        · have e4 : (k == 2) = false := by simp [k2]
          rw [e4, cond_false]
          by_cases k3 : k = 3
          · subst k3
            rw [show ((3 : Int) == 3) = true from rfl, cond_true]
            refine ⟨_, rfl, ?_⟩
            rw [eq_mask (VS.iand _ _) (VS.iand _ _)]
            constructor
            · intro h
              have key : ∀ w, has s w = true → (adj g v w ↔ adj g u w) := fun w hw => by
                have := h w
                rw [Bool.eq_iff_iff, hh v hv w, hh u hun w] at this
                exact ⟨fun hA => (this.1 ⟨hA, hw⟩).1, fun hA => (this.2 ⟨hA, hw⟩).1⟩
              exact .inr (.inl ⟨rfl, fun ha => hg.irr u hun ((key u hu).1 ha), key⟩)
            · rintro (⟨h5, _⟩ | ⟨_, _, h5⟩ | ⟨h5, _⟩)
              · cases h5
              · intro w
                rw [Bool.eq_iff_iff, hh v hv w, hh u hun w]
                exact ⟨fun ⟨hA, hw⟩ => ⟨(h5 w hw).1 hA, hw⟩, fun ⟨hA, hw⟩ => ⟨(h5 w hw).2 hA, hw⟩⟩
              · cases h5
          · have e5 : (k == 3) = false := by simp [k3]
            rw [e5, cond_false]
            by_cases k4 : k = 4
            · subst k4
              rw [show ((4 : Int) == 4) = true from rfl, cond_true, vset_has_eq (VS.iand _ _) (by omega), Option.bind_some]
              cases hc : has (iand .u32 ((g.map mk).getD v 0) s) u
              · rw [cond_false, Option.bind_some]
                refine ⟨false, rfl, ?_⟩
                constructor
                · intro h; cases h
                · rintro (⟨h5, _⟩ | ⟨h5, _⟩ | ⟨_, h5, _⟩)
                  · cases h5
                  · cases h5
                  · rw [(hh v hv u).2 ⟨h5, hu⟩] at hc; cases hc
              · have ha := ((hh v hv u).1 hc).1
                rw [cond_true, impl_one_eq, impl_one_eq, Option.bind_some, Option.bind_some, Option.bind_some]
                refine ⟨_, rfl, ?_⟩
                have hh2 : ∀ (x y : Nat), x < g.length → y < g.length → ∀ w, has (iandNot .u32 (iand .u32 ((g.map mk).getD x 0) s) (ishl .u32 1 (y : Int))) w = true ↔ (adj g x w ∧ has s w = true) ∧ w ≠ y := fun x y hx hy w => by
                  rw [has_iandNot (VS.iand _ _) (VS.ishl _ _), has_one (by omega), Bool.and_eq_true, hh x hx w]
                  simp
                rw [eq_mask (VS.iandNot _ _) (VS.iandNot _ _)]
                constructor
                · intro h
                  refine .inr (.inr ⟨rfl, ha, fun w hw h6 h7 => ?_⟩)
                  have := h w
                  rw [Bool.eq_iff_iff, hh2 v u hv hun w, hh2 u v hun hv w] at this
                  exact ⟨fun hA => (this.1 ⟨⟨hA, hw⟩, h6⟩).1.1, fun hA => (this.2 ⟨⟨hA, hw⟩, h7⟩).1.1⟩
                · rintro (⟨h5, _⟩ | ⟨h5, _⟩ | ⟨_, _, h5⟩)
                  · cases h5
                  · cases h5
                  · intro w
                    rw [Bool.eq_iff_iff, hh2 v u hv hun w, hh2 u v hun hv w]
                    constructor
                    · rintro ⟨⟨hA, hw⟩, h6⟩
                      have h7 : w ≠ v := fun e => hg.irr v hv (e ▸ hA)
                      exact ⟨⟨(h5 w hw h6 h7).1 hA, hw⟩, h7⟩
                    · rintro ⟨⟨hA, hw⟩, h7⟩
                      have h6 : w ≠ u := fun e => hg.irr u hun (e ▸ hA)
                      exact ⟨⟨(h5 w hw h6 h7).2 hA, hw⟩, h6⟩
            · have e6 : (k == 4) = false := by simp [k4]
              rw [e6, cond_false]
              refine ⟨false, rfl, ?_⟩
              constructor
              · intro h; cases h
              · rintro (⟨h5, _⟩ | ⟨h5, _⟩ | ⟨h5, _⟩)
                · exact absurd h5 k2
                · exact absurd h5 k3
                · exact absurd h5 k4
    · have e2 : (!(decide ((0 : Int) ≤ b) && decide (b ≤ (g.length : Int) - 1)) || (b == (v : Int))) = true := by
        by_cases h5 : b = v
        · simp [h5]
        · have : ¬ (0 ≤ b ∧ b ≤ (g.length : Int) - 1) := fun h => h2 ⟨h, h5⟩
          rw [Bool.or_eq_true, Bool.not_eq_true']
          left
          rw [Bool.and_eq_false_iff, decide_eq_false_iff_not, decide_eq_false_iff_not]
          by_cases h6 : 0 ≤ b
          · right; intro h7; exact this ⟨h6, h7⟩
          · left; exact h6
      rw [e2, cond_true, Option.bind_some, cond_true]
      refine ⟨false, rfl, ?_⟩
      constructor
      · intro h; cases h
      · rintro ⟨u, rfl, h6, h7, _⟩
        have := hs.2 u h7
        exact absurd ⟨⟨by omega, by omega⟩, by omega⟩ h2
end Go.Sx

/- Lists of prunes: accepted alike; what grows by them. Plain. -/
namespace Go.Sx
/-- all of a list is right, one after the other -/
def allP {α : Type} (ok : α → Int → Prop) (nx : α → Int → Int) : List α → Int → Prop
  | [], _ => True
  | p :: l, s => ok p s ∧ allP ok nx l (nx p s)
theorem loop_pr {α S : Type} {step : S → Option (S ⊕ (Unit ⊕ Bool))} (xs : List α) (enc : Int → Int → S) (ok : α → Int → Prop) (nx : α → Int → Int) (I : Int → Prop)
    (hstep : ∀ (i : Nat) (h : i < xs.length) s, I s → (ok xs[i] s ∧ step (enc s i) = some (.inl (enc (nx xs[i] s) ((i + 1 : Nat) : Int))) ∧ I (nx xs[i] s)) ∨ (¬ ok xs[i] s ∧ step (enc s i) = some (.inr (.inr false))))
    (hend : ∀ s, I s → step (enc s xs.length) = some (.inr (.inl ()))) :
    ∀ (k i : Nat) (s : Int), i + k = xs.length → I s → (allP ok nx (xs.drop i) s ∧ loopF step (enc s i) = some (.inl ())) ∨ (¬ allP ok nx (xs.drop i) s ∧ loopF step (enc s i) = some (.inr false))
  | 0, i, s, hi, hs => by
    obtain rfl : i = xs.length := by omega
    rw [List.drop_length]
    exact .inl ⟨trivial, loopF_done (hend s hs)⟩
  | k + 1, i, s, hi, hs => by
    have hil : i < xs.length := by omega
    rw [List.drop_eq_getElem_cons hil]
    rcases hstep i hil s hs with ⟨h1, h2, h3⟩ | ⟨h1, h2⟩
    · rcases loop_pr xs enc ok nx I hstep hend k (i + 1) _ (by omega) h3 with ⟨h4, h5⟩ | ⟨h4, h5⟩
      · exact .inl ⟨⟨h1, h4⟩, by rw [loopF_more h2]; exact h5⟩
      · exact .inr ⟨fun h => h4 h.2, by rw [loopF_more h2]; exact h5⟩
    · exact .inr ⟨fun h => h1 h.1, loopF_done h2⟩

abbrev Pr := Int × Int × Int
def okP (g : List (List Int)) (p : Pr) (s : Int) : Prop := ∃ v : Nat, p.1 = v ∧ has s v = true ∧ canB g s v p.2.1 p.2.2
def nxP (p : Pr) (s : Int) : Int := iandNot .u32 s (ishl .u32 1 p.1)

theorem elems_full {n : Nat} (hn : n ≤ 16) : elems (full n) = (List.range n).map Int.ofNat := by
  refine Inc.ext (elems_inc _) ?_ (fun z => ?_)
  · unfold Inc
    rw [List.pairwise_map]
    exact List.Pairwise.imp (fun {a b} h => by show (a : Int) < (b : Int); omega) List.pairwise_lt_range
  · rw [mem_elems, List.mem_map]
    constructor
    · rintro ⟨v, _, h, rfl⟩
      rw [has_full hn] at h
      exact ⟨v, List.mem_range.2 (of_decide_eq_true h), rfl⟩
    · rintro ⟨v, hv, rfl⟩
      have := List.mem_range.1 hv
      exact ⟨v, by omega, by rw [has_full hn]; exact decide_eq_true this, rfl⟩
theorem l16All_eq {g : List (List Int)} (hn : g.length ≤ 16) : D.b0 g = some (elems (full g.length)) := by
  unfold D.b0
  rw [elems_full hn]
  refine (loop_to (fun i => ((List.range i).map Int.ofNat, (i : Int))) g.length ((List.range g.length).map Int.ofNat) rfl (fun i hi => ?_) ?_).trans rfl
  · simp only [dlt hi, cond_true, wi (show i < 4611686018427387904 by omega)]
    rw [appendD_ok (by simp; omega), Option.bind_some, List.range_succ, List.map_append]; rfl
  · simp only [dnlt, cond_false]
theorem l19Less_eq {s : Int} (hs : VS s) {v : Nat} (hv : v < 32) : D.O (elems s) (v : Int) = some (elems (iandNot .u32 s (ishl .u32 1 (v : Int)))) := by
  have hel := elems_len s
  have e0 : elems (iandNot .u32 s (ishl .u32 1 (v : Int))) = (elems s).filter fun x => x != (v : Int) := by
    refine Inc.ext (elems_inc _) (List.Pairwise.filter _ (elems_inc s)) (fun z => ?_)
    rw [List.mem_filter, mem_elems, mem_elems]
    constructor
    · rintro ⟨w, h1, h2, rfl⟩
      rw [has_iandNot hs (VS.ishl _ _), has_one hv, Bool.and_eq_true] at h2
      refine ⟨⟨w, h1, h2.1, rfl⟩, ?_⟩
      have := h2.2
      simp at this ⊢
      omega
    · rintro ⟨⟨w, h1, h2, rfl⟩, h3⟩
      refine ⟨w, h1, ?_, rfl⟩
      rw [has_iandNot hs (VS.ishl _ _), has_one hv, h2]
      simp at h3 ⊢
      omega
  rw [e0]
  unfold D.O
  refine (loop_to (fun i => (((elems s).take i).filter (fun x => x != (v : Int)), (i : Int))) (elems s).length ((elems s).filter fun x => x != (v : Int)) (by simp) (fun i hi => ?_) ?_).trans rfl
  · have hlen : (((elems s).take i).filter (fun x => x != (v : Int))).length ≤ 32 := Nat.le_trans (List.length_filter_le _ _) (by simp; omega)
    simp only [dlt hi, cond_true, idx_nat hi, Option.bind_some, wi (show i < 4611686018427387904 by omega)]
    rw [take_filter_succ (fun x => x != (v : Int)) hi]
    cases (elems s)[i] != (v : Int)
    · simp
    · rw [cond_true, appendD_ok (by rw [List.length_singleton]; omega), Option.bind_some]; simp
  · simp only [dnlt, cond_false, List.take_length]
theorem nx_in {n : Nat} (hn : n ≤ 16) {s : Int} (hs : In n s) {v : Nat} (hv : v < n) : In n (iandNot .u32 s (ishl .u32 1 (v : Int))) := ⟨VS.iandNot _ _, fun w hw => by
  rw [has_iandNot hs.1 (VS.ishl _ _), Bool.and_eq_true] at hw
  exact hs.2 w hw.1⟩
theorem full_in {n : Nat} (hn : n ≤ 16) : In n (full n) := ⟨full_vs n, fun w hw => by rw [has_full hn] at hw; exact of_decide_eq_true hw⟩

theorem spec_PrunesOk_ok {g : List (List Int)} (h : Sh2 g) {l : List Pr} (hl : l.length ≤ 4294967296) : ∃ r, D.P g l = some r ∧ (r = true ↔ GOk g ∧ l.length ≤ 16 ∧ allP (okP g) nxP l (full g.length)) := by
  unfold D.P
  rw [spec_GraphOk_eq g h, Option.bind_some]
  by_cases hg : GOk g
  · have h16 := hg.n16
    rw [gB_true hg]
    by_cases hl16 : l.length ≤ 16
    · have e : (!true || decide ((16 : Int) < (l.length : Int))) = false := by rw [decide_eq_false (by omega)]; rfl
      rw [e, cond_false, l16All_eq h16, Option.bind_some]
      refine Or.elim (loop_pr (step := (fun (s_156 : (List Int) × Int) => match s_156 with | (l_159, x_164) => cond (decide (x_164 < (l.length : Int))) ((idx l x_164).bind fun e_229 => (D.e l_159 e_229.1).bind fun y_235 => (cond (!y_235) (some true) ((idx l x_164).bind fun e_255 => (D.T g l_159 e_255.1 e_255.2.1 e_255.2.2).bind fun y_259 => some (!y_259))).bind fun b_253 => cond b_253 (some (.inr (.inr false))) ((idx l x_164).bind fun e_268 => (D.O l_159 e_268.1).bind fun y_274 => some (.inl (y_274, (IntKind.i64.wrap (x_164 + 1)))))) (some (.inr (.inl ())))))
        l (fun s i => (elems s, i)) (okP g) nxP (In g.length) (fun i hi s hs => ?_) (fun s _ => ?_) l.length 0 (full g.length) (by omega) (full_in h16)) ?_ ?_
      · have hsh : Sh (elems s) := by have := elems_len s; unfold Sh; omega
        simp only [dlt hi, cond_true, idx_nat hi, Option.bind_some, l1Has_eq _ _ hsh, wi (show i < 4611686018427387904 by omega)]
        by_cases hm : l[i].1 ∈ elems s
        · obtain ⟨v, _, hv, e1⟩ := mem_elems.1 hm
          have hvn := hs.2 v hv
          obtain ⟨r, e2, hr⟩ := l18Goes_eq hg hs hvn l[i].2.1 l[i].2.2
          rw [decide_eq_true hm, Bool.not_true, cond_false]
          rw [e1]
          rw [e2, Option.bind_some, Option.bind_some]
          cases r
          · refine .inr ⟨fun ⟨v', e3, _, h4⟩ => ?_, rfl⟩
            have e4 : (v : Int) = v' := e1.symm.trans e3
            obtain rfl : v = v' := by omega
            have := hr.2 h4
            cases this
          · refine .inl ⟨⟨v, e1, hv, hr.1 rfl⟩, ?_, ?_⟩
            · rw [Bool.not_true, cond_false, l19Less_eq hs.1 (by omega), Option.bind_some]
              unfold nxP
              rw [e1]
            · unfold nxP
              rw [e1]; exact nx_in h16 hs hvn
        · rw [decide_eq_false hm, Bool.not_false, cond_true, Option.bind_some, cond_true]
          refine .inr ⟨fun ⟨v, e3, h3, _⟩ => hm ?_, rfl⟩
          rw [e3]; exact (mem_elems_nat hs.1).2 h3
      · simp only [dnlt, cond_false]
      · rintro ⟨h1, h2⟩
        rw [List.drop_zero] at h1
        rw [show ((0 : Nat) : Int) = 0 from rfl] at h2
        rw [h2]
        exact ⟨true, rfl, ⟨fun _ => ⟨hg, hl16, h1⟩, fun _ => rfl⟩⟩
      · rintro ⟨h1, h2⟩
        rw [List.drop_zero] at h1
        rw [show ((0 : Nat) : Int) = 0 from rfl] at h2
        rw [h2]
        exact ⟨false, rfl, ⟨(fun h => by cases h), fun h => absurd h.2.2 h1⟩⟩
    · have e : (!true || decide ((16 : Int) < (l.length : Int))) = true := by rw [decide_eq_true (by omega)]; rfl
      rw [e, cond_true]
      exact ⟨false, rfl, ⟨(fun h => by cases h), fun h => absurd h.2.1 hl16⟩⟩
  · have e : gB g = false := by rw [Bool.eq_false_iff]; intro hc; exact hg ((gB_iff g).1 hc)
    rw [e]
    exact ⟨false, rfl, ⟨(fun h => by cases h), fun h => absurd h.1 hg⟩⟩

theorem impl_PrunesOk_ok {g : List (List Int)} (h : Sh2 g) {l : List Pr} (hl : l.length ≤ 4294967296) : ∃ r, D.z g l = some r ∧ (r = true ↔ GOk g ∧ l.length ≤ 16 ∧ allP (okP g) nxP l (full g.length)) := by
  unfold D.z
  rw [impl_GraphOk_eq g h, Option.bind_some]
  by_cases hg : GOk g
  · have h16 := hg.n16
    rw [gB_true hg]
    by_cases hl16 : l.length ≤ 16
    · have e : (!true || decide ((16 : Int) < (l.length : Int))) = false := by rw [decide_eq_false (by omega)]; rfl
      rw [e, cond_false, netsOf_eq g hg, Option.bind_some, nets_all_full, Option.bind_some, List.length_map]
      refine Or.elim (loop_pr (step := (fun (s_208 : Int × Int) => match s_208 with | (x_211, x_212) => cond (decide (x_212 < (l.length : Int))) ((idx l x_212).bind fun e_300 => (D.i e_300.1 0 (IntKind.i64.wrap ((g.length : Int) - 1))).bind fun y_306 => (cond (!y_306) (some true) ((D.g x_211 e_300.1).bind fun y_332 => some (!y_332))).bind fun b_330 => (cond b_330 (some true) ((D.A (g.map mk) x_211 e_300.1 e_300.2.1 e_300.2.2).bind fun y_364 => some (!y_364))).bind fun b_362 => cond b_362 (some (.inr (.inr false))) ((D.b e_300.1).bind fun y_375 => some (.inl ((iandNot .u32 x_211 y_375), (IntKind.i64.wrap (x_212 + 1)))))) (some (.inr (.inl ())))))
        l (fun s i => (s, i)) (okP g) nxP (In g.length) (fun i hi s hs => ?_) (fun s _ => ?_) l.length 0 (full g.length) (by omega) (full_in h16)) ?_ ?_
      · simp only [dlt hi, cond_true, idx_nat hi, Option.bind_some, inRange_eq, wi (show i < 4611686018427387904 by omega)]
        rw [w64 (by omega) (by omega)]
        by_cases hr : 0 ≤ l[i].1 ∧ l[i].1 ≤ (g.length : Int) - 1
        · obtain ⟨v, e1⟩ : ∃ v : Nat, l[i].1 = v := ⟨l[i].1.toNat, by omega⟩
          have hvn : v < g.length := by omega
          rw [decide_eq_true hr.1, decide_eq_true hr.2, Bool.and_self, Bool.not_true, cond_false, e1, vset_has_eq hs.1 (by omega), Option.bind_some, Option.bind_some]
          cases hv : has s v
          · rw [Bool.not_false, cond_true, Option.bind_some, cond_true]
            refine .inr ⟨fun ⟨v', e3, h3, _⟩ => ?_, rfl⟩
            have e4 : (v : Int) = v' := e1.symm.trans e3
            obtain rfl : v = v' := by omega
            rw [hv] at h3; cases h3
          · obtain ⟨r, e2, hr'⟩ := canPrune_eq hg hs hvn l[i].2.1 l[i].2.2
            rw [Bool.not_true, cond_false, e2, Option.bind_some, Option.bind_some]
            cases r
            · refine .inr ⟨fun ⟨v', e3, _, h4⟩ => ?_, rfl⟩
              have e4 : (v : Int) = v' := e1.symm.trans e3
              obtain rfl : v = v' := by omega
              have := hr'.2 h4
              cases this
            · refine .inl ⟨⟨v, e1, hv, hr'.1 rfl⟩, ?_, ?_⟩
              · rw [Bool.not_true, cond_false, impl_one_eq, Option.bind_some]
                unfold nxP
                rw [e1]
              · unfold nxP
                rw [e1]; exact nx_in h16 hs hvn
        · have e5 : (decide ((0 : Int) ≤ l[i].1) && decide (l[i].1 ≤ (g.length : Int) - 1)) = false := by
            rw [Bool.eq_false_iff]
            intro hc
            rw [Bool.and_eq_true, decide_eq_true_eq, decide_eq_true_eq] at hc
            exact hr hc
          rw [e5, Bool.not_false, cond_true, Option.bind_some, cond_true, Option.bind_some, cond_true]
          refine .inr ⟨fun ⟨v, e3, h3, _⟩ => hr ?_, rfl⟩
          have := hs.2 v h3
          omega
      · simp only [dnlt, cond_false]
      · rintro ⟨h1, h2⟩
        rw [List.drop_zero] at h1
        rw [show ((0 : Nat) : Int) = 0 from rfl] at h2
        rw [h2]
        exact ⟨true, rfl, ⟨fun _ => ⟨hg, hl16, h1⟩, fun _ => rfl⟩⟩
      · rintro ⟨h1, h2⟩
        rw [List.drop_zero] at h1
        rw [show ((0 : Nat) : Int) = 0 from rfl] at h2
        rw [h2]
        exact ⟨false, rfl, ⟨(fun h => by cases h), fun h => absurd h.2.2 h1⟩⟩
    · have e : (!true || decide ((16 : Int) < (l.length : Int))) = true := by rw [decide_eq_true (by omega)]; rfl
      rw [e, cond_true]
      exact ⟨false, rfl, ⟨(fun h => by cases h), fun h => absurd h.2.1 hl16⟩⟩
  · have e : gB g = false := by rw [Bool.eq_false_iff]; intro hc; exact hg ((gB_iff g).1 hc)
    rw [e]
    exact ⟨false, rfl, ⟨(fun h => by cases h), fun h => absurd h.1 hg⟩⟩

theorem PrunesOk_both {g : List (List Int)} (h : Sh2 g) {l : List Pr} (hl : l.length ≤ 4294967296) : ∃ r, D.P g l = some r ∧ D.z g l = some r ∧ (r = true ↔ GOk g ∧ l.length ≤ 16 ∧ allP (okP g) nxP l (full g.length)) := by
  obtain ⟨r, e1, h1⟩ := spec_PrunesOk_ok h hl
  obtain ⟨r', e2, h2⟩ := impl_PrunesOk_ok h hl
  have : r = r' := by rw [Bool.eq_iff_iff, h1, h2]
  subst this
  exact ⟨r, e1, e2, h1⟩
end Go.Sx

/- The exact laws' own helpers in closed form: copies, equality, sizes, marks. Plain. -/
namespace Go.Sx
end Go.Sx

/- What grows by prunes: the program's graph is the reference's. Plain. -/
namespace Go.Sx
/-! ### a vertex is joined to a set -/
def joinF (n : Nat) (F : List Int) (v : Nat) (S : Int) : List Int := (List.range n).map fun u => ior .u32 (ior .u32 (F.getD u 0) (if u = v then S else 0)) (if has S u then ishl .u32 1 (v : Int) else 0)
theorem joinF_get {n : Nat} {F : List Int} {v u : Nat} {S : Int} (hu : u < n) : (joinF n F v S).getD u 0 = ior .u32 (ior .u32 (F.getD u 0) (if u = v then S else 0)) (if has S u then ishl .u32 1 (v : Int) else 0) := by
  unfold joinF
  rw [getD_lt (by simpa using hu)]; simp
theorem vs_ite {c : Prop} [Decidable c] {a b : Int} (ha : VS a) (hb : VS b) : VS (if c then a else b) := by split <;> assumption
theorem joinF_nb {n : Nat} {F : List Int} {v u : Nat} {S : Int} (hn : n ≤ 16) (hF : FOk F n) (hS : In n S) (hv : v < n) (hu : u < n) (w : Nat) : nb (joinF n F v S) u w = (nb F u w || (decide (u = v) && has S w) || (has S u && decide (w = v))) := by
  unfold nb
  rw [joinF_get hu, has_ior (VS.ior _ _) (vs_ite (VS.ishl _ _) VS.zero), has_ior (hF.vs u hu) (vs_ite hS.1 VS.zero)]
  congr 1
  · congr 1
    by_cases h : u = v
    · rw [if_pos h, decide_eq_true h]; simp
    · rw [if_neg h, decide_eq_false h, has_zero]; simp
  · cases hc : has S u
    · rw [if_neg (by simp), has_zero]; simp
    · rw [if_pos rfl, has_one (by omega)]; simp
theorem joinF_ok {n : Nat} {F : List Int} {v : Nat} {S : Int} (hn : n ≤ 16) (hF : FOk F n) (hS : In n S) (hv : v < n) (hSv : has S v = false) : FOk (joinF n F v S) n := by
  refine ⟨by simp [joinF], fun u hu => by rw [joinF_get hu]; exact VS.ior _ _, fun u w hu h => ?_, fun u hu => ?_, fun u w hu h => ?_⟩
  · rw [joinF_nb hn hF hS hv hu] at h
    simp only [Bool.or_eq_true, Bool.and_eq_true, decide_eq_true_eq] at h
    rcases h with (h | h) | h
    · exact hF.lt u w hu h
    · exact hS.2 w h.2
    · omega
  · rw [joinF_nb hn hF hS hv hu, hF.irr u hu]
    by_cases h : u = v
    · subst h; simp [hSv]
    · simp [h]
  · have hw : w < n := by
      rw [joinF_nb hn hF hS hv hu] at h
      simp only [Bool.or_eq_true, Bool.and_eq_true, decide_eq_true_eq] at h
      rcases h with (h | h) | h
      · exact hF.lt u w hu h
      · exact hS.2 w h.2
      · omega
    rw [joinF_nb hn hF hS hv hu] at h
    rw [joinF_nb hn hF hS hv hw]
    simp only [Bool.or_eq_true, Bool.and_eq_true, decide_eq_true_eq] at h ⊢
    rcases h with (h | h) | h
    · exact .inl (.inl (hF.sym u w hu h))
    · exact .inr ⟨h.2, h.1⟩
    · exact .inl (.inr ⟨h.2, h.1⟩)

theorem nets_join_ok {n : Nat} (hn : n ≤ 16) {X : List Int} (hl : X.length = n) (hV : ∀ u, u < n → VS (X.getD u 0)) {v t : Nat} (hv : v < n) (ht : t < n) (hvt : v ≠ t) :
    ∃ y, D.r X (v : Int) (t : Int) = some y ∧ (y.length = n ∧ (∀ u, u < n → VS (y.getD u 0)) ∧ ∀ u w, u < n → nb y u w = (nb X u w || (decide (u = v) && decide (w = t)) || (decide (u = t) && decide (w = v)))) := by
  have hx : ∀ k, k < n → idx X (k : Int) = some (X.getD k 0) := fun k hk => by rw [idx_nat (by omega), getD_lt (by omega)]
  refine ⟨(X.set v (ior .u32 (X.getD v 0) (ishl .u32 1 (t : Int)))).set t (ior .u32 (X.getD t 0) (ishl .u32 1 (v : Int))), ?_, by simp [hl], fun u hu => ?_, fun u w hu => ?_⟩
  · unfold D.r
    have e1 : idx (X.set v (ior .u32 (X.getD v 0) (ishl .u32 1 (t : Int)))) (t : Int) = some (X.getD t 0) := by
      rw [idx_nat (by simp; omega), List.getElem_set_ne hvt]
      exact congrArg some (getD_lt (by omega) 0).symm
    simp only [hx v hv, Option.bind_some, impl_one_eq, Int.toNat_natCast, e1]
  · rw [List.getD_eq_getElem?_getD, List.getElem?_set]
    by_cases h : t = u
    · rw [if_pos h, if_pos (by simp; omega)]; exact VS.ior _ _
    · rw [if_neg h, List.getElem?_set]
      by_cases h2 : v = u
      · rw [if_pos h2, if_pos (by omega)]; exact VS.ior _ _
      · rw [if_neg h2, ← List.getD_eq_getElem?_getD]; exact hV u hu
  · unfold nb
    rw [List.getD_eq_getElem?_getD, List.getElem?_set]
    by_cases h : t = u
    · subst h
      rw [if_pos rfl, if_pos (by simp; omega), Option.getD_some, has_ior (hV _ hu) (VS.ishl _ _), has_one (by omega)]
      have : decide (t = v) = false := decide_eq_false (fun e => hvt e.symm)
      rw [this]; simp
    · rw [if_neg h, List.getElem?_set]
      have e2 : decide (u = t) = false := decide_eq_false (fun e => h e.symm)
      by_cases h2 : v = u
      · subst h2
        rw [if_pos rfl, if_pos (by omega), Option.getD_some, has_ior (hV _ hu) (VS.ishl _ _), has_one (by omega), e2]; simp
      · rw [if_neg h2, ← List.getD_eq_getElem?_getD, e2, decide_eq_false (fun e => h2 e.symm)]; simp

theorem joins_then {n : Nat} (hn : n ≤ 16) {F : List Int} (hF : FOk F n) {S : Int} (hS : In n S) {v : Nat} (hv : v < n) (hSv : has S v = false) {β : Type} {k : List Int → Option β} :
    (loopF (σ := (List Int) × Int) (ρ := ((List Int))) (fun (s_1146 : (List Int) × Int) => match s_1146 with | (l_1149, x_1152) => cond (decide (x_1152 < ((elems S).length : Int))) ((idx (elems S) x_1152).bind fun e_1176 => (D.r l_1149 (v : Int) e_1176).bind fun y_1182 => some (.inl (y_1182, (IntKind.i64.wrap (x_1152 + 1))))) (some (.inr l_1149))) (F, 0)).bind k = k (joinF n F v S) := by
  have hel := elems_len S
  have key := loop_then (k := fun r => some r) (Q := fun r => r = joinF n F v S)
    (step := (fun (s_1146 : (List Int) × Int) => match s_1146 with | (l_1149, x_1152) => cond (decide (x_1152 < ((elems S).length : Int))) ((idx (elems S) x_1152).bind fun e_1176 => (D.r l_1149 (v : Int) e_1176).bind fun y_1182 => some (.inl (y_1182, (IntKind.i64.wrap (x_1152 + 1))))) (some (.inr l_1149)))) (s := (F, 0))
    (fun s => ∃ i : Nat, s.2 = (i : Int) ∧ i ≤ (elems S).length ∧ s.1.length = n ∧ (∀ u, u < n → VS (s.1.getD u 0)) ∧ ∀ u w, u < n → nb s.1 u w = (nb F u w || (decide (u = v) && decide ((w : Int) ∈ (elems S).take i)) || (decide ((u : Int) ∈ (elems S).take i) && decide (w = v))))
    (fun s => (elems S).length - s.2.toNat) (fun r => r = joinF n F v S) ?_ ⟨0, rfl, by omega, hF.len, hF.vs, fun u w _ => by simp⟩ (fun r hr => ⟨r, rfl, hr⟩)
  · obtain ⟨y, e, rfl⟩ := key
    cases hL : loopF (σ := (List Int) × Int) (ρ := ((List Int))) (fun (s_1146 : (List Int) × Int) => match s_1146 with | (l_1149, x_1152) => cond (decide (x_1152 < ((elems S).length : Int))) ((idx (elems S) x_1152).bind fun e_1176 => (D.r l_1149 (v : Int) e_1176).bind fun y_1182 => some (.inl (y_1182, (IntKind.i64.wrap (x_1152 + 1))))) (some (.inr l_1149))) (F, 0) with
    | none => rw [hL] at e; cases e
    | some z => rw [hL] at e; cases e; rfl
  · rintro ⟨X, _⟩ ⟨i, rfl, hi, hXl, hXV, hX⟩
    dsimp only at hXl hXV hX ⊢
    by_cases hil : i < (elems S).length
    · obtain ⟨t, _, ht, et⟩ := mem_elems.1 (List.getElem_mem hil)
      have htn := hS.2 t ht
      have hvt : v ≠ t := fun e => by subst e; rw [hSv] at ht; cases ht
      obtain ⟨y, e, h1, h2, h3⟩ := nets_join_ok hn hXl hXV hv htn hvt
      simp only [dlt hil, cond_true, idx_nat hil, Option.bind_some, et, e, wi (show i < 4611686018427387904 by omega)]
      refine ⟨_, rfl, ⟨i + 1, rfl, by omega, h1, h2, fun u w hu => ?_⟩, by dsimp only; omega⟩
      rw [h3 u w hu, hX u w hu, List.take_succ_eq_append_getElem hil, et]
      have m : ∀ x : Nat, decide ((x : Int) ∈ (elems S).take i ++ [(t : Int)]) = (decide ((x : Int) ∈ (elems S).take i) || decide (x = t)) := fun x => by
        rw [Bool.eq_iff_iff, Bool.or_eq_true, decide_eq_true_eq, decide_eq_true_eq, decide_eq_true_eq, List.mem_append, List.mem_singleton]
        constructor
        · rintro (h | h)
          · exact .inl h
          · exact .inr (by omega)
        · rintro (h | h)
          · exact .inl h
          · exact .inr (by omega)
      rw [m w, m u]
      cases nb F u w <;> cases decide (u = v) <;> cases decide ((w : Int) ∈ (elems S).take i) <;> cases decide ((u : Int) ∈ (elems S).take i) <;> cases decide (w = v) <;> cases decide (w = t) <;> cases decide (u = t) <;> rfl
    · obtain rfl : i = (elems S).length := by omega
      simp only [dnlt, cond_false]
      refine ⟨_, rfl, ?_⟩
      have hJ := joinF_ok hn hF hS hv hSv
      refine FOk.ext hXl hJ.len hXV hJ.vs (fun u w hu => ?_)
      rw [hX u w hu, joinF_nb hn hF hS hv hu, List.take_length]
      have m : ∀ x : Nat, decide ((x : Int) ∈ elems S) = has S x := fun x => by
        rw [Bool.eq_iff_iff, decide_eq_true_eq, mem_elems_nat hS.1]
      rw [m w, m u]

end Go.Sx

/- What grows by a list of prunes: the program's is the reference's. Plain. -/
namespace Go.Sx
noncomputable def stepI (x0 : List Pr) : (List Int) × Int × Int → Option (((List Int) × Int × Int) ⊕ ((List Int) ⊕ ((List (List Int)) × Bool))) := (fun (s_716 : (List Int) × Int × Int) => match s_716 with | (l_719, x_722, x_723) => cond (decide ((0 : Int) ≤ x_723)) ((idx x0 x_723).bind fun e_963 => ((cond (e_963.2.2 != 1) ((D.i e_963.2.1 0 (IntKind.i64.wrap ((x0.length : Int) - 1))).bind fun y_1033 => (cond (!y_1033) (some true) ((D.g x_722 e_963.2.1).bind fun y_1059 => some (!y_1059))).bind fun b_1057 => cond b_1057 (some (.inr (([] : List (List Int)), false))) ((D.b e_963.2.1).bind fun y_1072 => cond (e_963.2.2 == 2) (some (.inl y_1072)) (cond (e_963.2.2 == 3) ((idx l_719 e_963.2.1).bind fun e_1081 => some (.inl e_1081)) (cond (e_963.2.2 == 4) ((idx l_719 e_963.2.1).bind fun e_1088 => some (.inl (ior .u32 e_1088 y_1072))) (some (.inl 0)))))) (some (.inl 0)) : Option (Int ⊕ (((List (List Int))) × Bool)))).bind fun q => match q with | .inl x_1030 => ((D.n x_1030).bind fun y_1094 => (loopF (σ := (List Int) × Int) (ρ := ((List Int))) (fun (s_1146 : (List Int) × Int) => match s_1146 with | (l_1149, x_1152) => cond (decide (x_1152 < (y_1094.length : Int))) ((idx y_1094 x_1152).bind fun e_1176 => (D.r l_1149 e_963.1 e_1176).bind fun y_1182 => some (.inl (y_1182, (IntKind.i64.wrap (x_1152 + 1))))) (some (.inr l_1149))) (l_719, 0)).bind fun l_1171 => (D.b e_963.1).bind fun y_1191 => some (.inl (l_1171, (ior .u32 x_722 y_1191), (IntKind.i64.wrap (x_723 - 1))))) | .inr q => (some (.inr (.inr q)))) (some (.inr (.inl l_719))))
def nearS (F : List Int) (p : Pr) : Int := if p.2.2 = 2 then ishl .u32 1 p.2.1 else if p.2.2 = 3 then F.getD p.2.1.toNat 0 else if p.2.2 = 4 then ior .u32 (F.getD p.2.1.toNat 0) (ishl .u32 1 p.2.1) else 0
def Fs (n : Nat) : List Pr → List Int
  | [] => List.replicate n 0
  | p :: l => joinF n (Fs n l) p.1.toNat (nearS (Fs n l) p)
def vsOf (l : List Pr) : List Int := l.map (·.1)
/-- what is there when a list has been grown -/
structure GI (n : Nat) (l : List Pr) (s : Int) : Prop where
  f : FOk (Fs n l) n
  i : In n s
  mem : ∀ w : Nat, has s w = true ↔ (w : Int) ∈ vsOf l
  thr : ∀ u w, u < n → nb (Fs n l) u w = true → has s u = true ∧ has s w = true
  nonneg : ∀ x ∈ vsOf l, 0 ≤ x
theorem GI.nil (n : Nat) : GI n [] 0 := by
  have hz : ∀ u, (List.replicate n (0 : Int)).getD u 0 = 0 := fun u => by
    rw [List.getD_eq_getElem?_getD, List.getElem?_replicate]; split <;> rfl
  have hn : ∀ u w, nb (List.replicate n (0 : Int)) u w = false := fun u w => by unfold nb; rw [hz, has_zero]
  exact ⟨⟨by simp [Fs], fun u _ => by show VS ((List.replicate n (0 : Int)).getD u 0); rw [hz]; exact VS.zero, fun u w _ h => (by rw [show nb (Fs n []) u w = false from hn u w] at h; cases h), fun u _ => hn u u, fun u w _ h => (by rw [show nb (Fs n []) u w = false from hn u w] at h; cases h)⟩,
    ⟨VS.zero, fun w h => (by rw [has_zero] at h; cases h)⟩, fun w => (by rw [has_zero]; simp [vsOf]), fun u w _ h => (by rw [show nb (Fs n []) u w = false from hn u w] at h; cases h), by simp [vsOf]⟩
def needs (k : Int) : Prop := k = 2 ∨ k = 3 ∨ k = 4
theorem near_ok {n : Nat} (hn : n ≤ 16) {l : List Pr} {s : Int} (h : GI n l s) {p : Pr} (hby : needs p.2.2 → ∃ b : Nat, p.2.1 = b ∧ has s b = true) : In n (nearS (Fs n l) p) ∧ ∀ w, has (nearS (Fs n l) p) w = true → has s w = true := by
  have key : VS (nearS (Fs n l) p) ∧ ∀ w, has (nearS (Fs n l) p) w = true → has s w = true := by
    unfold nearS
    by_cases k2 : p.2.2 = 2
    · obtain ⟨b, e, hb⟩ := hby (.inl k2)
      have := h.i.2 b hb
      rw [if_pos k2, e]
      refine ⟨VS.ishl _ _, fun w hw => ?_⟩
      rw [has_one (by omega)] at hw
      rw [of_decide_eq_true hw]; exact hb
    · rw [if_neg k2]
      by_cases k3 : p.2.2 = 3
      · obtain ⟨b, e, hb⟩ := hby (.inr (.inl k3))
        have hbn := h.i.2 b hb
        rw [if_pos k3, e, Int.toNat_natCast]
        exact ⟨h.f.vs b hbn, fun w hw => (h.thr b w hbn hw).2⟩
      · rw [if_neg k3]
        by_cases k4 : p.2.2 = 4
        · obtain ⟨b, e, hb⟩ := hby (.inr (.inr k4))
          have hbn := h.i.2 b hb
          rw [if_pos k4, e, Int.toNat_natCast]
          refine ⟨VS.ior _ _, fun w hw => ?_⟩
          rw [has_ior (h.f.vs b hbn) (VS.ishl _ _), has_one (by omega), Bool.or_eq_true] at hw
          rcases hw with hw | hw
          · exact (h.thr b w hbn hw).2
          · rw [of_decide_eq_true hw]; exact hb
        · rw [if_neg k4]
          exact ⟨VS.zero, fun w hw => by rw [has_zero] at hw; cases hw⟩
  exact ⟨⟨key.1, fun w hw => h.i.2 w (key.2 w hw)⟩, key.2⟩
theorem GI.step {n : Nat} (hn : n ≤ 16) {l : List Pr} {s : Int} (h : GI n l s) {p : Pr} {v : Nat} (e : p.1 = v) (hv : v < n) (hsv : has s v = false) (hby : needs p.2.2 → ∃ b : Nat, p.2.1 = b ∧ has s b = true) :
    GI n (p :: l) (ior .u32 s (ishl .u32 1 (v : Int))) ∧ Fs n (p :: l) = joinF n (Fs n l) v (nearS (Fs n l) p) ∧ has (nearS (Fs n l) p) v = false ∧ ∀ w, nb (Fs n l) v w = false := by
  obtain ⟨hS, hSs⟩ := near_ok hn h hby
  have hSv : has (nearS (Fs n l) p) v = false := by
    rw [Bool.eq_false_iff]; intro hc; rw [hSs v hc] at hsv; cases hsv
  have eF : Fs n (p :: l) = joinF n (Fs n l) v (nearS (Fs n l) p) := by
    show joinF n (Fs n l) p.1.toNat _ = _
    rw [e, Int.toNat_natCast]
  have hh : ∀ w, has (ior .u32 s (ishl .u32 1 (v : Int))) w = (has s w || decide (w = v)) := fun w => by rw [has_ior h.i.1 (VS.ishl _ _), has_one (by omega)]
  refine ⟨⟨by rw [eF]; exact joinF_ok hn h.f hS hv hSv, ⟨VS.ior _ _, fun w hw => ?_⟩, fun w => ?_, fun u w hu hw => ?_, fun x hx => ?_⟩, eF, hSv, fun w => ?_⟩
  · rw [hh, Bool.or_eq_true, decide_eq_true_eq] at hw
    rcases hw with hw | hw
    · exact h.i.2 w hw
    · omega
  · rw [hh, Bool.or_eq_true, decide_eq_true_eq, h.mem]
    unfold vsOf
    rw [List.map_cons, List.mem_cons, e]
    constructor
    · rintro (hw | hw)
      · exact .inr hw
      · exact .inl (by omega)
    · rintro (hw | hw)
      · exact .inr (by omega)
      · exact .inl hw
  · rw [eF, joinF_nb hn h.f hS hv hu] at hw
    simp only [hh, Bool.or_eq_true, Bool.and_eq_true, decide_eq_true_eq] at hw ⊢
    rcases hw with (hw | hw) | hw
    · have := h.thr u w hu hw
      exact ⟨.inl this.1, .inl this.2⟩
    · exact ⟨.inr hw.1, .inl (hSs w hw.2)⟩
    · exact ⟨.inl (hSs u hw.1), .inr hw.2⟩
  · unfold vsOf at hx
    rw [List.map_cons, List.mem_cons, e] at hx
    rcases hx with rfl | hx
    · omega
    · exact h.nonneg x hx
  · rw [Bool.eq_false_iff]; intro hc
    rw [(h.thr v w hv hc).1] at hsv; cases hsv

def okI (p : Pr) (rest : List Pr) : Prop := p.2.2 ≠ 1 → p.2.1 ∈ vsOf rest
def allTo (P : Pr → List Pr → Prop) (l : List Pr) (i : Nat) : Prop := ∀ j (h : j < l.length), j < i → P l[j] (l.drop (j + 1))
theorem allTo_succ {P : Pr → List Pr → Prop} {l : List Pr} {i : Nat} (hi : i < l.length) : allTo P l (i + 1) ↔ allTo P l i ∧ P l[i] (l.drop (i + 1)) := by
  constructor
  · intro h; exact ⟨fun j hj hji => h j hj (by omega), h i hi (by omega)⟩
  · rintro ⟨h1, h2⟩ j hj hji
    by_cases e : j = i
    · subst e; exact h2
    · exact h1 j hj (by omega)
theorem mem_has {n : Nat} {l : List Pr} {s : Int} (h : GI n l s) {b : Int} : b ∈ vsOf l → 0 ≤ b → ∃ c : Nat, b = c ∧ has s c = true := fun hb h0 => ⟨b.toNat, by omega, (h.mem _).2 (by rw [show ((b.toNat : Nat) : Int) = b by omega]; exact hb)⟩

theorem implG {l : List Pr} (h16 : l.length ≤ 16) (hv : ∀ j (h : j < l.length), 0 ≤ l[j].1 ∧ l[j].1 < l.length) (hd : (vsOf l).Nodup) : ∀ i, i ≤ l.length → ∀ s, GI l.length (l.drop i) s →
    (∃ s', allTo okI l i ∧ loopF (stepI l) (Fs l.length (l.drop i), s, (i : Int) - 1) = some (.inl (Fs l.length l)) ∧ GI l.length l s') ∨ (loopF (stepI l) (Fs l.length (l.drop i), s, (i : Int) - 1) = some (.inr ([], false)) ∧ ¬ allTo okI l i)
  | 0, _, s, h => by
    rw [List.drop_zero] at h ⊢
    exact .inl ⟨s, fun j _ hj => by omega, loopF_done (by unfold stepI; rfl), h⟩
  | i + 1, hi, s, h => by
    have hil : i < l.length := by omega
    have hdr := List.drop_eq_getElem_cons hil
    obtain ⟨v, e⟩ : ∃ v : Nat, l[i].1 = v := ⟨l[i].1.toNat, by have := hv i hil; omega⟩
    have hvn : v < l.length := by have := hv i hil; omega
    have hnot : (v : Int) ∉ vsOf (l.drop (i + 1)) := fun hm => by
      have h2 : (vsOf (l.drop i)).Nodup := by
        unfold vsOf at hd ⊢
        rw [List.map_drop]
        exact List.Pairwise.sublist (List.drop_sublist _ _) hd
      rw [hdr] at h2
      unfold vsOf at h2
      rw [List.map_cons, List.nodup_cons, e] at h2
      exact h2.1 hm
    have hsv : has s v = false := by
      rw [Bool.eq_false_iff]; intro hc; exact hnot ((h.mem v).1 hc)
    have hx : ∀ c : Nat, has s c = true → idx (Fs l.length (l.drop (i + 1))) (c : Int) = some ((Fs l.length (l.drop (i + 1))).getD c 0) := fun c hc => idx_F h.f (h.i.2 c hc)
    have ei : (((i + 1 : Nat) : Int) - 1) = (i : Int) := by omega
    have hwi : IntKind.i64.wrap ((i : Int) - 1) = (i : Int) - 1 := w64 (by omega) (by omega)
    have h0 : decide ((0 : Int) ≤ (i : Int)) = true := decide_eq_true (by omega)
    rw [ei]
    by_cases hok : okI l[i] (l.drop (i + 1))
    · -- on it goes
      have hby : ∀ hk : l[i].2.2 ≠ 1, ∃ b : Nat, l[i].2.1 = b ∧ has s b = true := fun hk => by
        have hm := hok hk
        obtain ⟨q, hq, e2⟩ := List.mem_map.1 hm
        obtain ⟨j, hj, e3⟩ := List.getElem_of_mem (List.mem_of_mem_drop hq)
        have := hv j hj
        rw [e3, e2] at this
        exact mem_has h hm this.1
      have hby' : needs l[i].2.2 → ∃ b : Nat, l[i].2.1 = b ∧ has s b = true := fun hk => hby (by rcases hk with hk | hk | hk <;> omega)
      obtain ⟨hG, eF, hSv, _⟩ := h.step h16 e hvn hsv hby'
      obtain ⟨hS, _⟩ := near_ok h16 h hby'
      rw [← hdr] at hG eF
      have hst : stepI l (Fs l.length (l.drop (i + 1)), s, (i : Int)) = some (.inl (Fs l.length (l.drop i), ior .u32 s (ishl .u32 1 (v : Int)), (i : Int) - 1)) := by
        unfold stepI
        simp only [h0, cond_true, idx_nat hil, Option.bind_some, hwi]
        have hq : ((cond (l[i].2.2 != 1) ((D.i l[i].2.1 0 (IntKind.i64.wrap ((l.length : Int) - 1))).bind fun y_1033 => (cond (!y_1033) (some true) ((D.g s l[i].2.1).bind fun y_1059 => some (!y_1059))).bind fun b_1057 => cond b_1057 (some (.inr (([] : List (List Int)), false))) ((D.b l[i].2.1).bind fun y_1072 => cond (l[i].2.2 == 2) (some (.inl y_1072)) (cond (l[i].2.2 == 3) ((idx (Fs l.length (l.drop (i + 1))) l[i].2.1).bind fun e_1081 => some (.inl e_1081)) (cond (l[i].2.2 == 4) ((idx (Fs l.length (l.drop (i + 1))) l[i].2.1).bind fun e_1088 => some (.inl (ior .u32 e_1088 y_1072))) (some (.inl 0)))))) (some (.inl 0)) : Option (Int ⊕ (((List (List Int))) × Bool)))) = some (.inl (nearS (Fs l.length (l.drop (i + 1))) l[i])) := by
          unfold nearS
          by_cases k1 : l[i].2.2 = 1
          · rw [k1]; rfl
          · obtain ⟨b, e2, hb⟩ := hby k1
            have hbn := h.i.2 b hb
            have c1 : (l[i].2.2 != 1) = true := by simp [k1]
            rw [c1, cond_true, e2, inRange_eq, Option.bind_some, w64 (by omega) (by omega), decide_eq_true (show (0 : Int) ≤ (b : Int) by omega), decide_eq_true (show (b : Int) ≤ (l.length : Int) - 1 by omega), Bool.and_self, Bool.not_true, cond_false, vset_has_eq h.i.1 (by omega), Option.bind_some, hb, Bool.not_true, Option.bind_some, cond_false, impl_one_eq, Option.bind_some, hx b hb, Option.bind_some, Option.bind_some, Int.toNat_natCast]
            by_cases k2 : l[i].2.2 = 2
            · rw [if_pos k2, k2]; rfl
            · rw [if_neg k2, show (l[i].2.2 == 2) = false by simp [k2], cond_false]
              by_cases k3 : l[i].2.2 = 3
              · rw [if_pos k3, k3]; rfl
              · rw [if_neg k3, show (l[i].2.2 == 3) = false by simp [k3], cond_false]
                by_cases k4 : l[i].2.2 = 4
                · rw [if_pos k4, k4]; rfl
                · rw [if_neg k4, show (l[i].2.2 == 4) = false by simp [k4], cond_false]
        rw [hq, Option.bind_some]
        simp only [list_eq _ hS.1, Option.bind_some, e]
        rw [joins_then h16 h.f hS hvn hSv, ← eF, impl_one_eq, Option.bind_some]
      rw [loopF_more hst]
      rcases implG h16 hv hd i (by omega) _ hG with ⟨s', h1, h2, h3⟩ | ⟨h1, h2⟩
      · exact .inl ⟨s', (allTo_succ hil).2 ⟨h1, hok⟩, h2, h3⟩
      · exact .inr ⟨h1, fun hc => h2 ((allTo_succ hil).1 hc).1⟩
    · refine .inr ⟨loopF_done ?_, fun hc => hok ((allTo_succ hil).1 hc).2⟩
      unfold okI at hok
      have k1 : l[i].2.2 ≠ 1 := fun hc => hok (fun hk => absurd hc hk)
      have hnm : l[i].2.1 ∉ vsOf (l.drop (i + 1)) := fun hc => hok (fun _ => hc)
      have c1 : (l[i].2.2 != 1) = true := by simp [k1]
      unfold stepI
      simp only [h0, cond_true, idx_nat hil, Option.bind_some, c1, inRange_eq]
      rw [w64 (by omega) (by omega)]
      by_cases hr : 0 ≤ l[i].2.1 ∧ l[i].2.1 ≤ (l.length : Int) - 1
      · obtain ⟨b, e2⟩ : ∃ b : Nat, l[i].2.1 = b := ⟨l[i].2.1.toNat, by omega⟩
        have hb : has s b = false := by
          rw [Bool.eq_false_iff]; intro hc
          have := (h.mem b).1 hc
          rw [← e2] at this; exact hnm this
        simp only [decide_eq_true hr.1, decide_eq_true hr.2, Bool.and_self, Bool.not_true, cond_false]
        rw [e2, vset_has_eq h.i.1 (by omega), Option.bind_some, hb, Bool.not_false, Option.bind_some, cond_true]; rfl
      · have e5 : (decide ((0 : Int) ≤ l[i].2.1) && decide (l[i].2.1 ≤ (l.length : Int) - 1)) = false := by
          rw [Bool.eq_false_iff]
          intro hc
          rw [Bool.and_eq_true, decide_eq_true_eq, decide_eq_true_eq] at hc
          exact hr hc
        rw [e5, Bool.not_false, cond_true, Option.bind_some, cond_true]; rfl
end Go.Sx

/- 'laws.FnExactLastingStables' comes to true. Plain. -/
namespace Go.Sx
/-- what lasts: stable sets that are near all -/
def Lsts (g : List (List Int)) (K : Int) : Prop := In g.length K ∧ (∀ u w, has K u = true → has K w = true → ¬ adj g u w) ∧ ∀ w, w < g.length → has K w = true ∨ ∃ v, has K v = true ∧ adj g v w

structure LSt (g : List (List Int)) (l : List Int) : Prop where
  up : l.Pairwise (fun a b => skey a < skey b)
  mem : ∀ K, K ∈ l ↔ Lsts g K
theorem LSt.vs {g : List (List Int)} {l : List Int} (h : LSt g l) : ∀ s ∈ l, VS s := fun s hs => ((h.mem s).1 hs).1.1
theorem LSt.len {g : List (List Int)} {l : List Int} (hg : GOk g) (h : LSt g l) : l.length ≤ 65536 := masks_len hg.n16 (fun K hK => ((h.mem K).1 hK).1) (rise_nodup h.up)

end Go.Sx

/- 'laws.FnExactGrownBy' comes to true. Plain. -/
namespace Go.Sx
end Go.Sx

/- 'laws.FnExactGrownBy' comes to true. Plain. -/
namespace Go.Sx
/-- the vertices of the list are all vertices -/
def VOk (l : List Pr) : Prop := (∀ j (h : j < l.length), 0 ≤ l[j].1 ∧ l[j].1 < l.length) ∧ (vsOf l).Nodup
theorem nodup_rev {l : List Int} : l.Nodup ↔ ∀ i (hi : i < l.length), l[i] ∉ l.drop (i + 1) := by
  constructor
  · intro h i hi hm
    have h2 : (l.drop i).Nodup := List.Pairwise.sublist (List.drop_sublist _ _) h
    rw [List.drop_eq_getElem_cons hi, List.nodup_cons] at h2
    exact h2.1 hm
  · intro h
    refine List.pairwise_iff_getElem.2 (fun i j hi hj hij e => h i hi ?_)
    rw [e]
    exact List.mem_drop_iff_getElem.2 ⟨j - (i + 1), by omega, by congr 1; omega⟩
theorem bind_of {α β : Type} {e : Option α} {x : α} (h : e = some x) (k : α → Option β) : e.bind k = k x := by rw [h]; rfl
theorem vs_len (l : List Pr) : (vsOf l).length = l.length := by simp [vsOf]
theorem increasing_vs {l : List Pr} (h16 : l.length ≤ 16) : ∃ b, ((D.N (vsOf l)).bind fun y => (D.q y (l.length : Int)).bind fun y => some (!y)) = some (!b) ∧ (b = true ↔ VOk l) := by
  obtain ⟨y, h1, h2, h3⟩ := sorted_spec (vsOf l) (by rw [vs_len]; exact h16)
  have hyl := h2.length_eq
  rw [vs_len] at hyl
  refine ⟨setB y l.length, ?_, ?_⟩
  · rw [h1, Option.bind_some, increasing_eq y _ (by unfold Sh; omega) (by omega) (by omega)]; rfl
  · rw [setB_iff]
    constructor
    · rintro ⟨k1, k2⟩
      refine ⟨fun j hj => k2 _ (h2.mem_iff.2 ?_), h2.nodup_iff.1 ?_⟩
      · exact List.mem_map.2 ⟨l[j], List.getElem_mem hj, rfl⟩
      · exact List.Pairwise.imp (fun h e => by omega) k1
    · rintro ⟨k1, k2⟩
      refine ⟨sorted_inc h3 (h2.nodup_iff.2 k2), fun x hx => ?_⟩
      obtain ⟨q, hq, rfl⟩ := List.mem_map.1 (h2.mem_iff.1 hx)
      obtain ⟨j, hj, rfl⟩ := List.getElem_of_mem hq
      exact k1 j hj

end Go.Sx

/- Pruning: what is found, that all goes, and what grows again. Plain. -/
namespace Go.Sx
theorem canB_k {g : List (List Int)} {s : Int} {v : Nat} {b k : Int} (h : canB g s v b k) : 1 ≤ k ∧ k ≤ 4 ∧ (b = -1 ∨ ∃ u : Nat, b = u ∧ has s u = true) := by
  unfold canB at h
  by_cases h1 : k = 1
  · rw [if_pos h1] at h; exact ⟨by omega, by omega, .inl h.1⟩
  · rw [if_neg h1] at h
    obtain ⟨u, e, _, hu, h2⟩ := h
    refine ⟨?_, ?_, .inr ⟨u, e, hu⟩⟩ <;> rcases h2 with ⟨h2, _⟩ | ⟨h2, _⟩ | ⟨h2, _⟩ <;> omega
theorem can_iff {g : List (List Int)} {s : Int} {v : Nat} : (∃ b k, canB g s v b k) ↔ canR (adj g) (fun w => has s w = true) v := by
  constructor
  · rintro ⟨b, k, h⟩
    unfold canB at h
    by_cases h1 : k = 1
    · rw [if_pos h1] at h; exact .inl h.2
    · rw [if_neg h1] at h
      obtain ⟨u, _, h2, h3, h4⟩ := h
      refine .inr ⟨u, h2, h3, ?_⟩
      rcases h4 with ⟨_, h4⟩ | ⟨_, h4⟩ | ⟨_, h4⟩
      · exact .inl h4
      · exact .inr (.inl h4)
      · exact .inr (.inr h4)
  · rintro (h | ⟨u, h2, h3, h4⟩)
    · exact ⟨-1, 1, by unfold canB; rw [if_pos rfl]; exact ⟨rfl, h⟩⟩
    · rcases h4 with h4 | h4 | h4
      · exact ⟨u, 2, by unfold canB; rw [if_neg (by decide)]; exact ⟨u, rfl, h2, h3, .inl ⟨rfl, h4⟩⟩⟩
      · exact ⟨u, 3, by unfold canB; rw [if_neg (by decide)]; exact ⟨u, rfl, h2, h3, .inr (.inl ⟨rfl, h4⟩)⟩⟩
      · exact ⟨u, 4, by unfold canB; rw [if_neg (by decide)]; exact ⟨u, rfl, h2, h3, .inr (.inr ⟨rfl, h4⟩)⟩⟩

theorem pruneOf_ok {g : List (List Int)} (hg : GOk g) {s : Int} (hs : In g.length s) {v : Nat} (hv : v < g.length) :
    ∃ p, D.K (g.map mk) s (v : Int) = some p ∧ ((p.2.2.2 = true → p.1 = v ∧ canB g s v p.2.1 p.2.2.1) ∧ (p.2.2.2 = false → ∀ b k, ¬ canB g s v b k)) := by
  have h16 := hg.n16
  have hml : ((g.map mk).length : Int) = g.length := by simp
  unfold D.K
  refine loop_then (fun x => ∃ k : Nat, x = (k : Int) ∧ 1 ≤ k ∧ k ≤ 5 ∧ ∀ k' : Int, k' < k → ∀ b, ¬ canB g s v b k') (fun x => 5 - x.toNat)
    (fun r => (r = .inl () ∧ ∀ b k, ¬ canB g s v b k) ∨ ∃ b k, r = .inr ((v : Int), b, k, true) ∧ canB g s v b k) ?_ ⟨1, rfl, by omega, by omega, fun k' hk b hc => by have := (canB_k hc).1; omega⟩ ?_
  · rintro _ ⟨k, rfl, h1, h5, hno⟩
    by_cases h4 : k ≤ 4
    · rw [show decide ((k : Int) ≤ 4) = true from decide_eq_true (by omega), cond_true]
      refine loop_then (fun x => ∃ j : Nat, x = (j : Int) - 1 ∧ j ≤ g.length + 1 ∧ ∀ b : Int, b < (j : Int) - 1 → ¬ canB g s v b k) (fun x => (g.length - x).toNat)
        (fun r => (r = .inl () ∧ ∀ b, ¬ canB g s v b k) ∨ ∃ b, r = .inr ((v : Int), b, (k : Int), true) ∧ canB g s v b k) ?_ ⟨0, rfl, by omega, fun b hb hc => ?_⟩ ?_
      · rintro _ ⟨j, rfl, hj, hnj⟩
        rw [hml]
        by_cases hjl : j < g.length + 1
        · obtain ⟨r, e, hr⟩ := canPrune_eq hg hs hv ((j : Int) - 1) (k : Int)
          have hw : IntKind.i64.wrap ((j : Int) - 1 + 1) = ((j + 1 : Nat) : Int) - 1 := by rw [w64 (by omega) (by omega)]; omega
          rw [show decide ((j : Int) - 1 < (g.length : Int)) = true from decide_eq_true (by omega), cond_true, e, Option.bind_some, hw]
          cases hrr : r
          · rw [cond_false]
            refine ⟨_, rfl, ⟨j + 1, rfl, by omega, fun b hb hc => ?_⟩, by dsimp only; omega⟩
            by_cases hbj : b = (j : Int) - 1
            · subst hbj
              have := hr.2 hc
              rw [hrr] at this; cases this
            · exact hnj b (by omega) hc
          · rw [cond_true]
            exact ⟨_, rfl, .inr ⟨_, rfl, hr.1 hrr⟩⟩
        · obtain rfl : j = g.length + 1 := by omega
          rw [show decide (((g.length + 1 : Nat) : Int) - 1 < (g.length : Int)) = false from decide_eq_false (by omega), cond_false]
          refine ⟨_, rfl, .inl ⟨rfl, fun b hc => ?_⟩⟩
          rcases (canB_k hc).2.2 with e | ⟨u, rfl, hu⟩
          · exact hnj b (by omega) hc
          · have := hs.2 u hu
            exact hnj _ (by omega) hc
      · rcases (canB_k hc).2.2 with e | ⟨u, rfl, _⟩ <;> omega
      · rintro r (⟨rfl, hn⟩ | ⟨b, rfl, hc⟩)
        · rw [wi (by omega)]
          refine ⟨_, rfl, ⟨k + 1, rfl, by omega, by omega, fun k' hk b hc => ?_⟩, by dsimp only; omega⟩
          by_cases hkk : k' = (k : Int)
          · subst hkk; exact hn b hc
          · exact hno k' (by omega) b hc
        · exact ⟨_, rfl, .inr ⟨b, _, rfl, hc⟩⟩
    · obtain rfl : k = 5 := by omega
      rw [show decide (((5 : Nat) : Int) ≤ 4) = false from rfl, cond_false]
      refine ⟨_, rfl, .inl ⟨rfl, fun b k hc => hno k ?_ b hc⟩⟩
      have := (canB_k hc).2.1
      omega
  · rintro r (⟨rfl, hn⟩ | ⟨b, k, rfl, hc⟩)
    · exact ⟨_, rfl, (fun h => by cases h), fun _ => hn⟩
    · exact ⟨_, rfl, (fun _ => ⟨rfl, hc⟩), (fun h => by cases h)⟩

theorem allP_snoc {α : Type} {ok : α → Int → Prop} {nx : α → Int → Int} : ∀ {l : List α} {s : Int} {p : α}, allP ok nx l s → ok p (l.foldl (fun s p => nx p s) s) → allP ok nx (l ++ [p]) s
  | [], _, _, _, h => ⟨h, trivial⟩
  | _ :: _, _, _, h1, h2 => ⟨h1.1, allP_snoc h1.2 h2⟩

/-- all goes -/
theorem prunedOf_ok {g : List (List Int)} (hg : GOk g) (he : Elim (adj g) g.length (fun w => w < g.length)) :
    ∃ y, D.o0 (g.map mk) (full g.length) = some y ∧ (y.2 = 0 ∧ y.1.length = g.length ∧ allP (okP g) nxP y.1 (full g.length) ∧ y.1.foldl (fun s p => nxP p s) (full g.length) = 0) := by
  have h16 := hg.n16
  have hsym : ∀ u w, (adj g u w ∧ u < g.length) → (adj g w u ∧ w < g.length) := fun u w h => ⟨hg.sym u w h.2 h.1, hg.lt h.2 h.1⟩
  have hel0 : Elim (fun u w => adj g u w ∧ u < g.length) g.length (fun w => has (full g.length) w = true) := he.congr (fun w => by rw [has_full h16, decide_eq_true_eq]) (fun u w hu _ => ⟨fun h => h.1, fun h => ⟨h, hu⟩⟩)
  have hcan : ∀ s, In g.length s → ∀ v, has s v = true → (canR (fun u w => adj g u w ∧ u < g.length) (fun w => has s w = true) v ↔ ∃ b k, canB g s v b k) := fun s hs v hv => by
    rw [can_iff]
    have hvn := hs.2 v hv
    unfold canR
    constructor
    · rintro (h | ⟨u, h1, h2, h3⟩)
      · exact .inl fun w hw ha => h w hw ⟨ha, hvn⟩
      · refine .inr ⟨u, h1, h2, ?_⟩
        have hun := hs.2 u h2
        rcases h3 with h3 | ⟨h3, h4⟩ | ⟨h3, h4⟩
        · exact .inl fun w hw => ⟨fun ha => (h3 w hw).1 ⟨ha, hvn⟩, fun e => ((h3 w hw).2 e).1⟩
        · exact .inr (.inl ⟨fun ha => h3 ⟨ha, hvn⟩, fun w hw => ⟨fun ha => ((h4 w hw).1 ⟨ha, hvn⟩).1, fun ha => ((h4 w hw).2 ⟨ha, hun⟩).1⟩⟩)
        · exact .inr (.inr ⟨h3.1, fun w hw k1 k2 => ⟨fun ha => ((h4 w hw k1 k2).1 ⟨ha, hvn⟩).1, fun ha => ((h4 w hw k1 k2).2 ⟨ha, hun⟩).1⟩⟩)
    · rintro (h | ⟨u, h1, h2, h3⟩)
      · exact .inl fun w hw ha => h w hw ha.1
      · refine .inr ⟨u, h1, h2, ?_⟩
        have hun := hs.2 u h2
        rcases h3 with h3 | ⟨h3, h4⟩ | ⟨h3, h4⟩
        · exact .inl fun w hw => ⟨fun ha => (h3 w hw).1 ha.1, fun e => ⟨(h3 w hw).2 e, hvn⟩⟩
        · exact .inr (.inl ⟨fun ha => h3 ha.1, fun w hw => ⟨fun ha => ⟨(h4 w hw).1 ha.1, hun⟩, fun ha => ⟨(h4 w hw).2 ha.1, hvn⟩⟩⟩)
        · exact .inr (.inr ⟨⟨h3, hvn⟩, fun w hw k1 k2 => ⟨fun ha => ⟨(h4 w hw k1 k2).1 ha.1, hun⟩, fun ha => ⟨(h4 w hw k1 k2).2 ha.1, hvn⟩⟩⟩)
  unfold D.o0
  have key := loopF_inv (step := D.H0 (g.map mk)) (fun s => In g.length s.2.1 ∧ s.2.1 = s.1.foldl (fun s p => nxP p s) (full g.length) ∧ allP (okP g) nxP s.1 (full g.length) ∧ s.1.length ≤ g.length ∧
      Elim (fun u w => adj g u w ∧ u < g.length) (g.length - s.1.length) (fun w => has s.2.1 w = true) ∧ (s.2.2 = false → ∀ v, has s.2.1 v = true → ∀ b k, ¬ canB g s.2.1 v b k)) (fun s => 2 * (g.length - s.1.length) + (if s.2.2 then 1 else 0))
    (fun y => y.2 = 0 ∧ y.1.length = g.length ∧ allP (okP g) nxP y.1 (full g.length) ∧ y.1.foldl (fun s p => nxP p s) (full g.length) = 0) ?_ ([], full g.length, true) ⟨full_in h16, rfl, trivial, by simp, hel0, fun h => by cases h⟩
  · exact key
  · rintro ⟨out, left, go⟩ ⟨hI, hfold, hall, hlen, hE, hno⟩
    dsimp only at hI hfold hall hlen hE hno
    unfold D.H0
    dsimp only
    cases go
    · right
      rw [cond_false]
      refine ⟨_, rfl, ?_⟩
      dsimp only
      cases hk : g.length - out.length with
      | zero =>
        rw [hk] at hE
        have h0 : left = 0 := (VS.eq_zero hI.1).2 (fun v _ => by rw [Bool.eq_false_iff]; exact hE v)
        exact ⟨h0, by omega, hall, by rw [← hfold]; exact h0⟩
      | succ k =>
        rw [hk] at hE
        obtain ⟨v, hv, hc, _⟩ := hE
        obtain ⟨b, kk, hb⟩ := (hcan left hI v hv).1 hc
        exact absurd hb (hno rfl v hv b kk)
    · left
      rw [cond_true, list_eq _ hI.1, Option.bind_some]
      have hel := elems_len left
      -- one round
      have hround : ∃ q, (loopF (D.I0 (g.map mk) (elems left) out left) 0) = some q ∧ ((q = (out, left, false) ∧ ∀ v, has left v = true → ∀ b k, ¬ canB g left v b k) ∨ ∃ p : Pr, okP g p left ∧ q = (out ++ [p], nxP p left, true)) := by
        refine loopF_inv (fun x => ∃ i : Nat, x = (i : Int) ∧ i ≤ (elems left).length ∧ ∀ v : Nat, (v : Int) ∈ (elems left).take i → ∀ b k, ¬ canB g left v b k) (fun x => (elems left).length - x.toNat) _ ?_ 0 ⟨0, rfl, by omega, by simp⟩
        rintro _ ⟨i, rfl, hi, hn⟩
        unfold D.I0
        by_cases hil : i < (elems left).length
        · obtain ⟨v, _, hv, hve⟩ := mem_elems.1 (List.getElem_mem hil)
          obtain ⟨p, ep, p1, p2⟩ := pruneOf_ok hg hI (hI.2 v hv)
          rw [dlt hil, cond_true, idx_nat hil, Option.bind_some, hve, ep, Option.bind_some]
          cases hp : p.2.2.2
          · left
            rw [cond_false, wi (by omega)]
            refine ⟨_, rfl, ⟨i + 1, rfl, by omega, fun w hw b k => ?_⟩, by omega⟩
            rw [List.take_succ_eq_append_getElem hil, List.mem_append, List.mem_singleton, hve] at hw
            rcases hw with hw | hw
            · exact hn w hw b k
            · obtain rfl : w = v := by omega
              exact p2 hp b k
          · right
            obtain ⟨q1, q2⟩ := p1 hp
            rw [cond_true, appendD_ok (by simp; omega), Option.bind_some, impl_one_eq, Option.bind_some]
            refine ⟨_, rfl, .inr ⟨(p.1, p.2.1, p.2.2.1), ⟨v, q1, hv, q2⟩, ?_⟩⟩
            unfold nxP
            rw [q1]
        · right
          obtain rfl : i = (elems left).length := by omega
          simp only [dnlt, cond_false]
          refine ⟨_, rfl, .inl ⟨rfl, fun v hv => hn v ?_⟩⟩
          rw [List.take_length]
          exact (mem_elems_nat hI.1).2 hv
      obtain ⟨q, eq, hq⟩ := hround
      rw [eq, Option.bind_some]
      refine ⟨_, rfl, ?_, ?_⟩
      · rcases hq with ⟨rfl, hq⟩ | ⟨p, ⟨v, e1, hv, hc⟩, rfl⟩
        · exact ⟨hI, hfold, hall, hlen, hE, fun _ => hq⟩
        · have hvn := hI.2 v hv
          have hk : ∃ k, g.length - out.length = k + 1 := by
            cases hk : g.length - out.length with
            | zero => rw [hk] at hE; exact absurd hv (hE v)
            | succ k => exact ⟨k, rfl⟩
          obtain ⟨k, hk⟩ := hk
          have hnx : nxP p left = iandNot .u32 left (ishl .u32 1 (v : Int)) := by unfold nxP; rw [e1]
          refine ⟨by rw [hnx]; exact nx_in h16 hI hvn, by rw [List.foldl_append, ← hfold]; rfl, allP_snoc hall (by rw [← hfold]; exact ⟨v, e1, hv, hc⟩), by simp; omega, ?_, fun h => by cases h⟩
          rw [hk] at hE
          have := Elim.del (fun u w h => hsym u w h) (fun u h => hg.irr u h.2 h.1) k _ hE v hv
          rw [show g.length - (out ++ [p]).length = k by simp; omega]
          refine this.congr (fun w => ?_) (fun _ _ _ _ => Iff.rfl)
          dsimp only
          rw [hnx, has_iandNot hI.1 (VS.ishl _ _), has_one (by omega)]
          simp
      · rcases hq with ⟨rfl, hq⟩ | ⟨p, ⟨v, e1, hv, hc⟩, rfl⟩
        · simp
        · have hk : g.length - out.length ≠ 0 := fun hk => by rw [hk] at hE; exact hE v hv
          simp only [List.length_append, List.length_singleton, if_true]
          omega
end Go.Sx

/- Graphs that grow by pendants and twins; vertices that are cut. Plain. -/
namespace Go.Sx
theorem w9With_ok {x : List Int} (hx : Inc x) (hl : x.length ≤ 1000000) (v : Int) : ∃ y, D.n0 x v = some y ∧ (Inc y ∧ ∀ z, z ∈ y ↔ z = v ∨ z ∈ x) := by
  unfold D.n0
  refine loop_then (fun s => ∃ i : Nat, s.2.2 = (i : Int) ∧ i ≤ x.length ∧ s.1.length ≤ i + 1 ∧ Inc s.1 ∧ (∀ z, z ∈ s.1 ↔ z ∈ x.take i ∨ (s.2.1 = true ∧ z = v)) ∧ (s.2.1 = false → ∀ z ∈ x.take i, z < v) ∧ ∀ z ∈ s.1, ∀ w ∈ x.drop i, z < w) (fun s => x.length - s.2.2.toNat)
    (fun r => r.1.length ≤ x.length + 1 ∧ Inc r.1 ∧ (∀ z, z ∈ r.1 ↔ z ∈ x ∨ (r.2 = true ∧ z = v)) ∧ (r.2 = false → ∀ z ∈ x, z < v)) ?_ ⟨0, rfl, by omega, by simp, by simp [Inc], by simp, by simp, by simp⟩ ?_
  · rintro ⟨l, b, _⟩ ⟨i, rfl, hi, hll, hI, hm, hb, hd⟩
    dsimp only at hll hI hm hb hd ⊢
    by_cases hil : i < x.length
    · have hdrop : x.drop i = x[i] :: x.drop (i + 1) := List.drop_eq_getElem_cons hil
      have hlt : ∀ w ∈ x.drop (i + 1), x[i] < w := fun w hw => by
        obtain ⟨j, hj, rfl⟩ := List.getElem_of_mem hw
        rw [List.getElem_drop]
        exact List.pairwise_iff_getElem.1 hx i (i + 1 + j) hil (by simp at hj; omega) (by omega)
      have hle : ∀ z ∈ l, z < x[i] := fun z hz => hd z hz _ (by rw [hdrop]; exact List.mem_cons_self ..)
      have hincA : ∀ (l' : List Int) (c : Int), Inc l' → (∀ z ∈ l', z < c) → Inc (l' ++ [c]) := fun l' c h1 h2 => by
        unfold Inc
        rw [List.pairwise_append]
        exact ⟨h1, by simp, fun z hz c' hc => by simp at hc; rw [hc]; exact h2 z hz⟩
      have htake : ∀ z, z ∈ x.take (i + 1) ↔ z ∈ x.take i ∨ z = x[i] := fun z => by rw [List.take_succ_eq_append_getElem hil, List.mem_append, List.mem_singleton]
      have hw : IntKind.i64.wrap ((i : Int) + 1) = ((i + 1 : Nat) : Int) := wi (by omega)
      rw [dlt hil, cond_true]
      simp only [idx_nat hil, Option.bind_some]
      by_cases hc : b = false ∧ v < x[i]
      · obtain ⟨rfl, hvx⟩ := hc
        have hlv : ∀ z ∈ l, z < v := fun z hz => by
          rcases (hm z).1 hz with h | ⟨h, _⟩
          · exact hb rfl z h
          · cases h
        have hli : l.length ≤ i := by
          have := nodup_le (m := x.take i) (List.Pairwise.imp (fun h e => by omega) hI : l.Nodup) (fun z hz => by
            rcases (hm z).1 hz with h | ⟨h, _⟩
            · exact h
            · cases h)
          simp at this; omega
        have a1 : appendD l [v] = some (l ++ [v]) := appendD_ok (by simp; omega)
        have a2 : appendD (l ++ [v]) [x[i]] = some (l ++ [v] ++ [x[i]]) := appendD_ok (by simp; omega)
        simp only [Bool.not_false, cond_true, decide_eq_true hvx, Option.bind_some, a1, a2, hw]
        refine ⟨_, rfl, ⟨i + 1, rfl, by omega, by simp; omega, hincA _ _ (hincA _ _ hI hlv) (fun z hz => ?_), fun z => ?_, fun h => (by cases h), fun z hz w hwd => ?_⟩, by dsimp only; omega⟩
        · rcases List.mem_append.1 hz with hz | hz
          · exact hle z hz
          · simp at hz; rw [hz]; exact hvx
        · dsimp only
          rw [List.mem_append, List.mem_append, hm, htake]
          simp only [List.mem_singleton, Bool.false_eq_true, false_and, or_false, true_and]
          constructor
          · rintro ((h | h) | h)
            · exact .inl (.inl h)
            · exact .inr h
            · exact .inl (.inr h)
          · rintro ((h | h) | h)
            · exact .inl (.inl h)
            · exact .inr h
            · exact .inl (.inr h)
        · dsimp only at hz
          have h1 := hlt w hwd
          rcases List.mem_append.1 hz with hz | hz
          · rcases List.mem_append.1 hz with hz | hz
            · have := hle z hz; omega
            · simp at hz; omega
          · simp at hz; omega
      · have hcf : (cond (!b) (some (decide (v < x[i]))) (some false)) = some false := by
          cases b
          · rw [Bool.not_false, cond_true, decide_eq_false (fun h => hc ⟨rfl, h⟩)]
          · rfl
        rw [hcf]
        simp only [Option.bind_some, cond_false]
        have hb2 : ∃ b', (cond b (some true) (some (x[i] == v))) = some b' ∧ (b' = true ↔ b = true ∨ x[i] = v) := by
          cases b
          · exact ⟨_, rfl, by simp⟩
          · exact ⟨_, rfl, by simp⟩
        obtain ⟨b', eb, hb'⟩ := hb2
        rw [eb, Option.bind_some, appendD_ok (by simp; omega), Option.bind_some, hw]
        refine ⟨_, rfl, ⟨i + 1, rfl, by omega, by simp; omega, hincA _ _ hI hle, fun z => ?_, fun h z hz => ?_, fun z hz w hwd => ?_⟩, by dsimp only; omega⟩
        · dsimp only
          rw [List.mem_append, hm, htake, hb', List.mem_singleton]
          constructor
          · rintro ((h | ⟨h, e⟩) | h)
            · exact .inl (.inl h)
            · exact .inr ⟨.inl h, e⟩
            · exact .inl (.inr h)
          · rintro ((h | h) | ⟨h | h, e⟩)
            · exact .inl (.inl h)
            · exact .inr h
            · exact .inl (.inr ⟨h, e⟩)
            · exact .inr (by rw [e, h])
        · dsimp only at h
          have hbf : b = false := by
            cases hbb : b
            · rfl
            · rw [hb'.2 (.inl hbb)] at h; cases h
          have hne : x[i] ≠ v := fun e => by rw [hb'.2 (.inr e)] at h; cases h
          have hnv : ¬ v < x[i] := fun h => hc ⟨hbf, h⟩
          rcases (htake z).1 hz with hz | hz
          · exact hb hbf z hz
          · omega
        · dsimp only at hz
          have h1 := hlt w hwd
          rcases List.mem_append.1 hz with hz | hz
          · have := hle z hz; omega
          · simp at hz; omega
    · obtain rfl : i = x.length := by omega
      simp only [dnlt, cond_false]
      rw [List.take_length] at hm hb
      exact ⟨_, rfl, hll, hI, hm, hb⟩
  · rintro ⟨l, b⟩ ⟨hll, hI, hm, hb⟩
    dsimp only at hll hI hm hb ⊢
    cases b
    · rw [Bool.not_false, cond_true, appendD_ok (by simp; omega), Option.bind_some]
      refine ⟨_, rfl, ?_, fun z => ?_⟩
      · unfold Inc
        rw [List.pairwise_append]
        refine ⟨hI, by simp, fun z hz c hc => ?_⟩
        simp at hc; rw [hc]
        rcases (hm z).1 hz with h | ⟨h, _⟩
        · exact hb rfl z h
        · cases h
      · rw [List.mem_append, hm, List.mem_singleton]
        simp only [Bool.false_eq_true, false_and, or_false]
        exact Or.comm
    · refine ⟨_, rfl, hI, fun z => ?_⟩
      rw [hm]
      simp only [true_and]
      exact Or.comm

theorem row_more (g : List (List Int)) (v : Nat) : row (g ++ [[]]) v = row g v := by
  unfold row
  rw [List.getD_eq_getElem?_getD, List.getD_eq_getElem?_getD]
  by_cases h : v < g.length
  · rw [List.getElem?_append_left h]
  · rw [List.getElem?_append_right (by omega), List.getElem?_eq_none (show g.length ≤ v by omega)]
    by_cases h2 : v - g.length = 0
    · rw [h2]; rfl
    · rw [List.getElem?_eq_none (by simp; omega)]
theorem GOk.more {g : List (List Int)} (hg : GOk g) (h16 : g.length < 16) : GOk (g ++ [[]]) := by
  have hl : (g ++ [[]]).length = g.length + 1 := by simp
  have hadj : ∀ u v, adj (g ++ [[]]) u v ↔ adj g u v := fun u v => by unfold adj; rw [row_more]
  have hn : ∀ u v, adj g u v → u < g.length := fun u v h => by
    apply Classical.byContradiction
    intro hc
    unfold adj row at h
    rw [List.getD_eq_getElem?_getD, List.getElem?_eq_none (by omega)] at h
    simp at h
  refine ⟨by omega, by omega, fun v _ => ?_, fun v _ h => ?_, fun u v _ h => ?_⟩
  · rw [row_more]
    by_cases hv : v < g.length
    · exact ⟨(hg.rows v hv).1, fun x hx => by have := (hg.rows v hv).2 x hx; omega⟩
    · unfold row
      rw [List.getD_eq_getElem?_getD, List.getElem?_eq_none (by omega)]
      exact ⟨by simp [Inc], by simp⟩
  · rw [hadj] at h; exact hg.irr v (hn v v h) h
  · rw [hadj] at h ⊢; exact hg.sym u v (hn u v h) h
theorem adj_lt {g : List (List Int)} {u v : Nat} (h : adj g u v) : u < g.length := by
  apply Classical.byContradiction
  intro hc
  unfold adj row at h
  rw [List.getD_eq_getElem?_getD, List.getElem?_eq_none (by omega)] at h
  simp at h

theorem AddedVertex_ok {g : List (List Int)} (hg : GOk g) (h16 : g.length < 16) {x : List Int} (hx : SetOf x (g.length : Int)) :
    ∃ y, D.y g x = some y ∧ (GOk y.1 ∧ y.1.length = g.length + 1 ∧ ∀ u w : Nat, adj y.1 u w ↔ adj g u w ∨ (u = g.length ∧ (w : Int) ∈ x) ∨ (w = g.length ∧ (u : Int) ∈ x)) := by
  have hxl := hx.length_le (by omega)
  unfold D.y D.c
  rw [spec_SetOk_eq g x hg.sh2 (by unfold Sh; omega), gB_true hg, (setB_iff _ _).2 hx, Option.bind_some]
  simp only [Bool.and_self, Bool.not_true, cond_false, Option.bind_some]
  rw [show ((g.length : Int) == 16) = false by simp; omega, cond_false, l1CopyGraph_eq hg, Option.bind_some, appendD_ok (by simp; omega), Option.bind_some]
  refine loop_then (fun s => ∃ i : Nat, s.1 = (i : Int) ∧ i ≤ x.length ∧ GOk s.2 ∧ s.2.length = g.length + 1 ∧ ∀ u w : Nat, adj s.2 u w ↔ adj g u w ∨ (u = g.length ∧ (w : Int) ∈ x.take i) ∨ (w = g.length ∧ (u : Int) ∈ x.take i)) (fun s => x.length - s.1.toNat)
    (fun G => GOk G ∧ G.length = g.length + 1 ∧ ∀ u w : Nat, adj G u w ↔ adj g u w ∨ (u = g.length ∧ (w : Int) ∈ x) ∨ (w = g.length ∧ (u : Int) ∈ x)) ?_ ⟨0, rfl, by omega, hg.more h16, by simp, fun u w => by unfold adj; rw [row_more]; simp⟩ (fun G hG => ⟨_, rfl, hG⟩)
  · rintro ⟨_, G⟩ ⟨i, rfl, hi, hG, hGl, hA⟩
    dsimp only at hG hGl hA ⊢
    by_cases hil : i < x.length
    · skip
      have hr := hx.2 _ (List.getElem_mem hil)
      obtain ⟨u, hu⟩ : ∃ u : Nat, x[i] = (u : Int) := ⟨x[i].toNat, by omega⟩
      obtain ⟨G', e, k1, k2, k3⟩ := l1Link_ok hG (u := u) (v := g.length) (by omega) (by omega) (by omega)
      rw [dlt hil, cond_true, idx_nat hil, Option.bind_some, hu, e, Option.bind_some, wi (by omega)]
      refine ⟨_, rfl, ⟨i + 1, rfl, by omega, k1, by dsimp only; omega, fun a b => ?_⟩, by dsimp only; omega⟩
      dsimp only
      rw [k3, hA, List.take_succ_eq_append_getElem hil, hu]
      simp only [List.mem_append, List.mem_singleton, Int.natCast_inj]
      constructor
      · rintro ((h | ⟨h1, h2⟩ | ⟨h1, h2⟩) | ⟨h1, h2⟩ | ⟨h1, h2⟩)
        · exact .inl h
        · exact .inr (.inl ⟨h1, .inl h2⟩)
        · exact .inr (.inr ⟨h1, .inl h2⟩)
        · exact .inr (.inr ⟨h2, .inr h1⟩)
        · exact .inr (.inl ⟨h1, .inr h2⟩)
      · rintro (h | ⟨h1, h2 | h2⟩ | ⟨h1, h2 | h2⟩)
        · exact .inl (.inl h)
        · exact .inl (.inr (.inl ⟨h1, h2⟩))
        · exact .inr (.inr ⟨h1, h2⟩)
        · exact .inl (.inr (.inr ⟨h1, h2⟩))
        · exact .inr (.inl ⟨h2, h1⟩)
    · obtain rfl : i = x.length := by omega
      simp only [dnlt, cond_false]
      rw [List.take_length] at hA
      exact ⟨_, rfl, hG, hGl, hA⟩

/-- a graph of which all can be pruned -/
def AllGo (g : List (List Int)) : Prop := Elim (adj g) g.length (fun w => w < g.length)
theorem AllGo.add {g y : List (List Int)} (hg : GOk g) (h : AllGo g) {x : List Int} (hx : SetOf x (g.length : Int)) (hl : y.length = g.length + 1)
    (hA : ∀ u w : Nat, adj y u w ↔ adj g u w ∨ (u = g.length ∧ (w : Int) ∈ x) ∨ (w = g.length ∧ (u : Int) ∈ x)) (hc : canR (adj y) (fun w => w < g.length + 1) g.length) : AllGo y := by
  unfold AllGo
  rw [hl]
  refine ⟨g.length, by omega, hc, h.congr (fun w => ⟨fun h => ⟨by omega, by omega⟩, fun h => by omega⟩) (fun u w hu hw => ?_)⟩
  rw [hA]
  constructor
  · rintro (h | ⟨h, _⟩ | ⟨h, _⟩)
    · exact h
    · omega
    · omega
  · exact .inl

theorem w9Grown_ok {b : List Int} {i : Int} (h : DK b i) (z : Int) : ∃ y, D.a0 b i z 7 1 = some y ∧ (GOk y.1 ∧ y.1.length ≤ 7 ∧ AllGo y.1 ∧ y.2.1 = b ∧ DK b y.2.2.1) := by
  unfold D.a0
  obtain ⟨g0, e0, hg0, hl0, hA0⟩ := GraphOf_ok 1 [] (by omega) (by omega) (by simp) (by simp)
  rw [show D.R 1 ([] : List (List Int)) = some (g0, true) from e0, Option.bind_some]
  refine bind_then _ (below_then h z 7 (by omega)) ?_
  rintro ⟨r, b1, i1, z1⟩ ⟨r0, r1, rfl, k1⟩
  dsimp only at r0 r1 k1 ⊢
  have hgo0 : AllGo g0 := by
    unfold AllGo
    rw [hl0]
    exact ⟨0, by omega, .inl fun w _ ha => by rw [hA0] at ha; simp at ha, fun w hw => by omega⟩
  refine loop_then (fun s => ∃ c : Nat, s.1 = (c : Int) ∧ s.2.1 = b1 ∧ DK b1 s.2.2.1 ∧ GOk s.2.2.2.2 ∧ s.2.2.2.2.length + c ≤ 7 ∧ AllGo s.2.2.2.2) (fun s => s.1.toNat)
    (fun r => GOk r.1 ∧ r.1.length ≤ 7 ∧ AllGo r.1 ∧ r.2.1 = b1 ∧ DK b1 r.2.2.1) ?_ ⟨r.toNat, by dsimp only; omega, rfl, k1, hg0, by dsimp only; omega, hgo0⟩ (fun r hr => ⟨_, rfl, hr⟩)
  rintro ⟨_, b1, i, z, g⟩ ⟨c, rfl, rfl, hk, hg, hl, hgo⟩
  dsimp only at hk hg hl hgo ⊢
  have hn1 := hg.n1
  by_cases hc : 0 < c
  · rw [show decide ((0 : Int) < (c : Int)) = true from decide_eq_true (by omega), cond_true]
    refine bind_then _ (below_then hk z (g.length : Int) (by omega)) ?_
    rintro ⟨v, b2, i2, z2⟩ ⟨v0, v1, rfl, k2⟩
    dsimp only at v0 v1 k2 ⊢
    obtain ⟨v, rfl⟩ : ∃ n : Nat, v = n := ⟨v.toNat, by omega⟩
    have hvn : v < g.length := by omega
    rw [show IntKind.i64.wrap (5 - 1) = 4 from rfl]
    refine bind_then _ (below_then k2 z2 4 (by omega)) ?_
    rintro ⟨t, b3, i3, z3⟩ ⟨t0, t1, rfl, k3⟩
    dsimp only at t0 t1 k3 ⊢
    rw [w64 (x := 1 + t) (by omega) (by omega), w64 (x := (c : Int) - 1) (by omega) (by omega)]
    have hfin : ∀ (x : List Int), SetOf x (g.length : Int) → (∀ y, (∀ u w : Nat, adj y u w ↔ adj g u w ∨ (u = g.length ∧ (w : Int) ∈ x) ∨ (w = g.length ∧ (u : Int) ∈ x)) → canR (adj y) (fun w => w < g.length + 1) g.length) →
        ∃ q, ((D.y g x).bind fun y => some (Sum.inl ((c : Int) - 1, b3, i3, z3, y.1) : (Int × List Int × Int × Int × List (List Int)) ⊕ (List (List Int) × List Int × Int × Int))) = some q ∧
          Stp (fun s : Int × List Int × Int × Int × List (List Int) => ∃ c : Nat, s.1 = (c : Int) ∧ s.2.1 = b3 ∧ DK b3 s.2.2.1 ∧ GOk s.2.2.2.2 ∧ s.2.2.2.2.length + c ≤ 7 ∧ AllGo s.2.2.2.2) (fun s => s.1.toNat) (fun r => GOk r.1 ∧ r.1.length ≤ 7 ∧ AllGo r.1 ∧ r.2.1 = b3 ∧ DK b3 r.2.2.1) ((c : Int), b3, i, z, g) q := by
      intro x hx hcan
      obtain ⟨y, e, y1, y2, y3⟩ := AddedVertex_ok hg (by omega) hx
      rw [e, Option.bind_some]
      exact ⟨_, rfl, ⟨c - 1, by dsimp only; omega, rfl, k3, y1, by dsimp only; omega, hgo.add hg hx y2 y3 (hcan y.1 y3)⟩, by dsimp only; omega⟩
    have hrv := hg.rows v hvn
    have hrl := hg.row_len hvn
    have hnn : ∀ w, ¬ adj g g.length w := fun w ha => by have := adj_lt ha; omega
    have hself : (v : Int) ∉ row g v := hg.irr v hvn
    have hrown : ((g.length : Nat) : Int) ∉ row g v := fun h => by have := hrv.2 _ h; omega
    by_cases e2 : t = 1
    · subst e2
      simp only [show ((1 + 1 : Int) != 2) = false from rfl, show ((1 + 1 : Int) == 4) = false from rfl, show ((1 + 1 : Int) == 1) = false from rfl, cond_false, Option.bind_some]
      refine hfin [(v : Int)] ⟨by simp [Inc], fun z hz => by simp at hz; omega⟩ (fun y hy => .inr ⟨v, by omega, by omega, .inl fun w hw => ?_⟩)
      rw [hy]
      simp only [List.mem_singleton, Int.natCast_inj, true_and]
      constructor
      · rintro (h | h | ⟨_, h⟩)
        · exact absurd h (hnn w)
        · exact h
        · omega
      · exact fun h => .inr (.inl h)
    · have e2' : (1 + t != 2) = true := by simp; omega
      rw [e2', cond_true, idx_row hvn, Option.bind_some, appendD_ok (by simp; omega), Option.bind_some, List.nil_append, Option.bind_some]
      by_cases e4 : t = 3
      · subst e4
        obtain ⟨x, ex, hxi, hxm⟩ := w9With_ok hrv.1 (by omega) (v : Int)
        simp only [show ((1 + 3 : Int) == 4) = true from rfl, show ((1 + 3 : Int) == 1) = false from rfl, cond_true, cond_false, ex, Option.bind_some]
        refine hfin x ⟨hxi, fun z hz => ?_⟩ (fun y hy => .inr ⟨v, by omega, by omega, .inr (.inr ⟨?_, fun w hw h1 h2 => ?_⟩)⟩)
        · rcases (hxm z).1 hz with rfl | hz
          · omega
          · exact hrv.2 z hz
        · rw [hy]
          exact .inr (.inl ⟨rfl, (hxm _).2 (.inl rfl)⟩)
        · rw [hy, hy, hxm, hxm, hxm]
          constructor
          · rintro (h | ⟨_, h | h⟩ | ⟨h, _⟩)
            · exact absurd h (hnn w)
            · exact absurd h (by omega)
            · exact .inl h
            · omega
          · rintro (h | ⟨h, _⟩ | ⟨h, _⟩)
            · exact .inr (.inl ⟨rfl, .inr h⟩)
            · omega
            · omega
      · have e4' : (1 + t == 4) = false := by simp; omega
        rw [e4', cond_false, Option.bind_some]
        by_cases e1 : t = 0
        · subst e1
          rw [show ((1 + 0 : Int) == 1) = true from rfl, cond_true]
          refine hfin [] ⟨by simp [Inc], by simp⟩ (fun y hy => .inl fun w hw ha => ?_)
          rw [hy] at ha
          rcases ha with h | ⟨_, h⟩ | ⟨_, h⟩
          · exact hnn w h
          · simp at h
          · simp at h
        · have e1' : (1 + t == 1) = false := by simp; omega
          rw [e1', cond_false]
          refine hfin (row g v) hrv (fun y hy => .inr ⟨v, by omega, by omega, .inr (.inl ⟨fun ha => ?_, fun w hw => ?_⟩)⟩)
          · rw [hy] at ha
            rcases ha with h | ⟨_, h⟩ | ⟨h, _⟩
            · exact hnn v h
            · exact hself h
            · omega
          · rw [hy, hy]
            constructor
            · rintro (h | ⟨_, h⟩ | ⟨_, h⟩)
              · exact absurd h (hnn w)
              · exact .inl h
              · exact absurd h hrown
            · rintro (h | ⟨h, _⟩ | ⟨_, h⟩)
              · exact .inr (.inl ⟨rfl, h⟩)
              · omega
              · exact absurd h hself
  · obtain rfl : c = 0 := by omega
    rw [show decide ((0 : Int) < ((0 : Nat) : Int)) = false from rfl, cond_false]
    exact ⟨_, rfl, hg, by dsimp only; omega, hgo, rfl, hk⟩
end Go.Sx

/- 'laws.FnPruned' comes to true. Plain. -/
namespace Go.Sx
/-! ### what is pruned grows again -/
theorem grown_back {g : List (List Int)} (hg : GOk g) : ∀ (l : List Pr) (s : Int), In g.length s → allP (okP g) nxP l s → l.foldl (fun s p => nxP p s) s = 0 →
    GI g.length l s ∧ (∀ u w, u < g.length → (nb (Fs g.length l) u w = true ↔ has s u = true ∧ has s w = true ∧ adj g u w)) ∧ ∀ j (h : j < l.length), okI l[j] (l.drop (j + 1))
  | [], s, _, _, h0 => by
    have h0 : s = 0 := h0
    subst h0
    refine ⟨GI.nil _, fun u w hu => ?_, fun j h => by simp at h⟩
    have := (GI.nil g.length).thr u w hu
    constructor
    · intro h
      have := (this h).1
      rw [has_zero] at this; cases this
    · rintro ⟨h, _⟩; rw [has_zero] at h; cases h
  | p :: l, s, hs, ⟨⟨v, e, hv, hc⟩, hall⟩, h0 => by
    have h16 := hg.n16
    have hvn := hs.2 v hv
    have hnx : nxP p s = iandNot .u32 s (ishl .u32 1 (v : Int)) := by unfold nxP; rw [e]
    have hs' : In g.length (nxP p s) := by rw [hnx]; exact nx_in h16 hs hvn
    have hh : ∀ w, has (nxP p s) w = true ↔ has s w = true ∧ w ≠ v := fun w => by
      rw [hnx, has_iandNot hs.1 (VS.ishl _ _), has_one (by omega)]; simp
    obtain ⟨hGI, hA, hI⟩ := grown_back hg l (nxP p s) hs' hall h0
    have hsv : has (nxP p s) v = false := by rw [Bool.eq_false_iff]; intro h; exact ((hh v).1 h).2 rfl
    have hby : needs p.2.2 → ∃ b : Nat, p.2.1 = b ∧ has (nxP p s) b = true := fun hk => by
      unfold canB at hc
      rw [if_neg (by unfold needs at hk; omega)] at hc
      obtain ⟨u, e1, e2, e3, _⟩ := hc
      exact ⟨u, e1, (hh u).2 ⟨e3, e2⟩⟩
    obtain ⟨k1, k2, k3, k4⟩ := hGI.step h16 e hvn hsv hby
    have hback : ior .u32 (nxP p s) (ishl .u32 1 (v : Int)) = s := (VS.ior _ _).ext hs.1 fun w _ => by
      rw [has_ior hs'.1 (VS.ishl _ _), has_one (by omega), Bool.eq_iff_iff, Bool.or_eq_true, hh, decide_eq_true_eq]
      constructor
      · rintro (h | h)
        · exact h.1
        · rw [h]; exact hv
      · intro h
        by_cases hwv : w = v
        · exact .inr hwv
        · exact .inl ⟨h, hwv⟩
    rw [hback] at k1
    obtain ⟨n1, n2⟩ := near_ok h16 hGI hby
    -- whom the new one is joined to
    have hS : ∀ w, has (nearS (Fs g.length l) p) w = true ↔ has (nxP p s) w = true ∧ adj g v w := fun w => by
      unfold canB at hc
      unfold nearS
      by_cases c1 : p.2.2 = 1
      · rw [if_pos c1] at hc
        rw [if_neg (by omega), if_neg (by omega), if_neg (by omega), has_zero]
        constructor
        · intro h; cases h
        · rintro ⟨h1, h2⟩; exact absurd h2 (hc.2 w ((hh w).1 h1).1)
      · rw [if_neg c1] at hc
        obtain ⟨u, e1, e2, e3, hc⟩ := hc
        have hun := hs.2 u e3
        have hu' : has (nxP p s) u = true := (hh u).2 ⟨e3, e2⟩
        rcases hc with ⟨c2, hc⟩ | ⟨c3, hn, hc⟩ | ⟨c4, ha, hc⟩
        · rw [if_pos c2, e1, has_one (by omega), decide_eq_true_eq]
          constructor
          · rintro rfl; exact ⟨hu', (hc w e3).2 rfl⟩
          · rintro ⟨h1, h2⟩; exact (hc w ((hh w).1 h1).1).1 h2
        · rw [if_neg (by omega), if_pos c3, e1, Int.toNat_natCast]
          have := hA u w hun
          unfold nb at this
          rw [this]
          constructor
          · rintro ⟨_, h1, h2⟩; exact ⟨h1, (hc w ((hh w).1 h1).1).2 h2⟩
          · rintro ⟨h1, h2⟩; exact ⟨hu', h1, (hc w ((hh w).1 h1).1).1 h2⟩
        · rw [if_neg (by omega), if_neg (by omega), if_pos c4, e1, Int.toNat_natCast, has_ior (hGI.f.vs u hun) (VS.ishl _ _), has_one (by omega), Bool.or_eq_true, decide_eq_true_eq]
          have := hA u w hun
          unfold nb at this
          rw [this]
          constructor
          · rintro (⟨_, h1, h2⟩ | rfl)
            · have h3 := (hh w).1 h1
              have hwu : w ≠ u := fun e => hg.irr u hun (by rw [e] at h2; exact h2)
              exact ⟨h1, (hc w h3.1 hwu h3.2).2 h2⟩
            · exact ⟨hu', ha⟩
          · rintro ⟨h1, h2⟩
            by_cases hwu : w = u
            · exact .inr hwu
            · have h3 := (hh w).1 h1
              exact .inl ⟨hu', h1, (hc w h3.1 hwu h3.2).1 h2⟩
    refine ⟨k1, fun u w hu => ?_, fun j hj => ?_⟩
    · rw [k2, joinF_nb h16 hGI.f n1 hvn hu]
      simp only [Bool.or_eq_true, Bool.and_eq_true, decide_eq_true_eq]
      rw [hA u w hu, hS, hS, hh, hh]
      constructor
      · rintro ((⟨h1, h2, h3⟩ | ⟨h1, h2, h3⟩) | ⟨⟨h1, h3⟩, h2⟩)
        · exact ⟨h1.1, h2.1, h3⟩
        · subst h1; exact ⟨hv, h2.1, h3⟩
        · subst h2; exact ⟨h1.1, hv, hg.sym w u hvn h3⟩
      · rintro ⟨h1, h2, h3⟩
        by_cases huv : u = v
        · subst huv
          have hwu : w ≠ u := fun e => hg.irr u hu (by rw [e] at h3; exact h3)
          exact .inl (.inr ⟨rfl, ⟨h2, hwu⟩, h3⟩)
        · by_cases hwv : w = v
          · subst hwv
            exact .inr ⟨⟨⟨h1, huv⟩, hg.sym u w hu h3⟩, rfl⟩
          · exact .inl (.inl ⟨⟨h1, huv⟩, ⟨h2, hwv⟩, h3⟩)
    · cases j with
      | zero =>
        intro hk
        unfold canB at hc
        have hk : ¬ p.2.2 = 1 := hk
        rw [if_neg hk] at hc
        obtain ⟨u, e1, e2, e3, _⟩ := hc
        show p.2.1 ∈ vsOf l
        rw [e1]
        exact (hGI.mem u).1 ((hh u).2 ⟨e3, e2⟩)
      | succ j => exact hI j (by simpa using hj)

theorem grow_map_mk {g : List (List Int)} (hg : GOk g) : grow (g.map mk) = g := by
  unfold grow
  rw [List.map_map]
  conv => rhs; rw [← List.map_id g]
  refine List.map_congr_left fun r hr => ?_
  obtain ⟨i, hi, rfl⟩ := List.getElem_of_mem hr
  have h := hg.rows i hi
  rw [row_eq hi] at h
  exact elems_mk hg.n16 h.1 h.2

theorem GrownBy_back {g : List (List Int)} (hg : GOk g) {l : List Pr} (hl : l.length = g.length) (hall : allP (okP g) nxP l (full g.length)) (h0 : l.foldl (fun s p => nxP p s) (full g.length) = 0) : D.k0 l = some (g, true) := by
  have h16 := hg.n16; have h1 := hg.n1
  obtain ⟨hGI, hA, hI⟩ := grown_back hg l (full g.length) (full_in h16) hall h0
  have hF : Fs g.length l = g.map mk := by
    refine FOk.ext hGI.f.len (by simp) hGI.f.vs (FOk.of hg).vs (fun u w hu => ?_)
    rw [Bool.eq_iff_iff, hA u w hu, nb_mk hg hu, has_full h16, has_full h16, decide_eq_true_eq, decide_eq_true_eq]
    exact ⟨fun h => h.2.2, fun h => ⟨hu, hg.lt hu h, h⟩⟩
  have hv : VOk l := by
    have hrng : ∀ j (h : j < l.length), 0 ≤ l[j].1 ∧ l[j].1 < l.length := fun j hj => by
      have hm : l[j].1 ∈ vsOf l := List.mem_map.2 ⟨l[j], List.getElem_mem hj, rfl⟩
      have h2 := hGI.nonneg _ hm
      have h3 := (hGI.mem l[j].1.toNat).2 (by rw [show ((l[j].1.toNat : Nat) : Int) = l[j].1 by omega]; exact hm)
      rw [has_full h16, decide_eq_true_eq] at h3
      omega
    refine ⟨hrng, ?_⟩
    -- each vertex is there, and there are no more places
    rw [nodup_rev]
    intro i hi hc
    rw [vs_len] at hi
    have hnd := nodup_le (l := (List.range g.length).map Int.ofNat) (m := (vsOf l).eraseIdx i) (by
      unfold List.Nodup
      rw [List.pairwise_map]
      exact List.Pairwise.imp (fun {a b} h e => by have : (a : Int) = (b : Int) := e; omega) List.pairwise_lt_range) (fun z hz => by
      obtain ⟨w, hw, rfl⟩ := List.mem_map.1 hz
      have hw := List.mem_range.1 hw
      have hm : (w : Int) ∈ vsOf l := (hGI.mem w).1 (by rw [has_full h16]; exact decide_eq_true hw)
      show (w : Int) ∈ _
      obtain ⟨j, hj, ej⟩ := List.getElem_of_mem hm
      by_cases hji : j = i
      · subst hji
        rw [ej] at hc
        obtain ⟨k, hk, ek⟩ := List.getElem_of_mem hc
        rw [List.getElem_drop] at ek
        rw [List.mem_eraseIdx_iff_getElem]
        exact ⟨j + 1 + k, by simp at hk; omega, by omega, ek⟩
      · rw [List.mem_eraseIdx_iff_getElem]
        exact ⟨j, hj, hji, ej⟩)
    rw [List.length_map, List.length_range, List.length_eraseIdx, vs_len, if_pos (by omega)] at hnd
    omega
  have hgath : ∀ {β : Type} (k : List Int → Option β), (loopF (σ := (List Int) × Int) (ρ := ((List Int))) (fun (s_52 : (List Int) × Int) => match s_52 with | (l_55, x_60) => cond (decide (x_60 < (l.length : Int))) ((idx l x_60).bind fun e_87 => (appendD l_55 ([e_87.1] : List Int)).bind fun l_97 => some (.inl (l_97, (IntKind.i64.wrap (x_60 + 1))))) (some (.inr l_55))) (([] : List Int), 0)).bind k = k (vsOf l) := fun k => by
    refine loop_map l (fun s i => (s, i)) (fun p => p.1) (by omega) (fun s i hi _ => ?_) (fun s => ?_)
    · simp only [dlt hi, cond_true, idx_nat hi, Option.bind_some, wi (show i < 4611686018427387904 by omega)]
    · simp only [dnlt, cond_false]
  unfold D.k0
  rw [hgath]
  have e2 : (decide ((l.length : Int) < 1) || decide ((16 : Int) < (l.length : Int))) = false := by
    rw [decide_eq_false (show ¬ (l.length : Int) < 1 by omega), decide_eq_false (show ¬ (16 : Int) < (l.length : Int) by omega)]; rfl
  obtain ⟨b, e3, hb⟩ := increasing_vs (l := l) (by omega)
  rw [e2, cond_false, e3, Option.bind_some, makeD_ok (z := (0 : Int)) (by omega) (by omega)]
  have hw1 : IntKind.i64.wrap ((l.length : Int) - 1) = (l.length : Int) - 1 := w64 (by omega) (by omega)
  have hG0 : GI l.length (l.drop l.length) 0 := by rw [List.drop_length]; exact GI.nil _
  have hIm := implG (show l.length ≤ 16 by omega) hv.1 hv.2 l.length (Nat.le_refl _) 0 hG0
  rw [List.drop_length, ← hw1] at hIm
  obtain ⟨r, _, p2, hr⟩ := PrunesOk_both hg.sh2 (show l.length ≤ 4294967296 by omega)
  have hrt : r = true := hr.2 ⟨hg, by omega, hall⟩
  rw [hrt] at p2
  have hgr : D.w0 (Fs l.length l) = some g := by
    have := nets_graph_eq (Fs l.length l) (by rw [hl, hGI.f.len]; exact h16) (fun u hu => by rw [hl] at hu ⊢; exact hGI.f.vs u (by rw [hGI.f.len] at hu; exact hu))
    rw [hl, hF, grow_map_mk hg] at this
    rw [hl, hF]; exact this
  rcases hIm with ⟨s2, _, hIm, _⟩ | ⟨_, hno⟩
  · rw [hb.2 hv, Bool.not_true, cond_false, Option.bind_some]
    refine (bind_of hIm _).trans ?_
    simp only [Option.bind_some, hgr, p2]
    rfl
  · exact absurd (fun j hj _ => hI j hj) hno

/-! ### all goes -/
theorem PrunedOf_ok {g : List (List Int)} (hg : GOk g) (h : AllGo g) : ∃ l, D.I g = some (l, []) ∧ (l.length = g.length ∧ allP (okP g) nxP l (full g.length) ∧ l.foldl (fun s p => nxP p s) (full g.length) = 0) := by
  obtain ⟨⟨l, s⟩, e, e0, h1, h2, h3⟩ := prunedOf_ok hg h
  dsimp only at e0 h1 h2 h3
  subst e0
  refine ⟨l, ?_, h1, h2, h3⟩
  unfold D.I
  rw [impl_GraphOk_eq g hg.sh2, gB_true hg, Option.bind_some, Bool.not_true, cond_false, netsOf_eq g hg, Option.bind_some, nets_all_full, List.length_map, Option.bind_some, e, Option.bind_some, numbers_eq 0 VS.zero, elems_zero]; rfl
theorem DistHereditary_ok {g : List (List Int)} (hg : GOk g) (h : AllGo g) : D.E g = some true := by
  obtain ⟨l, e, _⟩ := PrunedOf_ok hg h
  unfold D.E
  rw [impl_GraphOk_eq g hg.sh2, gB_true hg, Option.bind_some, Bool.not_true, cond_false, e]; rfl
theorem spec_SameGraph_self {g : List (List Int)} (hg : GOk g) : D.d0 g g = some true := by
  unfold D.d0 D.v0
  have e : ((g.length : Int) != (g.length : Int)) = false := by simp
  rw [spec_GraphOk_eq g hg.sh2, gB_true hg]
  simp only [Option.bind_some, cond_true, e, cond_false]
  rw [loop_allb g.length (fun _ => true) false (fun i hi => ?_) ?_ rfl rfl]
  · simp
  · simp only [dnlt, cond_false]
  · have h16 := hg.n16
    rw [dlt hi, cond_true, idx_nat hi, Option.bind_some, Option.bind_some, l1Same_eq _ _ (hg.sh2.2 _ (List.getElem_mem hi)), decide_eq_true rfl, Option.bind_some, Bool.not_true, cond_false, wi (by omega), if_pos rfl]

/-! ### a vertex is cut -/
theorem l2Of_ok {g : List (List Int)} (hg : GOk g) {L : List Int} (h1 : 1 ≤ L.length) (h16 : L.length ≤ 16) (hr : ∀ x ∈ L, 0 ≤ x ∧ x < g.length) :
    ∃ y, D.f0 g L = some y ∧ (GOk y ∧ y.length = L.length ∧ ∀ i j, adj y i j ↔ i < L.length ∧ j < L.length ∧ adj g (L.getD i 0).toNat (L.getD j 0).toNat) := by
  have hat : ∀ i (hi : i < L.length), ∃ v : Nat, L[i] = (v : Int) ∧ v < g.length ∧ (L.getD i 0).toNat = v := fun i hi => by
    have := hr _ (List.getElem_mem hi)
    exact ⟨L[i].toNat, by omega, by omega, by rw [getD_lt hi]⟩
  unfold D.f0
  rw [l1Empty_eq _ h16, Option.bind_some]
  refine loop_then (fun s => ∃ v : Nat, s.1 = (v : Int) ∧ v ≤ L.length ∧ GOk s.2 ∧ s.2.length = L.length ∧ ∀ x y, adj s.2 x y ↔ (x < v ∧ y < v) ∧ adj g (L.getD x 0).toNat (L.getD y 0).toNat) (fun s => L.length - s.1.toNat)
    (fun y => GOk y ∧ y.length = L.length ∧ ∀ i j, adj y i j ↔ i < L.length ∧ j < L.length ∧ adj g (L.getD i 0).toNat (L.getD j 0).toNat) ?_ ⟨0, rfl, by omega, GOk.empty h1 h16, by simp, fun x y => ⟨fun h => ?_, fun h => by omega⟩⟩ (fun r hr => ⟨r, rfl, hr⟩)
  · rintro ⟨_, G⟩ ⟨v, rfl, hv, hG, hl, hA⟩
    dsimp only at hG hl hA ⊢
    by_cases hvn : v < L.length
    · rw [dlt hvn, cond_true]
      obtain ⟨a, ea, han, ea'⟩ := hat v hvn
      refine loop_then (fun s => ∃ t : Nat, s.1 = (t : Int) ∧ t ≤ v ∧ GOk s.2 ∧ s.2.length = L.length ∧ ∀ x y, adj s.2 x y ↔ ((x < v ∧ y < v) ∨ (x = v ∧ y < t) ∨ (y = v ∧ x < t)) ∧ adj g (L.getD x 0).toNat (L.getD y 0).toNat) (fun s => v - s.1.toNat)
        (fun r => GOk r ∧ r.length = L.length ∧ ∀ x y, adj r x y ↔ (x < v + 1 ∧ y < v + 1) ∧ adj g (L.getD x 0).toNat (L.getD y 0).toNat) ?_ ⟨0, rfl, by omega, hG, hl, fun x y => by rw [hA]; simp⟩ (fun r hr => ⟨_, rfl, ⟨v + 1, wi (by omega), by omega, hr⟩, ?_⟩)
      · rintro ⟨_, G⟩ ⟨t, rfl, ht, hG, hl, hA⟩
        dsimp only at hG hl hA ⊢
        by_cases htv : t < v
        · have htL : t < L.length := by omega
          obtain ⟨b, eb, hbn, eb'⟩ := hat t htL
          rw [dlt htv, cond_true, idx_nat hvn, Option.bind_some, idx_nat htL, Option.bind_some, ea, eb, l1Edge_eq g hg han, Option.bind_some, wi (show t < 4611686018427387904 by omega)]
          by_cases hc : (b : Int) ∈ row g a
          · have c1 : adj g a b := hc
            have c2 : adj g b a := hg.sym a b han c1
            obtain ⟨G', e, k1, k2, k3⟩ := l1Link_ok hG (u := t) (v := v) (by omega) (by omega) (by omega)
            rw [decide_eq_true hc, cond_true, e, Option.bind_some]
            refine ⟨_, rfl, ⟨t + 1, rfl, by omega, k1, by dsimp only; omega, fun x y => ?_⟩, by dsimp only; omega⟩
            dsimp only
            rw [k3, hA]
            constructor
            · rintro (⟨h3, h4⟩ | ⟨rfl, rfl⟩ | ⟨rfl, rfl⟩)
              · exact ⟨by omega, h4⟩
              · exact ⟨by omega, by rw [ea', eb']; exact c2⟩
              · exact ⟨by omega, by rw [ea', eb']; exact c1⟩
            · rintro ⟨h3, h4⟩
              by_cases d1 : x = v ∧ y = t
              · exact .inr (.inr d1)
              · by_cases d2 : x = t ∧ y = v
                · exact .inr (.inl d2)
                · exact .inl ⟨by omega, h4⟩
          · have c1 : ¬ adj g a b := hc
            have c2 : ¬ adj g b a := fun h => c1 (hg.sym b a hbn h)
            rw [decide_eq_false hc, cond_false]
            refine ⟨_, rfl, ⟨t + 1, rfl, by omega, hG, hl, fun x y => ?_⟩, by dsimp only; omega⟩
            dsimp only
            rw [hA]
            constructor
            · rintro ⟨h3, h4⟩; exact ⟨by omega, h4⟩
            · rintro ⟨h3, h4⟩
              refine ⟨?_, h4⟩
              by_cases d1 : x = v ∧ y = t
              · obtain ⟨rfl, rfl⟩ := d1
                rw [ea', eb'] at h4; exact absurd h4 c1
              · by_cases d2 : x = t ∧ y = v
                · obtain ⟨rfl, rfl⟩ := d2
                  rw [ea', eb'] at h4; exact absurd h4 c2
                · omega
        · obtain rfl : t = v := by omega
          simp only [dnlt, cond_false]
          refine ⟨_, rfl, hG, hl, fun x y => ?_⟩
          rw [hA]
          constructor
          · rintro ⟨h3, h4⟩; exact ⟨by omega, h4⟩
          · rintro ⟨h3, h4⟩
            refine ⟨?_, h4⟩
            by_cases d : x = t ∧ y = t
            · obtain ⟨rfl, rfl⟩ := d
              rw [ea'] at h4; exact absurd h4 (hg.irr a han)
            · omega
      · dsimp only
        rw [wi (by omega)]; omega
    · obtain rfl : v = L.length := by omega
      simp only [dnlt, cond_false]
      refine ⟨_, rfl, hG, hl, fun x y => ?_⟩
      rw [hA, and_assoc]
  · unfold adj row at h
    rw [List.getD_eq_getElem?_getD, List.getElem?_replicate] at h
    split at h <;> simp at h

/-- where the others are, when v is cut -/
def skp (v i : Nat) : Nat := if i < v then i else i + 1
theorem cut_list {n v : Nat} (h16 : n ≤ 16) (hv : v < n) : elems (iandNot .u32 (full n) (ishl .u32 1 (v : Int))) = (List.range (n - 1)).map fun i => ((skp v i : Nat) : Int) := by
  have hf := full_vs n
  refine Inc.ext (elems_inc _) ?_ (fun x => ?_)
  · unfold Inc
    rw [List.pairwise_map]
    refine List.Pairwise.imp (fun {a b} h => ?_) List.pairwise_lt_range
    unfold skp
    split <;> split <;> omega
  · rw [mem_elems, List.mem_map]
    constructor
    · rintro ⟨w, hw, h, rfl⟩
      rw [has_iandNot hf (VS.ishl _ _), has_full h16, has_one (by omega)] at h
      simp at h
      by_cases c : w < v
      · exact ⟨w, List.mem_range.2 (by omega), by unfold skp; rw [if_pos c]⟩
      · exact ⟨w - 1, List.mem_range.2 (by omega), by unfold skp; rw [if_neg (by omega)]; omega⟩
    · rintro ⟨i, hi, rfl⟩
      have hi := List.mem_range.1 hi
      have hk : skp v i < n ∧ skp v i ≠ v := by unfold skp; split <;> omega
      refine ⟨skp v i, by omega, ?_, rfl⟩
      rw [has_iandNot hf (VS.ishl _ _), has_full h16, has_one (by omega)]
      simp [hk.1, hk.2]
theorem CutVertex_ok {g : List (List Int)} (hg : GOk g) (h2 : 2 ≤ g.length) (h : AllGo g) {v : Nat} (hv : v < g.length) : ∃ y, D.q0 g (v : Int) = some (y, true) ∧ GOk y ∧ AllGo y := by
  have h16 := hg.n16
  have hlen : ((List.range (g.length - 1)).map fun i => ((skp v i : Nat) : Int)).length = g.length - 1 := by simp
  have hget : ∀ i, i < g.length - 1 → ((((List.range (g.length - 1)).map fun i => ((skp v i : Nat) : Int)).getD i 0).toNat) = skp v i := fun i hi => by
    rw [getD_lt (by rw [hlen]; exact hi), List.getElem_map, List.getElem_range, Int.toNat_natCast]
  have hskl : ∀ i, i < g.length - 1 → skp v i < g.length ∧ skp v i ≠ v := fun i hi => by unfold skp; split <;> omega
  obtain ⟨y, e, y1, y2, y3⟩ := l2Of_ok hg (L := (List.range (g.length - 1)).map fun i => ((skp v i : Nat) : Int)) (by rw [hlen]; omega) (by rw [hlen]; omega) (fun x hx => by
    obtain ⟨i, hi, rfl⟩ := List.mem_map.1 hx
    have := hskl i (List.mem_range.1 hi)
    omega)
  rw [hlen] at y2 y3
  refine ⟨y, ?_, y1, ?_⟩
  · unfold D.q0 D.c
    rw [spec_GraphOk_eq g hg.sh2, gB_true hg, Option.bind_some]
    simp only [Bool.not_true, cond_false, Option.bind_some, l1There_eq hg hv]
    have e3 : D.B0 ((List.range g.length).map Int.ofNat) (v : Int) = some ((List.range (g.length - 1)).map fun i => ((skp v i : Nat) : Int)) := by
      rw [← elems_full h16, ← cut_list h16 hv]
      exact l19Less_eq (full_vs _) (by omega)
    rw [show ((g.length : Int) == 1) = false by simp; omega, cond_false, l1All_eq _ (by omega), Option.bind_some, e3, Option.bind_some, e]; rfl
  · unfold AllGo
    rw [y2]
    have hd := Elim.del (R := fun u w => adj g u w ∧ u < g.length) (fun u w h => ⟨hg.sym u w h.2 h.1, hg.lt h.2 h.1⟩) (fun u h => hg.irr u h.2 h.1) (g.length - 1) (fun w => w < g.length) (by
      rw [show g.length - 1 + 1 = g.length by omega]
      exact Elim.congr h (fun _ => Iff.rfl) (fun u w hu _ => ⟨fun h => h.1, fun h => ⟨h, hu⟩⟩)) v hv
    refine Elim.iso (fun w => if w < v then w else w - 1) (g.length - 1) _ _ hd (fun w hw => ?_) (fun i hi => ?_) (fun u w hu hw e => ?_) (fun u w hu hw => ?_)
    · split <;> omega
    · have := hskl i hi
      refine ⟨skp v i, this, ?_⟩
      unfold skp
      by_cases c : i < v
      · rw [if_pos c, if_pos c]
      · rw [if_neg c, if_neg (by omega)]; omega
    · split at e <;> split at e <;> omega
    · have hs : ∀ w, w < g.length ∧ w ≠ v → (if w < v then w else w - 1) < g.length - 1 ∧ skp v (if w < v then w else w - 1) = w := fun w hw => by
        unfold skp
        by_cases c : w < v
        · rw [if_pos c, if_pos c]; exact ⟨by omega, rfl⟩
        · rw [if_neg c, if_neg (by omega)]; exact ⟨by omega, by omega⟩
      obtain ⟨a1, a2⟩ := hs u hu; obtain ⟨b1, b2⟩ := hs w hw
      rw [y3, hget _ a1, hget _ b1, a2, b2]
      exact ⟨fun h => ⟨h.2.2, hu.1⟩, fun h => ⟨a1, b1, h.1⟩⟩

theorem FnPruned_true (code : List Int) (hb : ∀ x ∈ code, 0 ≤ x ∧ x ≤ 255) : D.z0 code = some true := by
  unfold D.z0 D.A0
  simp only [Option.bind_some]
  by_cases hl : (4096 : Int) < code.length
  · simp only [hl, decide_true, cond_true]
  · simp only [hl, decide_false, cond_false]
    obtain ⟨z, e1, k1⟩ := roll_ok code 1016 hb (by omega)
    rw [e1, Option.bind_some]
    obtain ⟨⟨g, b, i, z2⟩, e2, hg, hg7, hgo, rfl, k2⟩ := w9Grown_ok k1 z
    dsimp only at hg hg7 hgo k2
    dsimp only at e2
    rw [e2, Option.bind_some]
    have h16 := hg.n16; have hn1 := hg.n1
    obtain ⟨l, e3, l1, l2, l3⟩ := PrunedOf_ok hg hgo
    obtain ⟨r, p1, p2, hr⟩ := PrunesOk_both hg.sh2 (show l.length ≤ 4294967296 by omega)
    have hrt : r = true := hr.2 ⟨hg, by omega, l2⟩
    rw [hrt] at p1 p2
    have z0 : decide ((0 : Int) < (([] : List Int).length : Int)) = false := rfl
    rw [e3, Option.bind_some]
    simp only [z0, cond_false, DistHereditary_ok hg hgo, Option.bind_some, Bool.not_true, p1, p2, GrownBy_back hg l1 l2 l3, spec_SameGraph_self hg]
    have hall : ∀ {β : Type} (k : List Int → Option β), (loopF (σ := (List Int) × Int) (ρ := ((List Int))) (fun (s_275 : (List Int) × Int) => match s_275 with | (l_278, x_283) => cond (decide (x_283 < (g.length : Int))) ((appendD l_278 ([x_283] : List Int)).bind fun l_308 => some (.inl (l_308, (IntKind.i64.wrap (x_283 + 1))))) (some (.inr l_278))) (([] : List Int), 0)).bind k = k ((List.range g.length).map Int.ofNat) := fun k => by
      refine loop_to (fun i => ((List.range i).map Int.ofNat, (i : Int))) g.length ((List.range g.length).map Int.ofNat) rfl (fun i hi => ?_) ?_
      · dsimp only
        rw [dlt hi, cond_true, appendD_ok (by simp; omega), Option.bind_some, wi (by omega), List.range_succ, List.map_append]; rfl
      · simp only [dnlt, cond_false]
    rw [hall]
    obtain ⟨⟨v, b, i3, z3⟩, e4, v0, v1, rfl, k3⟩ := below_then k2 z2 (g.length : Int) (by omega)
    dsimp only at v0 v1 k3
    dsimp only at e4
    rw [e4, Option.bind_some]
    obtain ⟨v, rfl⟩ : ∃ n : Nat, v = n := ⟨v.toNat, by omega⟩
    have hvn : v < g.length := by omega
    have hset : setB ((List.range g.length).map Int.ofNat) g.length = true := by
      rw [← elems_full h16, setB_iff]
      refine ⟨elems_inc _, fun x hx => ?_⟩
      obtain ⟨w, _, h, rfl⟩ := mem_elems.1 hx
      have := (full_in h16).2 w h
      omega
    have hmk : mk ((List.range g.length).map Int.ofNat) = full g.length := by rw [← elems_full h16, mk_elems (full_vs _)]
    obtain ⟨p, e5, q1, q2⟩ := pruneOf_ok hg (full_in h16) hvn
    have hw : IntKind.i64.wrap ((g.length : Int) - 1) = (g.length : Int) - 1 := w64 (by omega) (by omega)
    have hP : D.M g ((List.range g.length).map Int.ofNat) (v : Int) = some p := by
      unfold D.M D.C0
      rw [impl_GraphOk_eq g hg.sh2, gB_true hg, Option.bind_some, cond_true, hw, inRange_eq, decide_eq_true (show (0 : Int) ≤ (v : Int) by omega), decide_eq_true (show (v : Int) ≤ (g.length : Int) - 1 by omega)]
      have hsh : Sh ((List.range g.length).map Int.ofNat) := by unfold Sh; simp; omega
      simp only [Bool.and_self, Option.bind_some, Bool.not_true, cond_false]
      rw [impl_SetOk_eq g _ hg.sh2 hsh, gB_true hg, hset, maskOf_eq _ hsh (fun x hx => by obtain ⟨w, _, rfl⟩ := List.mem_map.1 hx; exact Int.natCast_nonneg w), hmk]
      simp only [Bool.and_self, Option.bind_some, Bool.not_true, cond_false]
      rw [vset_has_eq (full_vs _) (by omega), has_full h16, decide_eq_true hvn]
      simp only [Option.bind_some, Bool.not_true, cond_false]
      rw [netsOf_eq g hg, Option.bind_some, e5]; rfl
    rw [hP, Option.bind_some, Option.bind_some]
    dsimp only
    by_cases hn : g.length = 1
    · have hp : p.2.2.2 = true := by
        cases hpp : p.2.2.2
        · exfalso
          refine q2 hpp (-1) 1 ?_
          unfold canB
          rw [if_pos rfl]
          refine ⟨rfl, fun w hw ha => ?_⟩
          rw [has_full h16, decide_eq_true_eq] at hw
          have e : w = v := by omega
          subst e
          exact hg.irr w hvn ha
        · rfl
      rw [hp, hn]; rfl
    · have hn' : ((g.length : Int) == 1) = false := by simp; omega
      have hn2 : decide ((1 : Int) < (g.length : Int)) = true := decide_eq_true (by omega)
      rw [hn', hn2]
      cases hpp : p.2.2.2
      · rfl
      · obtain ⟨a1, _⟩ := q1 hpp
        obtain ⟨y, e6, y1, y2⟩ := CutVertex_ok hg (by omega) hgo hvn
        simp only [Bool.not_true, Bool.or_false, cond_false]
        rw [a1, e6, Option.bind_some, DistHereditary_ok y1 y2]; rfl
end Go.Sx
