/- Parts of the proof: Pc, Pd, Pe, Gf, Gh, Gg, Xb, MAW, MBW. -/
import Derived.Test.YtebbefpdncgoiaaGreatDoorTd2
import Derived.KernelRfl
import Derived.Test.YtebbefpdncgoiaaGreatDoorProg
set_option linter.unusedVariables false
set_option linter.unusedSimpArgs false
set_option linter.unusedSectionVars false
namespace Go.Sx
theorem reverseRange_spec (l0 : List Int) (a b : Int) (ha : 0 ≤ a) (hab : a ≤ b) (hb : b ≤ l0.length) (hlen : l0.length ≤ 1000000) :
    ∃ l', D.slices_reverseRangeOrdered_int64 l0 a b = some l' ∧ Rg a b l0 l' := by
  unfold D.slices_reverseRangeOrdered_int64
  rw [w64 (show -9223372036854775808 ≤ b - 1 by omega) (by omega)]
  refine loop_then (fun s => Rg a b l0 s.1 ∧ a ≤ s.2.1 ∧ s.2.1 ≤ b ∧ s.2.2 < b ∧ a - 1 ≤ s.2.2) (fun s => (s.2.2 - s.2.1).toNat) (fun r => Rg a b l0 r) ?_ ?_ ?_
  · rintro ⟨l, i, j⟩ ⟨hR, h1, h2, h3, h4⟩
    dsimp only at hR h1 h2 h3 h4 ⊢
    have hll := hR.len
    by_cases hi : i < j
    · have r1 : idx l i = some (at' l i) := idx_at (by omega) (by omega)
      have r2 : idx l j = some (at' l j) := idx_at (by omega) (by omega)
      have r3 : ∀ x, idx (l.set i.toNat x) j = some (at' (l.set i.toNat x) j) := fun x => idx_set_at (by omega) (by omega)
      rw [w64 (show -9223372036854775808 ≤ i + 1 by omega) (by omega), w64 (show -9223372036854775808 ≤ j - 1 by omega) (by omega)]
      refine ⟨.inl (sw l i j, i + 1, j - 1), ?_, ⟨hR.trans (Rg.swap ha (by omega) (by omega) (by omega) (by omega) (by omega)), by dsimp only; omega, by dsimp only; omega, by dsimp only; omega, by dsimp only; omega⟩, by dsimp only; omega⟩
      simp only [r1, r2, r3, hi, decide_true, cond_true, Option.bind_some]
      rfl
    · exact ⟨.inr l, by simp only [hi, decide_false, cond_false], hR⟩
  · exact ⟨Rg.refl _ _ _, by dsimp only; omega, by dsimp only; omega, by dsimp only; omega, by dsimp only; omega⟩
  · rintro r hr
    exact ⟨r, rfl, hr⟩

/-- up, while what is read is less than the pivot -/
theorem scanUp {β : Type} {k : Int → Option β} {Q : β → Prop} (l : List Int) (a hi i0 : Int) (ha : 0 ≤ a) (ha' : a < l.length) (h0 : 0 ≤ i0) (h1 : i0 ≤ hi + 1) (h2 : hi < l.length) (hlen : l.length ≤ 1000000)
    (hk : ∀ i, i0 ≤ i → i ≤ hi + 1 → (∀ q, i0 ≤ q → q < i → at' l q < at' l a) → (i ≤ hi → ¬ at' l i < at' l a) → ∃ y, k i = some y ∧ Q y) :
    ∃ y, (loopF (σ := Int) (ρ := (Int)) (fun (x : Int) => (cond (decide (x ≤ hi)) ((idx l x).bind fun e => (idx l a).bind fun e' => (D.cmp_Less_int64 e e').bind fun y => some y) (some false)).bind fun b => cond b (some (.inl (IntKind.i64.wrap (x + 1)))) (some (.inr x))) i0).bind k = some y ∧ Q y := by
  refine loop_then (fun i => i0 ≤ i ∧ i ≤ hi + 1 ∧ ∀ q, i0 ≤ q → q < i → at' l q < at' l a) (fun i => (hi + 1 - i).toNat) (fun i => i0 ≤ i ∧ i ≤ hi + 1 ∧ (∀ q, i0 ≤ q → q < i → at' l q < at' l a) ∧ (i ≤ hi → ¬ at' l i < at' l a)) ?_ ?_ ?_
  · rintro i ⟨g1, g2, g3⟩
    by_cases hi' : i ≤ hi
    · have r1 : idx l i = some (at' l i) := idx_at (by omega) (by omega)
      have r2 : idx l a = some (at' l a) := idx_at (by omega) (by omega)
      by_cases hlt : at' l i < at' l a
      · refine ⟨.inl (i + 1), ?_, ⟨by omega, by omega, fun q q1 q2 => ?_⟩, by dsimp only; omega⟩
        · simp only [r1, r2, hi', less_eq, hlt, decide_true, cond_true, Option.bind_some]
          rw [w64 (by omega) (by omega)]
        · by_cases e : q = i
          · rw [e]; exact hlt
          · exact g3 q q1 (by omega)
      · exact ⟨.inr i, by simp only [r1, r2, hi', less_eq, hlt, decide_true, decide_false, cond_true, cond_false, Option.bind_some], g1, g2, g3, fun _ => hlt⟩
    · exact ⟨.inr i, by simp only [hi', decide_false, cond_false, Option.bind_some], g1, g2, g3, fun h => absurd h hi'⟩
  · exact ⟨Int.le_refl _, h1, fun q q1 q2 => by omega⟩
  · rintro i ⟨g1, g2, g3, g4⟩
    exact hk i g1 g2 g3 g4

/-- down, while what is read is not less than the pivot -/
theorem scanDown {β : Type} {k : Int → Option β} {Q : β → Prop} (l : List Int) (a lo j0 : Int) (ha : 0 ≤ a) (ha' : a < l.length) (h0 : 0 ≤ lo) (h1 : lo ≤ j0 + 1) (h2 : j0 < l.length) (hlen : l.length ≤ 1000000)
    (hk : ∀ j, lo ≤ j + 1 → j ≤ j0 → (∀ q, j < q → q ≤ j0 → ¬ at' l q < at' l a) → (lo ≤ j → at' l j < at' l a) → ∃ y, k j = some y ∧ Q y) :
    ∃ y, (loopF (σ := Int) (ρ := (Int)) (fun (x : Int) => (cond (decide (lo ≤ x)) ((idx l x).bind fun e => (idx l a).bind fun e' => (D.cmp_Less_int64 e e').bind fun y => some (!y)) (some false)).bind fun b => cond b (some (.inl (IntKind.i64.wrap (x - 1)))) (some (.inr x))) j0).bind k = some y ∧ Q y := by
  refine loop_then (fun j => lo ≤ j + 1 ∧ j ≤ j0 ∧ ∀ q, j < q → q ≤ j0 → ¬ at' l q < at' l a) (fun j => (j + 1 - lo).toNat) (fun j => lo ≤ j + 1 ∧ j ≤ j0 ∧ (∀ q, j < q → q ≤ j0 → ¬ at' l q < at' l a) ∧ (lo ≤ j → at' l j < at' l a)) ?_ ?_ ?_
  · rintro j ⟨g1, g2, g3⟩
    by_cases hi' : lo ≤ j
    · have r1 : idx l j = some (at' l j) := idx_at (by omega) (by omega)
      have r2 : idx l a = some (at' l a) := idx_at (by omega) (by omega)
      by_cases hlt : at' l j < at' l a
      · exact ⟨.inr j, by simp only [r1, r2, hi', less_eq, hlt, decide_true, Bool.not_true, cond_true, cond_false, Option.bind_some], g1, g2, g3, fun _ => hlt⟩
      · refine ⟨.inl (j - 1), ?_, ⟨by omega, by omega, fun q q1 q2 => ?_⟩, by dsimp only; omega⟩
        · simp only [r1, r2, hi', less_eq, hlt, decide_true, decide_false, Bool.not_false, cond_true, Option.bind_some]
          rw [w64 (by omega) (by omega)]
        · by_cases e : q = j
          · rw [e]; exact hlt
          · exact g3 q (by omega) q2
    · exact ⟨.inr j, by simp only [hi', decide_false, cond_false, Option.bind_some], g1, g2, g3, fun h => absurd h hi'⟩
  · exact ⟨h1, Int.le_refl _, fun q q1 q2 => by omega⟩
  · rintro j ⟨g1, g2, g3, g4⟩
    exact hk j g1 g2 g3 g4

/-- what a partition comes to -/
structure Parted (l0 l' : List Int) (a b mid : Int) : Prop where
  rg : Rg a b l0 l'
  lo : a ≤ mid
  hi : mid < b
  left : ∀ k, a ≤ k → k < mid → at' l' k ≤ at' l' mid
  right : ∀ k, mid < k → k < b → at' l' mid ≤ at' l' k

theorem partition_spec (l0 : List Int) (a b p : Int) (ha : 0 ≤ a) (hb : b ≤ l0.length) (hlen : l0.length ≤ 1000000) (hp : a ≤ p) (hp' : p < b) :
    ∃ y, D.slices_partitionOrdered_int64 l0 a b p = some y ∧ Parted l0 y.2.2 a b y.1 := by
  unfold D.slices_partitionOrdered_int64
  have r1 : idx l0 p = some (at' l0 p) := idx_at (by omega) (by omega)
  have r2 : idx l0 a = some (at' l0 a) := idx_at (by omega) (by omega)
  have r3 : ∀ x, idx (l0.set a.toNat x) p = some (at' (l0.set a.toNat x) p) := fun x => idx_set_at (by omega) (by omega)
  simp only [r1, r2, r3, Option.bind_some]
  rw [show (l0.set a.toNat (at' l0 p)).set p.toNat (at' l0 a) = sw l0 a p from rfl]
  have hR0 : Rg a b l0 (sw l0 a p) := Rg.swap ha hb (by omega) (by omega) hp hp'
  generalize sw l0 a p = m0 at hR0 ⊢
  have hm0 := hR0.len
  rw [w64 (show -9223372036854775808 ≤ b - 1 by omega) (by omega), w64 (show -9223372036854775808 ≤ a + 1 by omega) (by omega)]
  refine scanUp m0 a (b - 1) (a + 1) ha (by omega) (by omega) (by omega) (by omega) (by omega) (fun i i1 i2 i3 i4 => ?_)
  refine scanDown m0 a i (b - 1) ha (by omega) (by omega) (by omega) (by omega) (by omega) (fun j j1 j2 j3 j4 => ?_)
  have q1 : idx m0 a = some (at' m0 a) := idx_at (by omega) (by omega)
  have q2 : idx m0 j = some (at' m0 j) := idx_at (by omega) (by omega)
  by_cases hij : j < i
  · have q3 : ∀ x, idx (m0.set j.toNat x) a = some (at' (m0.set j.toNat x) a) := fun x => idx_set_at (by omega) (by omega)
    refine ⟨(j, true, sw m0 j a), ?_, ⟨hR0.trans (Rg.swap ha (by omega) (by omega) (by omega) (by omega) (by omega)), by dsimp only; omega, by dsimp only; omega, fun k k1 k2 => ?_, fun k k1 k2 => ?_⟩⟩
    · simp only [q1, q2, q3, hij, decide_true, cond_true, Option.bind_some]
      rfl
    · dsimp only at k1 k2 ⊢
      rw [sw_at (by omega) (by omega) (by omega) (by omega) (by omega), sw_at (by omega) (by omega) (by omega) (by omega) (by omega)]
      rw [if_neg (show ¬ j = a by omega), if_pos rfl]
      by_cases e : k = a
      · rw [if_pos e]
        have := i3 j (by omega) (by omega); omega
      · rw [if_neg e, if_neg (by omega)]
        have := i3 k (by omega) (by omega); omega
    · dsimp only at k1 k2 ⊢
      rw [sw_at (by omega) (by omega) (by omega) (by omega) (by omega), sw_at (by omega) (by omega) (by omega) (by omega) (by omega)]
      rw [if_neg (show ¬ k = a by omega), if_neg (show ¬ k = j by omega)]
      have hk := j3 k (by omega) (by omega)
      by_cases e : j = a
      · rw [if_pos e]; subst e; omega
      · rw [if_neg e, if_pos rfl]; omega
  · have q4 : idx m0 i = some (at' m0 i) := idx_at (by omega) (by omega)
    have q5 : ∀ x, idx (m0.set i.toNat x) j = some (at' (m0.set i.toNat x) j) := fun x => idx_set_at (by omega) (by omega)
    simp only [q1, q2, q4, q5, hij, decide_false, cond_false, Option.bind_some]
    rw [show (m0.set i.toNat (at' m0 j)).set j.toNat (at' m0 i) = sw m0 i j from rfl]
    have hia := i4 (by omega)
    have hja := j4 (by omega)
    have hne : i < j := by
      rcases Int.lt_or_eq_of_le (show i ≤ j by omega) with h | h
      · exact h
      · subst h; exact absurd hja hia
    have hR1 : Rg a b l0 (sw m0 i j) := hR0.trans (Rg.swap ha (by omega) (by omega) (by omega) (by omega) (by omega))
    have ea : at' (sw m0 i j) a = at' m0 a := by rw [sw_at (by omega) (by omega) (by omega) (by omega) (by omega), if_neg (by omega), if_neg (by omega)]
    have hlo : ∀ q, a + 1 ≤ q → q < i + 1 → at' (sw m0 i j) q < at' (sw m0 i j) a := fun q h1 h2 => by
      rw [ea, sw_at (by omega) (by omega) (by omega) (by omega) (by omega), if_neg (by omega)]
      by_cases e : q = i
      · rw [if_pos e]; exact hja
      · rw [if_neg e]; exact i3 q h1 (by omega)
    have hhi : ∀ q, j - 1 < q → q < b → ¬ at' (sw m0 i j) q < at' (sw m0 i j) a := fun q h1 h2 => by
      rw [ea, sw_at (by omega) (by omega) (by omega) (by omega) (by omega)]
      by_cases e : q = j
      · rw [if_pos e]; exact hia
      · rw [if_neg e, if_neg (by omega)]; exact j3 q (by omega) (by omega)
    rw [w64 (show -9223372036854775808 ≤ i + 1 by omega) (by omega), w64 (show -9223372036854775808 ≤ j - 1 by omega) (by omega)]
    generalize sw m0 i j = m1 at hR1 hlo hhi ⊢
    refine loop_then (fun s => Rg a b l0 s.1 ∧ a + 1 ≤ s.2.1 ∧ s.2.1 ≤ s.2.2 + 1 ∧ s.2.2 < b ∧ (∀ q, a + 1 ≤ q → q < s.2.1 → at' s.1 q < at' s.1 a) ∧ (∀ q, s.2.2 < q → q < b → ¬ at' s.1 q < at' s.1 a)) (fun s => (s.2.2 + 1 - s.2.1).toNat)
      (fun s => Rg a b l0 s.1 ∧ a ≤ s.2 ∧ s.2 < b ∧ (∀ q, a + 1 ≤ q → q ≤ s.2 → at' s.1 q < at' s.1 a) ∧ (∀ q, s.2 < q → q < b → ¬ at' s.1 q < at' s.1 a)) ?_ ?_ ?_
    · rintro ⟨m, u, v⟩ ⟨hR, g1, g2, g3, g4, g5⟩
      dsimp only at hR g1 g2 g3 g4 g5 ⊢
      have hml := hR.len
      refine scanUp m a v u ha (by omega) (by omega) (by omega) (by omega) (by omega) (fun i i1 i2 i3 i4 => ?_)
      refine scanDown m a i v ha (by omega) (by omega) (by omega) (by omega) (by omega) (fun j j1 j2 j3 j4 => ?_)
      have f1 : ∀ q, a + 1 ≤ q → q < i → at' m q < at' m a := fun q h1 h2 => by
        by_cases h : q < u
        · exact g4 q h1 h
        · exact i3 q (by omega) h2
      have f2 : ∀ q, j < q → q < b → ¬ at' m q < at' m a := fun q h1 h2 => by
        by_cases h : q ≤ v
        · exact j3 q h1 h
        · exact g5 q (by omega) h2
      by_cases hij : j < i
      · exact ⟨.inr (m, j), by simp only [hij, decide_true, cond_true], hR, by dsimp only; omega, by dsimp only; omega, fun q h1 h2 => f1 q h1 (by dsimp only at h2; omega), f2⟩
      · have t1 : idx m i = some (at' m i) := idx_at (by omega) (by omega)
        have t2 : idx m j = some (at' m j) := idx_at (by omega) (by omega)
        have t3 : ∀ x, idx (m.set i.toNat x) j = some (at' (m.set i.toNat x) j) := fun x => idx_set_at (by omega) (by omega)
        have hia := i4 (by omega)
        have hja := j4 (by omega)
        have hne : i < j := by
          rcases Int.lt_or_eq_of_le (show i ≤ j by omega) with h | h
          · exact h
          · subst h; exact absurd hja hia
        have ea : at' (sw m i j) a = at' m a := by rw [sw_at (by omega) (by omega) (by omega) (by omega) (by omega), if_neg (by omega), if_neg (by omega)]
        rw [w64 (show -9223372036854775808 ≤ i + 1 by omega) (by omega), w64 (show -9223372036854775808 ≤ j - 1 by omega) (by omega)]
        refine ⟨.inl (sw m i j, i + 1, j - 1), ?_, ⟨hR.trans (Rg.swap ha (by omega) (by omega) (by omega) (by omega) (by omega)), by dsimp only; omega, by dsimp only; omega, by dsimp only; omega, fun q h1 h2 => ?_, fun q h1 h2 => ?_⟩, by dsimp only; omega⟩
        · simp only [t1, t2, t3, hij, decide_false, cond_false, Option.bind_some]
          rfl
        · dsimp only at h2 ⊢
          rw [ea, sw_at (by omega) (by omega) (by omega) (by omega) (by omega), if_neg (by omega)]
          by_cases e : q = i
          · rw [if_pos e]; exact hja
          · rw [if_neg e]; exact f1 q h1 (by omega)
        · dsimp only at h1 ⊢
          rw [ea, sw_at (by omega) (by omega) (by omega) (by omega) (by omega)]
          by_cases e : q = j
          · rw [if_pos e]; exact hia
          · rw [if_neg e, if_neg (by omega)]; exact f2 q (by omega) h2
    · exact ⟨hR1, by dsimp only; omega, by dsimp only; omega, by dsimp only; omega, hlo, hhi⟩
    · rintro ⟨m, v⟩ ⟨hR, g1, g2, g3, g4⟩
      dsimp only at hR g1 g2 g3 g4 ⊢
      have hml := hR.len
      have t1 : idx m a = some (at' m a) := idx_at (by omega) (by omega)
      have t2 : idx m v = some (at' m v) := idx_at (by omega) (by omega)
      have t3 : ∀ x, idx (m.set v.toNat x) a = some (at' (m.set v.toNat x) a) := fun x => idx_set_at (by omega) (by omega)
      refine ⟨(v, false, sw m v a), ?_, ⟨hR.trans (Rg.swap ha (by omega) (by omega) (by omega) (by omega) (by omega)), g1, g2, fun k k1 k2 => ?_, fun k k1 k2 => ?_⟩⟩
      · simp only [t1, t2, t3, Option.bind_some]
        rfl
      · dsimp only at k1 k2 ⊢
        rw [sw_at (by omega) (by omega) (by omega) (by omega) (by omega), sw_at (by omega) (by omega) (by omega) (by omega) (by omega)]
        rw [if_neg (show ¬ v = a by omega), if_pos rfl]
        by_cases e : k = a
        · rw [if_pos e]
          have := g3 v (by omega) (by omega); omega
        · rw [if_neg e, if_neg (by omega)]
          have := g3 k (by omega) (by omega); omega
      · dsimp only at k1 k2 ⊢
        rw [sw_at (by omega) (by omega) (by omega) (by omega) (by omega), sw_at (by omega) (by omega) (by omega) (by omega) (by omega)]
        rw [if_neg (show ¬ k = a by omega), if_neg (show ¬ k = v by omega)]
        have hk := g4 k (by omega) (by omega)
        by_cases e : v = a
        · rw [if_pos e]; subst e; omega
        · rw [if_neg e, if_pos rfl]; omega
end Go.Sx

namespace Go.Sx
/-- up, while the pivot is not less than what is read -/
theorem scanUp2 {β : Type} {k : Int → Option β} {Q : β → Prop} (l : List Int) (a hi i0 : Int) (ha : 0 ≤ a) (ha' : a < l.length) (h0 : 0 ≤ i0) (h1 : i0 ≤ hi + 1) (h2 : hi < l.length) (hlen : l.length ≤ 1000000)
    (hk : ∀ i, i0 ≤ i → i ≤ hi + 1 → (∀ q, i0 ≤ q → q < i → ¬ at' l a < at' l q) → (i ≤ hi → at' l a < at' l i) → ∃ y, k i = some y ∧ Q y) :
    ∃ y, (loopF (σ := Int) (ρ := (Int)) (fun (x : Int) => (cond (decide (x ≤ hi)) ((idx l a).bind fun e => (idx l x).bind fun e' => (D.cmp_Less_int64 e e').bind fun y => some (!y)) (some false)).bind fun b => cond b (some (.inl (IntKind.i64.wrap (x + 1)))) (some (.inr x))) i0).bind k = some y ∧ Q y := by
  refine loop_then (fun i => i0 ≤ i ∧ i ≤ hi + 1 ∧ ∀ q, i0 ≤ q → q < i → ¬ at' l a < at' l q) (fun i => (hi + 1 - i).toNat) (fun i => i0 ≤ i ∧ i ≤ hi + 1 ∧ (∀ q, i0 ≤ q → q < i → ¬ at' l a < at' l q) ∧ (i ≤ hi → at' l a < at' l i)) ?_ ?_ ?_
  · rintro i ⟨g1, g2, g3⟩
    by_cases hi' : i ≤ hi
    · have r1 : idx l i = some (at' l i) := idx_at (by omega) (by omega)
      have r2 : idx l a = some (at' l a) := idx_at (by omega) (by omega)
      by_cases hlt : at' l a < at' l i
      · exact ⟨.inr i, by simp only [r1, r2, hi', less_eq, hlt, decide_true, Bool.not_true, cond_true, cond_false, Option.bind_some], g1, g2, g3, fun _ => hlt⟩
      · refine ⟨.inl (i + 1), ?_, ⟨by omega, by omega, fun q q1 q2 => ?_⟩, by dsimp only; omega⟩
        · simp only [r1, r2, hi', less_eq, hlt, decide_true, decide_false, Bool.not_false, cond_true, Option.bind_some]
          rw [w64 (by omega) (by omega)]
        · by_cases e : q = i
          · rw [e]; exact hlt
          · exact g3 q q1 (by omega)
    · exact ⟨.inr i, by simp only [hi', decide_false, cond_false, Option.bind_some], g1, g2, g3, fun h => absurd h hi'⟩
  · exact ⟨Int.le_refl _, h1, fun q q1 q2 => by omega⟩
  · rintro i ⟨g1, g2, g3, g4⟩
    exact hk i g1 g2 g3 g4

/-- down, while the pivot is less than what is read -/
theorem scanDown2 {β : Type} {k : Int → Option β} {Q : β → Prop} (l : List Int) (a lo j0 : Int) (ha : 0 ≤ a) (ha' : a < l.length) (h0 : 0 ≤ lo) (h1 : lo ≤ j0 + 1) (h2 : j0 < l.length) (hlen : l.length ≤ 1000000)
    (hk : ∀ j, lo ≤ j + 1 → j ≤ j0 → (∀ q, j < q → q ≤ j0 → at' l a < at' l q) → (lo ≤ j → ¬ at' l a < at' l j) → ∃ y, k j = some y ∧ Q y) :
    ∃ y, (loopF (σ := Int) (ρ := (Int)) (fun (x : Int) => (cond (decide (lo ≤ x)) ((idx l a).bind fun e => (idx l x).bind fun e' => (D.cmp_Less_int64 e e').bind fun y => some y) (some false)).bind fun b => cond b (some (.inl (IntKind.i64.wrap (x - 1)))) (some (.inr x))) j0).bind k = some y ∧ Q y := by
  refine loop_then (fun j => lo ≤ j + 1 ∧ j ≤ j0 ∧ ∀ q, j < q → q ≤ j0 → at' l a < at' l q) (fun j => (j + 1 - lo).toNat) (fun j => lo ≤ j + 1 ∧ j ≤ j0 ∧ (∀ q, j < q → q ≤ j0 → at' l a < at' l q) ∧ (lo ≤ j → ¬ at' l a < at' l j)) ?_ ?_ ?_
  · rintro j ⟨g1, g2, g3⟩
    by_cases hi' : lo ≤ j
    · have r1 : idx l j = some (at' l j) := idx_at (by omega) (by omega)
      have r2 : idx l a = some (at' l a) := idx_at (by omega) (by omega)
      by_cases hlt : at' l a < at' l j
      · refine ⟨.inl (j - 1), ?_, ⟨by omega, by omega, fun q q1 q2 => ?_⟩, by dsimp only; omega⟩
        · simp only [r1, r2, hi', less_eq, hlt, decide_true, cond_true, Option.bind_some]
          rw [w64 (by omega) (by omega)]
        · by_cases e : q = j
          · rw [e]; exact hlt
          · exact g3 q (by omega) q2
      · exact ⟨.inr j, by simp only [r1, r2, hi', less_eq, hlt, decide_true, decide_false, cond_true, cond_false, Option.bind_some], g1, g2, g3, fun _ => hlt⟩
    · exact ⟨.inr j, by simp only [hi', decide_false, cond_false, Option.bind_some], g1, g2, g3, fun h => absurd h hi'⟩
  · exact ⟨h1, Int.le_refl _, fun q q1 q2 => by omega⟩
  · rintro j ⟨g1, g2, g3, g4⟩
    exact hk j g1 g2 g3 g4

theorem partitionEqual_spec (l0 : List Int) (a b p : Int) (ha : 0 ≤ a) (hb : b ≤ l0.length) (hlen : l0.length ≤ 1000000) (hp : a ≤ p) (hp' : p < b) :
    ∃ y, D.slices_partitionEqualOrdered_int64 l0 a b p = some y ∧ Rg a b l0 y.2 ∧ a < y.1 ∧ y.1 ≤ b ∧ (∀ k, a ≤ k → k < y.1 → at' y.2 k ≤ at' l0 p) ∧ (∀ k, y.1 ≤ k → k < b → at' l0 p < at' y.2 k) := by
  unfold D.slices_partitionEqualOrdered_int64
  have r1 : idx l0 p = some (at' l0 p) := idx_at (by omega) (by omega)
  have r2 : idx l0 a = some (at' l0 a) := idx_at (by omega) (by omega)
  have r3 : ∀ x, idx (l0.set a.toNat x) p = some (at' (l0.set a.toNat x) p) := fun x => idx_set_at (by omega) (by omega)
  simp only [r1, r2, r3, Option.bind_some]
  rw [show (l0.set a.toNat (at' l0 p)).set p.toNat (at' l0 a) = sw l0 a p from rfl]
  have hR0 : Rg a b l0 (sw l0 a p) := Rg.swap ha hb (by omega) (by omega) hp hp'
  have ep : at' (sw l0 a p) a = at' l0 p := by
    rw [sw_at (by omega) (by omega) (by omega) (by omega) (by omega)]
    by_cases e : a = p
    · rw [if_pos e, e]
    · rw [if_neg e, if_pos rfl]
  generalize sw l0 a p = m0 at hR0 ep ⊢
  rw [w64 (show -9223372036854775808 ≤ b - 1 by omega) (by omega), w64 (show -9223372036854775808 ≤ a + 1 by omega) (by omega)]
  refine loop_then (fun s => Rg a b l0 s.1 ∧ a + 1 ≤ s.2.1 ∧ s.2.1 ≤ s.2.2 + 1 ∧ s.2.2 < b ∧ at' s.1 a = at' l0 p ∧ (∀ q, a + 1 ≤ q → q < s.2.1 → ¬ at' s.1 a < at' s.1 q) ∧ (∀ q, s.2.2 < q → q < b → at' s.1 a < at' s.1 q)) (fun s => (s.2.2 + 1 - s.2.1).toNat)
    (fun s => Rg a b l0 s.1 ∧ a + 1 ≤ s.2 ∧ s.2 ≤ b ∧ at' s.1 a = at' l0 p ∧ (∀ q, a + 1 ≤ q → q < s.2 → ¬ at' s.1 a < at' s.1 q) ∧ (∀ q, s.2 ≤ q → q < b → at' s.1 a < at' s.1 q)) ?_ ?_ ?_
  · rintro ⟨m, u, v⟩ ⟨hR, g1, g2, g3, g6, g4, g5⟩
    dsimp only at hR g1 g2 g3 g4 g5 g6 ⊢
    have hml := hR.len
    refine scanUp2 m a v u ha (by omega) (by omega) (by omega) (by omega) (by omega) (fun i i1 i2 i3 i4 => ?_)
    refine scanDown2 m a i v ha (by omega) (by omega) (by omega) (by omega) (by omega) (fun j j1 j2 j3 j4 => ?_)
    have f1 : ∀ q, a + 1 ≤ q → q < i → ¬ at' m a < at' m q := fun q h1 h2 => by
      by_cases h : q < u
      · exact g4 q h1 h
      · exact i3 q (by omega) h2
    have f2 : ∀ q, j < q → q < b → at' m a < at' m q := fun q h1 h2 => by
      by_cases h : q ≤ v
      · exact j3 q h1 h
      · exact g5 q (by omega) h2
    by_cases hij : j < i
    · exact ⟨.inr (m, i), by simp only [hij, decide_true, cond_true], hR, by dsimp only; omega, by dsimp only; omega, g6, f1, fun q h1 h2 => f2 q (by dsimp only at h1; omega) h2⟩
    · have t1 : idx m i = some (at' m i) := idx_at (by omega) (by omega)
      have t2 : idx m j = some (at' m j) := idx_at (by omega) (by omega)
      have t3 : ∀ x, idx (m.set i.toNat x) j = some (at' (m.set i.toNat x) j) := fun x => idx_set_at (by omega) (by omega)
      have hia := i4 (by omega)
      have hja := j4 (by omega)
      have hne : i < j := by
        rcases Int.lt_or_eq_of_le (show i ≤ j by omega) with h | h
        · exact h
        · subst h; exact absurd hia hja
      have ea : at' (sw m i j) a = at' m a := by rw [sw_at (by omega) (by omega) (by omega) (by omega) (by omega), if_neg (by omega), if_neg (by omega)]
      rw [w64 (show -9223372036854775808 ≤ i + 1 by omega) (by omega), w64 (show -9223372036854775808 ≤ j - 1 by omega) (by omega)]
      refine ⟨.inl (sw m i j, i + 1, j - 1), ?_, ⟨hR.trans (Rg.swap ha (by omega) (by omega) (by omega) (by omega) (by omega)), by dsimp only; omega, by dsimp only; omega, by dsimp only; omega, by dsimp only; rw [ea]; exact g6, fun q h1 h2 => ?_, fun q h1 h2 => ?_⟩, by dsimp only; omega⟩
      · simp only [t1, t2, t3, hij, decide_false, cond_false, Option.bind_some]
        rfl
      · dsimp only at h2 ⊢
        rw [ea, sw_at (by omega) (by omega) (by omega) (by omega) (by omega), if_neg (by omega)]
        by_cases e : q = i
        · rw [if_pos e]; exact hja
        · rw [if_neg e]; exact f1 q h1 (by omega)
      · dsimp only at h1 ⊢
        rw [ea, sw_at (by omega) (by omega) (by omega) (by omega) (by omega)]
        by_cases e : q = j
        · rw [if_pos e]; exact hia
        · rw [if_neg e, if_neg (by omega)]; exact f2 q (by omega) h2
  · exact ⟨hR0, by dsimp only; omega, by dsimp only; omega, by dsimp only; omega, ep, fun q h1 h2 => by dsimp only at h2; omega, fun q h1 h2 => by dsimp only at h1; omega⟩
  · rintro ⟨m, v⟩ ⟨hR, g1, g2, g3, g4, g5⟩
    refine ⟨(v, m), rfl, hR, by dsimp only at *; omega, g2, fun k k1 k2 => ?_, fun k k1 k2 => ?_⟩
    · dsimp only at *
      by_cases e : k = a
      · rw [e, g3]; exact Int.le_refl _
      · have := g4 k (by omega) k2; omega
    · dsimp only at *
      have := g5 k k1 k2; omega

theorem order2_spec (l : List Int) (a b s : Int) (ha : 0 ≤ a) (ha' : a < l.length) (hb : 0 ≤ b) (hb' : b < l.length) :
    ∃ y, D.slices_order2Ordered_int64 l a b s = some y ∧ y.2.2.1 = l ∧ ((y.1 = a ∧ y.2.1 = b) ∨ (y.1 = b ∧ y.2.1 = a)) := by
  have r1 : idx l a = some (at' l a) := idx_at ha ha'
  have r2 : idx l b = some (at' l b) := idx_at hb hb'
  unfold D.slices_order2Ordered_int64
  simp only [r1, r2, less_eq, Option.bind_some]
  by_cases h : at' l b < at' l a
  · simp only [h, decide_true, cond_true]; exact ⟨_, rfl, rfl, .inr ⟨rfl, rfl⟩⟩
  · simp only [h, decide_false, cond_false]; exact ⟨_, rfl, rfl, .inl ⟨rfl, rfl⟩⟩

theorem median_spec (l : List Int) (a b c s : Int) (ha : 0 ≤ a) (ha' : a < l.length) (hb : 0 ≤ b) (hb' : b < l.length) (hc : 0 ≤ c) (hc' : c < l.length) :
    ∃ y, D.slices_medianOrdered_int64 l a b c s = some y ∧ y.2.1 = l ∧ (y.1 = a ∨ y.1 = b ∨ y.1 = c) := by
  unfold D.slices_medianOrdered_int64
  obtain ⟨y1, h1, e1, c1⟩ := order2_spec l a b s ha ha' hb hb'
  rw [h1, Option.bind_some, e1]
  have b1 : 0 ≤ y1.2.1 ∧ y1.2.1 < l.length ∧ 0 ≤ y1.1 ∧ y1.1 < l.length := by rcases c1 with ⟨c, d⟩ | ⟨c, d⟩ <;> rw [c, d] <;> exact ⟨by assumption, by assumption, by assumption, by assumption⟩
  obtain ⟨y2, h2, e2, c2⟩ := order2_spec l y1.2.1 c y1.2.2.2 b1.1 b1.2.1 hc hc'
  rw [h2, Option.bind_some, e2]
  have b2 : 0 ≤ y2.1 ∧ y2.1 < l.length := by rcases c2 with ⟨c, d⟩ | ⟨c, d⟩ <;> rw [c] <;> exact ⟨by omega, by omega⟩
  obtain ⟨y3, h3, e3, c3⟩ := order2_spec l y1.1 y2.1 y2.2.2.2 b1.2.2.1 b1.2.2.2 b2.1 b2.2
  rw [h3, Option.bind_some]
  refine ⟨_, rfl, e3, ?_⟩
  dsimp only
  omega

theorem choosePivot_spec (l : List Int) (a b : Int) (ha : 0 ≤ a) (hb : b ≤ l.length) (h8 : 8 ≤ b - a) (h50 : b - a < 50) (hlen : l.length ≤ 1000000) :
    ∃ y, D.slices_choosePivotOrdered_int64 l a b = some y ∧ y.2.2 = l ∧ a ≤ y.1 ∧ y.1 < b := by
  unfold D.slices_choosePivotOrdered_int64
  rw [w64 (show -9223372036854775808 ≤ b - a by omega) (by omega)]
  have e4 : (b - a).tdiv 4 = (b - a) / 4 := Int.tdiv_eq_ediv_of_nonneg (by omega)
  rw [e4, w64 (show -9223372036854775808 ≤ (b - a) / 4 by omega) (by omega)]
  rw [w64 (show -9223372036854775808 ≤ (b - a) / 4 * 1 by omega) (by omega), w64 (show -9223372036854775808 ≤ (b - a) / 4 * 2 by omega) (by omega), w64 (show -9223372036854775808 ≤ (b - a) / 4 * 3 by omega) (by omega)]
  rw [w64 (show -9223372036854775808 ≤ a + (b - a) / 4 * 1 by omega) (by omega), w64 (show -9223372036854775808 ≤ a + (b - a) / 4 * 2 by omega) (by omega), w64 (show -9223372036854775808 ≤ a + (b - a) / 4 * 3 by omega) (by omega)]
  simp only [h8, show ¬ (50 ≤ b - a) by omega, decide_true, decide_false, cond_true, cond_false, Option.bind_some]
  obtain ⟨y, h1, e1, c1⟩ := median_spec l (a + (b - a) / 4 * 1) (a + (b - a) / 4 * 2) (a + (b - a) / 4 * 3) 0 (by omega) (by omega) (by omega) (by omega) (by omega) (by omega)
  rw [h1, Option.bind_some, e1]
  have hy : a ≤ y.1 ∧ y.1 < b := by omega
  cases (y.2.2 == 0)
  · cases (y.2.2 == 12)
    · exact ⟨_, rfl, rfl, hy⟩
    · exact ⟨_, rfl, rfl, hy⟩
  · exact ⟨_, rfl, rfl, hy⟩

theorem partialInsertion_spec (l : List Int) (a b : Int) (ha : 0 ≤ a) (hab : a < b) (hb : b ≤ l.length) (h50 : b - a < 50) (hlen : l.length ≤ 1000000) :
    ∃ y, D.slices_partialInsertionSortOrdered_int64 l a b = some y ∧ y.2 = l ∧ (y.1 = true → Srt l a b) := by
  unfold D.slices_partialInsertionSortOrdered_int64
  rw [w64 (show -9223372036854775808 ≤ a + 1 by omega) (by omega)]
  refine loop_then (fun s => s = (l, a + 1, 0)) (fun _ => 0) (fun r => ∃ y : Bool × List Int, r = .inr y ∧ y.2 = l ∧ (y.1 = true → Srt l a b)) ?_ rfl ?_
  · rintro s rfl
    dsimp only
    simp only [show ((0 : Int) < 5) from by decide, decide_true, cond_true]
    refine loop_then (fun i => a + 1 ≤ i ∧ i ≤ b ∧ Srt l a i) (fun i => (b - i).toNat) (fun i => a + 1 ≤ i ∧ i ≤ b ∧ Srt l a i) ?_ ?_ ?_
    · rintro i ⟨g1, g2, g3⟩
      by_cases hi : i < b
      · have r1 : idx l i = some (at' l i) := idx_at (by omega) (by omega)
        have r2 : idx l (i - 1) = some (at' l (i - 1)) := idx_at (by omega) (by omega)
        have e1 : IntKind.i64.wrap (i - 1) = i - 1 := w64 (by omega) (by omega)
        by_cases hlt : at' l i < at' l (i - 1)
        · exact ⟨.inr i, by simp only [r1, r2, e1, hi, less_eq, hlt, decide_true, Bool.not_true, cond_true, cond_false, Option.bind_some], g1, g2, g3⟩
        · refine ⟨.inl (i + 1), ?_, ⟨by omega, by omega, fun p q k1 k2 k3 => ?_⟩, by dsimp only; omega⟩
          · simp only [r1, r2, e1, hi, less_eq, hlt, decide_true, decide_false, Bool.not_false, cond_true, Option.bind_some]
            rw [w64 (by omega) (by omega)]
          · by_cases e : q = i
            · subst e
              by_cases e2 : p = q - 1
              · subst e2; omega
              · have := g3 p (q - 1) k1 (by omega) (by omega); omega
            · exact g3 p q k1 k2 (by omega)
      · exact ⟨.inr i, by simp only [hi, decide_false, cond_false, Option.bind_some], g1, g2, g3⟩
    · exact ⟨Int.le_refl _, by omega, fun p q k1 k2 k3 => by omega⟩
    · rintro i ⟨g1, g2, g3⟩
      rw [w64 (show -9223372036854775808 ≤ b - a by omega) (by omega)]
      by_cases he : i = b
      · refine ⟨.inr (.inr (true, l)), ?_, _, rfl, rfl, fun _ => by rw [← he]; exact g3⟩
        have : (i == b) = true := by simp [he]
        simp only [this, cond_true]
      · refine ⟨.inr (.inr (false, l)), ?_, _, rfl, rfl, fun h => by cases h⟩
        have : (i == b) = false := by simp [he]
        simp only [this, h50, decide_true, cond_true, cond_false]
  · rintro r ⟨y, rfl, h1, h2⟩
    exact ⟨y, rfl, h1, h2⟩
end Go.Sx

namespace Go.Sx
theorem iand_small (y m : Int) (h0 : 0 ≤ m) (h1 : m < 4294967296) : 0 ≤ iand .u64 y m ∧ iand .u64 y m ≤ m := by
  unfold iand
  have e : (BitVec.ofInt IntKind.u64.bits y &&& BitVec.ofInt IntKind.u64.bits m).toNat ≤ (BitVec.ofInt IntKind.u64.bits m).toNat := by
    rw [BitVec.toNat_and]; exact Nat.and_le_right
  have e2 : (BitVec.ofInt IntKind.u64.bits m).toNat = m.toNat := by
    rw [BitVec.toNat_ofInt]
    show (m % (2 ^ 64 : Nat)).toNat = m.toNat
    congr 1
    omega
  rw [e2] at e
  generalize (BitVec.ofInt IntKind.u64.bits y &&& BitVec.ofInt IntKind.u64.bits m).toNat = t at e
  have : IntKind.u64.wrap (t : Int) = t := by
    simp only [IntKind.wrap, IntKind.bits, IntKind.signed]
    simp
    omega
  rw [this]
  omega

theorem wu64 {x : Int} (h1 : 0 ≤ x) (h2 : x < 18446744073709551616) : IntKind.u64.wrap x = x := by
  simp only [IntKind.wrap, IntKind.bits, IntKind.signed]
  simp
  omega

theorem pow2_spec (n : Int) (h1 : 8 ≤ n) (h2 : n ≤ 16) : ∃ y, D.slices_nextPowerOfTwo n = some y ∧ n < y ∧ y ≤ 2 * n := by
  unfold D.slices_nextPowerOfTwo
  rw [wu64 (by omega) (by omega)]
  have key : ∀ k : Int, k = 8 ∨ k = 9 ∨ k = 10 ∨ k = 11 ∨ k = 12 ∨ k = 13 ∨ k = 14 ∨ k = 15 ∨ k = 16 → k < ishl .u64 1 (Lib.bitLen k.toNat : Nat) ∧ ishl .u64 1 (Lib.bitLen k.toNat : Nat) ≤ 2 * k := by
    rintro k (rfl | rfl | rfl | rfl | rfl | rfl | rfl | rfl | rfl) <;> decide
  obtain ⟨k1, k2⟩ := key n (by omega)
  refine ⟨_, ?_, k1, k2⟩
  unfold D.math_bits_Len
  rw [if_pos (by omega), Option.bind_some]
  have : decide (((Lib.bitLen n.toNat : Nat) : Int) < 0) = false := by simp
  rw [this]
  rfl

theorem breakPatterns_spec (l0 : List Int) (a b : Int) (ha : 0 ≤ a) (hb : b ≤ l0.length) (h8 : 8 ≤ b - a) (h16 : b - a ≤ 16) (hlen : l0.length ≤ 1000000) :
    ∃ l', D.slices_breakPatternsOrdered_int64 l0 a b = some l' ∧ Rg a b l0 l' := by
  unfold D.slices_breakPatternsOrdered_int64
  rw [w64 (show -9223372036854775808 ≤ b - a by omega) (by omega)]
  have e4 : (b - a).tdiv 4 = (b - a) / 4 := Int.tdiv_eq_ediv_of_nonneg (by omega)
  rw [e4, w64 (show -9223372036854775808 ≤ (b - a) / 4 by omega) (by omega)]
  rw [w64 (show -9223372036854775808 ≤ (b - a) / 4 * 2 by omega) (by omega)]
  rw [w64 (show -9223372036854775808 ≤ a + (b - a) / 4 * 2 by omega) (by omega)]
  rw [w64 (show -9223372036854775808 ≤ a + (b - a) / 4 * 2 + 1 by omega) (by omega), w64 (show -9223372036854775808 ≤ a + (b - a) / 4 * 2 - 1 by omega) (by omega)]
  simp only [h8, decide_true, cond_true]
  obtain ⟨y, hy, g1, g2⟩ := pow2_spec (b - a) h8 h16
  rw [hy, Option.bind_some, wu64 (show 0 ≤ y - 1 by omega) (by omega)]
  refine loop_then (fun s => Rg a b l0 s.1 ∧ a + (b - a) / 4 * 2 - 1 ≤ s.2.1 ∧ s.2.1 ≤ a + (b - a) / 4 * 2 + 2) (fun s => (a + (b - a) / 4 * 2 + 2 - s.2.1).toNat) (fun r => Rg a b l0 r) ?_ ?_ ?_
  · rintro ⟨l, i, z⟩ ⟨hR, k1, k2⟩
    dsimp only at hR k1 k2 ⊢
    have hll := hR.len
    by_cases hi : i ≤ a + (b - a) / 4 * 2 + 1
    · simp only [hi, decide_true, cond_true, D.slices_xorshift_Next, Option.bind_some]
      obtain ⟨t1, t2⟩ := iand_small (ixor .u64 (ixor .u64 (ixor .u64 z (ishl .u64 z 13)) (ishr .u64 (ixor .u64 z (ishl .u64 z 13)) 7)) (ishl .u64 (ixor .u64 (ixor .u64 z (ishl .u64 z 13)) (ishr .u64 (ixor .u64 z (ishl .u64 z 13)) 7)) 17)) (y - 1) (by omega) (by omega)
      revert t1 t2
      generalize iand .u64 (ixor .u64 (ixor .u64 (ixor .u64 z (ishl .u64 z 13)) (ishr .u64 (ixor .u64 z (ishl .u64 z 13)) 7)) (ishl .u64 (ixor .u64 (ixor .u64 z (ishl .u64 z 13)) (ishr .u64 (ixor .u64 z (ishl .u64 z 13)) 7)) 17)) (y - 1) = t
      generalize (ixor .u64 (ixor .u64 (ixor .u64 z (ishl .u64 z 13)) (ishr .u64 (ixor .u64 z (ishl .u64 z 13)) 7)) (ishl .u64 (ixor .u64 (ixor .u64 z (ishl .u64 z 13)) (ishr .u64 (ixor .u64 z (ishl .u64 z 13)) 7)) 17)) = z'
      intro t1 t2
      rw [w64 (show -9223372036854775808 ≤ t by omega) (by omega), w64 (show -9223372036854775808 ≤ t - (b - a) by omega) (by omega)]
      have hc : ∃ o, (bif decide (b - a ≤ t) then some (t - (b - a)) else some t) = some o ∧ 0 ≤ o ∧ o < b - a := by
        by_cases h : b - a ≤ t
        · exact ⟨t - (b - a), by simp [h], by omega, by omega⟩
        · exact ⟨t, by simp [h], by omega, by omega⟩
      obtain ⟨o, ho, o1, o2⟩ := hc
      rw [ho, Option.bind_some, w64 (show -9223372036854775808 ≤ a + o by omega) (by omega), w64 (show -9223372036854775808 ≤ i + 1 by omega) (by omega)]
      have r1 : idx l i = some (at' l i) := idx_at (by omega) (by omega)
      have r2 : idx l (a + o) = some (at' l (a + o)) := idx_at (by omega) (by omega)
      have r3 : ∀ x, idx (l.set i.toNat x) (a + o) = some (at' (l.set i.toNat x) (a + o)) := fun x => idx_set_at (by omega) (by omega)
      refine ⟨.inl (sw l i (a + o), i + 1, z'), ?_, ⟨hR.trans (Rg.swap ha (by omega) (by omega) (by omega) (by omega) (by omega)), by dsimp only; omega, by dsimp only; omega⟩, by dsimp only; omega⟩
      simp only [r1, r2, r3, Option.bind_some]
      rfl
    · exact ⟨.inr l, by simp only [hi, decide_false, cond_false], hR⟩
  · exact ⟨Rg.refl _ _ _, by dsimp only; omega, by dsimp only; omega⟩
  · rintro r hr
    exact ⟨r, rfl, hr⟩
end Go.Sx

/- The steps of a sort that stir: partial insertion, broken patterns. Plain. -/
namespace Go.Sx.Gs
variable {α : Type} [Srtd α]
theorem partialInsertion_spec (l0 : List α) (hG : Good l0) (a b : Int) (ha : 0 ≤ a) (hab : a < b) (hb : b ≤ l0.length) (hlen : l0.length ≤ 1000000)
    (hpre : 0 < a → ∀ k, a ≤ k → k < b → at' l0 (a - 1) ≤ at' l0 k) :
    ∃ y, DG.partialInsertionSort Srtd.cmp l0 a b = some y ∧ Rg a b l0 y.2 ∧ (y.1 = true → Srt y.2 a b) := by
  unfold DG.partialInsertionSort
  rw [w64 (show -9223372036854775808 ≤ a + 1 by omega) (by omega), w64 (show -9223372036854775808 ≤ b - a by omega) (by omega)]
  refine loop_then (fun s => Rg a b l0 s.1 ∧ a + 1 ≤ s.2.1 ∧ s.2.1 ≤ b ∧ Srt s.1 a s.2.1 ∧ 0 ≤ s.2.2 ∧ s.2.2 ≤ 5) (fun s => (5 - s.2.2).toNat)
    (fun r => match r with | .inl l => Rg a b l0 l | .inr y => Rg a b l0 y.2 ∧ (y.1 = true → Srt y.2 a b)) ?_ ⟨Rg.refl _ _ _, by dsimp only; omega, by dsimp only; omega, fun p q k1 k2 k3 => by dsimp only at k3; omega, by dsimp only; omega, by dsimp only; omega⟩ ?_
  · rintro ⟨l, i, j⟩ ⟨hR, g1, g2, g3, g4, g5⟩
    dsimp only at hR g1 g2 g3 g4 g5 ⊢
    have hll := hR.len
    by_cases hj : j < 5
    · simp only [hj, decide_true, cond_true]
      refine loop_then (fun i => a + 1 ≤ i ∧ i ≤ b ∧ Srt l a i) (fun i => (b - i).toNat) (fun i => a + 1 ≤ i ∧ i ≤ b ∧ Srt l a i ∧ (i < b → at' l i < at' l (i - 1))) ?_ ⟨g1, g2, g3⟩ ?_
      · rintro i ⟨g1, g2, g3⟩
        by_cases hi : i < b
        · have r1 : idx l i = some (el l i) := idx_at (by omega) (by omega)
          have r2 : idx l (i - 1) = some (el l (i - 1)) := idx_at (by omega) (by omega)
          have e1 : IntKind.i64.wrap (i - 1) = i - 1 := w64 (by omega) (by omega)
          obtain ⟨v, cv, hv⟩ := cmp_at (hR.good hG) (i := i) (j := i - 1) (by omega) (by omega) (by omega) (by omega)
          by_cases hlt : at' l i < at' l (i - 1)
          · exact ⟨.inr i, by simp only [r1, r2, e1, hi, cv, hv, hlt, decide_true, Bool.not_true, cond_true, cond_false, Option.bind_some], g1, g2, g3, fun _ => hlt⟩
          · refine ⟨.inl (i + 1), ?_, ⟨by omega, by omega, fun p q k1 k2 k3 => ?_⟩, by dsimp only; omega⟩
            · simp only [r1, r2, e1, hi, cv, hv, hlt, decide_true, decide_false, Bool.not_false, cond_true, Option.bind_some]
              rw [w64 (by omega) (by omega)]
            · by_cases e : q = i
              · subst e
                by_cases e2 : p = q - 1
                · subst e2; omega
                · have := g3 p (q - 1) k1 (by omega) (by omega); omega
              · exact g3 p q k1 k2 (by omega)
        · exact ⟨.inr i, by simp only [hi, decide_false, cond_false, Option.bind_some], g1, g2, g3, fun h => absurd h hi⟩
      · rintro i ⟨g1, g2, g3, g6⟩
        by_cases he : i = b
        · have : (i == b) = true := by simp [he]
          simp only [this, cond_true]
          exact ⟨_, rfl, hR, fun _ => by rw [← he]; exact g3⟩
        · have : (i == b) = false := by simp [he]
          simp only [this, cond_false]
          by_cases h50 : b - a < 50
          · simp only [h50, decide_true, cond_true]
            exact ⟨_, rfl, hR, fun h => by cases h⟩
          · simp only [h50, decide_false, cond_false]
            have hib : i < b := by omega
            have hlt := g6 hib
            have e1 : IntKind.i64.wrap (i - 1) = i - 1 := w64 (by omega) (by omega)
            have r1 : idx l i = some (el l i) := idx_at (by omega) (by omega)
            have r2 : idx l (i - 1) = some (el l (i - 1)) := idx_at (by omega) (by omega)
            have r3 : ∀ x, idx (l.set i.toNat x) (i - 1) = some (el (l.set i.toNat x) (i - 1)) := fun x => idx_set_at (by omega) (by omega)
            simp only [e1, r1, r2, r3, Option.bind_some]
            rw [show (l.set i.toNat (el l (i - 1))).set (i - 1).toNat (el l i) = sw l i (i - 1) from rfl]
            have hR1 : Rg a b l0 (sw l i (i - 1)) := hR.trans (Rg.swap ha (by omega) (by omega) (by omega) (by omega) (by omega))
            -- the first part is in order but for its last one
            have hS1 : ∀ p q, a ≤ p → p < q → q ≤ i - 1 → q ≠ i - 1 → at' (sw l i (i - 1)) p ≤ at' (sw l i (i - 1)) q := fun p q k1 k2 k3 k4 => by
              rw [sw_at (by omega) (by omega) (by omega) (by omega) (by omega), sw_at (by omega) (by omega) (by omega) (by omega) (by omega)]
              rw [if_neg (by omega), if_neg (by omega), if_neg (by omega), if_neg (by omega)]
              exact g3 p q k1 k2 (by omega)
            generalize sw l i (i - 1) = m at hR1 hS1 ⊢
            have hml := hR1.len
            have hpre' : ∀ m', Rg a b l0 m' → 0 < a → ∀ k, a ≤ k → k < b → at' m' (a - 1) ≤ at' m' k := fun m' hr h0 k k1 k2 => by
              rw [hr.out (a - 1) (by omega) (.inl (by omega))]
              exact hr.all (fun x => at' l0 (a - 1) ≤ x) (hpre h0) k k1 k2
            rw [w64 (show -9223372036854775808 ≤ i - a by omega) (by omega), w64 (show -9223372036854775808 ≤ b - i by omega) (by omega), w64 (show -9223372036854775808 ≤ i + 1 by omega) (by omega), w64 (show -9223372036854775808 ≤ j + 1 by omega) (by omega)]
            refine bind_then (fun m => Rg a b l0 m ∧ Srt m a i) ?_ ?_
            · by_cases h2 : 2 ≤ i - a
              · simp only [h2, decide_true, cond_true]
                refine loop_then (fun s => Rg a b l0 s.1 ∧ a ≤ s.2 ∧ s.2 ≤ i - 1 ∧ ∀ p q, a ≤ p → p < q → q ≤ i - 1 → q ≠ s.2 → at' s.1 p ≤ at' s.1 q) (fun s => s.2.toNat) (fun r => Rg a b l0 r ∧ Srt r a i) ?_ ⟨hR1, by dsimp only; omega, Int.le_refl _, hS1⟩ (fun r hr => ⟨r, rfl, hr⟩)
                rintro ⟨m, j⟩ ⟨hR', q1, q2, hS'⟩
                dsimp only at hR' q1 q2 hS' ⊢
                have hml := hR'.len
                by_cases hj1 : 1 ≤ j
                · have f1 : idx m j = some (el m j) := idx_at (by omega) (by omega)
                  have f2 : idx m (j - 1) = some (el m (j - 1)) := idx_at (by omega) (by omega)
                  have f3 : ∀ x, idx (m.set j.toNat x) (j - 1) = some (el (m.set j.toNat x) (j - 1)) := fun x => idx_set_at (by omega) (by omega)
                  have e2 : IntKind.i64.wrap (j - 1) = j - 1 := w64 (by omega) (by omega)
                  obtain ⟨v, cv, hv⟩ := cmp_at (hR'.good hG) (i := j) (j := j - 1) (by omega) (by omega) (by omega) (by omega)
                  by_cases hlt : at' m j < at' m (j - 1)
                  · have hja : a < j := by
                      rcases Int.lt_or_eq_of_le q1 with h | h
                      · exact h
                      · subst h
                        have := hpre' m hR' (by omega) a (Int.le_refl _) hab
                        omega
                    refine ⟨.inl (sw m j (j - 1), j - 1), ?_, ⟨hR'.trans (Rg.swap ha (by omega) (by omega) (by omega) (by omega) (by omega)), by dsimp only; omega, by dsimp only; omega, ?_⟩, by dsimp only; omega⟩
                    · simp only [hj1, decide_true, cond_true, e2, f1, f2, f3, cv, hv, hlt, Bool.not_true, cond_false, Option.bind_some]
                      rfl
                    · intro p q k1 k2 k3 k4
                      dsimp only at k4 ⊢
                      rw [sw_at (by omega) (by omega) (by omega) (by omega) (by omega), sw_at (by omega) (by omega) (by omega) (by omega) (by omega)]
                      by_cases c1 : q = j
                      · subst c1
                        rw [if_neg (show ¬ q = q - 1 by omega), if_pos rfl]
                        by_cases c2 : p = q - 1
                        · rw [if_pos c2]; omega
                        · rw [if_neg c2, if_neg (by omega)]
                          exact hS' p (q - 1) k1 (by omega) (by omega) (by omega)
                      · rw [if_neg (show ¬ q = j - 1 by omega), if_neg c1]
                        by_cases c2 : p = j - 1
                        · rw [if_pos c2]
                          exact hS' j q (by omega) (by omega) k3 c1
                        · rw [if_neg c2]
                          by_cases c3 : p = j
                          · rw [if_pos c3]
                            exact hS' (j - 1) q (by omega) (by omega) k3 c1
                          · rw [if_neg c3]
                            exact hS' p q k1 k2 k3 c1
                  · refine ⟨.inr m, ?_, hR', ?_⟩
                    · simp only [hj1, decide_true, cond_true, e2, f1, f2, cv, hv, hlt, decide_false, Bool.not_false, Option.bind_some]
                    · intro p q k1 k2 k3
                      by_cases c1 : q = j
                      · subst c1
                        by_cases c2 : p = q - 1
                        · subst c2; omega
                        · have := hS' p (q - 1) k1 (by omega) (by omega) (by omega)
                          omega
                      · exact hS' p q k1 k2 (by omega) c1
                · refine ⟨.inr m, ?_, hR', ?_⟩
                  · simp only [hj1, decide_false, cond_false]
                  · intro p q k1 k2 k3
                    exact hS' p q k1 k2 (by omega) (by omega)
              · simp only [h2, decide_false, cond_false]
                exact ⟨_, rfl, hR1, fun p q k1 k2 k3 => by omega⟩
            · rintro m1 ⟨hR2, hS2⟩
              have hm1 := hR2.len
              by_cases h2 : 2 ≤ b - i
              · simp only [h2, decide_true, cond_true]
                refine loop_then (fun s => Rg a b l0 s.1 ∧ Srt s.1 a i ∧ i + 1 ≤ s.2 ∧ s.2 ≤ b) (fun s => (b - s.2).toNat) (fun r => Rg a b l0 r ∧ Srt r a i) ?_ ⟨hR2, hS2, by dsimp only; omega, by dsimp only; omega⟩ ?_
                · rintro ⟨m, q⟩ ⟨hR', hS', q1, q2⟩
                  dsimp only at hR' hS' q1 q2 ⊢
                  have hml := hR'.len
                  by_cases hq : q < b
                  · have f1 : idx m q = some (el m q) := idx_at (by omega) (by omega)
                    have f2 : idx m (q - 1) = some (el m (q - 1)) := idx_at (by omega) (by omega)
                    have f3 : ∀ x, idx (m.set q.toNat x) (q - 1) = some (el (m.set q.toNat x) (q - 1)) := fun x => idx_set_at (by omega) (by omega)
                    have e2 : IntKind.i64.wrap (q - 1) = q - 1 := w64 (by omega) (by omega)
                    have e3 : IntKind.i64.wrap (q + 1) = q + 1 := w64 (by omega) (by omega)
                    obtain ⟨v, cv, hv⟩ := cmp_at (hR'.good hG) (i := q) (j := q - 1) (by omega) (by omega) (by omega) (by omega)
                    by_cases hlt : at' m q < at' m (q - 1)
                    · refine ⟨.inl (sw m q (q - 1), q + 1), ?_, ⟨hR'.trans (Rg.swap ha (by omega) (by omega) (by omega) (by omega) (by omega)), fun p r k1 k2 k3 => ?_, by dsimp only; omega, by dsimp only; omega⟩, by dsimp only; omega⟩
                      · simp only [hq, decide_true, cond_true, e2, e3, f1, f2, f3, cv, hv, hlt, Bool.not_true, cond_false, Option.bind_some]
                        rfl
                      · dsimp only
                        rw [sw_at (by omega) (by omega) (by omega) (by omega) (by omega), sw_at (by omega) (by omega) (by omega) (by omega) (by omega)]
                        rw [if_neg (by omega), if_neg (by omega), if_neg (by omega), if_neg (by omega)]
                        exact hS' p r k1 k2 k3
                    · refine ⟨.inr m, ?_, hR', hS'⟩
                      simp only [hq, decide_true, cond_true, e2, f1, f2, cv, hv, hlt, decide_false, Bool.not_false, Option.bind_some]
                  · exact ⟨.inr m, by simp only [hq, decide_false, cond_false], hR', hS'⟩
                · rintro m2 ⟨hR3, hS3⟩
                  exact ⟨_, rfl, ⟨hR3, g1, g2, hS3, by dsimp only; omega, by dsimp only; omega⟩, by dsimp only; omega⟩
              · simp only [h2, decide_false, cond_false]
                exact ⟨_, rfl, ⟨hR2, g1, g2, hS2, by dsimp only; omega, by dsimp only; omega⟩, by dsimp only; omega⟩
    · simp only [hj, decide_false, cond_false]
      exact ⟨_, rfl, hR⟩
  · rintro (l | y) h
    · exact ⟨_, rfl, h, fun h => by cases h⟩
    · exact ⟨_, rfl, h⟩

theorem bitLen_spec : ∀ x : Nat, 1 ≤ x → x < 2 ^ 64 → x < 2 ^ (Lib.bitLen x) ∧ 2 ^ (Lib.bitLen x) ≤ 2 * x := by
  intro x
  induction x using Nat.strongRecOn with
  | ind x ih =>
    intro h1 h2
    rw [Lib.bitLen_half x (by omega) h2]
    by_cases h : x = 1
    · subst h; decide
    · obtain ⟨a, b⟩ := ih (x / 2) (by omega) (by omega) (by omega)
      rw [Nat.add_comm, Nat.pow_succ]
      generalize 2 ^ Lib.bitLen (x / 2) = p at a b
      omega
theorem pow2_spec (n : Int) (h1 : 8 ≤ n) (h2 : n ≤ 1000000) : ∃ y, D.slices_nextPowerOfTwo n = some y ∧ n < y ∧ y ≤ 2 * n := by
  obtain ⟨m, rfl⟩ : ∃ m : Nat, n = (m : Int) := ⟨n.toNat, by omega⟩
  obtain ⟨k1, k2⟩ := bitLen_spec m (by omega) (by omega)
  have hb : Lib.bitLen m < 22 := by
    apply Classical.byContradiction
    intro hc
    have : 2 ^ 22 ≤ 2 ^ Lib.bitLen m := Nat.pow_le_pow_right (by omega) (by omega)
    omega
  unfold D.slices_nextPowerOfTwo
  rw [wu64 (by omega) (by omega)]
  unfold D.math_bits_Len
  rw [if_pos (by omega), Option.bind_some]
  have : decide (((Lib.bitLen m : Nat) : Int) < 0) = false := by simp
  rw [Int.toNat_natCast, this, cond_false]
  have e : ishl .u64 1 ((Lib.bitLen m : Nat) : Int) = ((2 ^ Lib.bitLen m : Nat) : Int) := by
    show IntKind.u64.wrap (1 * 2 ^ (min (((Lib.bitLen m : Nat) : Int)).toNat 64)) = _
    rw [Int.toNat_natCast, show min (Lib.bitLen m) 64 = Lib.bitLen m by omega, Int.one_mul]
    have e' : ((2 ^ Lib.bitLen m : Nat) : Int) = (2 : Int) ^ Lib.bitLen m := by simp
    rw [← e', wu64 (by omega) (by omega)]
  rw [e]
  exact ⟨_, rfl, by omega, by omega⟩

theorem breakPatterns_spec (l0 : List α) (a b : Int) (ha : 0 ≤ a) (hb : b ≤ l0.length) (h8 : 8 ≤ b - a) (hlen : l0.length ≤ 1000000) :
    ∃ l', DG.breakPatterns Srtd.cmp l0 a b = some l' ∧ Rg a b l0 l' := by
  unfold DG.breakPatterns
  rw [w64 (show -9223372036854775808 ≤ b - a by omega) (by omega)]
  have e4 : (b - a).tdiv 4 = (b - a) / 4 := Int.tdiv_eq_ediv_of_nonneg (by omega)
  rw [e4, w64 (show -9223372036854775808 ≤ (b - a) / 4 by omega) (by omega)]
  rw [w64 (show -9223372036854775808 ≤ (b - a) / 4 * 2 by omega) (by omega)]
  rw [w64 (show -9223372036854775808 ≤ a + (b - a) / 4 * 2 by omega) (by omega)]
  rw [w64 (show -9223372036854775808 ≤ a + (b - a) / 4 * 2 + 1 by omega) (by omega), w64 (show -9223372036854775808 ≤ a + (b - a) / 4 * 2 - 1 by omega) (by omega)]
  simp only [h8, decide_true, cond_true]
  obtain ⟨y, hy, g1, g2⟩ := pow2_spec (b - a) h8 (by omega)
  rw [hy, Option.bind_some, wu64 (show 0 ≤ y - 1 by omega) (by omega)]
  refine loop_then (fun s => Rg a b l0 s.1 ∧ a + (b - a) / 4 * 2 - 1 ≤ s.2.1 ∧ s.2.1 ≤ a + (b - a) / 4 * 2 + 2) (fun s => (a + (b - a) / 4 * 2 + 2 - s.2.1).toNat) (fun r => Rg a b l0 r) ?_ ?_ ?_
  · rintro ⟨l, i, z⟩ ⟨hR, k1, k2⟩
    dsimp only at hR k1 k2 ⊢
    have hll := hR.len
    by_cases hi : i ≤ a + (b - a) / 4 * 2 + 1
    · simp only [hi, decide_true, cond_true, D.slices_xorshift_Next, Option.bind_some]
      obtain ⟨t1, t2⟩ := iand_small (ixor .u64 (ixor .u64 (ixor .u64 z (ishl .u64 z 13)) (ishr .u64 (ixor .u64 z (ishl .u64 z 13)) 7)) (ishl .u64 (ixor .u64 (ixor .u64 z (ishl .u64 z 13)) (ishr .u64 (ixor .u64 z (ishl .u64 z 13)) 7)) 17)) (y - 1) (by omega) (by omega)
      revert t1 t2
      generalize iand .u64 (ixor .u64 (ixor .u64 (ixor .u64 z (ishl .u64 z 13)) (ishr .u64 (ixor .u64 z (ishl .u64 z 13)) 7)) (ishl .u64 (ixor .u64 (ixor .u64 z (ishl .u64 z 13)) (ishr .u64 (ixor .u64 z (ishl .u64 z 13)) 7)) 17)) (y - 1) = t
      generalize (ixor .u64 (ixor .u64 (ixor .u64 z (ishl .u64 z 13)) (ishr .u64 (ixor .u64 z (ishl .u64 z 13)) 7)) (ishl .u64 (ixor .u64 (ixor .u64 z (ishl .u64 z 13)) (ishr .u64 (ixor .u64 z (ishl .u64 z 13)) 7)) 17)) = z'
      intro t1 t2
      rw [w64 (show -9223372036854775808 ≤ t by omega) (by omega), w64 (show -9223372036854775808 ≤ t - (b - a) by omega) (by omega)]
      have hc : ∃ o, (bif decide (b - a ≤ t) then some (t - (b - a)) else some t) = some o ∧ 0 ≤ o ∧ o < b - a := by
        by_cases h : b - a ≤ t
        · exact ⟨t - (b - a), by simp [h], by omega, by omega⟩
        · exact ⟨t, by simp [h], by omega, by omega⟩
      obtain ⟨o, ho, o1, o2⟩ := hc
      rw [ho, Option.bind_some, w64 (show -9223372036854775808 ≤ a + o by omega) (by omega), w64 (show -9223372036854775808 ≤ i + 1 by omega) (by omega)]
      have r1 : idx l i = some (el l i) := idx_at (by omega) (by omega)
      have r2 : idx l (a + o) = some (el l (a + o)) := idx_at (by omega) (by omega)
      have r3 : ∀ x, idx (l.set i.toNat x) (a + o) = some (el (l.set i.toNat x) (a + o)) := fun x => idx_set_at (by omega) (by omega)
      refine ⟨.inl (sw l i (a + o), i + 1, z'), ?_, ⟨hR.trans (Rg.swap ha (by omega) (by omega) (by omega) (by omega) (by omega)), by dsimp only; omega, by dsimp only; omega⟩, by dsimp only; omega⟩
      simp only [r1, r2, r3, Option.bind_some]
      rfl
    · exact ⟨.inr l, by simp only [hi, decide_false, cond_false], hR⟩
  · exact ⟨Rg.refl _ _ _, by dsimp only; omega, by dsimp only; omega⟩
  · rintro r hr
    exact ⟨r, rfl, hr⟩
end Go.Sx.Gs

/- Heap sort. Plain. -/
namespace Go.Sx.Gs
variable {α : Type} [Srtd α]
def kid (i c : Int) : Prop := c = 2 * i + 1 ∨ c = 2 * i + 2
theorem siftDown_spec (l0 : List α) (hG : Good l0) (lo hi f : Int) (h0 : 0 ≤ lo) (hf : 0 ≤ f) (hlh : lo ≤ hi) (hb : f + hi ≤ l0.length) (hlen : l0.length ≤ 1000000)
    (hH : ∀ i c, lo < i → kid i c → c < hi → at' l0 (f + c) ≤ at' l0 (f + i)) :
    ∃ l', DG.siftDown Srtd.cmp l0 lo hi f = some l' ∧ Rg (f + lo) (f + hi) l0 l' ∧ ∀ i c, lo ≤ i → kid i c → c < hi → at' l' (f + c) ≤ at' l' (f + i) := by
  unfold DG.siftDown
  refine loop_then (fun s => Rg (f + lo) (f + hi) l0 s.1 ∧ lo ≤ s.2 ∧ s.2 ≤ hi ∧ (∀ i c, lo ≤ i → i ≠ s.2 → kid i c → c < hi → at' s.1 (f + c) ≤ at' s.1 (f + i)) ∧ (∀ p c, lo ≤ p → kid p s.2 → kid s.2 c → c < hi → at' s.1 (f + c) ≤ at' s.1 (f + p)))
    (fun s => (hi - s.2).toNat)
    (fun r => match r with | .inl l' => Rg (f + lo) (f + hi) l0 l' ∧ ∀ i c, lo ≤ i → kid i c → c < hi → at' l' (f + c) ≤ at' l' (f + i) | .inr l' => Rg (f + lo) (f + hi) l0 l' ∧ ∀ i c, lo ≤ i → kid i c → c < hi → at' l' (f + c) ≤ at' l' (f + i)) ?_
    ⟨Rg.refl _ _ _, Int.le_refl _, hlh, fun i c h1 h2 h3 h4 => hH i c (by dsimp only at h2; omega) h3 h4, fun p c h1 h2 h3 h4 => by unfold kid at h2; dsimp only at h2; omega⟩ ?_
  · rintro ⟨l, r⟩ ⟨hR, g1, g2, g3, g4⟩
    dsimp only at hR g1 g2 g3 g4 ⊢
    have hll := hR.len
    rw [w64 (show -9223372036854775808 ≤ 2 * r by omega) (by omega), w64 (show -9223372036854775808 ≤ 2 * r + 1 by omega) (by omega)]
    rw [w64 (show -9223372036854775808 ≤ 2 * r + 1 + 1 by omega) (by omega), w64 (show -9223372036854775808 ≤ f + (2 * r + 1) by omega) (by omega), w64 (show -9223372036854775808 ≤ f + (2 * r + 1) + 1 by omega) (by omega), w64 (show -9223372036854775808 ≤ f + r by omega) (by omega)]
    by_cases hc : hi ≤ 2 * r + 1
    · simp only [hc, decide_true, cond_true]
      refine ⟨_, rfl, hR, fun i c h1 h2 h3 => ?_⟩
      by_cases e : i = r
      · subst e; unfold kid at h2; omega
      · exact g3 i c h1 e h2 h3
    · simp only [hc, decide_false, cond_false]
      -- the greater child
      refine bind_then (fun b : Bool => (b = true → 2 * r + 2 < hi ∧ at' l (f + (2 * r + 1)) < at' l (f + (2 * r + 2))) ∧ (b = false → 2 * r + 2 < hi → at' l (f + (2 * r + 2)) ≤ at' l (f + (2 * r + 1)))) ?_ ?_
      · by_cases h2 : 2 * r + 1 + 1 < hi
        · have r1 : idx l (f + (2 * r + 1)) = some (el l (f + (2 * r + 1))) := idx_at (by omega) (by omega)
          have r2 : idx l (f + (2 * r + 1) + 1) = some (el l (f + (2 * r + 1) + 1)) := idx_at (by omega) (by omega)
          obtain ⟨v, cv, hv⟩ := cmp_at (hR.good hG) (i := f + (2 * r + 1)) (j := f + (2 * r + 1) + 1) (by omega) (by omega) (by omega) (by omega)
          simp only [h2, decide_true, cond_true, r1, r2, cv, hv, Option.bind_some]
          rw [show f + (2 * r + 1) + 1 = f + (2 * r + 2) by omega]
          refine ⟨_, rfl, fun h => ⟨by omega, of_decide_eq_true h⟩, fun h _ => ?_⟩
          have := of_decide_eq_false h
          omega
        · simp only [h2, decide_false, cond_false]
          exact ⟨_, rfl, (fun h => by cases h), (fun _ h => by omega)⟩
      · rintro b ⟨hbb, hbf⟩
        -- which child, and that it is the greater one
        have hch : ∃ c, (bif b then some (2 * r + 1 + 1) else some (2 * r + 1)) = some c ∧ (b = true → c = 2 * r + 2) ∧ (b = false → c = 2 * r + 1) := by
          cases b
          · exact ⟨2 * r + 1, rfl, by simp, by simp⟩
          · exact ⟨2 * r + 2, by simp; omega, by simp, by simp⟩
        obtain ⟨c, ec, c1, c2⟩ := hch
        have hkc : kid r c := by unfold kid; cases b <;> simp at c1 c2 <;> omega
        have hchi : c < hi := by
          cases b
          · have := c2 rfl; omega
          · have := c1 rfl; have := hbb rfl; omega
        rw [ec, Option.bind_some, w64 (show -9223372036854775808 ≤ f + c by unfold kid at hkc; omega) (by omega)]
        have hcr : r < c := by unfold kid at hkc; omega
        have t1 : idx l (f + r) = some (el l (f + r)) := idx_at (by omega) (by omega)
        have t2 : idx l (f + c) = some (el l (f + c)) := idx_at (by omega) (by omega)
        have t3 : ∀ x, idx (l.set (f + r).toNat x) (f + c) = some (el (l.set (f + r).toNat x) (f + c)) := fun x => idx_set_at (by omega) (by omega)
        obtain ⟨v, cv, hv⟩ := cmp_at (hR.good hG) (i := f + r) (j := f + c) (by omega) (by omega) (by omega) (by omega)
        have hbest : ∀ d, kid r d → d < hi → at' l (f + d) ≤ at' l (f + c) := fun d hd hdh => by
          cases b
          · have e := c2 rfl
            subst e
            rcases hd with rfl | rfl
            · exact Int.le_refl _
            · exact hbf rfl hdh
          · have e := c1 rfl
            subst e
            rcases hd with rfl | rfl
            · have := (hbb rfl).2; omega
            · exact Int.le_refl _
        by_cases hlt : at' l (f + r) < at' l (f + c)
        · refine ⟨.inl (sw l (f + r) (f + c), c), ?_, ⟨hR.trans (Rg.swap (by omega) (by omega) (by omega) (by omega) (by omega) (by omega)), by dsimp only; omega, by dsimp only; omega, fun i d h1 h2 h3 h4 => ?_, fun p d h1 h2 h3 h4 => ?_⟩, by dsimp only; omega⟩
          · simp only [t1, t2, t3, cv, hv, hlt, decide_true, Bool.not_true, cond_false, Option.bind_some]
            rfl
          · dsimp only at h2 ⊢
            have hd0 : i < d := by unfold kid at h3; omega
            rw [sw_at (by omega) (by omega) (by omega) (by omega) (by omega), sw_at (by omega) (by omega) (by omega) (by omega) (by omega)]
            rw [if_neg (show ¬ f + i = f + c by omega)]
            by_cases e : i = r
            · subst e
              rw [if_pos rfl]
              by_cases e2 : d = c
              · subst e2; rw [if_pos rfl]; omega
              · rw [if_neg (show ¬ f + d = f + c by omega), if_neg (show ¬ f + d = f + i by omega)]
                exact hbest d h3 h4
            · rw [if_neg (show ¬ f + i = f + r by omega)]
              have e2 : d ≠ c := fun e2 => by subst e2; unfold kid at h3 hkc; omega
              rw [if_neg (show ¬ f + d = f + c by omega)]
              by_cases e3 : d = r
              · subst e3
                rw [if_pos rfl]
                exact g4 i c h1 h3 hkc hchi
              · rw [if_neg (show ¬ f + d = f + r by omega)]
                exact g3 i d h1 e h3 h4
          · dsimp only at h2 h3 ⊢
            have e : p = r := by unfold kid at h2 hkc; omega
            subst e
            have hd0 : c < d := by unfold kid at h3; omega
            rw [sw_at (by omega) (by omega) (by omega) (by omega) (by omega), sw_at (by omega) (by omega) (by omega) (by omega) (by omega)]
            rw [if_neg (show ¬ f + d = f + c by omega), if_neg (show ¬ f + d = f + p by omega), if_neg (show ¬ f + p = f + c by omega), if_pos rfl]
            exact g3 c d (by omega) (by omega) h3 h4
        · refine ⟨.inr (.inr l), ?_, hR, fun i d h1 h2 h3 => ?_⟩
          · simp only [t1, t2, cv, hv, hlt, decide_false, Bool.not_false, cond_true, Option.bind_some]
          · by_cases e : i = r
            · subst e
              have := hbest d h2 h3
              omega
            · exact g3 i d h1 e h2 h3
  · rintro (l | l) h
    · exact ⟨_, rfl, h⟩
    · exact ⟨_, rfl, h⟩

/-- the root of a heap is its greatest -/
theorem heap_root {l : List α} {f hi : Int} (hH : ∀ i c, 0 ≤ i → kid i c → c < hi → at' l (f + c) ≤ at' l (f + i)) : ∀ (n : Nat) (k : Int), k.toNat ≤ n → 0 ≤ k → k < hi → at' l (f + k) ≤ at' l (f + 0) := by
  intro n
  induction n with
  | zero => intro k h1 h2 h3; rw [show k = 0 by omega]; exact Int.le_refl _
  | succ n ih =>
    intro k h1 h2 h3
    by_cases h : k = 0
    · subst h; exact Int.le_refl _
    · have hk : kid ((k - 1) / 2) k := by unfold kid; omega
      have a := hH ((k - 1) / 2) k (by omega) hk h3
      have b := ih ((k - 1) / 2) (by omega) (by omega) (by omega)
      omega

theorem heapSort_spec (l0 : List α) (hG : Good l0) (a b : Int) (ha : 0 ≤ a) (hab : a ≤ b) (hb : b ≤ l0.length) (hlen : l0.length ≤ 1000000) :
    ∃ l', DG.heapSort Srtd.cmp l0 a b = some l' ∧ Rg a b l0 l' ∧ Srt l' a b := by
  unfold DG.heapSort
  rw [w64 (show -9223372036854775808 ≤ b - a by omega) (by omega), w64 (show -9223372036854775808 ≤ b - a - 1 by omega) (by omega)]
  have e2 : -1 ≤ (b - a - 1).tdiv 2 ∧ (b - a - 1).tdiv 2 ≤ b - a ∧ b - a ≤ 2 * (b - a - 1).tdiv 2 + 2 := by
    by_cases h : 1 ≤ b - a
    · rw [Int.tdiv_eq_ediv_of_nonneg (by omega)]; omega
    · have : b - a - 1 = -1 := by omega
      have e : (-1 : Int).tdiv 2 = 0 := by decide
      rw [this, e]; omega
  rw [w64 (show -9223372036854775808 ≤ (b - a - 1).tdiv 2 by omega) (by omega)]
  generalize (b - a - 1).tdiv 2 = st at e2
  refine loop_then (fun s => Rg a b l0 s.1 ∧ -1 ≤ s.2 ∧ s.2 ≤ b - a ∧ ∀ i c, s.2 < i → kid i c → c < b - a → at' s.1 (a + c) ≤ at' s.1 (a + i)) (fun s => (s.2 + 1).toNat)
    (fun r => Rg a b l0 r ∧ ∀ i c, 0 ≤ i → kid i c → c < b - a → at' r (a + c) ≤ at' r (a + i)) ?_ ⟨Rg.refl _ _ _, by dsimp only; omega, by dsimp only; omega, fun i c h1 h2 h3 => by unfold kid at h2; dsimp only at h1; omega⟩ ?_
  · rintro ⟨l, i⟩ ⟨hR, g1, g2, g3⟩
    dsimp only at hR g1 g2 g3 ⊢
    have hll := hR.len
    by_cases hi : 0 ≤ i
    · simp only [hi, decide_true, cond_true]
      obtain ⟨l', e, r1, r2⟩ := siftDown_spec l (hR.good hG) i (b - a) a hi ha (by omega) (by omega) (by omega) g3
      rw [e, Option.bind_some, w64 (show -9223372036854775808 ≤ i - 1 by omega) (by omega)]
      exact ⟨_, rfl, ⟨hR.trans (r1.widen (by omega) (by omega) ha), by dsimp only; omega, by dsimp only; omega, fun p c h1 h2 h3 => r2 p c (by dsimp only at h1; omega) h2 h3⟩, by dsimp only; omega⟩
    · simp only [hi, decide_false, cond_false]
      exact ⟨_, rfl, hR, fun p c h1 h2 h3 => g3 p c (by omega) h2 h3⟩
  · rintro l1 ⟨hR1, hH1⟩
    refine loop_then (fun s => Rg a b l0 s.1 ∧ -1 ≤ s.2 ∧ s.2 < b - a ∧ (∀ i c, 0 ≤ i → kid i c → c ≤ s.2 → at' s.1 (a + c) ≤ at' s.1 (a + i)) ∧ (∀ p q, s.2 < p → p < q → q < b - a → at' s.1 (a + p) ≤ at' s.1 (a + q)) ∧ (∀ p q, 0 ≤ p → p ≤ s.2 → s.2 < q → q < b - a → at' s.1 (a + p) ≤ at' s.1 (a + q))) (fun s => (s.2 + 1).toNat)
      (fun r => Rg a b l0 r ∧ Srt r a b) ?_ ⟨hR1, by dsimp only; omega, by dsimp only; omega, fun i c h1 h2 h3 => hH1 i c h1 h2 (by dsimp only at h3; omega), fun p q h1 h2 h3 => by dsimp only at h1; omega, fun p q h1 h2 h3 h4 => by dsimp only at h3; omega⟩ (fun r hr => ⟨r, rfl, hr⟩)
    rintro ⟨l, i⟩ ⟨hR, g1, g2, g3, g4, g5⟩
    dsimp only at hR g1 g2 g3 g4 g5 ⊢
    have hll := hR.len
    by_cases hi : 0 ≤ i
    · rw [w64 (show -9223372036854775808 ≤ a + i by omega) (by omega)]
      have t1 : idx l a = some (el l a) := idx_at (by omega) (by omega)
      have t2 : idx l (a + i) = some (el l (a + i)) := idx_at (by omega) (by omega)
      have t3 : ∀ x, idx (l.set a.toNat x) (a + i) = some (el (l.set a.toNat x) (a + i)) := fun x => idx_set_at (by omega) (by omega)
      simp only [hi, decide_true, cond_true, t1, t2, t3, Option.bind_some]
      rw [show (l.set a.toNat (el l (a + i))).set (a + i).toNat (el l a) = sw l a (a + i) from rfl]
      have hRs : Rg a (a + (i + 1)) l (sw l a (a + i)) := Rg.swap ha (by omega) (by omega) (by omega) (by omega) (by omega)
      have sat : ∀ k, 0 ≤ k → at' (sw l a (a + i)) (a + k) = if k = i then at' l a else if k = 0 then at' l (a + i) else at' l (a + k) := fun k hk => by
        rw [sw_at (by omega) (by omega) (by omega) (by omega) (by omega)]
        by_cases c1 : k = i
        · subst c1; simp
        · rw [if_neg (show ¬ a + k = a + i by omega), if_neg c1]
          by_cases c2 : k = 0
          · subst c2; simp
          · rw [if_neg (show ¬ a + k = a by omega), if_neg c2]
      have hroot : ∀ k, 0 ≤ k → k ≤ i → at' l (a + k) ≤ at' l a := fun k k1 k2 => by
        have := heap_root (hi := i + 1) (fun p c h1 h2 h3 => g3 p c h1 h2 (by omega)) k.toNat k (Nat.le_refl _) k1 (by omega)
        rwa [Int.add_zero] at this
      have hsl : (sw l a (a + i)).length = l.length := sw_len _ _ _
      obtain ⟨l', e, r1, r2⟩ := siftDown_spec (sw l a (a + i)) (hRs.good (hR.good hG)) 0 i a (Int.le_refl _) ha hi (by omega) (by omega) (fun p c h1 h2 h3 => by
        have hc : p < c := by unfold kid at h2; omega
        rw [sat c (by omega), sat p (by omega), if_neg (by omega), if_neg (by omega), if_neg (by omega), if_neg (by omega)]
        exact g3 p c (by omega) h2 (by omega))
      rw [e, Option.bind_some, w64 (show -9223372036854775808 ≤ i - 1 by omega) (by omega)]
      rw [Int.add_zero] at r1
      have same : ∀ k, i ≤ k → at' l' (a + k) = at' (sw l a (a + i)) (a + k) := fun k hk => r1.out (a + k) (by omega) (.inr (by omega))
      have big : ∀ k, i < k → k < b - a → at' l' (a + k) = at' l (a + k) := fun k hk hk2 => by
        rw [same k (by omega), sat k (by omega), if_neg (by omega), if_neg (by omega)]
      have ati : at' l' (a + i) = at' l a := by rw [same i (Int.le_refl _), sat i hi, if_pos rfl]
      have low : ∀ Q : Int → Prop, (∀ k, 0 ≤ k → k ≤ i → Q (at' l (a + k))) → ∀ k, 0 ≤ k → k < i → Q (at' l' (a + k)) := fun Q hQ k k1 k2 =>
        r1.all Q (fun m m1 m2 => by
          have h1 := sat (m - a) (by omega)
          rw [show a + (m - a) = m by omega] at h1
          rw [h1]
          split
          · have := hQ 0 (by omega) hi; rwa [Int.add_zero] at this
          · split
            · exact hQ i hi (Int.le_refl _)
            · have := hQ (m - a) (by omega) (by omega); rwa [show a + (m - a) = m by omega] at this) (a + k) (by omega) (by omega)
      refine ⟨_, rfl, ⟨hR.trans ((hRs.widen (Int.le_refl a) (by omega) ha).trans (r1.widen (Int.le_refl a) (by omega) ha)), by dsimp only; omega, by dsimp only; omega, fun p c h1 h2 h3 => ?_, fun p q h1 h2 h3 => ?_, fun p q h1 h2 h3 h4 => ?_⟩, by dsimp only; omega⟩
      · dsimp only at h3 ⊢; exact r2 p c h1 h2 (by omega)
      · dsimp only at h1 ⊢
        by_cases c1 : p = i
        · subst c1
          rw [ati, big q h2 h3]
          have := g5 0 q (Int.le_refl _) hi h2 h3
          rwa [Int.add_zero] at this
        · rw [big p (by omega) (by omega), big q (by omega) h3]
          exact g4 p q (by omega) h2 h3
      · dsimp only at h2 h3 ⊢
        by_cases c1 : q = i
        · subst c1
          rw [ati]
          exact low (fun x => x ≤ at' l a) hroot p h1 (by omega)
        · rw [big q (by omega) h4]
          exact low (fun x => x ≤ at' l (a + q)) (fun k k1 k2 => g5 k q k1 k2 (by omega) h4) p h1 (by omega)
    · simp only [hi, decide_false, cond_false]
      refine ⟨_, rfl, hR, fun p q h1 h2 h3 => ?_⟩
      have := g4 (p - a) (q - a) (by omega) (by omega) (by omega)
      rwa [show a + (p - a) = p by omega, show a + (q - a) = q by omega] at this
end Go.Sx.Gs

/- The sort itself. Plain. -/
namespace Go.Sx.Gs
variable {α : Type} [Srtd α]
/-- from a0 to b0 all pairs are in order, but for those from a to b -/
def Out (l : List α) (a0 b0 a b : Int) : Prop := ∀ i j, a0 ≤ i → i < j → j < b0 → ¬ (a ≤ i ∧ j < b) → at' l i ≤ at' l j

theorem Out.keep {a0 a b b0 : Int} {l l' : List α} (h : Rg a b l l') (h0 : 0 ≤ a0) (ha : a0 ≤ a) (hb : b ≤ b0) (c : Out l a0 b0 a b) : Out l' a0 b0 a b := by
  intro i j h1 h2 h3 h4
  by_cases hi : a ≤ i ∧ i < b
  · rw [h.out j (by omega) (by omega)]
    exact h.all (fun x => x ≤ at' l j) (fun k k1 k2 => c k j (by omega) (by omega) h3 (by omega)) i hi.1 hi.2
  · rw [h.out i (by omega) (by omega)]
    by_cases hj : a ≤ j ∧ j < b
    · exact h.all (fun x => at' l i ≤ x) (fun k k1 k2 => c i k (by omega) (by omega) (by omega) (by omega)) j hj.1 hj.2
    · rw [h.out j (by omega) (by omega)]; exact c i j h1 h2 h3 h4

theorem pdqsort_spec : ∀ (n : Nat) (l0 : List α) (a0 b0 lim : Int), 0 ≤ a0 → a0 ≤ b0 → b0 ≤ l0.length → l0.length ≤ 1000000 → Good l0 → 0 ≤ lim → lim ≤ 64 →
    (0 < a0 → ∀ k, a0 ≤ k → k < b0 → at' l0 (a0 - 1) ≤ at' l0 k) → b0 - a0 < n → ∃ l', DG.pdqsortR Srtd.cmp n l0 a0 b0 lim = some l' ∧ Rg a0 b0 l0 l' ∧ Srt l' a0 b0 := by
  intro n
  induction n with
  | zero => intro l0 a0 b0 lim h1 h2 h3 h4 hG h7 h8 h9 h10; omega
  | succ n ih =>
    intro l0 a0 b0 lim h1 h2 h3 h4 hG h7 h8 h9 h10
    unfold DG.pdqsortR
    refine loop_then (fun s => Rg a0 b0 l0 s.1 ∧ Out s.1 a0 b0 s.2.1 s.2.2.1 ∧ a0 ≤ s.2.1 ∧ s.2.1 ≤ s.2.2.1 ∧ s.2.2.1 ≤ b0 ∧ 0 ≤ s.2.2.2.1 ∧ s.2.2.2.1 ≤ 64 ∧ (0 < s.2.1 → ∀ k, s.2.1 ≤ k → k < s.2.2.1 → at' s.1 (s.2.1 - 1) ≤ at' s.1 k))
      (fun s => (s.2.2.1 - s.2.1).toNat) (fun r => Rg a0 b0 l0 r ∧ Srt r a0 b0) ?_ ?_ ?_
    · rintro ⟨l, a, b, lm, bal, par⟩ ⟨hR, hO, g1, g2, g3, g5, g6, g7⟩
      dsimp only at hR hO g1 g2 g3 g5 g6 g7 ⊢
      have hll := hR.len
      have fin : ∀ l', Rg a b l l' → Srt l' a b → Rg a0 b0 l0 l' ∧ Srt l' a0 b0 := fun l' hr hs =>
        ⟨hR.trans (hr.widen g1 g3 h1), fun i j k1 k2 k3 => by
          by_cases hc : a ≤ i ∧ j < b
          · exact hs i j hc.1 k2 hc.2
          · exact (hO.keep hr h1 g1 g3) i j k1 k2 k3 hc⟩
      rw [w64 (show -9223372036854775808 ≤ b - a by omega) (by omega)]
      by_cases hs : b - a ≤ 12
      · obtain ⟨l', e, r1, r2⟩ := insertionSort_spec l a b (by omega) g2 (by omega) (by omega) (hR.good hG)
        refine ⟨.inr l', ?_, fin l' r1 r2⟩
        simp only [hs, decide_true, cond_true, e, Option.bind_some]
      · simp only [hs, decide_false, cond_false]
        by_cases hlm : lm = 0
        · have hl0 : (lm == 0) = true := by simp [hlm]
          obtain ⟨l', e, r1, r2⟩ := heapSort_spec l (hR.good hG) a b (by omega) g2 (by omega) (by omega)
          refine ⟨.inr l', ?_, fin l' r1 r2⟩
          simp only [hl0, cond_true, e, Option.bind_some]
        have hl0 : (lm == 0) = false := by simp [hlm]
        simp only [hl0, cond_false]
        refine bind_then (fun q : List α × Int => Rg a b l q.1 ∧ 0 ≤ q.2 ∧ q.2 ≤ 64) ?_ ?_
        · cases bal
          · obtain ⟨l1, e, r1⟩ := breakPatterns_spec l a b (by omega) (by omega) (by omega) (by omega)
            refine ⟨(l1, lm - 1), ?_, r1, by dsimp only; omega, by dsimp only; omega⟩
            simp only [Bool.not_false, cond_true, e, Option.bind_some]
            rw [w64 (by omega) (by omega)]
          · exact ⟨(l, lm), rfl, Rg.refl _ _ _, by dsimp only; omega, by dsimp only; omega⟩
        rintro ⟨l1, lm1⟩ ⟨hr1, k2, k3⟩
        dsimp only at hr1 k2 k3 ⊢
        have hl1 := hr1.len
        obtain ⟨y, ey, c1, c2, c3⟩ := choosePivot_spec l1 ((hR.trans (hr1.widen g1 g3 h1)).good hG) a b (by omega) (by omega) (by omega) (by omega)
        rw [ey, Option.bind_some]
        refine bind_then (fun q : List α × Int × Int => Rg a b l q.1 ∧ a ≤ q.2.1 ∧ q.2.1 < b) ?_ ?_
        · cases (y.2.1 == 2)
          · exact ⟨_, rfl, by dsimp only; rw [c1]; exact hr1, c2, c3⟩
          · obtain ⟨l2, e2, r2⟩ := reverseRange_spec l1 a b (by omega) (by omega) (by omega) (by omega)
            rw [c1]
            simp only [cond_true, e2, Option.bind_some]
            rw [w64 (show -9223372036854775808 ≤ b - 1 by omega) (by omega), w64 (show -9223372036854775808 ≤ y.1 - a by omega) (by omega), w64 (show -9223372036854775808 ≤ b - 1 - (y.1 - a) by omega) (by omega)]
            exact ⟨_, rfl, hr1.trans r2, by dsimp only; omega, by dsimp only; omega⟩
        rintro ⟨l2, p, hint⟩ ⟨hr2, p1, p2⟩
        dsimp only at hr2 p1 p2 ⊢
        have hl2 := hr2.len
        refine bind_then (fun q : List α ⊕ List α => match q with | .inl q => Rg a b l q | .inr q => Rg a b l q ∧ Srt q a b) ?_ ?_
        · cases ((bal && par) && (hint == 1))
          · exact ⟨.inl l2, rfl, hr2⟩
          · obtain ⟨y2, e2, d1, d2⟩ := partialInsertion_spec l2 ((hR.trans (hr2.widen g1 g3 h1)).good hG) a b (by omega) (by omega) (by omega) (by omega) (fun ha k m1 m2 => by
              rw [hr2.out (a - 1) (by omega) (.inl (by omega))]
              exact hr2.all (fun x => at' l (a - 1) ≤ x) (g7 ha) k m1 m2)
            simp only [cond_true, e2, Option.bind_some]
            cases hy : y2.1
            · exact ⟨.inl y2.2, rfl, hr2.trans d1⟩
            · exact ⟨.inr y2.2, rfl, hr2.trans d1, d2 hy⟩
        rintro (q | q) hq
        case inr =>
          exact ⟨.inr q, rfl, fin q hq.1 hq.2⟩
        dsimp only at hq ⊢
        clear hr2 hl2
        have hr2 : Rg a b l q := hq
        have hl2 := hr2.len
        have hGq : Good q := (hR.trans (hr2.widen g1 g3 h1)).good hG
        have hO2 := hO.keep hr2 h1 g1 g3
        have g7' : 0 < a → ∀ k, a ≤ k → k < b → at' q (a - 1) ≤ at' q k := fun ha k m1 m2 => by
          rw [hr2.out (a - 1) (by omega) (.inl (by omega))]
          exact hr2.all (fun x => at' l (a - 1) ≤ x) (g7 ha) k m1 m2
        refine bind_then (fun c : Bool => c = true → 0 < a ∧ at' q p ≤ at' q (a - 1)) ?_ ?_
        · by_cases ha : 0 < a
          · have r1 : idx q (a - 1) = some (el q (a - 1)) := idx_at (by omega) (by omega)
            have r2 : idx q p = some (el q p) := idx_at (by omega) (by omega)
            rw [w64 (show -9223372036854775808 ≤ a - 1 by omega) (by omega)]
            obtain ⟨v, cv, hv⟩ := cmp_at hGq (i := a - 1) (j := p) (by omega) (by omega) (by omega) (by omega)
            simp only [ha, decide_true, cond_true, r1, r2, cv, hv, Option.bind_some]
            exact ⟨_, rfl, fun h => ⟨by trivial, by simpa using h⟩⟩
          · simp only [ha, decide_false, cond_false]
            exact ⟨_, rfl, fun h => by cases h⟩
        intro c hc
        cases c
        · -- the pivot parts
          simp only [cond_false]
          obtain ⟨⟨mid, par', l3⟩, e3, P⟩ := partition_spec q a b p (by omega) (by omega) (by omega) hGq p1 p2
          rw [e3, Option.bind_some]
          obtain ⟨hr3, m1, m2, m3, m4⟩ := P
          dsimp only at hr3 m1 m2 m3 m4 ⊢
          have hl3 := hr3.len
          have hO3 := hO2.keep hr3 h1 g1 g3
          have g7'' : 0 < a → ∀ k, a ≤ k → k < b → at' l3 (a - 1) ≤ at' l3 k := fun ha k n1 n2 => by
            rw [hr3.out (a - 1) (by omega) (.inl (by omega))]
            exact hr3.all (fun x => at' q (a - 1) ≤ x) (g7' ha) k n1 n2
          have hR3 : Rg a0 b0 l0 l3 := hR.trans ((hr2.trans hr3).widen g1 g3 h1)
          rw [w64 (show -9223372036854775808 ≤ mid - a by omega) (by omega), w64 (show -9223372036854775808 ≤ b - mid by omega) (by omega), w64 (show -9223372036854775808 ≤ mid + 1 by omega) (by omega)]
          by_cases hside : mid - a < b - mid
          · simp only [hside, decide_true, cond_true]
            obtain ⟨l4, e4, r4, s4⟩ := ih l3 a mid lm1 (by omega) m1 (by omega) (by omega) (hR3.good hG) k2 k3 (fun ha k n1 n2 => g7'' ha k n1 (by omega)) (by omega)
            rw [e4, Option.bind_some]
            have hl4 := r4.len
            have em : ∀ k, mid ≤ k → at' l4 k = at' l3 k := fun k hk => r4.out k (by omega) (.inr hk)
            have lf : ∀ k, a ≤ k → k < mid → at' l4 k ≤ at' l4 mid := fun k n1 n2 => by
              rw [em mid (Int.le_refl _)]; exact r4.all (fun x => x ≤ at' l3 mid) m3 k n1 n2
            refine ⟨.inl _, rfl, ⟨hR3.trans (r4.widen g1 (by omega) h1), ?_, by dsimp only; omega, by dsimp only; omega, g3, k2, k3, ?_⟩, by dsimp only; omega⟩
            · have hO4 := hO3.keep (r4.widen (Int.le_refl a) (by omega) (by omega)) h1 g1 g3
              intro i j n1 n2 n3 n4
              dsimp only at n4 ⊢
              by_cases hin : a ≤ i ∧ j < b
              · by_cases hj : j < mid
                · exact s4 i j hin.1 n2 hj
                · have hi : i ≤ mid := by omega
                  have e1 : at' l4 i ≤ at' l4 mid := by
                    by_cases e : i = mid
                    · rw [e]; exact Int.le_refl _
                    · exact lf i hin.1 (by omega)
                  have e2 : at' l4 mid ≤ at' l4 j := by
                    by_cases e : j = mid
                    · rw [e]; exact Int.le_refl _
                    · rw [em mid (Int.le_refl _), em j (by omega)]; exact m4 j (by omega) hin.2
                  omega
              · exact hO4 i j n1 n2 n3 hin
            · intro _ k n1 n2
              dsimp only at n1 n2 ⊢
              rw [show mid + 1 - 1 = mid by omega, em mid (Int.le_refl _), em k (by omega)]
              exact m4 k (by omega) n2
          · simp only [hside, decide_false, cond_false]
            obtain ⟨l4, e4, r4, s4⟩ := ih l3 (mid + 1) b lm1 (by omega) (by omega) (by omega) (by omega) (hR3.good hG) k2 k3 (fun _ k n1 n2 => by rw [show mid + 1 - 1 = mid by omega]; exact m4 k (by omega) n2) (by omega)
            rw [e4, Option.bind_some]
            have hl4 := r4.len
            have em : ∀ k, 0 ≤ k → k ≤ mid → at' l4 k = at' l3 k := fun k h0 hk => r4.out k h0 (.inl (by omega))
            have rt : ∀ k, mid < k → k < b → at' l4 mid ≤ at' l4 k := fun k n1 n2 => by
              rw [em mid (by omega) (Int.le_refl _)]; exact r4.all (fun x => at' l3 mid ≤ x) (fun k q1 q2 => m4 k (by omega) q2) k (by omega) n2
            refine ⟨.inl _, rfl, ⟨hR3.trans (r4.widen (by omega) g3 h1), ?_, g1, m1, by dsimp only; omega, k2, k3, ?_⟩, by dsimp only; omega⟩
            · have hO4 := hO3.keep (r4.widen (by omega) (Int.le_refl b) (by omega)) h1 g1 g3
              intro i j n1 n2 n3 n4
              dsimp only at n4 ⊢
              by_cases hin : a ≤ i ∧ j < b
              · by_cases hi : mid < i
                · exact s4 i j (by omega) n2 hin.2
                · have hj : mid ≤ j := by omega
                  have e1 : at' l4 i ≤ at' l4 mid := by
                    by_cases e : i = mid
                    · rw [e]; exact Int.le_refl _
                    · rw [em i (by omega) (by omega), em mid (by omega) (Int.le_refl _)]; exact m3 i hin.1 (by omega)
                  have e2 : at' l4 mid ≤ at' l4 j := by
                    by_cases e : j = mid
                    · rw [e]; exact Int.le_refl _
                    · exact rt j (by omega) hin.2
                  omega
              · exact hO4 i j n1 n2 n3 hin
            · intro ha k n1 n2
              dsimp only at ha n1 n2 ⊢
              rw [em (a - 1) (by omega) (by omega), em k (by omega) (by omega)]
              exact g7'' ha k n1 (by omega)
        · -- many are equal to the pivot
          simp only [cond_true]
          obtain ⟨hc1, hc2⟩ := hc rfl
          obtain ⟨⟨mid, l3⟩, e3, hr3, m1, m2, m3, m4⟩ := partitionEqual_spec q a b p (by omega) (by omega) (by omega) hGq p1 p2
          rw [e3, Option.bind_some]
          dsimp only at hr3 m1 m2 m3 m4 ⊢
          have hl3 := hr3.len
          have hO3 := hO2.keep hr3 h1 g1 g3
          have lw : ∀ k, a ≤ k → k < b → at' q p ≤ at' l3 k := fun k n1 n2 =>
            hr3.all (fun x => at' q p ≤ x) (fun k q1 q2 => Int.le_trans hc2 (g7' hc1 k q1 q2)) k n1 n2
          refine ⟨.inl _, rfl, ⟨hR.trans ((hr2.trans hr3).widen g1 g3 h1), ?_, by dsimp only; omega, m2, g3, k2, k3, ?_⟩, by dsimp only; omega⟩
          · intro i j n1 n2 n3 n4
            dsimp only at n4 ⊢
            by_cases hin : a ≤ i ∧ j < b
            · have := m3 i hin.1 (by omega)
              have := lw j (by omega) hin.2
              omega
            · exact hO3 i j n1 n2 n3 hin
          · intro _ k n1 n2
            dsimp only at n1 n2 ⊢
            have := m3 (mid - 1) (by omega) (by omega)
            have := m4 k n1 n2
            omega
    · exact ⟨Rg.refl _ _ _, fun i j n1 n2 n3 n4 => by dsimp only at n4; omega, Int.le_refl _, h2, Int.le_refl _, h7, h8, h9⟩
    · rintro r hr
      exact ⟨r, rfl, hr⟩

theorem sort_spec (l : List α) (hG : Good l) (hlen : l.length ≤ 1000000) : ∃ l', DG.Sort Srtd.cmp l = some l' ∧ List.Perm l' l ∧ Srt l' 0 l'.length := by
  unfold DG.Sort
  rw [wu64 (by omega) (by omega)]
  unfold D.math_bits_Len
  rw [if_pos (by omega), Option.bind_some]
  have hb : Lib.bitLen l.length ≤ 64 := by
    by_cases h : 1 ≤ l.length
    · obtain ⟨_, k2⟩ := bitLen_spec l.length h (by omega)
      apply Classical.byContradiction
      intro hc
      have : 2 ^ 22 ≤ 2 ^ Lib.bitLen l.length := Nat.pow_le_pow_right (by omega) (by omega)
      omega
    · have : l.length = 0 := by omega
      rw [this]; decide
  have hf := recFuel_big
  obtain ⟨l', e, r, s⟩ := pdqsort_spec recFuel l 0 (l.length : Int) ((Lib.bitLen l.length : Nat) : Int) (Int.le_refl _) (by omega) (Int.le_refl _) (by omega) hG (by omega) (by omega) (fun h => by omega) (by omega)
  unfold DG.pdqsort
  rw [Int.toNat_natCast, e]
  refine ⟨l', rfl, r.perm, ?_⟩
  rw [r.len]; exact s
end Go.Sx.Gs

/- The sort of rows that carry their headers is the sort by any comparison; it sorts links. Plain, in part made by program. -/
namespace Go.Sx
theorem st_insertionSort : D.slices_insertionSortCmpFunc_int64__slices_Compare_int64_int64 = DG.insertionSort (fun a b : Value × List Int => D.slices_Compare_int64_int64 a.2 b.2) := by kernel_rfl
theorem st_heapSort : D.slices_heapSortCmpFunc_int64__slices_Compare_int64_int64 = DG.heapSort (fun a b : Value × List Int => D.slices_Compare_int64_int64 a.2 b.2) := by kernel_rfl
theorem st_breakPatterns : D.slices_breakPatternsCmpFunc_int64__slices_Compare_int64_int64 = DG.breakPatterns (fun a b : Value × List Int => D.slices_Compare_int64_int64 a.2 b.2) := by kernel_rfl
theorem st_choosePivot : D.slices_choosePivotCmpFunc_int64__slices_Compare_int64_int64 = DG.choosePivot (fun a b : Value × List Int => D.slices_Compare_int64_int64 a.2 b.2) := by kernel_rfl
theorem st_reverseRange : D.slices_reverseRangeCmpFunc_int64__slices_Compare_int64_int64 = DG.reverseRange (fun a b : Value × List Int => D.slices_Compare_int64_int64 a.2 b.2) := by kernel_rfl
theorem st_partialInsertionSort : D.slices_partialInsertionSortCmpFunc_int64__slices_Compare_int64_int64 = DG.partialInsertionSort (fun a b : Value × List Int => D.slices_Compare_int64_int64 a.2 b.2) := by kernel_rfl
theorem st_partitionEqual : D.slices_partitionEqualCmpFunc_int64__slices_Compare_int64_int64 = DG.partitionEqual (fun a b : Value × List Int => D.slices_Compare_int64_int64 a.2 b.2) := by kernel_rfl
theorem st_partition : D.slices_partitionCmpFunc_int64__slices_Compare_int64_int64 = DG.partition (fun a b : Value × List Int => D.slices_Compare_int64_int64 a.2 b.2) := by kernel_rfl
theorem st_pdqsort : ∀ (n : Nat) x a b c, D.slices_pdqsortCmpFunc_int64__slices_Compare_int64_int64R n x a b c = DG.pdqsortR (fun a b : Value × List Int => D.slices_Compare_int64_int64 a.2 b.2) n x a b c
  | 0, _, _, _, _ => rfl
  | n + 1, x, a, b, c => by
    unfold D.slices_pdqsortCmpFunc_int64__slices_Compare_int64_int64R DG.pdqsortR
    rw [st_insertionSort, st_heapSort, st_breakPatterns, st_choosePivot, st_reverseRange, st_partialInsertionSort, st_partitionEqual, st_partition, funext (fun x => funext fun a => funext fun b => funext fun c => st_pdqsort n x a b c)]
    kernel_rfl
theorem st_Sort (x) : D.slices_SortFunc_int64_int64__slices_Compare_int64_int64 x = DG.Sort (fun a b : Value × List Int => D.slices_Compare_int64_int64 a.2 b.2) x := by
  unfold D.slices_SortFunc_int64_int64__slices_Compare_int64_int64 DG.Sort D.slices_pdqsortCmpFunc_int64__slices_Compare_int64_int64 DG.pdqsort
  simp only [st_pdqsort]

theorem isNaN_no (x : Int) : D.cmp_isNaN_int64 x = some false := by unfold D.cmp_isNaN_int64; simp
theorem cmp64 (x y : Int) : D.cmp_Compare_int64 x y = some (if x < y then -1 else if y < x then 1 else 0) := by
  unfold D.cmp_Compare_int64
  simp only [isNaN_no, Option.bind_some, cond_false]
  by_cases h : x < y
  · simp [h]
  · by_cases h' : y < x
    · simp [h, h']
    · simp [h, h']
theorem list2 {l : List Int} (h : l.length = 2) : ∃ a b, l = [a, b] := by
  match l, h with
  | [a, b], _ => exact ⟨a, b, rfl⟩
theorem compare2 (a b c d : Int) : D.slices_Compare_int64_int64 [a, b] [c, d] = some (if a < c then -1 else if c < a then 1 else if b < d then -1 else if d < b then 1 else 0) := by
  unfold D.slices_Compare_int64_int64
  have i0 : ∀ x y : Int, idx [x, y] 0 = some x := fun x y => by unfold idx; simp
  have i1 : ∀ x y : Int, idx [x, y] 1 = some y := fun x y => by unfold idx; simp
  have w1 : IntKind.i64.wrap 1 = 1 := by decide
  have w2 : IntKind.i64.wrap 2 = 2 := by decide
  by_cases h1 : a < c
  · rw [loopF_done (r := .inr (-1)) (by simp [i0, cmp64, h1])]; simp [h1]
  · by_cases h2 : c < a
    · rw [loopF_done (r := .inr 1) (by simp [i0, cmp64, h1, h2])]; simp [h1, h2]
    · rw [loopF_more (s' := 1) (by simp [i0, cmp64, h1, h2, w1])]
      by_cases h3 : b < d
      · rw [loopF_done (r := .inr (-1)) (by simp [i1, cmp64, h3])]; simp [h1, h2, h3]
      · by_cases h4 : d < b
        · rw [loopF_done (r := .inr 1) (by simp [i1, cmp64, h3, h4])]; simp [h1, h2, h3, h4]
        · rw [loopF_more (s' := 2) (by simp [i1, cmp64, h3, h4, w2]), loopF_done (r := .inl ()) (by simp)]; simp [h1, h2, h3, h4]

noncomputable abbrev byRow : Gs.Srtd (Value × List Int) where
  dflt := (.bool false, [])
  key := fun z => rowKey z.2
  good := fun z => rowGood z.2
  cmp := fun a b => D.slices_Compare_int64_int64 a.2 b.2
  law := by
    rintro ⟨v, x⟩ ⟨u, y⟩ ⟨h1, h2, h3, h4, h5⟩ ⟨k1, k2, k3, k4, k5⟩
    obtain ⟨a, b, rfl⟩ := list2 h1
    obtain ⟨c, d, rfl⟩ := list2 k1
    refine ⟨_, compare2 a b c d, ?_⟩
    simp only [List.getD_cons_zero, List.getD_cons_succ] at *
    rw [decide_eq_decide]
    unfold rowKey
    simp only [List.getD_cons_zero, List.getD_cons_succ]
    repeat' split
    all_goals constructor <;> intro _ <;> omega

theorem row_inj {x y : List Int} (hx : rowGood x) (hy : rowGood y) (h : rowKey x = rowKey y) : x = y := by
  obtain ⟨h1, h2, h3, h4, h5⟩ := hx
  obtain ⟨k1, k2, k3, k4, k5⟩ := hy
  obtain ⟨a, b, rfl⟩ := list2 h1
  obtain ⟨c, d, rfl⟩ := list2 k1
  unfold rowKey at h
  simp only [List.getD_cons_zero, List.getD_cons_succ] at *
  have : a = c := by omega
  subst this
  have : b = d := by omega
  subst this
  rfl
/-- what is sorted and has the same links is the same -/
theorem sorted_eq {xs ys : List (List Int)} (hp : xs.Perm ys) (hg : ∀ x ∈ ys, rowGood x) (h1 : xs.Pairwise (fun a b => rowKey a ≤ rowKey b)) (h2 : ys.Pairwise (fun a b => rowKey a ≤ rowKey b)) : xs = ys := by
  refine hp.eq_of_pairwise (fun a b ha hb k1 k2 => ?_) h1 h2
  exact row_inj (hg a (hp.mem_iff.1 ha)) (hg b hb) (by omega)
theorem mergeKey_perm (xs : List (List Int)) : (xs.mergeSort keyLe).Perm xs := List.mergeSort_perm _ _
theorem mergeKey_sorted (xs : List (List Int)) : (xs.mergeSort keyLe).Pairwise (fun a b => rowKey a ≤ rowKey b) := by
  have := List.pairwise_mergeSort (le := keyLe) (fun a b c => by unfold keyLe; simp only [decide_eq_true_eq]; omega) (fun a b => by unfold keyLe; rw [Bool.or_eq_true, decide_eq_true_eq, decide_eq_true_eq]; omega) xs
  exact this.imp (fun h => by unfold keyLe at h; exact of_decide_eq_true h)
theorem sortTag_slices_SortFunc_int64_int64__slices_Compare_int64_int64 {xs ys : List (List Int)} (h : sortRows xs = some ys) {Z : List (Value × List Int)} (hZ : Z.map (·.2) = xs) :
    ∃ zs, D.slices_SortFunc_int64_int64__slices_Compare_int64_int64 Z = some zs ∧ zs.Perm Z ∧ zs.map (·.2) = ys := by
  unfold sortRows at h
  split at h
  · rename_i hc
    obtain rfl := Option.some.inj h
    obtain ⟨hl, hg⟩ := hc
    have hgZ : ∀ z ∈ Z, rowGood z.2 := fun z hz => hg _ (by rw [← hZ]; exact List.mem_map.2 ⟨z, hz, rfl⟩)
    obtain ⟨zs, e, hp, hs⟩ := @Gs.sort_spec (Value × List Int) byRow Z hgZ (by rw [← hZ] at hl; simpa using hl)
    refine ⟨zs, by rw [st_Sort]; exact e, hp, ?_⟩
    refine sorted_eq (((hp.map (·.2)).trans (by rw [hZ])).trans (mergeKey_perm xs).symm) (fun x hx => hg x ((mergeKey_perm xs).mem_iff.1 hx)) ?_ (mergeKey_sorted xs)
    rw [List.pairwise_iff_getElem]
    intro i j hi hj hij
    have := hs i j (by omega) (by omega) (by simp at hj; omega)
    simp only [List.length_map] at hi hj
    unfold Gs.at' Gs.el at this
    simp only [Int.toNat_natCast, List.getD_eq_getElem?_getD, List.getElem?_eq_getElem hi, List.getElem?_eq_getElem hj, Option.getD_some] at this
    have e : rowKey zs[i].2 ≤ rowKey zs[j].2 := this
    simpa using e
  · cases h
end Go.Sx

set_option maxRecDepth 100000
namespace Go.Proofs.YtebbefpdncgoiaaGreatDoor
open Go Go.Sx
theorem Follows : Tryz.prog.follows .mixedOrders = true := by kernel_rfl
theorem Pl2 : Plain Tryz.prog 2 := Tryz.isAgg2
theorem T42 : SlT Tryz.prog 42 2 1 8 (.int .i64 0) := ⟨Tryz.underlying42, Tryz.t2, by kernel_rfl, by kernel_rfl, by kernel_rfl, by kernel_rfl⟩
theorem Pl5 : Plain Tryz.prog 5 := Tryz.isAgg5
theorem T22 : SlT Tryz.prog 22 42 1 24 (.slice none 0 0) := ⟨Tryz.underlying22, Tryz.t42, by kernel_rfl, by kernel_rfl, by kernel_rfl, by kernel_rfl⟩
theorem Pl190 : Plain Tryz.prog 190 := Tryz.isAgg190
theorem T71 : SlT Tryz.prog 71 76 1 4 (.int .u32 0) := ⟨Tryz.underlying71, Tryz.t76, by kernel_rfl, by kernel_rfl, by kernel_rfl, by kernel_rfl⟩
theorem Pl3 : Plain Tryz.prog 3 := Tryz.isAgg3
theorem T94 : SlT Tryz.prog 94 3 1 8 (.int .i64 0) := ⟨Tryz.underlying94, Tryz.t3, by kernel_rfl, by kernel_rfl, by kernel_rfl, by kernel_rfl⟩

theorem Wk.slices_Index_int64_int64 {W w : World} {G : GH} {H : List Itm} {v0 : Value} {x0 : (List Int)} {x1 : Int} (m : Mem W G w (H)) (h0 : RSl (RI .i64) G v0 x0) {y : Int} (hd : D.slices_Index_int64_int64 x0 x1 = some y) :
  Calls Tryz.prog 150 #[v0, (.int .i64 x1)] w (Res W G H (fun _ Ho v => Ho = [] ∧ v = (.int .i64 y))) := by
 refine calls_b (args := [v0, (.int .i64 x1)]) (N := 19) [.tmp 4] Tryz.func150 rfl rfl (Nat.le_of_ble_eq_true rfl) rfl fun a f => ?_
 unfold D.slices_Index_int64_int64 at hd
 refine k_seq (k_region ?_)
 refine l_as f rfl rfl fun a f => l_nil (k_seq (k_seq (k_region ?_)))
 refine l_mv f rfl rfl fun a f => l_len Tryz.underlying42 f rfl rfl h0 fun a f => l_mv f rfl rfl fun a f => l_nil ?_
 obtain ⟨aa, ab, hd⟩ := bind_some hd
 refine k_cut (fun a w => ∃ q_19' : Unit, aa = .inl q_19' ∧ ∃ (ac : GH), GLe G ac ∧ Fr a 19 [] ∧ Mem W ac w (H)) ?_ ?_
 ·refine k_block ?_
  refine k_loop (fun ad a w => ∃ ae : Int, ae = ad ∧ ∃ (af : GH), GLe G af ∧ Fr a 19 [(0, v0), (1, (.int .i64 x1)), (7, (.int .i64 (x0.length : Int))), (8, (.int .i64 ae))] ∧ Mem W af w (H)) ab ⟨_, rfl, _, (GLe.refl _), f.weak ⟨rfl, rfl, rfl, rfl, trivial⟩, m⟩ ?_
  clear ab f m
  rintro ad ag ah ai a w ⟨ae, rfl, af, aj, f, m⟩
  have h0 := rd1 aj h0
  refine k_seq (k_region ?_)
  refine l_in f rfl rfl rfl b_lss fun a f => l_nil (k_seq ?_)
  rcases cond_some ah with ⟨ak, ah⟩ | ⟨ak, ah⟩
  ·refine k_true f rfl ak ?_
   refine k_skip ?_
   refine k_seq (k_block (k_seq (k_region ?_)))
   refine l_mv f rfl rfl fun a f => l_as f rfl rfl fun a f => l_nil (k_seq (k_region ?_))
   refine l_mv f rfl rfl fun a f => l_mv f rfl rfl fun a f => l_mv f rfl rfl fun a f => ?_
   obtain ⟨al, am, ah⟩ := bind_some ah
   refine l_at T42 f rfl rfl rfl h0 am fun an ao a ap aq f => ?_
   subst aq
   refine l_loadAt m Pl2 f rfl rfl ap fun a f => l_in f rfl rfl rfl b_eql fun a f => l_nil ?_
   rcases cond_some ah with ⟨ar, ah⟩ | ⟨ar, ah⟩
   ·refine k_true f rfl ar ?_
    refine k_seq (k_region ?_)
    refine l_mv f rfl rfl fun a f => l_as f rfl rfl fun a f => l_nil ?_
    refine k_ret ?_
    obtain rfl := sj ah
    obtain rfl := ai _ rfl
    obtain rfl := sj hd
    exact ⟨[(.int .i64 ae)], ⟨f.get _ _ rfl, trivial⟩, f.defers, _, [], aj, m, rfl, rfl⟩
   ·refine k_false f rfl ar ?_
    refine k_skip ?_
    refine k_region ?_
    refine l_in f rfl rfl rfl b_add fun a f => l_mv f rfl rfl fun a f => l_nil ?_
    obtain rfl := sj ah
    exact ⟨_, rfl, _, rfl, _, aj, f.weak ⟨rfl, rfl, rfl, rfl, trivial⟩, m⟩
  ·refine k_false f rfl ak ?_
   refine k_exit rfl ?_
   obtain rfl := sj ah
   obtain rfl := ai _ rfl
   exact ⟨_, rfl, _, aj, f.weak trivial, m⟩
 ·rintro a w ⟨_, rfl, ac, au, f, m⟩
  refine k_seq (k_region ?_)
  refine l_as f rfl rfl fun a f => l_nil ?_
  refine k_ret ?_
  obtain rfl := sj hd
  exact ⟨[(.int .i64 (-1))], ⟨f.get _ _ rfl, trivial⟩, f.defers, _, [], au, m, rfl, rfl⟩

theorem Wk.slices_Contains_int64_int64 {W w : World} {G : GH} {H : List Itm} {v0 : Value} {x0 : (List Int)} {x1 : Int} (m : Mem W G w (H)) (h0 : RSl (RI .i64) G v0 x0) {y : Bool} (hd : D.slices_Contains_int64_int64 x0 x1 = some y) :
  Calls Tryz.prog 109 #[v0, (.int .i64 x1)] w (Res W G H (fun _ Ho v => Ho = [] ∧ v = (.bool y))) := by
 refine calls_b (args := [v0, (.int .i64 x1)]) (N := 9) [.tmp 4] Tryz.func109 rfl rfl (Nat.le_of_ble_eq_true rfl) rfl fun a f => ?_
 unfold D.slices_Contains_int64_int64 at hd
 refine k_seq (k_region ?_)
 refine l_as f rfl rfl fun a f => l_nil (k_seq (k_region ?_))
 refine l_mv f rfl rfl fun a f => l_mv f rfl rfl fun a f => ?_
 obtain ⟨aa, ab, hd⟩ := bind_some hd
 refine l_res f rfl rfl Tryz.call150 (Wk.slices_Index_int64_int64 m h0 ab) fun ac ad ae w af m ag a f => ?_
 obtain ⟨rfl, rfl⟩ := ag
 have h0 := rd1 af h0
 refine l_in f rfl rfl rfl b_geq fun a f => l_as f rfl rfl fun a f => l_nil ?_
 refine k_ret ?_
 obtain rfl := sj hd
 exact ⟨[(.bool (decide ((0 : Int) ≤ aa)))], ⟨f.get _ _ rfl, trivial⟩, f.defers, _, [], af, m, rfl, rfl⟩

theorem Wk.math_bits_TrailingZeros32 {W w : World} {G : GH} {H : List Itm} {x0 : Int} (hW : TabW W) (m : Mem W G w (H))  {y : Int} (hd : D.math_bits_TrailingZeros32 x0 = some y) :
  Calls Tryz.prog 179 #[(.int .u32 x0)] w (Res W G H (fun _ Ho v => Ho = [] ∧ v = (.int .i64 y))) := by
 refine calls_b (args := [(.int .u32 x0)]) (N := 14) [.tmp 2] Tryz.func179 rfl rfl (Nat.le_of_ble_eq_true rfl) rfl fun a f => ?_
 unfold D.math_bits_TrailingZeros32 at hd
 refine k_seq (k_region ?_)
 refine l_as f rfl rfl fun a f => l_nil (k_seq (k_seq (k_region ?_)))
 refine l_mv f rfl rfl fun a f => l_in f rfl rfl rfl b_eql fun a f => l_nil ?_
 rcases cond_some hd with ⟨aa, hd⟩ | ⟨aa, hd⟩
 ·refine k_true f rfl aa ?_
  refine k_seq (k_region ?_)
  refine l_as f rfl rfl fun a f => l_nil ?_
  refine k_ret ?_
  obtain rfl := sj hd
  exact ⟨[(.int .i64 32)], ⟨f.get _ _ rfl, trivial⟩, f.defers, _, [], (GLe.refl _), m, rfl, rfl⟩
 ·refine k_false f rfl aa ?_
  refine k_skip ?_
  refine k_seq (k_region ?_)
  refine l_mv f rfl rfl fun a f => l_mv f rfl rfl fun a f => l_op f rfl rfl rfl (r_neg (f.eval rfl)) fun a f => l_in f rfl rfl rfl b_and fun a f => l_in f rfl rfl rfl b_mul fun a f => l_op f rfl rfl rfl (r_shr (f.eval rfl) (f.eval rfl) (by decide)) fun a f => ?_
  obtain ⟨ab, ac, hd⟩ := bind_some hd
  refine l_tab hW m Tryz.underlying202 Tryz.sizeOf5 f rfl rfl ac fun ad a ae f => l_loadAt m Pl5 f rfl rfl ae fun a f => l_op f rfl rfl rfl (r_conv (f.eval rfl) ⟨_, Tryz.underlying5⟩ Tryz.underlying3) fun a f => l_as f rfl rfl fun a f => l_nil ?_
  refine k_ret ?_
  obtain rfl := sj hd
  exact ⟨[(.int .i64 (IntKind.i64.wrap ab))], ⟨f.get _ _ rfl, trivial⟩, f.defers, _, [], (GLe.refl _), m, rfl, rfl⟩

theorem Wk.slices_Clone2_int64_int64 {W w : World} {G : GH} {H : List Itm} {v0 : Value} {x0 : (List (List Int))} (m : Mem W G w (H)) (h0 : RSl (RSl (RI .i64)) G v0 x0) {y : ((List (List Int)))} (hd : D.slices_Clone2_int64_int64 x0 = some y) :
  Calls Tryz.prog 128 #[v0] w (Res W G H (fun G' Ho v => ∃ r0 : Value, ∃ i0 : Itm, Ho = [i0] ∧ r0 = v ∧ Ow (RSl (RI .i64)) 42 G' i0 r0 y)) := by
 refine calls_b (args := [v0]) (N := 8) [.tmp 2] Tryz.func128 rfl rfl (Nat.le_of_ble_eq_true rfl) rfl fun a f => ?_
 unfold D.slices_Clone2_int64_int64 at hd
 refine k_seq (k_region ?_)
 refine l_as f rfl rfl fun a f => l_nil (k_seq (k_seq (k_region ?_)))
 refine l_mv f rfl rfl fun a f => l_op f rfl rfl rfl (r_nil_eql (f.eval rfl) (f.eval rfl) h0.hdr Tryz.underlying22 rfl) fun a f => l_nil ?_
 rcases Bool.eq_false_or_eq_true (isNil v0) with aa | aa
 ·have hz := h0.nil_inv aa
  subst hz
  replace hd : some ([] : List (List Int)) = some _ := hd
  refine k_true f rfl aa ?_
  refine k_seq (k_region ?_)
  refine l_as f rfl rfl fun a f => l_nil ?_
  refine k_ret ?_
  obtain ⟨ab, m, ac⟩ := Ow.nil (RSl (RI .i64)) 42 m
  obtain rfl := sj hd
  exact ⟨[(.slice none 0 0)], ⟨f.get _ _ rfl, trivial⟩, f.defers, _, [ab], (GLe.refl _), m, _, _, rfl, rfl, ac⟩
 ·refine k_false f rfl aa ?_
  refine k_skip ?_
  refine k_seq (k_region ?_)
  refine l_slit (R := (RSl (RI .i64))) (xs := ([] : List (List Int))) (RSl.one _) m T22 f rfl rfl rfl (by decide) (All2.nil _) fun ad ae w a m af f => l_mv f rfl rfl fun a f => ?_
  obtain ⟨ag, ah, hd⟩ := bind_some hd
  refine l_append (RSl.one _) 0 m af rfl T22 rfl (by decide) f rfl rfl rfl (h0.src m) ah fun ai aj w a m ak f => l_as f rfl rfl fun a f => l_nil ?_
  refine k_ret ?_
  obtain rfl := sj hd
  exact ⟨[aj], ⟨f.get _ _ rfl, trivial⟩, f.defers, _, [ai], (GLe.refl _), m, _, _, rfl, rfl, ak⟩

theorem Wk.slices_nextPowerOfTwo {W w : World} {G : GH} {H : List Itm} {x0 : Int} (m : Mem W G w (H))  {y : Int} (hd : D.slices_nextPowerOfTwo x0 = some y) :
  Calls Tryz.prog 190 #[(.int .i64 x0)] w (Res W G H (fun _ Ho v => Ho = [] ∧ v = (.int .u64 y))) := by
 refine calls_b (args := [(.int .i64 x0)]) (N := 7) [.tmp 2] Tryz.func190 rfl rfl (Nat.le_of_ble_eq_true rfl) rfl fun a f => ?_
 unfold D.slices_nextPowerOfTwo at hd
 refine k_seq (k_region ?_)
 refine l_as f rfl rfl fun a f => l_nil (k_seq (k_region ?_))
 refine l_mv f rfl rfl fun a f => l_op f rfl rfl rfl (r_conv (f.eval rfl) ⟨_, Tryz.underlying3⟩ Tryz.underlying135) fun a f => ?_
 obtain ⟨aa, ab, hd⟩ := bind_some hd
 refine l_res f rfl rfl Tryz.call122 (Wk.math_bits_Len m  ab) fun ac ad ae w af m ag a f => ?_
 obtain ⟨rfl, rfl⟩ := ag
 obtain ⟨ah, hd⟩ := cond_none hd
 refine l_op f rfl rfl rfl (r_shl (f.eval rfl) (f.eval rfl) ah) fun a f => l_as f rfl rfl fun a f => l_nil ?_
 refine k_ret ?_
 obtain rfl := sj hd
 exact ⟨[(.int .u64 (ishl .u64 1 aa))], ⟨f.get _ _ rfl, trivial⟩, f.defers, _, [], af, m, rfl, rfl⟩

theorem Wk.slices_xorshift_Next {W w : World} {G : GH} {H : List Itm} {b0 : Nat} {x0_0 : Int} (m : Mem W G w (Itm.box b0 190 [(.int .u64 x0_0)] :: H))  {y : Int × Int} (hd : D.slices_xorshift_Next x0_0 = some y) :
  Calls Tryz.prog 191 #[(.pointer (some ⟨b0, 0, none⟩))] w (Res W G H (fun _ Ho v => Ho = [Itm.box b0 190 [(.int .u64 y.2)]] ∧ v = (.int .u64 y.1))) := by
 refine calls_b (args := [(.pointer (some ⟨b0, 0, none⟩))]) (N := 33) [.tmp 2] Tryz.func191 rfl rfl (Nat.le_of_ble_eq_true rfl) rfl fun a f => ?_
 unfold D.slices_xorshift_Next at hd
 refine k_seq (k_region ?_)
 refine l_as f rfl rfl fun a f => l_nil (k_seq ?_)
 refine k_draw 9 Follows (by kernel_rfl) m ?_
 refine q_mv 0 9 rfl (by kernel_rfl) f rfl rfl rfl fun a f => q_p 1 9 rfl (by kernel_rfl) f rfl rfl rfl (fun _ => r_nilCheck (f.eval rfl)) fun a f => q_boxCell (i := 2) 9 0 Pl190 rfl rfl rfl (by kernel_rfl) rfl f rfl rfl rfl fun a f => q_mv 3 9 rfl (by kernel_rfl) f rfl rfl rfl fun a f => q_p 4 9 rfl (by kernel_rfl) f rfl rfl rfl (fun _ => r_nilCheck (f.eval rfl)) fun a f => q_boxCell (i := 5) 9 0 Pl190 rfl rfl rfl (by kernel_rfl) rfl f rfl rfl rfl fun a f => q_p 6 9 rfl (by kernel_rfl) f rfl rfl rfl (fun _ => r_shl (f.eval rfl) (f.eval rfl) (by decide)) fun a f => q_p 7 9 rfl (by kernel_rfl) f rfl rfl rfl (fun _ => r_int (f.eval rfl) (f.eval rfl) b_xor) fun a f => q_p 8 9 rfl (by kernel_rfl) f rfl rfl rfl (fun _ => r_nilCheck (f.eval rfl)) fun a f => q_end fun aa w ab m => l_boxStore 0 0 (ds := [(.int .u64 (ixor .u64 x0_0 (ishl .u64 x0_0 13)))]) m Tryz.sizeOf190 f rfl rfl rfl (ones_cons rfl ones_nil) rfl (Nat.le_of_ble_eq_true rfl) rfl fun w m => ?_
 refine l_nil (k_seq ?_)
 refine k_draw 9 Follows (by kernel_rfl) m ?_
 refine q_mv 0 9 rfl (by kernel_rfl) f rfl rfl rfl fun a f => q_p 1 9 rfl (by kernel_rfl) f rfl rfl rfl (fun _ => r_nilCheck (f.eval rfl)) fun a f => q_boxCell (i := 2) 9 0 Pl190 rfl rfl rfl (by kernel_rfl) rfl f rfl rfl rfl fun a f => q_mv 3 9 rfl (by kernel_rfl) f rfl rfl rfl fun a f => q_p 4 9 rfl (by kernel_rfl) f rfl rfl rfl (fun _ => r_nilCheck (f.eval rfl)) fun a f => q_boxCell (i := 5) 9 0 Pl190 rfl rfl rfl (by kernel_rfl) rfl f rfl rfl rfl fun a f => q_p 6 9 rfl (by kernel_rfl) f rfl rfl rfl (fun _ => r_shr (f.eval rfl) (f.eval rfl) (by decide)) fun a f => q_p 7 9 rfl (by kernel_rfl) f rfl rfl rfl (fun _ => r_int (f.eval rfl) (f.eval rfl) b_xor) fun a f => q_p 8 9 rfl (by kernel_rfl) f rfl rfl rfl (fun _ => r_nilCheck (f.eval rfl)) fun a f => q_end fun ac w ad m => l_boxStore 0 0 (ds := [(.int .u64 (ixor .u64 (ixor .u64 x0_0 (ishl .u64 x0_0 13)) (ishr .u64 (ixor .u64 x0_0 (ishl .u64 x0_0 13)) 7)))]) m Tryz.sizeOf190 f rfl rfl rfl (ones_cons rfl ones_nil) rfl (Nat.le_of_ble_eq_true rfl) rfl fun w m => ?_
 refine l_nil (k_seq ?_)
 refine k_draw 9 Follows (by kernel_rfl) m ?_
 refine q_mv 0 9 rfl (by kernel_rfl) f rfl rfl rfl fun a f => q_p 1 9 rfl (by kernel_rfl) f rfl rfl rfl (fun _ => r_nilCheck (f.eval rfl)) fun a f => q_boxCell (i := 2) 9 0 Pl190 rfl rfl rfl (by kernel_rfl) rfl f rfl rfl rfl fun a f => q_mv 3 9 rfl (by kernel_rfl) f rfl rfl rfl fun a f => q_p 4 9 rfl (by kernel_rfl) f rfl rfl rfl (fun _ => r_nilCheck (f.eval rfl)) fun a f => q_boxCell (i := 5) 9 0 Pl190 rfl rfl rfl (by kernel_rfl) rfl f rfl rfl rfl fun a f => q_p 6 9 rfl (by kernel_rfl) f rfl rfl rfl (fun _ => r_shl (f.eval rfl) (f.eval rfl) (by decide)) fun a f => q_p 7 9 rfl (by kernel_rfl) f rfl rfl rfl (fun _ => r_int (f.eval rfl) (f.eval rfl) b_xor) fun a f => q_p 8 9 rfl (by kernel_rfl) f rfl rfl rfl (fun _ => r_nilCheck (f.eval rfl)) fun a f => q_end fun ae w af m => l_boxStore 0 0 (ds := [(.int .u64 (ixor .u64 (ixor .u64 (ixor .u64 x0_0 (ishl .u64 x0_0 13)) (ishr .u64 (ixor .u64 x0_0 (ishl .u64 x0_0 13)) 7)) (ishl .u64 (ixor .u64 (ixor .u64 x0_0 (ishl .u64 x0_0 13)) (ishr .u64 (ixor .u64 x0_0 (ishl .u64 x0_0 13)) 7)) 17)))]) m Tryz.sizeOf190 f rfl rfl rfl (ones_cons rfl ones_nil) rfl (Nat.le_of_ble_eq_true rfl) rfl fun w m => ?_
 refine l_nil (k_seq (k_region ?_))
 refine l_mv f rfl rfl fun a f => l_op f rfl rfl rfl (r_nilCheck (f.eval rfl)) fun a f => l_boxCell 0 0 m Pl190 f rfl rfl rfl rfl fun a f => l_as f rfl rfl fun a f => l_nil ?_
 refine k_ret ?_
 obtain rfl := sj hd
 exact ⟨[(.int .u64 (ixor .u64 (ixor .u64 (ixor .u64 x0_0 (ishl .u64 x0_0 13)) (ishr .u64 (ixor .u64 x0_0 (ishl .u64 x0_0 13)) 7)) (ishl .u64 (ixor .u64 (ixor .u64 x0_0 (ishl .u64 x0_0 13)) (ishr .u64 (ixor .u64 x0_0 (ishl .u64 x0_0 13)) 7)) 17)))], ⟨f.get _ _ rfl, trivial⟩, f.defers, _, [Itm.box b0 190 [(.int .u64 (ixor .u64 (ixor .u64 (ixor .u64 x0_0 (ishl .u64 x0_0 13)) (ishr .u64 (ixor .u64 x0_0 (ishl .u64 x0_0 13)) 7)) (ishl .u64 (ixor .u64 (ixor .u64 x0_0 (ishl .u64 x0_0 13)) (ishr .u64 (ixor .u64 x0_0 (ishl .u64 x0_0 13)) 7)) 17)))]], (GLe.trans ab (GLe.trans ad af)), m, rfl, rfl⟩

theorem Wk.cmp_isNaN_int64 {W w : World} {G : GH} {H : List Itm} {x0 : Int} (m : Mem W G w (H))  {y : Bool} (hd : D.cmp_isNaN_int64 x0 = some y) :
  Calls Tryz.prog 164 #[(.int .i64 x0)] w (Res W G H (fun _ Ho v => Ho = [] ∧ v = (.bool y))) := by
 refine calls_b (args := [(.int .i64 x0)]) (N := 6) [.tmp 2] Tryz.func164 rfl rfl (Nat.le_of_ble_eq_true rfl) rfl fun a f => ?_
 unfold D.cmp_isNaN_int64 at hd
 refine k_seq (k_region ?_)
 refine l_as f rfl rfl fun a f => l_nil (k_seq (k_region ?_))
 refine l_mv f rfl rfl fun a f => l_mv f rfl rfl fun a f => l_in f rfl rfl rfl b_neq fun a f => l_as f rfl rfl fun a f => l_nil ?_
 refine k_ret ?_
 obtain rfl := sj hd
 exact ⟨[(.bool (x0 != x0))], ⟨f.get _ _ rfl, trivial⟩, f.defers, _, [], (GLe.refl _), m, rfl, rfl⟩

theorem Wk.cmp_Compare_int64 {W w : World} {G : GH} {H : List Itm} {x0 : Int} {x1 : Int} (m : Mem W G w (H))  {y : Int} (hd : D.cmp_Compare_int64 x0 x1 = some y) :
  Calls Tryz.prog 123 #[(.int .i64 x0), (.int .i64 x1)] w (Res W G H (fun _ Ho v => Ho = [] ∧ v = (.int .i64 y))) := by
 refine calls_b (args := [(.int .i64 x0), (.int .i64 x1)]) (N := 20) [.tmp 4] Tryz.func123 rfl rfl (Nat.le_of_ble_eq_true rfl) rfl fun a f => ?_
 unfold D.cmp_Compare_int64 at hd
 refine k_seq (k_region ?_)
 refine l_as f rfl rfl fun a f => l_nil (k_seq (k_region ?_))
 refine l_mv f rfl rfl fun a f => ?_
 obtain ⟨aa, ab, hd⟩ := bind_some hd
 refine l_res f rfl rfl Tryz.call164 (Wk.cmp_isNaN_int64 m  ab) fun ac ad ae w af m ag a f => ?_
 obtain ⟨rfl, rfl⟩ := ag
 refine l_as f rfl rfl fun a f => l_nil (k_seq (k_region ?_))
 refine l_mv f rfl rfl fun a f => ?_
 obtain ⟨ah, ai, hd⟩ := bind_some hd
 refine l_res f rfl rfl Tryz.call164 (Wk.cmp_isNaN_int64 m  ai) fun aj ak al w am m an a f => ?_
 obtain ⟨rfl, rfl⟩ := an
 refine l_as f rfl rfl fun a f => l_nil (k_seq (k_seq (k_region ?_)))
 refine l_mv f rfl rfl fun a f => l_nil ?_
 rcases cond_some hd with ⟨ao, hd⟩ | ⟨ao, hd⟩
 ·refine k_true f rfl ao ?_
  refine k_seq (k_seq (k_region ?_))
  refine l_mv f rfl rfl fun a f => l_nil ?_
  rcases cond_some hd with ⟨ap, hd⟩ | ⟨ap, hd⟩
  ·refine k_true f rfl ap ?_
   refine k_seq (k_region ?_)
   refine l_as f rfl rfl fun a f => l_nil ?_
   refine k_ret ?_
   obtain rfl := sj hd
   exact ⟨[(.int .i64 0)], ⟨f.get _ _ rfl, trivial⟩, f.defers, _, [], (GLe.trans af am), m, rfl, rfl⟩
  ·refine k_false f rfl ap ?_
   refine k_skip ?_
   refine k_seq (k_region ?_)
   refine l_as f rfl rfl fun a f => l_nil ?_
   refine k_ret ?_
   obtain rfl := sj hd
   exact ⟨[(.int .i64 (-1))], ⟨f.get _ _ rfl, trivial⟩, f.defers, _, [], (GLe.trans af am), m, rfl, rfl⟩
 ·refine k_false f rfl ao ?_
  refine k_skip ?_
  refine k_seq (k_seq (k_region ?_))
  refine l_mv f rfl rfl fun a f => l_nil ?_
  rcases cond_some hd with ⟨aq, hd⟩ | ⟨aq, hd⟩
  ·refine k_true f rfl aq ?_
   refine k_seq (k_region ?_)
   refine l_as f rfl rfl fun a f => l_nil ?_
   refine k_ret ?_
   obtain rfl := sj hd
   exact ⟨[(.int .i64 1)], ⟨f.get _ _ rfl, trivial⟩, f.defers, _, [], (GLe.trans af am), m, rfl, rfl⟩
  ·refine k_false f rfl aq ?_
   refine k_skip ?_
   refine k_seq (k_seq (k_region ?_))
   refine l_mv f rfl rfl fun a f => l_mv f rfl rfl fun a f => l_in f rfl rfl rfl b_lss fun a f => l_nil ?_
   rcases cond_some hd with ⟨ar, hd⟩ | ⟨ar, hd⟩
   ·refine k_true f rfl ar ?_
    refine k_seq (k_region ?_)
    refine l_as f rfl rfl fun a f => l_nil ?_
    refine k_ret ?_
    obtain rfl := sj hd
    exact ⟨[(.int .i64 (-1))], ⟨f.get _ _ rfl, trivial⟩, f.defers, _, [], (GLe.trans af am), m, rfl, rfl⟩
   ·refine k_false f rfl ar ?_
    refine k_skip ?_
    refine k_seq (k_seq (k_region ?_))
    refine l_mv f rfl rfl fun a f => l_mv f rfl rfl fun a f => l_in f rfl rfl rfl b_gtr fun a f => l_nil ?_
    rcases cond_some hd with ⟨au, hd⟩ | ⟨au, hd⟩
    ·refine k_true f rfl au ?_
     refine k_seq (k_region ?_)
     refine l_as f rfl rfl fun a f => l_nil ?_
     refine k_ret ?_
     obtain rfl := sj hd
     exact ⟨[(.int .i64 1)], ⟨f.get _ _ rfl, trivial⟩, f.defers, _, [], (GLe.trans af am), m, rfl, rfl⟩
    ·refine k_false f rfl au ?_
     refine k_skip ?_
     refine k_seq (k_region ?_)
     refine l_as f rfl rfl fun a f => l_nil ?_
     refine k_ret ?_
     obtain rfl := sj hd
     exact ⟨[(.int .i64 0)], ⟨f.get _ _ rfl, trivial⟩, f.defers, _, [], (GLe.trans af am), m, rfl, rfl⟩

theorem Wk.slices_Compare_int64_int64 {W w : World} {G : GH} {H : List Itm} {v0 : Value} {v1 : Value} {x0 : (List Int)} {x1 : (List Int)} (m : Mem W G w (H)) (h0 : RSl (RI .i64) G v0 x0) (h1 : RSl (RI .i64) G v1 x1) {y : Int} (hd : D.slices_Compare_int64_int64 x0 x1 = some y) :
  Calls Tryz.prog 58 #[v0, v1] w (Res W G H (fun _ Ho v => Ho = [] ∧ v = (.int .i64 y))) := by
 refine calls_b (args := [v0, v1]) (N := 36) [.tmp 4] Tryz.func58 rfl rfl (Nat.le_of_ble_eq_true rfl) rfl fun a f => ?_
 unfold D.slices_Compare_int64_int64 at hd
 refine k_seq (k_region ?_)
 refine l_as f rfl rfl fun a f => l_nil (k_seq (k_seq (k_region ?_)))
 refine l_mv f rfl rfl fun a f => l_len Tryz.underlying42 f rfl rfl h0 fun a f => l_mv f rfl rfl fun a f => l_nil ?_
 obtain ⟨aa, ab, hd⟩ := bind_some hd
 refine k_cut (fun a w => ∃ q_47' : Unit, aa = .inl q_47' ∧ ∃ (ac : GH), GLe G ac ∧ Fr a 36 [(0, v0), (1, v1)] ∧ Mem W ac w (H)) ?_ ?_
 ·refine k_block ?_
  refine k_loop (fun ad a w => ∃ ae : Int, ae = ad ∧ ∃ (af : GH), GLe G af ∧ Fr a 36 [(0, v0), (1, v1), (9, v0), (10, (.int .i64 (x0.length : Int))), (11, (.int .i64 ae))] ∧ Mem W af w (H)) ab ⟨_, rfl, _, (GLe.refl _), f.weak ⟨rfl, rfl, rfl, rfl, rfl, trivial⟩, m⟩ ?_
  clear ab f m
  rintro ad ag ah ai a w ⟨ae, rfl, af, aj, f, m⟩
  have h0 := rd1 aj h0
  have h1 := rd1 aj h1
  refine k_seq (k_region ?_)
  refine l_in f rfl rfl rfl b_lss fun a f => l_nil (k_seq ?_)
  rcases cond_some ah with ⟨ak, ah⟩ | ⟨ak, ah⟩
  ·refine k_true f rfl ak ?_
   refine k_skip ?_
   refine k_seq (k_block (k_seq (k_region ?_)))
   refine l_mv f rfl rfl fun a f => ?_
   obtain ⟨al, am, ah⟩ := bind_some ah
   refine l_at T42 f rfl rfl rfl h0 am fun an ao a ap aq f => ?_
   subst aq
   refine l_loadAt m Pl2 f rfl rfl ap fun a f => l_as f rfl rfl fun a f => l_as f rfl rfl fun a f => l_nil (k_seq (k_seq (k_region ?_)))
   refine l_mv f rfl rfl fun a f => l_mv f rfl rfl fun a f => l_len Tryz.underlying42 f rfl rfl h1 fun a f => l_in f rfl rfl rfl b_geq fun a f => l_nil ?_
   rcases cond_some ah with ⟨ar, ah⟩ | ⟨ar, ah⟩
   ·refine k_true f rfl ar ?_
    refine k_seq (k_region ?_)
    refine l_as f rfl rfl fun a f => l_nil ?_
    refine k_ret ?_
    obtain rfl := sj ah
    obtain rfl := ai _ rfl
    obtain rfl := sj hd
    exact ⟨[(.int .i64 1)], ⟨f.get _ _ rfl, trivial⟩, f.defers, _, [], aj, m, rfl, rfl⟩
   ·refine k_false f rfl ar ?_
    refine k_skip ?_
    refine k_seq (k_region ?_)
    refine l_mv f rfl rfl fun a f => l_mv f rfl rfl fun a f => ?_
    obtain ⟨au, av, ah⟩ := bind_some ah
    refine l_at T42 f rfl rfl rfl h1 av fun aw ax a ay az f => ?_
    subst az
    refine l_loadAt m Pl2 f rfl rfl ay fun a f => l_as f rfl rfl fun a f => l_nil (k_seq (k_region ?_))
    refine l_mv f rfl rfl fun a f => l_mv f rfl rfl fun a f => ?_
    obtain ⟨aA, aB, ah⟩ := bind_some ah
    refine l_res f rfl rfl Tryz.call123 (Wk.cmp_Compare_int64 m  aB) fun aC aD aE w aF m aG a f => ?_
    obtain ⟨rfl, rfl⟩ := aG
    have h0 := rd1 aF h0
    have h1 := rd1 aF h1
    refine l_as f rfl rfl fun a f => l_nil (k_seq (k_region ?_))
    refine l_mv f rfl rfl fun a f => l_in f rfl rfl rfl b_neq fun a f => l_nil ?_
    rcases cond_some ah with ⟨aH, ah⟩ | ⟨aH, ah⟩
    ·refine k_true f rfl aH ?_
     refine k_seq (k_region ?_)
     refine l_mv f rfl rfl fun a f => l_as f rfl rfl fun a f => l_nil ?_
     refine k_ret ?_
     obtain rfl := sj ah
     obtain rfl := ai _ rfl
     obtain rfl := sj hd
     exact ⟨[(.int .i64 aA)], ⟨f.get _ _ rfl, trivial⟩, f.defers, _, [], (GLe.trans aj aF), m, rfl, rfl⟩
    ·refine k_false f rfl aH ?_
     refine k_skip ?_
     refine k_region ?_
     refine l_in f rfl rfl rfl b_add fun a f => l_mv f rfl rfl fun a f => l_nil ?_
     obtain rfl := sj ah
     exact ⟨_, rfl, _, rfl, _, (GLe.trans aj aF), f.weak ⟨rfl, rfl, rfl, rfl, rfl, trivial⟩, m⟩
  ·refine k_false f rfl ak ?_
   refine k_exit rfl ?_
   obtain rfl := sj ah
   obtain rfl := ai _ rfl
   exact ⟨_, rfl, _, aj, f.weak ⟨rfl, rfl, trivial⟩, m⟩
 ·rintro a w ⟨_, rfl, ac, aI, f, m⟩
  have h0 := rd1 aI h0
  have h1 := rd1 aI h1
  refine k_seq (k_seq (k_region ?_))
  refine l_mv f rfl rfl fun a f => l_len Tryz.underlying42 f rfl rfl h0 fun a f => l_mv f rfl rfl fun a f => l_len Tryz.underlying42 f rfl rfl h1 fun a f => l_in f rfl rfl rfl b_lss fun a f => l_nil ?_
  rcases cond_some hd with ⟨aJ, hd⟩ | ⟨aJ, hd⟩
  ·refine k_true f rfl aJ ?_
   refine k_seq (k_region ?_)
   refine l_as f rfl rfl fun a f => l_nil ?_
   refine k_ret ?_
   obtain rfl := sj hd
   exact ⟨[(.int .i64 (-1))], ⟨f.get _ _ rfl, trivial⟩, f.defers, _, [], aI, m, rfl, rfl⟩
  ·refine k_false f rfl aJ ?_
   refine k_skip ?_
   refine k_seq (k_region ?_)
   refine l_as f rfl rfl fun a f => l_nil ?_
   refine k_ret ?_
   obtain rfl := sj hd
   exact ⟨[(.int .i64 0)], ⟨f.get _ _ rfl, trivial⟩, f.defers, _, [], aI, m, rfl, rfl⟩

theorem Wk.slices_Clone_impl_vset_impl_vset {W w : World} {G : GH} {H : List Itm} {v0 : Value} {x0 : (List Int)} (m : Mem W G w (H)) (h0 : RSl (RI .u32) G v0 x0) {y : ((List Int))} (hd : D.slices_Clone_impl_vset_impl_vset x0 = some y) :
  Calls Tryz.prog 167 #[v0] w (Res W G H (fun G' Ho v => ∃ r0 : Value, ∃ i0 : Itm, Ho = [i0] ∧ r0 = v ∧ Ow (RI .u32) 76 G' i0 r0 y)) := by
 refine calls_b (args := [v0]) (N := 8) [.tmp 2] Tryz.func167 rfl rfl (Nat.le_of_ble_eq_true rfl) rfl fun a f => ?_
 unfold D.slices_Clone_impl_vset_impl_vset at hd
 refine k_seq (k_region ?_)
 refine l_as f rfl rfl fun a f => l_nil (k_seq (k_seq (k_region ?_)))
 refine l_mv f rfl rfl fun a f => l_op f rfl rfl rfl (r_nil_eql (f.eval rfl) (f.eval rfl) h0.hdr Tryz.underlying71 rfl) fun a f => l_nil ?_
 rcases Bool.eq_false_or_eq_true (isNil v0) with aa | aa
 ·have hz := h0.nil_inv aa
  subst hz
  replace hd : some ([] : List Int) = some _ := hd
  refine k_true f rfl aa ?_
  refine k_seq (k_region ?_)
  refine l_as f rfl rfl fun a f => l_nil ?_
  refine k_ret ?_
  obtain ⟨ab, m, ac⟩ := Ow.nil (RI .u32) 76 m
  obtain rfl := sj hd
  exact ⟨[(.slice none 0 0)], ⟨f.get _ _ rfl, trivial⟩, f.defers, _, [ab], (GLe.refl _), m, _, _, rfl, rfl, ac⟩
 ·refine k_false f rfl aa ?_
  refine k_skip ?_
  refine k_seq (k_region ?_)
  refine l_slit (R := (RI .u32)) (xs := ([] : List Int)) (RI.one _) m T71 f rfl rfl rfl (by decide) (All2.nil _) fun ad ae w a m af f => l_mv f rfl rfl fun a f => ?_
  obtain ⟨ag, ah, hd⟩ := bind_some hd
  refine l_append (RI.one _) 0 m af rfl T71 rfl (by decide) f rfl rfl rfl (h0.src m) ah fun ai aj w a m ak f => l_as f rfl rfl fun a f => l_nil ?_
  refine k_ret ?_
  obtain rfl := sj hd
  exact ⟨[aj], ⟨f.get _ _ rfl, trivial⟩, f.defers, _, [ai], (GLe.refl _), m, _, _, rfl, rfl, ak⟩

theorem Wk.slices_Delete_impl_vset_impl_vset {W w : World} {G : GH} {H : List Itm} {v0 : Value} {it0 : Itm} {x0 : (List Int)} {x1 : Int} {x2 : Int} (m : Mem W G w (it0 :: H)) (o0 : Ow (RI .u32) 76 G it0 v0 x0) {y : (List Int)} (hd : D.slices_Delete_impl_vset_impl_vset x0 x1 x2 = some y) :
  Calls Tryz.prog 166 #[v0, (.int .i64 x1), (.int .i64 x2)] w (Res W G H (fun G' Ho v => ∃ r0 : Value, ∃ i0 : Itm, Ho = [i0] ∧ r0 = v ∧ Ow (RI .u32) 76 G' i0 r0 y)) := by
 unfold D.slices_Delete_impl_vset_impl_vset delD at hd
 split at hd
 next hg =>
  obtain ⟨g0, g1, g2⟩ := hg
  obtain rfl := sj hd
  obtain ⟨b, c, rfl, gc⟩ := o0.block m (by omega)
  refine calls_b (args := [(.slice (some ⟨b, 0, none⟩) x0.length c), (.int .i64 x1), (.int .i64 x2)]) (N := 33) [.tmp 6] Tryz.func166 rfl rfl (Nat.le_of_ble_eq_true rfl) rfl fun a f => k_seq (k_region ?_)
  refine l_as f rfl rfl fun a f => l_nil (k_seq (k_region ?_))
  refine l_mv f rfl rfl fun a f => l_mv f rfl rfl fun a f => l_mv f rfl rfl fun a f => l_mv f rfl rfl fun a f => l_op f rfl rfl rfl (r_len (f.eval rfl) Tryz.underlying71) fun a f => l_slice3 T71 f rfl rfl rfl rfl rfl g0 (Int.le_of_lt g1) g2 (Int.ofNat_le.2 gc) fun v3 a f => l_nil (k_seq (k_seq (k_region ?_)))
  refine l_mv f rfl rfl fun a f => l_mv f rfl rfl fun a f => l_in f rfl rfl rfl b_eql fun a f => l_nil ?_
  refine k_false f rfl (beq_eq_false_iff_ne.2 (by omega)) ?_
  refine k_skip ?_
  refine k_seq (k_region ?_)
  refine l_mv f rfl rfl fun a f => l_op f rfl rfl rfl (r_len (f.eval rfl) Tryz.underlying71) fun a f => l_as f rfl rfl fun a f => l_nil (k_seq ?_)
  refine k_draw 6 Follows (by kernel_rfl) m ?_
  refine q_mv 0 6 rfl (by kernel_rfl) f rfl rfl rfl fun a f => q_mv 1 6 rfl (by kernel_rfl) f rfl rfl rfl fun a f => q_p 2 6 rfl (by kernel_rfl) f rfl rfl rfl (fun _ => r_slice_lo T71 (f.eval rfl) (f.eval rfl) g0 (by omega)) fun a f => q_mv 3 6 rfl (by kernel_rfl) f rfl rfl rfl fun a f => q_mv 4 6 rfl (by kernel_rfl) f rfl rfl rfl fun a f => q_p 5 6 rfl (by kernel_rfl) f rfl rfl rfl (fun _ => r_slice_hi T71 (f.eval rfl) (f.eval rfl) (by omega) g2 gc) fun a f => q_end fun G1 w hl m => ?_
  have o0 := od1 hl o0
  refine l_del (RI.one _) m o0 T71 f rfl g0 g1 g2 rfl rfl rfl (fun hp => if_neg (by omega)) fun it1 w a m o1 f => l_as f rfl rfl fun a f => l_nil (k_seq (k_region ?_))
  refine l_mv f rfl rfl fun a f => l_mv f rfl rfl fun a f => l_op f rfl rfl rfl (r_len (f.eval rfl) Tryz.underlying71) fun a f => l_mv f rfl rfl fun a f => l_op f rfl rfl rfl (r_slice_mid T71 (f.eval rfl) (f.eval rfl) (f.eval rfl) (by rw [List.length_append, List.length_take, List.length_drop]; omega) gc) fun a f => l_wipe m o1 T71 rfl rfl f rfl (Nat.le_refl _) (by rw [List.length_append, List.length_take, List.length_drop]; omega) fun w m => l_nil (k_seq (k_region ?_))
  refine l_mv f rfl rfl fun a f => l_as f rfl rfl fun a f => l_nil ?_
  refine k_ret ?_
  exact ⟨[_], ⟨f.get _ _ rfl, trivial⟩, f.defers, _, [it1], hl, m, _, _, rfl, rfl, o1⟩
 next => cases hd

theorem Wk.slices_Clone_int64_int64 {W w : World} {G : GH} {H : List Itm} {v0 : Value} {x0 : (List Int)} (m : Mem W G w (H)) (h0 : RSl (RI .i64) G v0 x0) {y : ((List Int))} (hd : D.slices_Clone_int64_int64 x0 = some y) :
  Calls Tryz.prog 130 #[v0] w (Res W G H (fun G' Ho v => ∃ r0 : Value, ∃ i0 : Itm, Ho = [i0] ∧ r0 = v ∧ Ow (RI .i64) 2 G' i0 r0 y)) := by
 refine calls_b (args := [v0]) (N := 8) [.tmp 2] Tryz.func130 rfl rfl (Nat.le_of_ble_eq_true rfl) rfl fun a f => ?_
 unfold D.slices_Clone_int64_int64 at hd
 refine k_seq (k_region ?_)
 refine l_as f rfl rfl fun a f => l_nil (k_seq (k_seq (k_region ?_)))
 refine l_mv f rfl rfl fun a f => l_op f rfl rfl rfl (r_nil_eql (f.eval rfl) (f.eval rfl) h0.hdr Tryz.underlying42 rfl) fun a f => l_nil ?_
 rcases Bool.eq_false_or_eq_true (isNil v0) with aa | aa
 ·have hz := h0.nil_inv aa
  subst hz
  replace hd : some ([] : List Int) = some _ := hd
  refine k_true f rfl aa ?_
  refine k_seq (k_region ?_)
  refine l_as f rfl rfl fun a f => l_nil ?_
  refine k_ret ?_
  obtain ⟨ab, m, ac⟩ := Ow.nil (RI .i64) 2 m
  obtain rfl := sj hd
  exact ⟨[(.slice none 0 0)], ⟨f.get _ _ rfl, trivial⟩, f.defers, _, [ab], (GLe.refl _), m, _, _, rfl, rfl, ac⟩
 ·refine k_false f rfl aa ?_
  refine k_skip ?_
  refine k_seq (k_region ?_)
  refine l_slit (R := (RI .i64)) (xs := ([] : List Int)) (RI.one _) m T42 f rfl rfl rfl (by decide) (All2.nil _) fun ad ae w a m af f => l_mv f rfl rfl fun a f => ?_
  obtain ⟨ag, ah, hd⟩ := bind_some hd
  refine l_append (RI.one _) 0 m af rfl T42 rfl (by decide) f rfl rfl rfl (h0.src m) ah fun ai aj w a m ak f => l_as f rfl rfl fun a f => l_nil ?_
  refine k_ret ?_
  obtain rfl := sj hd
  exact ⟨[aj], ⟨f.get _ _ rfl, trivial⟩, f.defers, _, [ai], (GLe.refl _), m, _, _, rfl, rfl, ak⟩

end Go.Proofs.YtebbefpdncgoiaaGreatDoor

set_option maxRecDepth 100000
namespace Go.Proofs.YtebbefpdncgoiaaGreatDoor
open Go Go.Sx
theorem Pl42 : Plain Tryz.prog 42 := Tryz.isAgg42
theorem Pl22 : Plain Tryz.prog 22 := Tryz.isAgg22
theorem Ag30 : Agg Tryz.prog 30 1 := ⟨Tryz.isAgg30, Tryz.sizeOf30⟩
theorem Ag27 : Agg Tryz.prog 27 2 := ⟨Tryz.isAgg27, Tryz.sizeOf27⟩

theorem Wk.laws_szInt64S {W w : World} {G : GH} {H : List Itm} {v0 : Value} {x0 : (List Int)} {x1 : Int} (m : Mem W G w (H)) (h0 : RSl (RI .i64) G v0 x0) {y : Int} (hd : D.laws_szInt64S x0 x1 = some y) :
  Calls Tryz.prog 110 #[v0, (.int .i64 x1)] w (Res W G H (fun _ Ho v => Ho = [] ∧ v = (.int .i64 y))) := by
 refine calls_b (args := [v0, (.int .i64 x1)]) (N := 12) [.tmp 4] Tryz.func110 rfl rfl (Nat.le_of_ble_eq_true rfl) rfl fun a f => ?_
 unfold D.laws_szInt64S at hd
 refine k_seq (k_region ?_)
 refine l_as f rfl rfl fun a f => l_nil (k_seq (k_region ?_))
 refine l_mv f rfl rfl fun a f => l_mv f rfl rfl fun a f => l_len Tryz.underlying42 f rfl rfl h0 fun a f => l_in f rfl rfl rfl b_sub fun a f => l_as f rfl rfl fun a f => l_nil (k_seq (k_seq (k_region ?_)))
 refine l_mv f rfl rfl fun a f => l_in f rfl rfl rfl b_lss fun a f => l_nil ?_
 rcases cond_some hd with ⟨aa, hd⟩ | ⟨aa, hd⟩
 ·refine k_true f rfl aa ?_
  refine k_seq (k_region ?_)
  refine l_as f rfl rfl fun a f => l_nil ?_
  refine k_ret ?_
  obtain rfl := sj hd
  exact ⟨[(.int .i64 (-1))], ⟨f.get _ _ rfl, trivial⟩, f.defers, _, [], (GLe.refl _), m, rfl, rfl⟩
 ·refine k_false f rfl aa ?_
  refine k_skip ?_
  refine k_seq (k_region ?_)
  refine l_mv f rfl rfl fun a f => l_as f rfl rfl fun a f => l_nil ?_
  refine k_ret ?_
  obtain rfl := sj hd
  exact ⟨[(.int .i64 (IntKind.i64.wrap (x1 - (x0.length : Int))))], ⟨f.get _ _ rfl, trivial⟩, f.defers, _, [], (GLe.refl _), m, rfl, rfl⟩

theorem Wk.laws_szInt64SS {W w : World} {G : GH} {H : List Itm} {v0 : Value} {x0 : (List (List Int))} {x1 : Int} (m : Mem W G w (H)) (h0 : RSl (RSl (RI .i64)) G v0 x0) {y : Int} (hd : D.laws_szInt64SS x0 x1 = some y) :
  Calls Tryz.prog 43 #[v0, (.int .i64 x1)] w (Res W G H (fun _ Ho v => Ho = [] ∧ v = (.int .i64 y))) := by
 refine calls_b (args := [v0, (.int .i64 x1)]) (N := 27) [.tmp 4] Tryz.func43 rfl rfl (Nat.le_of_ble_eq_true rfl) rfl fun a f => ?_
 unfold D.laws_szInt64SS at hd
 refine k_seq (k_region ?_)
 refine l_as f rfl rfl fun a f => l_nil (k_seq (k_region ?_))
 refine l_mv f rfl rfl fun a f => l_mv f rfl rfl fun a f => l_len Tryz.underlying22 f rfl rfl h0 fun a f => l_in f rfl rfl rfl b_sub fun a f => l_as f rfl rfl fun a f => l_nil (k_seq (k_seq (k_region ?_)))
 refine l_mv f rfl rfl fun a f => l_in f rfl rfl rfl b_lss fun a f => l_nil ?_
 rcases cond_some hd with ⟨aa, hd⟩ | ⟨aa, hd⟩
 ·refine k_true f rfl aa ?_
  refine k_seq (k_region ?_)
  refine l_as f rfl rfl fun a f => l_nil ?_
  refine k_ret ?_
  obtain rfl := sj hd
  exact ⟨[(.int .i64 (-1))], ⟨f.get _ _ rfl, trivial⟩, f.defers, _, [], (GLe.refl _), m, rfl, rfl⟩
 ·refine k_false f rfl aa ?_
  refine k_skip ?_
  refine k_seq (k_seq (k_region ?_))
  refine l_as f rfl rfl fun a f => l_nil ?_
  obtain ⟨ab, ac, hd⟩ := bind_some hd
  refine k_cut (fun a w => ∃ q_35' : Int, ab = .inl q_35' ∧ ∃ ad : Int, ad = q_35' ∧ ∃ (ae : GH), GLe G ae ∧ Fr a 27 [(1, (.int .i64 ad))] ∧ Mem W ae w (H)) ?_ ?_
  ·refine k_block ?_
   refine k_loop (fun af a w => ∃ ag : Int, ∃ ah : Int, (ag, ah) = af ∧ ∃ (ai : GH), GLe G ai ∧ Fr a 27 [(0, v0), (1, (.int .i64 ag)), (5, (.int .i64 ah))] ∧ Mem W ai w (H)) ac ⟨_, _, rfl, _, (GLe.refl _), f.weak ⟨rfl, rfl, rfl, trivial⟩, m⟩ ?_
   clear ac f m
   rintro af aj ak al a w ⟨ag, ah, rfl, ai, am, f, m⟩
   have h0 := rd2 am h0
   refine k_seq (k_seq (k_region ?_))
   refine l_mv f rfl rfl fun a f => l_mv f rfl rfl fun a f => l_len Tryz.underlying22 f rfl rfl h0 fun a f => l_in f rfl rfl rfl b_lss fun a f => l_nil ?_
   rcases cond_some ak with ⟨an, ak⟩ | ⟨an, ak⟩
   ·refine k_true f rfl an ?_
    refine k_skip ?_
    refine k_seq (k_block (k_seq (k_region ?_)))
    refine l_mv f rfl rfl fun a f => l_mv f rfl rfl fun a f => ?_
    obtain ⟨ao, ap, ak⟩ := bind_some ak
    refine l_at T22 f rfl rfl rfl h0 ap fun aq ar a au av f => l_loadAt m Pl42 f rfl rfl au fun a f => l_mv f rfl rfl fun a f => ?_
    obtain ⟨aw, ax, ak⟩ := bind_some ak
    refine l_res f rfl rfl Tryz.call110 (Wk.laws_szInt64S m av ax) fun ay az aA w aB m aC a f => ?_
    obtain ⟨rfl, rfl⟩ := aC
    have h0 := rd2 aB h0
    have au := At.mono aB au
    have av := rd1 aB av
    refine l_as f rfl rfl fun a f => l_nil (k_seq (k_region ?_))
    refine l_mv f rfl rfl fun a f => l_in f rfl rfl rfl b_lss fun a f => l_nil ?_
    rcases cond_some ak with ⟨aD, ak⟩ | ⟨aD, ak⟩
    ·refine k_true f rfl aD ?_
     refine k_seq (k_region ?_)
     refine l_as f rfl rfl fun a f => l_nil ?_
     refine k_ret ?_
     obtain rfl := sj ak
     obtain rfl := al _ rfl
     obtain rfl := sj hd
     exact ⟨[(.int .i64 (-1))], ⟨f.get _ _ rfl, trivial⟩, f.defers, _, [], (GLe.trans am aB), m, rfl, rfl⟩
    ·refine k_false f rfl aD ?_
     refine k_skip ?_
     refine k_region ?_
     refine l_mv f rfl rfl fun a f => l_in f rfl rfl rfl b_add fun a f => l_as f rfl rfl fun a f => l_nil ?_
     obtain rfl := sj ak
     exact ⟨_, rfl, _, _, rfl, _, (GLe.trans am aB), f.weak ⟨rfl, rfl, rfl, trivial⟩, m⟩
   ·refine k_false f rfl an ?_
    refine k_exit rfl ?_
    obtain rfl := sj ak
    obtain rfl := al _ rfl
    exact ⟨_, rfl, _, rfl, _, am, f.weak ⟨rfl, trivial⟩, m⟩
  ·rintro a w ⟨_, rfl, ad, rfl, ae, aE, f, m⟩
   refine k_seq (k_region ?_)
   refine l_mv f rfl rfl fun a f => l_as f rfl rfl fun a f => l_nil ?_
   refine k_ret ?_
   obtain rfl := sj hd
   exact ⟨[(.int .i64 ad)], ⟨f.get _ _ rfl, trivial⟩, f.defers, _, [], aE, m, rfl, rfl⟩

theorem Wk.laws_szGraph {W w : World} {G : GH} {H : List Itm} {v0_0 : Value} {x0_0 : (List (List Int))} {x1 : Int} (m : Mem W G w (H)) (h0_0 : RSl (RSl (RI .i64)) G v0_0 x0_0) {y : Int} (hd : D.laws_szGraph x0_0 x1 = some y) :
  Calls Tryz.prog 8 #[(.agg #[v0_0]), (.int .i64 x1)] w (Res W G H (fun _ Ho v => Ho = [] ∧ v = (.int .i64 y))) := by
 refine calls_b (args := [(.agg #[v0_0]), (.int .i64 x1)]) (N := 12) [.tmp 4] Tryz.func8 rfl rfl (Nat.le_of_ble_eq_true rfl) rfl fun a f => ?_
 unfold D.laws_szGraph at hd
 refine k_seq (k_region ?_)
 refine l_box (cs := [v0_0]) m f rfl rfl rfl fun aa w a m f => l_as f rfl rfl fun a f => l_nil (k_seq (k_region ?_))
 refine l_fieldAddr Tryz.underlying24 rfl Tryz.sizeOf22 (by decide) f rfl rfl fun a f => l_boxCell 0 0 m Pl22 f rfl rfl rfl rfl fun a f => l_mv f rfl rfl fun a f => ?_
 obtain ⟨ab, ac, hd⟩ := bind_some hd
 refine l_res f rfl rfl Tryz.call43 (Wk.laws_szInt64SS m h0_0 ac) fun ad ae af w ag m ah a f => ?_
 obtain ⟨rfl, rfl⟩ := ah
 have h0_0 := rd2 ag h0_0
 refine l_as f rfl rfl fun a f => l_nil (k_seq (k_seq (k_region ?_)))
 refine l_mv f rfl rfl fun a f => l_in f rfl rfl rfl b_lss fun a f => l_nil ?_
 rcases cond_some hd with ⟨ai, hd⟩ | ⟨ai, hd⟩
 ·refine k_true f rfl ai ?_
  refine k_seq (k_region ?_)
  refine l_as f rfl rfl fun a f => l_nil ?_
  refine k_ret ?_
  have m : Mem W ae w H := Mem.drop (H' := [Itm.box aa 24 [v0_0]]) m
  obtain rfl := sj hd
  exact ⟨[(.int .i64 (-1))], ⟨f.get _ _ rfl, trivial⟩, f.defers, _, [], ag, m, rfl, rfl⟩
 ·refine k_false f rfl ai ?_
  refine k_skip ?_
  refine k_seq (k_region ?_)
  refine l_mv f rfl rfl fun a f => l_as f rfl rfl fun a f => l_nil ?_
  refine k_ret ?_
  have m : Mem W ae w H := Mem.drop (H' := [Itm.box aa 24 [v0_0]]) m
  obtain rfl := sj hd
  exact ⟨[(.int .i64 ab)], ⟨f.get _ _ rfl, trivial⟩, f.defers, _, [], ag, m, rfl, rfl⟩

theorem Wk.laws_szDecomp {W w : World} {G : GH} {H : List Itm} {v0_0 : Value} {v0_1 : Value} {x0_0 : (List (List Int))} {x0_1 : (List (List Int))} {x1 : Int} (m : Mem W G w (H)) (h0_0 : RSl (RSl (RI .i64)) G v0_0 x0_0) (h0_1 : RSl (RSl (RI .i64)) G v0_1 x0_1) {y : Int} (hd : D.laws_szDecomp x0_0 x0_1 x1 = some y) :
  Calls Tryz.prog 17 #[(.agg #[v0_0, v0_1]), (.int .i64 x1)] w (Res W G H (fun _ Ho v => Ho = [] ∧ v = (.int .i64 y))) := by
 refine calls_b (args := [(.agg #[v0_0, v0_1]), (.int .i64 x1)]) (N := 18) [.tmp 4] Tryz.func17 rfl rfl (Nat.le_of_ble_eq_true rfl) rfl fun a f => ?_
 unfold D.laws_szDecomp at hd
 refine k_seq (k_region ?_)
 refine l_box (cs := [v0_0, v0_1]) m f rfl rfl rfl fun aa w a m f => l_as f rfl rfl fun a f => l_nil (k_seq (k_region ?_))
 refine l_fieldAddr Tryz.underlying37 rfl Tryz.sizeOf22 (by decide) f rfl rfl fun a f => l_boxCell 0 0 m Pl22 f rfl rfl rfl rfl fun a f => l_mv f rfl rfl fun a f => ?_
 obtain ⟨ab, ac, hd⟩ := bind_some hd
 refine l_res f rfl rfl Tryz.call43 (Wk.laws_szInt64SS m h0_0 ac) fun ad ae af w ag m ah a f => ?_
 obtain ⟨rfl, rfl⟩ := ah
 have h0_0 := rd2 ag h0_0
 have h0_1 := rd2 ag h0_1
 refine l_as f rfl rfl fun a f => l_nil (k_seq (k_seq (k_region ?_)))
 refine l_mv f rfl rfl fun a f => l_in f rfl rfl rfl b_lss fun a f => l_nil ?_
 rcases cond_some hd with ⟨ai, hd⟩ | ⟨ai, hd⟩
 ·refine k_true f rfl ai ?_
  refine k_seq (k_region ?_)
  refine l_as f rfl rfl fun a f => l_nil ?_
  refine k_ret ?_
  have m : Mem W ae w H := Mem.drop (H' := [Itm.box aa 37 [v0_0, v0_1]]) m
  obtain rfl := sj hd
  exact ⟨[(.int .i64 (-1))], ⟨f.get _ _ rfl, trivial⟩, f.defers, _, [], ag, m, rfl, rfl⟩
 ·refine k_false f rfl ai ?_
  refine k_skip ?_
  refine k_seq (k_region ?_)
  refine l_fieldAddr Tryz.underlying37 rfl Tryz.sizeOf22 (by decide) f rfl rfl fun a f => l_boxCell 0 1 m Pl22 f rfl rfl rfl rfl fun a f => l_mv f rfl rfl fun a f => ?_
  obtain ⟨aj, ak, hd⟩ := bind_some hd
  refine l_res f rfl rfl Tryz.call43 (Wk.laws_szInt64SS m h0_1 ak) fun al am an w ao m ap a f => ?_
  obtain ⟨rfl, rfl⟩ := ap
  have h0_0 := rd2 ao h0_0
  have h0_1 := rd2 ao h0_1
  refine l_as f rfl rfl fun a f => l_nil (k_seq (k_seq (k_region ?_)))
  refine l_mv f rfl rfl fun a f => l_in f rfl rfl rfl b_lss fun a f => l_nil ?_
  rcases cond_some hd with ⟨aq, hd⟩ | ⟨aq, hd⟩
  ·refine k_true f rfl aq ?_
   refine k_seq (k_region ?_)
   refine l_as f rfl rfl fun a f => l_nil ?_
   refine k_ret ?_
   have m : Mem W am w H := Mem.drop (H' := [Itm.box aa 37 [v0_0, v0_1]]) m
   obtain rfl := sj hd
   exact ⟨[(.int .i64 (-1))], ⟨f.get _ _ rfl, trivial⟩, f.defers, _, [], (GLe.trans ag ao), m, rfl, rfl⟩
  ·refine k_false f rfl aq ?_
   refine k_skip ?_
   refine k_seq (k_region ?_)
   refine l_mv f rfl rfl fun a f => l_as f rfl rfl fun a f => l_nil ?_
   refine k_ret ?_
   have m : Mem W am w H := Mem.drop (H' := [Itm.box aa 37 [v0_0, v0_1]]) m
   obtain rfl := sj hd
   exact ⟨[(.int .i64 aj)], ⟨f.get _ _ rfl, trivial⟩, f.defers, _, [], (GLe.trans ag ao), m, rfl, rfl⟩

theorem Wk.laws_toInt64S {W w : World} {G : GH} {H : List Itm} {v0 : Value} {x0 : (List Int)} (m : Mem W G w (H)) (h0 : RSl (RI .i64) G v0 x0) {y : ((List Int))} (hd : D.laws_toInt64S x0 = some y) :
  Calls Tryz.prog 22 #[v0] w (Res W G H (fun G' Ho v => ∃ r0 : Value, ∃ i0 : Itm, Ho = [i0] ∧ r0 = v ∧ Ow (RI .i64) 2 G' i0 r0 y)) := by
 refine calls_b (args := [v0]) (N := 22) [.tmp 2] Tryz.func22 rfl rfl (Nat.le_of_ble_eq_true rfl) rfl fun a f => ?_
 unfold D.laws_toInt64S at hd
 refine k_seq (k_region ?_)
 refine l_as f rfl rfl fun a f => l_nil (k_seq (k_region ?_))
 refine l_mv f rfl rfl fun a f => l_len Tryz.underlying42 f rfl rfl h0 fun a f => ?_
 obtain ⟨aa, ab, hd⟩ := bind_some hd
 refine l_make (R := (RI .i64)) m T42 rfl (by decide) rfl f rfl rfl rfl ab fun ac ad w a m ae f => l_as f rfl rfl fun a f => l_nil (k_seq (k_seq (k_region ?_)))
 refine l_as f rfl rfl fun a f => l_nil ?_
 obtain ⟨af, ag, hd⟩ := bind_some hd
 refine k_cut (fun a w => ∃ ah : List Int, ah = af ∧ ∃ (ai : GH) (aj : Itm), GLe G ai ∧ Fr a 22 [(3, ad)] ∧ Mem W ai w (aj :: H) ∧ Ow (RI .i64) 2 ai aj ad ah) ?_ ?_
 ·refine k_block ?_
  refine k_loop (fun ak a w => ∃ al : List Int, ∃ am : Int, (al, am) = ak ∧ ∃ (an : GH) (ao : Itm), GLe G an ∧ Fr a 22 [(0, v0), (3, ad), (4, (.int .i64 am))] ∧ Mem W an w (ao :: H) ∧ Ow (RI .i64) 2 an ao ad al) ag ⟨_, _, rfl, _, ac, (GLe.refl _), f.weak ⟨rfl, rfl, rfl, trivial⟩, m, ae⟩ ?_
  clear ag f m
  rintro ak ap aq ar a w ⟨al, am, rfl, an, ao, au, f, m, av⟩
  have h0 := rd1 au h0
  refine k_seq (k_seq (k_region ?_))
  refine l_mv f rfl rfl fun a f => l_mv f rfl rfl fun a f => l_len Tryz.underlying42 f rfl rfl h0 fun a f => l_in f rfl rfl rfl b_lss fun a f => l_nil ?_
  rcases cond_some aq with ⟨aw, aq⟩ | ⟨aw, aq⟩
  ·refine k_true f rfl aw ?_
   refine k_skip ?_
   refine k_seq (k_block (k_region ?_))
   refine l_mv f rfl rfl fun a f => l_mv f rfl rfl fun a f => l_mv f rfl rfl fun a f => l_mv f rfl rfl fun a f => ?_
   obtain ⟨ax, ay, aq⟩ := bind_some aq
   refine l_at T42 f rfl rfl rfl h0 ay fun az aA a aB aC f => ?_
   subst aC
   refine l_loadAt m Pl2 f rfl rfl aB fun a f => ?_
   obtain ⟨aD, aE, aq⟩ := bind_some aq
   refine l_own_at 0 m av rfl T42 f rfl rfl rfl aE fun aF a aG f => l_own_store 0 m av rfl Tryz.sizeOf2 f rfl rfl aG aE rfl rfl rfl fun aH w m aI => l_nil (k_region ?_)
   refine l_mv f rfl rfl fun a f => l_in f rfl rfl rfl b_add fun a f => l_as f rfl rfl fun a f => l_nil ?_
   obtain rfl := sj aq
   exact ⟨_, rfl, _, _, rfl, _, aH, au, f.weak ⟨rfl, rfl, rfl, trivial⟩, m, aI⟩
  ·refine k_false f rfl aw ?_
   refine k_exit rfl ?_
   obtain rfl := sj aq
   obtain rfl := ar _ rfl
   exact ⟨_, rfl, _, ao, au, f.weak ⟨rfl, trivial⟩, m, av⟩
 ·rintro a w ⟨ah, rfl, ai, aj, aJ, f, m, aK⟩
  refine k_seq (k_region ?_)
  refine l_mv f rfl rfl fun a f => l_as f rfl rfl fun a f => l_nil ?_
  refine k_ret ?_
  obtain rfl := sj hd
  exact ⟨[ad], ⟨f.get _ _ rfl, trivial⟩, f.defers, _, [aj], aJ, m, _, _, rfl, rfl, aK⟩

theorem Wk.laws_toInt64SS {W w : World} {G : GH} {H : List Itm} {v0 : Value} {x0 : (List (List Int))} (m : Mem W G w (H)) (h0 : RSl (RSl (RI .i64)) G v0 x0) {y : ((List (List Int)))} (hd : D.laws_toInt64SS x0 = some y) :
  Calls Tryz.prog 47 #[v0] w (Res W G H (fun G' Ho v => ∃ r0 : Value, ∃ i0 : Itm, Ho = [i0] ∧ r0 = v ∧ Ow2 (RI .i64) 42 2 G' i0 r0 y)) := by
 refine calls_b (args := [v0]) (N := 23) [.tmp 2] Tryz.func47 rfl rfl (Nat.le_of_ble_eq_true rfl) rfl fun a f => ?_
 unfold D.laws_toInt64SS at hd
 refine k_seq (k_region ?_)
 refine l_as f rfl rfl fun a f => l_nil (k_seq (k_region ?_))
 refine l_mv f rfl rfl fun a f => l_len Tryz.underlying22 f rfl rfl h0 fun a f => ?_
 obtain ⟨aa, ab, hd⟩ := bind_some hd
 refine l_make2 (R := (RI .i64)) (t2 := 2) m T22 (by decide) f rfl rfl rfl ab fun ac ad w a m ae f => l_as f rfl rfl fun a f => l_nil (k_seq (k_seq (k_region ?_)))
 refine l_as f rfl rfl fun a f => l_nil ?_
 obtain ⟨af, ag, hd⟩ := bind_some hd
 refine k_cut (fun a w => ∃ ah : List (List Int), ah = af ∧ ∃ (ai : GH) (aj : Itm), GLe G ai ∧ Fr a 23 [(3, ad)] ∧ Mem W ai w (aj :: H) ∧ Ow2 (RI .i64) 42 2 ai aj ad ah) ?_ ?_
 ·refine k_block ?_
  refine k_loop (fun ak a w => ∃ al : List (List Int), ∃ am : Int, (al, am) = ak ∧ ∃ (an : GH) (ao : Itm), GLe G an ∧ Fr a 23 [(0, v0), (3, ad), (4, (.int .i64 am))] ∧ Mem W an w (ao :: H) ∧ Ow2 (RI .i64) 42 2 an ao ad al) ag ⟨_, _, rfl, _, ac, (GLe.refl _), f.weak ⟨rfl, rfl, rfl, trivial⟩, m, ae⟩ ?_
  clear ag f m
  rintro ak ap aq ar a w ⟨al, am, rfl, an, ao, au, f, m, av⟩
  have h0 := rd2 au h0
  refine k_seq (k_seq (k_region ?_))
  refine l_mv f rfl rfl fun a f => l_mv f rfl rfl fun a f => l_len Tryz.underlying22 f rfl rfl h0 fun a f => l_in f rfl rfl rfl b_lss fun a f => l_nil ?_
  rcases cond_some aq with ⟨aw, aq⟩ | ⟨aw, aq⟩
  ·refine k_true f rfl aw ?_
   refine k_skip ?_
   refine k_seq (k_block (k_region ?_))
   refine l_mv f rfl rfl fun a f => l_mv f rfl rfl fun a f => l_mv f rfl rfl fun a f => l_mv f rfl rfl fun a f => ?_
   obtain ⟨ax, ay, aq⟩ := bind_some aq
   refine l_at T22 f rfl rfl rfl h0 ay fun az aA a aB aC f => l_loadAt m Pl42 f rfl rfl aB fun a f => ?_
   obtain ⟨aD, aE, aq⟩ := bind_some aq
   refine l_res f rfl rfl Tryz.call22 (Wk.laws_toInt64S m aC aE) fun aF aG aH w aI m aJ a f => ?_
   obtain ⟨aK, aL, rfl, rfl, aM⟩ := aJ
   have h0 := rd2 aI h0
   have aB := At.mono aI aB
   have aC := rd1 aI aC
   have av := Ow2.mono (RI.mono _) aI av
   obtain ⟨aN, aO, aq⟩ := bind_some aq
   refine l_own2_at 1 m av rfl T22 f rfl rfl rfl aO fun aP a aQ f => ?_
   have m := m.front 1 rfl
   refine l_own2_store m av aM Tryz.sizeOf42 f rfl rfl aQ aO fun aR w m aS => l_nil (k_region ?_)
   refine l_mv f rfl rfl fun a f => l_in f rfl rfl rfl b_add fun a f => l_as f rfl rfl fun a f => l_nil ?_
   obtain rfl := sj aq
   exact ⟨_, rfl, _, _, rfl, _, aR, (GLe.trans au aI), f.weak ⟨rfl, rfl, rfl, trivial⟩, m, aS⟩
  ·refine k_false f rfl aw ?_
   refine k_exit rfl ?_
   obtain rfl := sj aq
   obtain rfl := ar _ rfl
   exact ⟨_, rfl, _, ao, au, f.weak ⟨rfl, trivial⟩, m, av⟩
 ·rintro a w ⟨ah, rfl, ai, aj, aT, f, m, aU⟩
  refine k_seq (k_region ?_)
  refine l_mv f rfl rfl fun a f => l_as f rfl rfl fun a f => l_nil ?_
  refine k_ret ?_
  obtain rfl := sj hd
  exact ⟨[ad], ⟨f.get _ _ rfl, trivial⟩, f.defers, _, [aj], aT, m, _, _, rfl, rfl, aU⟩

theorem Wk.laws_toGraph {W w : World} {G : GH} {H : List Itm} {v0_0 : Value} {x0_0 : (List (List Int))} (m : Mem W G w (H)) (h0_0 : RSl (RSl (RI .i64)) G v0_0 x0_0) {y : ((List (List Int)))} (hd : D.laws_toGraph x0_0 = some y) :
  Calls Tryz.prog 10 #[(.agg #[v0_0])] w (Res W G H (fun G' Ho v => ∃ r0 : Value, ∃ i0 : Itm, Ho = [i0] ∧ v = (.agg #[r0]) ∧ Ow2 (RI .i64) 42 2 G' i0 r0 y)) := by
 refine calls_b (args := [(.agg #[v0_0])]) (N := 9) [.cell 2 30] Tryz.func10 rfl rfl (Nat.le_of_ble_eq_true rfl) rfl fun a f => ?_
 unfold D.laws_toGraph at hd
 refine k_seq (k_region ?_)
 refine l_box (cs := [v0_0]) m f rfl rfl rfl fun aa w a m f => l_alloc (cs := [(.slice none 0 0)]) Tryz.zeroValue30 m f rfl rfl fun ab w a m f => l_nil (k_seq (k_region ?_))
 refine l_alloc (cs := [(.slice none 0 0)]) Tryz.zeroValue30 m f rfl rfl fun ac w a m f => l_nil (k_seq (k_region ?_))
 refine l_fieldAddr Tryz.underlying24 rfl Tryz.sizeOf22 (by decide) f rfl rfl fun a f => l_boxCell 2 0 m Pl22 f rfl rfl rfl rfl fun a f => ?_
 obtain ⟨ad, ae, hd⟩ := bind_some hd
 refine l_res f rfl rfl Tryz.call47 (Wk.laws_toInt64SS m h0_0 ae) fun af ag ah w ai m aj a f => ?_
 obtain ⟨ak, al, rfl, rfl, am⟩ := aj
 have h0_0 := rd2 ai h0_0
 refine l_fieldAddr Tryz.underlying30 rfl Tryz.sizeOf22 (by decide) f rfl rfl fun a f => l_boxStore 1 0 (ds := [ak]) m Tryz.sizeOf22 f rfl rfl (Ow2.cells 0 m am rfl) (ones_cons (Ow2.one1 0 m am rfl) ones_nil) rfl (Nat.le_of_ble_eq_true rfl) rfl fun w m => l_nil (k_seq (k_region ?_))
 refine l_boxAgg 1 0 (ds := [ak]) m Ag30 f rfl rfl rfl rfl rfl fun a f => l_boxStore 2 0 (ds := [ak]) m Tryz.sizeOf30 f rfl rfl rfl (ones_cons (Ow2.one1 0 m am rfl) ones_nil) rfl (Nat.le_of_ble_eq_true rfl) rfl fun w m => l_nil ?_
 refine k_ret ?_
 have an := rr_agg (P := Tryz.prog) 2 m Ag30 f (s := 2) rfl rfl rfl
 have m := m.eraseAt 3
 have m := m.eraseAt 2
 have m := m.eraseAt 1
 obtain rfl := sj hd
 exact ⟨[(.agg #[ak])], ⟨an, trivial⟩, f.defers, _, [al], ai, m, _, _, rfl, rfl, am⟩

theorem Wk.laws_toDecomp {W w : World} {G : GH} {H : List Itm} {v0_0 : Value} {v0_1 : Value} {x0_0 : (List (List Int))} {x0_1 : (List (List Int))} (m : Mem W G w (H)) (h0_0 : RSl (RSl (RI .i64)) G v0_0 x0_0) (h0_1 : RSl (RSl (RI .i64)) G v0_1 x0_1) {y : ((List (List Int))) × ((List (List Int)))} (hd : D.laws_toDecomp x0_0 x0_1 = some y) :
  Calls Tryz.prog 19 #[(.agg #[v0_0, v0_1])] w (Res W G H (fun G' Ho v => ∃ r0 : Value, ∃ i0 : Itm, ∃ r2 : Value, ∃ i2 : Itm, Ho = [i0, i2] ∧ v = (.agg #[r0, r2]) ∧ Ow2 (RI .i64) 42 2 G' i0 r0 y.1 ∧ Ow2 (RI .i64) 42 2 G' i2 r2 y.2)) := by
 refine calls_b (args := [(.agg #[v0_0, v0_1])]) (N := 13) [.cell 2 27] Tryz.func19 rfl rfl (Nat.le_of_ble_eq_true rfl) rfl fun a f => ?_
 unfold D.laws_toDecomp at hd
 refine k_seq (k_region ?_)
 refine l_box (cs := [v0_0, v0_1]) m f rfl rfl rfl fun aa w a m f => l_alloc (cs := [(.slice none 0 0), (.slice none 0 0)]) Tryz.zeroValue27 m f rfl rfl fun ab w a m f => l_nil (k_seq (k_region ?_))
 refine l_alloc (cs := [(.slice none 0 0), (.slice none 0 0)]) Tryz.zeroValue27 m f rfl rfl fun ac w a m f => l_nil (k_seq (k_region ?_))
 refine l_fieldAddr Tryz.underlying37 rfl Tryz.sizeOf22 (by decide) f rfl rfl fun a f => l_boxCell 2 0 m Pl22 f rfl rfl rfl rfl fun a f => ?_
 obtain ⟨ad, ae, hd⟩ := bind_some hd
 refine l_res f rfl rfl Tryz.call47 (Wk.laws_toInt64SS m h0_0 ae) fun af ag ah w ai m aj a f => ?_
 obtain ⟨ak, al, rfl, rfl, am⟩ := aj
 have h0_0 := rd2 ai h0_0
 have h0_1 := rd2 ai h0_1
 refine l_fieldAddr Tryz.underlying27 rfl Tryz.sizeOf22 (by decide) f rfl rfl fun a f => l_boxStore 1 0 (ds := [ak]) m Tryz.sizeOf22 f rfl rfl (Ow2.cells 0 m am rfl) (ones_cons (Ow2.one1 0 m am rfl) ones_nil) rfl (Nat.le_of_ble_eq_true rfl) rfl fun w m => l_nil (k_seq (k_region ?_))
 refine l_fieldAddr Tryz.underlying37 rfl Tryz.sizeOf22 (by decide) f rfl rfl fun a f => l_boxCell 3 1 m Pl22 f rfl rfl rfl rfl fun a f => ?_
 obtain ⟨an, ao, hd⟩ := bind_some hd
 refine l_res f rfl rfl Tryz.call47 (Wk.laws_toInt64SS m h0_1 ao) fun ap aq ar w au m av a f => ?_
 obtain ⟨aw, ax, rfl, rfl, ay⟩ := av
 have h0_0 := rd2 au h0_0
 have h0_1 := rd2 au h0_1
 have am := Ow2.mono (RI.mono _) au am
 refine l_fieldAddr Tryz.underlying27 rfl Tryz.sizeOf22 (by decide) f rfl rfl fun a f => l_boxStore 2 1 (ds := [aw]) m Tryz.sizeOf22 f rfl rfl (Ow2.cells 0 m ay rfl) (ones_cons (Ow2.one1 0 m ay rfl) ones_nil) rfl (Nat.le_of_ble_eq_true rfl) rfl fun w m => l_nil (k_seq (k_region ?_))
 refine l_boxAgg 2 0 (ds := [ak, aw]) m Ag27 f rfl rfl rfl rfl rfl fun a f => l_boxStore 3 0 (ds := [ak, aw]) m Tryz.sizeOf27 f rfl rfl rfl (ones_cons (Ow2.one1 1 m am rfl) (ones_cons (Ow2.one1 0 m ay rfl) ones_nil)) rfl (Nat.le_of_ble_eq_true rfl) rfl fun w m => l_nil ?_
 refine k_ret ?_
 have az := rr_agg (P := Tryz.prog) 3 m Ag27 f (s := 2) rfl rfl rfl
 have m := m.front 1 rfl
 have m := m.eraseAt 4
 have m : Mem W aq w (al :: ax :: Itm.box ac 27 [ak, aw] :: H) := m.eraseAt 3
 have m := m.eraseAt 2
 obtain rfl := sj hd
 exact ⟨[(.agg #[ak, aw])], ⟨az, trivial⟩, f.defers, _, [al, ax], (GLe.trans ai au), m, _, _, _, _, rfl, rfl, am, ay⟩

theorem Wk.spec_l1Size {W w : World} {G : GH} {H : List Itm} {v0_0 : Value} {x0_0 : (List (List Int))} (m : Mem W G w (H)) (h0_0 : RSl (RSl (RI .i64)) G v0_0 x0_0) {y : Int} (hd : D.spec_l1Size x0_0 = some y) :
  Calls Tryz.prog 80 #[(.agg #[v0_0])] w (Res W G H (fun _ Ho v => Ho = [] ∧ v = (.int .i64 y))) := by
 refine calls_b (args := [(.agg #[v0_0])]) (N := 6) [.tmp 2] Tryz.func80 rfl rfl (Nat.le_of_ble_eq_true rfl) rfl fun a f => ?_
 unfold D.spec_l1Size at hd
 refine k_seq (k_region ?_)
 refine l_box (cs := [v0_0]) m f rfl rfl rfl fun aa w a m f => l_as f rfl rfl fun a f => l_nil (k_seq (k_region ?_))
 refine l_fieldAddr Tryz.underlying30 rfl Tryz.sizeOf22 (by decide) f rfl rfl fun a f => l_boxCell 0 0 m Pl22 f rfl rfl rfl rfl fun a f => l_len Tryz.underlying22 f rfl rfl h0_0 fun a f => l_as f rfl rfl fun a f => l_nil ?_
 refine k_ret ?_
 have m : Mem W G w H := Mem.drop (H' := [Itm.box aa 30 [v0_0]]) m
 obtain rfl := sj hd
 exact ⟨[(.int .i64 (x0_0.length : Int))], ⟨f.get _ _ rfl, trivial⟩, f.defers, _, [], (GLe.refl _), m, rfl, rfl⟩

theorem Wk.spec_l1In {W w : World} {G : GH} {H : List Itm} {x0 : Int} {x1 : Int} {x2 : Int} (m : Mem W G w (H))  {y : Bool} (hd : D.spec_l1In x0 x1 x2 = some y) :
  Calls Tryz.prog 141 #[(.int .i64 x0), (.int .i64 x1), (.int .i64 x2)] w (Res W G H (fun _ Ho v => Ho = [] ∧ v = (.bool y))) := by
 refine calls_b (args := [(.int .i64 x0), (.int .i64 x1), (.int .i64 x2)]) (N := 15) [.tmp 6] Tryz.func141 rfl rfl (Nat.le_of_ble_eq_true rfl) rfl fun a f => ?_
 unfold D.spec_l1In at hd
 refine k_seq (k_region ?_)
 refine l_as f rfl rfl fun a f => l_nil (k_seq (k_region ?_))
 refine l_mv f rfl rfl fun a f => l_mv f rfl rfl fun a f => l_in f rfl rfl rfl b_geq fun a f => l_mv f rfl rfl fun a f => ?_
 refine l_cut 4 (fun a w => ∃ aa, GLe G aa ∧ Mem W aa w (H) ∧ Fr a 15 [(0, (.int .i64 x0)), (1, (.int .i64 x1)), (2, (.int .i64 x2)), (7, (.int .i64 x0)), (8, (.int .i64 x1)), (9, (.bool (decide (x1 ≤ x0)))), (10, (.bool (decide (x1 ≤ x0)))), (14, (.bool ((decide (x1 ≤ x0)) && (decide (x0 ≤ x2)))))]) ?_ ?_
 ·rcases Bool.eq_false_or_eq_true (decide (x1 ≤ x0)) with ab | ab
  ·refine l_run f rfl rfl ab ?_
   refine l_mv f rfl rfl fun a f => l_run f rfl rfl ab ?_
   refine l_mv f rfl rfl fun a f => l_run f rfl rfl ab ?_
   refine l_in f rfl rfl rfl b_leq fun a f => l_op f rfl rfl rfl (r_pickT (f.eval rfl) ab (f.eval rfl)) fun a f => ?_
   exact ⟨_, (GLe.refl _), m, f.weak ⟨rfl, rfl, rfl, rfl, rfl, rfl, rfl, by rw [ab]; rfl, trivial⟩⟩
  ·refine l_not' f rfl rfl rfl ab fun a f => ?_
   refine l_not' f rfl rfl rfl ab fun a f => l_not' f rfl rfl rfl ab fun a f => l_op f rfl rfl rfl (r_pickF (f.eval rfl) ab (f.eval rfl)) fun a f => ?_
   exact ⟨_, (GLe.refl _), m, f.weak ⟨rfl, rfl, rfl, rfl, rfl, rfl, rfl, by rw [ab]; rfl, trivial⟩⟩
 ·rintro a w ⟨aa, ac, m, f⟩
  refine l_as f rfl rfl fun a f => l_nil ?_
  refine k_ret ?_
  obtain rfl := sj hd
  exact ⟨[(.bool ((decide (x1 ≤ x0)) && (decide (x0 ≤ x2))))], ⟨f.get _ _ rfl, trivial⟩, f.defers, _, [], ac, m, rfl, rfl⟩

theorem Wk.spec_l1Set {W w : World} {G : GH} {H : List Itm} {v0 : Value} {x0 : (List Int)} {x1 : Int} (m : Mem W G w (H)) (h0 : RSl (RI .i64) G v0 x0) {y : Bool} (hd : D.spec_l1Set x0 x1 = some y) :
  Calls Tryz.prog 79 #[v0, (.int .i64 x1)] w (Res W G H (fun _ Ho v => Ho = [] ∧ v = (.bool y))) := by
 refine calls_b (args := [v0, (.int .i64 x1)]) (N := 40) [.tmp 4] Tryz.func79 rfl rfl (Nat.le_of_ble_eq_true rfl) rfl fun a f => ?_
 unfold D.spec_l1Set at hd
 refine k_seq (k_region ?_)
 refine l_as f rfl rfl fun a f => l_nil (k_seq (k_seq (k_region ?_)))
 refine l_mv f rfl rfl fun a f => l_len Tryz.underlying42 f rfl rfl h0 fun a f => l_mv f rfl rfl fun a f => l_in f rfl rfl rfl b_gtr fun a f => l_nil ?_
 rcases cond_some hd with ⟨aa, hd⟩ | ⟨aa, hd⟩
 ·refine k_true f rfl aa ?_
  refine k_seq (k_region ?_)
  refine l_as f rfl rfl fun a f => l_nil ?_
  refine k_ret ?_
  obtain rfl := sj hd
  exact ⟨[(.bool false)], ⟨f.get _ _ rfl, trivial⟩, f.defers, _, [], (GLe.refl _), m, rfl, rfl⟩
 ·refine k_false f rfl aa ?_
  refine k_skip ?_
  refine k_seq (k_seq (k_region ?_))
  refine l_as f rfl rfl fun a f => l_nil ?_
  obtain ⟨ab, ac, hd⟩ := bind_some hd
  refine k_cut (fun a w => ∃ q_150' : Unit, ab = .inl q_150' ∧ ∃ (ad : GH), GLe G ad ∧ Fr a 40 [] ∧ Mem W ad w (H)) ?_ ?_
  ·refine k_block ?_
   refine k_loop (fun ae a w => ∃ af : Int, af = ae ∧ ∃ (ag : GH), GLe G ag ∧ Fr a 40 [(0, v0), (1, (.int .i64 x1)), (5, (.int .i64 af))] ∧ Mem W ag w (H)) ac ⟨_, rfl, _, (GLe.refl _), f.weak ⟨rfl, rfl, rfl, trivial⟩, m⟩ ?_
   clear ac f m
   rintro ae ah ai aj a w ⟨af, rfl, ag, ak, f, m⟩
   have h0 := rd1 ak h0
   refine k_seq (k_seq (k_region ?_))
   refine l_mv f rfl rfl fun a f => l_mv f rfl rfl fun a f => l_len Tryz.underlying42 f rfl rfl h0 fun a f => l_in f rfl rfl rfl b_lss fun a f => l_nil ?_
   rcases cond_some ai with ⟨al, ai⟩ | ⟨al, ai⟩
   ·refine k_true f rfl al ?_
    refine k_skip ?_
    refine k_seq (k_block (k_seq ?_))
    refine k_draw 24 Follows (by kernel_rfl) m ?_
    refine q_mv 0 24 rfl (by kernel_rfl) f rfl rfl rfl fun a f => q_mv 1 24 rfl (by kernel_rfl) f rfl rfl rfl fun a f => ?_
    obtain ⟨am, an, ai⟩ := bind_some ai
    refine q_at (i := 2) 24 T42 h0 an rfl (by kernel_rfl) rfl f rfl rfl rfl rfl fun ao ap a aq ar f => ?_
    subst ar
    refine q_loadAt (i := 3) 24 Pl2 aq rfl (by kernel_rfl) rfl f rfl rfl rfl fun a f => q_mv 4 24 rfl (by kernel_rfl) f rfl rfl rfl fun a f => q_p 5 24 rfl (by kernel_rfl) f rfl rfl rfl (fun _ => r_int (f.eval rfl) (f.eval rfl) b_sub) fun a f => ?_
    obtain ⟨au, av, ai⟩ := bind_some ai
    refine q_call (i := 6) 24 rfl (by kernel_rfl) rfl f rfl rfl rfl Tryz.call141 (fun _ _ w aw m => Wk.spec_l1In m  av) fun a f => q_p 7 24 rfl (by kernel_rfl) f rfl rfl rfl (fun _ => r_not (f.eval rfl)) fun a f => q_mv 8 24 rfl (by kernel_rfl) f rfl rfl rfl fun a f => ?_
    obtain ⟨ax, ay, ai⟩ := bind_some ai
    refine q_cut (fuel' := 0) (listed' := #[true, true, true, true, true, true, true, true, true, true, true, true, true, true, true, true, true, true, true, true, true, true, true, true]) (fun a => Fr a 40 [(0, v0), (1, (.int .i64 x1)), (5, (.int .i64 af)), (13, (.bool (decide (af < (x0.length : Int))))), (16, v0), (17, (.int .i64 af)), (18, ao), (19, (.int .i64 am)), (20, (.int .i64 x1)), (21, (.int .i64 (IntKind.i64.wrap (x1 - 1)))), (22, (.bool au)), (23, (.bool (!au))), (24, (.bool (!au))), (39, (.bool ax))]) ?_ ?_
    ·intro a f
     refine q_end fun az w aA m => ?_
     have h0 := rd1 aA h0
     have aq := At.mono aA aq
     refine l_nil ?_
     rcases cond_some ai with ⟨aB, ai⟩ | ⟨aB, ai⟩
     ·refine k_true f rfl aB ?_
      refine k_seq (k_region ?_)
      refine l_as f rfl rfl fun a f => l_nil ?_
      refine k_ret ?_
      obtain rfl := sj ai
      obtain rfl := aj _ rfl
      obtain rfl := sj hd
      exact ⟨[(.bool false)], ⟨f.get _ _ rfl, trivial⟩, f.defers, _, [], (GLe.trans ak aA), m, rfl, rfl⟩
     ·refine k_false f rfl aB ?_
      refine k_skip ?_
      refine k_region ?_
      refine l_mv f rfl rfl fun a f => l_in f rfl rfl rfl b_add fun a f => l_as f rfl rfl fun a f => l_nil ?_
      obtain rfl := sj ai
      exact ⟨_, rfl, _, rfl, _, (GLe.trans ak aA), f.weak ⟨rfl, rfl, rfl, trivial⟩, m⟩
    ·intro aC
     rcases cond_some ay with ⟨aD, ay⟩ | ⟨aD, ay⟩
     ·refine q_ng 9 24 rfl (by kernel_rfl) f rfl rfl aD rfl fun a f => ?_
      refine q_ng 10 24 rfl (by kernel_rfl) f rfl rfl aD rfl fun a f => q_ng 11 24 rfl (by kernel_rfl) f rfl rfl aD rfl fun a f => q_nu 12 24 rfl (by kernel_rfl) f rfl rfl rfl fun a f => q_nu 13 24 rfl (by kernel_rfl) f rfl rfl rfl fun a f => q_nu 14 24 rfl (by kernel_rfl) f rfl rfl rfl fun a f => q_nu 15 24 rfl (by kernel_rfl) f rfl rfl rfl fun a f => q_nu 16 24 rfl (by kernel_rfl) f rfl rfl rfl fun a f => q_nu 17 24 rfl (by kernel_rfl) f rfl rfl rfl fun a f => q_nu 18 24 rfl (by kernel_rfl) f rfl rfl rfl fun a f => q_nu 19 24 rfl (by kernel_rfl) f rfl rfl rfl fun a f => q_nu 20 24 rfl (by kernel_rfl) f rfl rfl rfl fun a f => q_nu 21 24 rfl (by kernel_rfl) f rfl rfl rfl fun a f => q_ng 22 24 rfl (by kernel_rfl) f rfl rfl aD rfl fun a f => q_p 23 24 rfl (by kernel_rfl) f rfl rfl rfl (fun _ => r_pickT (f.eval rfl) aD (f.eval rfl)) fun a f => ?_
      obtain rfl := sj ay
      exact aC _ (f.weak ⟨rfl, rfl, rfl, rfl, rfl, rfl, rfl, rfl, rfl, rfl, rfl, rfl, rfl, rfl, trivial⟩)
     ·refine q_mv 9 24 rfl (by kernel_rfl) f (wanted_of f rfl rfl rfl aD) rfl rfl fun a f => ?_
      refine q_p 10 24 rfl (by kernel_rfl) f (wanted_of f rfl rfl rfl aD) rfl rfl (fun _ => r_int (f.eval rfl) (f.eval rfl) b_gtr) fun a f => q_mv 11 24 rfl (by kernel_rfl) f (wanted_of f rfl rfl rfl aD) rfl rfl fun a f => ?_
      obtain ⟨aE, aF, ay⟩ := bind_some ay
      refine q_cut (fuel' := 1) (listed' := #[true, true, true, true, true, true, true, true, true, true, true, true, true, true, true, true, true, true, true, true, true, true, true, false]) (fun a => Fr a 40 [(0, v0), (1, (.int .i64 x1)), (5, (.int .i64 af)), (13, (.bool (decide (af < (x0.length : Int))))), (16, v0), (17, (.int .i64 af)), (18, ao), (19, (.int .i64 am)), (20, (.int .i64 x1)), (21, (.int .i64 (IntKind.i64.wrap (x1 - 1)))), (22, (.bool au)), (23, (.bool (!au))), (24, (.bool (!au))), (25, (.int .i64 af)), (26, (.bool (decide ((0 : Int) < af)))), (27, (.bool (decide ((0 : Int) < af)))), (38, (.bool aE))]) ?_ ?_
      ·intro a f
       refine q_p 23 24 rfl (by kernel_rfl) f rfl rfl rfl (fun _ => r_pickF (f.eval rfl) aD (f.eval rfl)) fun a f => ?_
       obtain rfl := sj ay
       exact aC _ (f.weak ⟨rfl, rfl, rfl, rfl, rfl, rfl, rfl, rfl, rfl, rfl, rfl, rfl, rfl, rfl, trivial⟩)
      ·intro aG
       rcases cond_some aF with ⟨aH, aF⟩ | ⟨aH, aF⟩
       ·refine q_mv 12 24 rfl (by kernel_rfl) f (wanted_of f rfl rfl rfl aH) rfl rfl fun a f => ?_
        refine q_mv 13 24 rfl (by kernel_rfl) f (wanted_of f rfl rfl rfl aH) rfl rfl fun a f => ?_
        obtain ⟨aI, aJ, aF⟩ := bind_some aF
        refine q_at (i := 14) 24 T42 h0 aJ rfl (by kernel_rfl) rfl f (wanted_of f rfl rfl rfl aH) rfl rfl rfl fun aK aL a aM aN f => ?_
        subst aN
        refine q_loadAt (i := 15) 24 Pl2 aM rfl (by kernel_rfl) rfl f (wanted_of f rfl rfl rfl aH) rfl rfl fun a f => q_mv 16 24 rfl (by kernel_rfl) f (wanted_of f rfl rfl rfl aH) rfl rfl fun a f => q_mv 17 24 rfl (by kernel_rfl) f (wanted_of f rfl rfl rfl aH) rfl rfl fun a f => q_p 18 24 rfl (by kernel_rfl) f (wanted_of f rfl rfl rfl aH) rfl rfl (fun _ => r_int (f.eval rfl) (f.eval rfl) b_sub) fun a f => ?_
        obtain ⟨aO, aP, aF⟩ := bind_some aF
        refine q_at (i := 19) 24 T42 h0 aP rfl (by kernel_rfl) rfl f (wanted_of f rfl rfl rfl aH) rfl rfl rfl fun aQ aR a aS aT f => ?_
        subst aT
        refine q_loadAt (i := 20) 24 Pl2 aS rfl (by kernel_rfl) rfl f (wanted_of f rfl rfl rfl aH) rfl rfl fun a f => q_p 21 24 rfl (by kernel_rfl) f (wanted_of f rfl rfl rfl aH) rfl rfl (fun _ => r_int (f.eval rfl) (f.eval rfl) b_leq) fun a f => q_p 22 24 rfl (by kernel_rfl) f (wanted_of f rfl rfl rfl aD) rfl rfl (fun _ => r_pickT (f.eval rfl) aH (f.eval rfl)) fun a f => ?_
        obtain rfl := sj aF
        exact aG _ (f.weak ⟨rfl, rfl, rfl, rfl, rfl, rfl, rfl, rfl, rfl, rfl, rfl, rfl, rfl, rfl, rfl, rfl, rfl, trivial⟩)
       ·refine q_ng 12 24 rfl (by kernel_rfl) f rfl rfl aH rfl fun a f => ?_
        refine q_ng 13 24 rfl (by kernel_rfl) f rfl rfl aH rfl fun a f => q_ng 14 24 rfl (by kernel_rfl) f rfl rfl aH rfl fun a f => q_ng 15 24 rfl (by kernel_rfl) f rfl rfl aH rfl fun a f => q_ng 16 24 rfl (by kernel_rfl) f rfl rfl aH rfl fun a f => q_ng 17 24 rfl (by kernel_rfl) f rfl rfl aH rfl fun a f => q_ng 18 24 rfl (by kernel_rfl) f rfl rfl aH rfl fun a f => q_ng 19 24 rfl (by kernel_rfl) f rfl rfl aH rfl fun a f => q_ng 20 24 rfl (by kernel_rfl) f rfl rfl aH rfl fun a f => q_ng 21 24 rfl (by kernel_rfl) f rfl rfl aH rfl fun a f => q_p 22 24 rfl (by kernel_rfl) f (wanted_of f rfl rfl rfl aD) rfl rfl (fun _ => r_pickF (f.eval rfl) aH (f.eval rfl)) fun a f => ?_
        obtain rfl := sj aF
        exact aG _ (f.weak ⟨rfl, rfl, rfl, rfl, rfl, rfl, rfl, rfl, rfl, rfl, rfl, rfl, rfl, rfl, rfl, rfl, rfl, trivial⟩)
   ·refine k_false f rfl al ?_
    refine k_exit rfl ?_
    obtain rfl := sj ai
    obtain rfl := aj _ rfl
    exact ⟨_, rfl, _, ak, f.weak trivial, m⟩
  ·rintro a w ⟨_, rfl, ad, aU, f, m⟩
   refine k_seq (k_region ?_)
   refine l_as f rfl rfl fun a f => l_nil ?_
   refine k_ret ?_
   obtain rfl := sj hd
   exact ⟨[(.bool true)], ⟨f.get _ _ rfl, trivial⟩, f.defers, _, [], aU, m, rfl, rfl⟩

theorem Wk.spec_l1Has {W w : World} {G : GH} {H : List Itm} {v0 : Value} {x0 : (List Int)} {x1 : Int} (m : Mem W G w (H)) (h0 : RSl (RI .i64) G v0 x0) {y : Bool} (hd : D.spec_l1Has x0 x1 = some y) :
  Calls Tryz.prog 70 #[v0, (.int .i64 x1)] w (Res W G H (fun _ Ho v => Ho = [] ∧ v = (.bool y))) := by
 refine calls_b (args := [v0, (.int .i64 x1)]) (N := 18) [.tmp 4] Tryz.func70 rfl rfl (Nat.le_of_ble_eq_true rfl) rfl fun a f => ?_
 unfold D.spec_l1Has at hd
 refine k_seq (k_region ?_)
 refine l_as f rfl rfl fun a f => l_nil (k_seq (k_seq (k_region ?_)))
 refine l_as f rfl rfl fun a f => l_nil ?_
 obtain ⟨aa, ab, hd⟩ := bind_some hd
 refine k_cut (fun a w => ∃ q_19' : Unit, aa = .inl q_19' ∧ ∃ (ac : GH), GLe G ac ∧ Fr a 18 [] ∧ Mem W ac w (H)) ?_ ?_
 ·refine k_block ?_
  refine k_loop (fun ad a w => ∃ ae : Int, ae = ad ∧ ∃ (af : GH), GLe G af ∧ Fr a 18 [(0, v0), (1, (.int .i64 x1)), (5, (.int .i64 ae))] ∧ Mem W af w (H)) ab ⟨_, rfl, _, (GLe.refl _), f.weak ⟨rfl, rfl, rfl, trivial⟩, m⟩ ?_
  clear ab f m
  rintro ad ag ah ai a w ⟨ae, rfl, af, aj, f, m⟩
  have h0 := rd1 aj h0
  refine k_seq (k_seq (k_region ?_))
  refine l_mv f rfl rfl fun a f => l_mv f rfl rfl fun a f => l_len Tryz.underlying42 f rfl rfl h0 fun a f => l_in f rfl rfl rfl b_lss fun a f => l_nil ?_
  rcases cond_some ah with ⟨ak, ah⟩ | ⟨ak, ah⟩
  ·refine k_true f rfl ak ?_
   refine k_skip ?_
   refine k_seq (k_block (k_seq (k_region ?_)))
   refine l_mv f rfl rfl fun a f => l_mv f rfl rfl fun a f => ?_
   obtain ⟨al, am, ah⟩ := bind_some ah
   refine l_at T42 f rfl rfl rfl h0 am fun an ao a ap aq f => ?_
   subst aq
   refine l_loadAt m Pl2 f rfl rfl ap fun a f => l_mv f rfl rfl fun a f => l_in f rfl rfl rfl b_eql fun a f => l_nil ?_
   rcases cond_some ah with ⟨ar, ah⟩ | ⟨ar, ah⟩
   ·refine k_true f rfl ar ?_
    refine k_seq (k_region ?_)
    refine l_as f rfl rfl fun a f => l_nil ?_
    refine k_ret ?_
    obtain rfl := sj ah
    obtain rfl := ai _ rfl
    obtain rfl := sj hd
    exact ⟨[(.bool true)], ⟨f.get _ _ rfl, trivial⟩, f.defers, _, [], aj, m, rfl, rfl⟩
   ·refine k_false f rfl ar ?_
    refine k_skip ?_
    refine k_region ?_
    refine l_mv f rfl rfl fun a f => l_in f rfl rfl rfl b_add fun a f => l_as f rfl rfl fun a f => l_nil ?_
    obtain rfl := sj ah
    exact ⟨_, rfl, _, rfl, _, aj, f.weak ⟨rfl, rfl, rfl, trivial⟩, m⟩
  ·refine k_false f rfl ak ?_
   refine k_exit rfl ?_
   obtain rfl := sj ah
   obtain rfl := ai _ rfl
   exact ⟨_, rfl, _, aj, f.weak trivial, m⟩
 ·rintro a w ⟨_, rfl, ac, au, f, m⟩
  refine k_seq (k_region ?_)
  refine l_as f rfl rfl fun a f => l_nil ?_
  refine k_ret ?_
  obtain rfl := sj hd
  exact ⟨[(.bool false)], ⟨f.get _ _ rfl, trivial⟩, f.defers, _, [], au, m, rfl, rfl⟩

theorem Wk.spec_GraphOk {W w : World} {G : GH} {H : List Itm} {v0_0 : Value} {x0_0 : (List (List Int))} (m : Mem W G w (H)) (h0_0 : RSl (RSl (RI .i64)) G v0_0 x0_0) {y : Bool} (hd : D.spec_GraphOk x0_0 = some y) :
  Calls Tryz.prog 77 #[(.agg #[v0_0])] w (Res W G H (fun _ Ho v => Ho = [] ∧ v = (.bool y))) := by
 refine calls_b (args := [(.agg #[v0_0])]) (N := 64) [.tmp 2] Tryz.func77 rfl rfl (Nat.le_of_ble_eq_true rfl) rfl fun a f => ?_
 unfold D.spec_GraphOk at hd
 refine k_seq (k_region ?_)
 refine l_box (cs := [v0_0]) m f rfl rfl rfl fun aa w a m f => l_as f rfl rfl fun a f => l_nil (k_seq (k_region ?_))
 refine l_boxAgg 0 0 (ds := [v0_0]) m Ag30 f rfl rfl rfl rfl rfl fun a f => ?_
 obtain ⟨ab, ac, hd⟩ := bind_some hd
 refine l_res f rfl rfl Tryz.call80 (Wk.spec_l1Size m h0_0 ac) fun ad ae af w ag m ah a f => ?_
 obtain ⟨rfl, rfl⟩ := ah
 have h0_0 := rd2 ag h0_0
 refine l_as f rfl rfl fun a f => l_nil (k_seq (k_seq (k_region ?_)))
 refine l_mv f rfl rfl fun a f => ?_
 obtain ⟨ai, aj, hd⟩ := bind_some hd
 refine l_res f rfl rfl Tryz.call141 (Wk.spec_l1In m  aj) fun ak al am w an m ao a f => ?_
 obtain ⟨rfl, rfl⟩ := ao
 have h0_0 := rd2 an h0_0
 refine l_op f rfl rfl rfl (r_not (f.eval rfl)) fun a f => l_nil ?_
 rcases cond_some hd with ⟨ap, hd⟩ | ⟨ap, hd⟩
 ·refine k_true f rfl ap ?_
  refine k_seq (k_region ?_)
  refine l_as f rfl rfl fun a f => l_nil ?_
  refine k_ret ?_
  have m : Mem W al w H := Mem.drop (H' := [Itm.box aa 30 [v0_0]]) m
  obtain rfl := sj hd
  exact ⟨[(.bool false)], ⟨f.get _ _ rfl, trivial⟩, f.defers, _, [], (GLe.trans ag an), m, rfl, rfl⟩
 ·refine k_false f rfl ap ?_
  refine k_skip ?_
  refine k_seq (k_seq (k_region ?_))
  refine l_as f rfl rfl fun a f => l_nil ?_
  obtain ⟨aq, ar, hd⟩ := bind_some hd
  refine k_cut (fun a w => ∃ q_138' : Unit, aq = .inl q_138' ∧ ∃ (au : GH), GLe al au ∧ Fr a 64 [(1, (.pointer (some ⟨aa, 0, none⟩))), (3, (.int .i64 ab))] ∧ Mem W au w (Itm.box aa 30 [v0_0] :: H)) ?_ ?_
  ·refine k_block ?_
   refine k_loop (fun av a w => ∃ aw : Int, aw = av ∧ ∃ (ax : GH), GLe al ax ∧ Fr a 64 [(1, (.pointer (some ⟨aa, 0, none⟩))), (3, (.int .i64 ab)), (4, (.int .i64 aw))] ∧ Mem W ax w (Itm.box aa 30 [v0_0] :: H)) ar ⟨_, rfl, _, (GLe.refl _), f.weak ⟨rfl, rfl, rfl, trivial⟩, m⟩ ?_
   clear ar f m
   rintro av ay az aA a w ⟨aw, rfl, ax, aB, f, m⟩
   have h0_0 := rd2 aB h0_0
   refine k_seq (k_seq (k_region ?_))
   refine l_mv f rfl rfl fun a f => l_mv f rfl rfl fun a f => l_in f rfl rfl rfl b_lss fun a f => l_nil ?_
   rcases cond_some az with ⟨aC, az⟩ | ⟨aC, az⟩
   ·refine k_true f rfl aC ?_
    refine k_skip ?_
    refine k_seq (k_block (k_seq (k_region ?_)))
    refine l_fieldAddr Tryz.underlying30 rfl Tryz.sizeOf22 (by decide) f rfl rfl fun a f => l_boxCell 0 0 m Pl22 f rfl rfl rfl rfl fun a f => l_mv f rfl rfl fun a f => ?_
    obtain ⟨aD, aE, az⟩ := bind_some az
    refine l_at T22 f rfl rfl rfl h0_0 aE fun aF aG a aH aI f => l_loadAt m Pl42 f rfl rfl aH fun a f => l_mv f rfl rfl fun a f => ?_
    obtain ⟨aJ, aK, az⟩ := bind_some az
    refine l_res f rfl rfl Tryz.call79 (Wk.spec_l1Set m aI aK) fun aL aM aN w aO m aP a f => ?_
    obtain ⟨rfl, rfl⟩ := aP
    have h0_0 := rd2 aO h0_0
    have aH := At.mono aO aH
    have aI := rd1 aO aI
    refine l_op f rfl rfl rfl (r_not (f.eval rfl)) fun a f => l_mv f rfl rfl fun a f => ?_
    obtain ⟨aQ, aR, az⟩ := bind_some az
    refine l_cut 8 (fun a w => ∃ aS, GLe aM aS ∧ Mem W aS w (Itm.box aa 30 [v0_0] :: H) ∧ Fr a 64 [(1, (.pointer (some ⟨aa, 0, none⟩))), (3, (.int .i64 ab)), (4, (.int .i64 aw)), (14, (.bool (decide (aw < ab)))), (17, (.pointer (some ⟨aa, 0, none⟩))), (18, v0_0), (19, (.int .i64 aw)), (20, aF), (21, aG), (22, (.int .i64 ab)), (23, (.bool aJ)), (24, (.bool (!aJ))), (25, (.bool (!aJ))), (33, (.bool aQ))]) ?_ ?_
    ·rcases cond_some aR with ⟨aT, aR⟩ | ⟨aT, aR⟩
     ·refine l_not' f rfl rfl rfl aT fun a f => ?_
      refine l_not' f rfl rfl rfl aT fun a f => l_not' f rfl rfl rfl aT fun a f => l_not' f rfl rfl rfl aT fun a f => l_not' f rfl rfl rfl aT fun a f => l_not' f rfl rfl rfl aT fun a f => l_not' f rfl rfl rfl aT fun a f => l_op f rfl rfl rfl (r_pickT (f.eval rfl) aT (f.eval rfl)) fun a f => ?_
      obtain rfl := sj aR
      exact ⟨_, (GLe.refl _), m, f.weak ⟨rfl, rfl, rfl, rfl, rfl, rfl, rfl, rfl, rfl, rfl, rfl, rfl, rfl, rfl, trivial⟩⟩
     ·refine l_run f rfl rfl aT ?_
      refine l_fieldAddr Tryz.underlying30 rfl Tryz.sizeOf22 (by decide) f rfl rfl fun a f => l_run f rfl rfl aT ?_
      refine l_boxCell 0 0 m Pl22 f rfl rfl rfl rfl fun a f => l_run f rfl rfl aT ?_
      refine l_mv f rfl rfl fun a f => l_run f rfl rfl aT ?_
      obtain ⟨aU, aV, aR⟩ := bind_some aR
      refine l_at T22 f rfl rfl rfl h0_0 aV fun aW aX a aY aZ f => l_run f rfl rfl aT ?_
      refine l_loadAt m Pl42 f rfl rfl aY fun a f => l_run f rfl rfl aT ?_
      refine l_mv f rfl rfl fun a f => l_run f rfl rfl aT ?_
      obtain ⟨a0, a1, aR⟩ := bind_some aR
      refine l_res f rfl rfl Tryz.call70 (Wk.spec_l1Has m aZ a1) fun a2 a3 a4 w a5 m a6 a f => ?_
      obtain ⟨rfl, rfl⟩ := a6
      have h0_0 := rd2 a5 h0_0
      have aH := At.mono a5 aH
      have aI := rd1 a5 aI
      have aY := At.mono a5 aY
      have aZ := rd1 a5 aZ
      refine l_op f rfl rfl rfl (r_pickF (f.eval rfl) aT (f.eval rfl)) fun a f => ?_
      obtain rfl := sj aR
      exact ⟨_, a5, m, f.weak ⟨rfl, rfl, rfl, rfl, rfl, rfl, rfl, rfl, rfl, rfl, rfl, rfl, rfl, rfl, trivial⟩⟩
    ·rintro a w ⟨aS, a7, m, f⟩
     have h0_0 := rd2 a7 h0_0
     have aH := At.mono a7 aH
     have aI := rd1 a7 aI
     refine l_nil ?_
     rcases cond_some az with ⟨a8, az⟩ | ⟨a8, az⟩
     ·refine k_true f rfl a8 ?_
      refine k_seq (k_region ?_)
      refine l_as f rfl rfl fun a f => l_nil ?_
      refine k_ret ?_
      have m : Mem W aS w H := Mem.drop (H' := [Itm.box aa 30 [v0_0]]) m
      obtain rfl := sj az
      obtain rfl := aA _ rfl
      obtain rfl := sj hd
      exact ⟨[(.bool false)], ⟨f.get _ _ rfl, trivial⟩, f.defers, _, [], (GLe.trans ag (GLe.trans an (GLe.trans aB (GLe.trans aO a7)))), m, rfl, rfl⟩
     ·refine k_false f rfl a8 ?_
      refine k_skip ?_
      refine k_region ?_
      refine l_mv f rfl rfl fun a f => l_in f rfl rfl rfl b_add fun a f => l_as f rfl rfl fun a f => l_nil ?_
      obtain rfl := sj az
      exact ⟨_, rfl, _, rfl, _, (GLe.trans aB (GLe.trans aO a7)), f.weak ⟨rfl, rfl, rfl, trivial⟩, m⟩
   ·refine k_false f rfl aC ?_
    refine k_exit rfl ?_
    obtain rfl := sj az
    obtain rfl := aA _ rfl
    exact ⟨_, rfl, _, aB, f.weak ⟨rfl, rfl, trivial⟩, m⟩
  ·rintro a w ⟨_, rfl, au, a9, f, m⟩
   have h0_0 := rd2 a9 h0_0
   refine k_seq (k_seq (k_region ?_))
   refine l_as f rfl rfl fun a f => l_nil ?_
   obtain ⟨ba, bb, hd⟩ := bind_some hd
   refine k_cut (fun a w => ∃ q_545' : Unit, ba = .inl q_545' ∧ ∃ (bc : GH), GLe au bc ∧ Fr a 64 [] ∧ Mem W bc w (H)) ?_ ?_
   ·refine k_block ?_
    refine k_loop (fun bd a w => ∃ be : Int, be = bd ∧ ∃ (bf : GH), GLe au bf ∧ Fr a 64 [(1, (.pointer (some ⟨aa, 0, none⟩))), (3, (.int .i64 ab)), (5, (.int .i64 be))] ∧ Mem W bf w (Itm.box aa 30 [v0_0] :: H)) bb ⟨_, rfl, _, (GLe.refl _), f.weak ⟨rfl, rfl, rfl, trivial⟩, m⟩ ?_
    clear bb f m
    rintro bd bg bh bi a w ⟨be, rfl, bf, bj, f, m⟩
    have h0_0 := rd2 bj h0_0
    refine k_seq (k_seq (k_region ?_))
    refine l_mv f rfl rfl fun a f => l_mv f rfl rfl fun a f => l_in f rfl rfl rfl b_lss fun a f => l_nil ?_
    rcases cond_some bh with ⟨bk, bh⟩ | ⟨bk, bh⟩
    ·refine k_true f rfl bk ?_
     refine k_skip ?_
     refine k_seq (k_block (k_seq (k_region ?_)))
     refine l_as f rfl rfl fun a f => l_nil ?_
     obtain ⟨bl, bm, bh⟩ := bind_some bh
     refine k_cut (fun a w => ∃ q_759' : Unit, bl = .inl q_759' ∧ ∃ (bn : GH), GLe bf bn ∧ Fr a 64 [(1, (.pointer (some ⟨aa, 0, none⟩))), (3, (.int .i64 ab)), (5, (.int .i64 be))] ∧ Mem W bn w (Itm.box aa 30 [v0_0] :: H)) ?_ ?_
     ·refine k_block ?_
      refine k_loop (fun bo a w => ∃ bp : Int, bp = bo ∧ ∃ (bq : GH), GLe bf bq ∧ Fr a 64 [(1, (.pointer (some ⟨aa, 0, none⟩))), (3, (.int .i64 ab)), (5, (.int .i64 be)), (6, (.int .i64 bp))] ∧ Mem W bq w (Itm.box aa 30 [v0_0] :: H)) bm ⟨_, rfl, _, (GLe.refl _), f.weak ⟨rfl, rfl, rfl, rfl, trivial⟩, m⟩ ?_
      clear bm f m
      rintro bo br bs bt a w ⟨bp, rfl, bq, bu, f, m⟩
      have h0_0 := rd2 bu h0_0
      refine k_seq (k_seq (k_region ?_))
      refine l_mv f rfl rfl fun a f => l_fieldAddr Tryz.underlying30 rfl Tryz.sizeOf22 (by decide) f rfl rfl fun a f => l_boxCell 0 0 m Pl22 f rfl rfl rfl rfl fun a f => l_mv f rfl rfl fun a f => ?_
      obtain ⟨bv, bw, bs⟩ := bind_some bs
      refine l_at T22 f rfl rfl rfl h0_0 bw fun bx bz a bA bB f => l_loadAt m Pl42 f rfl rfl bA fun a f => l_len Tryz.underlying42 f rfl rfl bB fun a f => l_in f rfl rfl rfl b_lss fun a f => l_nil ?_
      rcases cond_some bs with ⟨bC, bs⟩ | ⟨bC, bs⟩
      ·refine k_true f rfl bC ?_
       refine k_skip ?_
       refine k_seq (k_block (k_seq ?_))
       refine k_draw 15 Follows (by kernel_rfl) m ?_
       refine q_fieldAddr (i := 0) 15 Tryz.underlying30 rfl Tryz.sizeOf22 (by decide) rfl (by kernel_rfl) rfl f rfl rfl rfl fun a f => q_boxCell (i := 1) 15 0 Pl22 rfl rfl rfl (by kernel_rfl) rfl f rfl rfl rfl fun a f => q_fieldAddr (i := 2) 15 Tryz.underlying30 rfl Tryz.sizeOf22 (by decide) rfl (by kernel_rfl) rfl f rfl rfl rfl fun a f => q_boxCell (i := 3) 15 0 Pl22 rfl rfl rfl (by kernel_rfl) rfl f rfl rfl rfl fun a f => q_mv 4 15 rfl (by kernel_rfl) f rfl rfl rfl fun a f => ?_
       obtain ⟨bD, bE, bs⟩ := bind_some bs
       refine q_at (i := 5) 15 T22 h0_0 bE rfl (by kernel_rfl) rfl f rfl rfl rfl rfl fun bF bG a bH bI f => q_loadAt (i := 6) 15 Pl42 bH rfl (by kernel_rfl) rfl f rfl rfl rfl fun a f => q_mv 7 15 rfl (by kernel_rfl) f rfl rfl rfl fun a f => ?_
       obtain ⟨bJ, bK, bs⟩ := bind_some bs
       refine q_at (i := 8) 15 T42 bI bK rfl (by kernel_rfl) rfl f rfl rfl rfl rfl fun bL bM a bN bO f => ?_
       subst bO
       refine q_loadAt (i := 9) 15 Pl2 bN rfl (by kernel_rfl) rfl f rfl rfl rfl fun a f => ?_
       obtain ⟨bP, bQ, bs⟩ := bind_some bs
       refine q_at (i := 10) 15 T22 h0_0 bQ rfl (by kernel_rfl) rfl f rfl rfl rfl rfl fun bR bS a bT bU f => q_loadAt (i := 11) 15 Pl42 bT rfl (by kernel_rfl) rfl f rfl rfl rfl fun a f => q_mv 12 15 rfl (by kernel_rfl) f rfl rfl rfl fun a f => ?_
       obtain ⟨bV, bW, bs⟩ := bind_some bs
       refine q_call (i := 13) 15 rfl (by kernel_rfl) rfl f rfl rfl rfl Tryz.call70 (fun _ _ w bX m => Wk.spec_l1Has m (rd1 bX bU) bW) fun a f => q_p 14 15 rfl (by kernel_rfl) f rfl rfl rfl (fun _ => r_not (f.eval rfl)) fun a f => q_end fun bY w bZ m => ?_
       have h0_0 := rd2 bZ h0_0
       have bH := At.mono bZ bH
       have bI := rd1 bZ bI
       have bN := At.mono bZ bN
       have bT := At.mono bZ bT
       have bU := rd1 bZ bU
       refine l_nil ?_
       rcases cond_some bs with ⟨b0, bs⟩ | ⟨b0, bs⟩
       ·refine k_true f rfl b0 ?_
        refine k_seq (k_region ?_)
        refine l_as f rfl rfl fun a f => l_nil ?_
        refine k_ret ?_
        have m : Mem W bY w H := Mem.drop (H' := [Itm.box aa 30 [v0_0]]) m
        obtain rfl := sj bs
        obtain rfl := bt _ rfl
        obtain rfl := sj bh
        obtain rfl := bi _ rfl
        obtain rfl := sj hd
        exact ⟨[(.bool false)], ⟨f.get _ _ rfl, trivial⟩, f.defers, _, [], (GLe.trans ag (GLe.trans an (GLe.trans a9 (GLe.trans bj (GLe.trans bu bZ))))), m, rfl, rfl⟩
       ·refine k_false f rfl b0 ?_
        refine k_skip ?_
        refine k_region ?_
        refine l_mv f rfl rfl fun a f => l_in f rfl rfl rfl b_add fun a f => l_as f rfl rfl fun a f => l_nil ?_
        obtain rfl := sj bs
        exact ⟨_, rfl, _, rfl, _, (GLe.trans bu bZ), f.weak ⟨rfl, rfl, rfl, rfl, trivial⟩, m⟩
      ·refine k_false f rfl bC ?_
       refine k_exit rfl ?_
       obtain rfl := sj bs
       obtain rfl := bt _ rfl
       exact ⟨_, rfl, _, bu, f.weak ⟨rfl, rfl, rfl, trivial⟩, m⟩
     ·rintro a w ⟨_, rfl, bn, b1, f, m⟩
      have h0_0 := rd2 b1 h0_0
      refine k_region ?_
      refine l_mv f rfl rfl fun a f => l_in f rfl rfl rfl b_add fun a f => l_as f rfl rfl fun a f => l_nil ?_
      obtain rfl := sj bh
      exact ⟨_, rfl, _, rfl, _, (GLe.trans bj b1), f.weak ⟨rfl, rfl, rfl, trivial⟩, m⟩
    ·refine k_false f rfl bk ?_
     refine k_exit rfl ?_
     have m : Mem W bf w H := Mem.drop (H' := [Itm.box aa 30 [v0_0]]) m
     obtain rfl := sj bh
     obtain rfl := bi _ rfl
     exact ⟨_, rfl, _, bj, f.weak trivial, m⟩
   ·rintro a w ⟨_, rfl, bc, b2, f, m⟩
    refine k_seq (k_region ?_)
    refine l_as f rfl rfl fun a f => l_nil ?_
    refine k_ret ?_
    obtain rfl := sj hd
    exact ⟨[(.bool true)], ⟨f.get _ _ rfl, trivial⟩, f.defers, _, [], (GLe.trans ag (GLe.trans an (GLe.trans a9 b2))), m, rfl, rfl⟩

theorem Wk.spec_l9Form {W w : World} {G : GH} {H : List Itm} {v0_0 : Value} {v0_1 : Value} {x0_0 : (List (List Int))} {x0_1 : (List (List Int))} (m : Mem W G w (H)) (h0_0 : RSl (RSl (RI .i64)) G v0_0 x0_0) (h0_1 : RSl (RSl (RI .i64)) G v0_1 x0_1) {y : Bool} (hd : D.spec_l9Form x0_0 x0_1 = some y) :
  Calls Tryz.prog 90 #[(.agg #[v0_0, v0_1])] w (Res W G H (fun _ Ho v => Ho = [] ∧ v = (.bool y))) := by
 refine calls_b (args := [(.agg #[v0_0, v0_1])]) (N := 41) [.tmp 2] Tryz.func90 rfl rfl (Nat.le_of_ble_eq_true rfl) rfl fun a f => ?_
 unfold D.spec_l9Form at hd
 refine k_seq (k_region ?_)
 refine l_box (cs := [v0_0, v0_1]) m f rfl rfl rfl fun aa w a m f => l_as f rfl rfl fun a f => l_nil (k_seq (k_region ?_))
 refine l_fieldAddr Tryz.underlying27 rfl Tryz.sizeOf22 (by decide) f rfl rfl fun a f => l_boxCell 0 0 m Pl22 f rfl rfl rfl rfl fun a f => l_len Tryz.underlying22 f rfl rfl h0_0 fun a f => l_as f rfl rfl fun a f => l_nil (k_seq (k_seq (k_region ?_)))
 refine l_mv f rfl rfl fun a f => ?_
 obtain ⟨ab, ac, hd⟩ := bind_some hd
 refine l_res f rfl rfl Tryz.call141 (Wk.spec_l1In m  ac) fun ad ae af w ag m ah a f => ?_
 obtain ⟨rfl, rfl⟩ := ah
 have h0_0 := rd2 ag h0_0
 have h0_1 := rd2 ag h0_1
 refine l_op f rfl rfl rfl (r_not (f.eval rfl)) fun a f => l_mv f rfl rfl fun a f => ?_
 refine l_cut 5 (fun a w => ∃ ai, GLe ae ai ∧ Mem W ai w (Itm.box aa 27 [v0_0, v0_1] :: H) ∧ Fr a 41 [(0, (.agg #[v0_0, v0_1])), (1, (.pointer (some ⟨aa, 0, none⟩))), (3, (.int .i64 (x0_0.length : Int))), (8, (.int .i64 (x0_0.length : Int))), (9, (.bool ab)), (10, (.bool (!ab))), (11, (.bool (!ab))), (16, (.bool ((!ab) || (decide ((16 : Int) < (x0_1.length : Int))))))]) ?_ ?_
 ·rcases Bool.eq_false_or_eq_true (!ab) with aj | aj
  ·refine l_not' f rfl rfl rfl aj fun a f => ?_
   refine l_not' f rfl rfl rfl aj fun a f => l_not' f rfl rfl rfl aj fun a f => l_not' f rfl rfl rfl aj fun a f => l_op f rfl rfl rfl (r_pickT (f.eval rfl) aj (f.eval rfl)) fun a f => ?_
   exact ⟨_, (GLe.refl _), m, f.weak ⟨rfl, rfl, rfl, rfl, rfl, rfl, rfl, by rw [aj]; rfl, trivial⟩⟩
  ·refine l_run f rfl rfl aj ?_
   refine l_fieldAddr Tryz.underlying27 rfl Tryz.sizeOf22 (by decide) f rfl rfl fun a f => l_run f rfl rfl aj ?_
   refine l_boxCell 0 1 m Pl22 f rfl rfl rfl rfl fun a f => l_run f rfl rfl aj ?_
   refine l_len Tryz.underlying22 f rfl rfl h0_1 fun a f => l_run f rfl rfl aj ?_
   refine l_in f rfl rfl rfl b_gtr fun a f => l_op f rfl rfl rfl (r_pickF (f.eval rfl) aj (f.eval rfl)) fun a f => ?_
   exact ⟨_, (GLe.refl _), m, f.weak ⟨rfl, rfl, rfl, rfl, rfl, rfl, rfl, by rw [aj]; rfl, trivial⟩⟩
 ·rintro a w ⟨ai, ak, m, f⟩
  have h0_0 := rd2 ak h0_0
  have h0_1 := rd2 ak h0_1
  refine l_nil ?_
  rcases cond_some hd with ⟨al, hd⟩ | ⟨al, hd⟩
  ·refine k_true f rfl al ?_
   refine k_seq (k_region ?_)
   refine l_as f rfl rfl fun a f => l_nil ?_
   refine k_ret ?_
   have m : Mem W ai w H := Mem.drop (H' := [Itm.box aa 27 [v0_0, v0_1]]) m
   obtain rfl := sj hd
   exact ⟨[(.bool false)], ⟨f.get _ _ rfl, trivial⟩, f.defers, _, [], (GLe.trans ag ak), m, rfl, rfl⟩
  ·refine k_false f rfl al ?_
   refine k_skip ?_
   refine k_seq (k_seq (k_region ?_))
   refine l_as f rfl rfl fun a f => l_nil ?_
   obtain ⟨am, an, hd⟩ := bind_some hd
   refine k_cut (fun a w => ∃ q_120' : Unit, am = .inl q_120' ∧ ∃ (ao : GH), GLe ai ao ∧ Fr a 41 [] ∧ Mem W ao w (H)) ?_ ?_
   ·refine k_block ?_
    refine k_loop (fun ap a w => ∃ aq : Int, aq = ap ∧ ∃ (ar : GH), GLe ai ar ∧ Fr a 41 [(1, (.pointer (some ⟨aa, 0, none⟩))), (3, (.int .i64 (x0_0.length : Int))), (4, (.int .i64 aq))] ∧ Mem W ar w (Itm.box aa 27 [v0_0, v0_1] :: H)) an ⟨_, rfl, _, (GLe.refl _), f.weak ⟨rfl, rfl, rfl, trivial⟩, m⟩ ?_
    clear an f m
    rintro ap au av aw a w ⟨aq, rfl, ar, ax, f, m⟩
    have h0_0 := rd2 ax h0_0
    have h0_1 := rd2 ax h0_1
    refine k_seq (k_seq (k_region ?_))
    refine l_mv f rfl rfl fun a f => l_fieldAddr Tryz.underlying27 rfl Tryz.sizeOf22 (by decide) f rfl rfl fun a f => l_boxCell 0 1 m Pl22 f rfl rfl rfl rfl fun a f => l_len Tryz.underlying22 f rfl rfl h0_1 fun a f => l_in f rfl rfl rfl b_lss fun a f => l_nil ?_
    rcases cond_some av with ⟨ay, av⟩ | ⟨ay, av⟩
    ·refine k_true f rfl ay ?_
     refine k_skip ?_
     refine k_seq (k_block (k_seq (k_region ?_)))
     refine l_fieldAddr Tryz.underlying27 rfl Tryz.sizeOf22 (by decide) f rfl rfl fun a f => l_boxCell 0 1 m Pl22 f rfl rfl rfl rfl fun a f => l_mv f rfl rfl fun a f => ?_
     obtain ⟨az, aA, av⟩ := bind_some av
     refine l_at T22 f rfl rfl rfl h0_1 aA fun aB aC a aD aE f => l_loadAt m Pl42 f rfl rfl aD fun a f => l_len Tryz.underlying42 f rfl rfl aE fun a f => l_in f rfl rfl rfl b_neq fun a f => l_mv f rfl rfl fun a f => ?_
     obtain ⟨aF, aG, av⟩ := bind_some av
     refine l_cut 9 (fun a w => ∃ aH, GLe ar aH ∧ Mem W aH w (Itm.box aa 27 [v0_0, v0_1] :: H) ∧ Fr a 41 [(1, (.pointer (some ⟨aa, 0, none⟩))), (3, (.int .i64 (x0_0.length : Int))), (4, (.int .i64 aq)), (21, (.bool (decide (aq < (x0_1.length : Int))))), (24, (.pointer (some ⟨aa, 1, none⟩))), (25, v0_1), (26, (.int .i64 aq)), (27, aB), (28, aC), (29, (.int .i64 (az.length : Int))), (30, (.bool ((az.length : Int) != 2))), (31, (.bool ((az.length : Int) != 2))), (40, (.bool aF))]) ?_ ?_
     ·rcases cond_some aG with ⟨aI, aG⟩ | ⟨aI, aG⟩
      ·refine l_not' f rfl rfl rfl aI fun a f => ?_
       refine l_not' f rfl rfl rfl aI fun a f => l_not' f rfl rfl rfl aI fun a f => l_not' f rfl rfl rfl aI fun a f => l_not' f rfl rfl rfl aI fun a f => l_not' f rfl rfl rfl aI fun a f => l_not' f rfl rfl rfl aI fun a f => l_not' f rfl rfl rfl aI fun a f => l_op f rfl rfl rfl (r_pickT (f.eval rfl) aI (f.eval rfl)) fun a f => ?_
       obtain rfl := sj aG
       exact ⟨_, (GLe.refl _), m, f.weak ⟨rfl, rfl, rfl, rfl, rfl, rfl, rfl, rfl, rfl, rfl, rfl, rfl, rfl, trivial⟩⟩
      ·refine l_run f rfl rfl aI ?_
       refine l_fieldAddr Tryz.underlying27 rfl Tryz.sizeOf22 (by decide) f rfl rfl fun a f => l_run f rfl rfl aI ?_
       refine l_boxCell 0 1 m Pl22 f rfl rfl rfl rfl fun a f => l_run f rfl rfl aI ?_
       refine l_mv f rfl rfl fun a f => l_run f rfl rfl aI ?_
       obtain ⟨aJ, aK, aG⟩ := bind_some aG
       refine l_at T22 f rfl rfl rfl h0_1 aK fun aL aM a aN aO f => l_run f rfl rfl aI ?_
       refine l_loadAt m Pl42 f rfl rfl aN fun a f => l_run f rfl rfl aI ?_
       refine l_mv f rfl rfl fun a f => l_run f rfl rfl aI ?_
       obtain ⟨aP, aQ, aG⟩ := bind_some aG
       refine l_res f rfl rfl Tryz.call79 (Wk.spec_l1Set m aO aQ) fun aR aS aT w aU m aV a f => ?_
       obtain ⟨rfl, rfl⟩ := aV
       have h0_1 := rd2 aU h0_1
       have aD := At.mono aU aD
       have aE := rd1 aU aE
       have aN := At.mono aU aN
       have aO := rd1 aU aO
       have h0_0 := rd2 aU h0_0
       refine l_run f rfl rfl aI ?_
       refine l_op f rfl rfl rfl (r_not (f.eval rfl)) fun a f => l_op f rfl rfl rfl (r_pickF (f.eval rfl) aI (f.eval rfl)) fun a f => ?_
       obtain rfl := sj aG
       exact ⟨_, aU, m, f.weak ⟨rfl, rfl, rfl, rfl, rfl, rfl, rfl, rfl, rfl, rfl, rfl, rfl, rfl, trivial⟩⟩
     ·rintro a w ⟨aH, aW, m, f⟩
      have h0_1 := rd2 aW h0_1
      have aD := At.mono aW aD
      have aE := rd1 aW aE
      have h0_0 := rd2 aW h0_0
      refine l_nil ?_
      rcases cond_some av with ⟨aX, av⟩ | ⟨aX, av⟩
      ·refine k_true f rfl aX ?_
       refine k_seq (k_region ?_)
       refine l_as f rfl rfl fun a f => l_nil ?_
       refine k_ret ?_
       have m : Mem W aH w H := Mem.drop (H' := [Itm.box aa 27 [v0_0, v0_1]]) m
       obtain rfl := sj av
       obtain rfl := aw _ rfl
       obtain rfl := sj hd
       exact ⟨[(.bool false)], ⟨f.get _ _ rfl, trivial⟩, f.defers, _, [], (GLe.trans ag (GLe.trans ak (GLe.trans ax aW))), m, rfl, rfl⟩
      ·refine k_false f rfl aX ?_
       refine k_skip ?_
       refine k_region ?_
       refine l_mv f rfl rfl fun a f => l_in f rfl rfl rfl b_add fun a f => l_as f rfl rfl fun a f => l_nil ?_
       obtain rfl := sj av
       exact ⟨_, rfl, _, rfl, _, (GLe.trans ax aW), f.weak ⟨rfl, rfl, rfl, trivial⟩, m⟩
    ·refine k_false f rfl ay ?_
     refine k_exit rfl ?_
     have m : Mem W ar w H := Mem.drop (H' := [Itm.box aa 27 [v0_0, v0_1]]) m
     obtain rfl := sj av
     obtain rfl := aw _ rfl
     exact ⟨_, rfl, _, ax, f.weak trivial, m⟩
   ·rintro a w ⟨_, rfl, ao, aY, f, m⟩
    refine k_seq (k_region ?_)
    refine l_as f rfl rfl fun a f => l_nil ?_
    refine k_ret ?_
    obtain rfl := sj hd
    exact ⟨[(.bool true)], ⟨f.get _ _ rfl, trivial⟩, f.defers, _, [], (GLe.trans ag (GLe.trans ak aY)), m, rfl, rfl⟩

theorem Wk.spec_l1All {W w : World} {G : GH} {H : List Itm} {x0 : Int} (m : Mem W G w (H))  {y : ((List Int))} (hd : D.spec_l1All x0 = some y) :
  Calls Tryz.prog 87 #[(.int .i64 x0)] w (Res W G H (fun G' Ho v => ∃ r0 : Value, ∃ i0 : Itm, Ho = [i0] ∧ r0 = v ∧ Ow (RI .i64) 2 G' i0 r0 y)) := by
 refine calls_b (args := [(.int .i64 x0)]) (N := 16) [.tmp 2] Tryz.func87 rfl rfl (Nat.le_of_ble_eq_true rfl) rfl fun a f => ?_
 unfold D.spec_l1All at hd
 refine k_seq (k_region ?_)
 refine l_as f rfl rfl fun a f => l_nil (k_seq (k_region ?_))
 refine l_slit (R := (RI .i64)) (xs := ([] : List Int)) (RI.one _) m T42 f rfl rfl rfl (by decide) (All2.nil _) fun aa ab w a m ac f => l_as f rfl rfl fun a f => l_nil (k_seq (k_seq (k_region ?_)))
 refine l_as f rfl rfl fun a f => l_nil ?_
 obtain ⟨ad, ae, hd⟩ := bind_some hd
 refine k_cut (fun a w => ∃ af : List Int, af = ad ∧ ∃ (ag : GH) (ah : Value) (ai : Itm), GLe G ag ∧ Fr a 16 [(3, ah)] ∧ Mem W ag w (ai :: H) ∧ Ow (RI .i64) 2 ag ai ah af) ?_ ?_
 ·refine k_block ?_
  refine k_loop (fun aj a w => ∃ ak : List Int, ∃ al : Int, (ak, al) = aj ∧ ∃ (am : GH) (an : Value) (ao : Itm), GLe G am ∧ Fr a 16 [(0, (.int .i64 x0)), (3, an), (4, (.int .i64 al))] ∧ Mem W am w (ao :: H) ∧ Ow (RI .i64) 2 am ao an ak) ae ⟨_, _, rfl, _, ab, aa, (GLe.refl _), f.weak ⟨rfl, rfl, rfl, trivial⟩, m, ac⟩ ?_
  clear ae f m
  rintro aj ap aq ar a w ⟨ak, al, rfl, am, an, ao, au, f, m, av⟩
  refine k_seq (k_seq (k_region ?_))
  refine l_mv f rfl rfl fun a f => l_mv f rfl rfl fun a f => l_in f rfl rfl rfl b_lss fun a f => l_nil ?_
  rcases cond_some aq with ⟨aw, aq⟩ | ⟨aw, aq⟩
  ·refine k_true f rfl aw ?_
   refine k_skip ?_
   refine k_seq (k_block (k_region ?_))
   refine l_mv f rfl rfl fun a f => l_mv f rfl rfl fun a f => l_slit (R := (RI .i64)) (xs := ([al] : List Int)) (RI.one _) m T42 f rfl rfl rfl (by decide) (All2.cons rfl (All2.nil _)) fun ax ay w a m az f => ?_
   obtain ⟨aA, aB, aq⟩ := bind_some aq
   refine l_append (RI.one _) 1 m av rfl T42 rfl (by decide) f rfl rfl rfl (Ow.src (j := 0) az m rfl) aB fun aC aD w a m aE f => l_as f rfl rfl fun a f => l_nil (k_region ?_)
   refine l_mv f rfl rfl fun a f => l_in f rfl rfl rfl b_add fun a f => l_as f rfl rfl fun a f => l_nil ?_
   have m := m.front 1 rfl
   have m := m.eraseAt 1
   obtain rfl := sj aq
   exact ⟨_, rfl, _, _, rfl, _, aD, aC, au, f.weak ⟨rfl, rfl, rfl, trivial⟩, m, aE⟩
  ·refine k_false f rfl aw ?_
   refine k_exit rfl ?_
   obtain rfl := sj aq
   obtain rfl := ar _ rfl
   exact ⟨_, rfl, _, an, ao, au, f.weak ⟨rfl, trivial⟩, m, av⟩
 ·rintro a w ⟨af, rfl, ag, ah, ai, aF, f, m, aG⟩
  refine k_seq (k_region ?_)
  refine l_mv f rfl rfl fun a f => l_as f rfl rfl fun a f => l_nil ?_
  refine k_ret ?_
  obtain rfl := sj hd
  exact ⟨[ah], ⟨f.get _ _ rfl, trivial⟩, f.defers, _, [ai], aF, m, _, _, rfl, rfl, aG⟩

theorem Wk.spec_l1Copy {W w : World} {G : GH} {H : List Itm} {v0 : Value} {x0 : (List Int)} (m : Mem W G w (H)) (h0 : RSl (RI .i64) G v0 x0) {y : ((List Int))} (hd : D.spec_l1Copy x0 = some y) :
  Calls Tryz.prog 69 #[v0] w (Res W G H (fun G' Ho v => ∃ r0 : Value, ∃ i0 : Itm, Ho = [i0] ∧ r0 = v ∧ Ow (RI .i64) 2 G' i0 r0 y)) := by
 refine calls_b (args := [v0]) (N := 6) [.tmp 2] Tryz.func69 rfl rfl (Nat.le_of_ble_eq_true rfl) rfl fun a f => ?_
 unfold D.spec_l1Copy at hd
 refine k_seq (k_region ?_)
 refine l_as f rfl rfl fun a f => l_nil (k_seq (k_region ?_))
 refine l_slit (R := (RI .i64)) (xs := ([] : List Int)) (RI.one _) m T42 f rfl rfl rfl (by decide) (All2.nil _) fun aa ab w a m ac f => l_mv f rfl rfl fun a f => ?_
 obtain ⟨ad, ae, hd⟩ := bind_some hd
 refine l_append (RI.one _) 0 m ac rfl T42 rfl (by decide) f rfl rfl rfl (h0.src m) ae fun af ag w a m ah f => l_as f rfl rfl fun a f => l_nil ?_
 refine k_ret ?_
 obtain rfl := sj hd
 exact ⟨[ag], ⟨f.get _ _ rfl, trivial⟩, f.defers, _, [af], (GLe.refl _), m, _, _, rfl, rfl, ah⟩

theorem Wk.spec_l1Into {W w : World} {G : GH} {H : List Itm} {v0 : Value} {x0 : (List Int)} {x1 : Int} (m : Mem W G w (H)) (h0 : RSl (RI .i64) G v0 x0) {y : ((List Int))} (hd : D.spec_l1Into x0 x1 = some y) :
  Calls Tryz.prog 68 #[v0, (.int .i64 x1)] w (Res W G H (fun G' Ho v => ∃ r0 : Value, Ho = [] ∧ r0 = v ∧ RSl (RI .i64) G' r0 y)) := by
 refine calls_b (args := [v0, (.int .i64 x1)]) (N := 46) [.tmp 4] Tryz.func68 rfl rfl (Nat.le_of_ble_eq_true rfl) rfl fun a f => ?_
 unfold D.spec_l1Into at hd
 refine k_seq (k_region ?_)
 refine l_as f rfl rfl fun a f => l_nil (k_seq (k_region ?_))
 refine l_as f rfl rfl fun a f => l_nil (k_seq ?_)
 obtain ⟨aa, ab, hd⟩ := bind_some hd
 refine k_cut (fun a w => ∃ ac : Int, ac = aa ∧ ∃ (ad : GH), GLe G ad ∧ Fr a 46 [(0, v0), (1, (.int .i64 x1)), (5, (.int .i64 ac))] ∧ Mem W ad w (H)) ?_ ?_
 ·refine k_block ?_
  refine k_loop (fun ae a w => ∃ af : Int, af = ae ∧ ∃ (ag : GH), GLe G ag ∧ Fr a 46 [(0, v0), (1, (.int .i64 x1)), (5, (.int .i64 af))] ∧ Mem W ag w (H)) ab ⟨_, rfl, _, (GLe.refl _), f.weak ⟨rfl, rfl, rfl, trivial⟩, m⟩ ?_
  clear ab f m
  rintro ae ah ai aj a w ⟨af, rfl, ag, ak, f, m⟩
  have h0 := rd1 ak h0
  refine k_seq (k_seq (k_region ?_))
  refine l_mv f rfl rfl fun a f => l_mv f rfl rfl fun a f => l_len Tryz.underlying42 f rfl rfl h0 fun a f => l_in f rfl rfl rfl b_lss fun a f => l_mv f rfl rfl fun a f => ?_
  obtain ⟨al, am, ai⟩ := bind_some ai
  refine l_cut 7 (fun a w => ∃ an, GLe ag an ∧ Mem W an w (H) ∧ Fr a 46 [(0, v0), (1, (.int .i64 x1)), (5, (.int .i64 af)), (7, (.int .i64 af)), (8, v0), (9, (.int .i64 (x0.length : Int))), (10, (.bool (decide (af < (x0.length : Int))))), (11, (.bool (decide (af < (x0.length : Int))))), (18, (.bool al))]) ?_ ?_
  ·rcases cond_some am with ⟨ao, am⟩ | ⟨ao, am⟩
   ·refine l_run f rfl rfl ao ?_
    refine l_mv f rfl rfl fun a f => l_run f rfl rfl ao ?_
    refine l_mv f rfl rfl fun a f => l_run f rfl rfl ao ?_
    obtain ⟨ap, aq, am⟩ := bind_some am
    refine l_at T42 f rfl rfl rfl h0 aq fun ar au a av aw f => ?_
    subst aw
    refine l_run f rfl rfl ao ?_
    refine l_loadAt m Pl2 f rfl rfl av fun a f => l_run f rfl rfl ao ?_
    refine l_mv f rfl rfl fun a f => l_run f rfl rfl ao ?_
    refine l_in f rfl rfl rfl b_lss fun a f => l_op f rfl rfl rfl (r_pickT (f.eval rfl) ao (f.eval rfl)) fun a f => ?_
    obtain rfl := sj am
    exact ⟨_, (GLe.refl _), m, f.weak ⟨rfl, rfl, rfl, rfl, rfl, rfl, rfl, rfl, rfl, trivial⟩⟩
   ·refine l_not' f rfl rfl rfl ao fun a f => ?_
    refine l_not' f rfl rfl rfl ao fun a f => l_not' f rfl rfl rfl ao fun a f => l_not' f rfl rfl rfl ao fun a f => l_not' f rfl rfl rfl ao fun a f => l_not' f rfl rfl rfl ao fun a f => l_op f rfl rfl rfl (r_pickF (f.eval rfl) ao (f.eval rfl)) fun a f => ?_
    obtain rfl := sj am
    exact ⟨_, (GLe.refl _), m, f.weak ⟨rfl, rfl, rfl, rfl, rfl, rfl, rfl, rfl, rfl, trivial⟩⟩
  ·rintro a w ⟨an, ax, m, f⟩
   have h0 := rd1 ax h0
   refine l_nil ?_
   rcases cond_some ai with ⟨ay, ai⟩ | ⟨ay, ai⟩
   ·refine k_true f rfl ay ?_
    refine k_skip ?_
    refine k_block (k_region ?_)
    refine l_mv f rfl rfl fun a f => l_in f rfl rfl rfl b_add fun a f => l_as f rfl rfl fun a f => l_nil ?_
    obtain rfl := sj ai
    exact ⟨_, rfl, _, rfl, _, (GLe.trans ak ax), f.weak ⟨rfl, rfl, rfl, trivial⟩, m⟩
   ·refine k_false f rfl ay ?_
    refine k_exit rfl ?_
    obtain rfl := sj ai
    obtain rfl := aj _ rfl
    exact ⟨_, rfl, _, (GLe.trans ak ax), f.weak ⟨rfl, rfl, rfl, trivial⟩, m⟩
 ·rintro a w ⟨ac, rfl, ad, az, f, m⟩
  have h0 := rd1 az h0
  refine k_seq (k_seq (k_region ?_))
  refine l_mv f rfl rfl fun a f => l_mv f rfl rfl fun a f => l_len Tryz.underlying42 f rfl rfl h0 fun a f => l_in f rfl rfl rfl b_lss fun a f => l_mv f rfl rfl fun a f => ?_
  obtain ⟨aA, aB, hd⟩ := bind_some hd
  refine l_cut 7 (fun a w => ∃ aC, GLe ad aC ∧ Mem W aC w (H) ∧ Fr a 46 [(0, v0), (1, (.int .i64 x1)), (5, (.int .i64 ac)), (21, (.int .i64 ac)), (22, v0), (23, (.int .i64 (x0.length : Int))), (24, (.bool (decide (ac < (x0.length : Int))))), (25, (.bool (decide (ac < (x0.length : Int))))), (32, (.bool aA))]) ?_ ?_
  ·rcases cond_some aB with ⟨aD, aB⟩ | ⟨aD, aB⟩
   ·refine l_run f rfl rfl aD ?_
    refine l_mv f rfl rfl fun a f => l_run f rfl rfl aD ?_
    refine l_mv f rfl rfl fun a f => l_run f rfl rfl aD ?_
    obtain ⟨aE, aF, aB⟩ := bind_some aB
    refine l_at T42 f rfl rfl rfl h0 aF fun aG aH a aI aJ f => ?_
    subst aJ
    refine l_run f rfl rfl aD ?_
    refine l_loadAt m Pl2 f rfl rfl aI fun a f => l_run f rfl rfl aD ?_
    refine l_mv f rfl rfl fun a f => l_run f rfl rfl aD ?_
    refine l_in f rfl rfl rfl b_eql fun a f => l_op f rfl rfl rfl (r_pickT (f.eval rfl) aD (f.eval rfl)) fun a f => ?_
    obtain rfl := sj aB
    exact ⟨_, (GLe.refl _), m, f.weak ⟨rfl, rfl, rfl, rfl, rfl, rfl, rfl, rfl, rfl, trivial⟩⟩
   ·refine l_not' f rfl rfl rfl aD fun a f => ?_
    refine l_not' f rfl rfl rfl aD fun a f => l_not' f rfl rfl rfl aD fun a f => l_not' f rfl rfl rfl aD fun a f => l_not' f rfl rfl rfl aD fun a f => l_not' f rfl rfl rfl aD fun a f => l_op f rfl rfl rfl (r_pickF (f.eval rfl) aD (f.eval rfl)) fun a f => ?_
    obtain rfl := sj aB
    exact ⟨_, (GLe.refl _), m, f.weak ⟨rfl, rfl, rfl, rfl, rfl, rfl, rfl, rfl, rfl, trivial⟩⟩
  ·rintro a w ⟨aC, aK, m, f⟩
   have h0 := rd1 aK h0
   refine l_nil ?_
   rcases cond_some hd with ⟨aL, hd⟩ | ⟨aL, hd⟩
   ·refine k_true f rfl aL ?_
    refine k_seq (k_region ?_)
    refine l_mv f rfl rfl fun a f => l_as f rfl rfl fun a f => l_nil ?_
    refine k_ret ?_
    obtain rfl := sj hd
    exact ⟨[v0], ⟨f.get _ _ rfl, trivial⟩, f.defers, _, [], (GLe.trans az aK), m, _, rfl, rfl, h0⟩
   ·refine k_false f rfl aL ?_
    refine k_skip ?_
    refine k_seq (k_region ?_)
    refine l_mv f rfl rfl fun a f => l_mv f rfl rfl fun a f => ?_
    obtain ⟨aM, aN, hd⟩ := bind_some hd
    refine l_slice T42 f rfl rfl h0 (.inl ⟨rfl, rfl⟩) (.inr ⟨_, _, rfl, rfl⟩) aN fun aO a aP f => ?_
    obtain ⟨aQ, aR, hd⟩ := bind_some hd
    refine l_res f rfl rfl Tryz.call69 (Wk.spec_l1Copy m aP aR) fun aS aT aU w aV m aW a f => ?_
    obtain ⟨aX, aY, rfl, rfl, aZ⟩ := aW
    have h0 := rd1 aV h0
    have aP := rd1 aV aP
    refine l_mv f rfl rfl fun a f => l_slit (R := (RI .i64)) (xs := ([x1] : List Int)) (RI.one _) m T42 f rfl rfl rfl (by decide) (All2.cons rfl (All2.nil _)) fun a0 a1 w a m a2 f => ?_
    obtain ⟨a3, a4, hd⟩ := bind_some hd
    refine l_append (RI.one _) 1 m aZ rfl T42 rfl (by decide) f rfl rfl rfl (Ow.src (j := 0) a2 m rfl) a4 fun a5 a6 w a m a7 f => l_as f rfl rfl fun a f => l_nil (k_seq (k_region ?_))
    refine l_mv f rfl rfl fun a f => l_mv f rfl rfl fun a f => l_mv f rfl rfl fun a f => ?_
    obtain ⟨a8, a9, hd⟩ := bind_some hd
    refine l_slice T42 f rfl rfl h0 (.inr ⟨_, _, rfl, rfl⟩) (.inl ⟨rfl, rfl⟩) a9 fun ba a bb f => ?_
    obtain ⟨bc, bd, hd⟩ := bind_some hd
    refine l_append (RI.one _) 1 m a7 rfl T42 rfl (by decide) f rfl rfl rfl (bb.src m) bd fun be bf w a m bg f => l_as f rfl rfl fun a f => l_nil ?_
    refine k_ret ?_
    have m := m.front 1 rfl
    obtain ⟨bh, bi, m, bj⟩ := Ow.stamp (RI.mono _) bg m
    have h0 := rd1 bi h0
    have a2 := od1 bi a2
    have m : Mem W bh w H := Mem.drop (H' := [a0]) m
    obtain rfl := sj hd
    exact ⟨[bf], ⟨f.get _ _ rfl, trivial⟩, f.defers, _, [], (GLe.trans az (GLe.trans aK (GLe.trans aV bi))), m, _, rfl, rfl, bj⟩

theorem Wk.spec_l9Near {W w : World} {G : GH} {H : List Itm} {v0_0 : Value} {v0_1 : Value} {x0_0 : (List (List Int))} {x0_1 : (List (List Int))} {x1 : Int} (m : Mem W G w (H)) (h0_0 : RSl (RSl (RI .i64)) G v0_0 x0_0) (h0_1 : RSl (RSl (RI .i64)) G v0_1 x0_1) {y : ((List Int))} (hd : D.spec_l9Near x0_0 x0_1 x1 = some y) :
  Calls Tryz.prog 111 #[(.agg #[v0_0, v0_1]), (.int .i64 x1)] w (Res W G H (fun G' Ho v => ∃ r0 : Value, Ho = [] ∧ r0 = v ∧ RSl (RI .i64) G' r0 y)) := by
 refine calls_b (args := [(.agg #[v0_0, v0_1]), (.int .i64 x1)]) (N := 52) [.tmp 4] Tryz.func111 rfl rfl (Nat.le_of_ble_eq_true rfl) rfl fun a f => ?_
 unfold D.spec_l9Near at hd
 refine k_seq (k_region ?_)
 refine l_box (cs := [v0_0, v0_1]) m f rfl rfl rfl fun aa w a m f => l_as f rfl rfl fun a f => l_nil (k_seq (k_region ?_))
 refine l_slit (R := (RI .i64)) (xs := ([] : List Int)) (RI.one _) m T42 f rfl rfl rfl (by decide) (All2.nil _) fun ab ac w a m ad f => l_as f rfl rfl fun a f => l_nil (k_seq (k_seq (k_region ?_)))
 refine l_as f rfl rfl fun a f => l_nil ?_
 obtain ⟨ae, af, m, ag⟩ := Ow.stamp (RI.mono _) ad m
 have h0_0 := rd2 af h0_0
 have h0_1 := rd2 af h0_1
 obtain ⟨ah, ai, hd⟩ := bind_some hd
 refine k_cut (fun a w => ∃ aj : List Int, aj = ah ∧ ∃ (ak : GH) (al : Value), GLe ae ak ∧ Fr a 52 [(5, al)] ∧ Mem W ak w (H) ∧ RSl (RI .i64) ak al aj) ?_ ?_
 ·refine k_block ?_
  refine k_loop (fun am a w => ∃ an : List Int, ∃ ao : Int, (an, ao) = am ∧ ∃ (ap : GH) (aq : Value), GLe ae ap ∧ Fr a 52 [(1, (.int .i64 x1)), (2, (.pointer (some ⟨aa, 0, none⟩))), (5, aq), (6, (.int .i64 ao))] ∧ Mem W ap w (Itm.box aa 27 [v0_0, v0_1] :: H) ∧ RSl (RI .i64) ap aq an) ai ⟨_, _, rfl, _, ac, (GLe.refl _), f.weak ⟨rfl, rfl, rfl, rfl, trivial⟩, m, ag⟩ ?_
  clear ai f m
  rintro am ar au av a w ⟨an, ao, rfl, ap, aq, aw, f, m, ax⟩
  have h0_0 := rd2 aw h0_0
  have h0_1 := rd2 aw h0_1
  refine k_seq (k_seq (k_region ?_))
  refine l_mv f rfl rfl fun a f => l_fieldAddr Tryz.underlying27 rfl Tryz.sizeOf22 (by decide) f rfl rfl fun a f => l_boxCell 0 1 m Pl22 f rfl rfl rfl rfl fun a f => l_len Tryz.underlying22 f rfl rfl h0_1 fun a f => l_in f rfl rfl rfl b_lss fun a f => l_nil ?_
  rcases cond_some au with ⟨ay, au⟩ | ⟨ay, au⟩
  ·refine k_true f rfl ay ?_
   refine k_skip ?_
   refine k_seq (k_block (k_seq (k_seq (k_region ?_))))
   refine l_fieldAddr Tryz.underlying27 rfl Tryz.sizeOf22 (by decide) f rfl rfl fun a f => l_boxCell 0 1 m Pl22 f rfl rfl rfl rfl fun a f => l_mv f rfl rfl fun a f => ?_
   obtain ⟨az, aA, au⟩ := bind_some au
   refine l_at T22 f rfl rfl rfl h0_1 aA fun aB aC a aD aE f => l_loadAt m Pl42 f rfl rfl aD fun a f => ?_
   obtain ⟨aF, aG, au⟩ := bind_some au
   refine l_at T42 f rfl rfl rfl aE aG fun aH aI a aJ aK f => ?_
   subst aK
   refine l_loadAt m Pl2 f rfl rfl aJ fun a f => l_mv f rfl rfl fun a f => l_in f rfl rfl rfl b_eql fun a f => l_nil ?_
   obtain ⟨aL, aM, au⟩ := bind_some au
   refine k_cut (fun a w => ∃ aN : List Int, aN = aL ∧ ∃ (aO : GH) (aP : Value), GLe ap aO ∧ Fr a 52 [(1, (.int .i64 x1)), (2, (.pointer (some ⟨aa, 0, none⟩))), (5, aP), (6, (.int .i64 ao))] ∧ Mem W aO w (Itm.box aa 27 [v0_0, v0_1] :: H) ∧ RSl (RI .i64) aO aP aN) ?_ ?_
   ·rcases cond_some aM with ⟨aQ, aM⟩ | ⟨aQ, aM⟩
    ·refine k_true f rfl aQ ?_
     refine k_region ?_
     refine l_mv f rfl rfl fun a f => l_fieldAddr Tryz.underlying27 rfl Tryz.sizeOf22 (by decide) f rfl rfl fun a f => l_boxCell 0 1 m Pl22 f rfl rfl rfl rfl fun a f => l_mv f rfl rfl fun a f => ?_
     obtain ⟨aR, aS, aM⟩ := bind_some aM
     refine l_at T22 f rfl rfl rfl h0_1 aS fun aT aU a aV aW f => l_loadAt m Pl42 f rfl rfl aV fun a f => ?_
     obtain ⟨aX, aY, aM⟩ := bind_some aM
     refine l_at T42 f rfl rfl rfl aW aY fun aZ a0 a a1 a2 f => ?_
     subst a2
     refine l_loadAt m Pl2 f rfl rfl a1 fun a f => ?_
     obtain ⟨a3, a4, aM⟩ := bind_some aM
     refine l_res f rfl rfl Tryz.call68 (Wk.spec_l1Into m ax a4) fun a5 a6 a7 w a8 m a9 a f => ?_
     obtain ⟨ba, rfl, rfl, bb⟩ := a9
     have ax := rd1 a8 ax
     have h0_1 := rd2 a8 h0_1
     have aV := At.mono a8 aV
     have aW := rd1 a8 aW
     have a1 := At.mono a8 a1
     have h0_0 := rd2 a8 h0_0
     refine l_as f rfl rfl fun a f => l_nil ?_
     obtain rfl := sj aM
     exact ⟨_, rfl, _, ba, a8, f.weak ⟨rfl, rfl, rfl, rfl, trivial⟩, m, bb⟩
    ·refine k_false f rfl aQ ?_
     refine k_skip ?_
     obtain rfl := sj aM
     exact ⟨_, rfl, _, aq, (GLe.refl _), f.weak ⟨rfl, rfl, rfl, rfl, trivial⟩, m, ax⟩
   ·rintro a w ⟨aN, rfl, aO, aP, bc, f, m, bd⟩
    have h0_0 := rd2 bc h0_0
    have h0_1 := rd2 bc h0_1
    refine k_seq (k_region ?_)
    refine l_fieldAddr Tryz.underlying27 rfl Tryz.sizeOf22 (by decide) f rfl rfl fun a f => l_boxCell 0 1 m Pl22 f rfl rfl rfl rfl fun a f => l_mv f rfl rfl fun a f => ?_
    obtain ⟨be, bf, au⟩ := bind_some au
    refine l_at T22 f rfl rfl rfl h0_1 bf fun bg bh a bi bj f => l_loadAt m Pl42 f rfl rfl bi fun a f => ?_
    obtain ⟨bk, bl, au⟩ := bind_some au
    refine l_at T42 f rfl rfl rfl bj bl fun bm bn a bo bp f => ?_
    subst bp
    refine l_loadAt m Pl2 f rfl rfl bo fun a f => l_mv f rfl rfl fun a f => l_in f rfl rfl rfl b_eql fun a f => l_nil ?_
    rcases cond_some au with ⟨bq, au⟩ | ⟨bq, au⟩
    ·refine k_true f rfl bq ?_
     refine k_region ?_
     refine l_mv f rfl rfl fun a f => l_fieldAddr Tryz.underlying27 rfl Tryz.sizeOf22 (by decide) f rfl rfl fun a f => l_boxCell 0 1 m Pl22 f rfl rfl rfl rfl fun a f => l_mv f rfl rfl fun a f => ?_
     obtain ⟨br, bs, au⟩ := bind_some au
     refine l_at T22 f rfl rfl rfl h0_1 bs fun bt bu a bv bw f => l_loadAt m Pl42 f rfl rfl bv fun a f => ?_
     obtain ⟨bx, bz, au⟩ := bind_some au
     refine l_at T42 f rfl rfl rfl bw bz fun bA bB a bC bD f => ?_
     subst bD
     refine l_loadAt m Pl2 f rfl rfl bC fun a f => ?_
     obtain ⟨bE, bF, au⟩ := bind_some au
     refine l_res f rfl rfl Tryz.call68 (Wk.spec_l1Into m bd bF) fun bG bH bI w bJ m bK a f => ?_
     obtain ⟨bL, rfl, rfl, bM⟩ := bK
     have bd := rd1 bJ bd
     have h0_1 := rd2 bJ h0_1
     have bv := At.mono bJ bv
     have bw := rd1 bJ bw
     have bC := At.mono bJ bC
     have h0_0 := rd2 bJ h0_0
     refine l_as f rfl rfl fun a f => l_nil (k_region ?_)
     refine l_mv f rfl rfl fun a f => l_in f rfl rfl rfl b_add fun a f => l_as f rfl rfl fun a f => l_nil ?_
     obtain rfl := sj au
     exact ⟨_, rfl, _, _, rfl, _, bL, (GLe.trans aw (GLe.trans bc bJ)), f.weak ⟨rfl, rfl, rfl, rfl, trivial⟩, m, bM⟩
    ·refine k_false f rfl bq ?_
     refine k_skip ?_
     refine k_region ?_
     refine l_mv f rfl rfl fun a f => l_in f rfl rfl rfl b_add fun a f => l_as f rfl rfl fun a f => l_nil ?_
     obtain rfl := sj au
     exact ⟨_, rfl, _, _, rfl, _, aP, (GLe.trans aw bc), f.weak ⟨rfl, rfl, rfl, rfl, trivial⟩, m, bd⟩
  ·refine k_false f rfl ay ?_
   refine k_exit rfl ?_
   have m : Mem W ap w H := Mem.drop (H' := [Itm.box aa 27 [v0_0, v0_1]]) m
   obtain rfl := sj au
   obtain rfl := av _ rfl
   exact ⟨_, rfl, _, aq, aw, f.weak ⟨rfl, trivial⟩, m, ax⟩
 ·rintro a w ⟨aj, rfl, ak, al, bN, f, m, bO⟩
  refine k_seq (k_region ?_)
  refine l_mv f rfl rfl fun a f => l_as f rfl rfl fun a f => l_nil ?_
  refine k_ret ?_
  obtain rfl := sj hd
  exact ⟨[al], ⟨f.get _ _ rfl, trivial⟩, f.defers, _, [], (GLe.trans af bN), m, _, rfl, rfl, bO⟩

theorem Wk.spec_l9Reached {W w : World} {G : GH} {H : List Itm} {v0_0 : Value} {v0_1 : Value} {v1 : Value} {x0_0 : (List (List Int))} {x0_1 : (List (List Int))} {x1 : (List Int)} (m : Mem W G w (H)) (h0_0 : RSl (RSl (RI .i64)) G v0_0 x0_0) (h0_1 : RSl (RSl (RI .i64)) G v0_1 x0_1) (h1 : RSl (RI .i64) G v1 x1) {y : Int} (hd : D.spec_l9Reached x0_0 x0_1 x1 = some y) :
  Calls Tryz.prog 84 #[(.agg #[v0_0, v0_1]), v1] w (Res W G H (fun _ Ho v => Ho = [] ∧ v = (.int .i64 y))) := by
 refine calls_b (args := [(.agg #[v0_0, v0_1]), v1]) (N := 58) [.tmp 4] Tryz.func84 rfl rfl (Nat.le_of_ble_eq_true rfl) rfl fun a f => ?_
 unfold D.spec_l9Reached at hd
 refine k_seq (k_region ?_)
 refine l_box (cs := [v0_0, v0_1]) m f rfl rfl rfl fun aa w a m f => l_as f rfl rfl fun a f => l_nil (k_seq (k_seq (k_region ?_)))
 refine l_mv f rfl rfl fun a f => l_len Tryz.underlying42 f rfl rfl h1 fun a f => l_in f rfl rfl rfl b_eql fun a f => l_nil ?_
 rcases cond_some hd with ⟨ab, hd⟩ | ⟨ab, hd⟩
 ·refine k_true f rfl ab ?_
  refine k_seq (k_region ?_)
  refine l_as f rfl rfl fun a f => l_nil ?_
  refine k_ret ?_
  have m : Mem W G w H := Mem.drop (H' := [Itm.box aa 27 [v0_0, v0_1]]) m
  obtain rfl := sj hd
  exact ⟨[(.int .i64 0)], ⟨f.get _ _ rfl, trivial⟩, f.defers, _, [], (GLe.refl _), m, rfl, rfl⟩
 ·refine k_false f rfl ab ?_
  refine k_skip ?_
  refine k_seq (k_region ?_)
  refine l_mv f rfl rfl fun a f => ?_
  obtain ⟨ac, ad, hd⟩ := bind_some hd
  refine l_at T42 f rfl rfl rfl h1 ad fun ae af a ag ah f => ?_
  subst ah
  refine l_loadAt m Pl2 f rfl rfl ag fun a f => l_slit (R := (RI .i64)) (xs := ([ac] : List Int)) (RI.one _) m T42 f rfl rfl rfl (by decide) (All2.cons rfl (All2.nil _)) fun ai aj w a m ak f => l_as f rfl rfl fun a f => l_nil (k_seq (k_seq (k_region ?_)))
  refine l_as f rfl rfl fun a f => l_nil ?_
  obtain ⟨al, am, hd⟩ := bind_some hd
  refine k_cut (fun a w => ∃ an : List Int, an = al ∧ ∃ (ao : GH) (ap : Value) (aq : Itm), GLe G ao ∧ Fr a 58 [(5, ap)] ∧ Mem W ao w (aq :: H) ∧ Ow (RI .i64) 2 ao aq ap an) ?_ ?_
  ·refine k_block ?_
   have m := m.front 1 rfl
   refine k_loop (fun ar a w => ∃ au : List Int, ∃ av : Int, (au, av) = ar ∧ ∃ (aw : GH) (ax : Value) (ay : Itm), GLe G aw ∧ Fr a 58 [(1, v1), (2, (.pointer (some ⟨aa, 0, none⟩))), (5, ax), (6, (.int .i64 av))] ∧ Mem W aw w (Itm.box aa 27 [v0_0, v0_1] :: ay :: H) ∧ Ow (RI .i64) 2 aw ay ax au) am ⟨_, _, rfl, _, aj, ai, (GLe.refl _), f.weak ⟨rfl, rfl, rfl, rfl, trivial⟩, m, ak⟩ ?_
   clear am f m
   rintro ar az aA aB a w ⟨au, av, rfl, aw, ax, ay, aC, f, m, aD⟩
   have h1 := rd1 aC h1
   have h0_0 := rd2 aC h0_0
   have h0_1 := rd2 aC h0_1
   refine k_seq (k_seq (k_region ?_))
   refine l_mv f rfl rfl fun a f => l_mv f rfl rfl fun a f => l_own_len 1 m aD rfl Tryz.underlying42 f rfl rfl fun a f => l_in f rfl rfl rfl b_lss fun a f => l_nil ?_
   rcases cond_some aA with ⟨aE, aA⟩ | ⟨aE, aA⟩
   ·refine k_true f rfl aE ?_
    refine k_skip ?_
    refine k_seq (k_block (k_seq ?_))
    refine k_draw 7 Follows (by kernel_rfl) m ?_
    refine q_boxAgg (i := 0) (ds := [v0_0, v0_1]) 7 0 Ag27 rfl rfl rfl rfl (by kernel_rfl) rfl f rfl rfl rfl fun a f => q_mv 1 7 rfl (by kernel_rfl) f rfl rfl rfl fun a f => q_mv 2 7 rfl (by kernel_rfl) f rfl rfl rfl fun a f => ?_
    obtain ⟨aF, aG, aA⟩ := bind_some aA
    refine q_own_at (i := 3) 7 1 m aD rfl T42 aG rfl (by kernel_rfl) rfl f rfl rfl rfl rfl fun aH a aI f => q_own_load (i := 4) 7 1 aD rfl Pl2 aI aG rfl (by kernel_rfl) rfl f rfl rfl rfl fun aJ a aK f => ?_
    subst aK
    refine q_one (i := 5) rfl (by kernel_rfl) rfl fun aL w aM m aN aN => ?_
    have h1 := rd1 aM h1
    have h0_0 := rd2 aM h0_0
    have h0_1 := rd2 aM h0_1
    have aD := od1 aM aD
    obtain ⟨aO, aP, aA⟩ := bind_some aA
    refine l_res f rfl rfl Tryz.call111 (Wk.spec_l9Near m h0_0 h0_1 aP) fun aQ aR aS w aT m aU a f => ?_
    obtain ⟨aV, rfl, rfl, aW⟩ := aU
    have h1 := rd1 aT h1
    have h0_0 := rd2 aT h0_0
    have h0_1 := rd2 aT h0_1
    have aD := od1 aT aD
    refine l_nil ?_
    refine aN aR [] _ _ aT m ?_
    refine q_p 6 7 rfl (by kernel_rfl) f rfl rfl rfl (fun _ => r_assign (f.eval rfl)) fun a f => q_end fun aX w aY m => ?_
    have h1 := rd1 aY h1
    have aW := rd1 aY aW
    have h0_0 := rd2 aY h0_0
    have h0_1 := rd2 aY h0_1
    have aD := od1 aY aD
    refine l_nil (k_seq (k_region ?_))
    refine l_as f rfl rfl fun a f => l_nil ?_
    obtain ⟨aZ, a0, aA⟩ := bind_some aA
    refine k_cut (fun a w => ∃ a1 : List Int, a1 = aZ ∧ ∃ (a2 : GH) (a3 : Value) (a4 : Itm), GLe aX a2 ∧ Fr a 58 [(1, v1), (2, (.pointer (some ⟨aa, 0, none⟩))), (5, a3), (6, (.int .i64 av))] ∧ Mem W a2 w (Itm.box aa 27 [v0_0, v0_1] :: a4 :: H) ∧ Ow (RI .i64) 2 a2 a4 a3 a1) ?_ ?_
    ·refine k_block ?_
     refine k_loop (fun a5 a w => ∃ a6 : List Int, ∃ a7 : Int, (a6, a7) = a5 ∧ ∃ (a8 : GH) (a9 : Value) (ba : Itm), GLe aX a8 ∧ Fr a 58 [(1, v1), (2, (.pointer (some ⟨aa, 0, none⟩))), (5, a9), (6, (.int .i64 av)), (7, aV), (8, (.int .i64 a7))] ∧ Mem W a8 w (Itm.box aa 27 [v0_0, v0_1] :: ba :: H) ∧ Ow (RI .i64) 2 a8 ba a9 a6) a0 ⟨_, _, rfl, _, ax, ay, (GLe.refl _), f.weak ⟨rfl, rfl, rfl, rfl, rfl, rfl, trivial⟩, m, aD⟩ ?_
     clear a0 f m
     rintro a5 bb bc bd a w ⟨a6, a7, rfl, a8, a9, ba, be, f, m, bf⟩
     have h1 := rd1 be h1
     have aW := rd1 be aW
     have h0_0 := rd2 be h0_0
     have h0_1 := rd2 be h0_1
     refine k_seq (k_seq (k_region ?_))
     refine l_mv f rfl rfl fun a f => l_mv f rfl rfl fun a f => l_len Tryz.underlying42 f rfl rfl aW fun a f => l_in f rfl rfl rfl b_lss fun a f => l_nil ?_
     rcases cond_some bc with ⟨bg, bc⟩ | ⟨bg, bc⟩
     ·refine k_true f rfl bg ?_
      refine k_skip ?_
      refine k_seq (k_block (k_seq (k_region ?_)))
      refine l_mv f rfl rfl fun a f => l_mv f rfl rfl fun a f => l_mv f rfl rfl fun a f => ?_
      obtain ⟨bh, bi, bc⟩ := bind_some bc
      refine l_at T42 f rfl rfl rfl aW bi fun bj bk a bl bm f => ?_
      subst bm
      refine l_loadAt m Pl2 f rfl rfl bl fun a f => ?_
      obtain ⟨bn, bo, bc⟩ := bind_some bc
      refine l_res f rfl rfl Tryz.call70 (Wk.spec_l1Has m h1 bo) fun bp bq br w bs m bt a f => ?_
      obtain ⟨rfl, rfl⟩ := bt
      have h1 := rd1 bs h1
      have aW := rd1 bs aW
      have bl := At.mono bs bl
      have h0_0 := rd2 bs h0_0
      have h0_1 := rd2 bs h0_1
      have bf := od1 bs bf
      refine l_mv f rfl rfl fun a f => ?_
      obtain ⟨bu, bv, bc⟩ := bind_some bc
      refine l_cut 8 (fun a w => ∃ bw, GLe bq bw ∧ Mem W bw w (Itm.box aa 27 [v0_0, v0_1] :: ba :: H) ∧ Fr a 58 [(1, v1), (2, (.pointer (some ⟨aa, 0, none⟩))), (5, a9), (6, (.int .i64 av)), (7, aV), (8, (.int .i64 a7)), (31, (.bool (decide (a7 < (aO.length : Int))))), (34, v1), (35, aV), (36, (.int .i64 a7)), (37, bj), (38, (.int .i64 bh)), (39, (.bool bn)), (40, (.bool bn)), (48, (.bool bu))]) ?_ ?_
      ·rcases cond_some bv with ⟨bx, bv⟩ | ⟨bx, bv⟩
       ·refine l_run f rfl rfl bx ?_
        refine l_mv f rfl rfl fun a f => l_run f rfl rfl bx ?_
        refine l_mv f rfl rfl fun a f => l_run f rfl rfl bx ?_
        refine l_mv f rfl rfl fun a f => l_run f rfl rfl bx ?_
        obtain ⟨bz, bA, bv⟩ := bind_some bv
        refine l_at T42 f rfl rfl rfl aW bA fun bB bC a bD bE f => ?_
        subst bE
        refine l_run f rfl rfl bx ?_
        refine l_loadAt m Pl2 f rfl rfl bD fun a f => l_run f rfl rfl bx ?_
        obtain ⟨bF, bG, bv⟩ := bind_some bv
        refine l_res f rfl rfl Tryz.call70 (Ow.lendCall (RI.mono _) 1 bf m rfl (fun bH bI m bJ => Wk.spec_l1Has m bJ bG) (fun _ _ _ _ h => h)) fun bK bL bM w bN m bO a f => ?_
        obtain ⟨rfl, rfl⟩ := bO
        have h1 := rd1 bN h1
        have aW := rd1 bN aW
        have bl := At.mono bN bl
        have bD := At.mono bN bD
        have h0_0 := rd2 bN h0_0
        have h0_1 := rd2 bN h0_1
        have bf := od1 bN bf
        refine l_run f rfl rfl bx ?_
        refine l_op f rfl rfl rfl (r_not (f.eval rfl)) fun a f => l_op f rfl rfl rfl (r_pickT (f.eval rfl) bx (f.eval rfl)) fun a f => ?_
        obtain rfl := sj bv
        exact ⟨_, bN, m, f.weak ⟨rfl, rfl, rfl, rfl, rfl, rfl, rfl, rfl, rfl, rfl, rfl, rfl, rfl, rfl, rfl, trivial⟩⟩
       ·refine l_not' f rfl rfl rfl bx fun a f => ?_
        refine l_not' f rfl rfl rfl bx fun a f => l_not' f rfl rfl rfl bx fun a f => l_not' f rfl rfl rfl bx fun a f => l_not' f rfl rfl rfl bx fun a f => l_not' f rfl rfl rfl bx fun a f => l_not' f rfl rfl rfl bx fun a f => l_op f rfl rfl rfl (r_pickF (f.eval rfl) bx (f.eval rfl)) fun a f => ?_
        obtain rfl := sj bv
        exact ⟨_, (GLe.refl _), m, f.weak ⟨rfl, rfl, rfl, rfl, rfl, rfl, rfl, rfl, rfl, rfl, rfl, rfl, rfl, rfl, rfl, trivial⟩⟩
      ·rintro a w ⟨bw, bP, m, f⟩
       have h1 := rd1 bP h1
       have aW := rd1 bP aW
       have bl := At.mono bP bl
       have h0_0 := rd2 bP h0_0
       have h0_1 := rd2 bP h0_1
       have bf := od1 bP bf
       refine l_nil ?_
       rcases cond_some bc with ⟨bQ, bc⟩ | ⟨bQ, bc⟩
       ·refine k_true f rfl bQ ?_
        refine k_region ?_
        refine l_mv f rfl rfl fun a f => l_mv f rfl rfl fun a f => l_mv f rfl rfl fun a f => ?_
        obtain ⟨bR, bS, bc⟩ := bind_some bc
        refine l_at T42 f rfl rfl rfl aW bS fun bT bU a bV bW f => ?_
        subst bW
        refine l_loadAt m Pl2 f rfl rfl bV fun a f => l_slit (R := (RI .i64)) (xs := ([bR] : List Int)) (RI.one _) m T42 f rfl rfl rfl (by decide) (All2.cons rfl (All2.nil _)) fun bX bY w a m bZ f => ?_
        obtain ⟨b0, b1, bc⟩ := bind_some bc
        refine l_append (RI.one _) 2 m bf rfl T42 rfl (by decide) f rfl rfl rfl (Ow.src (j := 0) bZ m rfl) b1 fun b2 b3 w a m b4 f => l_as f rfl rfl fun a f => l_nil (k_region ?_)
        refine l_mv f rfl rfl fun a f => l_in f rfl rfl rfl b_add fun a f => l_as f rfl rfl fun a f => l_nil ?_
        have m := m.front 2 rfl
        have m := m.front 2 rfl
        have m := m.eraseAt 2
        obtain rfl := sj bc
        exact ⟨_, rfl, _, _, rfl, _, b3, b2, (GLe.trans be (GLe.trans bs bP)), f.weak ⟨rfl, rfl, rfl, rfl, rfl, rfl, trivial⟩, m, b4⟩
       ·refine k_false f rfl bQ ?_
        refine k_skip ?_
        refine k_region ?_
        refine l_mv f rfl rfl fun a f => l_in f rfl rfl rfl b_add fun a f => l_as f rfl rfl fun a f => l_nil ?_
        obtain rfl := sj bc
        exact ⟨_, rfl, _, _, rfl, _, a9, ba, (GLe.trans be (GLe.trans bs bP)), f.weak ⟨rfl, rfl, rfl, rfl, rfl, rfl, trivial⟩, m, bf⟩
     ·refine k_false f rfl bg ?_
      refine k_exit rfl ?_
      obtain rfl := sj bc
      obtain rfl := bd _ rfl
      exact ⟨_, rfl, _, a9, ba, be, f.weak ⟨rfl, rfl, rfl, rfl, trivial⟩, m, bf⟩
    ·rintro a w ⟨a1, rfl, a2, a3, a4, b5, f, m, b6⟩
     have h1 := rd1 b5 h1
     have h0_0 := rd2 b5 h0_0
     have h0_1 := rd2 b5 h0_1
     refine k_region ?_
     refine l_mv f rfl rfl fun a f => l_in f rfl rfl rfl b_add fun a f => l_as f rfl rfl fun a f => l_nil ?_
     obtain rfl := sj aA
     exact ⟨_, rfl, _, _, rfl, _, a3, a4, (GLe.trans aC (GLe.trans aM (GLe.trans aT (GLe.trans aY b5)))), f.weak ⟨rfl, rfl, rfl, rfl, trivial⟩, m, b6⟩
   ·refine k_false f rfl aE ?_
    refine k_exit rfl ?_
    have m := m.front 1 rfl
    have m := m.eraseAt 1
    obtain rfl := sj aA
    obtain rfl := aB _ rfl
    exact ⟨_, rfl, _, ax, ay, aC, f.weak ⟨rfl, trivial⟩, m, aD⟩
  ·rintro a w ⟨an, rfl, ao, ap, aq, b7, f, m, b8⟩
   refine k_seq (k_region ?_)
   refine l_mv f rfl rfl fun a f => l_own_len 0 m b8 rfl Tryz.underlying42 f rfl rfl fun a f => l_as f rfl rfl fun a f => l_nil ?_
   refine k_ret ?_
   have m : Mem W ao w H := Mem.drop (H' := [aq]) m
   obtain rfl := sj hd
   exact ⟨[(.int .i64 (an.length : Int))], ⟨f.get _ _ rfl, trivial⟩, f.defers, _, [], b7, m, rfl, rfl⟩

theorem Wk.spec_l9Tree {W w : World} {G : GH} {H : List Itm} {v0_0 : Value} {v0_1 : Value} {x0_0 : (List (List Int))} {x0_1 : (List (List Int))} (m : Mem W G w (H)) (h0_0 : RSl (RSl (RI .i64)) G v0_0 x0_0) (h0_1 : RSl (RSl (RI .i64)) G v0_1 x0_1) {y : Bool} (hd : D.spec_l9Tree x0_0 x0_1 = some y) :
  Calls Tryz.prog 78 #[(.agg #[v0_0, v0_1])] w (Res W G H (fun _ Ho v => Ho = [] ∧ v = (.bool y))) := by
 refine calls_b (args := [(.agg #[v0_0, v0_1])]) (N := 27) [.tmp 2] Tryz.func78 rfl rfl (Nat.le_of_ble_eq_true rfl) rfl fun a f => ?_
 unfold D.spec_l9Tree at hd
 refine k_seq (k_region ?_)
 refine l_box (cs := [v0_0, v0_1]) m f rfl rfl rfl fun aa w a m f => l_as f rfl rfl fun a f => l_nil (k_seq ?_)
 refine k_draw 25 Follows (by kernel_rfl) m ?_
 refine q_boxAgg (i := 0) (ds := [v0_0, v0_1]) 25 0 Ag27 rfl rfl rfl rfl (by kernel_rfl) rfl f rfl rfl rfl fun a f => ?_
 obtain ⟨ab, ac, hd⟩ := bind_some hd
 refine q_call (i := 1) 25 rfl (by kernel_rfl) rfl f rfl rfl rfl Tryz.call90 (fun _ _ w ad m => Wk.spec_l9Form m (rd2 ad h0_0) (rd2 ad h0_1) ac) fun a f => q_mv 2 25 rfl (by kernel_rfl) f rfl rfl rfl fun a f => q_cut (fuel' := 13) (listed' := #[true, true, true, true, true, true, true, true, true, true, true, true, false, false, false, false, false, false, false, false, false, false, false, false, false]) (fun a => Fr a 27 [(0, (.agg #[v0_0, v0_1])), (1, (.pointer (some ⟨aa, 0, none⟩))), (3, (.agg #[v0_0, v0_1])), (4, (.bool ab)), (5, (.bool ab)), (14, (.bool (ab && ((x0_1.length : Int) == (IntKind.i64.wrap ((x0_0.length : Int) - 1))))))]) ?_ ?_
 ·intro a f
  refine q_mv 12 25 rfl (by kernel_rfl) f rfl rfl rfl fun a f => ?_
  rcases cond_some hd with ⟨ae, hd⟩ | ⟨ae, hd⟩
  ·refine q_boxAgg (i := 13) (ds := [v0_0, v0_1]) 25 0 Ag27 rfl rfl rfl rfl (by kernel_rfl) rfl f (wanted_of f rfl rfl rfl ae) rfl rfl fun a f => ?_
   refine q_fieldAddr (i := 14) 25 Tryz.underlying27 rfl Tryz.sizeOf22 (by decide) rfl (by kernel_rfl) rfl f (wanted_of f rfl rfl rfl ae) rfl rfl fun a f => q_boxCell (i := 15) 25 0 Pl22 rfl rfl rfl (by kernel_rfl) rfl f (wanted_of f rfl rfl rfl ae) rfl rfl fun a f => q_len (i := 16) 25 Tryz.underlying22 h0_0 rfl (by kernel_rfl) rfl f (wanted_of f rfl rfl rfl ae) rfl rfl fun a f => q_fieldAddr (i := 19) 25 Tryz.underlying27 rfl Tryz.sizeOf22 (by decide) rfl (by kernel_rfl) rfl f (wanted_of f rfl rfl rfl ae) rfl rfl fun a f => q_boxCell (i := 20) 25 0 Pl22 rfl rfl rfl (by kernel_rfl) rfl f (wanted_of f rfl rfl rfl ae) rfl rfl fun a f => q_len (i := 21) 25 Tryz.underlying22 h0_0 rfl (by kernel_rfl) rfl f (wanted_of f rfl rfl rfl ae) rfl rfl fun a f => q_one (i := 17) rfl (by kernel_rfl) rfl fun af w ag m ah ah => ?_
   have h0_0 := rd2 ag h0_0
   have h0_1 := rd2 ag h0_1
   refine l_run f rfl rfl ae ?_
   obtain ⟨ai, aj, hd⟩ := bind_some hd
   refine l_res f rfl rfl Tryz.call87 (Wk.spec_l1All m  aj) fun ak al am w an m ao a f => ?_
   obtain ⟨ap, aq, rfl, rfl, ar⟩ := ao
   have h0_0 := rd2 an h0_0
   have h0_1 := rd2 an h0_1
   refine l_nil ?_
   refine ah al [aq] _ _ an m ?_
   refine q_one (i := 18) rfl (by kernel_rfl) rfl fun au w av m aw aw => ?_
   have h0_0 := rd2 av h0_0
   have h0_1 := rd2 av h0_1
   have ar := od1 av ar
   refine l_run f rfl rfl ae ?_
   obtain ⟨ax, ay, hd⟩ := bind_some hd
   refine l_res f rfl rfl Tryz.call84 (Ow.lendCall (RI.mono _) 0 ar m rfl (fun az aA m aB => Wk.spec_l9Reached m (rd2 aA h0_0) (rd2 aA h0_1) aB ay) (fun _ _ _ _ h => h)) fun aC aD aE w aF m aG a f => ?_
   obtain ⟨rfl, rfl⟩ := aG
   have h0_0 := rd2 aF h0_0
   have h0_1 := rd2 aF h0_1
   have ar := od1 aF ar
   refine l_nil ?_
   refine aw aD [aq] _ _ aF m ?_
   refine q_p 22 25 rfl (by kernel_rfl) f (wanted_of f rfl rfl rfl ae) rfl rfl (fun _ => r_int (f.eval rfl) (f.eval rfl) b_eql) fun a f => q_p 23 25 rfl (by kernel_rfl) f rfl rfl rfl (fun _ => r_pickT (f.eval rfl) ae (f.eval rfl)) fun a f => q_p 24 25 rfl (by kernel_rfl) f rfl rfl rfl (fun _ => r_assign (f.eval rfl)) fun a f => q_end fun aH w aI m => ?_
   have h0_0 := rd2 aI h0_0
   have h0_1 := rd2 aI h0_1
   have ar := od1 aI ar
   refine l_nil ?_
   refine k_ret ?_
   have m : Mem W aH w H := Mem.drop (H' := [aq, Itm.box aa 27 [v0_0, v0_1]]) m
   obtain rfl := sj hd
   exact ⟨[(.bool (ax == (x0_0.length : Int)))], ⟨f.get _ _ rfl, trivial⟩, f.defers, _, [], (GLe.trans ag (GLe.trans an (GLe.trans av (GLe.trans aF aI)))), m, rfl, rfl⟩
  ·refine q_ng 13 25 rfl (by kernel_rfl) f rfl rfl ae rfl fun a f => ?_
   refine q_ng 14 25 rfl (by kernel_rfl) f rfl rfl ae rfl fun a f => q_ng 15 25 rfl (by kernel_rfl) f rfl rfl ae rfl fun a f => q_ng 16 25 rfl (by kernel_rfl) f rfl rfl ae rfl fun a f => q_ng 17 25 rfl (by kernel_rfl) f rfl rfl ae rfl fun a f => q_ng 18 25 rfl (by kernel_rfl) f rfl rfl ae rfl fun a f => q_ng 19 25 rfl (by kernel_rfl) f rfl rfl ae rfl fun a f => q_ng 20 25 rfl (by kernel_rfl) f rfl rfl ae rfl fun a f => q_ng 21 25 rfl (by kernel_rfl) f rfl rfl ae rfl fun a f => q_ng 22 25 rfl (by kernel_rfl) f rfl rfl ae rfl fun a f => q_p 23 25 rfl (by kernel_rfl) f rfl rfl rfl (fun _ => r_pickF (f.eval rfl) ae (f.eval rfl)) fun a f => q_p 24 25 rfl (by kernel_rfl) f rfl rfl rfl (fun _ => r_assign (f.eval rfl)) fun a f => q_end fun aJ w aK m => ?_
   have h0_0 := rd2 aK h0_0
   have h0_1 := rd2 aK h0_1
   refine l_nil ?_
   refine k_ret ?_
   have m : Mem W aJ w H := Mem.drop (H' := [Itm.box aa 27 [v0_0, v0_1]]) m
   obtain rfl := sj hd
   exact ⟨[(.bool false)], ⟨f.get _ _ rfl, trivial⟩, f.defers, _, [], aK, m, rfl, rfl⟩
 ·intro aL
  rcases Bool.eq_false_or_eq_true ab with aM | aM
  ·refine q_fieldAddr (i := 3) 25 Tryz.underlying27 rfl Tryz.sizeOf22 (by decide) rfl (by kernel_rfl) rfl f (wanted_of f rfl rfl rfl aM) rfl rfl fun a f => ?_
   refine q_boxCell (i := 4) 25 0 Pl22 rfl rfl rfl (by kernel_rfl) rfl f (wanted_of f rfl rfl rfl aM) rfl rfl fun a f => q_len (i := 5) 25 Tryz.underlying22 h0_1 rfl (by kernel_rfl) rfl f (wanted_of f rfl rfl rfl aM) rfl rfl fun a f => q_fieldAddr (i := 6) 25 Tryz.underlying27 rfl Tryz.sizeOf22 (by decide) rfl (by kernel_rfl) rfl f (wanted_of f rfl rfl rfl aM) rfl rfl fun a f => q_boxCell (i := 7) 25 0 Pl22 rfl rfl rfl (by kernel_rfl) rfl f (wanted_of f rfl rfl rfl aM) rfl rfl fun a f => q_len (i := 8) 25 Tryz.underlying22 h0_0 rfl (by kernel_rfl) rfl f (wanted_of f rfl rfl rfl aM) rfl rfl fun a f => q_p 9 25 rfl (by kernel_rfl) f (wanted_of f rfl rfl rfl aM) rfl rfl (fun _ => r_int (f.eval rfl) (f.eval rfl) b_sub) fun a f => q_p 10 25 rfl (by kernel_rfl) f (wanted_of f rfl rfl rfl aM) rfl rfl (fun _ => r_int (f.eval rfl) (f.eval rfl) b_eql) fun a f => q_p 11 25 rfl (by kernel_rfl) f rfl rfl rfl (fun _ => r_pickT (f.eval rfl) aM (f.eval rfl)) fun a f => ?_
   exact aL _ (f.weak ⟨rfl, rfl, rfl, rfl, rfl, by rw [aM]; rfl, trivial⟩)
  ·refine q_ng 3 25 rfl (by kernel_rfl) f rfl rfl aM rfl fun a f => ?_
   refine q_ng 4 25 rfl (by kernel_rfl) f rfl rfl aM rfl fun a f => q_ng 5 25 rfl (by kernel_rfl) f rfl rfl aM rfl fun a f => q_ng 6 25 rfl (by kernel_rfl) f rfl rfl aM rfl fun a f => q_ng 7 25 rfl (by kernel_rfl) f rfl rfl aM rfl fun a f => q_ng 8 25 rfl (by kernel_rfl) f rfl rfl aM rfl fun a f => q_ng 9 25 rfl (by kernel_rfl) f rfl rfl aM rfl fun a f => q_ng 10 25 rfl (by kernel_rfl) f rfl rfl aM rfl fun a f => q_p 11 25 rfl (by kernel_rfl) f rfl rfl rfl (fun _ => r_pickF (f.eval rfl) aM (f.eval rfl)) fun a f => ?_
   exact aL _ (f.weak ⟨rfl, rfl, rfl, rfl, rfl, by rw [aM]; rfl, trivial⟩)

theorem Wk.spec_l1Edges {W w : World} {G : GH} {H : List Itm} {v0_0 : Value} {x0_0 : (List (List Int))} (m : Mem W G w (H)) (h0_0 : RSl (RSl (RI .i64)) G v0_0 x0_0) {y : ((List (List Int)))} (hd : D.spec_l1Edges x0_0 = some y) :
  Calls Tryz.prog 81 #[(.agg #[v0_0])] w (Res W G H (fun G' Ho v => ∃ r0 : Value, ∃ i0 : Itm, Ho = [i0] ∧ r0 = v ∧ Ow (RSl (RI .i64)) 42 G' i0 r0 y)) := by
 refine calls_b (args := [(.agg #[v0_0])]) (N := 47) [.tmp 2] Tryz.func81 rfl rfl (Nat.le_of_ble_eq_true rfl) rfl fun a f => ?_
 unfold D.spec_l1Edges at hd
 refine k_seq (k_region ?_)
 refine l_box (cs := [v0_0]) m f rfl rfl rfl fun aa w a m f => l_as f rfl rfl fun a f => l_nil (k_seq (k_region ?_))
 refine l_slit (R := (RSl (RI .i64))) (xs := ([] : List (List Int))) (RSl.one _) m T22 f rfl rfl rfl (by decide) (All2.nil _) fun ab ac w a m ad f => l_as f rfl rfl fun a f => l_nil (k_seq (k_seq (k_region ?_)))
 refine l_as f rfl rfl fun a f => l_nil ?_
 obtain ⟨ae, af, hd⟩ := bind_some hd
 refine k_cut (fun a w => ∃ ag : List (List Int), ag = ae ∧ ∃ (ah : GH) (ai : Value) (aj : Itm), GLe G ah ∧ Fr a 47 [(3, ai)] ∧ Mem W ah w (aj :: H) ∧ Ow (RSl (RI .i64)) 42 ah aj ai ag) ?_ ?_
 ·refine k_block ?_
  have m := m.front 1 rfl
  refine k_loop (fun ak a w => ∃ al : List (List Int), ∃ am : Int, (al, am) = ak ∧ ∃ (an : GH) (ao : Value) (ap : Itm), GLe G an ∧ Fr a 47 [(1, (.pointer (some ⟨aa, 0, none⟩))), (3, ao), (4, (.int .i64 am))] ∧ Mem W an w (Itm.box aa 30 [v0_0] :: ap :: H) ∧ Ow (RSl (RI .i64)) 42 an ap ao al) af ⟨_, _, rfl, _, ac, ab, (GLe.refl _), f.weak ⟨rfl, rfl, rfl, trivial⟩, m, ad⟩ ?_
  clear af f m
  rintro ak aq ar au a w ⟨al, am, rfl, an, ao, ap, av, f, m, aw⟩
  have h0_0 := rd2 av h0_0
  refine k_seq (k_seq (k_region ?_))
  refine l_mv f rfl rfl fun a f => l_boxAgg 0 0 (ds := [v0_0]) m Ag30 f rfl rfl rfl rfl rfl fun a f => ?_
  obtain ⟨ax, ay, ar⟩ := bind_some ar
  refine l_res f rfl rfl Tryz.call80 (Wk.spec_l1Size m h0_0 ay) fun az aA aB w aC m aD a f => ?_
  obtain ⟨rfl, rfl⟩ := aD
  have h0_0 := rd2 aC h0_0
  have aw := Ow.mono (RSl.mono (RI.mono _)) aC aw
  refine l_in f rfl rfl rfl b_lss fun a f => l_nil ?_
  rcases cond_some ar with ⟨aE, ar⟩ | ⟨aE, ar⟩
  ·refine k_true f rfl aE ?_
   refine k_skip ?_
   refine k_seq (k_block (k_seq (k_region ?_)))
   refine l_as f rfl rfl fun a f => l_nil ?_
   obtain ⟨aF, aG, ar⟩ := bind_some ar
   refine k_cut (fun a w => ∃ aH : List (List Int), aH = aF ∧ ∃ (aI : GH) (aJ : Value) (aK : Itm), GLe aA aI ∧ Fr a 47 [(1, (.pointer (some ⟨aa, 0, none⟩))), (3, aJ), (4, (.int .i64 am))] ∧ Mem W aI w (Itm.box aa 30 [v0_0] :: aK :: H) ∧ Ow (RSl (RI .i64)) 42 aI aK aJ aH) ?_ ?_
   ·refine k_block ?_
    refine k_loop (fun aL a w => ∃ aM : List (List Int), ∃ aN : Int, (aM, aN) = aL ∧ ∃ (aO : GH) (aP : Value) (aQ : Itm), GLe aA aO ∧ Fr a 47 [(1, (.pointer (some ⟨aa, 0, none⟩))), (3, aP), (4, (.int .i64 am)), (5, (.int .i64 aN))] ∧ Mem W aO w (Itm.box aa 30 [v0_0] :: aQ :: H) ∧ Ow (RSl (RI .i64)) 42 aO aQ aP aM) aG ⟨_, _, rfl, _, ao, ap, (GLe.refl _), f.weak ⟨rfl, rfl, rfl, rfl, trivial⟩, m, aw⟩ ?_
    clear aG f m
    rintro aL aR aS aT a w ⟨aM, aN, rfl, aO, aP, aQ, aU, f, m, aV⟩
    have h0_0 := rd2 aU h0_0
    refine k_seq (k_seq (k_region ?_))
    refine l_mv f rfl rfl fun a f => l_fieldAddr Tryz.underlying30 rfl Tryz.sizeOf22 (by decide) f rfl rfl fun a f => l_boxCell 0 0 m Pl22 f rfl rfl rfl rfl fun a f => l_mv f rfl rfl fun a f => ?_
    obtain ⟨aW, aX, aS⟩ := bind_some aS
    refine l_at T22 f rfl rfl rfl h0_0 aX fun aY aZ a a0 a1 f => l_loadAt m Pl42 f rfl rfl a0 fun a f => l_len Tryz.underlying42 f rfl rfl a1 fun a f => l_in f rfl rfl rfl b_lss fun a f => l_nil ?_
    rcases cond_some aS with ⟨a2, aS⟩ | ⟨a2, aS⟩
    ·refine k_true f rfl a2 ?_
     refine k_skip ?_
     refine k_seq (k_block (k_seq (k_region ?_)))
     refine l_fieldAddr Tryz.underlying30 rfl Tryz.sizeOf22 (by decide) f rfl rfl fun a f => l_boxCell 0 0 m Pl22 f rfl rfl rfl rfl fun a f => l_mv f rfl rfl fun a f => ?_
     obtain ⟨a3, a4, aS⟩ := bind_some aS
     refine l_at T22 f rfl rfl rfl h0_0 a4 fun a5 a6 a a7 a8 f => l_loadAt m Pl42 f rfl rfl a7 fun a f => l_mv f rfl rfl fun a f => ?_
     obtain ⟨a9, ba, aS⟩ := bind_some aS
     refine l_at T42 f rfl rfl rfl a8 ba fun bb bc a bd be f => ?_
     subst be
     refine l_loadAt m Pl2 f rfl rfl bd fun a f => l_mv f rfl rfl fun a f => l_in f rfl rfl rfl b_gtr fun a f => l_nil ?_
     rcases cond_some aS with ⟨bf, aS⟩ | ⟨bf, aS⟩
     ·refine k_true f rfl bf ?_
      refine k_region ?_
      refine l_mv f rfl rfl fun a f => l_mv f rfl rfl fun a f => l_fieldAddr Tryz.underlying30 rfl Tryz.sizeOf22 (by decide) f rfl rfl fun a f => l_boxCell 0 0 m Pl22 f rfl rfl rfl rfl fun a f => l_mv f rfl rfl fun a f => ?_
      obtain ⟨bg, bh, aS⟩ := bind_some aS
      refine l_at T22 f rfl rfl rfl h0_0 bh fun bi bj a bk bl f => l_loadAt m Pl42 f rfl rfl bk fun a f => l_mv f rfl rfl fun a f => ?_
      obtain ⟨bm, bn, aS⟩ := bind_some aS
      refine l_at T42 f rfl rfl rfl bl bn fun bo bp a bq br f => ?_
      subst br
      refine l_loadAt m Pl2 f rfl rfl bq fun a f => l_slit (R := (RI .i64)) (xs := ([am, bm] : List Int)) (RI.one _) m T42 f rfl rfl rfl (by decide) (All2.cons rfl (All2.cons rfl (All2.nil _))) fun bs bt w a m bu f => ?_
      obtain ⟨bv, bw, m, bx⟩ := Ow.stamp (RI.mono _) bu m
      have h0_0 := rd2 bw h0_0
      have bk := At.mono bw bk
      have bl := rd1 bw bl
      have bq := At.mono bw bq
      have aV := Ow.mono (RSl.mono (RI.mono _)) bw aV
      refine l_slit (R := (RSl (RI .i64))) (xs := ([([am, bm] : List Int)] : List (List Int))) (RSl.one _) m T22 f rfl rfl rfl (by decide) (All2.cons bx (All2.nil _)) fun bz bA w a m bB f => ?_
      obtain ⟨bC, bD, aS⟩ := bind_some aS
      refine l_append (RSl.one _) 2 m aV rfl T22 rfl (by decide) f rfl rfl rfl (Ow.src (j := 0) bB m rfl) bD fun bE bF w a m bG f => l_as f rfl rfl fun a f => l_nil (k_region ?_)
      refine l_mv f rfl rfl fun a f => l_in f rfl rfl rfl b_add fun a f => l_as f rfl rfl fun a f => l_nil ?_
      have m := m.front 2 rfl
      have m := m.front 2 rfl
      have m := m.eraseAt 2
      obtain rfl := sj aS
      exact ⟨_, rfl, _, _, rfl, _, bF, bE, (GLe.trans aU bw), f.weak ⟨rfl, rfl, rfl, rfl, trivial⟩, m, bG⟩
     ·refine k_false f rfl bf ?_
      refine k_skip ?_
      refine k_region ?_
      refine l_mv f rfl rfl fun a f => l_in f rfl rfl rfl b_add fun a f => l_as f rfl rfl fun a f => l_nil ?_
      obtain rfl := sj aS
      exact ⟨_, rfl, _, _, rfl, _, aP, aQ, aU, f.weak ⟨rfl, rfl, rfl, rfl, trivial⟩, m, aV⟩
    ·refine k_false f rfl a2 ?_
     refine k_exit rfl ?_
     obtain rfl := sj aS
     obtain rfl := aT _ rfl
     exact ⟨_, rfl, _, aP, aQ, aU, f.weak ⟨rfl, rfl, rfl, trivial⟩, m, aV⟩
   ·rintro a w ⟨aH, rfl, aI, aJ, aK, bH, f, m, bI⟩
    have h0_0 := rd2 bH h0_0
    refine k_region ?_
    refine l_mv f rfl rfl fun a f => l_in f rfl rfl rfl b_add fun a f => l_as f rfl rfl fun a f => l_nil ?_
    obtain rfl := sj ar
    exact ⟨_, rfl, _, _, rfl, _, aJ, aK, (GLe.trans av (GLe.trans aC bH)), f.weak ⟨rfl, rfl, rfl, trivial⟩, m, bI⟩
  ·refine k_false f rfl aE ?_
   refine k_exit rfl ?_
   have m := m.front 1 rfl
   have m := m.eraseAt 1
   obtain rfl := sj ar
   obtain rfl := au _ rfl
   exact ⟨_, rfl, _, ao, ap, (GLe.trans av aC), f.weak ⟨rfl, trivial⟩, m, aw⟩
 ·rintro a w ⟨ag, rfl, ah, ai, aj, bJ, f, m, bK⟩
  refine k_seq (k_region ?_)
  refine l_mv f rfl rfl fun a f => l_as f rfl rfl fun a f => l_nil ?_
  refine k_ret ?_
  obtain rfl := sj hd
  exact ⟨[ai], ⟨f.get _ _ rfl, trivial⟩, f.defers, _, [aj], bJ, m, _, _, rfl, rfl, bK⟩

theorem Wk.spec_l8Meet {W w : World} {G : GH} {H : List Itm} {v0 : Value} {v1 : Value} {x0 : (List Int)} {x1 : (List Int)} (m : Mem W G w (H)) (h0 : RSl (RI .i64) G v0 x0) (h1 : RSl (RI .i64) G v1 x1) {y : ((List Int))} (hd : D.spec_l8Meet x0 x1 = some y) :
  Calls Tryz.prog 44 #[v0, v1] w (Res W G H (fun G' Ho v => ∃ r0 : Value, ∃ i0 : Itm, Ho = [i0] ∧ r0 = v ∧ Ow (RI .i64) 2 G' i0 r0 y)) := by
 refine calls_b (args := [v0, v1]) (N := 28) [.tmp 4] Tryz.func44 rfl rfl (Nat.le_of_ble_eq_true rfl) rfl fun a f => ?_
 unfold D.spec_l8Meet at hd
 refine k_seq (k_region ?_)
 refine l_as f rfl rfl fun a f => l_nil (k_seq (k_region ?_))
 refine l_slit (R := (RI .i64)) (xs := ([] : List Int)) (RI.one _) m T42 f rfl rfl rfl (by decide) (All2.nil _) fun aa ab w a m ac f => l_as f rfl rfl fun a f => l_nil (k_seq (k_seq (k_region ?_)))
 refine l_as f rfl rfl fun a f => l_nil ?_
 obtain ⟨ad, ae, hd⟩ := bind_some hd
 refine k_cut (fun a w => ∃ af : List Int, af = ad ∧ ∃ (ag : GH) (ah : Value) (ai : Itm), GLe G ag ∧ Fr a 28 [(5, ah)] ∧ Mem W ag w (ai :: H) ∧ Ow (RI .i64) 2 ag ai ah af) ?_ ?_
 ·refine k_block ?_
  refine k_loop (fun aj a w => ∃ ak : List Int, ∃ al : Int, (ak, al) = aj ∧ ∃ (am : GH) (an : Value) (ao : Itm), GLe G am ∧ Fr a 28 [(0, v0), (1, v1), (5, an), (6, (.int .i64 al))] ∧ Mem W am w (ao :: H) ∧ Ow (RI .i64) 2 am ao an ak) ae ⟨_, _, rfl, _, ab, aa, (GLe.refl _), f.weak ⟨rfl, rfl, rfl, rfl, trivial⟩, m, ac⟩ ?_
  clear ae f m
  rintro aj ap aq ar a w ⟨ak, al, rfl, am, an, ao, au, f, m, av⟩
  have h0 := rd1 au h0
  have h1 := rd1 au h1
  refine k_seq (k_seq (k_region ?_))
  refine l_mv f rfl rfl fun a f => l_mv f rfl rfl fun a f => l_len Tryz.underlying42 f rfl rfl h0 fun a f => l_in f rfl rfl rfl b_lss fun a f => l_nil ?_
  rcases cond_some aq with ⟨aw, aq⟩ | ⟨aw, aq⟩
  ·refine k_true f rfl aw ?_
   refine k_skip ?_
   refine k_seq (k_block (k_seq (k_region ?_)))
   refine l_mv f rfl rfl fun a f => l_mv f rfl rfl fun a f => l_mv f rfl rfl fun a f => ?_
   obtain ⟨ax, ay, aq⟩ := bind_some aq
   refine l_at T42 f rfl rfl rfl h0 ay fun az aA a aB aC f => ?_
   subst aC
   refine l_loadAt m Pl2 f rfl rfl aB fun a f => ?_
   obtain ⟨aD, aE, aq⟩ := bind_some aq
   refine l_res f rfl rfl Tryz.call70 (Wk.spec_l1Has m h1 aE) fun aF aG aH w aI m aJ a f => ?_
   obtain ⟨rfl, rfl⟩ := aJ
   have h0 := rd1 aI h0
   have h1 := rd1 aI h1
   have aB := At.mono aI aB
   have av := od1 aI av
   refine l_nil ?_
   rcases cond_some aq with ⟨aK, aq⟩ | ⟨aK, aq⟩
   ·refine k_true f rfl aK ?_
    refine k_region ?_
    refine l_mv f rfl rfl fun a f => l_mv f rfl rfl fun a f => l_mv f rfl rfl fun a f => ?_
    obtain ⟨aL, aM, aq⟩ := bind_some aq
    refine l_at T42 f rfl rfl rfl h0 aM fun aN aO a aP aQ f => ?_
    subst aQ
    refine l_loadAt m Pl2 f rfl rfl aP fun a f => l_slit (R := (RI .i64)) (xs := ([aL] : List Int)) (RI.one _) m T42 f rfl rfl rfl (by decide) (All2.cons rfl (All2.nil _)) fun aR aS w a m aT f => ?_
    obtain ⟨aU, aV, aq⟩ := bind_some aq
    refine l_append (RI.one _) 1 m av rfl T42 rfl (by decide) f rfl rfl rfl (Ow.src (j := 0) aT m rfl) aV fun aW aX w a m aY f => l_as f rfl rfl fun a f => l_nil (k_region ?_)
    refine l_mv f rfl rfl fun a f => l_in f rfl rfl rfl b_add fun a f => l_as f rfl rfl fun a f => l_nil ?_
    have m := m.front 1 rfl
    have m := m.eraseAt 1
    obtain rfl := sj aq
    exact ⟨_, rfl, _, _, rfl, _, aX, aW, (GLe.trans au aI), f.weak ⟨rfl, rfl, rfl, rfl, trivial⟩, m, aY⟩
   ·refine k_false f rfl aK ?_
    refine k_skip ?_
    refine k_region ?_
    refine l_mv f rfl rfl fun a f => l_in f rfl rfl rfl b_add fun a f => l_as f rfl rfl fun a f => l_nil ?_
    obtain rfl := sj aq
    exact ⟨_, rfl, _, _, rfl, _, an, ao, (GLe.trans au aI), f.weak ⟨rfl, rfl, rfl, rfl, trivial⟩, m, av⟩
  ·refine k_false f rfl aw ?_
   refine k_exit rfl ?_
   obtain rfl := sj aq
   obtain rfl := ar _ rfl
   exact ⟨_, rfl, _, an, ao, au, f.weak ⟨rfl, trivial⟩, m, av⟩
 ·rintro a w ⟨af, rfl, ag, ah, ai, aZ, f, m, a0⟩
  refine k_seq (k_region ?_)
  refine l_mv f rfl rfl fun a f => l_as f rfl rfl fun a f => l_nil ?_
  refine k_ret ?_
  obtain rfl := sj hd
  exact ⟨[ah], ⟨f.get _ _ rfl, trivial⟩, f.defers, _, [ai], aZ, m, _, _, rfl, rfl, a0⟩

end Go.Proofs.YtebbefpdncgoiaaGreatDoor
