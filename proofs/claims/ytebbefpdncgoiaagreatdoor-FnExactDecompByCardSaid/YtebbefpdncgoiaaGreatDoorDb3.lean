/- Parts of the proof: Pd, Pe, Gf, Gh, Gg, Xb. -/
import Derived.Test.YtebbefpdncgoiaaGreatDoorDb2
import Derived.KernelRfl
set_option linter.unusedVariables false
set_option linter.unusedSimpArgs false
set_option linter.unusedSectionVars false
namespace Go.Sx
/-- up, while the pivot is not less than what is read -/
theorem scanUp2 {β : Type} {k : Int → Option β} {Q : β → Prop} (l : List Int) (a hi i0 : Int) (ha : 0 ≤ a) (ha' : a < l.length) (h0 : 0 ≤ i0) (h1 : i0 ≤ hi + 1) (h2 : hi < l.length) (hlen : l.length ≤ 1000000)
    (hk : ∀ i, i0 ≤ i → i ≤ hi + 1 → (∀ q, i0 ≤ q → q < i → ¬ at' l a < at' l q) → (i ≤ hi → at' l a < at' l i) → ∃ y, k i = some y ∧ Q y) :
    ∃ y, (loopF (σ := Int) (ρ := (Int)) (fun (x : Int) => (cond (decide (x ≤ hi)) ((idx l a).bind fun e => (idx l x).bind fun e' => (D.cmp_Less_int64 e e').bind fun y => some (!y)) (some false)).bind fun b => cond b (some (.inl (IntKind.i64.wrap (x + 1)))) (some (.inr x))) i0).bind k = some y ∧ Q y := by
  refine loop_then (fun i => i0 ≤ i ∧ i ≤ hi + 1 ∧ ∀ q, i0 ≤ q → q < i → ¬ at' l a < at' l q) (fun i => (hi + 1 - i).toNat) (fun i => i0 ≤ i ∧ i ≤ hi + 1 ∧ (∀ q, i0 ≤ q → q < i → ¬ at' l a < at' l q) ∧ (i ≤ hi → at' l a < at' l i)) ?_ ?_ ?_
  · rintro i ⟨g1, g2, g3⟩
    by_cases hi' : i ≤ hi
    · have r1 : idx l i = some (at' l i) := idx_at (by omega) (by omega)
      have r2 : idx l a = some (at' l a) := idx_at (by omega) (by omega)
      by_cases hlt : at' l a < at' l i
      · exact ⟨.inr i, by simp only [r1, r2, hi', less_eq, hlt, decide_true, Bool.not_true, cond_true, cond_false, Option.bind_some], g1, g2, g3, fun _ => hlt⟩
      · refine ⟨.inl (i + 1), ?_, ⟨by omega, by omega, fun q q1 q2 => ?_⟩, by dsimp only; omega⟩
        · simp only [r1, r2, hi', less_eq, hlt, decide_true, decide_false, Bool.not_false, cond_true, Option.bind_some]
          rw [w64 (by omega) (by omega)]
        · by_cases e : q = i
          · rw [e]; exact hlt
          · exact g3 q q1 (by omega)
    · exact ⟨.inr i, by simp only [hi', decide_false, cond_false, Option.bind_some], g1, g2, g3, fun h => absurd h hi'⟩
  · exact ⟨Int.le_refl _, h1, fun q q1 q2 => by omega⟩
  · rintro i ⟨g1, g2, g3, g4⟩
    exact hk i g1 g2 g3 g4

/-- down, while the pivot is less than what is read -/
theorem scanDown2 {β : Type} {k : Int → Option β} {Q : β → Prop} (l : List Int) (a lo j0 : Int) (ha : 0 ≤ a) (ha' : a < l.length) (h0 : 0 ≤ lo) (h1 : lo ≤ j0 + 1) (h2 : j0 < l.length) (hlen : l.length ≤ 1000000)
    (hk : ∀ j, lo ≤ j + 1 → j ≤ j0 → (∀ q, j < q → q ≤ j0 → at' l a < at' l q) → (lo ≤ j → ¬ at' l a < at' l j) → ∃ y, k j = some y ∧ Q y) :
    ∃ y, (loopF (σ := Int) (ρ := (Int)) (fun (x : Int) => (cond (decide (lo ≤ x)) ((idx l a).bind fun e => (idx l x).bind fun e' => (D.cmp_Less_int64 e e').bind fun y => some y) (some false)).bind fun b => cond b (some (.inl (IntKind.i64.wrap (x - 1)))) (some (.inr x))) j0).bind k = some y ∧ Q y := by
  refine loop_then (fun j => lo ≤ j + 1 ∧ j ≤ j0 ∧ ∀ q, j < q → q ≤ j0 → at' l a < at' l q) (fun j => (j + 1 - lo).toNat) (fun j => lo ≤ j + 1 ∧ j ≤ j0 ∧ (∀ q, j < q → q ≤ j0 → at' l a < at' l q) ∧ (lo ≤ j → ¬ at' l a < at' l j)) ?_ ?_ ?_
  · rintro j ⟨g1, g2, g3⟩
    by_cases hi' : lo ≤ j
    · have r1 : idx l j = some (at' l j) := idx_at (by omega) (by omega)
      have r2 : idx l a = some (at' l a) := idx_at (by omega) (by omega)
      by_cases hlt : at' l a < at' l j
      · refine ⟨.inl (j - 1), ?_, ⟨by omega, by omega, fun q q1 q2 => ?_⟩, by dsimp only; omega⟩
        · simp only [r1, r2, hi', less_eq, hlt, decide_true, cond_true, Option.bind_some]
          rw [w64 (by omega) (by omega)]
        · by_cases e : q = j
          · rw [e]; exact hlt
          · exact g3 q (by omega) q2
      · exact ⟨.inr j, by simp only [r1, r2, hi', less_eq, hlt, decide_true, decide_false, cond_true, cond_false, Option.bind_some], g1, g2, g3, fun _ => hlt⟩
    · exact ⟨.inr j, by simp only [hi', decide_false, cond_false, Option.bind_some], g1, g2, g3, fun h => absurd h hi'⟩
  · exact ⟨h1, Int.le_refl _, fun q q1 q2 => by omega⟩
  · rintro j ⟨g1, g2, g3, g4⟩
    exact hk j g1 g2 g3 g4

theorem partitionEqual_spec (l0 : List Int) (a b p : Int) (ha : 0 ≤ a) (hb : b ≤ l0.length) (hlen : l0.length ≤ 1000000) (hp : a ≤ p) (hp' : p < b) :
    ∃ y, D.slices_partitionEqualOrdered_int64 l0 a b p = some y ∧ Rg a b l0 y.2 ∧ a < y.1 ∧ y.1 ≤ b ∧ (∀ k, a ≤ k → k < y.1 → at' y.2 k ≤ at' l0 p) ∧ (∀ k, y.1 ≤ k → k < b → at' l0 p < at' y.2 k) := by
  unfold D.slices_partitionEqualOrdered_int64
  have r1 : idx l0 p = some (at' l0 p) := idx_at (by omega) (by omega)
  have r2 : idx l0 a = some (at' l0 a) := idx_at (by omega) (by omega)
  have r3 : ∀ x, idx (l0.set a.toNat x) p = some (at' (l0.set a.toNat x) p) := fun x => idx_set_at (by omega) (by omega)
  simp only [r1, r2, r3, Option.bind_some]
  rw [show (l0.set a.toNat (at' l0 p)).set p.toNat (at' l0 a) = sw l0 a p from rfl]
  have hR0 : Rg a b l0 (sw l0 a p) := Rg.swap ha hb (by omega) (by omega) hp hp'
  have ep : at' (sw l0 a p) a = at' l0 p := by
    rw [sw_at (by omega) (by omega) (by omega) (by omega) (by omega)]
    by_cases e : a = p
    · rw [if_pos e, e]
    · rw [if_neg e, if_pos rfl]
  generalize sw l0 a p = m0 at hR0 ep ⊢
  rw [w64 (show -9223372036854775808 ≤ b - 1 by omega) (by omega), w64 (show -9223372036854775808 ≤ a + 1 by omega) (by omega)]
  refine loop_then (fun s => Rg a b l0 s.1 ∧ a + 1 ≤ s.2.1 ∧ s.2.1 ≤ s.2.2 + 1 ∧ s.2.2 < b ∧ at' s.1 a = at' l0 p ∧ (∀ q, a + 1 ≤ q → q < s.2.1 → ¬ at' s.1 a < at' s.1 q) ∧ (∀ q, s.2.2 < q → q < b → at' s.1 a < at' s.1 q)) (fun s => (s.2.2 + 1 - s.2.1).toNat)
    (fun s => Rg a b l0 s.1 ∧ a + 1 ≤ s.2 ∧ s.2 ≤ b ∧ at' s.1 a = at' l0 p ∧ (∀ q, a + 1 ≤ q → q < s.2 → ¬ at' s.1 a < at' s.1 q) ∧ (∀ q, s.2 ≤ q → q < b → at' s.1 a < at' s.1 q)) ?_ ?_ ?_
  · rintro ⟨m, u, v⟩ ⟨hR, g1, g2, g3, g6, g4, g5⟩
    dsimp only at hR g1 g2 g3 g4 g5 g6 ⊢
    have hml := hR.len
    refine scanUp2 m a v u ha (by omega) (by omega) (by omega) (by omega) (by omega) (fun i i1 i2 i3 i4 => ?_)
    refine scanDown2 m a i v ha (by omega) (by omega) (by omega) (by omega) (by omega) (fun j j1 j2 j3 j4 => ?_)
    have f1 : ∀ q, a + 1 ≤ q → q < i → ¬ at' m a < at' m q := fun q h1 h2 => by
      by_cases h : q < u
      · exact g4 q h1 h
      · exact i3 q (by omega) h2
    have f2 : ∀ q, j < q → q < b → at' m a < at' m q := fun q h1 h2 => by
      by_cases h : q ≤ v
      · exact j3 q h1 h
      · exact g5 q (by omega) h2
    by_cases hij : j < i
    · exact ⟨.inr (m, i), by simp only [hij, decide_true, cond_true], hR, by dsimp only; omega, by dsimp only; omega, g6, f1, fun q h1 h2 => f2 q (by dsimp only at h1; omega) h2⟩
    · have t1 : idx m i = some (at' m i) := idx_at (by omega) (by omega)
      have t2 : idx m j = some (at' m j) := idx_at (by omega) (by omega)
      have t3 : ∀ x, idx (m.set i.toNat x) j = some (at' (m.set i.toNat x) j) := fun x => idx_set_at (by omega) (by omega)
      have hia := i4 (by omega)
      have hja := j4 (by omega)
      have hne : i < j := by
        rcases Int.lt_or_eq_of_le (show i ≤ j by omega) with h | h
        · exact h
        · subst h; exact absurd hia hja
      have ea : at' (sw m i j) a = at' m a := by rw [sw_at (by omega) (by omega) (by omega) (by omega) (by omega), if_neg (by omega), if_neg (by omega)]
      rw [w64 (show -9223372036854775808 ≤ i + 1 by omega) (by omega), w64 (show -9223372036854775808 ≤ j - 1 by omega) (by omega)]
      refine ⟨.inl (sw m i j, i + 1, j - 1), ?_, ⟨hR.trans (Rg.swap ha (by omega) (by omega) (by omega) (by omega) (by omega)), by dsimp only; omega, by dsimp only; omega, by dsimp only; omega, by dsimp only; rw [ea]; exact g6, fun q h1 h2 => ?_, fun q h1 h2 => ?_⟩, by dsimp only; omega⟩
      · simp only [t1, t2, t3, hij, decide_false, cond_false, Option.bind_some]
        rfl
      · dsimp only at h2 ⊢
        rw [ea, sw_at (by omega) (by omega) (by omega) (by omega) (by omega), if_neg (by omega)]
        by_cases e : q = i
        · rw [if_pos e]; exact hja
        · rw [if_neg e]; exact f1 q h1 (by omega)
      · dsimp only at h1 ⊢
        rw [ea, sw_at (by omega) (by omega) (by omega) (by omega) (by omega)]
        by_cases e : q = j
        · rw [if_pos e]; exact hia
        · rw [if_neg e, if_neg (by omega)]; exact f2 q (by omega) h2
  · exact ⟨hR0, by dsimp only; omega, by dsimp only; omega, by dsimp only; omega, ep, fun q h1 h2 => by dsimp only at h2; omega, fun q h1 h2 => by dsimp only at h1; omega⟩
  · rintro ⟨m, v⟩ ⟨hR, g1, g2, g3, g4, g5⟩
    refine ⟨(v, m), rfl, hR, by dsimp only at *; omega, g2, fun k k1 k2 => ?_, fun k k1 k2 => ?_⟩
    · dsimp only at *
      by_cases e : k = a
      · rw [e, g3]; exact Int.le_refl _
      · have := g4 k (by omega) k2; omega
    · dsimp only at *
      have := g5 k k1 k2; omega

theorem order2_spec (l : List Int) (a b s : Int) (ha : 0 ≤ a) (ha' : a < l.length) (hb : 0 ≤ b) (hb' : b < l.length) :
    ∃ y, D.slices_order2Ordered_int64 l a b s = some y ∧ y.2.2.1 = l ∧ ((y.1 = a ∧ y.2.1 = b) ∨ (y.1 = b ∧ y.2.1 = a)) := by
  have r1 : idx l a = some (at' l a) := idx_at ha ha'
  have r2 : idx l b = some (at' l b) := idx_at hb hb'
  unfold D.slices_order2Ordered_int64
  simp only [r1, r2, less_eq, Option.bind_some]
  by_cases h : at' l b < at' l a
  · simp only [h, decide_true, cond_true]; exact ⟨_, rfl, rfl, .inr ⟨rfl, rfl⟩⟩
  · simp only [h, decide_false, cond_false]; exact ⟨_, rfl, rfl, .inl ⟨rfl, rfl⟩⟩

theorem median_spec (l : List Int) (a b c s : Int) (ha : 0 ≤ a) (ha' : a < l.length) (hb : 0 ≤ b) (hb' : b < l.length) (hc : 0 ≤ c) (hc' : c < l.length) :
    ∃ y, D.slices_medianOrdered_int64 l a b c s = some y ∧ y.2.1 = l ∧ (y.1 = a ∨ y.1 = b ∨ y.1 = c) := by
  unfold D.slices_medianOrdered_int64
  obtain ⟨y1, h1, e1, c1⟩ := order2_spec l a b s ha ha' hb hb'
  rw [h1, Option.bind_some, e1]
  have b1 : 0 ≤ y1.2.1 ∧ y1.2.1 < l.length ∧ 0 ≤ y1.1 ∧ y1.1 < l.length := by rcases c1 with ⟨c, d⟩ | ⟨c, d⟩ <;> rw [c, d] <;> exact ⟨by assumption, by assumption, by assumption, by assumption⟩
  obtain ⟨y2, h2, e2, c2⟩ := order2_spec l y1.2.1 c y1.2.2.2 b1.1 b1.2.1 hc hc'
  rw [h2, Option.bind_some, e2]
  have b2 : 0 ≤ y2.1 ∧ y2.1 < l.length := by rcases c2 with ⟨c, d⟩ | ⟨c, d⟩ <;> rw [c] <;> exact ⟨by omega, by omega⟩
  obtain ⟨y3, h3, e3, c3⟩ := order2_spec l y1.1 y2.1 y2.2.2.2 b1.2.2.1 b1.2.2.2 b2.1 b2.2
  rw [h3, Option.bind_some]
  refine ⟨_, rfl, e3, ?_⟩
  dsimp only
  omega

theorem choosePivot_spec (l : List Int) (a b : Int) (ha : 0 ≤ a) (hb : b ≤ l.length) (h8 : 8 ≤ b - a) (h50 : b - a < 50) (hlen : l.length ≤ 1000000) :
    ∃ y, D.slices_choosePivotOrdered_int64 l a b = some y ∧ y.2.2 = l ∧ a ≤ y.1 ∧ y.1 < b := by
  unfold D.slices_choosePivotOrdered_int64
  rw [w64 (show -9223372036854775808 ≤ b - a by omega) (by omega)]
  have e4 : (b - a).tdiv 4 = (b - a) / 4 := Int.tdiv_eq_ediv_of_nonneg (by omega)
  rw [e4, w64 (show -9223372036854775808 ≤ (b - a) / 4 by omega) (by omega)]
  rw [w64 (show -9223372036854775808 ≤ (b - a) / 4 * 1 by omega) (by omega), w64 (show -9223372036854775808 ≤ (b - a) / 4 * 2 by omega) (by omega), w64 (show -9223372036854775808 ≤ (b - a) / 4 * 3 by omega) (by omega)]
  rw [w64 (show -9223372036854775808 ≤ a + (b - a) / 4 * 1 by omega) (by omega), w64 (show -9223372036854775808 ≤ a + (b - a) / 4 * 2 by omega) (by omega), w64 (show -9223372036854775808 ≤ a + (b - a) / 4 * 3 by omega) (by omega)]
  simp only [h8, show ¬ (50 ≤ b - a) by omega, decide_true, decide_false, cond_true, cond_false, Option.bind_some]
  obtain ⟨y, h1, e1, c1⟩ := median_spec l (a + (b - a) / 4 * 1) (a + (b - a) / 4 * 2) (a + (b - a) / 4 * 3) 0 (by omega) (by omega) (by omega) (by omega) (by omega) (by omega)
  rw [h1, Option.bind_some, e1]
  have hy : a ≤ y.1 ∧ y.1 < b := by omega
  cases (y.2.2 == 0)
  · cases (y.2.2 == 12)
    · exact ⟨_, rfl, rfl, hy⟩
    · exact ⟨_, rfl, rfl, hy⟩
  · exact ⟨_, rfl, rfl, hy⟩

theorem partialInsertion_spec (l : List Int) (a b : Int) (ha : 0 ≤ a) (hab : a < b) (hb : b ≤ l.length) (h50 : b - a < 50) (hlen : l.length ≤ 1000000) :
    ∃ y, D.slices_partialInsertionSortOrdered_int64 l a b = some y ∧ y.2 = l ∧ (y.1 = true → Srt l a b) := by
  unfold D.slices_partialInsertionSortOrdered_int64
  rw [w64 (show -9223372036854775808 ≤ a + 1 by omega) (by omega)]
  refine loop_then (fun s => s = (l, a + 1, 0)) (fun _ => 0) (fun r => ∃ y : Bool × List Int, r = .inr y ∧ y.2 = l ∧ (y.1 = true → Srt l a b)) ?_ rfl ?_
  · rintro s rfl
    dsimp only
    simp only [show ((0 : Int) < 5) from by decide, decide_true, cond_true]
    refine loop_then (fun i => a + 1 ≤ i ∧ i ≤ b ∧ Srt l a i) (fun i => (b - i).toNat) (fun i => a + 1 ≤ i ∧ i ≤ b ∧ Srt l a i) ?_ ?_ ?_
    · rintro i ⟨g1, g2, g3⟩
      by_cases hi : i < b
      · have r1 : idx l i = some (at' l i) := idx_at (by omega) (by omega)
        have r2 : idx l (i - 1) = some (at' l (i - 1)) := idx_at (by omega) (by omega)
        have e1 : IntKind.i64.wrap (i - 1) = i - 1 := w64 (by omega) (by omega)
        by_cases hlt : at' l i < at' l (i - 1)
        · exact ⟨.inr i, by simp only [r1, r2, e1, hi, less_eq, hlt, decide_true, Bool.not_true, cond_true, cond_false, Option.bind_some], g1, g2, g3⟩
        · refine ⟨.inl (i + 1), ?_, ⟨by omega, by omega, fun p q k1 k2 k3 => ?_⟩, by dsimp only; omega⟩
          · simp only [r1, r2, e1, hi, less_eq, hlt, decide_true, decide_false, Bool.not_false, cond_true, Option.bind_some]
            rw [w64 (by omega) (by omega)]
          · by_cases e : q = i
            · subst e
              by_cases e2 : p = q - 1
              · subst e2; omega
              · have := g3 p (q - 1) k1 (by omega) (by omega); omega
            · exact g3 p q k1 k2 (by omega)
      · exact ⟨.inr i, by simp only [hi, decide_false, cond_false, Option.bind_some], g1, g2, g3⟩
    · exact ⟨Int.le_refl _, by omega, fun p q k1 k2 k3 => by omega⟩
    · rintro i ⟨g1, g2, g3⟩
      rw [w64 (show -9223372036854775808 ≤ b - a by omega) (by omega)]
      by_cases he : i = b
      · refine ⟨.inr (.inr (true, l)), ?_, _, rfl, rfl, fun _ => by rw [← he]; exact g3⟩
        have : (i == b) = true := by simp [he]
        simp only [this, cond_true]
      · refine ⟨.inr (.inr (false, l)), ?_, _, rfl, rfl, fun h => by cases h⟩
        have : (i == b) = false := by simp [he]
        simp only [this, h50, decide_true, cond_true, cond_false]
  · rintro r ⟨y, rfl, h1, h2⟩
    exact ⟨y, rfl, h1, h2⟩
end Go.Sx

namespace Go.Sx
theorem iand_small (y m : Int) (h0 : 0 ≤ m) (h1 : m < 4294967296) : 0 ≤ iand .u64 y m ∧ iand .u64 y m ≤ m := by
  unfold iand
  have e : (BitVec.ofInt IntKind.u64.bits y &&& BitVec.ofInt IntKind.u64.bits m).toNat ≤ (BitVec.ofInt IntKind.u64.bits m).toNat := by
    rw [BitVec.toNat_and]; exact Nat.and_le_right
  have e2 : (BitVec.ofInt IntKind.u64.bits m).toNat = m.toNat := by
    rw [BitVec.toNat_ofInt]
    show (m % (2 ^ 64 : Nat)).toNat = m.toNat
    congr 1
    omega
  rw [e2] at e
  generalize (BitVec.ofInt IntKind.u64.bits y &&& BitVec.ofInt IntKind.u64.bits m).toNat = t at e
  have : IntKind.u64.wrap (t : Int) = t := by
    simp only [IntKind.wrap, IntKind.bits, IntKind.signed]
    simp
    omega
  rw [this]
  omega

theorem wu64 {x : Int} (h1 : 0 ≤ x) (h2 : x < 18446744073709551616) : IntKind.u64.wrap x = x := by
  simp only [IntKind.wrap, IntKind.bits, IntKind.signed]
  simp
  omega

theorem pow2_spec (n : Int) (h1 : 8 ≤ n) (h2 : n ≤ 16) : ∃ y, D.slices_nextPowerOfTwo n = some y ∧ n < y ∧ y ≤ 2 * n := by
  unfold D.slices_nextPowerOfTwo
  rw [wu64 (by omega) (by omega)]
  have key : ∀ k : Int, k = 8 ∨ k = 9 ∨ k = 10 ∨ k = 11 ∨ k = 12 ∨ k = 13 ∨ k = 14 ∨ k = 15 ∨ k = 16 → k < ishl .u64 1 (Lib.bitLen k.toNat : Nat) ∧ ishl .u64 1 (Lib.bitLen k.toNat : Nat) ≤ 2 * k := by
    rintro k (rfl | rfl | rfl | rfl | rfl | rfl | rfl | rfl | rfl) <;> decide
  obtain ⟨k1, k2⟩ := key n (by omega)
  refine ⟨_, ?_, k1, k2⟩
  unfold D.math_bits_Len
  rw [if_pos (by omega), Option.bind_some]
  have : decide (((Lib.bitLen n.toNat : Nat) : Int) < 0) = false := by simp
  rw [this]
  rfl

theorem breakPatterns_spec (l0 : List Int) (a b : Int) (ha : 0 ≤ a) (hb : b ≤ l0.length) (h8 : 8 ≤ b - a) (h16 : b - a ≤ 16) (hlen : l0.length ≤ 1000000) :
    ∃ l', D.slices_breakPatternsOrdered_int64 l0 a b = some l' ∧ Rg a b l0 l' := by
  unfold D.slices_breakPatternsOrdered_int64
  rw [w64 (show -9223372036854775808 ≤ b - a by omega) (by omega)]
  have e4 : (b - a).tdiv 4 = (b - a) / 4 := Int.tdiv_eq_ediv_of_nonneg (by omega)
  rw [e4, w64 (show -9223372036854775808 ≤ (b - a) / 4 by omega) (by omega)]
  rw [w64 (show -9223372036854775808 ≤ (b - a) / 4 * 2 by omega) (by omega)]
  rw [w64 (show -9223372036854775808 ≤ a + (b - a) / 4 * 2 by omega) (by omega)]
  rw [w64 (show -9223372036854775808 ≤ a + (b - a) / 4 * 2 + 1 by omega) (by omega), w64 (show -9223372036854775808 ≤ a + (b - a) / 4 * 2 - 1 by omega) (by omega)]
  simp only [h8, decide_true, cond_true]
  obtain ⟨y, hy, g1, g2⟩ := pow2_spec (b - a) h8 h16
  rw [hy, Option.bind_some, wu64 (show 0 ≤ y - 1 by omega) (by omega)]
  refine loop_then (fun s => Rg a b l0 s.1 ∧ a + (b - a) / 4 * 2 - 1 ≤ s.2.1 ∧ s.2.1 ≤ a + (b - a) / 4 * 2 + 2) (fun s => (a + (b - a) / 4 * 2 + 2 - s.2.1).toNat) (fun r => Rg a b l0 r) ?_ ?_ ?_
  · rintro ⟨l, i, z⟩ ⟨hR, k1, k2⟩
    dsimp only at hR k1 k2 ⊢
    have hll := hR.len
    by_cases hi : i ≤ a + (b - a) / 4 * 2 + 1
    · simp only [hi, decide_true, cond_true, D.slices_xorshift_Next, Option.bind_some]
      obtain ⟨t1, t2⟩ := iand_small (ixor .u64 (ixor .u64 (ixor .u64 z (ishl .u64 z 13)) (ishr .u64 (ixor .u64 z (ishl .u64 z 13)) 7)) (ishl .u64 (ixor .u64 (ixor .u64 z (ishl .u64 z 13)) (ishr .u64 (ixor .u64 z (ishl .u64 z 13)) 7)) 17)) (y - 1) (by omega) (by omega)
      revert t1 t2
      generalize iand .u64 (ixor .u64 (ixor .u64 (ixor .u64 z (ishl .u64 z 13)) (ishr .u64 (ixor .u64 z (ishl .u64 z 13)) 7)) (ishl .u64 (ixor .u64 (ixor .u64 z (ishl .u64 z 13)) (ishr .u64 (ixor .u64 z (ishl .u64 z 13)) 7)) 17)) (y - 1) = t
      generalize (ixor .u64 (ixor .u64 (ixor .u64 z (ishl .u64 z 13)) (ishr .u64 (ixor .u64 z (ishl .u64 z 13)) 7)) (ishl .u64 (ixor .u64 (ixor .u64 z (ishl .u64 z 13)) (ishr .u64 (ixor .u64 z (ishl .u64 z 13)) 7)) 17)) = z'
      intro t1 t2
      rw [w64 (show -9223372036854775808 ≤ t by omega) (by omega), w64 (show -9223372036854775808 ≤ t - (b - a) by omega) (by omega)]
      have hc : ∃ o, (bif decide (b - a ≤ t) then some (t - (b - a)) else some t) = some o ∧ 0 ≤ o ∧ o < b - a := by
        by_cases h : b - a ≤ t
        · exact ⟨t - (b - a), by simp [h], by omega, by omega⟩
        · exact ⟨t, by simp [h], by omega, by omega⟩
      obtain ⟨o, ho, o1, o2⟩ := hc
      rw [ho, Option.bind_some, w64 (show -9223372036854775808 ≤ a + o by omega) (by omega), w64 (show -9223372036854775808 ≤ i + 1 by omega) (by omega)]
      have r1 : idx l i = some (at' l i) := idx_at (by omega) (by omega)
      have r2 : idx l (a + o) = some (at' l (a + o)) := idx_at (by omega) (by omega)
      have r3 : ∀ x, idx (l.set i.toNat x) (a + o) = some (at' (l.set i.toNat x) (a + o)) := fun x => idx_set_at (by omega) (by omega)
      refine ⟨.inl (sw l i (a + o), i + 1, z'), ?_, ⟨hR.trans (Rg.swap ha (by omega) (by omega) (by omega) (by omega) (by omega)), by dsimp only; omega, by dsimp only; omega⟩, by dsimp only; omega⟩
      simp only [r1, r2, r3, Option.bind_some]
      rfl
    · exact ⟨.inr l, by simp only [hi, decide_false, cond_false], hR⟩
  · exact ⟨Rg.refl _ _ _, by dsimp only; omega, by dsimp only; omega⟩
  · rintro r hr
    exact ⟨r, rfl, hr⟩
end Go.Sx

/- The steps of a sort that stir: partial insertion, broken patterns. Plain. -/
namespace Go.Sx.Gs
variable {α : Type} [Srtd α]
theorem partialInsertion_spec (l0 : List α) (hG : Good l0) (a b : Int) (ha : 0 ≤ a) (hab : a < b) (hb : b ≤ l0.length) (hlen : l0.length ≤ 1000000)
    (hpre : 0 < a → ∀ k, a ≤ k → k < b → at' l0 (a - 1) ≤ at' l0 k) :
    ∃ y, DG.partialInsertionSort Srtd.cmp l0 a b = some y ∧ Rg a b l0 y.2 ∧ (y.1 = true → Srt y.2 a b) := by
  unfold DG.partialInsertionSort
  rw [w64 (show -9223372036854775808 ≤ a + 1 by omega) (by omega), w64 (show -9223372036854775808 ≤ b - a by omega) (by omega)]
  refine loop_then (fun s => Rg a b l0 s.1 ∧ a + 1 ≤ s.2.1 ∧ s.2.1 ≤ b ∧ Srt s.1 a s.2.1 ∧ 0 ≤ s.2.2 ∧ s.2.2 ≤ 5) (fun s => (5 - s.2.2).toNat)
    (fun r => match r with | .inl l => Rg a b l0 l | .inr y => Rg a b l0 y.2 ∧ (y.1 = true → Srt y.2 a b)) ?_ ⟨Rg.refl _ _ _, by dsimp only; omega, by dsimp only; omega, fun p q k1 k2 k3 => by dsimp only at k3; omega, by dsimp only; omega, by dsimp only; omega⟩ ?_
  · rintro ⟨l, i, j⟩ ⟨hR, g1, g2, g3, g4, g5⟩
    dsimp only at hR g1 g2 g3 g4 g5 ⊢
    have hll := hR.len
    by_cases hj : j < 5
    · simp only [hj, decide_true, cond_true]
      refine loop_then (fun i => a + 1 ≤ i ∧ i ≤ b ∧ Srt l a i) (fun i => (b - i).toNat) (fun i => a + 1 ≤ i ∧ i ≤ b ∧ Srt l a i ∧ (i < b → at' l i < at' l (i - 1))) ?_ ⟨g1, g2, g3⟩ ?_
      · rintro i ⟨g1, g2, g3⟩
        by_cases hi : i < b
        · have r1 : idx l i = some (el l i) := idx_at (by omega) (by omega)
          have r2 : idx l (i - 1) = some (el l (i - 1)) := idx_at (by omega) (by omega)
          have e1 : IntKind.i64.wrap (i - 1) = i - 1 := w64 (by omega) (by omega)
          obtain ⟨v, cv, hv⟩ := cmp_at (hR.good hG) (i := i) (j := i - 1) (by omega) (by omega) (by omega) (by omega)
          by_cases hlt : at' l i < at' l (i - 1)
          · exact ⟨.inr i, by simp only [r1, r2, e1, hi, cv, hv, hlt, decide_true, Bool.not_true, cond_true, cond_false, Option.bind_some], g1, g2, g3, fun _ => hlt⟩
          · refine ⟨.inl (i + 1), ?_, ⟨by omega, by omega, fun p q k1 k2 k3 => ?_⟩, by dsimp only; omega⟩
            · simp only [r1, r2, e1, hi, cv, hv, hlt, decide_true, decide_false, Bool.not_false, cond_true, Option.bind_some]
              rw [w64 (by omega) (by omega)]
            · by_cases e : q = i
              · subst e
                by_cases e2 : p = q - 1
                · subst e2; omega
                · have := g3 p (q - 1) k1 (by omega) (by omega); omega
              · exact g3 p q k1 k2 (by omega)
        · exact ⟨.inr i, by simp only [hi, decide_false, cond_false, Option.bind_some], g1, g2, g3, fun h => absurd h hi⟩
      · rintro i ⟨g1, g2, g3, g6⟩
        by_cases he : i = b
        · have : (i == b) = true := by simp [he]
          simp only [this, cond_true]
          exact ⟨_, rfl, hR, fun _ => by rw [← he]; exact g3⟩
        · have : (i == b) = false := by simp [he]
          simp only [this, cond_false]
          by_cases h50 : b - a < 50
          · simp only [h50, decide_true, cond_true]
            exact ⟨_, rfl, hR, fun h => by cases h⟩
          · simp only [h50, decide_false, cond_false]
            have hib : i < b := by omega
            have hlt := g6 hib
            have e1 : IntKind.i64.wrap (i - 1) = i - 1 := w64 (by omega) (by omega)
            have r1 : idx l i = some (el l i) := idx_at (by omega) (by omega)
            have r2 : idx l (i - 1) = some (el l (i - 1)) := idx_at (by omega) (by omega)
            have r3 : ∀ x, idx (l.set i.toNat x) (i - 1) = some (el (l.set i.toNat x) (i - 1)) := fun x => idx_set_at (by omega) (by omega)
            simp only [e1, r1, r2, r3, Option.bind_some]
            rw [show (l.set i.toNat (el l (i - 1))).set (i - 1).toNat (el l i) = sw l i (i - 1) from rfl]
            have hR1 : Rg a b l0 (sw l i (i - 1)) := hR.trans (Rg.swap ha (by omega) (by omega) (by omega) (by omega) (by omega))
            -- the first part is in order but for its last one
            have hS1 : ∀ p q, a ≤ p → p < q → q ≤ i - 1 → q ≠ i - 1 → at' (sw l i (i - 1)) p ≤ at' (sw l i (i - 1)) q := fun p q k1 k2 k3 k4 => by
              rw [sw_at (by omega) (by omega) (by omega) (by omega) (by omega), sw_at (by omega) (by omega) (by omega) (by omega) (by omega)]
              rw [if_neg (by omega), if_neg (by omega), if_neg (by omega), if_neg (by omega)]
              exact g3 p q k1 k2 (by omega)
            generalize sw l i (i - 1) = m at hR1 hS1 ⊢
            have hml := hR1.len
            have hpre' : ∀ m', Rg a b l0 m' → 0 < a → ∀ k, a ≤ k → k < b → at' m' (a - 1) ≤ at' m' k := fun m' hr h0 k k1 k2 => by
              rw [hr.out (a - 1) (by omega) (.inl (by omega))]
              exact hr.all (fun x => at' l0 (a - 1) ≤ x) (hpre h0) k k1 k2
            rw [w64 (show -9223372036854775808 ≤ i - a by omega) (by omega), w64 (show -9223372036854775808 ≤ b - i by omega) (by omega), w64 (show -9223372036854775808 ≤ i + 1 by omega) (by omega), w64 (show -9223372036854775808 ≤ j + 1 by omega) (by omega)]
            refine bind_then (fun m => Rg a b l0 m ∧ Srt m a i) ?_ ?_
            · by_cases h2 : 2 ≤ i - a
              · simp only [h2, decide_true, cond_true]
                refine loop_then (fun s => Rg a b l0 s.1 ∧ a ≤ s.2 ∧ s.2 ≤ i - 1 ∧ ∀ p q, a ≤ p → p < q → q ≤ i - 1 → q ≠ s.2 → at' s.1 p ≤ at' s.1 q) (fun s => s.2.toNat) (fun r => Rg a b l0 r ∧ Srt r a i) ?_ ⟨hR1, by dsimp only; omega, Int.le_refl _, hS1⟩ (fun r hr => ⟨r, rfl, hr⟩)
                rintro ⟨m, j⟩ ⟨hR', q1, q2, hS'⟩
                dsimp only at hR' q1 q2 hS' ⊢
                have hml := hR'.len
                by_cases hj1 : 1 ≤ j
                · have f1 : idx m j = some (el m j) := idx_at (by omega) (by omega)
                  have f2 : idx m (j - 1) = some (el m (j - 1)) := idx_at (by omega) (by omega)
                  have f3 : ∀ x, idx (m.set j.toNat x) (j - 1) = some (el (m.set j.toNat x) (j - 1)) := fun x => idx_set_at (by omega) (by omega)
                  have e2 : IntKind.i64.wrap (j - 1) = j - 1 := w64 (by omega) (by omega)
                  obtain ⟨v, cv, hv⟩ := cmp_at (hR'.good hG) (i := j) (j := j - 1) (by omega) (by omega) (by omega) (by omega)
                  by_cases hlt : at' m j < at' m (j - 1)
                  · have hja : a < j := by
                      rcases Int.lt_or_eq_of_le q1 with h | h
                      · exact h
                      · subst h
                        have := hpre' m hR' (by omega) a (Int.le_refl _) hab
                        omega
                    refine ⟨.inl (sw m j (j - 1), j - 1), ?_, ⟨hR'.trans (Rg.swap ha (by omega) (by omega) (by omega) (by omega) (by omega)), by dsimp only; omega, by dsimp only; omega, ?_⟩, by dsimp only; omega⟩
                    · simp only [hj1, decide_true, cond_true, e2, f1, f2, f3, cv, hv, hlt, Bool.not_true, cond_false, Option.bind_some]
                      rfl
                    · intro p q k1 k2 k3 k4
                      dsimp only at k4 ⊢
                      rw [sw_at (by omega) (by omega) (by omega) (by omega) (by omega), sw_at (by omega) (by omega) (by omega) (by omega) (by omega)]
                      by_cases c1 : q = j
                      · subst c1
                        rw [if_neg (show ¬ q = q - 1 by omega), if_pos rfl]
                        by_cases c2 : p = q - 1
                        · rw [if_pos c2]; omega
                        · rw [if_neg c2, if_neg (by omega)]
                          exact hS' p (q - 1) k1 (by omega) (by omega) (by omega)
                      · rw [if_neg (show ¬ q = j - 1 by omega), if_neg c1]
                        by_cases c2 : p = j - 1
                        · rw [if_pos c2]
                          exact hS' j q (by omega) (by omega) k3 c1
                        · rw [if_neg c2]
                          by_cases c3 : p = j
                          · rw [if_pos c3]
                            exact hS' (j - 1) q (by omega) (by omega) k3 c1
                          · rw [if_neg c3]
                            exact hS' p q k1 k2 k3 c1
                  · refine ⟨.inr m, ?_, hR', ?_⟩
                    · simp only [hj1, decide_true, cond_true, e2, f1, f2, cv, hv, hlt, decide_false, Bool.not_false, Option.bind_some]
                    · intro p q k1 k2 k3
                      by_cases c1 : q = j
                      · subst c1
                        by_cases c2 : p = q - 1
                        · subst c2; omega
                        · have := hS' p (q - 1) k1 (by omega) (by omega) (by omega)
                          omega
                      · exact hS' p q k1 k2 (by omega) c1
                · refine ⟨.inr m, ?_, hR', ?_⟩
                  · simp only [hj1, decide_false, cond_false]
                  · intro p q k1 k2 k3
                    exact hS' p q k1 k2 (by omega) (by omega)
              · simp only [h2, decide_false, cond_false]
                exact ⟨_, rfl, hR1, fun p q k1 k2 k3 => by omega⟩
            · rintro m1 ⟨hR2, hS2⟩
              have hm1 := hR2.len
              by_cases h2 : 2 ≤ b - i
              · simp only [h2, decide_true, cond_true]
                refine loop_then (fun s => Rg a b l0 s.1 ∧ Srt s.1 a i ∧ i + 1 ≤ s.2 ∧ s.2 ≤ b) (fun s => (b - s.2).toNat) (fun r => Rg a b l0 r ∧ Srt r a i) ?_ ⟨hR2, hS2, by dsimp only; omega, by dsimp only; omega⟩ ?_
                · rintro ⟨m, q⟩ ⟨hR', hS', q1, q2⟩
                  dsimp only at hR' hS' q1 q2 ⊢
                  have hml := hR'.len
                  by_cases hq : q < b
                  · have f1 : idx m q = some (el m q) := idx_at (by omega) (by omega)
                    have f2 : idx m (q - 1) = some (el m (q - 1)) := idx_at (by omega) (by omega)
                    have f3 : ∀ x, idx (m.set q.toNat x) (q - 1) = some (el (m.set q.toNat x) (q - 1)) := fun x => idx_set_at (by omega) (by omega)
                    have e2 : IntKind.i64.wrap (q - 1) = q - 1 := w64 (by omega) (by omega)
                    have e3 : IntKind.i64.wrap (q + 1) = q + 1 := w64 (by omega) (by omega)
                    obtain ⟨v, cv, hv⟩ := cmp_at (hR'.good hG) (i := q) (j := q - 1) (by omega) (by omega) (by omega) (by omega)
                    by_cases hlt : at' m q < at' m (q - 1)
                    · refine ⟨.inl (sw m q (q - 1), q + 1), ?_, ⟨hR'.trans (Rg.swap ha (by omega) (by omega) (by omega) (by omega) (by omega)), fun p r k1 k2 k3 => ?_, by dsimp only; omega, by dsimp only; omega⟩, by dsimp only; omega⟩
                      · simp only [hq, decide_true, cond_true, e2, e3, f1, f2, f3, cv, hv, hlt, Bool.not_true, cond_false, Option.bind_some]
                        rfl
                      · dsimp only
                        rw [sw_at (by omega) (by omega) (by omega) (by omega) (by omega), sw_at (by omega) (by omega) (by omega) (by omega) (by omega)]
                        rw [if_neg (by omega), if_neg (by omega), if_neg (by omega), if_neg (by omega)]
                        exact hS' p r k1 k2 k3
                    · refine ⟨.inr m, ?_, hR', hS'⟩
                      simp only [hq, decide_true, cond_true, e2, f1, f2, cv, hv, hlt, decide_false, Bool.not_false, Option.bind_some]
                  · exact ⟨.inr m, by simp only [hq, decide_false, cond_false], hR', hS'⟩
                · rintro m2 ⟨hR3, hS3⟩
                  exact ⟨_, rfl, ⟨hR3, g1, g2, hS3, by dsimp only; omega, by dsimp only; omega⟩, by dsimp only; omega⟩
              · simp only [h2, decide_false, cond_false]
                exact ⟨_, rfl, ⟨hR2, g1, g2, hS2, by dsimp only; omega, by dsimp only; omega⟩, by dsimp only; omega⟩
    · simp only [hj, decide_false, cond_false]
      exact ⟨_, rfl, hR⟩
  · rintro (l | y) h
    · exact ⟨_, rfl, h, fun h => by cases h⟩
    · exact ⟨_, rfl, h⟩

theorem bitLen_spec : ∀ x : Nat, 1 ≤ x → x < 2 ^ 64 → x < 2 ^ (Lib.bitLen x) ∧ 2 ^ (Lib.bitLen x) ≤ 2 * x := by
  intro x
  induction x using Nat.strongRecOn with
  | ind x ih =>
    intro h1 h2
    rw [Lib.bitLen_half x (by omega) h2]
    by_cases h : x = 1
    · subst h; decide
    · obtain ⟨a, b⟩ := ih (x / 2) (by omega) (by omega) (by omega)
      rw [Nat.add_comm, Nat.pow_succ]
      generalize 2 ^ Lib.bitLen (x / 2) = p at a b
      omega
theorem pow2_spec (n : Int) (h1 : 8 ≤ n) (h2 : n ≤ 1000000) : ∃ y, D.slices_nextPowerOfTwo n = some y ∧ n < y ∧ y ≤ 2 * n := by
  obtain ⟨m, rfl⟩ : ∃ m : Nat, n = (m : Int) := ⟨n.toNat, by omega⟩
  obtain ⟨k1, k2⟩ := bitLen_spec m (by omega) (by omega)
  have hb : Lib.bitLen m < 22 := by
    apply Classical.byContradiction
    intro hc
    have : 2 ^ 22 ≤ 2 ^ Lib.bitLen m := Nat.pow_le_pow_right (by omega) (by omega)
    omega
  unfold D.slices_nextPowerOfTwo
  rw [wu64 (by omega) (by omega)]
  unfold D.math_bits_Len
  rw [if_pos (by omega), Option.bind_some]
  have : decide (((Lib.bitLen m : Nat) : Int) < 0) = false := by simp
  rw [Int.toNat_natCast, this, cond_false]
  have e : ishl .u64 1 ((Lib.bitLen m : Nat) : Int) = ((2 ^ Lib.bitLen m : Nat) : Int) := by
    show IntKind.u64.wrap (1 * 2 ^ (min (((Lib.bitLen m : Nat) : Int)).toNat 64)) = _
    rw [Int.toNat_natCast, show min (Lib.bitLen m) 64 = Lib.bitLen m by omega, Int.one_mul]
    have e' : ((2 ^ Lib.bitLen m : Nat) : Int) = (2 : Int) ^ Lib.bitLen m := by simp
    rw [← e', wu64 (by omega) (by omega)]
  rw [e]
  exact ⟨_, rfl, by omega, by omega⟩

theorem breakPatterns_spec (l0 : List α) (a b : Int) (ha : 0 ≤ a) (hb : b ≤ l0.length) (h8 : 8 ≤ b - a) (hlen : l0.length ≤ 1000000) :
    ∃ l', DG.breakPatterns Srtd.cmp l0 a b = some l' ∧ Rg a b l0 l' := by
  unfold DG.breakPatterns
  rw [w64 (show -9223372036854775808 ≤ b - a by omega) (by omega)]
  have e4 : (b - a).tdiv 4 = (b - a) / 4 := Int.tdiv_eq_ediv_of_nonneg (by omega)
  rw [e4, w64 (show -9223372036854775808 ≤ (b - a) / 4 by omega) (by omega)]
  rw [w64 (show -9223372036854775808 ≤ (b - a) / 4 * 2 by omega) (by omega)]
  rw [w64 (show -9223372036854775808 ≤ a + (b - a) / 4 * 2 by omega) (by omega)]
  rw [w64 (show -9223372036854775808 ≤ a + (b - a) / 4 * 2 + 1 by omega) (by omega), w64 (show -9223372036854775808 ≤ a + (b - a) / 4 * 2 - 1 by omega) (by omega)]
  simp only [h8, decide_true, cond_true]
  obtain ⟨y, hy, g1, g2⟩ := pow2_spec (b - a) h8 (by omega)
  rw [hy, Option.bind_some, wu64 (show 0 ≤ y - 1 by omega) (by omega)]
  refine loop_then (fun s => Rg a b l0 s.1 ∧ a + (b - a) / 4 * 2 - 1 ≤ s.2.1 ∧ s.2.1 ≤ a + (b - a) / 4 * 2 + 2) (fun s => (a + (b - a) / 4 * 2 + 2 - s.2.1).toNat) (fun r => Rg a b l0 r) ?_ ?_ ?_
  · rintro ⟨l, i, z⟩ ⟨hR, k1, k2⟩
    dsimp only at hR k1 k2 ⊢
    have hll := hR.len
    by_cases hi : i ≤ a + (b - a) / 4 * 2 + 1
    · simp only [hi, decide_true, cond_true, D.slices_xorshift_Next, Option.bind_some]
      obtain ⟨t1, t2⟩ := iand_small (ixor .u64 (ixor .u64 (ixor .u64 z (ishl .u64 z 13)) (ishr .u64 (ixor .u64 z (ishl .u64 z 13)) 7)) (ishl .u64 (ixor .u64 (ixor .u64 z (ishl .u64 z 13)) (ishr .u64 (ixor .u64 z (ishl .u64 z 13)) 7)) 17)) (y - 1) (by omega) (by omega)
      revert t1 t2
      generalize iand .u64 (ixor .u64 (ixor .u64 (ixor .u64 z (ishl .u64 z 13)) (ishr .u64 (ixor .u64 z (ishl .u64 z 13)) 7)) (ishl .u64 (ixor .u64 (ixor .u64 z (ishl .u64 z 13)) (ishr .u64 (ixor .u64 z (ishl .u64 z 13)) 7)) 17)) (y - 1) = t
      generalize (ixor .u64 (ixor .u64 (ixor .u64 z (ishl .u64 z 13)) (ishr .u64 (ixor .u64 z (ishl .u64 z 13)) 7)) (ishl .u64 (ixor .u64 (ixor .u64 z (ishl .u64 z 13)) (ishr .u64 (ixor .u64 z (ishl .u64 z 13)) 7)) 17)) = z'
      intro t1 t2
      rw [w64 (show -9223372036854775808 ≤ t by omega) (by omega), w64 (show -9223372036854775808 ≤ t - (b - a) by omega) (by omega)]
      have hc : ∃ o, (bif decide (b - a ≤ t) then some (t - (b - a)) else some t) = some o ∧ 0 ≤ o ∧ o < b - a := by
        by_cases h : b - a ≤ t
        · exact ⟨t - (b - a), by simp [h], by omega, by omega⟩
        · exact ⟨t, by simp [h], by omega, by omega⟩
      obtain ⟨o, ho, o1, o2⟩ := hc
      rw [ho, Option.bind_some, w64 (show -9223372036854775808 ≤ a + o by omega) (by omega), w64 (show -9223372036854775808 ≤ i + 1 by omega) (by omega)]
      have r1 : idx l i = some (el l i) := idx_at (by omega) (by omega)
      have r2 : idx l (a + o) = some (el l (a + o)) := idx_at (by omega) (by omega)
      have r3 : ∀ x, idx (l.set i.toNat x) (a + o) = some (el (l.set i.toNat x) (a + o)) := fun x => idx_set_at (by omega) (by omega)
      refine ⟨.inl (sw l i (a + o), i + 1, z'), ?_, ⟨hR.trans (Rg.swap ha (by omega) (by omega) (by omega) (by omega) (by omega)), by dsimp only; omega, by dsimp only; omega⟩, by dsimp only; omega⟩
      simp only [r1, r2, r3, Option.bind_some]
      rfl
    · exact ⟨.inr l, by simp only [hi, decide_false, cond_false], hR⟩
  · exact ⟨Rg.refl _ _ _, by dsimp only; omega, by dsimp only; omega⟩
  · rintro r hr
    exact ⟨r, rfl, hr⟩
end Go.Sx.Gs

/- Heap sort. Plain. -/
namespace Go.Sx.Gs
variable {α : Type} [Srtd α]
def kid (i c : Int) : Prop := c = 2 * i + 1 ∨ c = 2 * i + 2
theorem siftDown_spec (l0 : List α) (hG : Good l0) (lo hi f : Int) (h0 : 0 ≤ lo) (hf : 0 ≤ f) (hlh : lo ≤ hi) (hb : f + hi ≤ l0.length) (hlen : l0.length ≤ 1000000)
    (hH : ∀ i c, lo < i → kid i c → c < hi → at' l0 (f + c) ≤ at' l0 (f + i)) :
    ∃ l', DG.siftDown Srtd.cmp l0 lo hi f = some l' ∧ Rg (f + lo) (f + hi) l0 l' ∧ ∀ i c, lo ≤ i → kid i c → c < hi → at' l' (f + c) ≤ at' l' (f + i) := by
  unfold DG.siftDown
  refine loop_then (fun s => Rg (f + lo) (f + hi) l0 s.1 ∧ lo ≤ s.2 ∧ s.2 ≤ hi ∧ (∀ i c, lo ≤ i → i ≠ s.2 → kid i c → c < hi → at' s.1 (f + c) ≤ at' s.1 (f + i)) ∧ (∀ p c, lo ≤ p → kid p s.2 → kid s.2 c → c < hi → at' s.1 (f + c) ≤ at' s.1 (f + p)))
    (fun s => (hi - s.2).toNat)
    (fun r => match r with | .inl l' => Rg (f + lo) (f + hi) l0 l' ∧ ∀ i c, lo ≤ i → kid i c → c < hi → at' l' (f + c) ≤ at' l' (f + i) | .inr l' => Rg (f + lo) (f + hi) l0 l' ∧ ∀ i c, lo ≤ i → kid i c → c < hi → at' l' (f + c) ≤ at' l' (f + i)) ?_
    ⟨Rg.refl _ _ _, Int.le_refl _, hlh, fun i c h1 h2 h3 h4 => hH i c (by dsimp only at h2; omega) h3 h4, fun p c h1 h2 h3 h4 => by unfold kid at h2; dsimp only at h2; omega⟩ ?_
  · rintro ⟨l, r⟩ ⟨hR, g1, g2, g3, g4⟩
    dsimp only at hR g1 g2 g3 g4 ⊢
    have hll := hR.len
    rw [w64 (show -9223372036854775808 ≤ 2 * r by omega) (by omega), w64 (show -9223372036854775808 ≤ 2 * r + 1 by omega) (by omega)]
    rw [w64 (show -9223372036854775808 ≤ 2 * r + 1 + 1 by omega) (by omega), w64 (show -9223372036854775808 ≤ f + (2 * r + 1) by omega) (by omega), w64 (show -9223372036854775808 ≤ f + (2 * r + 1) + 1 by omega) (by omega), w64 (show -9223372036854775808 ≤ f + r by omega) (by omega)]
    by_cases hc : hi ≤ 2 * r + 1
    · simp only [hc, decide_true, cond_true]
      refine ⟨_, rfl, hR, fun i c h1 h2 h3 => ?_⟩
      by_cases e : i = r
      · subst e; unfold kid at h2; omega
      · exact g3 i c h1 e h2 h3
    · simp only [hc, decide_false, cond_false]
      -- the greater child
      refine bind_then (fun b : Bool => (b = true → 2 * r + 2 < hi ∧ at' l (f + (2 * r + 1)) < at' l (f + (2 * r + 2))) ∧ (b = false → 2 * r + 2 < hi → at' l (f + (2 * r + 2)) ≤ at' l (f + (2 * r + 1)))) ?_ ?_
      · by_cases h2 : 2 * r + 1 + 1 < hi
        · have r1 : idx l (f + (2 * r + 1)) = some (el l (f + (2 * r + 1))) := idx_at (by omega) (by omega)
          have r2 : idx l (f + (2 * r + 1) + 1) = some (el l (f + (2 * r + 1) + 1)) := idx_at (by omega) (by omega)
          obtain ⟨v, cv, hv⟩ := cmp_at (hR.good hG) (i := f + (2 * r + 1)) (j := f + (2 * r + 1) + 1) (by omega) (by omega) (by omega) (by omega)
          simp only [h2, decide_true, cond_true, r1, r2, cv, hv, Option.bind_some]
          rw [show f + (2 * r + 1) + 1 = f + (2 * r + 2) by omega]
          refine ⟨_, rfl, fun h => ⟨by omega, of_decide_eq_true h⟩, fun h _ => ?_⟩
          have := of_decide_eq_false h
          omega
        · simp only [h2, decide_false, cond_false]
          exact ⟨_, rfl, (fun h => by cases h), (fun _ h => by omega)⟩
      · rintro b ⟨hbb, hbf⟩
        -- which child, and that it is the greater one
        have hch : ∃ c, (bif b then some (2 * r + 1 + 1) else some (2 * r + 1)) = some c ∧ (b = true → c = 2 * r + 2) ∧ (b = false → c = 2 * r + 1) := by
          cases b
          · exact ⟨2 * r + 1, rfl, by simp, by simp⟩
          · exact ⟨2 * r + 2, by simp; omega, by simp, by simp⟩
        obtain ⟨c, ec, c1, c2⟩ := hch
        have hkc : kid r c := by unfold kid; cases b <;> simp at c1 c2 <;> omega
        have hchi : c < hi := by
          cases b
          · have := c2 rfl; omega
          · have := c1 rfl; have := hbb rfl; omega
        rw [ec, Option.bind_some, w64 (show -9223372036854775808 ≤ f + c by unfold kid at hkc; omega) (by omega)]
        have hcr : r < c := by unfold kid at hkc; omega
        have t1 : idx l (f + r) = some (el l (f + r)) := idx_at (by omega) (by omega)
        have t2 : idx l (f + c) = some (el l (f + c)) := idx_at (by omega) (by omega)
        have t3 : ∀ x, idx (l.set (f + r).toNat x) (f + c) = some (el (l.set (f + r).toNat x) (f + c)) := fun x => idx_set_at (by omega) (by omega)
        obtain ⟨v, cv, hv⟩ := cmp_at (hR.good hG) (i := f + r) (j := f + c) (by omega) (by omega) (by omega) (by omega)
        have hbest : ∀ d, kid r d → d < hi → at' l (f + d) ≤ at' l (f + c) := fun d hd hdh => by
          cases b
          · have e := c2 rfl
            subst e
            rcases hd with rfl | rfl
            · exact Int.le_refl _
            · exact hbf rfl hdh
          · have e := c1 rfl
            subst e
            rcases hd with rfl | rfl
            · have := (hbb rfl).2; omega
            · exact Int.le_refl _
        by_cases hlt : at' l (f + r) < at' l (f + c)
        · refine ⟨.inl (sw l (f + r) (f + c), c), ?_, ⟨hR.trans (Rg.swap (by omega) (by omega) (by omega) (by omega) (by omega) (by omega)), by dsimp only; omega, by dsimp only; omega, fun i d h1 h2 h3 h4 => ?_, fun p d h1 h2 h3 h4 => ?_⟩, by dsimp only; omega⟩
          · simp only [t1, t2, t3, cv, hv, hlt, decide_true, Bool.not_true, cond_false, Option.bind_some]
            rfl
          · dsimp only at h2 ⊢
            have hd0 : i < d := by unfold kid at h3; omega
            rw [sw_at (by omega) (by omega) (by omega) (by omega) (by omega), sw_at (by omega) (by omega) (by omega) (by omega) (by omega)]
            rw [if_neg (show ¬ f + i = f + c by omega)]
            by_cases e : i = r
            · subst e
              rw [if_pos rfl]
              by_cases e2 : d = c
              · subst e2; rw [if_pos rfl]; omega
              · rw [if_neg (show ¬ f + d = f + c by omega), if_neg (show ¬ f + d = f + i by omega)]
                exact hbest d h3 h4
            · rw [if_neg (show ¬ f + i = f + r by omega)]
              have e2 : d ≠ c := fun e2 => by subst e2; unfold kid at h3 hkc; omega
              rw [if_neg (show ¬ f + d = f + c by omega)]
              by_cases e3 : d = r
              · subst e3
                rw [if_pos rfl]
                exact g4 i c h1 h3 hkc hchi
              · rw [if_neg (show ¬ f + d = f + r by omega)]
                exact g3 i d h1 e h3 h4
          · dsimp only at h2 h3 ⊢
            have e : p = r := by unfold kid at h2 hkc; omega
            subst e
            have hd0 : c < d := by unfold kid at h3; omega
            rw [sw_at (by omega) (by omega) (by omega) (by omega) (by omega), sw_at (by omega) (by omega) (by omega) (by omega) (by omega)]
            rw [if_neg (show ¬ f + d = f + c by omega), if_neg (show ¬ f + d = f + p by omega), if_neg (show ¬ f + p = f + c by omega), if_pos rfl]
            exact g3 c d (by omega) (by omega) h3 h4
        · refine ⟨.inr (.inr l), ?_, hR, fun i d h1 h2 h3 => ?_⟩
          · simp only [t1, t2, cv, hv, hlt, decide_false, Bool.not_false, cond_true, Option.bind_some]
          · by_cases e : i = r
            · subst e
              have := hbest d h2 h3
              omega
            · exact g3 i d h1 e h2 h3
  · rintro (l | l) h
    · exact ⟨_, rfl, h⟩
    · exact ⟨_, rfl, h⟩

/-- the root of a heap is its greatest -/
theorem heap_root {l : List α} {f hi : Int} (hH : ∀ i c, 0 ≤ i → kid i c → c < hi → at' l (f + c) ≤ at' l (f + i)) : ∀ (n : Nat) (k : Int), k.toNat ≤ n → 0 ≤ k → k < hi → at' l (f + k) ≤ at' l (f + 0) := by
  intro n
  induction n with
  | zero => intro k h1 h2 h3; rw [show k = 0 by omega]; exact Int.le_refl _
  | succ n ih =>
    intro k h1 h2 h3
    by_cases h : k = 0
    · subst h; exact Int.le_refl _
    · have hk : kid ((k - 1) / 2) k := by unfold kid; omega
      have a := hH ((k - 1) / 2) k (by omega) hk h3
      have b := ih ((k - 1) / 2) (by omega) (by omega) (by omega)
      omega

theorem heapSort_spec (l0 : List α) (hG : Good l0) (a b : Int) (ha : 0 ≤ a) (hab : a ≤ b) (hb : b ≤ l0.length) (hlen : l0.length ≤ 1000000) :
    ∃ l', DG.heapSort Srtd.cmp l0 a b = some l' ∧ Rg a b l0 l' ∧ Srt l' a b := by
  unfold DG.heapSort
  rw [w64 (show -9223372036854775808 ≤ b - a by omega) (by omega), w64 (show -9223372036854775808 ≤ b - a - 1 by omega) (by omega)]
  have e2 : -1 ≤ (b - a - 1).tdiv 2 ∧ (b - a - 1).tdiv 2 ≤ b - a ∧ b - a ≤ 2 * (b - a - 1).tdiv 2 + 2 := by
    by_cases h : 1 ≤ b - a
    · rw [Int.tdiv_eq_ediv_of_nonneg (by omega)]; omega
    · have : b - a - 1 = -1 := by omega
      have e : (-1 : Int).tdiv 2 = 0 := by decide
      rw [this, e]; omega
  rw [w64 (show -9223372036854775808 ≤ (b - a - 1).tdiv 2 by omega) (by omega)]
  generalize (b - a - 1).tdiv 2 = st at e2
  refine loop_then (fun s => Rg a b l0 s.1 ∧ -1 ≤ s.2 ∧ s.2 ≤ b - a ∧ ∀ i c, s.2 < i → kid i c → c < b - a → at' s.1 (a + c) ≤ at' s.1 (a + i)) (fun s => (s.2 + 1).toNat)
    (fun r => Rg a b l0 r ∧ ∀ i c, 0 ≤ i → kid i c → c < b - a → at' r (a + c) ≤ at' r (a + i)) ?_ ⟨Rg.refl _ _ _, by dsimp only; omega, by dsimp only; omega, fun i c h1 h2 h3 => by unfold kid at h2; dsimp only at h1; omega⟩ ?_
  · rintro ⟨l, i⟩ ⟨hR, g1, g2, g3⟩
    dsimp only at hR g1 g2 g3 ⊢
    have hll := hR.len
    by_cases hi : 0 ≤ i
    · simp only [hi, decide_true, cond_true]
      obtain ⟨l', e, r1, r2⟩ := siftDown_spec l (hR.good hG) i (b - a) a hi ha (by omega) (by omega) (by omega) g3
      rw [e, Option.bind_some, w64 (show -9223372036854775808 ≤ i - 1 by omega) (by omega)]
      exact ⟨_, rfl, ⟨hR.trans (r1.widen (by omega) (by omega) ha), by dsimp only; omega, by dsimp only; omega, fun p c h1 h2 h3 => r2 p c (by dsimp only at h1; omega) h2 h3⟩, by dsimp only; omega⟩
    · simp only [hi, decide_false, cond_false]
      exact ⟨_, rfl, hR, fun p c h1 h2 h3 => g3 p c (by omega) h2 h3⟩
  · rintro l1 ⟨hR1, hH1⟩
    refine loop_then (fun s => Rg a b l0 s.1 ∧ -1 ≤ s.2 ∧ s.2 < b - a ∧ (∀ i c, 0 ≤ i → kid i c → c ≤ s.2 → at' s.1 (a + c) ≤ at' s.1 (a + i)) ∧ (∀ p q, s.2 < p → p < q → q < b - a → at' s.1 (a + p) ≤ at' s.1 (a + q)) ∧ (∀ p q, 0 ≤ p → p ≤ s.2 → s.2 < q → q < b - a → at' s.1 (a + p) ≤ at' s.1 (a + q))) (fun s => (s.2 + 1).toNat)
      (fun r => Rg a b l0 r ∧ Srt r a b) ?_ ⟨hR1, by dsimp only; omega, by dsimp only; omega, fun i c h1 h2 h3 => hH1 i c h1 h2 (by dsimp only at h3; omega), fun p q h1 h2 h3 => by dsimp only at h1; omega, fun p q h1 h2 h3 h4 => by dsimp only at h3; omega⟩ (fun r hr => ⟨r, rfl, hr⟩)
    rintro ⟨l, i⟩ ⟨hR, g1, g2, g3, g4, g5⟩
    dsimp only at hR g1 g2 g3 g4 g5 ⊢
    have hll := hR.len
    by_cases hi : 0 ≤ i
    · rw [w64 (show -9223372036854775808 ≤ a + i by omega) (by omega)]
      have t1 : idx l a = some (el l a) := idx_at (by omega) (by omega)
      have t2 : idx l (a + i) = some (el l (a + i)) := idx_at (by omega) (by omega)
      have t3 : ∀ x, idx (l.set a.toNat x) (a + i) = some (el (l.set a.toNat x) (a + i)) := fun x => idx_set_at (by omega) (by omega)
      simp only [hi, decide_true, cond_true, t1, t2, t3, Option.bind_some]
      rw [show (l.set a.toNat (el l (a + i))).set (a + i).toNat (el l a) = sw l a (a + i) from rfl]
      have hRs : Rg a (a + (i + 1)) l (sw l a (a + i)) := Rg.swap ha (by omega) (by omega) (by omega) (by omega) (by omega)
      have sat : ∀ k, 0 ≤ k → at' (sw l a (a + i)) (a + k) = if k = i then at' l a else if k = 0 then at' l (a + i) else at' l (a + k) := fun k hk => by
        rw [sw_at (by omega) (by omega) (by omega) (by omega) (by omega)]
        by_cases c1 : k = i
        · subst c1; simp
        · rw [if_neg (show ¬ a + k = a + i by omega), if_neg c1]
          by_cases c2 : k = 0
          · subst c2; simp
          · rw [if_neg (show ¬ a + k = a by omega), if_neg c2]
      have hroot : ∀ k, 0 ≤ k → k ≤ i → at' l (a + k) ≤ at' l a := fun k k1 k2 => by
        have := heap_root (hi := i + 1) (fun p c h1 h2 h3 => g3 p c h1 h2 (by omega)) k.toNat k (Nat.le_refl _) k1 (by omega)
        rwa [Int.add_zero] at this
      have hsl : (sw l a (a + i)).length = l.length := sw_len _ _ _
      obtain ⟨l', e, r1, r2⟩ := siftDown_spec (sw l a (a + i)) (hRs.good (hR.good hG)) 0 i a (Int.le_refl _) ha hi (by omega) (by omega) (fun p c h1 h2 h3 => by
        have hc : p < c := by unfold kid at h2; omega
        rw [sat c (by omega), sat p (by omega), if_neg (by omega), if_neg (by omega), if_neg (by omega), if_neg (by omega)]
        exact g3 p c (by omega) h2 (by omega))
      rw [e, Option.bind_some, w64 (show -9223372036854775808 ≤ i - 1 by omega) (by omega)]
      rw [Int.add_zero] at r1
      have same : ∀ k, i ≤ k → at' l' (a + k) = at' (sw l a (a + i)) (a + k) := fun k hk => r1.out (a + k) (by omega) (.inr (by omega))
      have big : ∀ k, i < k → k < b - a → at' l' (a + k) = at' l (a + k) := fun k hk hk2 => by
        rw [same k (by omega), sat k (by omega), if_neg (by omega), if_neg (by omega)]
      have ati : at' l' (a + i) = at' l a := by rw [same i (Int.le_refl _), sat i hi, if_pos rfl]
      have low : ∀ Q : Int → Prop, (∀ k, 0 ≤ k → k ≤ i → Q (at' l (a + k))) → ∀ k, 0 ≤ k → k < i → Q (at' l' (a + k)) := fun Q hQ k k1 k2 =>
        r1.all Q (fun m m1 m2 => by
          have h1 := sat (m - a) (by omega)
          rw [show a + (m - a) = m by omega] at h1
          rw [h1]
          split
          · have := hQ 0 (by omega) hi; rwa [Int.add_zero] at this
          · split
            · exact hQ i hi (Int.le_refl _)
            · have := hQ (m - a) (by omega) (by omega); rwa [show a + (m - a) = m by omega] at this) (a + k) (by omega) (by omega)
      refine ⟨_, rfl, ⟨hR.trans ((hRs.widen (Int.le_refl a) (by omega) ha).trans (r1.widen (Int.le_refl a) (by omega) ha)), by dsimp only; omega, by dsimp only; omega, fun p c h1 h2 h3 => ?_, fun p q h1 h2 h3 => ?_, fun p q h1 h2 h3 h4 => ?_⟩, by dsimp only; omega⟩
      · dsimp only at h3 ⊢; exact r2 p c h1 h2 (by omega)
      · dsimp only at h1 ⊢
        by_cases c1 : p = i
        · subst c1
          rw [ati, big q h2 h3]
          have := g5 0 q (Int.le_refl _) hi h2 h3
          rwa [Int.add_zero] at this
        · rw [big p (by omega) (by omega), big q (by omega) h3]
          exact g4 p q (by omega) h2 h3
      · dsimp only at h2 h3 ⊢
        by_cases c1 : q = i
        · subst c1
          rw [ati]
          exact low (fun x => x ≤ at' l a) hroot p h1 (by omega)
        · rw [big q (by omega) h4]
          exact low (fun x => x ≤ at' l (a + q)) (fun k k1 k2 => g5 k q k1 k2 (by omega) h4) p h1 (by omega)
    · simp only [hi, decide_false, cond_false]
      refine ⟨_, rfl, hR, fun p q h1 h2 h3 => ?_⟩
      have := g4 (p - a) (q - a) (by omega) (by omega) (by omega)
      rwa [show a + (p - a) = p by omega, show a + (q - a) = q by omega] at this
end Go.Sx.Gs

/- The sort itself. Plain. -/
namespace Go.Sx.Gs
variable {α : Type} [Srtd α]
/-- from a0 to b0 all pairs are in order, but for those from a to b -/
def Out (l : List α) (a0 b0 a b : Int) : Prop := ∀ i j, a0 ≤ i → i < j → j < b0 → ¬ (a ≤ i ∧ j < b) → at' l i ≤ at' l j

theorem Out.keep {a0 a b b0 : Int} {l l' : List α} (h : Rg a b l l') (h0 : 0 ≤ a0) (ha : a0 ≤ a) (hb : b ≤ b0) (c : Out l a0 b0 a b) : Out l' a0 b0 a b := by
  intro i j h1 h2 h3 h4
  by_cases hi : a ≤ i ∧ i < b
  · rw [h.out j (by omega) (by omega)]
    exact h.all (fun x => x ≤ at' l j) (fun k k1 k2 => c k j (by omega) (by omega) h3 (by omega)) i hi.1 hi.2
  · rw [h.out i (by omega) (by omega)]
    by_cases hj : a ≤ j ∧ j < b
    · exact h.all (fun x => at' l i ≤ x) (fun k k1 k2 => c i k (by omega) (by omega) (by omega) (by omega)) j hj.1 hj.2
    · rw [h.out j (by omega) (by omega)]; exact c i j h1 h2 h3 h4

theorem pdqsort_spec : ∀ (n : Nat) (l0 : List α) (a0 b0 lim : Int), 0 ≤ a0 → a0 ≤ b0 → b0 ≤ l0.length → l0.length ≤ 1000000 → Good l0 → 0 ≤ lim → lim ≤ 64 →
    (0 < a0 → ∀ k, a0 ≤ k → k < b0 → at' l0 (a0 - 1) ≤ at' l0 k) → b0 - a0 < n → ∃ l', DG.pdqsortR Srtd.cmp n l0 a0 b0 lim = some l' ∧ Rg a0 b0 l0 l' ∧ Srt l' a0 b0 := by
  intro n
  induction n with
  | zero => intro l0 a0 b0 lim h1 h2 h3 h4 hG h7 h8 h9 h10; omega
  | succ n ih =>
    intro l0 a0 b0 lim h1 h2 h3 h4 hG h7 h8 h9 h10
    unfold DG.pdqsortR
    refine loop_then (fun s => Rg a0 b0 l0 s.1 ∧ Out s.1 a0 b0 s.2.1 s.2.2.1 ∧ a0 ≤ s.2.1 ∧ s.2.1 ≤ s.2.2.1 ∧ s.2.2.1 ≤ b0 ∧ 0 ≤ s.2.2.2.1 ∧ s.2.2.2.1 ≤ 64 ∧ (0 < s.2.1 → ∀ k, s.2.1 ≤ k → k < s.2.2.1 → at' s.1 (s.2.1 - 1) ≤ at' s.1 k))
      (fun s => (s.2.2.1 - s.2.1).toNat) (fun r => Rg a0 b0 l0 r ∧ Srt r a0 b0) ?_ ?_ ?_
    · rintro ⟨l, a, b, lm, bal, par⟩ ⟨hR, hO, g1, g2, g3, g5, g6, g7⟩
      dsimp only at hR hO g1 g2 g3 g5 g6 g7 ⊢
      have hll := hR.len
      have fin : ∀ l', Rg a b l l' → Srt l' a b → Rg a0 b0 l0 l' ∧ Srt l' a0 b0 := fun l' hr hs =>
        ⟨hR.trans (hr.widen g1 g3 h1), fun i j k1 k2 k3 => by
          by_cases hc : a ≤ i ∧ j < b
          · exact hs i j hc.1 k2 hc.2
          · exact (hO.keep hr h1 g1 g3) i j k1 k2 k3 hc⟩
      rw [w64 (show -9223372036854775808 ≤ b - a by omega) (by omega)]
      by_cases hs : b - a ≤ 12
      · obtain ⟨l', e, r1, r2⟩ := insertionSort_spec l a b (by omega) g2 (by omega) (by omega) (hR.good hG)
        refine ⟨.inr l', ?_, fin l' r1 r2⟩
        simp only [hs, decide_true, cond_true, e, Option.bind_some]
      · simp only [hs, decide_false, cond_false]
        by_cases hlm : lm = 0
        · have hl0 : (lm == 0) = true := by simp [hlm]
          obtain ⟨l', e, r1, r2⟩ := heapSort_spec l (hR.good hG) a b (by omega) g2 (by omega) (by omega)
          refine ⟨.inr l', ?_, fin l' r1 r2⟩
          simp only [hl0, cond_true, e, Option.bind_some]
        have hl0 : (lm == 0) = false := by simp [hlm]
        simp only [hl0, cond_false]
        refine bind_then (fun q : List α × Int => Rg a b l q.1 ∧ 0 ≤ q.2 ∧ q.2 ≤ 64) ?_ ?_
        · cases bal
          · obtain ⟨l1, e, r1⟩ := breakPatterns_spec l a b (by omega) (by omega) (by omega) (by omega)
            refine ⟨(l1, lm - 1), ?_, r1, by dsimp only; omega, by dsimp only; omega⟩
            simp only [Bool.not_false, cond_true, e, Option.bind_some]
            rw [w64 (by omega) (by omega)]
          · exact ⟨(l, lm), rfl, Rg.refl _ _ _, by dsimp only; omega, by dsimp only; omega⟩
        rintro ⟨l1, lm1⟩ ⟨hr1, k2, k3⟩
        dsimp only at hr1 k2 k3 ⊢
        have hl1 := hr1.len
        obtain ⟨y, ey, c1, c2, c3⟩ := choosePivot_spec l1 ((hR.trans (hr1.widen g1 g3 h1)).good hG) a b (by omega) (by omega) (by omega) (by omega)
        rw [ey, Option.bind_some]
        refine bind_then (fun q : List α × Int × Int => Rg a b l q.1 ∧ a ≤ q.2.1 ∧ q.2.1 < b) ?_ ?_
        · cases (y.2.1 == 2)
          · exact ⟨_, rfl, by dsimp only; rw [c1]; exact hr1, c2, c3⟩
          · obtain ⟨l2, e2, r2⟩ := reverseRange_spec l1 a b (by omega) (by omega) (by omega) (by omega)
            rw [c1]
            simp only [cond_true, e2, Option.bind_some]
            rw [w64 (show -9223372036854775808 ≤ b - 1 by omega) (by omega), w64 (show -9223372036854775808 ≤ y.1 - a by omega) (by omega), w64 (show -9223372036854775808 ≤ b - 1 - (y.1 - a) by omega) (by omega)]
            exact ⟨_, rfl, hr1.trans r2, by dsimp only; omega, by dsimp only; omega⟩
        rintro ⟨l2, p, hint⟩ ⟨hr2, p1, p2⟩
        dsimp only at hr2 p1 p2 ⊢
        have hl2 := hr2.len
        refine bind_then (fun q : List α ⊕ List α => match q with | .inl q => Rg a b l q | .inr q => Rg a b l q ∧ Srt q a b) ?_ ?_
        · cases ((bal && par) && (hint == 1))
          · exact ⟨.inl l2, rfl, hr2⟩
          · obtain ⟨y2, e2, d1, d2⟩ := partialInsertion_spec l2 ((hR.trans (hr2.widen g1 g3 h1)).good hG) a b (by omega) (by omega) (by omega) (by omega) (fun ha k m1 m2 => by
              rw [hr2.out (a - 1) (by omega) (.inl (by omega))]
              exact hr2.all (fun x => at' l (a - 1) ≤ x) (g7 ha) k m1 m2)
            simp only [cond_true, e2, Option.bind_some]
            cases hy : y2.1
            · exact ⟨.inl y2.2, rfl, hr2.trans d1⟩
            · exact ⟨.inr y2.2, rfl, hr2.trans d1, d2 hy⟩
        rintro (q | q) hq
        case inr =>
          exact ⟨.inr q, rfl, fin q hq.1 hq.2⟩
        dsimp only at hq ⊢
        clear hr2 hl2
        have hr2 : Rg a b l q := hq
        have hl2 := hr2.len
        have hGq : Good q := (hR.trans (hr2.widen g1 g3 h1)).good hG
        have hO2 := hO.keep hr2 h1 g1 g3
        have g7' : 0 < a → ∀ k, a ≤ k → k < b → at' q (a - 1) ≤ at' q k := fun ha k m1 m2 => by
          rw [hr2.out (a - 1) (by omega) (.inl (by omega))]
          exact hr2.all (fun x => at' l (a - 1) ≤ x) (g7 ha) k m1 m2
        refine bind_then (fun c : Bool => c = true → 0 < a ∧ at' q p ≤ at' q (a - 1)) ?_ ?_
        · by_cases ha : 0 < a
          · have r1 : idx q (a - 1) = some (el q (a - 1)) := idx_at (by omega) (by omega)
            have r2 : idx q p = some (el q p) := idx_at (by omega) (by omega)
            rw [w64 (show -9223372036854775808 ≤ a - 1 by omega) (by omega)]
            obtain ⟨v, cv, hv⟩ := cmp_at hGq (i := a - 1) (j := p) (by omega) (by omega) (by omega) (by omega)
            simp only [ha, decide_true, cond_true, r1, r2, cv, hv, Option.bind_some]
            exact ⟨_, rfl, fun h => ⟨by trivial, by simpa using h⟩⟩
          · simp only [ha, decide_false, cond_false]
            exact ⟨_, rfl, fun h => by cases h⟩
        intro c hc
        cases c
        · -- the pivot parts
          simp only [cond_false]
          obtain ⟨⟨mid, par', l3⟩, e3, P⟩ := partition_spec q a b p (by omega) (by omega) (by omega) hGq p1 p2
          rw [e3, Option.bind_some]
          obtain ⟨hr3, m1, m2, m3, m4⟩ := P
          dsimp only at hr3 m1 m2 m3 m4 ⊢
          have hl3 := hr3.len
          have hO3 := hO2.keep hr3 h1 g1 g3
          have g7'' : 0 < a → ∀ k, a ≤ k → k < b → at' l3 (a - 1) ≤ at' l3 k := fun ha k n1 n2 => by
            rw [hr3.out (a - 1) (by omega) (.inl (by omega))]
            exact hr3.all (fun x => at' q (a - 1) ≤ x) (g7' ha) k n1 n2
          have hR3 : Rg a0 b0 l0 l3 := hR.trans ((hr2.trans hr3).widen g1 g3 h1)
          rw [w64 (show -9223372036854775808 ≤ mid - a by omega) (by omega), w64 (show -9223372036854775808 ≤ b - mid by omega) (by omega), w64 (show -9223372036854775808 ≤ mid + 1 by omega) (by omega)]
          by_cases hside : mid - a < b - mid
          · simp only [hside, decide_true, cond_true]
            obtain ⟨l4, e4, r4, s4⟩ := ih l3 a mid lm1 (by omega) m1 (by omega) (by omega) (hR3.good hG) k2 k3 (fun ha k n1 n2 => g7'' ha k n1 (by omega)) (by omega)
            rw [e4, Option.bind_some]
            have hl4 := r4.len
            have em : ∀ k, mid ≤ k → at' l4 k = at' l3 k := fun k hk => r4.out k (by omega) (.inr hk)
            have lf : ∀ k, a ≤ k → k < mid → at' l4 k ≤ at' l4 mid := fun k n1 n2 => by
              rw [em mid (Int.le_refl _)]; exact r4.all (fun x => x ≤ at' l3 mid) m3 k n1 n2
            refine ⟨.inl _, rfl, ⟨hR3.trans (r4.widen g1 (by omega) h1), ?_, by dsimp only; omega, by dsimp only; omega, g3, k2, k3, ?_⟩, by dsimp only; omega⟩
            · have hO4 := hO3.keep (r4.widen (Int.le_refl a) (by omega) (by omega)) h1 g1 g3
              intro i j n1 n2 n3 n4
              dsimp only at n4 ⊢
              by_cases hin : a ≤ i ∧ j < b
              · by_cases hj : j < mid
                · exact s4 i j hin.1 n2 hj
                · have hi : i ≤ mid := by omega
                  have e1 : at' l4 i ≤ at' l4 mid := by
                    by_cases e : i = mid
                    · rw [e]; exact Int.le_refl _
                    · exact lf i hin.1 (by omega)
                  have e2 : at' l4 mid ≤ at' l4 j := by
                    by_cases e : j = mid
                    · rw [e]; exact Int.le_refl _
                    · rw [em mid (Int.le_refl _), em j (by omega)]; exact m4 j (by omega) hin.2
                  omega
              · exact hO4 i j n1 n2 n3 hin
            · intro _ k n1 n2
              dsimp only at n1 n2 ⊢
              rw [show mid + 1 - 1 = mid by omega, em mid (Int.le_refl _), em k (by omega)]
              exact m4 k (by omega) n2
          · simp only [hside, decide_false, cond_false]
            obtain ⟨l4, e4, r4, s4⟩ := ih l3 (mid + 1) b lm1 (by omega) (by omega) (by omega) (by omega) (hR3.good hG) k2 k3 (fun _ k n1 n2 => by rw [show mid + 1 - 1 = mid by omega]; exact m4 k (by omega) n2) (by omega)
            rw [e4, Option.bind_some]
            have hl4 := r4.len
            have em : ∀ k, 0 ≤ k → k ≤ mid → at' l4 k = at' l3 k := fun k h0 hk => r4.out k h0 (.inl (by omega))
            have rt : ∀ k, mid < k → k < b → at' l4 mid ≤ at' l4 k := fun k n1 n2 => by
              rw [em mid (by omega) (Int.le_refl _)]; exact r4.all (fun x => at' l3 mid ≤ x) (fun k q1 q2 => m4 k (by omega) q2) k (by omega) n2
            refine ⟨.inl _, rfl, ⟨hR3.trans (r4.widen (by omega) g3 h1), ?_, g1, m1, by dsimp only; omega, k2, k3, ?_⟩, by dsimp only; omega⟩
            · have hO4 := hO3.keep (r4.widen (by omega) (Int.le_refl b) (by omega)) h1 g1 g3
              intro i j n1 n2 n3 n4
              dsimp only at n4 ⊢
              by_cases hin : a ≤ i ∧ j < b
              · by_cases hi : mid < i
                · exact s4 i j (by omega) n2 hin.2
                · have hj : mid ≤ j := by omega
                  have e1 : at' l4 i ≤ at' l4 mid := by
                    by_cases e : i = mid
                    · rw [e]; exact Int.le_refl _
                    · rw [em i (by omega) (by omega), em mid (by omega) (Int.le_refl _)]; exact m3 i hin.1 (by omega)
                  have e2 : at' l4 mid ≤ at' l4 j := by
                    by_cases e : j = mid
                    · rw [e]; exact Int.le_refl _
                    · exact rt j (by omega) hin.2
                  omega
              · exact hO4 i j n1 n2 n3 hin
            · intro ha k n1 n2
              dsimp only at ha n1 n2 ⊢
              rw [em (a - 1) (by omega) (by omega), em k (by omega) (by omega)]
              exact g7'' ha k n1 (by omega)
        · -- many are equal to the pivot
          simp only [cond_true]
          obtain ⟨hc1, hc2⟩ := hc rfl
          obtain ⟨⟨mid, l3⟩, e3, hr3, m1, m2, m3, m4⟩ := partitionEqual_spec q a b p (by omega) (by omega) (by omega) hGq p1 p2
          rw [e3, Option.bind_some]
          dsimp only at hr3 m1 m2 m3 m4 ⊢
          have hl3 := hr3.len
          have hO3 := hO2.keep hr3 h1 g1 g3
          have lw : ∀ k, a ≤ k → k < b → at' q p ≤ at' l3 k := fun k n1 n2 =>
            hr3.all (fun x => at' q p ≤ x) (fun k q1 q2 => Int.le_trans hc2 (g7' hc1 k q1 q2)) k n1 n2
          refine ⟨.inl _, rfl, ⟨hR.trans ((hr2.trans hr3).widen g1 g3 h1), ?_, by dsimp only; omega, m2, g3, k2, k3, ?_⟩, by dsimp only; omega⟩
          · intro i j n1 n2 n3 n4
            dsimp only at n4 ⊢
            by_cases hin : a ≤ i ∧ j < b
            · have := m3 i hin.1 (by omega)
              have := lw j (by omega) hin.2
              omega
            · exact hO3 i j n1 n2 n3 hin
          · intro _ k n1 n2
            dsimp only at n1 n2 ⊢
            have := m3 (mid - 1) (by omega) (by omega)
            have := m4 k n1 n2
            omega
    · exact ⟨Rg.refl _ _ _, fun i j n1 n2 n3 n4 => by dsimp only at n4; omega, Int.le_refl _, h2, Int.le_refl _, h7, h8, h9⟩
    · rintro r hr
      exact ⟨r, rfl, hr⟩

theorem sort_spec (l : List α) (hG : Good l) (hlen : l.length ≤ 1000000) : ∃ l', DG.Sort Srtd.cmp l = some l' ∧ List.Perm l' l ∧ Srt l' 0 l'.length := by
  unfold DG.Sort
  rw [wu64 (by omega) (by omega)]
  unfold D.math_bits_Len
  rw [if_pos (by omega), Option.bind_some]
  have hb : Lib.bitLen l.length ≤ 64 := by
    by_cases h : 1 ≤ l.length
    · obtain ⟨_, k2⟩ := bitLen_spec l.length h (by omega)
      apply Classical.byContradiction
      intro hc
      have : 2 ^ 22 ≤ 2 ^ Lib.bitLen l.length := Nat.pow_le_pow_right (by omega) (by omega)
      omega
    · have : l.length = 0 := by omega
      rw [this]; decide
  have hf := recFuel_big
  obtain ⟨l', e, r, s⟩ := pdqsort_spec recFuel l 0 (l.length : Int) ((Lib.bitLen l.length : Nat) : Int) (Int.le_refl _) (by omega) (Int.le_refl _) (by omega) hG (by omega) (by omega) (fun h => by omega) (by omega)
  unfold DG.pdqsort
  rw [Int.toNat_natCast, e]
  refine ⟨l', rfl, r.perm, ?_⟩
  rw [r.len]; exact s
end Go.Sx.Gs

/- The sort of rows that carry their headers is the sort by any comparison; it sorts links. Plain, in part made by program. -/
namespace Go.Sx
theorem st_insertionSort : D.slices_insertionSortCmpFunc_int64__slices_Compare_int64_int64 = DG.insertionSort (fun a b : Value × List Int => D.slices_Compare_int64_int64 a.2 b.2) := by kernel_rfl
theorem st_heapSort : D.slices_heapSortCmpFunc_int64__slices_Compare_int64_int64 = DG.heapSort (fun a b : Value × List Int => D.slices_Compare_int64_int64 a.2 b.2) := by kernel_rfl
theorem st_breakPatterns : D.slices_breakPatternsCmpFunc_int64__slices_Compare_int64_int64 = DG.breakPatterns (fun a b : Value × List Int => D.slices_Compare_int64_int64 a.2 b.2) := by kernel_rfl
theorem st_choosePivot : D.slices_choosePivotCmpFunc_int64__slices_Compare_int64_int64 = DG.choosePivot (fun a b : Value × List Int => D.slices_Compare_int64_int64 a.2 b.2) := by kernel_rfl
theorem st_reverseRange : D.slices_reverseRangeCmpFunc_int64__slices_Compare_int64_int64 = DG.reverseRange (fun a b : Value × List Int => D.slices_Compare_int64_int64 a.2 b.2) := by kernel_rfl
theorem st_partialInsertionSort : D.slices_partialInsertionSortCmpFunc_int64__slices_Compare_int64_int64 = DG.partialInsertionSort (fun a b : Value × List Int => D.slices_Compare_int64_int64 a.2 b.2) := by kernel_rfl
theorem st_partitionEqual : D.slices_partitionEqualCmpFunc_int64__slices_Compare_int64_int64 = DG.partitionEqual (fun a b : Value × List Int => D.slices_Compare_int64_int64 a.2 b.2) := by kernel_rfl
theorem st_partition : D.slices_partitionCmpFunc_int64__slices_Compare_int64_int64 = DG.partition (fun a b : Value × List Int => D.slices_Compare_int64_int64 a.2 b.2) := by kernel_rfl
theorem st_pdqsort : ∀ (n : Nat) x a b c, D.slices_pdqsortCmpFunc_int64__slices_Compare_int64_int64R n x a b c = DG.pdqsortR (fun a b : Value × List Int => D.slices_Compare_int64_int64 a.2 b.2) n x a b c
  | 0, _, _, _, _ => rfl
  | n + 1, x, a, b, c => by
    unfold D.slices_pdqsortCmpFunc_int64__slices_Compare_int64_int64R DG.pdqsortR
    rw [st_insertionSort, st_heapSort, st_breakPatterns, st_choosePivot, st_reverseRange, st_partialInsertionSort, st_partitionEqual, st_partition, funext (fun x => funext fun a => funext fun b => funext fun c => st_pdqsort n x a b c)]
    kernel_rfl
theorem st_Sort (x) : D.slices_SortFunc_int64_int64__slices_Compare_int64_int64 x = DG.Sort (fun a b : Value × List Int => D.slices_Compare_int64_int64 a.2 b.2) x := by
  unfold D.slices_SortFunc_int64_int64__slices_Compare_int64_int64 DG.Sort D.slices_pdqsortCmpFunc_int64__slices_Compare_int64_int64 DG.pdqsort
  simp only [st_pdqsort]

theorem isNaN_no (x : Int) : D.cmp_isNaN_int64 x = some false := by unfold D.cmp_isNaN_int64; simp
theorem cmp64 (x y : Int) : D.cmp_Compare_int64 x y = some (if x < y then -1 else if y < x then 1 else 0) := by
  unfold D.cmp_Compare_int64
  simp only [isNaN_no, Option.bind_some, cond_false]
  by_cases h : x < y
  · simp [h]
  · by_cases h' : y < x
    · simp [h, h']
    · simp [h, h']
theorem list2 {l : List Int} (h : l.length = 2) : ∃ a b, l = [a, b] := by
  match l, h with
  | [a, b], _ => exact ⟨a, b, rfl⟩
theorem compare2 (a b c d : Int) : D.slices_Compare_int64_int64 [a, b] [c, d] = some (if a < c then -1 else if c < a then 1 else if b < d then -1 else if d < b then 1 else 0) := by
  unfold D.slices_Compare_int64_int64
  have i0 : ∀ x y : Int, idx [x, y] 0 = some x := fun x y => by unfold idx; simp
  have i1 : ∀ x y : Int, idx [x, y] 1 = some y := fun x y => by unfold idx; simp
  have w1 : IntKind.i64.wrap 1 = 1 := by decide
  have w2 : IntKind.i64.wrap 2 = 2 := by decide
  by_cases h1 : a < c
  · rw [loopF_done (r := .inr (-1)) (by simp [i0, cmp64, h1])]; simp [h1]
  · by_cases h2 : c < a
    · rw [loopF_done (r := .inr 1) (by simp [i0, cmp64, h1, h2])]; simp [h1, h2]
    · rw [loopF_more (s' := 1) (by simp [i0, cmp64, h1, h2, w1])]
      by_cases h3 : b < d
      · rw [loopF_done (r := .inr (-1)) (by simp [i1, cmp64, h3])]; simp [h1, h2, h3]
      · by_cases h4 : d < b
        · rw [loopF_done (r := .inr 1) (by simp [i1, cmp64, h3, h4])]; simp [h1, h2, h3, h4]
        · rw [loopF_more (s' := 2) (by simp [i1, cmp64, h3, h4, w2]), loopF_done (r := .inl ()) (by simp)]; simp [h1, h2, h3, h4]

noncomputable abbrev byRow : Gs.Srtd (Value × List Int) where
  dflt := (.bool false, [])
  key := fun z => rowKey z.2
  good := fun z => rowGood z.2
  cmp := fun a b => D.slices_Compare_int64_int64 a.2 b.2
  law := by
    rintro ⟨v, x⟩ ⟨u, y⟩ ⟨h1, h2, h3, h4, h5⟩ ⟨k1, k2, k3, k4, k5⟩
    obtain ⟨a, b, rfl⟩ := list2 h1
    obtain ⟨c, d, rfl⟩ := list2 k1
    refine ⟨_, compare2 a b c d, ?_⟩
    simp only [List.getD_cons_zero, List.getD_cons_succ] at *
    rw [decide_eq_decide]
    unfold rowKey
    simp only [List.getD_cons_zero, List.getD_cons_succ]
    repeat' split
    all_goals constructor <;> intro _ <;> omega

theorem row_inj {x y : List Int} (hx : rowGood x) (hy : rowGood y) (h : rowKey x = rowKey y) : x = y := by
  obtain ⟨h1, h2, h3, h4, h5⟩ := hx
  obtain ⟨k1, k2, k3, k4, k5⟩ := hy
  obtain ⟨a, b, rfl⟩ := list2 h1
  obtain ⟨c, d, rfl⟩ := list2 k1
  unfold rowKey at h
  simp only [List.getD_cons_zero, List.getD_cons_succ] at *
  have : a = c := by omega
  subst this
  have : b = d := by omega
  subst this
  rfl
/-- what is sorted and has the same links is the same -/
theorem sorted_eq {xs ys : List (List Int)} (hp : xs.Perm ys) (hg : ∀ x ∈ ys, rowGood x) (h1 : xs.Pairwise (fun a b => rowKey a ≤ rowKey b)) (h2 : ys.Pairwise (fun a b => rowKey a ≤ rowKey b)) : xs = ys := by
  refine hp.eq_of_pairwise (fun a b ha hb k1 k2 => ?_) h1 h2
  exact row_inj (hg a (hp.mem_iff.1 ha)) (hg b hb) (by omega)
theorem mergeKey_perm (xs : List (List Int)) : (xs.mergeSort keyLe).Perm xs := List.mergeSort_perm _ _
theorem mergeKey_sorted (xs : List (List Int)) : (xs.mergeSort keyLe).Pairwise (fun a b => rowKey a ≤ rowKey b) := by
  have := List.pairwise_mergeSort (le := keyLe) (fun a b c => by unfold keyLe; simp only [decide_eq_true_eq]; omega) (fun a b => by unfold keyLe; rw [Bool.or_eq_true, decide_eq_true_eq, decide_eq_true_eq]; omega) xs
  exact this.imp (fun h => by unfold keyLe at h; exact of_decide_eq_true h)
theorem sortRows_ok {xs ys : List (List Int)} (hl : xs.length ≤ 1000000) (hg : ∀ x ∈ xs, rowGood x) (hp : ys.Perm xs) (hs : ys.Pairwise (fun a b => rowKey a ≤ rowKey b)) : sortRows xs = some ys := by
  unfold sortRows
  rw [if_pos ⟨hl, hg⟩]
  congr 1
  exact sorted_eq ((mergeKey_perm xs).trans hp.symm) (fun x hx => hg x (hp.mem_iff.1 hx)) (mergeKey_sorted xs) hs

theorem sortTag_slices_SortFunc_int64_int64__slices_Compare_int64_int64 {xs ys : List (List Int)} (h : sortRows xs = some ys) {Z : List (Value × List Int)} (hZ : Z.map (·.2) = xs) :
    ∃ zs, D.slices_SortFunc_int64_int64__slices_Compare_int64_int64 Z = some zs ∧ zs.Perm Z ∧ zs.map (·.2) = ys := by
  unfold sortRows at h
  split at h
  · rename_i hc
    obtain rfl := Option.some.inj h
    obtain ⟨hl, hg⟩ := hc
    have hgZ : ∀ z ∈ Z, rowGood z.2 := fun z hz => hg _ (by rw [← hZ]; exact List.mem_map.2 ⟨z, hz, rfl⟩)
    obtain ⟨zs, e, hp, hs⟩ := @Gs.sort_spec (Value × List Int) byRow Z hgZ (by rw [← hZ] at hl; simpa using hl)
    refine ⟨zs, by rw [st_Sort]; exact e, hp, ?_⟩
    refine sorted_eq (((hp.map (·.2)).trans (by rw [hZ])).trans (mergeKey_perm xs).symm) (fun x hx => hg x ((mergeKey_perm xs).mem_iff.1 hx)) ?_ (mergeKey_sorted xs)
    rw [List.pairwise_iff_getElem]
    intro i j hi hj hij
    have := hs i j (by omega) (by omega) (by simp at hj; omega)
    simp only [List.length_map] at hi hj
    unfold Gs.at' Gs.el at this
    simp only [Int.toNat_natCast, List.getD_eq_getElem?_getD, List.getElem?_eq_getElem hi, List.getElem?_eq_getElem hj, Option.getD_some] at this
    have e : rowKey zs[i].2 ≤ rowKey zs[j].2 := this
    simpa using e
  · cases h
end Go.Sx
