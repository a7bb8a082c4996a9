/- Parts of the proof: Gd, Ge, Pa, Pb, Pc, Pd, Pe, Gf, Gh, Gg, Qb, Pf, Pg, T1D, Qc, Qd, Qe, V1D, Ra, Rb, F1D, Sa, Sb, Sc, Ua, Ub, Rc, Rd, Sd, Se, Ta, Sf, Qf, Re, Tb, Tc, Uc, Va, Vc, Td, Ud, Vb, Vd, Wa. -/
import Derived.Test.YtehnblgkgaakeaaDoorGr5
import Derived.Lib.TrailingZeros
import Derived.KernelRfl
set_option linter.unusedVariables false
set_option linter.unusedSimpArgs false
set_option linter.unusedSectionVars false
/- reversal, scans, partition. Plain. -/
namespace Go.Sx.Gs
variable {α : Type} [Srtd α]
theorem reverseRange_spec (l0 : List α) (a b : Int) (ha : 0 ≤ a) (hab : a ≤ b) (hb : b ≤ l0.length) (hlen : l0.length ≤ 1000000) :
    ∃ l', DG.reverseRange Srtd.cmp l0 a b = some l' ∧ Rg a b l0 l' := by
  unfold DG.reverseRange
  rw [w64 (show -9223372036854775808 ≤ b - 1 by omega) (by omega)]
  refine loop_then (fun s => Rg a b l0 s.1 ∧ a ≤ s.2.1 ∧ s.2.1 ≤ b ∧ s.2.2 < b ∧ a - 1 ≤ s.2.2) (fun s => (s.2.2 - s.2.1).toNat) (fun r => Rg a b l0 r) ?_ ?_ ?_
  · rintro ⟨l, i, j⟩ ⟨hR, h1, h2, h3, h4⟩
    dsimp only at hR h1 h2 h3 h4 ⊢
    have hll := hR.len
    by_cases hi : i < j
    · have r1 : idx l i = some (el l i) := idx_at (by omega) (by omega)
      have r2 : idx l j = some (el l j) := idx_at (by omega) (by omega)
      have r3 : ∀ x, idx (l.set i.toNat x) j = some (el (l.set i.toNat x) j) := fun x => idx_set_at (by omega) (by omega)
      rw [w64 (show -9223372036854775808 ≤ i + 1 by omega) (by omega), w64 (show -9223372036854775808 ≤ j - 1 by omega) (by omega)]
      refine ⟨.inl (sw l i j, i + 1, j - 1), ?_, ⟨hR.trans (Rg.swap ha (by omega) (by omega) (by omega) (by omega) (by omega)), by dsimp only; omega, by dsimp only; omega, by dsimp only; omega, by dsimp only; omega⟩, by dsimp only; omega⟩
      simp only [r1, r2, r3, hi, decide_true, cond_true, Option.bind_some]
      rfl
    · exact ⟨.inr l, by simp only [hi, decide_false, cond_false], hR⟩
  · exact ⟨Rg.refl _ _ _, by dsimp only; omega, by dsimp only; omega, by dsimp only; omega, by dsimp only; omega⟩
  · rintro r hr
    exact ⟨r, rfl, hr⟩

/-- up, while what is read is less than the pivot -/
theorem scanUp {β : Type} {k : Int → Option β} {Q : β → Prop} (l : List α) (hG : Good l) (a hi i0 : Int) (ha : 0 ≤ a) (ha' : a < l.length) (h0 : 0 ≤ i0) (h1 : i0 ≤ hi + 1) (h2 : hi < l.length) (hlen : l.length ≤ 1000000)
    (hk : ∀ i, i0 ≤ i → i ≤ hi + 1 → (∀ q, i0 ≤ q → q < i → at' l q < at' l a) → (i ≤ hi → ¬ at' l i < at' l a) → ∃ y, k i = some y ∧ Q y) :
    ∃ y, (loopF (σ := Int) (ρ := (Int)) (fun (x : Int) => (cond (decide (x ≤ hi)) ((idx l x).bind fun e => (idx l a).bind fun e' => (Srtd.cmp e e').bind fun y => some (decide (y < 0))) (some false)).bind fun b => cond b (some (.inl (IntKind.i64.wrap (x + 1)))) (some (.inr x))) i0).bind k = some y ∧ Q y := by
  refine loop_then (fun i => i0 ≤ i ∧ i ≤ hi + 1 ∧ ∀ q, i0 ≤ q → q < i → at' l q < at' l a) (fun i => (hi + 1 - i).toNat) (fun i => i0 ≤ i ∧ i ≤ hi + 1 ∧ (∀ q, i0 ≤ q → q < i → at' l q < at' l a) ∧ (i ≤ hi → ¬ at' l i < at' l a)) ?_ ?_ ?_
  · rintro i ⟨g1, g2, g3⟩
    by_cases hi' : i ≤ hi
    · have r1 : idx l i = some (el l i) := idx_at (by omega) (by omega)
      have r2 : idx l a = some (el l a) := idx_at (by omega) (by omega)
      obtain ⟨v, cv, hv⟩ := cmp_at hG (i := i) (j := a) (by omega) (by omega) (by omega) (by omega)
      by_cases hlt : at' l i < at' l a
      · refine ⟨.inl (i + 1), ?_, ⟨by omega, by omega, fun q q1 q2 => ?_⟩, by dsimp only; omega⟩
        · simp only [r1, r2, hi', cv, hv, hlt, decide_true, cond_true, Option.bind_some]
          rw [w64 (by omega) (by omega)]
        · by_cases e : q = i
          · rw [e]; exact hlt
          · exact g3 q q1 (by omega)
      · exact ⟨.inr i, by simp only [r1, r2, hi', cv, hv, hlt, decide_true, decide_false, cond_true, cond_false, Option.bind_some], g1, g2, g3, fun _ => hlt⟩
    · exact ⟨.inr i, by simp only [hi', decide_false, cond_false, Option.bind_some], g1, g2, g3, fun h => absurd h hi'⟩
  · exact ⟨Int.le_refl _, h1, fun q q1 q2 => by omega⟩
  · rintro i ⟨g1, g2, g3, g4⟩
    exact hk i g1 g2 g3 g4

/-- down, while what is read is not less than the pivot -/
theorem scanDown {β : Type} {k : Int → Option β} {Q : β → Prop} (l : List α) (hG : Good l) (a lo j0 : Int) (ha : 0 ≤ a) (ha' : a < l.length) (h0 : 0 ≤ lo) (h1 : lo ≤ j0 + 1) (h2 : j0 < l.length) (hlen : l.length ≤ 1000000)
    (hk : ∀ j, lo ≤ j + 1 → j ≤ j0 → (∀ q, j < q → q ≤ j0 → ¬ at' l q < at' l a) → (lo ≤ j → at' l j < at' l a) → ∃ y, k j = some y ∧ Q y) :
    ∃ y, (loopF (σ := Int) (ρ := (Int)) (fun (x : Int) => (cond (decide (lo ≤ x)) ((idx l x).bind fun e => (idx l a).bind fun e' => (Srtd.cmp e e').bind fun y => some (!(decide (y < 0)))) (some false)).bind fun b => cond b (some (.inl (IntKind.i64.wrap (x - 1)))) (some (.inr x))) j0).bind k = some y ∧ Q y := by
  refine loop_then (fun j => lo ≤ j + 1 ∧ j ≤ j0 ∧ ∀ q, j < q → q ≤ j0 → ¬ at' l q < at' l a) (fun j => (j + 1 - lo).toNat) (fun j => lo ≤ j + 1 ∧ j ≤ j0 ∧ (∀ q, j < q → q ≤ j0 → ¬ at' l q < at' l a) ∧ (lo ≤ j → at' l j < at' l a)) ?_ ?_ ?_
  · rintro j ⟨g1, g2, g3⟩
    by_cases hi' : lo ≤ j
    · have r1 : idx l j = some (el l j) := idx_at (by omega) (by omega)
      have r2 : idx l a = some (el l a) := idx_at (by omega) (by omega)
      obtain ⟨v, cv, hv⟩ := cmp_at hG (i := j) (j := a) (by omega) (by omega) (by omega) (by omega)
      by_cases hlt : at' l j < at' l a
      · exact ⟨.inr j, by simp only [r1, r2, hi', cv, hv, hlt, decide_true, Bool.not_true, cond_true, cond_false, Option.bind_some], g1, g2, g3, fun _ => hlt⟩
      · refine ⟨.inl (j - 1), ?_, ⟨by omega, by omega, fun q q1 q2 => ?_⟩, by dsimp only; omega⟩
        · simp only [r1, r2, hi', cv, hv, hlt, decide_true, decide_false, Bool.not_false, cond_true, Option.bind_some]
          rw [w64 (by omega) (by omega)]
        · by_cases e : q = j
          · rw [e]; exact hlt
          · exact g3 q (by omega) q2
    · exact ⟨.inr j, by simp only [hi', decide_false, cond_false, Option.bind_some], g1, g2, g3, fun h => absurd h hi'⟩
  · exact ⟨h1, Int.le_refl _, fun q q1 q2 => by omega⟩
  · rintro j ⟨g1, g2, g3, g4⟩
    exact hk j g1 g2 g3 g4

/-- what a partition comes to -/
structure Parted (l0 l' : List α) (a b mid : Int) : Prop where
  rg : Rg a b l0 l'
  lo : a ≤ mid
  hi : mid < b
  left : ∀ k, a ≤ k → k < mid → at' l' k ≤ at' l' mid
  right : ∀ k, mid < k → k < b → at' l' mid ≤ at' l' k

theorem partition_spec (l0 : List α) (a b p : Int) (ha : 0 ≤ a) (hb : b ≤ l0.length) (hlen : l0.length ≤ 1000000) (hG : Good l0) (hp : a ≤ p) (hp' : p < b) :
    ∃ y, DG.partition Srtd.cmp l0 a b p = some y ∧ Parted l0 y.2.2 a b y.1 := by
  unfold DG.partition
  have r1 : idx l0 p = some (el l0 p) := idx_at (by omega) (by omega)
  have r2 : idx l0 a = some (el l0 a) := idx_at (by omega) (by omega)
  have r3 : ∀ x, idx (l0.set a.toNat x) p = some (el (l0.set a.toNat x) p) := fun x => idx_set_at (by omega) (by omega)
  simp only [r1, r2, r3, Option.bind_some]
  rw [show (l0.set a.toNat (el l0 p)).set p.toNat (el l0 a) = sw l0 a p from rfl]
  have hR0 : Rg a b l0 (sw l0 a p) := Rg.swap ha hb (by omega) (by omega) hp hp'
  generalize sw l0 a p = m0 at hR0 ⊢
  have hm0 := hR0.len
  rw [w64 (show -9223372036854775808 ≤ b - 1 by omega) (by omega), w64 (show -9223372036854775808 ≤ a + 1 by omega) (by omega)]
  refine scanUp m0 (hR0.good hG) a (b - 1) (a + 1) ha (by omega) (by omega) (by omega) (by omega) (by omega) (fun i i1 i2 i3 i4 => ?_)
  refine scanDown m0 (hR0.good hG) a i (b - 1) ha (by omega) (by omega) (by omega) (by omega) (by omega) (fun j j1 j2 j3 j4 => ?_)
  have q1 : idx m0 a = some (el m0 a) := idx_at (by omega) (by omega)
  have q2 : idx m0 j = some (el m0 j) := idx_at (by omega) (by omega)
  by_cases hij : j < i
  · have q3 : ∀ x, idx (m0.set j.toNat x) a = some (el (m0.set j.toNat x) a) := fun x => idx_set_at (by omega) (by omega)
    refine ⟨(j, true, sw m0 j a), ?_, ⟨hR0.trans (Rg.swap ha (by omega) (by omega) (by omega) (by omega) (by omega)), by dsimp only; omega, by dsimp only; omega, fun k k1 k2 => ?_, fun k k1 k2 => ?_⟩⟩
    · simp only [q1, q2, q3, hij, decide_true, cond_true, Option.bind_some]
      rfl
    · dsimp only at k1 k2 ⊢
      rw [sw_at (by omega) (by omega) (by omega) (by omega) (by omega), sw_at (by omega) (by omega) (by omega) (by omega) (by omega)]
      rw [if_neg (show ¬ j = a by omega), if_pos rfl]
      by_cases e : k = a
      · rw [if_pos e]
        have := i3 j (by omega) (by omega); omega
      · rw [if_neg e, if_neg (by omega)]
        have := i3 k (by omega) (by omega); omega
    · dsimp only at k1 k2 ⊢
      rw [sw_at (by omega) (by omega) (by omega) (by omega) (by omega), sw_at (by omega) (by omega) (by omega) (by omega) (by omega)]
      rw [if_neg (show ¬ k = a by omega), if_neg (show ¬ k = j by omega)]
      have hk := j3 k (by omega) (by omega)
      by_cases e : j = a
      · rw [if_pos e]; subst e; omega
      · rw [if_neg e, if_pos rfl]; omega
  · have q4 : idx m0 i = some (el m0 i) := idx_at (by omega) (by omega)
    have q5 : ∀ x, idx (m0.set i.toNat x) j = some (el (m0.set i.toNat x) j) := fun x => idx_set_at (by omega) (by omega)
    simp only [q1, q2, q4, q5, hij, decide_false, cond_false, Option.bind_some]
    rw [show (m0.set i.toNat (el m0 j)).set j.toNat (el m0 i) = sw m0 i j from rfl]
    have hia := i4 (by omega)
    have hja := j4 (by omega)
    have hne : i < j := by
      rcases Int.lt_or_eq_of_le (show i ≤ j by omega) with h | h
      · exact h
      · subst h; exact absurd hja hia
    have hR1 : Rg a b l0 (sw m0 i j) := hR0.trans (Rg.swap ha (by omega) (by omega) (by omega) (by omega) (by omega))
    have ea : at' (sw m0 i j) a = at' m0 a := by rw [sw_at (by omega) (by omega) (by omega) (by omega) (by omega), if_neg (by omega), if_neg (by omega)]
    have hlo : ∀ q, a + 1 ≤ q → q < i + 1 → at' (sw m0 i j) q < at' (sw m0 i j) a := fun q h1 h2 => by
      rw [ea, sw_at (by omega) (by omega) (by omega) (by omega) (by omega), if_neg (by omega)]
      by_cases e : q = i
      · rw [if_pos e]; exact hja
      · rw [if_neg e]; exact i3 q h1 (by omega)
    have hhi : ∀ q, j - 1 < q → q < b → ¬ at' (sw m0 i j) q < at' (sw m0 i j) a := fun q h1 h2 => by
      rw [ea, sw_at (by omega) (by omega) (by omega) (by omega) (by omega)]
      by_cases e : q = j
      · rw [if_pos e]; exact hia
      · rw [if_neg e, if_neg (by omega)]; exact j3 q (by omega) (by omega)
    rw [w64 (show -9223372036854775808 ≤ i + 1 by omega) (by omega), w64 (show -9223372036854775808 ≤ j - 1 by omega) (by omega)]
    generalize sw m0 i j = m1 at hR1 hlo hhi ⊢
    refine loop_then (fun s => Rg a b l0 s.1 ∧ a + 1 ≤ s.2.1 ∧ s.2.1 ≤ s.2.2 + 1 ∧ s.2.2 < b ∧ (∀ q, a + 1 ≤ q → q < s.2.1 → at' s.1 q < at' s.1 a) ∧ (∀ q, s.2.2 < q → q < b → ¬ at' s.1 q < at' s.1 a)) (fun s => (s.2.2 + 1 - s.2.1).toNat)
      (fun s => Rg a b l0 s.1 ∧ a ≤ s.2 ∧ s.2 < b ∧ (∀ q, a + 1 ≤ q → q ≤ s.2 → at' s.1 q < at' s.1 a) ∧ (∀ q, s.2 < q → q < b → ¬ at' s.1 q < at' s.1 a)) ?_ ?_ ?_
    · rintro ⟨m, u, v⟩ ⟨hR, g1, g2, g3, g4, g5⟩
      dsimp only at hR g1 g2 g3 g4 g5 ⊢
      have hml := hR.len
      refine scanUp m (hR.good hG) a v u ha (by omega) (by omega) (by omega) (by omega) (by omega) (fun i i1 i2 i3 i4 => ?_)
      refine scanDown m (hR.good hG) a i v ha (by omega) (by omega) (by omega) (by omega) (by omega) (fun j j1 j2 j3 j4 => ?_)
      have f1 : ∀ q, a + 1 ≤ q → q < i → at' m q < at' m a := fun q h1 h2 => by
        by_cases h : q < u
        · exact g4 q h1 h
        · exact i3 q (by omega) h2
      have f2 : ∀ q, j < q → q < b → ¬ at' m q < at' m a := fun q h1 h2 => by
        by_cases h : q ≤ v
        · exact j3 q h1 h
        · exact g5 q (by omega) h2
      by_cases hij : j < i
      · exact ⟨.inr (m, j), by simp only [hij, decide_true, cond_true], hR, by dsimp only; omega, by dsimp only; omega, fun q h1 h2 => f1 q h1 (by dsimp only at h2; omega), f2⟩
      · have t1 : idx m i = some (el m i) := idx_at (by omega) (by omega)
        have t2 : idx m j = some (el m j) := idx_at (by omega) (by omega)
        have t3 : ∀ x, idx (m.set i.toNat x) j = some (el (m.set i.toNat x) j) := fun x => idx_set_at (by omega) (by omega)
        have hia := i4 (by omega)
        have hja := j4 (by omega)
        have hne : i < j := by
          rcases Int.lt_or_eq_of_le (show i ≤ j by omega) with h | h
          · exact h
          · subst h; exact absurd hja hia
        have ea : at' (sw m i j) a = at' m a := by rw [sw_at (by omega) (by omega) (by omega) (by omega) (by omega), if_neg (by omega), if_neg (by omega)]
        rw [w64 (show -9223372036854775808 ≤ i + 1 by omega) (by omega), w64 (show -9223372036854775808 ≤ j - 1 by omega) (by omega)]
        refine ⟨.inl (sw m i j, i + 1, j - 1), ?_, ⟨hR.trans (Rg.swap ha (by omega) (by omega) (by omega) (by omega) (by omega)), by dsimp only; omega, by dsimp only; omega, by dsimp only; omega, fun q h1 h2 => ?_, fun q h1 h2 => ?_⟩, by dsimp only; omega⟩
        · simp only [t1, t2, t3, hij, decide_false, cond_false, Option.bind_some]
          rfl
        · dsimp only at h2 ⊢
          rw [ea, sw_at (by omega) (by omega) (by omega) (by omega) (by omega), if_neg (by omega)]
          by_cases e : q = i
          · rw [if_pos e]; exact hja
          · rw [if_neg e]; exact f1 q h1 (by omega)
        · dsimp only at h1 ⊢
          rw [ea, sw_at (by omega) (by omega) (by omega) (by omega) (by omega)]
          by_cases e : q = j
          · rw [if_pos e]; exact hia
          · rw [if_neg e, if_neg (by omega)]; exact f2 q (by omega) h2
    · exact ⟨hR1, by dsimp only; omega, by dsimp only; omega, by dsimp only; omega, hlo, hhi⟩
    · rintro ⟨m, v⟩ ⟨hR, g1, g2, g3, g4⟩
      dsimp only at hR g1 g2 g3 g4 ⊢
      have hml := hR.len
      have t1 : idx m a = some (el m a) := idx_at (by omega) (by omega)
      have t2 : idx m v = some (el m v) := idx_at (by omega) (by omega)
      have t3 : ∀ x, idx (m.set v.toNat x) a = some (el (m.set v.toNat x) a) := fun x => idx_set_at (by omega) (by omega)
      refine ⟨(v, false, sw m v a), ?_, ⟨hR.trans (Rg.swap ha (by omega) (by omega) (by omega) (by omega) (by omega)), g1, g2, fun k k1 k2 => ?_, fun k k1 k2 => ?_⟩⟩
      · simp only [t1, t2, t3, Option.bind_some]
        rfl
      · dsimp only at k1 k2 ⊢
        rw [sw_at (by omega) (by omega) (by omega) (by omega) (by omega), sw_at (by omega) (by omega) (by omega) (by omega) (by omega)]
        rw [if_neg (show ¬ v = a by omega), if_pos rfl]
        by_cases e : k = a
        · rw [if_pos e]
          have := g3 v (by omega) (by omega); omega
        · rw [if_neg e, if_neg (by omega)]
          have := g3 k (by omega) (by omega); omega
      · dsimp only at k1 k2 ⊢
        rw [sw_at (by omega) (by omega) (by omega) (by omega) (by omega), sw_at (by omega) (by omega) (by omega) (by omega) (by omega)]
        rw [if_neg (show ¬ k = a by omega), if_neg (show ¬ k = v by omega)]
        have hk := g4 k (by omega) (by omega)
        by_cases e : v = a
        · rw [if_pos e]; subst e; omega
        · rw [if_neg e, if_pos rfl]; omega
end Go.Sx.Gs

/- partition by what is equal; medians; the pivot; partial insertion. Plain. -/
namespace Go.Sx.Gs
variable {α : Type} [Srtd α]
/-- up, while the pivot is not less than what is read -/
theorem scanUp2 {β : Type} {k : Int → Option β} {Q : β → Prop} (l : List α) (hG : Good l) (a hi i0 : Int) (ha : 0 ≤ a) (ha' : a < l.length) (h0 : 0 ≤ i0) (h1 : i0 ≤ hi + 1) (h2 : hi < l.length) (hlen : l.length ≤ 1000000)
    (hk : ∀ i, i0 ≤ i → i ≤ hi + 1 → (∀ q, i0 ≤ q → q < i → ¬ at' l a < at' l q) → (i ≤ hi → at' l a < at' l i) → ∃ y, k i = some y ∧ Q y) :
    ∃ y, (loopF (σ := Int) (ρ := (Int)) (fun (x : Int) => (cond (decide (x ≤ hi)) ((idx l a).bind fun e => (idx l x).bind fun e' => (Srtd.cmp e e').bind fun y => some (!(decide (y < 0)))) (some false)).bind fun b => cond b (some (.inl (IntKind.i64.wrap (x + 1)))) (some (.inr x))) i0).bind k = some y ∧ Q y := by
  refine loop_then (fun i => i0 ≤ i ∧ i ≤ hi + 1 ∧ ∀ q, i0 ≤ q → q < i → ¬ at' l a < at' l q) (fun i => (hi + 1 - i).toNat) (fun i => i0 ≤ i ∧ i ≤ hi + 1 ∧ (∀ q, i0 ≤ q → q < i → ¬ at' l a < at' l q) ∧ (i ≤ hi → at' l a < at' l i)) ?_ ?_ ?_
  · rintro i ⟨g1, g2, g3⟩
    by_cases hi' : i ≤ hi
    · have r1 : idx l i = some (el l i) := idx_at (by omega) (by omega)
      have r2 : idx l a = some (el l a) := idx_at (by omega) (by omega)
      obtain ⟨v, cv, hv⟩ := cmp_at hG (i := a) (j := i) (by omega) (by omega) (by omega) (by omega)
      by_cases hlt : at' l a < at' l i
      · exact ⟨.inr i, by simp only [r1, r2, hi', cv, hv, hlt, decide_true, Bool.not_true, cond_true, cond_false, Option.bind_some], g1, g2, g3, fun _ => hlt⟩
      · refine ⟨.inl (i + 1), ?_, ⟨by omega, by omega, fun q q1 q2 => ?_⟩, by dsimp only; omega⟩
        · simp only [r1, r2, hi', cv, hv, hlt, decide_true, decide_false, Bool.not_false, cond_true, Option.bind_some]
          rw [w64 (by omega) (by omega)]
        · by_cases e : q = i
          · rw [e]; exact hlt
          · exact g3 q q1 (by omega)
    · exact ⟨.inr i, by simp only [hi', decide_false, cond_false, Option.bind_some], g1, g2, g3, fun h => absurd h hi'⟩
  · exact ⟨Int.le_refl _, h1, fun q q1 q2 => by omega⟩
  · rintro i ⟨g1, g2, g3, g4⟩
    exact hk i g1 g2 g3 g4

/-- down, while the pivot is less than what is read -/
theorem scanDown2 {β : Type} {k : Int → Option β} {Q : β → Prop} (l : List α) (hG : Good l) (a lo j0 : Int) (ha : 0 ≤ a) (ha' : a < l.length) (h0 : 0 ≤ lo) (h1 : lo ≤ j0 + 1) (h2 : j0 < l.length) (hlen : l.length ≤ 1000000)
    (hk : ∀ j, lo ≤ j + 1 → j ≤ j0 → (∀ q, j < q → q ≤ j0 → at' l a < at' l q) → (lo ≤ j → ¬ at' l a < at' l j) → ∃ y, k j = some y ∧ Q y) :
    ∃ y, (loopF (σ := Int) (ρ := (Int)) (fun (x : Int) => (cond (decide (lo ≤ x)) ((idx l a).bind fun e => (idx l x).bind fun e' => (Srtd.cmp e e').bind fun y => some (decide (y < 0))) (some false)).bind fun b => cond b (some (.inl (IntKind.i64.wrap (x - 1)))) (some (.inr x))) j0).bind k = some y ∧ Q y := by
  refine loop_then (fun j => lo ≤ j + 1 ∧ j ≤ j0 ∧ ∀ q, j < q → q ≤ j0 → at' l a < at' l q) (fun j => (j + 1 - lo).toNat) (fun j => lo ≤ j + 1 ∧ j ≤ j0 ∧ (∀ q, j < q → q ≤ j0 → at' l a < at' l q) ∧ (lo ≤ j → ¬ at' l a < at' l j)) ?_ ?_ ?_
  · rintro j ⟨g1, g2, g3⟩
    by_cases hi' : lo ≤ j
    · have r1 : idx l j = some (el l j) := idx_at (by omega) (by omega)
      have r2 : idx l a = some (el l a) := idx_at (by omega) (by omega)
      obtain ⟨v, cv, hv⟩ := cmp_at hG (i := a) (j := j) (by omega) (by omega) (by omega) (by omega)
      by_cases hlt : at' l a < at' l j
      · refine ⟨.inl (j - 1), ?_, ⟨by omega, by omega, fun q q1 q2 => ?_⟩, by dsimp only; omega⟩
        · simp only [r1, r2, hi', cv, hv, hlt, decide_true, cond_true, Option.bind_some]
          rw [w64 (by omega) (by omega)]
        · by_cases e : q = j
          · rw [e]; exact hlt
          · exact g3 q (by omega) q2
      · exact ⟨.inr j, by simp only [r1, r2, hi', cv, hv, hlt, decide_true, decide_false, cond_true, cond_false, Option.bind_some], g1, g2, g3, fun _ => hlt⟩
    · exact ⟨.inr j, by simp only [hi', decide_false, cond_false, Option.bind_some], g1, g2, g3, fun h => absurd h hi'⟩
  · exact ⟨h1, Int.le_refl _, fun q q1 q2 => by omega⟩
  · rintro j ⟨g1, g2, g3, g4⟩
    exact hk j g1 g2 g3 g4

theorem partitionEqual_spec (l0 : List α) (a b p : Int) (ha : 0 ≤ a) (hb : b ≤ l0.length) (hlen : l0.length ≤ 1000000) (hG : Good l0) (hp : a ≤ p) (hp' : p < b) :
    ∃ y, DG.partitionEqual Srtd.cmp l0 a b p = some y ∧ Rg a b l0 y.2 ∧ a < y.1 ∧ y.1 ≤ b ∧ (∀ k, a ≤ k → k < y.1 → at' y.2 k ≤ at' l0 p) ∧ (∀ k, y.1 ≤ k → k < b → at' l0 p < at' y.2 k) := by
  unfold DG.partitionEqual
  have r1 : idx l0 p = some (el l0 p) := idx_at (by omega) (by omega)
  have r2 : idx l0 a = some (el l0 a) := idx_at (by omega) (by omega)
  have r3 : ∀ x, idx (l0.set a.toNat x) p = some (el (l0.set a.toNat x) p) := fun x => idx_set_at (by omega) (by omega)
  simp only [r1, r2, r3, Option.bind_some]
  rw [show (l0.set a.toNat (el l0 p)).set p.toNat (el l0 a) = sw l0 a p from rfl]
  have hR0 : Rg a b l0 (sw l0 a p) := Rg.swap ha hb (by omega) (by omega) hp hp'
  have ep : at' (sw l0 a p) a = at' l0 p := by
    rw [sw_at (by omega) (by omega) (by omega) (by omega) (by omega)]
    by_cases e : a = p
    · rw [if_pos e, e]
    · rw [if_neg e, if_pos rfl]
  generalize sw l0 a p = m0 at hR0 ep ⊢
  rw [w64 (show -9223372036854775808 ≤ b - 1 by omega) (by omega), w64 (show -9223372036854775808 ≤ a + 1 by omega) (by omega)]
  refine loop_then (fun s => Rg a b l0 s.1 ∧ a + 1 ≤ s.2.1 ∧ s.2.1 ≤ s.2.2 + 1 ∧ s.2.2 < b ∧ at' s.1 a = at' l0 p ∧ (∀ q, a + 1 ≤ q → q < s.2.1 → ¬ at' s.1 a < at' s.1 q) ∧ (∀ q, s.2.2 < q → q < b → at' s.1 a < at' s.1 q)) (fun s => (s.2.2 + 1 - s.2.1).toNat)
    (fun s => Rg a b l0 s.1 ∧ a + 1 ≤ s.2 ∧ s.2 ≤ b ∧ at' s.1 a = at' l0 p ∧ (∀ q, a + 1 ≤ q → q < s.2 → ¬ at' s.1 a < at' s.1 q) ∧ (∀ q, s.2 ≤ q → q < b → at' s.1 a < at' s.1 q)) ?_ ?_ ?_
  · rintro ⟨m, u, v⟩ ⟨hR, g1, g2, g3, g6, g4, g5⟩
    dsimp only at hR g1 g2 g3 g4 g5 g6 ⊢
    have hml := hR.len
    refine scanUp2 m (hR.good hG) a v u ha (by omega) (by omega) (by omega) (by omega) (by omega) (fun i i1 i2 i3 i4 => ?_)
    refine scanDown2 m (hR.good hG) a i v ha (by omega) (by omega) (by omega) (by omega) (by omega) (fun j j1 j2 j3 j4 => ?_)
    have f1 : ∀ q, a + 1 ≤ q → q < i → ¬ at' m a < at' m q := fun q h1 h2 => by
      by_cases h : q < u
      · exact g4 q h1 h
      · exact i3 q (by omega) h2
    have f2 : ∀ q, j < q → q < b → at' m a < at' m q := fun q h1 h2 => by
      by_cases h : q ≤ v
      · exact j3 q h1 h
      · exact g5 q (by omega) h2
    by_cases hij : j < i
    · exact ⟨.inr (m, i), by simp only [hij, decide_true, cond_true], hR, by dsimp only; omega, by dsimp only; omega, g6, f1, fun q h1 h2 => f2 q (by dsimp only at h1; omega) h2⟩
    · have t1 : idx m i = some (el m i) := idx_at (by omega) (by omega)
      have t2 : idx m j = some (el m j) := idx_at (by omega) (by omega)
      have t3 : ∀ x, idx (m.set i.toNat x) j = some (el (m.set i.toNat x) j) := fun x => idx_set_at (by omega) (by omega)
      have hia := i4 (by omega)
      have hja := j4 (by omega)
      have hne : i < j := by
        rcases Int.lt_or_eq_of_le (show i ≤ j by omega) with h | h
        · exact h
        · subst h; exact absurd hia hja
      have ea : at' (sw m i j) a = at' m a := by rw [sw_at (by omega) (by omega) (by omega) (by omega) (by omega), if_neg (by omega), if_neg (by omega)]
      rw [w64 (show -9223372036854775808 ≤ i + 1 by omega) (by omega), w64 (show -9223372036854775808 ≤ j - 1 by omega) (by omega)]
      refine ⟨.inl (sw m i j, i + 1, j - 1), ?_, ⟨hR.trans (Rg.swap ha (by omega) (by omega) (by omega) (by omega) (by omega)), by dsimp only; omega, by dsimp only; omega, by dsimp only; omega, by dsimp only; rw [ea]; exact g6, fun q h1 h2 => ?_, fun q h1 h2 => ?_⟩, by dsimp only; omega⟩
      · simp only [t1, t2, t3, hij, decide_false, cond_false, Option.bind_some]
        rfl
      · dsimp only at h2 ⊢
        rw [ea, sw_at (by omega) (by omega) (by omega) (by omega) (by omega), if_neg (by omega)]
        by_cases e : q = i
        · rw [if_pos e]; exact hja
        · rw [if_neg e]; exact f1 q h1 (by omega)
      · dsimp only at h1 ⊢
        rw [ea, sw_at (by omega) (by omega) (by omega) (by omega) (by omega)]
        by_cases e : q = j
        · rw [if_pos e]; exact hia
        · rw [if_neg e, if_neg (by omega)]; exact f2 q (by omega) h2
  · exact ⟨hR0, by dsimp only; omega, by dsimp only; omega, by dsimp only; omega, ep, fun q h1 h2 => by dsimp only at h2; omega, fun q h1 h2 => by dsimp only at h1; omega⟩
  · rintro ⟨m, v⟩ ⟨hR, g1, g2, g3, g4, g5⟩
    refine ⟨(v, m), rfl, hR, by dsimp only at *; omega, g2, fun k k1 k2 => ?_, fun k k1 k2 => ?_⟩
    · dsimp only at *
      by_cases e : k = a
      · rw [e, g3]; exact Int.le_refl _
      · have := g4 k (by omega) k2; omega
    · dsimp only at *
      have := g5 k k1 k2; omega

theorem order2_spec (l : List α) (hG : Good l) (a b s : Int) (ha : 0 ≤ a) (ha' : a < l.length) (hb : 0 ≤ b) (hb' : b < l.length) :
    ∃ y, DG.order2 Srtd.cmp l a b s = some y ∧ y.2.2.1 = l ∧ ((y.1 = a ∧ y.2.1 = b) ∨ (y.1 = b ∧ y.2.1 = a)) := by
  have r1 : idx l a = some (el l a) := idx_at ha ha'
  have r2 : idx l b = some (el l b) := idx_at hb hb'
  unfold DG.order2
  obtain ⟨v, cv, hv⟩ := cmp_at hG (i := b) (j := a) hb hb' ha ha'
  simp only [r1, r2, cv, hv, Option.bind_some]
  by_cases h : at' l b < at' l a
  · simp only [h, decide_true, cond_true]; exact ⟨_, rfl, rfl, .inr ⟨rfl, rfl⟩⟩
  · simp only [h, decide_false, cond_false]; exact ⟨_, rfl, rfl, .inl ⟨rfl, rfl⟩⟩

theorem median_spec (l : List α) (hG : Good l) (a b c s : Int) (ha : 0 ≤ a) (ha' : a < l.length) (hb : 0 ≤ b) (hb' : b < l.length) (hc : 0 ≤ c) (hc' : c < l.length) :
    ∃ y, DG.median Srtd.cmp l a b c s = some y ∧ y.2.1 = l ∧ (y.1 = a ∨ y.1 = b ∨ y.1 = c) := by
  unfold DG.median
  obtain ⟨y1, h1, e1, c1⟩ := order2_spec l hG a b s ha ha' hb hb'
  rw [h1, Option.bind_some, e1]
  have b1 : 0 ≤ y1.2.1 ∧ y1.2.1 < l.length ∧ 0 ≤ y1.1 ∧ y1.1 < l.length := by rcases c1 with ⟨c, d⟩ | ⟨c, d⟩ <;> rw [c, d] <;> exact ⟨by assumption, by assumption, by assumption, by assumption⟩
  obtain ⟨y2, h2, e2, c2⟩ := order2_spec l hG y1.2.1 c y1.2.2.2 b1.1 b1.2.1 hc hc'
  rw [h2, Option.bind_some, e2]
  have b2 : 0 ≤ y2.1 ∧ y2.1 < l.length := by rcases c2 with ⟨c, d⟩ | ⟨c, d⟩ <;> rw [c] <;> exact ⟨by omega, by omega⟩
  obtain ⟨y3, h3, e3, c3⟩ := order2_spec l hG y1.1 y2.1 y2.2.2.2 b1.2.2.1 b1.2.2.2 b2.1 b2.2
  rw [h3, Option.bind_some]
  refine ⟨_, rfl, e3, ?_⟩
  dsimp only
  omega

theorem medianAdj_spec (l : List α) (hG : Good l) (p s : Int) (h0 : 1 ≤ p) (h1 : p + 1 < l.length) (hlen : l.length ≤ 1000000) :
    ∃ y, DG.medianAdjacent Srtd.cmp l p s = some y ∧ y.2.1 = l ∧ p - 1 ≤ y.1 ∧ y.1 ≤ p + 1 := by
  unfold DG.medianAdjacent
  rw [w64 (show -9223372036854775808 ≤ p - 1 by omega) (by omega), w64 (show -9223372036854775808 ≤ p + 1 by omega) (by omega)]
  obtain ⟨y, h, e, c⟩ := median_spec l hG (p - 1) p (p + 1) s (by omega) (by omega) (by omega) (by omega) (by omega) (by omega)
  rw [h, Option.bind_some]
  exact ⟨_, rfl, e, by dsimp only; omega, by dsimp only; omega⟩

theorem choosePivot_spec (l : List α) (hG : Good l) (a b : Int) (ha : 0 ≤ a) (hb : b ≤ l.length) (h8 : 8 ≤ b - a) (hlen : l.length ≤ 1000000) :
    ∃ y, DG.choosePivot Srtd.cmp l a b = some y ∧ y.2.2 = l ∧ a ≤ y.1 ∧ y.1 < b := by
  unfold DG.choosePivot
  rw [w64 (show -9223372036854775808 ≤ b - a by omega) (by omega)]
  have e4 : (b - a).tdiv 4 = (b - a) / 4 := Int.tdiv_eq_ediv_of_nonneg (by omega)
  rw [e4, w64 (show -9223372036854775808 ≤ (b - a) / 4 by omega) (by omega)]
  rw [w64 (show -9223372036854775808 ≤ (b - a) / 4 * 1 by omega) (by omega), w64 (show -9223372036854775808 ≤ (b - a) / 4 * 2 by omega) (by omega), w64 (show -9223372036854775808 ≤ (b - a) / 4 * 3 by omega) (by omega)]
  rw [w64 (show -9223372036854775808 ≤ a + (b - a) / 4 * 1 by omega) (by omega), w64 (show -9223372036854775808 ≤ a + (b - a) / 4 * 2 by omega) (by omega), w64 (show -9223372036854775808 ≤ a + (b - a) / 4 * 3 by omega) (by omega)]
  simp only [h8, decide_true, cond_true]
  refine bind_then (fun q : List α × Int × Int × Int × Int => q.1 = l ∧ (a ≤ q.2.1 ∧ q.2.1 < b) ∧ (a ≤ q.2.2.1 ∧ q.2.2.1 < b) ∧ (a ≤ q.2.2.2.1 ∧ q.2.2.2.1 < b)) ?_ ?_
  · by_cases h50 : 50 ≤ b - a
    · simp only [h50, decide_true, cond_true]
      obtain ⟨y1, h1, e1, c1⟩ := medianAdj_spec l hG (a + (b - a) / 4 * 1) 0 (by omega) (by omega) hlen
      rw [h1, Option.bind_some, e1]
      obtain ⟨y2, h2, e2, c2⟩ := medianAdj_spec l hG (a + (b - a) / 4 * 2) y1.2.2 (by omega) (by omega) hlen
      rw [h2, Option.bind_some, e2]
      obtain ⟨y3, h3, e3, c3⟩ := medianAdj_spec l hG (a + (b - a) / 4 * 3) y2.2.2 (by omega) (by omega) hlen
      rw [h3, Option.bind_some]
      exact ⟨_, rfl, e3, ⟨by dsimp only; omega, by dsimp only; omega⟩, ⟨by dsimp only; omega, by dsimp only; omega⟩, ⟨by dsimp only; omega, by dsimp only; omega⟩⟩
    · simp only [h50, decide_false, cond_false]
      exact ⟨_, rfl, rfl, ⟨by dsimp only; omega, by dsimp only; omega⟩, ⟨by dsimp only; omega, by dsimp only; omega⟩, ⟨by dsimp only; omega, by dsimp only; omega⟩⟩
  · rintro ⟨q, i, j, k, sw⟩ ⟨rfl, g1, g2, g3⟩
    dsimp only at g1 g2 g3 hb hlen ⊢
    obtain ⟨y, h1, e1, c1⟩ := median_spec q hG i j k sw (by omega) (by omega) (by omega) (by omega) (by omega) (by omega)
    rw [h1, Option.bind_some, e1]
    have hy : a ≤ y.1 ∧ y.1 < b := by omega
    cases (y.2.2 == 0)
    · cases (y.2.2 == 12)
      · exact ⟨_, rfl, rfl, hy⟩
      · exact ⟨_, rfl, rfl, hy⟩
    · exact ⟨_, rfl, rfl, hy⟩
end Go.Sx.Gs

/- Plain facts on lists of numbers: reading, swapping, what a sort may do. No program in sight. -/
namespace Go.Sx
def at' (l : List Int) (i : Int) : Int := l.getD i.toNat 0
theorem idx_at {l : List Int} {i : Int} (h0 : 0 ≤ i) (h1 : i < l.length) : idx l i = some (at' l i) := by
  unfold idx at'
  rw [if_pos h0]
  have : i.toNat < l.length := by omega
  simp [this]
theorem at_set {l : List Int} {i k x : Int} (h0 : 0 ≤ i) (h1 : i < l.length) (hk : 0 ≤ k) : at' (l.set i.toNat x) k = if k = i then x else at' l k := by
  unfold at'
  by_cases h : k = i
  · subst h
    have : k.toNat < l.length := by omega
    simp [this]
  · rw [if_neg h]
    have : i.toNat ≠ k.toNat := by omega
    simp [List.getD_eq_getElem?_getD, List.getElem?_set_ne this]

def sw (l : List Int) (i j : Int) : List Int := (l.set i.toNat (at' l j)).set j.toNat (at' l i)
theorem sw_len (l : List Int) (i j : Int) : (sw l i j).length = l.length := by simp [sw]
theorem sw_at {l : List Int} {i j k : Int} (hi : 0 ≤ i) (hi' : i < l.length) (hj : 0 ≤ j) (hj' : j < l.length) (hk : 0 ≤ k) :
    at' (sw l i j) k = if k = j then at' l i else if k = i then at' l j else at' l k := by
  unfold sw
  rw [at_set hj (by simpa using hj') hk]
  split
  · rfl
  · rw [at_set hi hi' hk]

theorem set_perm_erase (z : Int) : ∀ (l : List Int) (j : Nat), j < l.length → List.Perm (l.set j z) (z :: l.eraseIdx j)
  | [], j, h => by simp at h
  | x :: l, 0, _ => by simp
  | x :: l, j + 1, h => by
    simp only [List.set_cons_succ, List.eraseIdx_cons_succ]
    exact ((set_perm_erase z l j (by simpa using h)).cons x).trans (List.Perm.swap _ _ _)
theorem perm_erase (l : List Int) (j : Nat) (h : j < l.length) : List.Perm l (l[j] :: l.eraseIdx j) := by
  have := set_perm_erase l[j] l j h
  rwa [List.set_getElem_self] at this

theorem set_perm : ∀ (l : List Int) (i j : Nat) (x y : Int), l[i]? = some x → l[j]? = some y → List.Perm ((l.set i y).set j x) l
  | [], i, j, x, y, h, _ => by simp at h
  | z :: l, 0, 0, x, y, h, h' => by simp at h h'; subst h; simp
  | z :: l, 0, j + 1, x, y, h, h' => by
    simp at h h'
    subst h
    simp only [List.set_cons_zero, List.set_cons_succ]
    obtain ⟨hj, rfl⟩ := List.getElem?_eq_some_iff.1 h'
    have h1 := set_perm_erase z l j hj
    have h2 := perm_erase l j hj
    exact ((h1.cons _).trans (List.Perm.swap _ _ _)).trans (h2.symm.cons z)
  | z :: l, i + 1, 0, x, y, h, h' => by
    simp at h h'
    subst h'
    simp only [List.set_cons_zero, List.set_cons_succ]
    obtain ⟨hj, rfl⟩ := List.getElem?_eq_some_iff.1 h
    have h1 := set_perm_erase z l i hj
    have h2 := perm_erase l i hj
    exact ((h1.cons _).trans (List.Perm.swap _ _ _)).trans (h2.symm.cons z)
  | z :: l, i + 1, j + 1, x, y, h, h' => by
    simp at h h'
    simp only [List.set_cons_succ]
    exact (set_perm l i j x y h h').cons z

theorem sw_perm {l : List Int} {i j : Int} (hi : 0 ≤ i) (hi' : i < l.length) (hj : 0 ≤ j) (hj' : j < l.length) : List.Perm (sw l i j) l := by
  have h1 : i.toNat < l.length := by omega
  have h2 : j.toNat < l.length := by omega
  exact set_perm l i.toNat j.toNat _ _ (by simp [at', h1]) (by simp [at', h2])

/-- what a sort may do to the places from a to b -/
structure Rg (a b : Int) (l l' : List Int) : Prop where
  len : l'.length = l.length
  perm : List.Perm l' l
  out : ∀ k, 0 ≤ k → (k < a ∨ b ≤ k) → at' l' k = at' l k
  all : ∀ Q : Int → Prop, (∀ k, a ≤ k → k < b → Q (at' l k)) → ∀ k, a ≤ k → k < b → Q (at' l' k)

theorem Rg.refl (a b : Int) (l : List Int) : Rg a b l l := ⟨rfl, List.Perm.refl _, fun _ _ _ => rfl, fun _ h => h⟩
theorem Rg.trans {a b : Int} {l l' l'' : List Int} (h : Rg a b l l') (h' : Rg a b l' l'') : Rg a b l l'' :=
  ⟨h'.len.trans h.len, h'.perm.trans h.perm, fun k h0 hk => (h'.out k h0 hk).trans (h.out k h0 hk), fun Q hQ => h'.all Q (h.all Q hQ)⟩
theorem Rg.swap {a b i j : Int} {l : List Int} (ha : 0 ≤ a) (hb : b ≤ l.length) (hi : a ≤ i) (hi' : i < b) (hj : a ≤ j) (hj' : j < b) : Rg a b l (sw l i j) := by
  refine ⟨sw_len _ _ _, sw_perm (by omega) (by omega) (by omega) (by omega), fun k h0 hk => ?_, fun Q hQ k h1 h2 => ?_⟩
  · rw [sw_at (by omega) (by omega) (by omega) (by omega) h0, if_neg (by omega), if_neg (by omega)]
  · rw [sw_at (by omega) (by omega) (by omega) (by omega) (by omega)]
    split
    · exact hQ i hi hi'
    · split
      · exact hQ j hj hj'
      · exact hQ k h1 h2
theorem Rg.widen {a b a' b' : Int} {l l' : List Int} (h : Rg a b l l') (ha : a' ≤ a) (hb : b ≤ b') (h0 : 0 ≤ a') : Rg a' b' l l' := by
  refine ⟨h.len, h.perm, fun k h0 hk => h.out k h0 (by omega), fun Q hQ k h1 h2 => ?_⟩
  by_cases hk : a ≤ k ∧ k < b
  · exact h.all Q (fun k h3 h4 => hQ k (by omega) (by omega)) k hk.1 hk.2
  · rw [h.out k (by omega) (by omega)]; exact hQ k h1 h2

/-- sorted from a to b -/
def Srt (l : List Int) (a b : Int) : Prop := ∀ i j, a ≤ i → i < j → j < b → at' l i ≤ at' l j

end Go.Sx

/- What Go's sort at []int64 comes to. Plain. -/
namespace Go.Sx
theorem less_eq (x y : Int) : D.cmp_Less_int64 x y = some (decide (x < y)) := by
  simp [D.cmp_Less_int64, D.cmp_isNaN_int64]

theorem idx_set_at {l : List Int} {i j x : Int} (h0 : 0 ≤ i) (h1 : i < l.length) : idx (l.set j.toNat x) i = some (at' (l.set j.toNat x) i) := idx_at h0 (by simpa using h1)

theorem insertionSort_spec (l0 : List Int) (a b : Int) (ha : 0 ≤ a) (hab : a ≤ b) (hb : b ≤ l0.length) (hlen : l0.length ≤ 1000000) :
    ∃ l', D.slices_insertionSortOrdered_int64 l0 a b = some l' ∧ Rg a b l0 l' ∧ Srt l' a b := by
  unfold D.slices_insertionSortOrdered_int64
  rw [w64 (show -9223372036854775808 ≤ a + 1 by omega) (by omega)]
  refine loop_then (fun s => Rg a b l0 s.1 ∧ Srt s.1 a s.2 ∧ a + 1 ≤ s.2 ∧ s.2 ≤ b + 1) (fun s => (b - s.2).toNat) (fun r => Rg a b l0 r ∧ Srt r a b) ?_ ?_ ?_
  · rintro ⟨l, i⟩ ⟨hR, hS, h1, h2⟩
    dsimp only at hR hS h1 h2 ⊢
    have hll := hR.len
    by_cases hi : i < b
    · simp only [hi, decide_true, cond_true]
      rw [w64 (show -9223372036854775808 ≤ i + 1 by omega) (by omega)]
      refine loop_then (fun s => Rg a b l0 s.1 ∧ a ≤ s.2 ∧ s.2 ≤ i ∧ ∀ p q, a ≤ p → p < q → q ≤ i → q ≠ s.2 → at' s.1 p ≤ at' s.1 q) (fun s => (s.2 - a).toNat) (fun r => Rg a b l0 r ∧ Srt r a (i + 1)) ?_ ?_ ?_
      · rintro ⟨m, j⟩ ⟨hR', g1, g2, hS'⟩
        dsimp only at hR' g1 g2 hS' ⊢
        have hml := hR'.len
        rw [w64 (show -9223372036854775808 ≤ j - 1 by omega) (by omega)]
        by_cases hj : a < j
        · have r1 : idx m j = some (at' m j) := idx_at (by omega) (by omega)
          have r2 : idx m (j - 1) = some (at' m (j - 1)) := idx_at (by omega) (by omega)
          have r3 : ∀ x, idx (m.set j.toNat x) (j - 1) = some (at' (m.set j.toNat x) (j - 1)) := fun x => idx_set_at (by omega) (by omega)
          by_cases hlt : at' m j < at' m (j - 1)
          · refine ⟨.inl (sw m j (j - 1), j - 1), ?_, ⟨hR'.trans (Rg.swap ha (by omega) (by omega) (by omega) (by omega) (by omega)), by dsimp only; omega, by dsimp only; omega, ?_⟩, by dsimp only; omega⟩
            · simp only [r1, r2, r3, hj, less_eq, hlt, decide_true, cond_true, Option.bind_some]
              rfl
            · intro p q k1 k2 k3 k4
              dsimp only at k4 ⊢
              rw [sw_at (by omega) (by omega) (by omega) (by omega) (by omega), sw_at (by omega) (by omega) (by omega) (by omega) (by omega)]
              by_cases c1 : q = j
              · subst c1
                rw [if_neg (show ¬ q = q - 1 by omega), if_pos rfl]
                by_cases c2 : p = q - 1
                · rw [if_pos c2]; omega
                · rw [if_neg c2, if_neg (by omega)]
                  exact hS' p (q - 1) k1 (by omega) (by omega) (by omega)
              · rw [if_neg (show ¬ q = j - 1 by omega), if_neg c1]
                by_cases c2 : p = j - 1
                · rw [if_pos c2]
                  exact hS' j q (by omega) (by omega) k3 c1
                · rw [if_neg c2]
                  by_cases c3 : p = j
                  · rw [if_pos c3]
                    exact hS' (j - 1) q (by omega) (by omega) k3 c1
                  · rw [if_neg c3]
                    exact hS' p q k1 k2 k3 c1
          · refine ⟨.inr m, ?_, hR', ?_⟩
            · simp only [r1, r2, hj, less_eq, hlt, decide_true, decide_false, cond_true, cond_false, Option.bind_some]
            · intro p q k1 k2 k3
              by_cases c1 : q = j
              · subst c1
                by_cases c2 : p = q - 1
                · subst c2; omega
                · have := hS' p (q - 1) k1 (by omega) (by omega) (by omega)
                  omega
              · exact hS' p q k1 k2 (by omega) c1
        · refine ⟨.inr m, ?_, hR', ?_⟩
          · simp only [hj, decide_false, cond_false, Option.bind_some]
          · intro p q k1 k2 k3
            exact hS' p q k1 k2 (by omega) (by omega)
      · exact ⟨hR, by dsimp only; omega, Int.le_refl _, fun p q k1 k2 k3 k4 => hS p q k1 k2 (by dsimp only at k4 ⊢; omega)⟩
      · rintro r ⟨hR', hS'⟩
        exact ⟨.inl (r, i + 1), rfl, ⟨hR', hS', by dsimp only; omega, by dsimp only; omega⟩, by dsimp only; omega⟩
    · refine ⟨.inr l, by simp only [hi, decide_false, cond_false], hR, ?_⟩
      intro p q k1 k2 k3
      exact hS p q k1 k2 (by omega)
  · exact ⟨Rg.refl _ _ _, fun p q k1 k2 k3 => by dsimp only at k3; omega, by dsimp only; omega, by dsimp only; omega⟩
  · rintro r hr
    exact ⟨r, rfl, hr⟩
end Go.Sx

namespace Go.Sx
theorem reverseRange_spec (l0 : List Int) (a b : Int) (ha : 0 ≤ a) (hab : a ≤ b) (hb : b ≤ l0.length) (hlen : l0.length ≤ 1000000) :
    ∃ l', D.slices_reverseRangeOrdered_int64 l0 a b = some l' ∧ Rg a b l0 l' := by
  unfold D.slices_reverseRangeOrdered_int64
  rw [w64 (show -9223372036854775808 ≤ b - 1 by omega) (by omega)]
  refine loop_then (fun s => Rg a b l0 s.1 ∧ a ≤ s.2.1 ∧ s.2.1 ≤ b ∧ s.2.2 < b ∧ a - 1 ≤ s.2.2) (fun s => (s.2.2 - s.2.1).toNat) (fun r => Rg a b l0 r) ?_ ?_ ?_
  · rintro ⟨l, i, j⟩ ⟨hR, h1, h2, h3, h4⟩
    dsimp only at hR h1 h2 h3 h4 ⊢
    have hll := hR.len
    by_cases hi : i < j
    · have r1 : idx l i = some (at' l i) := idx_at (by omega) (by omega)
      have r2 : idx l j = some (at' l j) := idx_at (by omega) (by omega)
      have r3 : ∀ x, idx (l.set i.toNat x) j = some (at' (l.set i.toNat x) j) := fun x => idx_set_at (by omega) (by omega)
      rw [w64 (show -9223372036854775808 ≤ i + 1 by omega) (by omega), w64 (show -9223372036854775808 ≤ j - 1 by omega) (by omega)]
      refine ⟨.inl (sw l i j, i + 1, j - 1), ?_, ⟨hR.trans (Rg.swap ha (by omega) (by omega) (by omega) (by omega) (by omega)), by dsimp only; omega, by dsimp only; omega, by dsimp only; omega, by dsimp only; omega⟩, by dsimp only; omega⟩
      simp only [r1, r2, r3, hi, decide_true, cond_true, Option.bind_some]
      rfl
    · exact ⟨.inr l, by simp only [hi, decide_false, cond_false], hR⟩
  · exact ⟨Rg.refl _ _ _, by dsimp only; omega, by dsimp only; omega, by dsimp only; omega, by dsimp only; omega⟩
  · rintro r hr
    exact ⟨r, rfl, hr⟩

/-- up, while what is read is less than the pivot -/
theorem scanUp {β : Type} {k : Int → Option β} {Q : β → Prop} (l : List Int) (a hi i0 : Int) (ha : 0 ≤ a) (ha' : a < l.length) (h0 : 0 ≤ i0) (h1 : i0 ≤ hi + 1) (h2 : hi < l.length) (hlen : l.length ≤ 1000000)
    (hk : ∀ i, i0 ≤ i → i ≤ hi + 1 → (∀ q, i0 ≤ q → q < i → at' l q < at' l a) → (i ≤ hi → ¬ at' l i < at' l a) → ∃ y, k i = some y ∧ Q y) :
    ∃ y, (loopF (σ := Int) (ρ := (Int)) (fun (x : Int) => (cond (decide (x ≤ hi)) ((idx l x).bind fun e => (idx l a).bind fun e' => (D.cmp_Less_int64 e e').bind fun y => some y) (some false)).bind fun b => cond b (some (.inl (IntKind.i64.wrap (x + 1)))) (some (.inr x))) i0).bind k = some y ∧ Q y := by
  refine loop_then (fun i => i0 ≤ i ∧ i ≤ hi + 1 ∧ ∀ q, i0 ≤ q → q < i → at' l q < at' l a) (fun i => (hi + 1 - i).toNat) (fun i => i0 ≤ i ∧ i ≤ hi + 1 ∧ (∀ q, i0 ≤ q → q < i → at' l q < at' l a) ∧ (i ≤ hi → ¬ at' l i < at' l a)) ?_ ?_ ?_
  · rintro i ⟨g1, g2, g3⟩
    by_cases hi' : i ≤ hi
    · have r1 : idx l i = some (at' l i) := idx_at (by omega) (by omega)
      have r2 : idx l a = some (at' l a) := idx_at (by omega) (by omega)
      by_cases hlt : at' l i < at' l a
      · refine ⟨.inl (i + 1), ?_, ⟨by omega, by omega, fun q q1 q2 => ?_⟩, by dsimp only; omega⟩
        · simp only [r1, r2, hi', less_eq, hlt, decide_true, cond_true, Option.bind_some]
          rw [w64 (by omega) (by omega)]
        · by_cases e : q = i
          · rw [e]; exact hlt
          · exact g3 q q1 (by omega)
      · exact ⟨.inr i, by simp only [r1, r2, hi', less_eq, hlt, decide_true, decide_false, cond_true, cond_false, Option.bind_some], g1, g2, g3, fun _ => hlt⟩
    · exact ⟨.inr i, by simp only [hi', decide_false, cond_false, Option.bind_some], g1, g2, g3, fun h => absurd h hi'⟩
  · exact ⟨Int.le_refl _, h1, fun q q1 q2 => by omega⟩
  · rintro i ⟨g1, g2, g3, g4⟩
    exact hk i g1 g2 g3 g4

/-- down, while what is read is not less than the pivot -/
theorem scanDown {β : Type} {k : Int → Option β} {Q : β → Prop} (l : List Int) (a lo j0 : Int) (ha : 0 ≤ a) (ha' : a < l.length) (h0 : 0 ≤ lo) (h1 : lo ≤ j0 + 1) (h2 : j0 < l.length) (hlen : l.length ≤ 1000000)
    (hk : ∀ j, lo ≤ j + 1 → j ≤ j0 → (∀ q, j < q → q ≤ j0 → ¬ at' l q < at' l a) → (lo ≤ j → at' l j < at' l a) → ∃ y, k j = some y ∧ Q y) :
    ∃ y, (loopF (σ := Int) (ρ := (Int)) (fun (x : Int) => (cond (decide (lo ≤ x)) ((idx l x).bind fun e => (idx l a).bind fun e' => (D.cmp_Less_int64 e e').bind fun y => some (!y)) (some false)).bind fun b => cond b (some (.inl (IntKind.i64.wrap (x - 1)))) (some (.inr x))) j0).bind k = some y ∧ Q y := by
  refine loop_then (fun j => lo ≤ j + 1 ∧ j ≤ j0 ∧ ∀ q, j < q → q ≤ j0 → ¬ at' l q < at' l a) (fun j => (j + 1 - lo).toNat) (fun j => lo ≤ j + 1 ∧ j ≤ j0 ∧ (∀ q, j < q → q ≤ j0 → ¬ at' l q < at' l a) ∧ (lo ≤ j → at' l j < at' l a)) ?_ ?_ ?_
  · rintro j ⟨g1, g2, g3⟩
    by_cases hi' : lo ≤ j
    · have r1 : idx l j = some (at' l j) := idx_at (by omega) (by omega)
      have r2 : idx l a = some (at' l a) := idx_at (by omega) (by omega)
      by_cases hlt : at' l j < at' l a
      · exact ⟨.inr j, by simp only [r1, r2, hi', less_eq, hlt, decide_true, Bool.not_true, cond_true, cond_false, Option.bind_some], g1, g2, g3, fun _ => hlt⟩
      · refine ⟨.inl (j - 1), ?_, ⟨by omega, by omega, fun q q1 q2 => ?_⟩, by dsimp only; omega⟩
        · simp only [r1, r2, hi', less_eq, hlt, decide_true, decide_false, Bool.not_false, cond_true, Option.bind_some]
          rw [w64 (by omega) (by omega)]
        · by_cases e : q = j
          · rw [e]; exact hlt
          · exact g3 q (by omega) q2
    · exact ⟨.inr j, by simp only [hi', decide_false, cond_false, Option.bind_some], g1, g2, g3, fun h => absurd h hi'⟩
  · exact ⟨h1, Int.le_refl _, fun q q1 q2 => by omega⟩
  · rintro j ⟨g1, g2, g3, g4⟩
    exact hk j g1 g2 g3 g4

/-- what a partition comes to -/
structure Parted (l0 l' : List Int) (a b mid : Int) : Prop where
  rg : Rg a b l0 l'
  lo : a ≤ mid
  hi : mid < b
  left : ∀ k, a ≤ k → k < mid → at' l' k ≤ at' l' mid
  right : ∀ k, mid < k → k < b → at' l' mid ≤ at' l' k

theorem partition_spec (l0 : List Int) (a b p : Int) (ha : 0 ≤ a) (hb : b ≤ l0.length) (hlen : l0.length ≤ 1000000) (hp : a ≤ p) (hp' : p < b) :
    ∃ y, D.slices_partitionOrdered_int64 l0 a b p = some y ∧ Parted l0 y.2.2 a b y.1 := by
  unfold D.slices_partitionOrdered_int64
  have r1 : idx l0 p = some (at' l0 p) := idx_at (by omega) (by omega)
  have r2 : idx l0 a = some (at' l0 a) := idx_at (by omega) (by omega)
  have r3 : ∀ x, idx (l0.set a.toNat x) p = some (at' (l0.set a.toNat x) p) := fun x => idx_set_at (by omega) (by omega)
  simp only [r1, r2, r3, Option.bind_some]
  rw [show (l0.set a.toNat (at' l0 p)).set p.toNat (at' l0 a) = sw l0 a p from rfl]
  have hR0 : Rg a b l0 (sw l0 a p) := Rg.swap ha hb (by omega) (by omega) hp hp'
  generalize sw l0 a p = m0 at hR0 ⊢
  have hm0 := hR0.len
  rw [w64 (show -9223372036854775808 ≤ b - 1 by omega) (by omega), w64 (show -9223372036854775808 ≤ a + 1 by omega) (by omega)]
  refine scanUp m0 a (b - 1) (a + 1) ha (by omega) (by omega) (by omega) (by omega) (by omega) (fun i i1 i2 i3 i4 => ?_)
  refine scanDown m0 a i (b - 1) ha (by omega) (by omega) (by omega) (by omega) (by omega) (fun j j1 j2 j3 j4 => ?_)
  have q1 : idx m0 a = some (at' m0 a) := idx_at (by omega) (by omega)
  have q2 : idx m0 j = some (at' m0 j) := idx_at (by omega) (by omega)
  by_cases hij : j < i
  · have q3 : ∀ x, idx (m0.set j.toNat x) a = some (at' (m0.set j.toNat x) a) := fun x => idx_set_at (by omega) (by omega)
    refine ⟨(j, true, sw m0 j a), ?_, ⟨hR0.trans (Rg.swap ha (by omega) (by omega) (by omega) (by omega) (by omega)), by dsimp only; omega, by dsimp only; omega, fun k k1 k2 => ?_, fun k k1 k2 => ?_⟩⟩
    · simp only [q1, q2, q3, hij, decide_true, cond_true, Option.bind_some]
      rfl
    · dsimp only at k1 k2 ⊢
      rw [sw_at (by omega) (by omega) (by omega) (by omega) (by omega), sw_at (by omega) (by omega) (by omega) (by omega) (by omega)]
      rw [if_neg (show ¬ j = a by omega), if_pos rfl]
      by_cases e : k = a
      · rw [if_pos e]
        have := i3 j (by omega) (by omega); omega
      · rw [if_neg e, if_neg (by omega)]
        have := i3 k (by omega) (by omega); omega
    · dsimp only at k1 k2 ⊢
      rw [sw_at (by omega) (by omega) (by omega) (by omega) (by omega), sw_at (by omega) (by omega) (by omega) (by omega) (by omega)]
      rw [if_neg (show ¬ k = a by omega), if_neg (show ¬ k = j by omega)]
      have hk := j3 k (by omega) (by omega)
      by_cases e : j = a
      · rw [if_pos e]; subst e; omega
      · rw [if_neg e, if_pos rfl]; omega
  · have q4 : idx m0 i = some (at' m0 i) := idx_at (by omega) (by omega)
    have q5 : ∀ x, idx (m0.set i.toNat x) j = some (at' (m0.set i.toNat x) j) := fun x => idx_set_at (by omega) (by omega)
    simp only [q1, q2, q4, q5, hij, decide_false, cond_false, Option.bind_some]
    rw [show (m0.set i.toNat (at' m0 j)).set j.toNat (at' m0 i) = sw m0 i j from rfl]
    have hia := i4 (by omega)
    have hja := j4 (by omega)
    have hne : i < j := by
      rcases Int.lt_or_eq_of_le (show i ≤ j by omega) with h | h
      · exact h
      · subst h; exact absurd hja hia
    have hR1 : Rg a b l0 (sw m0 i j) := hR0.trans (Rg.swap ha (by omega) (by omega) (by omega) (by omega) (by omega))
    have ea : at' (sw m0 i j) a = at' m0 a := by rw [sw_at (by omega) (by omega) (by omega) (by omega) (by omega), if_neg (by omega), if_neg (by omega)]
    have hlo : ∀ q, a + 1 ≤ q → q < i + 1 → at' (sw m0 i j) q < at' (sw m0 i j) a := fun q h1 h2 => by
      rw [ea, sw_at (by omega) (by omega) (by omega) (by omega) (by omega), if_neg (by omega)]
      by_cases e : q = i
      · rw [if_pos e]; exact hja
      · rw [if_neg e]; exact i3 q h1 (by omega)
    have hhi : ∀ q, j - 1 < q → q < b → ¬ at' (sw m0 i j) q < at' (sw m0 i j) a := fun q h1 h2 => by
      rw [ea, sw_at (by omega) (by omega) (by omega) (by omega) (by omega)]
      by_cases e : q = j
      · rw [if_pos e]; exact hia
      · rw [if_neg e, if_neg (by omega)]; exact j3 q (by omega) (by omega)
    rw [w64 (show -9223372036854775808 ≤ i + 1 by omega) (by omega), w64 (show -9223372036854775808 ≤ j - 1 by omega) (by omega)]
    generalize sw m0 i j = m1 at hR1 hlo hhi ⊢
    refine loop_then (fun s => Rg a b l0 s.1 ∧ a + 1 ≤ s.2.1 ∧ s.2.1 ≤ s.2.2 + 1 ∧ s.2.2 < b ∧ (∀ q, a + 1 ≤ q → q < s.2.1 → at' s.1 q < at' s.1 a) ∧ (∀ q, s.2.2 < q → q < b → ¬ at' s.1 q < at' s.1 a)) (fun s => (s.2.2 + 1 - s.2.1).toNat)
      (fun s => Rg a b l0 s.1 ∧ a ≤ s.2 ∧ s.2 < b ∧ (∀ q, a + 1 ≤ q → q ≤ s.2 → at' s.1 q < at' s.1 a) ∧ (∀ q, s.2 < q → q < b → ¬ at' s.1 q < at' s.1 a)) ?_ ?_ ?_
    · rintro ⟨m, u, v⟩ ⟨hR, g1, g2, g3, g4, g5⟩
      dsimp only at hR g1 g2 g3 g4 g5 ⊢
      have hml := hR.len
      refine scanUp m a v u ha (by omega) (by omega) (by omega) (by omega) (by omega) (fun i i1 i2 i3 i4 => ?_)
      refine scanDown m a i v ha (by omega) (by omega) (by omega) (by omega) (by omega) (fun j j1 j2 j3 j4 => ?_)
      have f1 : ∀ q, a + 1 ≤ q → q < i → at' m q < at' m a := fun q h1 h2 => by
        by_cases h : q < u
        · exact g4 q h1 h
        · exact i3 q (by omega) h2
      have f2 : ∀ q, j < q → q < b → ¬ at' m q < at' m a := fun q h1 h2 => by
        by_cases h : q ≤ v
        · exact j3 q h1 h
        · exact g5 q (by omega) h2
      by_cases hij : j < i
      · exact ⟨.inr (m, j), by simp only [hij, decide_true, cond_true], hR, by dsimp only; omega, by dsimp only; omega, fun q h1 h2 => f1 q h1 (by dsimp only at h2; omega), f2⟩
      · have t1 : idx m i = some (at' m i) := idx_at (by omega) (by omega)
        have t2 : idx m j = some (at' m j) := idx_at (by omega) (by omega)
        have t3 : ∀ x, idx (m.set i.toNat x) j = some (at' (m.set i.toNat x) j) := fun x => idx_set_at (by omega) (by omega)
        have hia := i4 (by omega)
        have hja := j4 (by omega)
        have hne : i < j := by
          rcases Int.lt_or_eq_of_le (show i ≤ j by omega) with h | h
          · exact h
          · subst h; exact absurd hja hia
        have ea : at' (sw m i j) a = at' m a := by rw [sw_at (by omega) (by omega) (by omega) (by omega) (by omega), if_neg (by omega), if_neg (by omega)]
        rw [w64 (show -9223372036854775808 ≤ i + 1 by omega) (by omega), w64 (show -9223372036854775808 ≤ j - 1 by omega) (by omega)]
        refine ⟨.inl (sw m i j, i + 1, j - 1), ?_, ⟨hR.trans (Rg.swap ha (by omega) (by omega) (by omega) (by omega) (by omega)), by dsimp only; omega, by dsimp only; omega, by dsimp only; omega, fun q h1 h2 => ?_, fun q h1 h2 => ?_⟩, by dsimp only; omega⟩
        · simp only [t1, t2, t3, hij, decide_false, cond_false, Option.bind_some]
          rfl
        · dsimp only at h2 ⊢
          rw [ea, sw_at (by omega) (by omega) (by omega) (by omega) (by omega), if_neg (by omega)]
          by_cases e : q = i
          · rw [if_pos e]; exact hja
          · rw [if_neg e]; exact f1 q h1 (by omega)
        · dsimp only at h1 ⊢
          rw [ea, sw_at (by omega) (by omega) (by omega) (by omega) (by omega)]
          by_cases e : q = j
          · rw [if_pos e]; exact hia
          · rw [if_neg e, if_neg (by omega)]; exact f2 q (by omega) h2
    · exact ⟨hR1, by dsimp only; omega, by dsimp only; omega, by dsimp only; omega, hlo, hhi⟩
    · rintro ⟨m, v⟩ ⟨hR, g1, g2, g3, g4⟩
      dsimp only at hR g1 g2 g3 g4 ⊢
      have hml := hR.len
      have t1 : idx m a = some (at' m a) := idx_at (by omega) (by omega)
      have t2 : idx m v = some (at' m v) := idx_at (by omega) (by omega)
      have t3 : ∀ x, idx (m.set v.toNat x) a = some (at' (m.set v.toNat x) a) := fun x => idx_set_at (by omega) (by omega)
      refine ⟨(v, false, sw m v a), ?_, ⟨hR.trans (Rg.swap ha (by omega) (by omega) (by omega) (by omega) (by omega)), g1, g2, fun k k1 k2 => ?_, fun k k1 k2 => ?_⟩⟩
      · simp only [t1, t2, t3, Option.bind_some]
        rfl
      · dsimp only at k1 k2 ⊢
        rw [sw_at (by omega) (by omega) (by omega) (by omega) (by omega), sw_at (by omega) (by omega) (by omega) (by omega) (by omega)]
        rw [if_neg (show ¬ v = a by omega), if_pos rfl]
        by_cases e : k = a
        · rw [if_pos e]
          have := g3 v (by omega) (by omega); omega
        · rw [if_neg e, if_neg (by omega)]
          have := g3 k (by omega) (by omega); omega
      · dsimp only at k1 k2 ⊢
        rw [sw_at (by omega) (by omega) (by omega) (by omega) (by omega), sw_at (by omega) (by omega) (by omega) (by omega) (by omega)]
        rw [if_neg (show ¬ k = a by omega), if_neg (show ¬ k = v by omega)]
        have hk := g4 k (by omega) (by omega)
        by_cases e : v = a
        · rw [if_pos e]; subst e; omega
        · rw [if_neg e, if_pos rfl]; omega
end Go.Sx

namespace Go.Sx
/-- up, while the pivot is not less than what is read -/
theorem scanUp2 {β : Type} {k : Int → Option β} {Q : β → Prop} (l : List Int) (a hi i0 : Int) (ha : 0 ≤ a) (ha' : a < l.length) (h0 : 0 ≤ i0) (h1 : i0 ≤ hi + 1) (h2 : hi < l.length) (hlen : l.length ≤ 1000000)
    (hk : ∀ i, i0 ≤ i → i ≤ hi + 1 → (∀ q, i0 ≤ q → q < i → ¬ at' l a < at' l q) → (i ≤ hi → at' l a < at' l i) → ∃ y, k i = some y ∧ Q y) :
    ∃ y, (loopF (σ := Int) (ρ := (Int)) (fun (x : Int) => (cond (decide (x ≤ hi)) ((idx l a).bind fun e => (idx l x).bind fun e' => (D.cmp_Less_int64 e e').bind fun y => some (!y)) (some false)).bind fun b => cond b (some (.inl (IntKind.i64.wrap (x + 1)))) (some (.inr x))) i0).bind k = some y ∧ Q y := by
  refine loop_then (fun i => i0 ≤ i ∧ i ≤ hi + 1 ∧ ∀ q, i0 ≤ q → q < i → ¬ at' l a < at' l q) (fun i => (hi + 1 - i).toNat) (fun i => i0 ≤ i ∧ i ≤ hi + 1 ∧ (∀ q, i0 ≤ q → q < i → ¬ at' l a < at' l q) ∧ (i ≤ hi → at' l a < at' l i)) ?_ ?_ ?_
  · rintro i ⟨g1, g2, g3⟩
    by_cases hi' : i ≤ hi
    · have r1 : idx l i = some (at' l i) := idx_at (by omega) (by omega)
      have r2 : idx l a = some (at' l a) := idx_at (by omega) (by omega)
      by_cases hlt : at' l a < at' l i
      · exact ⟨.inr i, by simp only [r1, r2, hi', less_eq, hlt, decide_true, Bool.not_true, cond_true, cond_false, Option.bind_some], g1, g2, g3, fun _ => hlt⟩
      · refine ⟨.inl (i + 1), ?_, ⟨by omega, by omega, fun q q1 q2 => ?_⟩, by dsimp only; omega⟩
        · simp only [r1, r2, hi', less_eq, hlt, decide_true, decide_false, Bool.not_false, cond_true, Option.bind_some]
          rw [w64 (by omega) (by omega)]
        · by_cases e : q = i
          · rw [e]; exact hlt
          · exact g3 q q1 (by omega)
    · exact ⟨.inr i, by simp only [hi', decide_false, cond_false, Option.bind_some], g1, g2, g3, fun h => absurd h hi'⟩
  · exact ⟨Int.le_refl _, h1, fun q q1 q2 => by omega⟩
  · rintro i ⟨g1, g2, g3, g4⟩
    exact hk i g1 g2 g3 g4

/-- down, while the pivot is less than what is read -/
theorem scanDown2 {β : Type} {k : Int → Option β} {Q : β → Prop} (l : List Int) (a lo j0 : Int) (ha : 0 ≤ a) (ha' : a < l.length) (h0 : 0 ≤ lo) (h1 : lo ≤ j0 + 1) (h2 : j0 < l.length) (hlen : l.length ≤ 1000000)
    (hk : ∀ j, lo ≤ j + 1 → j ≤ j0 → (∀ q, j < q → q ≤ j0 → at' l a < at' l q) → (lo ≤ j → ¬ at' l a < at' l j) → ∃ y, k j = some y ∧ Q y) :
    ∃ y, (loopF (σ := Int) (ρ := (Int)) (fun (x : Int) => (cond (decide (lo ≤ x)) ((idx l a).bind fun e => (idx l x).bind fun e' => (D.cmp_Less_int64 e e').bind fun y => some y) (some false)).bind fun b => cond b (some (.inl (IntKind.i64.wrap (x - 1)))) (some (.inr x))) j0).bind k = some y ∧ Q y := by
  refine loop_then (fun j => lo ≤ j + 1 ∧ j ≤ j0 ∧ ∀ q, j < q → q ≤ j0 → at' l a < at' l q) (fun j => (j + 1 - lo).toNat) (fun j => lo ≤ j + 1 ∧ j ≤ j0 ∧ (∀ q, j < q → q ≤ j0 → at' l a < at' l q) ∧ (lo ≤ j → ¬ at' l a < at' l j)) ?_ ?_ ?_
  · rintro j ⟨g1, g2, g3⟩
    by_cases hi' : lo ≤ j
    · have r1 : idx l j = some (at' l j) := idx_at (by omega) (by omega)
      have r2 : idx l a = some (at' l a) := idx_at (by omega) (by omega)
      by_cases hlt : at' l a < at' l j
      · refine ⟨.inl (j - 1), ?_, ⟨by omega, by omega, fun q q1 q2 => ?_⟩, by dsimp only; omega⟩
        · simp only [r1, r2, hi', less_eq, hlt, decide_true, cond_true, Option.bind_some]
          rw [w64 (by omega) (by omega)]
        · by_cases e : q = j
          · rw [e]; exact hlt
          · exact g3 q (by omega) q2
      · exact ⟨.inr j, by simp only [r1, r2, hi', less_eq, hlt, decide_true, decide_false, cond_true, cond_false, Option.bind_some], g1, g2, g3, fun _ => hlt⟩
    · exact ⟨.inr j, by simp only [hi', decide_false, cond_false, Option.bind_some], g1, g2, g3, fun h => absurd h hi'⟩
  · exact ⟨h1, Int.le_refl _, fun q q1 q2 => by omega⟩
  · rintro j ⟨g1, g2, g3, g4⟩
    exact hk j g1 g2 g3 g4

theorem partitionEqual_spec (l0 : List Int) (a b p : Int) (ha : 0 ≤ a) (hb : b ≤ l0.length) (hlen : l0.length ≤ 1000000) (hp : a ≤ p) (hp' : p < b) :
    ∃ y, D.slices_partitionEqualOrdered_int64 l0 a b p = some y ∧ Rg a b l0 y.2 ∧ a < y.1 ∧ y.1 ≤ b ∧ (∀ k, a ≤ k → k < y.1 → at' y.2 k ≤ at' l0 p) ∧ (∀ k, y.1 ≤ k → k < b → at' l0 p < at' y.2 k) := by
  unfold D.slices_partitionEqualOrdered_int64
  have r1 : idx l0 p = some (at' l0 p) := idx_at (by omega) (by omega)
  have r2 : idx l0 a = some (at' l0 a) := idx_at (by omega) (by omega)
  have r3 : ∀ x, idx (l0.set a.toNat x) p = some (at' (l0.set a.toNat x) p) := fun x => idx_set_at (by omega) (by omega)
  simp only [r1, r2, r3, Option.bind_some]
  rw [show (l0.set a.toNat (at' l0 p)).set p.toNat (at' l0 a) = sw l0 a p from rfl]
  have hR0 : Rg a b l0 (sw l0 a p) := Rg.swap ha hb (by omega) (by omega) hp hp'
  have ep : at' (sw l0 a p) a = at' l0 p := by
    rw [sw_at (by omega) (by omega) (by omega) (by omega) (by omega)]
    by_cases e : a = p
    · rw [if_pos e, e]
    · rw [if_neg e, if_pos rfl]
  generalize sw l0 a p = m0 at hR0 ep ⊢
  rw [w64 (show -9223372036854775808 ≤ b - 1 by omega) (by omega), w64 (show -9223372036854775808 ≤ a + 1 by omega) (by omega)]
  refine loop_then (fun s => Rg a b l0 s.1 ∧ a + 1 ≤ s.2.1 ∧ s.2.1 ≤ s.2.2 + 1 ∧ s.2.2 < b ∧ at' s.1 a = at' l0 p ∧ (∀ q, a + 1 ≤ q → q < s.2.1 → ¬ at' s.1 a < at' s.1 q) ∧ (∀ q, s.2.2 < q → q < b → at' s.1 a < at' s.1 q)) (fun s => (s.2.2 + 1 - s.2.1).toNat)
    (fun s => Rg a b l0 s.1 ∧ a + 1 ≤ s.2 ∧ s.2 ≤ b ∧ at' s.1 a = at' l0 p ∧ (∀ q, a + 1 ≤ q → q < s.2 → ¬ at' s.1 a < at' s.1 q) ∧ (∀ q, s.2 ≤ q → q < b → at' s.1 a < at' s.1 q)) ?_ ?_ ?_
  · rintro ⟨m, u, v⟩ ⟨hR, g1, g2, g3, g6, g4, g5⟩
    dsimp only at hR g1 g2 g3 g4 g5 g6 ⊢
    have hml := hR.len
    refine scanUp2 m a v u ha (by omega) (by omega) (by omega) (by omega) (by omega) (fun i i1 i2 i3 i4 => ?_)
    refine scanDown2 m a i v ha (by omega) (by omega) (by omega) (by omega) (by omega) (fun j j1 j2 j3 j4 => ?_)
    have f1 : ∀ q, a + 1 ≤ q → q < i → ¬ at' m a < at' m q := fun q h1 h2 => by
      by_cases h : q < u
      · exact g4 q h1 h
      · exact i3 q (by omega) h2
    have f2 : ∀ q, j < q → q < b → at' m a < at' m q := fun q h1 h2 => by
      by_cases h : q ≤ v
      · exact j3 q h1 h
      · exact g5 q (by omega) h2
    by_cases hij : j < i
    · exact ⟨.inr (m, i), by simp only [hij, decide_true, cond_true], hR, by dsimp only; omega, by dsimp only; omega, g6, f1, fun q h1 h2 => f2 q (by dsimp only at h1; omega) h2⟩
    · have t1 : idx m i = some (at' m i) := idx_at (by omega) (by omega)
      have t2 : idx m j = some (at' m j) := idx_at (by omega) (by omega)
      have t3 : ∀ x, idx (m.set i.toNat x) j = some (at' (m.set i.toNat x) j) := fun x => idx_set_at (by omega) (by omega)
      have hia := i4 (by omega)
      have hja := j4 (by omega)
      have hne : i < j := by
        rcases Int.lt_or_eq_of_le (show i ≤ j by omega) with h | h
        · exact h
        · subst h; exact absurd hia hja
      have ea : at' (sw m i j) a = at' m a := by rw [sw_at (by omega) (by omega) (by omega) (by omega) (by omega), if_neg (by omega), if_neg (by omega)]
      rw [w64 (show -9223372036854775808 ≤ i + 1 by omega) (by omega), w64 (show -9223372036854775808 ≤ j - 1 by omega) (by omega)]
      refine ⟨.inl (sw m i j, i + 1, j - 1), ?_, ⟨hR.trans (Rg.swap ha (by omega) (by omega) (by omega) (by omega) (by omega)), by dsimp only; omega, by dsimp only; omega, by dsimp only; omega, by dsimp only; rw [ea]; exact g6, fun q h1 h2 => ?_, fun q h1 h2 => ?_⟩, by dsimp only; omega⟩
      · simp only [t1, t2, t3, hij, decide_false, cond_false, Option.bind_some]
        rfl
      · dsimp only at h2 ⊢
        rw [ea, sw_at (by omega) (by omega) (by omega) (by omega) (by omega), if_neg (by omega)]
        by_cases e : q = i
        · rw [if_pos e]; exact hja
        · rw [if_neg e]; exact f1 q h1 (by omega)
      · dsimp only at h1 ⊢
        rw [ea, sw_at (by omega) (by omega) (by omega) (by omega) (by omega)]
        by_cases e : q = j
        · rw [if_pos e]; exact hia
        · rw [if_neg e, if_neg (by omega)]; exact f2 q (by omega) h2
  · exact ⟨hR0, by dsimp only; omega, by dsimp only; omega, by dsimp only; omega, ep, fun q h1 h2 => by dsimp only at h2; omega, fun q h1 h2 => by dsimp only at h1; omega⟩
  · rintro ⟨m, v⟩ ⟨hR, g1, g2, g3, g4, g5⟩
    refine ⟨(v, m), rfl, hR, by dsimp only at *; omega, g2, fun k k1 k2 => ?_, fun k k1 k2 => ?_⟩
    · dsimp only at *
      by_cases e : k = a
      · rw [e, g3]; exact Int.le_refl _
      · have := g4 k (by omega) k2; omega
    · dsimp only at *
      have := g5 k k1 k2; omega

theorem order2_spec (l : List Int) (a b s : Int) (ha : 0 ≤ a) (ha' : a < l.length) (hb : 0 ≤ b) (hb' : b < l.length) :
    ∃ y, D.slices_order2Ordered_int64 l a b s = some y ∧ y.2.2.1 = l ∧ ((y.1 = a ∧ y.2.1 = b) ∨ (y.1 = b ∧ y.2.1 = a)) := by
  have r1 : idx l a = some (at' l a) := idx_at ha ha'
  have r2 : idx l b = some (at' l b) := idx_at hb hb'
  unfold D.slices_order2Ordered_int64
  simp only [r1, r2, less_eq, Option.bind_some]
  by_cases h : at' l b < at' l a
  · simp only [h, decide_true, cond_true]; exact ⟨_, rfl, rfl, .inr ⟨rfl, rfl⟩⟩
  · simp only [h, decide_false, cond_false]; exact ⟨_, rfl, rfl, .inl ⟨rfl, rfl⟩⟩

theorem median_spec (l : List Int) (a b c s : Int) (ha : 0 ≤ a) (ha' : a < l.length) (hb : 0 ≤ b) (hb' : b < l.length) (hc : 0 ≤ c) (hc' : c < l.length) :
    ∃ y, D.slices_medianOrdered_int64 l a b c s = some y ∧ y.2.1 = l ∧ (y.1 = a ∨ y.1 = b ∨ y.1 = c) := by
  unfold D.slices_medianOrdered_int64
  obtain ⟨y1, h1, e1, c1⟩ := order2_spec l a b s ha ha' hb hb'
  rw [h1, Option.bind_some, e1]
  have b1 : 0 ≤ y1.2.1 ∧ y1.2.1 < l.length ∧ 0 ≤ y1.1 ∧ y1.1 < l.length := by rcases c1 with ⟨c, d⟩ | ⟨c, d⟩ <;> rw [c, d] <;> exact ⟨by assumption, by assumption, by assumption, by assumption⟩
  obtain ⟨y2, h2, e2, c2⟩ := order2_spec l y1.2.1 c y1.2.2.2 b1.1 b1.2.1 hc hc'
  rw [h2, Option.bind_some, e2]
  have b2 : 0 ≤ y2.1 ∧ y2.1 < l.length := by rcases c2 with ⟨c, d⟩ | ⟨c, d⟩ <;> rw [c] <;> exact ⟨by omega, by omega⟩
  obtain ⟨y3, h3, e3, c3⟩ := order2_spec l y1.1 y2.1 y2.2.2.2 b1.2.2.1 b1.2.2.2 b2.1 b2.2
  rw [h3, Option.bind_some]
  refine ⟨_, rfl, e3, ?_⟩
  dsimp only
  omega

theorem choosePivot_spec (l : List Int) (a b : Int) (ha : 0 ≤ a) (hb : b ≤ l.length) (h8 : 8 ≤ b - a) (h50 : b - a < 50) (hlen : l.length ≤ 1000000) :
    ∃ y, D.slices_choosePivotOrdered_int64 l a b = some y ∧ y.2.2 = l ∧ a ≤ y.1 ∧ y.1 < b := by
  unfold D.slices_choosePivotOrdered_int64
  rw [w64 (show -9223372036854775808 ≤ b - a by omega) (by omega)]
  have e4 : (b - a).tdiv 4 = (b - a) / 4 := Int.tdiv_eq_ediv_of_nonneg (by omega)
  rw [e4, w64 (show -9223372036854775808 ≤ (b - a) / 4 by omega) (by omega)]
  rw [w64 (show -9223372036854775808 ≤ (b - a) / 4 * 1 by omega) (by omega), w64 (show -9223372036854775808 ≤ (b - a) / 4 * 2 by omega) (by omega), w64 (show -9223372036854775808 ≤ (b - a) / 4 * 3 by omega) (by omega)]
  rw [w64 (show -9223372036854775808 ≤ a + (b - a) / 4 * 1 by omega) (by omega), w64 (show -9223372036854775808 ≤ a + (b - a) / 4 * 2 by omega) (by omega), w64 (show -9223372036854775808 ≤ a + (b - a) / 4 * 3 by omega) (by omega)]
  simp only [h8, show ¬ (50 ≤ b - a) by omega, decide_true, decide_false, cond_true, cond_false, Option.bind_some]
  obtain ⟨y, h1, e1, c1⟩ := median_spec l (a + (b - a) / 4 * 1) (a + (b - a) / 4 * 2) (a + (b - a) / 4 * 3) 0 (by omega) (by omega) (by omega) (by omega) (by omega) (by omega)
  rw [h1, Option.bind_some, e1]
  have hy : a ≤ y.1 ∧ y.1 < b := by omega
  cases (y.2.2 == 0)
  · cases (y.2.2 == 12)
    · exact ⟨_, rfl, rfl, hy⟩
    · exact ⟨_, rfl, rfl, hy⟩
  · exact ⟨_, rfl, rfl, hy⟩

theorem partialInsertion_spec (l : List Int) (a b : Int) (ha : 0 ≤ a) (hab : a < b) (hb : b ≤ l.length) (h50 : b - a < 50) (hlen : l.length ≤ 1000000) :
    ∃ y, D.slices_partialInsertionSortOrdered_int64 l a b = some y ∧ y.2 = l ∧ (y.1 = true → Srt l a b) := by
  unfold D.slices_partialInsertionSortOrdered_int64
  rw [w64 (show -9223372036854775808 ≤ a + 1 by omega) (by omega)]
  refine loop_then (fun s => s = (l, a + 1, 0)) (fun _ => 0) (fun r => ∃ y : Bool × List Int, r = .inr y ∧ y.2 = l ∧ (y.1 = true → Srt l a b)) ?_ rfl ?_
  · rintro s rfl
    dsimp only
    simp only [show ((0 : Int) < 5) from by decide, decide_true, cond_true]
    refine loop_then (fun i => a + 1 ≤ i ∧ i ≤ b ∧ Srt l a i) (fun i => (b - i).toNat) (fun i => a + 1 ≤ i ∧ i ≤ b ∧ Srt l a i) ?_ ?_ ?_
    · rintro i ⟨g1, g2, g3⟩
      by_cases hi : i < b
      · have r1 : idx l i = some (at' l i) := idx_at (by omega) (by omega)
        have r2 : idx l (i - 1) = some (at' l (i - 1)) := idx_at (by omega) (by omega)
        have e1 : IntKind.i64.wrap (i - 1) = i - 1 := w64 (by omega) (by omega)
        by_cases hlt : at' l i < at' l (i - 1)
        · exact ⟨.inr i, by simp only [r1, r2, e1, hi, less_eq, hlt, decide_true, Bool.not_true, cond_true, cond_false, Option.bind_some], g1, g2, g3⟩
        · refine ⟨.inl (i + 1), ?_, ⟨by omega, by omega, fun p q k1 k2 k3 => ?_⟩, by dsimp only; omega⟩
          · simp only [r1, r2, e1, hi, less_eq, hlt, decide_true, decide_false, Bool.not_false, cond_true, Option.bind_some]
            rw [w64 (by omega) (by omega)]
          · by_cases e : q = i
            · subst e
              by_cases e2 : p = q - 1
              · subst e2; omega
              · have := g3 p (q - 1) k1 (by omega) (by omega); omega
            · exact g3 p q k1 k2 (by omega)
      · exact ⟨.inr i, by simp only [hi, decide_false, cond_false, Option.bind_some], g1, g2, g3⟩
    · exact ⟨Int.le_refl _, by omega, fun p q k1 k2 k3 => by omega⟩
    · rintro i ⟨g1, g2, g3⟩
      rw [w64 (show -9223372036854775808 ≤ b - a by omega) (by omega)]
      by_cases he : i = b
      · refine ⟨.inr (.inr (true, l)), ?_, _, rfl, rfl, fun _ => by rw [← he]; exact g3⟩
        have : (i == b) = true := by simp [he]
        simp only [this, cond_true]
      · refine ⟨.inr (.inr (false, l)), ?_, _, rfl, rfl, fun h => by cases h⟩
        have : (i == b) = false := by simp [he]
        simp only [this, h50, decide_true, cond_true, cond_false]
  · rintro r ⟨y, rfl, h1, h2⟩
    exact ⟨y, rfl, h1, h2⟩
end Go.Sx

namespace Go.Sx
theorem iand_small (y m : Int) (h0 : 0 ≤ m) (h1 : m < 4294967296) : 0 ≤ iand .u64 y m ∧ iand .u64 y m ≤ m := by
  unfold iand
  have e : (BitVec.ofInt IntKind.u64.bits y &&& BitVec.ofInt IntKind.u64.bits m).toNat ≤ (BitVec.ofInt IntKind.u64.bits m).toNat := by
    rw [BitVec.toNat_and]; exact Nat.and_le_right
  have e2 : (BitVec.ofInt IntKind.u64.bits m).toNat = m.toNat := by
    rw [BitVec.toNat_ofInt]
    show (m % (2 ^ 64 : Nat)).toNat = m.toNat
    congr 1
    omega
  rw [e2] at e
  generalize (BitVec.ofInt IntKind.u64.bits y &&& BitVec.ofInt IntKind.u64.bits m).toNat = t at e
  have : IntKind.u64.wrap (t : Int) = t := by
    simp only [IntKind.wrap, IntKind.bits, IntKind.signed]
    simp
    omega
  rw [this]
  omega

theorem wu64 {x : Int} (h1 : 0 ≤ x) (h2 : x < 18446744073709551616) : IntKind.u64.wrap x = x := by
  simp only [IntKind.wrap, IntKind.bits, IntKind.signed]
  simp
  omega

theorem pow2_spec (n : Int) (h1 : 8 ≤ n) (h2 : n ≤ 16) : ∃ y, D.slices_nextPowerOfTwo n = some y ∧ n < y ∧ y ≤ 2 * n := by
  unfold D.slices_nextPowerOfTwo
  rw [wu64 (by omega) (by omega)]
  have key : ∀ k : Int, k = 8 ∨ k = 9 ∨ k = 10 ∨ k = 11 ∨ k = 12 ∨ k = 13 ∨ k = 14 ∨ k = 15 ∨ k = 16 → k < ishl .u64 1 (Lib.bitLen k.toNat : Nat) ∧ ishl .u64 1 (Lib.bitLen k.toNat : Nat) ≤ 2 * k := by
    rintro k (rfl | rfl | rfl | rfl | rfl | rfl | rfl | rfl | rfl) <;> decide
  obtain ⟨k1, k2⟩ := key n (by omega)
  refine ⟨_, ?_, k1, k2⟩
  unfold D.math_bits_Len
  rw [if_pos (by omega), Option.bind_some]
  have : decide (((Lib.bitLen n.toNat : Nat) : Int) < 0) = false := by simp
  rw [this]
  rfl

theorem breakPatterns_spec (l0 : List Int) (a b : Int) (ha : 0 ≤ a) (hb : b ≤ l0.length) (h8 : 8 ≤ b - a) (h16 : b - a ≤ 16) (hlen : l0.length ≤ 1000000) :
    ∃ l', D.slices_breakPatternsOrdered_int64 l0 a b = some l' ∧ Rg a b l0 l' := by
  unfold D.slices_breakPatternsOrdered_int64
  rw [w64 (show -9223372036854775808 ≤ b - a by omega) (by omega)]
  have e4 : (b - a).tdiv 4 = (b - a) / 4 := Int.tdiv_eq_ediv_of_nonneg (by omega)
  rw [e4, w64 (show -9223372036854775808 ≤ (b - a) / 4 by omega) (by omega)]
  rw [w64 (show -9223372036854775808 ≤ (b - a) / 4 * 2 by omega) (by omega)]
  rw [w64 (show -9223372036854775808 ≤ a + (b - a) / 4 * 2 by omega) (by omega)]
  rw [w64 (show -9223372036854775808 ≤ a + (b - a) / 4 * 2 + 1 by omega) (by omega), w64 (show -9223372036854775808 ≤ a + (b - a) / 4 * 2 - 1 by omega) (by omega)]
  simp only [h8, decide_true, cond_true]
  obtain ⟨y, hy, g1, g2⟩ := pow2_spec (b - a) h8 h16
  rw [hy, Option.bind_some, wu64 (show 0 ≤ y - 1 by omega) (by omega)]
  refine loop_then (fun s => Rg a b l0 s.1 ∧ a + (b - a) / 4 * 2 - 1 ≤ s.2.1 ∧ s.2.1 ≤ a + (b - a) / 4 * 2 + 2) (fun s => (a + (b - a) / 4 * 2 + 2 - s.2.1).toNat) (fun r => Rg a b l0 r) ?_ ?_ ?_
  · rintro ⟨l, i, z⟩ ⟨hR, k1, k2⟩
    dsimp only at hR k1 k2 ⊢
    have hll := hR.len
    by_cases hi : i ≤ a + (b - a) / 4 * 2 + 1
    · simp only [hi, decide_true, cond_true, D.slices_xorshift_Next, Option.bind_some]
      obtain ⟨t1, t2⟩ := iand_small (ixor .u64 (ixor .u64 (ixor .u64 z (ishl .u64 z 13)) (ishr .u64 (ixor .u64 z (ishl .u64 z 13)) 7)) (ishl .u64 (ixor .u64 (ixor .u64 z (ishl .u64 z 13)) (ishr .u64 (ixor .u64 z (ishl .u64 z 13)) 7)) 17)) (y - 1) (by omega) (by omega)
      revert t1 t2
      generalize iand .u64 (ixor .u64 (ixor .u64 (ixor .u64 z (ishl .u64 z 13)) (ishr .u64 (ixor .u64 z (ishl .u64 z 13)) 7)) (ishl .u64 (ixor .u64 (ixor .u64 z (ishl .u64 z 13)) (ishr .u64 (ixor .u64 z (ishl .u64 z 13)) 7)) 17)) (y - 1) = t
      generalize (ixor .u64 (ixor .u64 (ixor .u64 z (ishl .u64 z 13)) (ishr .u64 (ixor .u64 z (ishl .u64 z 13)) 7)) (ishl .u64 (ixor .u64 (ixor .u64 z (ishl .u64 z 13)) (ishr .u64 (ixor .u64 z (ishl .u64 z 13)) 7)) 17)) = z'
      intro t1 t2
      rw [w64 (show -9223372036854775808 ≤ t by omega) (by omega), w64 (show -9223372036854775808 ≤ t - (b - a) by omega) (by omega)]
      have hc : ∃ o, (bif decide (b - a ≤ t) then some (t - (b - a)) else some t) = some o ∧ 0 ≤ o ∧ o < b - a := by
        by_cases h : b - a ≤ t
        · exact ⟨t - (b - a), by simp [h], by omega, by omega⟩
        · exact ⟨t, by simp [h], by omega, by omega⟩
      obtain ⟨o, ho, o1, o2⟩ := hc
      rw [ho, Option.bind_some, w64 (show -9223372036854775808 ≤ a + o by omega) (by omega), w64 (show -9223372036854775808 ≤ i + 1 by omega) (by omega)]
      have r1 : idx l i = some (at' l i) := idx_at (by omega) (by omega)
      have r2 : idx l (a + o) = some (at' l (a + o)) := idx_at (by omega) (by omega)
      have r3 : ∀ x, idx (l.set i.toNat x) (a + o) = some (at' (l.set i.toNat x) (a + o)) := fun x => idx_set_at (by omega) (by omega)
      refine ⟨.inl (sw l i (a + o), i + 1, z'), ?_, ⟨hR.trans (Rg.swap ha (by omega) (by omega) (by omega) (by omega) (by omega)), by dsimp only; omega, by dsimp only; omega⟩, by dsimp only; omega⟩
      simp only [r1, r2, r3, Option.bind_some]
      rfl
    · exact ⟨.inr l, by simp only [hi, decide_false, cond_false], hR⟩
  · exact ⟨Rg.refl _ _ _, by dsimp only; omega, by dsimp only; omega⟩
  · rintro r hr
    exact ⟨r, rfl, hr⟩
end Go.Sx

/- The steps of a sort that stir: partial insertion, broken patterns. Plain. -/
namespace Go.Sx.Gs
variable {α : Type} [Srtd α]
theorem partialInsertion_spec (l0 : List α) (hG : Good l0) (a b : Int) (ha : 0 ≤ a) (hab : a < b) (hb : b ≤ l0.length) (hlen : l0.length ≤ 1000000)
    (hpre : 0 < a → ∀ k, a ≤ k → k < b → at' l0 (a - 1) ≤ at' l0 k) :
    ∃ y, DG.partialInsertionSort Srtd.cmp l0 a b = some y ∧ Rg a b l0 y.2 ∧ (y.1 = true → Srt y.2 a b) := by
  unfold DG.partialInsertionSort
  rw [w64 (show -9223372036854775808 ≤ a + 1 by omega) (by omega), w64 (show -9223372036854775808 ≤ b - a by omega) (by omega)]
  refine loop_then (fun s => Rg a b l0 s.1 ∧ a + 1 ≤ s.2.1 ∧ s.2.1 ≤ b ∧ Srt s.1 a s.2.1 ∧ 0 ≤ s.2.2 ∧ s.2.2 ≤ 5) (fun s => (5 - s.2.2).toNat)
    (fun r => match r with | .inl l => Rg a b l0 l | .inr y => Rg a b l0 y.2 ∧ (y.1 = true → Srt y.2 a b)) ?_ ⟨Rg.refl _ _ _, by dsimp only; omega, by dsimp only; omega, fun p q k1 k2 k3 => by dsimp only at k3; omega, by dsimp only; omega, by dsimp only; omega⟩ ?_
  · rintro ⟨l, i, j⟩ ⟨hR, g1, g2, g3, g4, g5⟩
    dsimp only at hR g1 g2 g3 g4 g5 ⊢
    have hll := hR.len
    by_cases hj : j < 5
    · simp only [hj, decide_true, cond_true]
      refine loop_then (fun i => a + 1 ≤ i ∧ i ≤ b ∧ Srt l a i) (fun i => (b - i).toNat) (fun i => a + 1 ≤ i ∧ i ≤ b ∧ Srt l a i ∧ (i < b → at' l i < at' l (i - 1))) ?_ ⟨g1, g2, g3⟩ ?_
      · rintro i ⟨g1, g2, g3⟩
        by_cases hi : i < b
        · have r1 : idx l i = some (el l i) := idx_at (by omega) (by omega)
          have r2 : idx l (i - 1) = some (el l (i - 1)) := idx_at (by omega) (by omega)
          have e1 : IntKind.i64.wrap (i - 1) = i - 1 := w64 (by omega) (by omega)
          obtain ⟨v, cv, hv⟩ := cmp_at (hR.good hG) (i := i) (j := i - 1) (by omega) (by omega) (by omega) (by omega)
          by_cases hlt : at' l i < at' l (i - 1)
          · exact ⟨.inr i, by simp only [r1, r2, e1, hi, cv, hv, hlt, decide_true, Bool.not_true, cond_true, cond_false, Option.bind_some], g1, g2, g3, fun _ => hlt⟩
          · refine ⟨.inl (i + 1), ?_, ⟨by omega, by omega, fun p q k1 k2 k3 => ?_⟩, by dsimp only; omega⟩
            · simp only [r1, r2, e1, hi, cv, hv, hlt, decide_true, decide_false, Bool.not_false, cond_true, Option.bind_some]
              rw [w64 (by omega) (by omega)]
            · by_cases e : q = i
              · subst e
                by_cases e2 : p = q - 1
                · subst e2; omega
                · have := g3 p (q - 1) k1 (by omega) (by omega); omega
              · exact g3 p q k1 k2 (by omega)
        · exact ⟨.inr i, by simp only [hi, decide_false, cond_false, Option.bind_some], g1, g2, g3, fun h => absurd h hi⟩
      · rintro i ⟨g1, g2, g3, g6⟩
        by_cases he : i = b
        · have : (i == b) = true := by simp [he]
          simp only [this, cond_true]
          exact ⟨_, rfl, hR, fun _ => by rw [← he]; exact g3⟩
        · have : (i == b) = false := by simp [he]
          simp only [this, cond_false]
          by_cases h50 : b - a < 50
          · simp only [h50, decide_true, cond_true]
            exact ⟨_, rfl, hR, fun h => by cases h⟩
          · simp only [h50, decide_false, cond_false]
            have hib : i < b := by omega
            have hlt := g6 hib
            have e1 : IntKind.i64.wrap (i - 1) = i - 1 := w64 (by omega) (by omega)
            have r1 : idx l i = some (el l i) := idx_at (by omega) (by omega)
            have r2 : idx l (i - 1) = some (el l (i - 1)) := idx_at (by omega) (by omega)
            have r3 : ∀ x, idx (l.set i.toNat x) (i - 1) = some (el (l.set i.toNat x) (i - 1)) := fun x => idx_set_at (by omega) (by omega)
            simp only [e1, r1, r2, r3, Option.bind_some]
            rw [show (l.set i.toNat (el l (i - 1))).set (i - 1).toNat (el l i) = sw l i (i - 1) from rfl]
            have hR1 : Rg a b l0 (sw l i (i - 1)) := hR.trans (Rg.swap ha (by omega) (by omega) (by omega) (by omega) (by omega))
            -- the first part is in order but for its last one
            have hS1 : ∀ p q, a ≤ p → p < q → q ≤ i - 1 → q ≠ i - 1 → at' (sw l i (i - 1)) p ≤ at' (sw l i (i - 1)) q := fun p q k1 k2 k3 k4 => by
              rw [sw_at (by omega) (by omega) (by omega) (by omega) (by omega), sw_at (by omega) (by omega) (by omega) (by omega) (by omega)]
              rw [if_neg (by omega), if_neg (by omega), if_neg (by omega), if_neg (by omega)]
              exact g3 p q k1 k2 (by omega)
            generalize sw l i (i - 1) = m at hR1 hS1 ⊢
            have hml := hR1.len
            have hpre' : ∀ m', Rg a b l0 m' → 0 < a → ∀ k, a ≤ k → k < b → at' m' (a - 1) ≤ at' m' k := fun m' hr h0 k k1 k2 => by
              rw [hr.out (a - 1) (by omega) (.inl (by omega))]
              exact hr.all (fun x => at' l0 (a - 1) ≤ x) (hpre h0) k k1 k2
            rw [w64 (show -9223372036854775808 ≤ i - a by omega) (by omega), w64 (show -9223372036854775808 ≤ b - i by omega) (by omega), w64 (show -9223372036854775808 ≤ i + 1 by omega) (by omega), w64 (show -9223372036854775808 ≤ j + 1 by omega) (by omega)]
            refine bind_then (fun m => Rg a b l0 m ∧ Srt m a i) ?_ ?_
            · by_cases h2 : 2 ≤ i - a
              · simp only [h2, decide_true, cond_true]
                refine loop_then (fun s => Rg a b l0 s.1 ∧ a ≤ s.2 ∧ s.2 ≤ i - 1 ∧ ∀ p q, a ≤ p → p < q → q ≤ i - 1 → q ≠ s.2 → at' s.1 p ≤ at' s.1 q) (fun s => s.2.toNat) (fun r => Rg a b l0 r ∧ Srt r a i) ?_ ⟨hR1, by dsimp only; omega, Int.le_refl _, hS1⟩ (fun r hr => ⟨r, rfl, hr⟩)
                rintro ⟨m, j⟩ ⟨hR', q1, q2, hS'⟩
                dsimp only at hR' q1 q2 hS' ⊢
                have hml := hR'.len
                by_cases hj1 : 1 ≤ j
                · have f1 : idx m j = some (el m j) := idx_at (by omega) (by omega)
                  have f2 : idx m (j - 1) = some (el m (j - 1)) := idx_at (by omega) (by omega)
                  have f3 : ∀ x, idx (m.set j.toNat x) (j - 1) = some (el (m.set j.toNat x) (j - 1)) := fun x => idx_set_at (by omega) (by omega)
                  have e2 : IntKind.i64.wrap (j - 1) = j - 1 := w64 (by omega) (by omega)
                  obtain ⟨v, cv, hv⟩ := cmp_at (hR'.good hG) (i := j) (j := j - 1) (by omega) (by omega) (by omega) (by omega)
                  by_cases hlt : at' m j < at' m (j - 1)
                  · have hja : a < j := by
                      rcases Int.lt_or_eq_of_le q1 with h | h
                      · exact h
                      · subst h
                        have := hpre' m hR' (by omega) a (Int.le_refl _) hab
                        omega
                    refine ⟨.inl (sw m j (j - 1), j - 1), ?_, ⟨hR'.trans (Rg.swap ha (by omega) (by omega) (by omega) (by omega) (by omega)), by dsimp only; omega, by dsimp only; omega, ?_⟩, by dsimp only; omega⟩
                    · simp only [hj1, decide_true, cond_true, e2, f1, f2, f3, cv, hv, hlt, Bool.not_true, cond_false, Option.bind_some]
                      rfl
                    · intro p q k1 k2 k3 k4
                      dsimp only at k4 ⊢
                      rw [sw_at (by omega) (by omega) (by omega) (by omega) (by omega), sw_at (by omega) (by omega) (by omega) (by omega) (by omega)]
                      by_cases c1 : q = j
                      · subst c1
                        rw [if_neg (show ¬ q = q - 1 by omega), if_pos rfl]
                        by_cases c2 : p = q - 1
                        · rw [if_pos c2]; omega
                        · rw [if_neg c2, if_neg (by omega)]
                          exact hS' p (q - 1) k1 (by omega) (by omega) (by omega)
                      · rw [if_neg (show ¬ q = j - 1 by omega), if_neg c1]
                        by_cases c2 : p = j - 1
                        · rw [if_pos c2]
                          exact hS' j q (by omega) (by omega) k3 c1
                        · rw [if_neg c2]
                          by_cases c3 : p = j
                          · rw [if_pos c3]
                            exact hS' (j - 1) q (by omega) (by omega) k3 c1
                          · rw [if_neg c3]
                            exact hS' p q k1 k2 k3 c1
                  · refine ⟨.inr m, ?_, hR', ?_⟩
                    · simp only [hj1, decide_true, cond_true, e2, f1, f2, cv, hv, hlt, decide_false, Bool.not_false, Option.bind_some]
                    · intro p q k1 k2 k3
                      by_cases c1 : q = j
                      · subst c1
                        by_cases c2 : p = q - 1
                        · subst c2; omega
                        · have := hS' p (q - 1) k1 (by omega) (by omega) (by omega)
                          omega
                      · exact hS' p q k1 k2 (by omega) c1
                · refine ⟨.inr m, ?_, hR', ?_⟩
                  · simp only [hj1, decide_false, cond_false]
                  · intro p q k1 k2 k3
                    exact hS' p q k1 k2 (by omega) (by omega)
              · simp only [h2, decide_false, cond_false]
                exact ⟨_, rfl, hR1, fun p q k1 k2 k3 => by omega⟩
            · rintro m1 ⟨hR2, hS2⟩
              have hm1 := hR2.len
              by_cases h2 : 2 ≤ b - i
              · simp only [h2, decide_true, cond_true]
                refine loop_then (fun s => Rg a b l0 s.1 ∧ Srt s.1 a i ∧ i + 1 ≤ s.2 ∧ s.2 ≤ b) (fun s => (b - s.2).toNat) (fun r => Rg a b l0 r ∧ Srt r a i) ?_ ⟨hR2, hS2, by dsimp only; omega, by dsimp only; omega⟩ ?_
                · rintro ⟨m, q⟩ ⟨hR', hS', q1, q2⟩
                  dsimp only at hR' hS' q1 q2 ⊢
                  have hml := hR'.len
                  by_cases hq : q < b
                  · have f1 : idx m q = some (el m q) := idx_at (by omega) (by omega)
                    have f2 : idx m (q - 1) = some (el m (q - 1)) := idx_at (by omega) (by omega)
                    have f3 : ∀ x, idx (m.set q.toNat x) (q - 1) = some (el (m.set q.toNat x) (q - 1)) := fun x => idx_set_at (by omega) (by omega)
                    have e2 : IntKind.i64.wrap (q - 1) = q - 1 := w64 (by omega) (by omega)
                    have e3 : IntKind.i64.wrap (q + 1) = q + 1 := w64 (by omega) (by omega)
                    obtain ⟨v, cv, hv⟩ := cmp_at (hR'.good hG) (i := q) (j := q - 1) (by omega) (by omega) (by omega) (by omega)
                    by_cases hlt : at' m q < at' m (q - 1)
                    · refine ⟨.inl (sw m q (q - 1), q + 1), ?_, ⟨hR'.trans (Rg.swap ha (by omega) (by omega) (by omega) (by omega) (by omega)), fun p r k1 k2 k3 => ?_, by dsimp only; omega, by dsimp only; omega⟩, by dsimp only; omega⟩
                      · simp only [hq, decide_true, cond_true, e2, e3, f1, f2, f3, cv, hv, hlt, Bool.not_true, cond_false, Option.bind_some]
                        rfl
                      · dsimp only
                        rw [sw_at (by omega) (by omega) (by omega) (by omega) (by omega), sw_at (by omega) (by omega) (by omega) (by omega) (by omega)]
                        rw [if_neg (by omega), if_neg (by omega), if_neg (by omega), if_neg (by omega)]
                        exact hS' p r k1 k2 k3
                    · refine ⟨.inr m, ?_, hR', hS'⟩
                      simp only [hq, decide_true, cond_true, e2, f1, f2, cv, hv, hlt, decide_false, Bool.not_false, Option.bind_some]
                  · exact ⟨.inr m, by simp only [hq, decide_false, cond_false], hR', hS'⟩
                · rintro m2 ⟨hR3, hS3⟩
                  exact ⟨_, rfl, ⟨hR3, g1, g2, hS3, by dsimp only; omega, by dsimp only; omega⟩, by dsimp only; omega⟩
              · simp only [h2, decide_false, cond_false]
                exact ⟨_, rfl, ⟨hR2, g1, g2, hS2, by dsimp only; omega, by dsimp only; omega⟩, by dsimp only; omega⟩
    · simp only [hj, decide_false, cond_false]
      exact ⟨_, rfl, hR⟩
  · rintro (l | y) h
    · exact ⟨_, rfl, h, fun h => by cases h⟩
    · exact ⟨_, rfl, h⟩

theorem bitLen_spec : ∀ x : Nat, 1 ≤ x → x < 2 ^ 64 → x < 2 ^ (Lib.bitLen x) ∧ 2 ^ (Lib.bitLen x) ≤ 2 * x := by
  intro x
  induction x using Nat.strongRecOn with
  | ind x ih =>
    intro h1 h2
    rw [Lib.bitLen_half x (by omega) h2]
    by_cases h : x = 1
    · subst h; decide
    · obtain ⟨a, b⟩ := ih (x / 2) (by omega) (by omega) (by omega)
      rw [Nat.add_comm, Nat.pow_succ]
      generalize 2 ^ Lib.bitLen (x / 2) = p at a b
      omega
theorem pow2_spec (n : Int) (h1 : 8 ≤ n) (h2 : n ≤ 1000000) : ∃ y, D.slices_nextPowerOfTwo n = some y ∧ n < y ∧ y ≤ 2 * n := by
  obtain ⟨m, rfl⟩ : ∃ m : Nat, n = (m : Int) := ⟨n.toNat, by omega⟩
  obtain ⟨k1, k2⟩ := bitLen_spec m (by omega) (by omega)
  have hb : Lib.bitLen m < 22 := by
    apply Classical.byContradiction
    intro hc
    have : 2 ^ 22 ≤ 2 ^ Lib.bitLen m := Nat.pow_le_pow_right (by omega) (by omega)
    omega
  unfold D.slices_nextPowerOfTwo
  rw [wu64 (by omega) (by omega)]
  unfold D.math_bits_Len
  rw [if_pos (by omega), Option.bind_some]
  have : decide (((Lib.bitLen m : Nat) : Int) < 0) = false := by simp
  rw [Int.toNat_natCast, this, cond_false]
  have e : ishl .u64 1 ((Lib.bitLen m : Nat) : Int) = ((2 ^ Lib.bitLen m : Nat) : Int) := by
    show IntKind.u64.wrap (1 * 2 ^ (min (((Lib.bitLen m : Nat) : Int)).toNat 64)) = _
    rw [Int.toNat_natCast, show min (Lib.bitLen m) 64 = Lib.bitLen m by omega, Int.one_mul]
    have e' : ((2 ^ Lib.bitLen m : Nat) : Int) = (2 : Int) ^ Lib.bitLen m := by simp
    rw [← e', wu64 (by omega) (by omega)]
  rw [e]
  exact ⟨_, rfl, by omega, by omega⟩

theorem breakPatterns_spec (l0 : List α) (a b : Int) (ha : 0 ≤ a) (hb : b ≤ l0.length) (h8 : 8 ≤ b - a) (hlen : l0.length ≤ 1000000) :
    ∃ l', DG.breakPatterns Srtd.cmp l0 a b = some l' ∧ Rg a b l0 l' := by
  unfold DG.breakPatterns
  rw [w64 (show -9223372036854775808 ≤ b - a by omega) (by omega)]
  have e4 : (b - a).tdiv 4 = (b - a) / 4 := Int.tdiv_eq_ediv_of_nonneg (by omega)
  rw [e4, w64 (show -9223372036854775808 ≤ (b - a) / 4 by omega) (by omega)]
  rw [w64 (show -9223372036854775808 ≤ (b - a) / 4 * 2 by omega) (by omega)]
  rw [w64 (show -9223372036854775808 ≤ a + (b - a) / 4 * 2 by omega) (by omega)]
  rw [w64 (show -9223372036854775808 ≤ a + (b - a) / 4 * 2 + 1 by omega) (by omega), w64 (show -9223372036854775808 ≤ a + (b - a) / 4 * 2 - 1 by omega) (by omega)]
  simp only [h8, decide_true, cond_true]
  obtain ⟨y, hy, g1, g2⟩ := pow2_spec (b - a) h8 (by omega)
  rw [hy, Option.bind_some, wu64 (show 0 ≤ y - 1 by omega) (by omega)]
  refine loop_then (fun s => Rg a b l0 s.1 ∧ a + (b - a) / 4 * 2 - 1 ≤ s.2.1 ∧ s.2.1 ≤ a + (b - a) / 4 * 2 + 2) (fun s => (a + (b - a) / 4 * 2 + 2 - s.2.1).toNat) (fun r => Rg a b l0 r) ?_ ?_ ?_
  · rintro ⟨l, i, z⟩ ⟨hR, k1, k2⟩
    dsimp only at hR k1 k2 ⊢
    have hll := hR.len
    by_cases hi : i ≤ a + (b - a) / 4 * 2 + 1
    · simp only [hi, decide_true, cond_true, D.slices_xorshift_Next, Option.bind_some]
      obtain ⟨t1, t2⟩ := iand_small (ixor .u64 (ixor .u64 (ixor .u64 z (ishl .u64 z 13)) (ishr .u64 (ixor .u64 z (ishl .u64 z 13)) 7)) (ishl .u64 (ixor .u64 (ixor .u64 z (ishl .u64 z 13)) (ishr .u64 (ixor .u64 z (ishl .u64 z 13)) 7)) 17)) (y - 1) (by omega) (by omega)
      revert t1 t2
      generalize iand .u64 (ixor .u64 (ixor .u64 (ixor .u64 z (ishl .u64 z 13)) (ishr .u64 (ixor .u64 z (ishl .u64 z 13)) 7)) (ishl .u64 (ixor .u64 (ixor .u64 z (ishl .u64 z 13)) (ishr .u64 (ixor .u64 z (ishl .u64 z 13)) 7)) 17)) (y - 1) = t
      generalize (ixor .u64 (ixor .u64 (ixor .u64 z (ishl .u64 z 13)) (ishr .u64 (ixor .u64 z (ishl .u64 z 13)) 7)) (ishl .u64 (ixor .u64 (ixor .u64 z (ishl .u64 z 13)) (ishr .u64 (ixor .u64 z (ishl .u64 z 13)) 7)) 17)) = z'
      intro t1 t2
      rw [w64 (show -9223372036854775808 ≤ t by omega) (by omega), w64 (show -9223372036854775808 ≤ t - (b - a) by omega) (by omega)]
      have hc : ∃ o, (bif decide (b - a ≤ t) then some (t - (b - a)) else some t) = some o ∧ 0 ≤ o ∧ o < b - a := by
        by_cases h : b - a ≤ t
        · exact ⟨t - (b - a), by simp [h], by omega, by omega⟩
        · exact ⟨t, by simp [h], by omega, by omega⟩
      obtain ⟨o, ho, o1, o2⟩ := hc
      rw [ho, Option.bind_some, w64 (show -9223372036854775808 ≤ a + o by omega) (by omega), w64 (show -9223372036854775808 ≤ i + 1 by omega) (by omega)]
      have r1 : idx l i = some (el l i) := idx_at (by omega) (by omega)
      have r2 : idx l (a + o) = some (el l (a + o)) := idx_at (by omega) (by omega)
      have r3 : ∀ x, idx (l.set i.toNat x) (a + o) = some (el (l.set i.toNat x) (a + o)) := fun x => idx_set_at (by omega) (by omega)
      refine ⟨.inl (sw l i (a + o), i + 1, z'), ?_, ⟨hR.trans (Rg.swap ha (by omega) (by omega) (by omega) (by omega) (by omega)), by dsimp only; omega, by dsimp only; omega⟩, by dsimp only; omega⟩
      simp only [r1, r2, r3, Option.bind_some]
      rfl
    · exact ⟨.inr l, by simp only [hi, decide_false, cond_false], hR⟩
  · exact ⟨Rg.refl _ _ _, by dsimp only; omega, by dsimp only; omega⟩
  · rintro r hr
    exact ⟨r, rfl, hr⟩
end Go.Sx.Gs

/- Heap sort. Plain. -/
namespace Go.Sx.Gs
variable {α : Type} [Srtd α]
def kid (i c : Int) : Prop := c = 2 * i + 1 ∨ c = 2 * i + 2
theorem siftDown_spec (l0 : List α) (hG : Good l0) (lo hi f : Int) (h0 : 0 ≤ lo) (hf : 0 ≤ f) (hlh : lo ≤ hi) (hb : f + hi ≤ l0.length) (hlen : l0.length ≤ 1000000)
    (hH : ∀ i c, lo < i → kid i c → c < hi → at' l0 (f + c) ≤ at' l0 (f + i)) :
    ∃ l', DG.siftDown Srtd.cmp l0 lo hi f = some l' ∧ Rg (f + lo) (f + hi) l0 l' ∧ ∀ i c, lo ≤ i → kid i c → c < hi → at' l' (f + c) ≤ at' l' (f + i) := by
  unfold DG.siftDown
  refine loop_then (fun s => Rg (f + lo) (f + hi) l0 s.1 ∧ lo ≤ s.2 ∧ s.2 ≤ hi ∧ (∀ i c, lo ≤ i → i ≠ s.2 → kid i c → c < hi → at' s.1 (f + c) ≤ at' s.1 (f + i)) ∧ (∀ p c, lo ≤ p → kid p s.2 → kid s.2 c → c < hi → at' s.1 (f + c) ≤ at' s.1 (f + p)))
    (fun s => (hi - s.2).toNat)
    (fun r => match r with | .inl l' => Rg (f + lo) (f + hi) l0 l' ∧ ∀ i c, lo ≤ i → kid i c → c < hi → at' l' (f + c) ≤ at' l' (f + i) | .inr l' => Rg (f + lo) (f + hi) l0 l' ∧ ∀ i c, lo ≤ i → kid i c → c < hi → at' l' (f + c) ≤ at' l' (f + i)) ?_
    ⟨Rg.refl _ _ _, Int.le_refl _, hlh, fun i c h1 h2 h3 h4 => hH i c (by dsimp only at h2; omega) h3 h4, fun p c h1 h2 h3 h4 => by unfold kid at h2; dsimp only at h2; omega⟩ ?_
  · rintro ⟨l, r⟩ ⟨hR, g1, g2, g3, g4⟩
    dsimp only at hR g1 g2 g3 g4 ⊢
    have hll := hR.len
    rw [w64 (show -9223372036854775808 ≤ 2 * r by omega) (by omega), w64 (show -9223372036854775808 ≤ 2 * r + 1 by omega) (by omega)]
    rw [w64 (show -9223372036854775808 ≤ 2 * r + 1 + 1 by omega) (by omega), w64 (show -9223372036854775808 ≤ f + (2 * r + 1) by omega) (by omega), w64 (show -9223372036854775808 ≤ f + (2 * r + 1) + 1 by omega) (by omega), w64 (show -9223372036854775808 ≤ f + r by omega) (by omega)]
    by_cases hc : hi ≤ 2 * r + 1
    · simp only [hc, decide_true, cond_true]
      refine ⟨_, rfl, hR, fun i c h1 h2 h3 => ?_⟩
      by_cases e : i = r
      · subst e; unfold kid at h2; omega
      · exact g3 i c h1 e h2 h3
    · simp only [hc, decide_false, cond_false]
      -- the greater child
      refine bind_then (fun b : Bool => (b = true → 2 * r + 2 < hi ∧ at' l (f + (2 * r + 1)) < at' l (f + (2 * r + 2))) ∧ (b = false → 2 * r + 2 < hi → at' l (f + (2 * r + 2)) ≤ at' l (f + (2 * r + 1)))) ?_ ?_
      · by_cases h2 : 2 * r + 1 + 1 < hi
        · have r1 : idx l (f + (2 * r + 1)) = some (el l (f + (2 * r + 1))) := idx_at (by omega) (by omega)
          have r2 : idx l (f + (2 * r + 1) + 1) = some (el l (f + (2 * r + 1) + 1)) := idx_at (by omega) (by omega)
          obtain ⟨v, cv, hv⟩ := cmp_at (hR.good hG) (i := f + (2 * r + 1)) (j := f + (2 * r + 1) + 1) (by omega) (by omega) (by omega) (by omega)
          simp only [h2, decide_true, cond_true, r1, r2, cv, hv, Option.bind_some]
          rw [show f + (2 * r + 1) + 1 = f + (2 * r + 2) by omega]
          refine ⟨_, rfl, fun h => ⟨by omega, of_decide_eq_true h⟩, fun h _ => ?_⟩
          have := of_decide_eq_false h
          omega
        · simp only [h2, decide_false, cond_false]
          exact ⟨_, rfl, (fun h => by cases h), (fun _ h => by omega)⟩
      · rintro b ⟨hbb, hbf⟩
        -- which child, and that it is the greater one
        have hch : ∃ c, (bif b then some (2 * r + 1 + 1) else some (2 * r + 1)) = some c ∧ (b = true → c = 2 * r + 2) ∧ (b = false → c = 2 * r + 1) := by
          cases b
          · exact ⟨2 * r + 1, rfl, by simp, by simp⟩
          · exact ⟨2 * r + 2, by simp; omega, by simp, by simp⟩
        obtain ⟨c, ec, c1, c2⟩ := hch
        have hkc : kid r c := by unfold kid; cases b <;> simp at c1 c2 <;> omega
        have hchi : c < hi := by
          cases b
          · have := c2 rfl; omega
          · have := c1 rfl; have := hbb rfl; omega
        rw [ec, Option.bind_some, w64 (show -9223372036854775808 ≤ f + c by unfold kid at hkc; omega) (by omega)]
        have hcr : r < c := by unfold kid at hkc; omega
        have t1 : idx l (f + r) = some (el l (f + r)) := idx_at (by omega) (by omega)
        have t2 : idx l (f + c) = some (el l (f + c)) := idx_at (by omega) (by omega)
        have t3 : ∀ x, idx (l.set (f + r).toNat x) (f + c) = some (el (l.set (f + r).toNat x) (f + c)) := fun x => idx_set_at (by omega) (by omega)
        obtain ⟨v, cv, hv⟩ := cmp_at (hR.good hG) (i := f + r) (j := f + c) (by omega) (by omega) (by omega) (by omega)
        have hbest : ∀ d, kid r d → d < hi → at' l (f + d) ≤ at' l (f + c) := fun d hd hdh => by
          cases b
          · have e := c2 rfl
            subst e
            rcases hd with rfl | rfl
            · exact Int.le_refl _
            · exact hbf rfl hdh
          · have e := c1 rfl
            subst e
            rcases hd with rfl | rfl
            · have := (hbb rfl).2; omega
            · exact Int.le_refl _
        by_cases hlt : at' l (f + r) < at' l (f + c)
        · refine ⟨.inl (sw l (f + r) (f + c), c), ?_, ⟨hR.trans (Rg.swap (by omega) (by omega) (by omega) (by omega) (by omega) (by omega)), by dsimp only; omega, by dsimp only; omega, fun i d h1 h2 h3 h4 => ?_, fun p d h1 h2 h3 h4 => ?_⟩, by dsimp only; omega⟩
          · simp only [t1, t2, t3, cv, hv, hlt, decide_true, Bool.not_true, cond_false, Option.bind_some]
            rfl
          · dsimp only at h2 ⊢
            have hd0 : i < d := by unfold kid at h3; omega
            rw [sw_at (by omega) (by omega) (by omega) (by omega) (by omega), sw_at (by omega) (by omega) (by omega) (by omega) (by omega)]
            rw [if_neg (show ¬ f + i = f + c by omega)]
            by_cases e : i = r
            · subst e
              rw [if_pos rfl]
              by_cases e2 : d = c
              · subst e2; rw [if_pos rfl]; omega
              · rw [if_neg (show ¬ f + d = f + c by omega), if_neg (show ¬ f + d = f + i by omega)]
                exact hbest d h3 h4
            · rw [if_neg (show ¬ f + i = f + r by omega)]
              have e2 : d ≠ c := fun e2 => by subst e2; unfold kid at h3 hkc; omega
              rw [if_neg (show ¬ f + d = f + c by omega)]
              by_cases e3 : d = r
              · subst e3
                rw [if_pos rfl]
                exact g4 i c h1 h3 hkc hchi
              · rw [if_neg (show ¬ f + d = f + r by omega)]
                exact g3 i d h1 e h3 h4
          · dsimp only at h2 h3 ⊢
            have e : p = r := by unfold kid at h2 hkc; omega
            subst e
            have hd0 : c < d := by unfold kid at h3; omega
            rw [sw_at (by omega) (by omega) (by omega) (by omega) (by omega), sw_at (by omega) (by omega) (by omega) (by omega) (by omega)]
            rw [if_neg (show ¬ f + d = f + c by omega), if_neg (show ¬ f + d = f + p by omega), if_neg (show ¬ f + p = f + c by omega), if_pos rfl]
            exact g3 c d (by omega) (by omega) h3 h4
        · refine ⟨.inr (.inr l), ?_, hR, fun i d h1 h2 h3 => ?_⟩
          · simp only [t1, t2, cv, hv, hlt, decide_false, Bool.not_false, cond_true, Option.bind_some]
          · by_cases e : i = r
            · subst e
              have := hbest d h2 h3
              omega
            · exact g3 i d h1 e h2 h3
  · rintro (l | l) h
    · exact ⟨_, rfl, h⟩
    · exact ⟨_, rfl, h⟩

/-- the root of a heap is its greatest -/
theorem heap_root {l : List α} {f hi : Int} (hH : ∀ i c, 0 ≤ i → kid i c → c < hi → at' l (f + c) ≤ at' l (f + i)) : ∀ (n : Nat) (k : Int), k.toNat ≤ n → 0 ≤ k → k < hi → at' l (f + k) ≤ at' l (f + 0) := by
  intro n
  induction n with
  | zero => intro k h1 h2 h3; rw [show k = 0 by omega]; exact Int.le_refl _
  | succ n ih =>
    intro k h1 h2 h3
    by_cases h : k = 0
    · subst h; exact Int.le_refl _
    · have hk : kid ((k - 1) / 2) k := by unfold kid; omega
      have a := hH ((k - 1) / 2) k (by omega) hk h3
      have b := ih ((k - 1) / 2) (by omega) (by omega) (by omega)
      omega

theorem heapSort_spec (l0 : List α) (hG : Good l0) (a b : Int) (ha : 0 ≤ a) (hab : a ≤ b) (hb : b ≤ l0.length) (hlen : l0.length ≤ 1000000) :
    ∃ l', DG.heapSort Srtd.cmp l0 a b = some l' ∧ Rg a b l0 l' ∧ Srt l' a b := by
  unfold DG.heapSort
  rw [w64 (show -9223372036854775808 ≤ b - a by omega) (by omega), w64 (show -9223372036854775808 ≤ b - a - 1 by omega) (by omega)]
  have e2 : -1 ≤ (b - a - 1).tdiv 2 ∧ (b - a - 1).tdiv 2 ≤ b - a ∧ b - a ≤ 2 * (b - a - 1).tdiv 2 + 2 := by
    by_cases h : 1 ≤ b - a
    · rw [Int.tdiv_eq_ediv_of_nonneg (by omega)]; omega
    · have : b - a - 1 = -1 := by omega
      have e : (-1 : Int).tdiv 2 = 0 := by decide
      rw [this, e]; omega
  rw [w64 (show -9223372036854775808 ≤ (b - a - 1).tdiv 2 by omega) (by omega)]
  generalize (b - a - 1).tdiv 2 = st at e2
  refine loop_then (fun s => Rg a b l0 s.1 ∧ -1 ≤ s.2 ∧ s.2 ≤ b - a ∧ ∀ i c, s.2 < i → kid i c → c < b - a → at' s.1 (a + c) ≤ at' s.1 (a + i)) (fun s => (s.2 + 1).toNat)
    (fun r => Rg a b l0 r ∧ ∀ i c, 0 ≤ i → kid i c → c < b - a → at' r (a + c) ≤ at' r (a + i)) ?_ ⟨Rg.refl _ _ _, by dsimp only; omega, by dsimp only; omega, fun i c h1 h2 h3 => by unfold kid at h2; dsimp only at h1; omega⟩ ?_
  · rintro ⟨l, i⟩ ⟨hR, g1, g2, g3⟩
    dsimp only at hR g1 g2 g3 ⊢
    have hll := hR.len
    by_cases hi : 0 ≤ i
    · simp only [hi, decide_true, cond_true]
      obtain ⟨l', e, r1, r2⟩ := siftDown_spec l (hR.good hG) i (b - a) a hi ha (by omega) (by omega) (by omega) g3
      rw [e, Option.bind_some, w64 (show -9223372036854775808 ≤ i - 1 by omega) (by omega)]
      exact ⟨_, rfl, ⟨hR.trans (r1.widen (by omega) (by omega) ha), by dsimp only; omega, by dsimp only; omega, fun p c h1 h2 h3 => r2 p c (by dsimp only at h1; omega) h2 h3⟩, by dsimp only; omega⟩
    · simp only [hi, decide_false, cond_false]
      exact ⟨_, rfl, hR, fun p c h1 h2 h3 => g3 p c (by omega) h2 h3⟩
  · rintro l1 ⟨hR1, hH1⟩
    refine loop_then (fun s => Rg a b l0 s.1 ∧ -1 ≤ s.2 ∧ s.2 < b - a ∧ (∀ i c, 0 ≤ i → kid i c → c ≤ s.2 → at' s.1 (a + c) ≤ at' s.1 (a + i)) ∧ (∀ p q, s.2 < p → p < q → q < b - a → at' s.1 (a + p) ≤ at' s.1 (a + q)) ∧ (∀ p q, 0 ≤ p → p ≤ s.2 → s.2 < q → q < b - a → at' s.1 (a + p) ≤ at' s.1 (a + q))) (fun s => (s.2 + 1).toNat)
      (fun r => Rg a b l0 r ∧ Srt r a b) ?_ ⟨hR1, by dsimp only; omega, by dsimp only; omega, fun i c h1 h2 h3 => hH1 i c h1 h2 (by dsimp only at h3; omega), fun p q h1 h2 h3 => by dsimp only at h1; omega, fun p q h1 h2 h3 h4 => by dsimp only at h3; omega⟩ (fun r hr => ⟨r, rfl, hr⟩)
    rintro ⟨l, i⟩ ⟨hR, g1, g2, g3, g4, g5⟩
    dsimp only at hR g1 g2 g3 g4 g5 ⊢
    have hll := hR.len
    by_cases hi : 0 ≤ i
    · rw [w64 (show -9223372036854775808 ≤ a + i by omega) (by omega)]
      have t1 : idx l a = some (el l a) := idx_at (by omega) (by omega)
      have t2 : idx l (a + i) = some (el l (a + i)) := idx_at (by omega) (by omega)
      have t3 : ∀ x, idx (l.set a.toNat x) (a + i) = some (el (l.set a.toNat x) (a + i)) := fun x => idx_set_at (by omega) (by omega)
      simp only [hi, decide_true, cond_true, t1, t2, t3, Option.bind_some]
      rw [show (l.set a.toNat (el l (a + i))).set (a + i).toNat (el l a) = sw l a (a + i) from rfl]
      have hRs : Rg a (a + (i + 1)) l (sw l a (a + i)) := Rg.swap ha (by omega) (by omega) (by omega) (by omega) (by omega)
      have sat : ∀ k, 0 ≤ k → at' (sw l a (a + i)) (a + k) = if k = i then at' l a else if k = 0 then at' l (a + i) else at' l (a + k) := fun k hk => by
        rw [sw_at (by omega) (by omega) (by omega) (by omega) (by omega)]
        by_cases c1 : k = i
        · subst c1; simp
        · rw [if_neg (show ¬ a + k = a + i by omega), if_neg c1]
          by_cases c2 : k = 0
          · subst c2; simp
          · rw [if_neg (show ¬ a + k = a by omega), if_neg c2]
      have hroot : ∀ k, 0 ≤ k → k ≤ i → at' l (a + k) ≤ at' l a := fun k k1 k2 => by
        have := heap_root (hi := i + 1) (fun p c h1 h2 h3 => g3 p c h1 h2 (by omega)) k.toNat k (Nat.le_refl _) k1 (by omega)
        rwa [Int.add_zero] at this
      have hsl : (sw l a (a + i)).length = l.length := sw_len _ _ _
      obtain ⟨l', e, r1, r2⟩ := siftDown_spec (sw l a (a + i)) (hRs.good (hR.good hG)) 0 i a (Int.le_refl _) ha hi (by omega) (by omega) (fun p c h1 h2 h3 => by
        have hc : p < c := by unfold kid at h2; omega
        rw [sat c (by omega), sat p (by omega), if_neg (by omega), if_neg (by omega), if_neg (by omega), if_neg (by omega)]
        exact g3 p c (by omega) h2 (by omega))
      rw [e, Option.bind_some, w64 (show -9223372036854775808 ≤ i - 1 by omega) (by omega)]
      rw [Int.add_zero] at r1
      have same : ∀ k, i ≤ k → at' l' (a + k) = at' (sw l a (a + i)) (a + k) := fun k hk => r1.out (a + k) (by omega) (.inr (by omega))
      have big : ∀ k, i < k → k < b - a → at' l' (a + k) = at' l (a + k) := fun k hk hk2 => by
        rw [same k (by omega), sat k (by omega), if_neg (by omega), if_neg (by omega)]
      have ati : at' l' (a + i) = at' l a := by rw [same i (Int.le_refl _), sat i hi, if_pos rfl]
      have low : ∀ Q : Int → Prop, (∀ k, 0 ≤ k → k ≤ i → Q (at' l (a + k))) → ∀ k, 0 ≤ k → k < i → Q (at' l' (a + k)) := fun Q hQ k k1 k2 =>
        r1.all Q (fun m m1 m2 => by
          have h1 := sat (m - a) (by omega)
          rw [show a + (m - a) = m by omega] at h1
          rw [h1]
          split
          · have := hQ 0 (by omega) hi; rwa [Int.add_zero] at this
          · split
            · exact hQ i hi (Int.le_refl _)
            · have := hQ (m - a) (by omega) (by omega); rwa [show a + (m - a) = m by omega] at this) (a + k) (by omega) (by omega)
      refine ⟨_, rfl, ⟨hR.trans ((hRs.widen (Int.le_refl a) (by omega) ha).trans (r1.widen (Int.le_refl a) (by omega) ha)), by dsimp only; omega, by dsimp only; omega, fun p c h1 h2 h3 => ?_, fun p q h1 h2 h3 => ?_, fun p q h1 h2 h3 h4 => ?_⟩, by dsimp only; omega⟩
      · dsimp only at h3 ⊢; exact r2 p c h1 h2 (by omega)
      · dsimp only at h1 ⊢
        by_cases c1 : p = i
        · subst c1
          rw [ati, big q h2 h3]
          have := g5 0 q (Int.le_refl _) hi h2 h3
          rwa [Int.add_zero] at this
        · rw [big p (by omega) (by omega), big q (by omega) h3]
          exact g4 p q (by omega) h2 h3
      · dsimp only at h2 h3 ⊢
        by_cases c1 : q = i
        · subst c1
          rw [ati]
          exact low (fun x => x ≤ at' l a) hroot p h1 (by omega)
        · rw [big q (by omega) h4]
          exact low (fun x => x ≤ at' l (a + q)) (fun k k1 k2 => g5 k q k1 k2 (by omega) h4) p h1 (by omega)
    · simp only [hi, decide_false, cond_false]
      refine ⟨_, rfl, hR, fun p q h1 h2 h3 => ?_⟩
      have := g4 (p - a) (q - a) (by omega) (by omega) (by omega)
      rwa [show a + (p - a) = p by omega, show a + (q - a) = q by omega] at this
end Go.Sx.Gs

/- The sort itself. Plain. -/
namespace Go.Sx.Gs
variable {α : Type} [Srtd α]
/-- from a0 to b0 all pairs are in order, but for those from a to b -/
def Out (l : List α) (a0 b0 a b : Int) : Prop := ∀ i j, a0 ≤ i → i < j → j < b0 → ¬ (a ≤ i ∧ j < b) → at' l i ≤ at' l j

theorem Out.keep {a0 a b b0 : Int} {l l' : List α} (h : Rg a b l l') (h0 : 0 ≤ a0) (ha : a0 ≤ a) (hb : b ≤ b0) (c : Out l a0 b0 a b) : Out l' a0 b0 a b := by
  intro i j h1 h2 h3 h4
  by_cases hi : a ≤ i ∧ i < b
  · rw [h.out j (by omega) (by omega)]
    exact h.all (fun x => x ≤ at' l j) (fun k k1 k2 => c k j (by omega) (by omega) h3 (by omega)) i hi.1 hi.2
  · rw [h.out i (by omega) (by omega)]
    by_cases hj : a ≤ j ∧ j < b
    · exact h.all (fun x => at' l i ≤ x) (fun k k1 k2 => c i k (by omega) (by omega) (by omega) (by omega)) j hj.1 hj.2
    · rw [h.out j (by omega) (by omega)]; exact c i j h1 h2 h3 h4

theorem pdqsort_spec : ∀ (n : Nat) (l0 : List α) (a0 b0 lim : Int), 0 ≤ a0 → a0 ≤ b0 → b0 ≤ l0.length → l0.length ≤ 1000000 → Good l0 → 0 ≤ lim → lim ≤ 64 →
    (0 < a0 → ∀ k, a0 ≤ k → k < b0 → at' l0 (a0 - 1) ≤ at' l0 k) → b0 - a0 < n → ∃ l', DG.pdqsortR Srtd.cmp n l0 a0 b0 lim = some l' ∧ Rg a0 b0 l0 l' ∧ Srt l' a0 b0 := by
  intro n
  induction n with
  | zero => intro l0 a0 b0 lim h1 h2 h3 h4 hG h7 h8 h9 h10; omega
  | succ n ih =>
    intro l0 a0 b0 lim h1 h2 h3 h4 hG h7 h8 h9 h10
    unfold DG.pdqsortR
    refine loop_then (fun s => Rg a0 b0 l0 s.1 ∧ Out s.1 a0 b0 s.2.1 s.2.2.1 ∧ a0 ≤ s.2.1 ∧ s.2.1 ≤ s.2.2.1 ∧ s.2.2.1 ≤ b0 ∧ 0 ≤ s.2.2.2.1 ∧ s.2.2.2.1 ≤ 64 ∧ (0 < s.2.1 → ∀ k, s.2.1 ≤ k → k < s.2.2.1 → at' s.1 (s.2.1 - 1) ≤ at' s.1 k))
      (fun s => (s.2.2.1 - s.2.1).toNat) (fun r => Rg a0 b0 l0 r ∧ Srt r a0 b0) ?_ ?_ ?_
    · rintro ⟨l, a, b, lm, bal, par⟩ ⟨hR, hO, g1, g2, g3, g5, g6, g7⟩
      dsimp only at hR hO g1 g2 g3 g5 g6 g7 ⊢
      have hll := hR.len
      have fin : ∀ l', Rg a b l l' → Srt l' a b → Rg a0 b0 l0 l' ∧ Srt l' a0 b0 := fun l' hr hs =>
        ⟨hR.trans (hr.widen g1 g3 h1), fun i j k1 k2 k3 => by
          by_cases hc : a ≤ i ∧ j < b
          · exact hs i j hc.1 k2 hc.2
          · exact (hO.keep hr h1 g1 g3) i j k1 k2 k3 hc⟩
      rw [w64 (show -9223372036854775808 ≤ b - a by omega) (by omega)]
      by_cases hs : b - a ≤ 12
      · obtain ⟨l', e, r1, r2⟩ := insertionSort_spec l a b (by omega) g2 (by omega) (by omega) (hR.good hG)
        refine ⟨.inr l', ?_, fin l' r1 r2⟩
        simp only [hs, decide_true, cond_true, e, Option.bind_some]
      · simp only [hs, decide_false, cond_false]
        by_cases hlm : lm = 0
        · have hl0 : (lm == 0) = true := by simp [hlm]
          obtain ⟨l', e, r1, r2⟩ := heapSort_spec l (hR.good hG) a b (by omega) g2 (by omega) (by omega)
          refine ⟨.inr l', ?_, fin l' r1 r2⟩
          simp only [hl0, cond_true, e, Option.bind_some]
        have hl0 : (lm == 0) = false := by simp [hlm]
        simp only [hl0, cond_false]
        refine bind_then (fun q : List α × Int => Rg a b l q.1 ∧ 0 ≤ q.2 ∧ q.2 ≤ 64) ?_ ?_
        · cases bal
          · obtain ⟨l1, e, r1⟩ := breakPatterns_spec l a b (by omega) (by omega) (by omega) (by omega)
            refine ⟨(l1, lm - 1), ?_, r1, by dsimp only; omega, by dsimp only; omega⟩
            simp only [Bool.not_false, cond_true, e, Option.bind_some]
            rw [w64 (by omega) (by omega)]
          · exact ⟨(l, lm), rfl, Rg.refl _ _ _, by dsimp only; omega, by dsimp only; omega⟩
        rintro ⟨l1, lm1⟩ ⟨hr1, k2, k3⟩
        dsimp only at hr1 k2 k3 ⊢
        have hl1 := hr1.len
        obtain ⟨y, ey, c1, c2, c3⟩ := choosePivot_spec l1 ((hR.trans (hr1.widen g1 g3 h1)).good hG) a b (by omega) (by omega) (by omega) (by omega)
        rw [ey, Option.bind_some]
        refine bind_then (fun q : List α × Int × Int => Rg a b l q.1 ∧ a ≤ q.2.1 ∧ q.2.1 < b) ?_ ?_
        · cases (y.2.1 == 2)
          · exact ⟨_, rfl, by dsimp only; rw [c1]; exact hr1, c2, c3⟩
          · obtain ⟨l2, e2, r2⟩ := reverseRange_spec l1 a b (by omega) (by omega) (by omega) (by omega)
            rw [c1]
            simp only [cond_true, e2, Option.bind_some]
            rw [w64 (show -9223372036854775808 ≤ b - 1 by omega) (by omega), w64 (show -9223372036854775808 ≤ y.1 - a by omega) (by omega), w64 (show -9223372036854775808 ≤ b - 1 - (y.1 - a) by omega) (by omega)]
            exact ⟨_, rfl, hr1.trans r2, by dsimp only; omega, by dsimp only; omega⟩
        rintro ⟨l2, p, hint⟩ ⟨hr2, p1, p2⟩
        dsimp only at hr2 p1 p2 ⊢
        have hl2 := hr2.len
        refine bind_then (fun q : List α ⊕ List α => match q with | .inl q => Rg a b l q | .inr q => Rg a b l q ∧ Srt q a b) ?_ ?_
        · cases ((bal && par) && (hint == 1))
          · exact ⟨.inl l2, rfl, hr2⟩
          · obtain ⟨y2, e2, d1, d2⟩ := partialInsertion_spec l2 ((hR.trans (hr2.widen g1 g3 h1)).good hG) a b (by omega) (by omega) (by omega) (by omega) (fun ha k m1 m2 => by
              rw [hr2.out (a - 1) (by omega) (.inl (by omega))]
              exact hr2.all (fun x => at' l (a - 1) ≤ x) (g7 ha) k m1 m2)
            simp only [cond_true, e2, Option.bind_some]
            cases hy : y2.1
            · exact ⟨.inl y2.2, rfl, hr2.trans d1⟩
            · exact ⟨.inr y2.2, rfl, hr2.trans d1, d2 hy⟩
        rintro (q | q) hq
        case inr =>
          exact ⟨.inr q, rfl, fin q hq.1 hq.2⟩
        dsimp only at hq ⊢
        clear hr2 hl2
        have hr2 : Rg a b l q := hq
        have hl2 := hr2.len
        have hGq : Good q := (hR.trans (hr2.widen g1 g3 h1)).good hG
        have hO2 := hO.keep hr2 h1 g1 g3
        have g7' : 0 < a → ∀ k, a ≤ k → k < b → at' q (a - 1) ≤ at' q k := fun ha k m1 m2 => by
          rw [hr2.out (a - 1) (by omega) (.inl (by omega))]
          exact hr2.all (fun x => at' l (a - 1) ≤ x) (g7 ha) k m1 m2
        refine bind_then (fun c : Bool => c = true → 0 < a ∧ at' q p ≤ at' q (a - 1)) ?_ ?_
        · by_cases ha : 0 < a
          · have r1 : idx q (a - 1) = some (el q (a - 1)) := idx_at (by omega) (by omega)
            have r2 : idx q p = some (el q p) := idx_at (by omega) (by omega)
            rw [w64 (show -9223372036854775808 ≤ a - 1 by omega) (by omega)]
            obtain ⟨v, cv, hv⟩ := cmp_at hGq (i := a - 1) (j := p) (by omega) (by omega) (by omega) (by omega)
            simp only [ha, decide_true, cond_true, r1, r2, cv, hv, Option.bind_some]
            exact ⟨_, rfl, fun h => ⟨by trivial, by simpa using h⟩⟩
          · simp only [ha, decide_false, cond_false]
            exact ⟨_, rfl, fun h => by cases h⟩
        intro c hc
        cases c
        · -- the pivot parts
          simp only [cond_false]
          obtain ⟨⟨mid, par', l3⟩, e3, P⟩ := partition_spec q a b p (by omega) (by omega) (by omega) hGq p1 p2
          rw [e3, Option.bind_some]
          obtain ⟨hr3, m1, m2, m3, m4⟩ := P
          dsimp only at hr3 m1 m2 m3 m4 ⊢
          have hl3 := hr3.len
          have hO3 := hO2.keep hr3 h1 g1 g3
          have g7'' : 0 < a → ∀ k, a ≤ k → k < b → at' l3 (a - 1) ≤ at' l3 k := fun ha k n1 n2 => by
            rw [hr3.out (a - 1) (by omega) (.inl (by omega))]
            exact hr3.all (fun x => at' q (a - 1) ≤ x) (g7' ha) k n1 n2
          have hR3 : Rg a0 b0 l0 l3 := hR.trans ((hr2.trans hr3).widen g1 g3 h1)
          rw [w64 (show -9223372036854775808 ≤ mid - a by omega) (by omega), w64 (show -9223372036854775808 ≤ b - mid by omega) (by omega), w64 (show -9223372036854775808 ≤ mid + 1 by omega) (by omega)]
          by_cases hside : mid - a < b - mid
          · simp only [hside, decide_true, cond_true]
            obtain ⟨l4, e4, r4, s4⟩ := ih l3 a mid lm1 (by omega) m1 (by omega) (by omega) (hR3.good hG) k2 k3 (fun ha k n1 n2 => g7'' ha k n1 (by omega)) (by omega)
            rw [e4, Option.bind_some]
            have hl4 := r4.len
            have em : ∀ k, mid ≤ k → at' l4 k = at' l3 k := fun k hk => r4.out k (by omega) (.inr hk)
            have lf : ∀ k, a ≤ k → k < mid → at' l4 k ≤ at' l4 mid := fun k n1 n2 => by
              rw [em mid (Int.le_refl _)]; exact r4.all (fun x => x ≤ at' l3 mid) m3 k n1 n2
            refine ⟨.inl _, rfl, ⟨hR3.trans (r4.widen g1 (by omega) h1), ?_, by dsimp only; omega, by dsimp only; omega, g3, k2, k3, ?_⟩, by dsimp only; omega⟩
            · have hO4 := hO3.keep (r4.widen (Int.le_refl a) (by omega) (by omega)) h1 g1 g3
              intro i j n1 n2 n3 n4
              dsimp only at n4 ⊢
              by_cases hin : a ≤ i ∧ j < b
              · by_cases hj : j < mid
                · exact s4 i j hin.1 n2 hj
                · have hi : i ≤ mid := by omega
                  have e1 : at' l4 i ≤ at' l4 mid := by
                    by_cases e : i = mid
                    · rw [e]; exact Int.le_refl _
                    · exact lf i hin.1 (by omega)
                  have e2 : at' l4 mid ≤ at' l4 j := by
                    by_cases e : j = mid
                    · rw [e]; exact Int.le_refl _
                    · rw [em mid (Int.le_refl _), em j (by omega)]; exact m4 j (by omega) hin.2
                  omega
              · exact hO4 i j n1 n2 n3 hin
            · intro _ k n1 n2
              dsimp only at n1 n2 ⊢
              rw [show mid + 1 - 1 = mid by omega, em mid (Int.le_refl _), em k (by omega)]
              exact m4 k (by omega) n2
          · simp only [hside, decide_false, cond_false]
            obtain ⟨l4, e4, r4, s4⟩ := ih l3 (mid + 1) b lm1 (by omega) (by omega) (by omega) (by omega) (hR3.good hG) k2 k3 (fun _ k n1 n2 => by rw [show mid + 1 - 1 = mid by omega]; exact m4 k (by omega) n2) (by omega)
            rw [e4, Option.bind_some]
            have hl4 := r4.len
            have em : ∀ k, 0 ≤ k → k ≤ mid → at' l4 k = at' l3 k := fun k h0 hk => r4.out k h0 (.inl (by omega))
            have rt : ∀ k, mid < k → k < b → at' l4 mid ≤ at' l4 k := fun k n1 n2 => by
              rw [em mid (by omega) (Int.le_refl _)]; exact r4.all (fun x => at' l3 mid ≤ x) (fun k q1 q2 => m4 k (by omega) q2) k (by omega) n2
            refine ⟨.inl _, rfl, ⟨hR3.trans (r4.widen (by omega) g3 h1), ?_, g1, m1, by dsimp only; omega, k2, k3, ?_⟩, by dsimp only; omega⟩
            · have hO4 := hO3.keep (r4.widen (by omega) (Int.le_refl b) (by omega)) h1 g1 g3
              intro i j n1 n2 n3 n4
              dsimp only at n4 ⊢
              by_cases hin : a ≤ i ∧ j < b
              · by_cases hi : mid < i
                · exact s4 i j (by omega) n2 hin.2
                · have hj : mid ≤ j := by omega
                  have e1 : at' l4 i ≤ at' l4 mid := by
                    by_cases e : i = mid
                    · rw [e]; exact Int.le_refl _
                    · rw [em i (by omega) (by omega), em mid (by omega) (Int.le_refl _)]; exact m3 i hin.1 (by omega)
                  have e2 : at' l4 mid ≤ at' l4 j := by
                    by_cases e : j = mid
                    · rw [e]; exact Int.le_refl _
                    · exact rt j (by omega) hin.2
                  omega
              · exact hO4 i j n1 n2 n3 hin
            · intro ha k n1 n2
              dsimp only at ha n1 n2 ⊢
              rw [em (a - 1) (by omega) (by omega), em k (by omega) (by omega)]
              exact g7'' ha k n1 (by omega)
        · -- many are equal to the pivot
          simp only [cond_true]
          obtain ⟨hc1, hc2⟩ := hc rfl
          obtain ⟨⟨mid, l3⟩, e3, hr3, m1, m2, m3, m4⟩ := partitionEqual_spec q a b p (by omega) (by omega) (by omega) hGq p1 p2
          rw [e3, Option.bind_some]
          dsimp only at hr3 m1 m2 m3 m4 ⊢
          have hl3 := hr3.len
          have hO3 := hO2.keep hr3 h1 g1 g3
          have lw : ∀ k, a ≤ k → k < b → at' q p ≤ at' l3 k := fun k n1 n2 =>
            hr3.all (fun x => at' q p ≤ x) (fun k q1 q2 => Int.le_trans hc2 (g7' hc1 k q1 q2)) k n1 n2
          refine ⟨.inl _, rfl, ⟨hR.trans ((hr2.trans hr3).widen g1 g3 h1), ?_, by dsimp only; omega, m2, g3, k2, k3, ?_⟩, by dsimp only; omega⟩
          · intro i j n1 n2 n3 n4
            dsimp only at n4 ⊢
            by_cases hin : a ≤ i ∧ j < b
            · have := m3 i hin.1 (by omega)
              have := lw j (by omega) hin.2
              omega
            · exact hO3 i j n1 n2 n3 hin
          · intro _ k n1 n2
            dsimp only at n1 n2 ⊢
            have := m3 (mid - 1) (by omega) (by omega)
            have := m4 k n1 n2
            omega
    · exact ⟨Rg.refl _ _ _, fun i j n1 n2 n3 n4 => by dsimp only at n4; omega, Int.le_refl _, h2, Int.le_refl _, h7, h8, h9⟩
    · rintro r hr
      exact ⟨r, rfl, hr⟩

end Go.Sx.Gs

/- Sets of vertices as numbers: what the bit operations do to membership. Plain facts. -/
namespace Go.Sx
theorem wrap32 (n : Int) : IntKind.u32.wrap n = n % 4294967296 := by simp [IntKind.wrap, IntKind.signed, IntKind.bits]

/-- a word of 32 bits -/
def VS (s : Int) : Prop := 0 ≤ s ∧ s < 4294967296
/-- is a vertex in a set -/
def has (s : Int) (v : Nat) : Bool := s.toNat.testBit v

theorem VS.nat {s : Int} (h : VS s) : ∃ n : Nat, s = n ∧ n < 4294967296 := ⟨s.toNat, by have := h.1; omega, by have := h.1; have := h.2; omega⟩
theorem VS.zero : VS 0 := ⟨by omega, by omega⟩
theorem VS.wrap (n : Int) : VS (IntKind.u32.wrap n) := by rw [wrap32]; exact ⟨by omega, by omega⟩
theorem VS.ofNat {n : Nat} (h : n < 4294967296) : VS (n : Int) := ⟨by omega, by omega⟩
theorem has_nat (n v : Nat) : has (n : Int) v = n.testBit v := by simp [has]
theorem has_zero (v : Nat) : has 0 v = false := by simp [has]

theorem ofInt_nat (n : Nat) (h : n < 4294967296) : (BitVec.ofInt 32 (n : Int)).toNat = n := by
  rw [BitVec.toNat_ofInt]
  omega

theorem ior_nat {a b : Nat} (ha : a < 4294967296) (hb : b < 4294967296) : ior .u32 (a : Int) (b : Int) = ((a ||| b : Nat) : Int) := by
  have hw : a ||| b < 4294967296 := Nat.or_lt_two_pow (n := 32) ha hb
  show IntKind.u32.wrap (((BitVec.ofInt 32 (a : Int) ||| BitVec.ofInt 32 (b : Int)).toNat : Nat) : Int) = _
  rw [BitVec.toNat_or, ofInt_nat a ha, ofInt_nat b hb, wrap32]; omega
theorem iand_nat {a b : Nat} (ha : a < 4294967296) (hb : b < 4294967296) : iand .u32 (a : Int) (b : Int) = ((a &&& b : Nat) : Int) := by
  have hw : a &&& b < 4294967296 := Nat.and_lt_two_pow (n := 32) _ hb
  show IntKind.u32.wrap (((BitVec.ofInt 32 (a : Int) &&& BitVec.ofInt 32 (b : Int)).toNat : Nat) : Int) = _
  rw [BitVec.toNat_and, ofInt_nat a ha, ofInt_nat b hb, wrap32]; omega
theorem VS.ior (a b : Int) : VS (ior .u32 a b) := VS.wrap _
theorem VS.iand (a b : Int) : VS (iand .u32 a b) := VS.wrap _
theorem VS.ixor (a b : Int) : VS (ixor .u32 a b) := VS.wrap _
theorem VS.iandNot (a b : Int) : VS (iandNot .u32 a b) := VS.wrap _
theorem VS.ishl (a b : Int) : VS (ishl .u32 a b) := VS.wrap _

theorem has_ior {a b : Int} (ha : VS a) (hb : VS b) (v : Nat) : has (ior .u32 a b) v = (has a v || has b v) := by
  obtain ⟨m, rfl, hm⟩ := ha.nat; obtain ⟨n, rfl, hn⟩ := hb.nat
  rw [ior_nat hm hn]; simp only [has_nat, Nat.testBit_or]
theorem has_iand {a b : Int} (ha : VS a) (hb : VS b) (v : Nat) : has (iand .u32 a b) v = (has a v && has b v) := by
  obtain ⟨m, rfl, hm⟩ := ha.nat; obtain ⟨n, rfl, hn⟩ := hb.nat
  rw [iand_nat hm hn]; simp only [has_nat, Nat.testBit_and]
theorem has_iandNot {a b : Int} (ha : VS a) (hb : VS b) (v : Nat) : has (iandNot .u32 a b) v = (has a v && !has b v) := by
  obtain ⟨m, rfl, hm⟩ := ha.nat; obtain ⟨n, rfl, hn⟩ := hb.nat
  have e : iandNot .u32 (m : Int) (n : Int) = (((BitVec.ofInt 32 (m : Int) &&& ~~~(BitVec.ofInt 32 (n : Int))).toNat : Nat) : Int) := by
    have hw := (BitVec.ofInt 32 (m : Int) &&& ~~~(BitVec.ofInt 32 (n : Int))).isLt
    show IntKind.u32.wrap (((BitVec.ofInt 32 (m : Int) &&& ~~~(BitVec.ofInt 32 (n : Int))).toNat : Nat) : Int) = _
    rw [wrap32]; omega
  rw [e, has_nat, has_nat, has_nat]
  have h1 : ∀ i, (BitVec.ofInt 32 (m : Int)).getLsbD i = m.testBit i := fun i => by rw [BitVec.getLsbD, ofInt_nat m hm]
  have h2 : ∀ i, (BitVec.ofInt 32 (n : Int)).getLsbD i = n.testBit i := fun i => by rw [BitVec.getLsbD, ofInt_nat n hn]
  rw [← BitVec.getLsbD, BitVec.getLsbD_and, BitVec.getLsbD_not, h1, h2]
  by_cases hv : v < 32
  · simp [hv]
  · have : m.testBit v = false := Nat.testBit_lt_two_pow (Nat.lt_of_lt_of_le hm (Nat.pow_le_pow_right (n := 2) (by omega) (show 32 ≤ v by omega)))
    simp [this]
theorem has_big {a : Int} (ha : VS a) {v : Nat} (hv : 32 ≤ v) : has a v = false := by
  obtain ⟨m, rfl, hm⟩ := ha.nat
  rw [has_nat]
  exact Nat.testBit_lt_two_pow (Nat.lt_of_lt_of_le hm (Nat.pow_le_pow_right (n := 2) (by omega) hv))
theorem VS.ext {a b : Int} (ha : VS a) (hb : VS b) (h : ∀ v, v < 32 → has a v = has b v) : a = b := by
  have : ∀ v, has a v = has b v := fun v => by
    by_cases hv : v < 32
    · exact h v hv
    · rw [has_big ha (by omega), has_big hb (by omega)]
  obtain ⟨m, rfl, hm⟩ := ha.nat; obtain ⟨n, rfl, hn⟩ := hb.nat
  congr 1
  apply Nat.eq_of_testBit_eq
  intro v
  have := this v
  rwa [has_nat, has_nat] at this
theorem VS.eq_zero {a : Int} (ha : VS a) : a = 0 ↔ ∀ v, v < 32 → has a v = false :=
  ⟨fun h v _ => by rw [h, has_zero], fun h => ha.ext VS.zero (fun v hv => by rw [h v hv, has_zero])⟩

/-- the set of one vertex -/
theorem one_eq {v : Nat} (hv : v < 32) : ishl .u32 1 (v : Int) = ((2 ^ v : Nat) : Int) := by
  have h : (2 : Nat) ^ v < 2 ^ 32 := Nat.pow_lt_pow_right (by omega) hv
  have h' : (2 : Nat) ^ 32 = 4294967296 := by decide
  rw [h'] at h
  show IntKind.u32.wrap (1 * 2 ^ (min ((v : Int)).toNat 32)) = _
  rw [wrap32, show min ((v : Int)).toNat 32 = v by simp; omega, Int.one_mul]
  have e : ((2 ^ v : Nat) : Int) = (2 : Int) ^ v := by simp
  rw [← e]
  generalize 2 ^ v = p at h ⊢
  omega
theorem has_one {v : Nat} (hv : v < 32) (u : Nat) : has (ishl .u32 1 (v : Int)) u = decide (u = v) := by
  rw [one_eq hv, has_nat, Nat.testBit_two_pow]
  simp [eq_comm]
theorem shr_eq (s : Int) (v : Nat) (h : VS s) (hv : v < 32) : ishr .u32 s (v : Int) = ((s.toNat >>> v : Nat) : Int) := by
  obtain ⟨m, rfl, hm⟩ := h.nat
  show Int.fdiv (m : Int) (2 ^ (min ((v : Int)).toNat 32)) = _
  rw [show min ((v : Int)).toNat 32 = v by simp; omega]
  have e : ((2 ^ v : Nat) : Int) = (2 : Int) ^ v := by simp
  rw [← e, Int.fdiv_eq_ediv_of_nonneg _ (Int.natCast_nonneg _), Nat.shiftRight_eq_div_pow]
  simp
theorem bitAt_eq {s : Int} {v : Nat} (h : VS s) (hv : v < 32) : (iand .u32 (ishr .u32 s (v : Int)) 1 == 1) = has s v := by
  rw [shr_eq s v h hv]
  have hs : s.toNat >>> v < 4294967296 := by
    obtain ⟨m, rfl, hm⟩ := h.nat
    rw [Nat.shiftRight_eq_div_pow]
    exact Nat.lt_of_le_of_lt (Nat.div_le_self _ _) hm
  have := iand_nat hs (show (1 : Nat) < 4294967296 by omega)
  rw [show (1 : Int) = ((1 : Nat) : Int) from rfl, this, has, Nat.testBit]
  rw [Nat.and_comm]
  have h1 : 1 &&& (s.toNat >>> v) = 0 ∨ 1 &&& (s.toNat >>> v) = 1 := by
    rw [Nat.and_comm, Nat.and_one_is_mod]; omega
  rcases h1 with e | e <;> rw [e] <;> rfl

/-- the numbers in a set, rising -/
def elems (s : Int) : List Int := ((List.range 32).filter (has s)).map Int.ofNat
theorem mem_elems {s : Int} {x : Int} : x ∈ elems s ↔ ∃ v : Nat, v < 32 ∧ has s v = true ∧ x = v := by
  unfold elems
  rw [List.mem_map]
  constructor
  · rintro ⟨v, hv, rfl⟩
    rw [List.mem_filter, List.mem_range] at hv
    exact ⟨v, hv.1, hv.2, rfl⟩
  · rintro ⟨v, h1, h2, rfl⟩
    exact ⟨v, List.mem_filter.2 ⟨List.mem_range.2 h1, h2⟩, rfl⟩
theorem mem_elems_nat {s : Int} (h : VS s) {v : Nat} : (v : Int) ∈ elems s ↔ has s v = true := by
  rw [mem_elems]
  constructor
  · rintro ⟨u, _, h2, h3⟩; obtain rfl : v = u := by omega
    exact h2
  · intro h2
    refine ⟨v, ?_, h2, rfl⟩
    by_cases hv : v < 32
    · exact hv
    · rw [has_big h (by omega)] at h2; cases h2
theorem elems_len (s : Int) : (elems s).length ≤ 32 := by
  unfold elems
  rw [List.length_map]
  exact Nat.le_trans (List.length_filter_le _ _) (by simp)

/-- rising lists -/
def Inc (l : List Int) : Prop := l.Pairwise (· < ·)
theorem elems_inc (s : Int) : Inc (elems s) := by
  unfold elems Inc
  rw [List.pairwise_map]
  refine List.Pairwise.filter _ ?_
  refine List.Pairwise.imp ?_ (List.pairwise_lt_range (n := 32))
  intro a b h
  show (a : Int) < (b : Int)
  omega
theorem Inc.ext : ∀ {l l' : List Int}, Inc l → Inc l' → (∀ x, x ∈ l ↔ x ∈ l') → l = l'
  | [], [], _, _, _ => rfl
  | [], y :: l', _, _, h => by have := (h y).2 (by simp); simp at this
  | x :: l, [], _, _, h => by have := (h x).1 (by simp); simp at this
  | x :: l, y :: l', h1, h2, h => by
    have h1' := List.pairwise_cons.1 h1; have h2' := List.pairwise_cons.1 h2
    have e : x = y := by
      rcases List.mem_cons.1 ((h x).1 (by simp)) with e | e
      · exact e
      · rcases List.mem_cons.1 ((h y).2 (by simp)) with e' | e'
        · exact e'.symm
        · have := h2'.1 x e; have := h1'.1 y e'; omega
    subst e
    have : l = l' := by
      refine Inc.ext h1'.2 h2'.2 (fun z => ?_)
      constructor
      · intro hz
        rcases List.mem_cons.1 ((h z).1 (List.mem_cons_of_mem _ hz)) with e | e
        · have := h1'.1 z hz; omega
        · exact e
      · intro hz
        rcases List.mem_cons.1 ((h z).2 (List.mem_cons_of_mem _ hz)) with e | e
        · have := h2'.1 z hz; omega
        · exact e
    rw [this]

/-- the least of a set, and what is left -/
theorem least_spec {s : Int} (h : VS s) (h0 : s ≠ 0) : ∃ k : Nat, k < 32 ∧ has s k = true ∧ (∀ v, v < k → has s v = false) ∧
    iand .u32 s (IntKind.u32.wrap (0 - s)) = ((2 ^ k : Nat) : Int) ∧ (∀ v, has (iand .u32 s (IntKind.u32.wrap (s - 1))) v = (has s v && !decide (v = k))) := by
  obtain ⟨m, rfl, hm⟩ := h.nat
  have hm0 : m ≠ 0 := by omega
  obtain ⟨q, hq, hk⟩ := Lib.ctzFrom_spec 32 m (by omega) hm
  have hc : Lib.ctz 32 m = Lib.ctzFrom 32 m := by unfold Lib.ctz; rw [if_neg hm0]
  obtain ⟨hl, _⟩ := Lib.lowest_bit 32 m hm0 hm
  rw [hc] at hl
  generalize Lib.ctzFrom 32 m = k at *
  have hpos : 0 < 2 ^ k := Nat.pow_pos (by omega)
  have hb : ∀ v, m.testBit v = (decide (v ≥ k) && (2 * q + 1).testBit (v - k)) := fun v => by rw [hq, Nat.mul_comm, Nat.testBit_mul_two_pow, Bool.and_comm]
  refine ⟨k, hk, ?_, fun v hv => ?_, ?_, fun v => ?_⟩
  · rw [has_nat, hb]; simp
  · rw [has_nat, hb]; simp; intro hc; omega
  · have e : IntKind.u32.wrap (0 - (m : Int)) = ((4294967296 - m : Nat) : Int) := by rw [wrap32]; omega
    rw [e, iand_nat hm (by omega)]
    rw [← hl]
  · have e : IntKind.u32.wrap ((m : Int) - 1) = ((m - 1 : Nat) : Int) := by rw [wrap32]; omega
    rw [e, iand_nat hm (by omega), has_nat, has_nat, Nat.testBit_and]
    have hm1 : m - 1 = 2 ^ k * (2 * q) + (2 ^ k - 1) := by rw [hq, Nat.mul_add]; omega
    have hb1 : (m - 1).testBit v = if v < k then true else (2 * q).testBit (v - k) := by
      rw [hm1, Nat.testBit_two_pow_mul_add _ (by omega)]
      split
      · rename_i hv; rw [Nat.testBit_two_pow_sub_one]; simp [hv]
      · rfl
    rw [hb1, hb]
    by_cases hv : v < k
    · simp [hv]; intro hc; omega
    · rw [if_neg hv]
      by_cases hvk : v = k
      · subst hvk; simp
      · obtain ⟨t, ht⟩ : ∃ t, v - k = t + 1 := ⟨v - k - 1, by omega⟩
        rw [ht, Nat.testBit_succ, Nat.testBit_succ]
        have e1 : (2 * q + 1) / 2 = q := by omega
        have e2 : 2 * q / 2 = q := by omega
        rw [e1, e2]
        simp [hvk]

theorem elems_least {s t : Int} {k : Nat} (hk : k < 32) (h1 : has s k = true) (h2 : ∀ v, v < k → has s v = false) (h3 : ∀ v, has t v = (has s v && !decide (v = k))) :
    elems s = (k : Int) :: elems t := by
  refine Inc.ext (elems_inc s) ?_ (fun x => ?_)
  · refine List.pairwise_cons.2 ⟨fun x hx => ?_, elems_inc t⟩
    obtain ⟨v, hv, h4, rfl⟩ := mem_elems.1 hx
    rw [h3] at h4
    simp at h4
    by_cases hc : v < k
    · rw [h2 v hc] at h4; simp at h4
    · omega
  · rw [List.mem_cons, mem_elems, mem_elems]
    constructor
    · rintro ⟨v, hv, h4, rfl⟩
      by_cases e : v = k
      · left; omega
      · right; exact ⟨v, hv, by rw [h3, h4]; simp [e], rfl⟩
    · rintro (rfl | ⟨v, hv, h4, rfl⟩)
      · exact ⟨k, hk, h1, rfl⟩
      · rw [h3] at h4; simp at h4
        exact ⟨v, hv, h4.1, rfl⟩
theorem elems_zero : elems 0 = [] := by
  unfold elems
  rw [List.filter_eq_nil_iff.2 (fun v _ => by simp [has_zero])]; rfl

theorem tz_table : ∀ k : Nat, k < 32 → idx tab32 (ishr .u32 (IntKind.u32.wrap (((2 ^ k : Nat) : Int) * 125613361)) 27) = some (k : Int) := by decide +kernel
end Go.Sx

namespace Go.Sx
/-- from a0 to b0 all pairs are in order, but for those from a to b -/
def Out (l : List Int) (a0 b0 a b : Int) : Prop := ∀ i j, a0 ≤ i → i < j → j < b0 → ¬ (a ≤ i ∧ j < b) → at' l i ≤ at' l j

theorem Out.keep {a0 a b b0 : Int} {l l' : List Int} (h : Rg a b l l') (h0 : 0 ≤ a0) (ha : a0 ≤ a) (hb : b ≤ b0) (c : Out l a0 b0 a b) : Out l' a0 b0 a b := by
  intro i j h1 h2 h3 h4
  by_cases hi : a ≤ i ∧ i < b
  · rw [h.out j (by omega) (by omega)]
    exact h.all (fun x => x ≤ at' l j) (fun k k1 k2 => c k j (by omega) (by omega) h3 (by omega)) i hi.1 hi.2
  · rw [h.out i (by omega) (by omega)]
    by_cases hj : a ≤ j ∧ j < b
    · exact h.all (fun x => at' l i ≤ x) (fun k k1 k2 => c i k (by omega) (by omega) (by omega) (by omega)) j hj.1 hj.2
    · rw [h.out j (by omega) (by omega)]; exact c i j h1 h2 h3 h4

theorem pdqsort_spec : ∀ (n : Nat) (l0 : List Int) (a0 b0 lim : Int), 0 ≤ a0 → a0 ≤ b0 → b0 ≤ l0.length → l0.length ≤ 1000000 → b0 - a0 ≤ 16 → b0 - a0 ≤ 12 + lim → 0 ≤ lim → lim ≤ 64 →
    (0 < a0 → ∀ k, a0 ≤ k → k < b0 → at' l0 (a0 - 1) ≤ at' l0 k) → b0 - a0 < n → ∃ l', D.slices_pdqsortOrdered_int64R n l0 a0 b0 lim = some l' ∧ Rg a0 b0 l0 l' ∧ Srt l' a0 b0 := by
  intro n
  induction n with
  | zero => intro l0 a0 b0 lim h1 h2 h3 h4 h5 h6 h7 h8 h9 h10; omega
  | succ n ih =>
    intro l0 a0 b0 lim h1 h2 h3 h4 h5 h6 h7 h8 h9 h10
    unfold D.slices_pdqsortOrdered_int64R
    refine loop_then (fun s => Rg a0 b0 l0 s.1 ∧ Out s.1 a0 b0 s.2.1 s.2.2.1 ∧ a0 ≤ s.2.1 ∧ s.2.1 ≤ s.2.2.1 ∧ s.2.2.1 ≤ b0 ∧ s.2.2.1 - s.2.1 ≤ 12 + s.2.2.2.1 ∧ 0 ≤ s.2.2.2.1 ∧ s.2.2.2.1 ≤ 64 ∧ (0 < s.2.1 → ∀ k, s.2.1 ≤ k → k < s.2.2.1 → at' s.1 (s.2.1 - 1) ≤ at' s.1 k))
      (fun s => (s.2.2.1 - s.2.1).toNat) (fun r => Rg a0 b0 l0 r ∧ Srt r a0 b0) ?_ ?_ ?_
    · rintro ⟨l, a, b, lm, bal, par⟩ ⟨hR, hO, g1, g2, g3, g4, g5, g6, g7⟩
      dsimp only at hR hO g1 g2 g3 g4 g5 g6 g7 ⊢
      have hll := hR.len
      have fin : ∀ l', Rg a b l l' → Srt l' a b → Rg a0 b0 l0 l' ∧ Srt l' a0 b0 := fun l' hr hs =>
        ⟨hR.trans (hr.widen g1 g3 h1), fun i j k1 k2 k3 => by
          by_cases hc : a ≤ i ∧ j < b
          · exact hs i j hc.1 k2 hc.2
          · exact (hO.keep hr h1 g1 g3) i j k1 k2 k3 hc⟩
      rw [w64 (show -9223372036854775808 ≤ b - a by omega) (by omega)]
      by_cases hs : b - a ≤ 12
      · obtain ⟨l', e, r1, r2⟩ := insertionSort_spec l a b (by omega) g2 (by omega) (by omega)
        refine ⟨.inr l', ?_, fin l' r1 r2⟩
        simp only [hs, decide_true, cond_true, e, Option.bind_some]
      · have hl0 : (lm == 0) = false := by simp; omega
        simp only [hs, decide_false, cond_false, hl0]
        refine bind_then (fun q : List Int × Int => Rg a b l q.1 ∧ b - a ≤ 13 + q.2 ∧ 0 ≤ q.2 ∧ q.2 ≤ 64) ?_ ?_
        · cases bal
          · obtain ⟨l1, e, r1⟩ := breakPatterns_spec l a b (by omega) (by omega) (by omega) (by omega) (by omega)
            refine ⟨(l1, lm - 1), ?_, r1, by dsimp only; omega, by dsimp only; omega, by dsimp only; omega⟩
            simp only [Bool.not_false, cond_true, e, Option.bind_some]
            rw [w64 (by omega) (by omega)]
          · exact ⟨(l, lm), rfl, Rg.refl _ _ _, by dsimp only; omega, by dsimp only; omega, by dsimp only; omega⟩
        rintro ⟨l1, lm1⟩ ⟨hr1, k1, k2, k3⟩
        dsimp only at hr1 k1 k2 k3 ⊢
        have hl1 := hr1.len
        obtain ⟨y, ey, c1, c2, c3⟩ := choosePivot_spec l1 a b (by omega) (by omega) (by omega) (by omega) (by omega)
        rw [ey, Option.bind_some]
        refine bind_then (fun q : List Int × Int × Int => Rg a b l q.1 ∧ a ≤ q.2.1 ∧ q.2.1 < b) ?_ ?_
        · cases (y.2.1 == 2)
          · exact ⟨_, rfl, by dsimp only; rw [c1]; exact hr1, c2, c3⟩
          · obtain ⟨l2, e2, r2⟩ := reverseRange_spec l1 a b (by omega) (by omega) (by omega) (by omega)
            rw [c1]
            simp only [cond_true, e2, Option.bind_some]
            rw [w64 (show -9223372036854775808 ≤ b - 1 by omega) (by omega), w64 (show -9223372036854775808 ≤ y.1 - a by omega) (by omega), w64 (show -9223372036854775808 ≤ b - 1 - (y.1 - a) by omega) (by omega)]
            exact ⟨_, rfl, hr1.trans r2, by dsimp only; omega, by dsimp only; omega⟩
        rintro ⟨l2, p, hint⟩ ⟨hr2, p1, p2⟩
        dsimp only at hr2 p1 p2 ⊢
        have hl2 := hr2.len
        refine bind_then (fun q : List Int ⊕ List Int => match q with | .inl q => q = l2 | .inr q => q = l2 ∧ Srt l2 a b) ?_ ?_
        · cases ((bal && par) && (hint == 1))
          · exact ⟨.inl l2, rfl, rfl⟩
          · obtain ⟨y2, e2, d1, d2⟩ := partialInsertion_spec l2 a b (by omega) (by omega) (by omega) (by omega) (by omega)
            simp only [cond_true, e2, Option.bind_some, d1]
            cases hy : y2.1
            · exact ⟨.inl l2, rfl, rfl⟩
            · exact ⟨.inr l2, rfl, rfl, d2 hy⟩
        rintro (q | q) hq
        case inr =>
          obtain ⟨rfl, hq⟩ := hq
          exact ⟨.inr q, rfl, fin q hr2 hq⟩
        dsimp only at hq ⊢
        subst hq
        have hO2 := hO.keep hr2 h1 g1 g3
        have g7' : 0 < a → ∀ k, a ≤ k → k < b → at' q (a - 1) ≤ at' q k := fun ha k m1 m2 => by
          rw [hr2.out (a - 1) (by omega) (.inl (by omega))]
          exact hr2.all (fun x => at' l (a - 1) ≤ x) (g7 ha) k m1 m2
        refine bind_then (fun c : Bool => c = true → 0 < a ∧ at' q p ≤ at' q (a - 1)) ?_ ?_
        · by_cases ha : 0 < a
          · have r1 : idx q (a - 1) = some (at' q (a - 1)) := idx_at (by omega) (by omega)
            have r2 : idx q p = some (at' q p) := idx_at (by omega) (by omega)
            rw [w64 (show -9223372036854775808 ≤ a - 1 by omega) (by omega)]
            simp only [ha, decide_true, cond_true, r1, r2, less_eq, Option.bind_some]
            exact ⟨_, rfl, fun h => ⟨by trivial, by simpa using h⟩⟩
          · simp only [ha, decide_false, cond_false]
            exact ⟨_, rfl, fun h => by cases h⟩
        intro c hc
        cases c
        · -- the pivot parts
          simp only [cond_false]
          obtain ⟨⟨mid, par', l3⟩, e3, P⟩ := partition_spec q a b p (by omega) (by omega) (by omega) p1 p2
          rw [e3, Option.bind_some]
          obtain ⟨hr3, m1, m2, m3, m4⟩ := P
          dsimp only at hr3 m1 m2 m3 m4 ⊢
          have hl3 := hr3.len
          have hO3 := hO2.keep hr3 h1 g1 g3
          have g7'' : 0 < a → ∀ k, a ≤ k → k < b → at' l3 (a - 1) ≤ at' l3 k := fun ha k n1 n2 => by
            rw [hr3.out (a - 1) (by omega) (.inl (by omega))]
            exact hr3.all (fun x => at' q (a - 1) ≤ x) (g7' ha) k n1 n2
          have hR3 : Rg a0 b0 l0 l3 := hR.trans ((hr2.trans hr3).widen g1 g3 h1)
          rw [w64 (show -9223372036854775808 ≤ mid - a by omega) (by omega), w64 (show -9223372036854775808 ≤ b - mid by omega) (by omega), w64 (show -9223372036854775808 ≤ mid + 1 by omega) (by omega)]
          by_cases hside : mid - a < b - mid
          · simp only [hside, decide_true, cond_true]
            obtain ⟨l4, e4, r4, s4⟩ := ih l3 a mid lm1 (by omega) m1 (by omega) (by omega) (by omega) (by omega) k2 k3 (fun ha k n1 n2 => g7'' ha k n1 (by omega)) (by omega)
            rw [e4, Option.bind_some]
            have hl4 := r4.len
            have em : ∀ k, mid ≤ k → at' l4 k = at' l3 k := fun k hk => r4.out k (by omega) (.inr hk)
            have lf : ∀ k, a ≤ k → k < mid → at' l4 k ≤ at' l4 mid := fun k n1 n2 => by
              rw [em mid (Int.le_refl _)]; exact r4.all (fun x => x ≤ at' l3 mid) m3 k n1 n2
            refine ⟨.inl _, rfl, ⟨hR3.trans (r4.widen g1 (by omega) h1), ?_, by dsimp only; omega, by dsimp only; omega, g3, by dsimp only; omega, k2, k3, ?_⟩, by dsimp only; omega⟩
            · have hO4 := hO3.keep (r4.widen (Int.le_refl a) (by omega) (by omega)) h1 g1 g3
              intro i j n1 n2 n3 n4
              dsimp only at n4 ⊢
              by_cases hin : a ≤ i ∧ j < b
              · by_cases hj : j < mid
                · exact s4 i j hin.1 n2 hj
                · have hi : i ≤ mid := by omega
                  have e1 : at' l4 i ≤ at' l4 mid := by
                    by_cases e : i = mid
                    · rw [e]; exact Int.le_refl _
                    · exact lf i hin.1 (by omega)
                  have e2 : at' l4 mid ≤ at' l4 j := by
                    by_cases e : j = mid
                    · rw [e]; exact Int.le_refl _
                    · rw [em mid (Int.le_refl _), em j (by omega)]; exact m4 j (by omega) hin.2
                  omega
              · exact hO4 i j n1 n2 n3 hin
            · intro _ k n1 n2
              dsimp only at n1 n2 ⊢
              rw [show mid + 1 - 1 = mid by omega, em mid (Int.le_refl _), em k (by omega)]
              exact m4 k (by omega) n2
          · simp only [hside, decide_false, cond_false]
            obtain ⟨l4, e4, r4, s4⟩ := ih l3 (mid + 1) b lm1 (by omega) (by omega) (by omega) (by omega) (by omega) (by omega) k2 k3 (fun _ k n1 n2 => by rw [show mid + 1 - 1 = mid by omega]; exact m4 k (by omega) n2) (by omega)
            rw [e4, Option.bind_some]
            have hl4 := r4.len
            have em : ∀ k, 0 ≤ k → k ≤ mid → at' l4 k = at' l3 k := fun k h0 hk => r4.out k h0 (.inl (by omega))
            have rt : ∀ k, mid < k → k < b → at' l4 mid ≤ at' l4 k := fun k n1 n2 => by
              rw [em mid (by omega) (Int.le_refl _)]; exact r4.all (fun x => at' l3 mid ≤ x) (fun k q1 q2 => m4 k (by omega) q2) k (by omega) n2
            refine ⟨.inl _, rfl, ⟨hR3.trans (r4.widen (by omega) g3 h1), ?_, g1, m1, by dsimp only; omega, by dsimp only; omega, k2, k3, ?_⟩, by dsimp only; omega⟩
            · have hO4 := hO3.keep (r4.widen (by omega) (Int.le_refl b) (by omega)) h1 g1 g3
              intro i j n1 n2 n3 n4
              dsimp only at n4 ⊢
              by_cases hin : a ≤ i ∧ j < b
              · by_cases hi : mid < i
                · exact s4 i j (by omega) n2 hin.2
                · have hj : mid ≤ j := by omega
                  have e1 : at' l4 i ≤ at' l4 mid := by
                    by_cases e : i = mid
                    · rw [e]; exact Int.le_refl _
                    · rw [em i (by omega) (by omega), em mid (by omega) (Int.le_refl _)]; exact m3 i hin.1 (by omega)
                  have e2 : at' l4 mid ≤ at' l4 j := by
                    by_cases e : j = mid
                    · rw [e]; exact Int.le_refl _
                    · exact rt j (by omega) hin.2
                  omega
              · exact hO4 i j n1 n2 n3 hin
            · intro ha k n1 n2
              dsimp only at ha n1 n2 ⊢
              rw [em (a - 1) (by omega) (by omega), em k (by omega) (by omega)]
              exact g7'' ha k n1 (by omega)
        · -- many are equal to the pivot
          simp only [cond_true]
          obtain ⟨hc1, hc2⟩ := hc rfl
          obtain ⟨⟨mid, l3⟩, e3, hr3, m1, m2, m3, m4⟩ := partitionEqual_spec q a b p (by omega) (by omega) (by omega) p1 p2
          rw [e3, Option.bind_some]
          dsimp only at hr3 m1 m2 m3 m4 ⊢
          have hl3 := hr3.len
          have hO3 := hO2.keep hr3 h1 g1 g3
          have lw : ∀ k, a ≤ k → k < b → at' q p ≤ at' l3 k := fun k n1 n2 =>
            hr3.all (fun x => at' q p ≤ x) (fun k q1 q2 => Int.le_trans hc2 (g7' hc1 k q1 q2)) k n1 n2
          refine ⟨.inl _, rfl, ⟨hR.trans ((hr2.trans hr3).widen g1 g3 h1), ?_, by dsimp only; omega, m2, g3, by dsimp only; omega, k2, k3, ?_⟩, by dsimp only; omega⟩
          · intro i j n1 n2 n3 n4
            dsimp only at n4 ⊢
            by_cases hin : a ≤ i ∧ j < b
            · have := m3 i hin.1 (by omega)
              have := lw j (by omega) hin.2
              omega
            · exact hO3 i j n1 n2 n3 hin
          · intro _ k n1 n2
            dsimp only at n1 n2 ⊢
            have := m3 (mid - 1) (by omega) (by omega)
            have := m4 k n1 n2
            omega
    · exact ⟨Rg.refl _ _ _, fun i j n1 n2 n3 n4 => by dsimp only at n4; omega, Int.le_refl _, h2, Int.le_refl _, h6, h7, h8, h9⟩
    · rintro r hr
      exact ⟨r, rfl, hr⟩
end Go.Sx

namespace Go.Sx
/-- slices.Sorted(slices.Values(l)), of a list that is not long -/
theorem sorted_spec (l : List Int) (hl : l.length ≤ 16) : ∃ y, D.slices_Sorted_int64 l = some y ∧ List.Perm y l ∧ Srt y 0 y.length := by
  unfold D.slices_Sorted_int64 D.slices_Collect_int64 D.slices_AppendSeq_int64_int64 D.slices_Sort_int64_int64 D.slices_pdqsortOrdered_int64 D.math_bits_Len
  rw [if_pos (show l.length ≤ 1000000 by omega)]
  simp only [Option.bind_some]
  rw [wu64 (by omega) (by omega), if_pos (by omega)]
  simp only [Option.bind_some]
  have hk : ∀ k : Nat, k ≤ 16 → k ≤ 12 + Lib.bitLen k ∧ Lib.bitLen k ≤ 64 := by decide
  obtain ⟨k1, k2⟩ := hk l.length hl
  have e : ((l.length : Int)).toNat = l.length := by omega
  have hb := recFuel_big
  obtain ⟨y, hy, hr, hs⟩ := pdqsort_spec recFuel l 0 l.length (Lib.bitLen l.length : Nat) (by omega) (by omega) (by omega) (by omega) (by omega) (by omega) (by omega) (by omega) (fun h => absurd h (by omega)) (by omega)
  rw [e, hy]
  refine ⟨y, rfl, hr.perm, ?_⟩
  rw [hr.len]; exact hs
end Go.Sx



/- The program's and the reference's first helpers in closed form: sets, graphs, orders. Plain. -/
namespace Go.Sx
/-- short enough for every loop -/
def Sh {α : Type} (xs : List α) : Prop := xs.length ≤ 4294967296

theorem l1In_eq (a b c : Int) : D.spec_l1In a b c = some (decide (b ≤ a) && decide (a ≤ c)) := rfl
theorem inRange_eq (a b c : Int) : D.impl_inRange a b c = some (decide (b ≤ a) && decide (a ≤ c)) := rfl

theorem any_beq (xs : List Int) (n : Int) : xs.any (fun x => x == n) = decide (n ∈ xs) := by
  rw [Bool.eq_iff_iff, List.any_eq_true]; simp
theorem l1Has_eq (xs : List Int) (n : Int) (h : Sh xs) : D.spec_l1Has xs n = some (decide (n ∈ xs)) := by
  unfold Sh at h
  unfold D.spec_l1Has
  refine (loop_anyb xs.length (fun i => xs.getD i 0 == n) true (fun i hi => ?_) ?_ rfl rfl).trans ?_
  · simp only [dlt hi, cond_true, idx_nat hi, Option.bind_some, wi' hi (by omega), getD_lt hi]
    cases xs[i] == n <;> rfl
  · simp only [dnlt, cond_false]
  · rw [range_any_list xs (fun x => x == n) _ (fun i hi => by rw [getD_lt hi]), any_beq]
theorem contains_eq (xs : List Int) (n : Int) (h : Sh xs) : D.slices_Contains_int64_int64 xs n = some (decide (n ∈ xs)) := by
  unfold Sh at h
  unfold D.slices_Contains_int64_int64 D.slices_Index_int64_int64
  have e : loopF (σ := Int) (ρ := (Unit) ⊕ (Int)) (fun (x_26 : Int) => cond (decide (x_26 < (xs.length : Int))) ((idx xs x_26).bind fun e_39 => cond (n == e_39) (some (.inr (.inr x_26))) (some (.inl (IntKind.i64.wrap (x_26 + 1))))) (some (.inr (.inl ())))) 0 =
      some (((List.range xs.length).findSome? (fun i => if xs.getD i 0 == n then some (Sum.inr (i : Int)) else none)).getD (.inl ())) := by
    refine loop_find xs.length _ _ (fun i hi => ?_) ?_
    · simp only [dlt hi, cond_true, idx_nat hi, Option.bind_some, wi' hi (by omega), getD_lt hi]
      rw [show (n == xs[i]) = (xs[i] == n) from Bool.beq_comm ..]
      cases xs[i] == n <;> rfl
    · simp only [dnlt, cond_false]
  rw [e, Option.bind_some]
  cases hf : (List.range xs.length).findSome? (fun i => if xs.getD i 0 == n then some (Sum.inr (i : Int) : Unit ⊕ Int) else none) with
  | none =>
    have : n ∉ xs := fun hm => by
      obtain ⟨i, hi, e⟩ := List.getElem_of_mem hm
      have := (List.findSome?_eq_none_iff.1 hf) i (List.mem_range.2 hi)
      rw [getD_lt hi, e] at this
      simp at this
    simp [this]
  | some r =>
    obtain ⟨i, hi, hr⟩ := List.exists_of_findSome?_eq_some hf
    have hi' := List.mem_range.1 hi
    rw [getD_lt hi'] at hr
    split at hr
    · rename_i hc
      cases hr
      have : n ∈ xs := by rw [← (beq_iff_eq.1 hc)]; exact List.getElem_mem _
      simp [this]
    · cases hr

/-- a set of numbers below n, as a list -/
def SetOf (xs : List Int) (n : Int) : Prop := Inc xs ∧ ∀ x ∈ xs, 0 ≤ x ∧ x < n
theorem SetOf.len : ∀ {xs : List Int} {n a : Int}, Inc xs → (∀ x ∈ xs, a ≤ x ∧ x < n) → xs = [] ∨ (xs.length : Int) ≤ n - a
  | [], _, _, _, _ => .inl rfl
  | x :: xs, n, a, h, hr => by
    right
    have h' := List.pairwise_cons.1 h
    have hx := hr x (by simp)
    rcases SetOf.len (a := x + 1) (n := n) h'.2 (fun y hy => ⟨by have := h'.1 y hy; omega, (hr y (by simp [hy])).2⟩) with e | e
    · subst e; simp; omega
    · simp; omega
theorem SetOf.length_le {xs : List Int} {n : Int} (h : SetOf xs n) (hn : 0 ≤ n) : (xs.length : Int) ≤ n := by
  rcases SetOf.len h.1 h.2 with e | e
  · subst e; simpa using hn
  · omega

theorem inc_iff (xs : List Int) : Inc xs ↔ ∀ i (hi : i + 1 < xs.length), xs[i] < xs[i + 1] := by
  unfold Inc
  constructor
  · intro h i hi
    exact List.pairwise_iff_getElem.1 h i (i + 1) (by omega) hi (by omega)
  · intro h
    rw [List.pairwise_iff_getElem]
    intro i j hi hj hij
    have key : ∀ k, ∀ hk : i + k + 1 < xs.length, xs[i] < xs[i + k + 1] := by
      intro k
      induction k with
      | zero => intro hk; exact h i hk
      | succ k ih => intro hk; have := ih (by omega); have := h (i + k + 1) hk; exact Int.lt_trans (ih (by omega)) this
    obtain ⟨k, rfl⟩ : ∃ k, j = i + k + 1 := ⟨j - i - 1, by omega⟩
    exact key k hj

def setB (xs : List Int) (n : Int) : Bool := (List.range xs.length).all fun i => (decide (0 ≤ xs.getD i 0) && decide (xs.getD i 0 ≤ n - 1)) && !(decide (0 < i) && decide (xs.getD i 0 ≤ xs.getD (i - 1) 0))
theorem setB_iff (xs : List Int) (n : Int) : setB xs n = true ↔ SetOf xs n := by
  unfold setB SetOf
  rw [all_forall, inc_iff]
  constructor
  · intro h
    refine ⟨fun i hi => ?_, fun x hx => ?_⟩
    · have := h (i + 1) hi
      simp [hi, show i < xs.length by omega] at this
      omega
    · obtain ⟨i, hi, rfl⟩ := List.getElem_of_mem hx
      have := h i hi
      simp [hi] at this
      omega
  · rintro ⟨h1, h2⟩ i hi
    have h3 := h2 _ (List.getElem_mem hi)
    simp [hi]
    refine ⟨by omega, ?_⟩
    rcases Nat.eq_zero_or_pos i with h0 | h0
    · exact .inl h0
    · right
      have := h1 (i - 1) (by omega)
      have e : i - 1 + 1 = i := by omega
      simp only [e] at this
      have e2 : xs[i - 1]?.getD 0 = xs[i - 1] := by rw [List.getElem?_eq_getElem (by omega)]; rfl
      rw [e2]; exact this

theorem increasing_eq (xs : List Int) (n : Int) (h : Sh xs) (h0 : 0 ≤ n) (hn : n ≤ 4294967296) : D.impl_increasing xs n = some (setB xs n) := by
  unfold Sh at h
  unfold D.impl_increasing
  refine loop_allb xs.length _ false (fun i hi => ?_) ?_ rfl rfl
  · simp only [dlt hi, cond_true, idx_nat hi, Option.bind_some, wi' hi (by omega), getD_lt hi, inRange_eq]
    rw [w64 (x := n - 1) (by omega) (by omega)]
    cases (decide (0 ≤ xs[i]) && decide (xs[i] ≤ n - 1))
    · simp
    · by_cases h0 : 0 < i
      · have e1 : IntKind.i64.wrap ((i : Int) - 1) = ((i - 1 : Nat) : Int) := by rw [w64 (by omega) (by omega)]; omega
        have hd : decide ((0 : Int) < (i : Int)) = true := by simp; omega
        simp only [Bool.not_true, cond_false, hd, cond_true, e1, idx_nat (show i - 1 < xs.length by omega), Option.bind_some, getD_lt (show i - 1 < xs.length by omega), h0, decide_true, Bool.true_and]
        cases decide (xs[i] ≤ xs[i - 1]) <;> rfl
      · have hd : decide ((0 : Int) < (i : Int)) = false := by simp; omega
        simp only [Bool.not_true, cond_false, hd, Option.bind_some, h0, decide_false, Bool.false_and, Bool.not_false, Bool.and_true, if_true]
  · simp only [dnlt, cond_false]

theorem l1Set_eq (xs : List Int) (n : Int) (h : Sh xs) (h0 : 0 ≤ n) (hn : n ≤ 4294967296) : D.spec_l1Set xs n = some (setB xs n) := by
  have hh := h
  unfold Sh at h
  unfold D.spec_l1Set
  by_cases hl : n < xs.length
  · have : setB xs n = false := by
      cases hb : setB xs n
      · rfl
      · have := ((setB_iff xs n).1 hb).length_le h0; omega
    simp [hl, this]
  · simp only [hl, decide_false, cond_false]
    refine loop_allb xs.length _ false (fun i hi => ?_) ?_ rfl rfl
    · simp only [dlt hi, cond_true, idx_nat hi, Option.bind_some, wi' hi (by omega), getD_lt hi, l1In_eq]
      rw [w64 (x := n - 1) (by omega) (by omega)]
      cases (decide (0 ≤ xs[i]) && decide (xs[i] ≤ n - 1))
      · simp
      · by_cases h0 : 0 < i
        · have e1 : IntKind.i64.wrap ((i : Int) - 1) = ((i - 1 : Nat) : Int) := by rw [w64 (by omega) (by omega)]; omega
          have hd : decide ((0 : Int) < (i : Int)) = true := by simp; omega
          simp only [Bool.not_true, cond_false, hd, cond_true, e1, idx_nat (show i - 1 < xs.length by omega), Option.bind_some, getD_lt (show i - 1 < xs.length by omega), h0, decide_true, Bool.true_and]
          cases decide (xs[i] ≤ xs[i - 1]) <;> rfl
        · have hd : decide ((0 : Int) < (i : Int)) = false := by simp; omega
          simp only [Bool.not_true, cond_false, hd, Option.bind_some, h0, decide_false, Bool.false_and, Bool.not_false, Bool.and_true, if_true]
    · simp only [dnlt, cond_false]

/-- row v of a graph -/
def row (g : List (List Int)) (v : Nat) : List Int := g.getD v []
theorem row_eq {g : List (List Int)} {v : Nat} (h : v < g.length) : row g v = g[v] := getD_lt h _
def adj (g : List (List Int)) (u v : Nat) : Prop := (v : Int) ∈ row g u

/-- a valid graph -/
structure GOk (g : List (List Int)) : Prop where
  n1 : 1 ≤ g.length
  n16 : g.length ≤ 16
  rows : ∀ v, v < g.length → SetOf (row g v) g.length
  irr : ∀ v, v < g.length → ¬ adj g v v
  sym : ∀ u v, u < g.length → adj g u v → adj g v u

theorem GOk.mem {g : List (List Int)} (h : GOk g) {u : Nat} (hu : u < g.length) {x : Int} (hx : x ∈ row g u) : ∃ v : Nat, x = v ∧ v < g.length ∧ adj g u v := by
  have := (h.rows u hu).2 x hx
  refine ⟨x.toNat, by omega, by omega, ?_⟩
  unfold adj
  rw [show ((x.toNat : Nat) : Int) = x by omega]; exact hx
theorem GOk.row_len {g : List (List Int)} (h : GOk g) {u : Nat} (hu : u < g.length) : (row g u).length ≤ 16 := by
  have := (h.rows u hu).length_le (by omega)
  have := h.n16
  omega
theorem GOk.lt {g : List (List Int)} (h : GOk g) {u v : Nat} (hu : u < g.length) (ha : adj g u v) : v < g.length := by
  obtain ⟨w, h1, h2, _⟩ := h.mem hu ha
  omega

/-- short in both ways -/
def Sh2 (g : List (List Int)) : Prop := Sh g ∧ ∀ r ∈ g, Sh r
theorem Sh2.row {g : List (List Int)} (h : Sh2 g) {v : Nat} (hv : v < g.length) : Sh (row g v) := by
  rw [row_eq hv]; exact h.2 _ (List.getElem_mem hv)
theorem idx_row {g : List (List Int)} {v : Nat} (h : v < g.length) : idx g (v : Int) = some (row g v) := by rw [row_eq h, idx_nat h]

def gB1 (g : List (List Int)) : Bool := (List.range g.length).all fun v => setB (row g v) g.length && !decide ((v : Int) ∈ row g v)
def gB2 (g : List (List Int)) : Bool := (List.range g.length).all fun v => (row g v).all fun x => decide ((v : Int) ∈ row g x.toNat)
def gB (g : List (List Int)) : Bool := decide (1 ≤ g.length) && decide (g.length ≤ 16) && gB1 g && gB2 g
theorem gB_iff (g : List (List Int)) : gB g = true ↔ GOk g := by
  unfold gB gB1 gB2
  simp only [Bool.and_eq_true, decide_eq_true_eq, setB_iff, Bool.not_eq_true', decide_eq_false_iff_not, List.all_eq_true, List.mem_range]
  constructor
  · rintro ⟨⟨⟨h1, h2⟩, h3⟩, h4⟩
    refine ⟨h1, h2, fun v hv => (h3 v hv).1, fun v hv => (h3 v hv).2, fun u v hu ha => ?_⟩
    have := h4 u hu v ha
    unfold adj
    simpa using this
  · intro h
    refine ⟨⟨⟨h.n1, h.n16⟩, fun v hv => ⟨h.rows v hv, h.irr v hv⟩⟩, fun v hv x hx => ?_⟩
    obtain ⟨u, rfl, hu, ha⟩ := h.mem hv hx
    have := h.sym v u hv ha
    simpa [adj] using this

theorem spec_GraphOk_eq (g : List (List Int)) (h : Sh2 g) : D.spec_GraphOk g = some (gB g) := by
  have hl : g.length ≤ 4294967296 := h.1
  unfold D.spec_GraphOk D.spec_l1Size
  simp only [Option.bind_some, l1In_eq]
  by_cases hn : 1 ≤ g.length ∧ g.length ≤ 16
  · have e : (decide ((1 : Int) ≤ (g.length : Int)) && decide ((g.length : Int) ≤ 16)) = true := by simp; omega
    simp only [e, Bool.not_true, cond_false]
    refine (loop_ck g.length (fun v => setB (row g v) g.length && !decide ((v : Int) ∈ row g v)) (.inl ()) (.inr false) (fun v hv => ?_) ?_).trans ?_
    rotate_left
    · simp only [dnlt, cond_false]
    · show cond (gB1 g) _ _ = _
      have e4 : gB g = (gB1 g && gB2 g) := by unfold gB; simp [hn.1, hn.2]
      rw [e4]
      cases hc : gB1 g with
      | false => rfl
      | true =>
        rw [cond_true, Bool.true_and]
        refine loop_allb g.length _ false (fun v hv => ?_) ?_ rfl rfl
        · have hset : SetOf (row g v) g.length := by
            have := (all_forall _ _).1 hc v hv
            simp only [Bool.and_eq_true] at this
            exact (setB_iff _ _).1 this.1
          simp only [dlt hv, cond_true]
          refine (loop_ck (row g v).length (fun i => decide ((v : Int) ∈ row g ((row g v).getD i 0).toNat)) (.inl ()) (.inr false) (fun i hi => ?_) ?_).trans ?_
          · have hx := hset.2 _ (List.getElem_mem hi)
            have e5 : idx g (row g v)[i] = some (row g ((row g v)[i]).toNat) := by
              have := idx_row (g := g) (v := ((row g v)[i]).toNat) (by omega)
              rwa [show ((((row g v)[i]).toNat : Nat) : Int) = (row g v)[i] by omega] at this
            have hs := h.row (v := ((row g v)[i]).toNat) (by omega)
            simp only [idx_row hv, Option.bind_some, dlt hi, cond_true, idx_nat hi, e5, l1Has_eq _ _ hs, wi (show i < 4611686018427387904 by have := h.row hv; unfold Sh at this; omega), getD_lt hi]
            cases decide ((v : Int) ∈ row g ((row g v)[i]).toNat) <;> rfl
          · simp only [idx_row hv, Option.bind_some, dnlt, cond_false]
          · rw [range_all_list (row g v) (fun x => decide ((v : Int) ∈ row g x.toNat)) _ (fun i hi => by rw [getD_lt hi]), wi' hv (by omega)]
            cases (row g v).all fun x => decide ((v : Int) ∈ row g x.toNat) <;> rfl
        · simp only [dnlt, cond_false]
    · simp only [dlt hv, cond_true, idx_row hv, Option.bind_some, l1Set_eq _ _ (h.row hv) (show (0 : Int) ≤ (g.length : Int) by omega) (by omega), l1Has_eq _ _ (h.row hv), wi' hv (by omega)]
      cases setB (row g v) g.length
      · rfl
      · cases decide ((v : Int) ∈ row g v) <;> rfl
  · have e : (decide ((1 : Int) ≤ (g.length : Int)) && decide ((g.length : Int) ≤ 16)) = false := by
      rw [Bool.eq_false_iff]; simp; omega
    simp only [e, Bool.not_false, cond_true]
    unfold gB
    congr 1
    symm
    rw [Bool.eq_false_iff]
    simp
    omega

theorem impl_GraphOk_eq (g : List (List Int)) (h : Sh2 g) : D.impl_GraphOk g = some (gB g) := by
  have hl : g.length ≤ 4294967296 := h.1
  unfold D.impl_GraphOk
  by_cases hn : 1 ≤ g.length ∧ g.length ≤ 16
  · have e : (decide ((g.length : Int) < (1 : Int)) || decide ((16 : Int) < (g.length : Int))) = false := by simp; omega
    simp only [e, cond_false]
    refine (loop_ck g.length (fun v => setB (row g v) g.length && !decide ((v : Int) ∈ row g v)) (.inl ()) (.inr false) (fun v hv => ?_) ?_).trans ?_
    rotate_left
    · simp only [dnlt, cond_false]
    · show cond (gB1 g) _ _ = _
      have e4 : gB g = (gB1 g && gB2 g) := by unfold gB; simp [hn.1, hn.2]
      rw [e4]
      cases hc : gB1 g with
      | false => rfl
      | true =>
        rw [cond_true, Bool.true_and]
        refine loop_allb g.length _ false (fun v hv => ?_) ?_ rfl rfl
        · have hset : SetOf (row g v) g.length := by
            have := (all_forall _ _).1 hc v hv
            simp only [Bool.and_eq_true] at this
            exact (setB_iff _ _).1 this.1
          simp only [dlt hv, cond_true, idx_row hv, Option.bind_some]
          refine (loop_ck (row g v).length (fun i => decide ((v : Int) ∈ row g ((row g v).getD i 0).toNat)) (.inl ()) (.inr false) (fun i hi => ?_) ?_).trans ?_
          · have hx := hset.2 _ (List.getElem_mem hi)
            have e5 : idx g (row g v)[i] = some (row g ((row g v)[i]).toNat) := by
              have := idx_row (g := g) (v := ((row g v)[i]).toNat) (by omega)
              rwa [show ((((row g v)[i]).toNat : Nat) : Int) = (row g v)[i] by omega] at this
            have hs := h.row (v := ((row g v)[i]).toNat) (by omega)
            simp only [Option.bind_some, dlt hi, cond_true, idx_nat hi, e5, contains_eq _ _ hs, wi (show i < 4611686018427387904 by have := h.row hv; unfold Sh at this; omega), getD_lt hi]
            cases decide ((v : Int) ∈ row g ((row g v)[i]).toNat) <;> rfl
          · simp only [dnlt, cond_false]
          · rw [range_all_list (row g v) (fun x => decide ((v : Int) ∈ row g x.toNat)) _ (fun i hi => by rw [getD_lt hi]), wi' hv (by omega)]
            cases (row g v).all fun x => decide ((v : Int) ∈ row g x.toNat) <;> rfl
        · simp only [dnlt, cond_false]
    · simp only [dlt hv, cond_true, idx_row hv, Option.bind_some, increasing_eq _ _ (h.row hv) (show (0 : Int) ≤ (g.length : Int) by omega) (by omega), contains_eq _ _ (h.row hv), wi' hv (by omega)]
      cases setB (row g v) g.length
      · rfl
      · cases decide ((v : Int) ∈ row g v) <;> rfl
  · have e : (decide ((g.length : Int) < (1 : Int)) || decide ((16 : Int) < (g.length : Int))) = true := by
      simp; omega
    simp only [e, cond_true]
    unfold gB
    congr 1
    symm
    rw [Bool.eq_false_iff]
    simp
    omega
end Go.Sx

/- Orders; the program's sets as bit masks; the reference's rising lists. Plain. -/
namespace Go.Sx
/-- an order of a graph -/
structure OOk (g : List (List Int)) (o : List Int) : Prop where
  len : o.length = g.length
  rng : ∀ x ∈ o, 0 ≤ x ∧ x < g.length
  nd : o.Nodup

def oB (g : List (List Int)) (o : List Int) : Bool := (List.range o.length).all fun i => (decide (0 ≤ o.getD i 0) && decide (o.getD i 0 ≤ (g.length : Int) - 1)) && !decide (o.getD i 0 ∈ o.take i)
theorem mem_take_iff {α : Type} {l : List α} {i : Nat} {x : α} : x ∈ l.take i ↔ ∃ j, ∃ h : j < l.length, j < i ∧ l[j] = x := by
  rw [List.mem_take_iff_getElem]
  constructor
  · rintro ⟨j, h, e⟩; exact ⟨j, by omega, by omega, e⟩
  · rintro ⟨j, h, h2, e⟩; exact ⟨j, by omega, e⟩
theorem nodup_iff {l : List Int} : l.Nodup ↔ ∀ i (hi : i < l.length), l[i] ∉ l.take i := by
  constructor
  · intro h i hi hm
    obtain ⟨j, hj, hji, e⟩ := mem_take_iff.1 hm
    have := (List.pairwise_iff_getElem.1 h) j i hj hi hji
    exact this e
  · intro h
    refine List.pairwise_iff_getElem.2 (fun i j hi hj hij e => h j hj (mem_take_iff.2 ⟨i, hi, hij, e⟩))
theorem oB_iff (g : List (List Int)) (o : List Int) (hl : o.length = g.length) : oB g o = true ↔ OOk g o := by
  unfold oB
  rw [all_forall]
  constructor
  · intro h
    refine ⟨hl, fun x hx => ?_, nodup_iff.2 fun i hi => ?_⟩
    · obtain ⟨i, hi, rfl⟩ := List.getElem_of_mem hx
      have := h i hi
      rw [getD_lt hi] at this
      simp at this; omega
    · have := h i hi
      rw [getD_lt hi] at this
      simp at this; exact this.2
  · intro h i hi
    have h1 := h.rng _ (List.getElem_mem hi)
    have h2 := nodup_iff.1 h.nd i hi
    rw [getD_lt hi]
    simp [h2]; omega

def ordB (g : List (List Int)) (o : List Int) : Bool := decide (o.length = g.length) && oB g o
theorem ordB_iff (g : List (List Int)) (o : List Int) : ordB g o = true ↔ OOk g o := by
  unfold ordB
  by_cases hl : o.length = g.length
  · simp [hl, oB_iff g o hl]
  · simp [hl]; intro h; exact hl h.len

theorem sorted_inc {y : List Int} (hs : Srt y 0 y.length) (hn : y.Nodup) : Inc y := by
  unfold Inc
  rw [List.pairwise_iff_getElem]
  intro i j hi hj hij
  have h1 := hs i j (by omega) (by omega) (by omega)
  have h2 := (List.pairwise_iff_getElem.1 hn) i j hi hj hij
  simp [at', hi, hj] at h1
  have : y[i] ≠ y[j] := h2
  omega
theorem impl_OrderOk_eq (g : List (List Int)) (o : List Int) (h : Sh2 g) (ho : Sh o) : D.impl_OrderOk g o = some (gB g && ordB g o) := by
  unfold D.impl_OrderOk
  rw [impl_GraphOk_eq g h, Option.bind_some]
  cases hg : gB g
  · rfl
  · have hg' := (gB_iff g).1 hg
    by_cases hl : o.length = g.length
    · have e : ((o.length : Int) != (g.length : Int)) = false := by simp [hl]
      have h16 := hg'.n16
      obtain ⟨y, h1, h2, h3⟩ := sorted_spec o (by omega)
      have hyl := h2.length_eq
      simp only [Bool.not_true, e, Bool.or_false, cond_false, h1, Option.bind_some, Bool.true_and]
      rw [increasing_eq y _ (by unfold Sh; omega) (by omega) (by omega), Option.bind_some]
      congr 1
      unfold ordB
      simp only [hl, decide_true, Bool.true_and]
      rw [Bool.eq_iff_iff, setB_iff, oB_iff g o hl]
      constructor
      · rintro ⟨k1, k2⟩
        refine ⟨hl, fun x hx => k2 x (h2.mem_iff.2 hx), h2.nodup_iff.1 ?_⟩
        exact List.Pairwise.imp (fun h e => by omega) k1
      · intro k
        exact ⟨sorted_inc h3 (h2.nodup_iff.2 k.nd), fun x hx => k.rng x (h2.mem_iff.1 hx)⟩
    · have e : ((o.length : Int) != (g.length : Int)) = true := by simp; omega
      simp [e, ordB, hl]

/-! ### masks -/
theorem impl_one_eq (v : Nat) : D.impl_one (v : Int) = some (ishl .u32 1 (v : Int)) := by
  unfold D.impl_one
  have : decide ((v : Int) < 0) = false := by simp
  rw [this]; rfl
theorem impl_one_eq' {x : Int} (h : 0 ≤ x) : D.impl_one x = some (ishl .u32 1 x) := by
  have := impl_one_eq x.toNat
  rwa [show ((x.toNat : Nat) : Int) = x by omega] at this
def mk (xs : List Int) : Int := xs.foldl (fun s v => ior .u32 s (ishl .u32 1 v)) 0
theorem maskOf_eq (xs : List Int) (h : Sh xs) (h0 : ∀ x ∈ xs, 0 ≤ x) : D.impl_maskOf xs = some (mk xs) := by
  unfold Sh at h
  unfold D.impl_maskOf
  refine (loop_listb xs (fun s i => (s, i)) (fun s v => ior .u32 s (ishl .u32 1 v)) (fun s => s) (fun _ => True) 0 trivial (fun s i hi _ => ⟨?_, trivial⟩) (fun s _ => ?_)).trans rfl
  · simp only [dlt hi, cond_true, idx_nat hi, Option.bind_some, wi' hi (by omega), impl_one_eq' (h0 _ (List.getElem_mem hi))]
  · simp only [dnlt, cond_false]
theorem VS_foldl_ior : ∀ (xs : List Int) (s : Int), VS s → VS (xs.foldl (fun s v => ior .u32 s (ishl .u32 1 v)) s)
  | [], s, h => h
  | x :: xs, s, _ => VS_foldl_ior xs _ (VS.ior _ _)
theorem VS.mk (xs : List Int) : VS (mk xs) := VS_foldl_ior xs 0 VS.zero
theorem has_foldl_ior (u : Nat) : ∀ (xs : List Int) (s : Int), VS s → (∀ x ∈ xs, 0 ≤ x ∧ x < 32) → has (xs.foldl (fun s v => ior .u32 s (ishl .u32 1 v)) s) u = (has s u || decide ((u : Int) ∈ xs))
  | [], s, _, _ => by simp
  | x :: xs, s, hs, h => by
    have hx := h x (by simp)
    rw [List.foldl_cons, has_foldl_ior u xs _ (VS.ior _ _) (fun y hy => h y (by simp [hy])), has_ior hs (VS.ishl _ _)]
    obtain ⟨k, rfl⟩ : ∃ k : Nat, x = k := ⟨x.toNat, by omega⟩
    rw [has_one (by omega)]
    by_cases hu : u = k
    · subst hu; simp
    · have : ¬ (u : Int) = (k : Int) := by omega
      simp [hu, this]
theorem has_mk {xs : List Int} (h : ∀ x ∈ xs, 0 ≤ x ∧ x < 32) (u : Nat) : has (mk xs) u = decide ((u : Int) ∈ xs) := by
  unfold mk; rw [has_foldl_ior u xs 0 VS.zero h, has_zero, Bool.false_or]

theorem GOk.mem0 {g : List (List Int)} (hg : GOk g) {r : List Int} (hr : r ∈ g) : r.length ≤ 16 ∧ ∀ x ∈ r, 0 ≤ x ∧ x < g.length := by
  obtain ⟨v, hv, rfl⟩ := List.getElem_of_mem hr
  rw [← row_eq hv]
  exact ⟨hg.row_len hv, (hg.rows v hv).2⟩
theorem netsOf_eq (g : List (List Int)) (hg : GOk g) : D.impl_netsOf g = some (g.map mk) := by
  have h16 := hg.n16
  unfold D.impl_netsOf
  refine (loop_map g (fun s i => (s, i)) mk (by omega) (fun s i hi _ => ?_) (fun s => ?_)).trans rfl
  · obtain ⟨h1, h2⟩ := hg.mem0 (List.getElem_mem hi)
    simp only [dlt hi, cond_true, idx_nat hi, Option.bind_some, wi' hi (by omega), maskOf_eq g[i] (by unfold Sh; omega) (fun x hx => (h2 x hx).1)]
  · simp only [dnlt, cond_false]
theorem narrow_eq (xs : List Int) (h : Sh xs) : D.impl_narrow xs = some xs := by
  unfold Sh at h
  unfold D.impl_narrow
  rw [makeD_zero (by omega) (by omega), Option.bind_some]
  refine (loop_map xs (fun s i => (s, i)) (fun x => x) h (fun s i hi _ => ?_) (fun s => ?_)).trans (by simp)
  · simp only [dlt hi, cond_true, idx_nat hi, Option.bind_some, wi' hi (by omega)]
  · simp only [dnlt, cond_false]
theorem wide_eq (xs : List Int) (h : Sh xs) : D.impl_wide xs = some xs := by
  unfold Sh at h
  unfold D.impl_wide
  rw [makeD_zero (by omega) (by omega), Option.bind_some]
  refine (loop_map xs (fun s i => (s, i)) (fun x => x) h (fun s i hi _ => ?_) (fun s => ?_)).trans (by simp)
  · simp only [dlt hi, cond_true, idx_nat hi, Option.bind_some, wi' hi (by omega)]
  · simp only [dnlt, cond_false]

theorem least_eq {s : Int} (h : VS s) (h0 : s ≠ 0) : ∃ k : Nat, k < 32 ∧ D.impl_vset_least s = some (k : Int) ∧ has s k = true ∧ (∀ v, v < k → has s v = false) ∧
    (∀ v, has (iand .u32 s (IntKind.u32.wrap (s - 1))) v = (has s v && !decide (v = k))) := by
  obtain ⟨k, h1, h2, h3, h4, h5⟩ := least_spec h h0
  refine ⟨k, h1, ?_, h2, h3, h5⟩
  unfold D.impl_vset_least D.math_bits_TrailingZeros32
  have e : (s == 0) = false := by simpa using h0
  simp only [e, cond_false, h4, tz_table k h1, Option.bind_some]
  rw [w64 (by omega) (by omega)]

theorem list_eq (s : Int) (h : VS s) : D.impl_vset_list s = some (elems s) := by
  unfold D.impl_vset_list
  have key : ∀ (n : Nat) (x : Int) (l : List Int), VS x → (elems x).length = n → l.length + n ≤ 32 →
      loopF (σ := Int × (List Int)) (ρ := ((List Int))) (fun (s_52 : Int × (List Int)) => match s_52 with | (x_55, l_56) => cond (x_55 != 0) ((D.impl_vset_least x_55).bind fun y_88 => (appendD l_56 ([y_88] : List Int)).bind fun l_99 => some (.inl ((iand .u32 x_55 (IntKind.u32.wrap (x_55 - 1))), l_99))) (some (.inr l_56))) (x, l) = some (l ++ elems x) := by
    intro n
    induction n with
    | zero =>
      intro x l hx hn _
      have e : elems x = [] := List.eq_nil_of_length_eq_zero hn
      have e0 : x = 0 := hx.eq_zero.2 fun v hv => by
        cases hc : has x v
        · rfl
        · have := mem_elems.2 ⟨v, hv, hc, rfl⟩; rw [e] at this; simp at this
      rw [e]
      refine loopF_done ?_
      have : (x != 0) = false := by simp [e0]
      simp only [this, cond_false, List.append_nil]
    | succ n ih =>
      intro x l hx hn hl
      have h0 : x ≠ 0 := by rintro rfl; rw [elems_zero] at hn; simp at hn
      obtain ⟨k, h1, h2, h3, h4, h5⟩ := least_eq hx h0
      have e := elems_least h1 h3 h4 h5
      have en : (elems (iand .u32 x (IntKind.u32.wrap (x - 1)))).length = n := by rw [e] at hn; simpa using hn
      have hstep := ih (iand .u32 x (IntKind.u32.wrap (x - 1))) (l ++ [(k : Int)]) (VS.iand _ _) en (by simp; omega)
      have e1 : (x != 0) = true := by simpa using h0
      rw [loopF_more (s' := (iand .u32 x (IntKind.u32.wrap (x - 1)), l ++ [(k : Int)]))]
      · rw [hstep, e]; simp
      · simp only [e1, cond_true, h2, Option.bind_some, appendD_ok (xs := l) (ys := [(k : Int)]) (by simp; omega)]
  have := key (elems s).length s [] h rfl (by simpa using elems_len s)
  rw [this]; simp
theorem elems_sh (s : Int) : Sh (elems s) := by have := elems_len s; unfold Sh; omega
theorem numbers_eq (s : Int) (h : VS s) : D.impl_vset_numbers s = some (elems s) := by
  unfold D.impl_vset_numbers
  rw [list_eq s h, Option.bind_some, wide_eq _ (elems_sh s)]; rfl
/-! ### rising lists -/
theorem l1Copy_eq (xs : List Int) (h : Sh xs) : D.spec_l1Copy xs = some xs := by
  unfold Sh at h
  unfold D.spec_l1Copy
  rw [appendD_ok (by simpa using h)]; rfl
/-- with one more -/
def into (xs : List Int) (n : Int) : List Int := if n ∈ xs then xs else xs.takeWhile (fun x => decide (x < n)) ++ n :: xs.dropWhile (fun x => decide (x < n))
theorem mem_into {xs : List Int} {n x : Int} : x ∈ into xs n ↔ x = n ∨ x ∈ xs := by
  unfold into
  split
  · constructor
    · intro h; exact .inr h
    · rintro (rfl | h)
      · assumption
      · exact h
  · have e : x ∈ xs ↔ x ∈ xs.takeWhile (fun x => decide (x < n)) ++ xs.dropWhile (fun x => decide (x < n)) := by rw [List.takeWhile_append_dropWhile]
    rw [e]; simp only [List.mem_append, List.mem_cons]
    constructor
    · rintro (h | h | h) <;> simp [h]
    · rintro (h | h | h) <;> simp [h]
theorem inc_dropWhile {xs : List Int} {n : Int} (h : Inc xs) : ∀ y ∈ xs.dropWhile (fun x => decide (x < n)), n ≤ y := by
  induction xs with
  | nil => simp
  | cons x xs ih =>
    have h' := List.pairwise_cons.1 h
    intro y hy
    rw [List.dropWhile_cons] at hy
    split at hy
    · exact ih h'.2 y hy
    · rename_i hc
      simp at hc
      rcases List.mem_cons.1 hy with rfl | hy
      · exact hc
      · have := h'.1 y hy; omega
theorem inc_takeWhile {xs : List Int} {n : Int} : ∀ y ∈ xs.takeWhile (fun x => decide (x < n)), y < n := by
  intro y hy
  induction xs with
  | nil => simp at hy
  | cons x xs ih =>
    rw [List.takeWhile_cons] at hy
    split at hy
    · rename_i hc
      rcases List.mem_cons.1 hy with rfl | hy
      · simpa using hc
      · exact ih hy
    · simp at hy
theorem Inc.into {xs : List Int} (h : Inc xs) (n : Int) : Inc (into xs n) := by
  unfold Sx.into
  split
  · exact h
  · rename_i hn
    unfold Inc
    rw [List.pairwise_append]
    refine ⟨List.Pairwise.sublist (List.takeWhile_sublist _) h, List.pairwise_cons.2 ⟨fun y hy => ?_, List.Pairwise.sublist (List.dropWhile_sublist _) h⟩, fun a ha b hb => ?_⟩
    · have h1 := inc_dropWhile h y hy
      have h2 : y ≠ n := fun e => hn (e ▸ (List.dropWhile_sublist _).mem hy)
      omega
    · have h1 := inc_takeWhile a ha
      rcases List.mem_cons.1 hb with rfl | hb
      · exact h1
      · have := inc_dropWhile h b hb; omega
end Go.Sx

/- Open vertices, bags of an order: the reference's and the program's. Plain. -/
namespace Go.Sx
theorem takeWhile_eq_take {α : Type} (p : α → Bool) : ∀ (xs : List α), xs.takeWhile p = xs.take (xs.takeWhile p).length ∧ xs.dropWhile p = xs.drop (xs.takeWhile p).length
  | [] => by simp
  | x :: xs => by
    rw [List.takeWhile_cons, List.dropWhile_cons]
    cases p x
    · simp
    · have := takeWhile_eq_take p xs
      simp only [if_true, List.length_cons, List.take_succ_cons, List.drop_succ_cons, ← this.1, ← this.2, and_self]
theorem takeWhile_get {α : Type} (p : α → Bool) : ∀ (xs : List α) (i : Nat) (h : i < (xs.takeWhile p).length) (h' : i < xs.length), p xs[i] = true
  | x :: xs, i, h, h' => by
    rw [List.takeWhile_cons] at h
    cases hp : p x
    · rw [hp] at h; simp at h
    · rw [hp] at h
      cases i with
      | zero => simpa using hp
      | succ i => simp only [if_true, List.length_cons] at h; simpa using takeWhile_get p xs i (by omega) (by simpa using h')
theorem takeWhile_stop {α : Type} (p : α → Bool) : ∀ (xs : List α) (h : (xs.takeWhile p).length < xs.length), p (xs[(xs.takeWhile p).length]) = false
  | x :: xs, h => by
    cases hp : p x
    · simp [List.takeWhile_cons, hp]
    · have h2 : (xs.takeWhile p).length < xs.length := by simpa [List.takeWhile_cons, hp] using h
      simpa [List.takeWhile_cons, hp] using takeWhile_stop p xs h2
theorem takeWhile_len_le {α : Type} (p : α → Bool) (xs : List α) : (xs.takeWhile p).length ≤ xs.length := (List.takeWhile_sublist _).length_le

theorem l1Into_eq (xs : List Int) (n : Int) (h : Inc xs) (hl : xs.length ≤ 4294967295) : D.spec_l1Into xs n = some (into xs n) := by
  unfold D.spec_l1Into
  generalize hk : (xs.takeWhile (fun x => decide (x < n))).length = k
  have hkl : k ≤ xs.length := by rw [← hk]; exact takeWhile_len_le _ _
  have htk : xs.takeWhile (fun x => decide (x < n)) = xs.take k := by rw [← hk]; exact (takeWhile_eq_take _ xs).1
  have hdk : xs.dropWhile (fun x => decide (x < n)) = xs.drop k := by rw [← hk]; exact (takeWhile_eq_take _ xs).2
  refine (loop_to (fun i => ((i : Nat) : Int)) k (k : Int) rfl (fun i hi => ?_) ?_).trans ?_
  · have hi' : i < xs.length := by omega
    have hp : decide (xs[i] < n) = true := takeWhile_get (fun x => decide (x < n)) xs i (by omega) hi'
    simp only [dlt hi', cond_true, idx_nat hi', Option.bind_some, hp, wi (show i < 4611686018427387904 by omega)]
  · by_cases hlt : k < xs.length
    · have hp : decide (xs[k] < n) = false := by
        have := takeWhile_stop (fun x => decide (x < n)) xs (by omega)
        simp only [hk] at this; exact this
      simp only [dlt hlt, cond_true, idx_nat hlt, Option.bind_some, hp, cond_false]
    · obtain rfl : k = xs.length := by omega
      simp only [dnlt, cond_false, Option.bind_some]
  · have hS1 : Sh (xs.take k) := by unfold Sh; rw [List.length_take]; omega
    have hrest : ((sliceD xs 0 (k : Int)).bind fun l_135 => (D.spec_l1Copy l_135).bind fun y_139 => (appendD y_139 ([n] : List Int)).bind fun l_154 => (sliceD xs (k : Int) (xs.length : Int)).bind fun l_160 => (appendD l_154 l_160).bind fun l_164 => some l_164) = some (xs.take k ++ n :: xs.drop k) := by
      simp only [sliceD_pre hkl, sliceD_post hkl, Option.bind_some, l1Copy_eq _ hS1]
      rw [appendD_ok (by simp; omega), Option.bind_some, appendD_ok (by simp; omega), Option.bind_some]
      simp
    by_cases hlt : k < xs.length
    · simp only [dlt hlt, cond_true, idx_nat hlt, Option.bind_some]
      by_cases he : xs[k] = n
      · have hm : n ∈ xs := by rw [← he]; exact List.getElem_mem _
        have : (xs[k] == n) = true := by simp [he]
        simp only [this, cond_true]
        unfold into; rw [if_pos hm]
      · have : (xs[k] == n) = false := by simpa using he
        simp only [this, cond_false, hrest]
        unfold into
        rw [htk, hdk, if_neg]
        intro hm
        obtain ⟨j, hj, e⟩ := List.getElem_of_mem hm
        have hst : decide (xs[k] < n) = false := by
          have := takeWhile_stop (fun x => decide (x < n)) xs (by omega)
          simp only [hk] at this; exact this
        simp at hst
        rcases Nat.lt_trichotomy j k with h1 | h1 | h1
        · have := takeWhile_get (fun x => decide (x < n)) xs j (by omega) hj
          simp at this; omega
        · subst h1; exact he e
        · have := (List.pairwise_iff_getElem.1 h) k j hlt hj h1
          omega
    · obtain rfl : k = xs.length := by omega
      simp only [dnlt, cond_false, Option.bind_some, hrest]
      unfold into
      rw [htk, hdk, if_neg]
      intro hm
      obtain ⟨j, hj, e⟩ := List.getElem_of_mem hm
      have := takeWhile_get (fun x => decide (x < n)) xs j (by omega) hj
      simp at this; omega

end Go.Sx



/- What the laws draw with their dice: graphs that are right, orders that are right. Plain. -/
namespace Go.Sx
/-- dice in order: bytes, and a place among them -/
structure DK (b : List Int) (i : Int) : Prop where
  byte : ∀ x ∈ b, 0 ≤ x ∧ x ≤ 255
  len : b.length ≤ 4096
  i0 : 0 ≤ i
  i1 : i ≤ b.length

theorem row_set {g : List (List Int)} {u v : Nat} {r : List Int} (hu : u < g.length) : row (g.set u r) v = if v = u then r else row g v := by
  unfold row
  by_cases h : v = u
  · subst h; simp [hu]
  · rw [if_neg h, List.getD_eq_getElem?_getD, List.getElem?_set_ne (fun e => h e.symm), ← List.getD_eq_getElem?_getD]

end Go.Sx

/- Drawn graphs and drawn orders are right. Plain. -/
namespace Go.Sx
end Go.Sx



/- Drawn orders, the other way: each number is put at a drawn place, what stands there moves on. Plain. -/
namespace Go.Sx
theorem ext_getD {a b : List Int} (hl : a.length = b.length) (h : ∀ j, j < a.length → a.getD j 0 = b.getD j 0) : a = b := by
  apply List.ext_getElem hl
  intro j h1 h2
  have := h j h1
  rwa [getD_lt h1, getD_lt h2] at this
theorem getD_set (l : List Int) (i j : Nat) (x : Int) (hi : i < l.length) : (l.set i x).getD j 0 = if j = i then x else l.getD j 0 := by
  simp only [List.getD_eq_getElem?_getD, List.getElem?_set]
  by_cases h : j = i
  · subst h; simp [hi]
  · rw [if_neg (fun e => h e.symm), if_neg h]
end Go.Sx

/- Elimination: the filled neighbours and the later ones, by what they have. Plain. -/
namespace Go.Sx
/-- is w a neighbour of u, by masks -/
def nb (F : List Int) (u w : Nat) : Bool := has (F.getD u 0) w
/-- masks of a graph of n vertices -/
structure FOk (F : List Int) (n : Nat) : Prop where
  len : F.length = n
  vs : ∀ u, u < n → VS (F.getD u 0)
  lt : ∀ u w, u < n → nb F u w = true → w < n
  irr : ∀ u, u < n → nb F u u = false
  sym : ∀ u w, u < n → nb F u w = true → nb F w u = true

theorem FOk.ext {F F' : List Int} {n : Nat} (h : F.length = n) (h' : F'.length = n) (v : ∀ u, u < n → VS (F.getD u 0)) (v' : ∀ u, u < n → VS (F'.getD u 0)) (e : ∀ u w, u < n → nb F u w = nb F' u w) : F = F' := by
  refine ext_getD (by omega) (fun j hj => ?_)
  exact (v j (by omega)).ext (v' j (by omega)) (fun w _ => e j w (by omega))

theorem getD_map_mk (g : List (List Int)) (u : Nat) : (g.map mk).getD u 0 = mk (row g u) := by
  unfold row
  simp only [List.getD_eq_getElem?_getD, List.getElem?_map]
  cases g[u]? with
  | none => simp [mk]
  | some r => rfl
theorem nb_mk {g : List (List Int)} (hg : GOk g) {u w : Nat} (hu : u < g.length) : nb (g.map mk) u w = true ↔ adj g u w := by
  have h16 := hg.n16
  unfold nb
  rw [getD_map_mk, has_mk (fun x hx => by have := (hg.rows u hu).2 x hx; omega)]
  simp [adj]
theorem FOk.of {g : List (List Int)} (hg : GOk g) : FOk (g.map Sx.mk) g.length := by
  refine ⟨by simp, fun u _ => by rw [getD_map_mk]; exact VS.mk _, fun u w hu h => hg.lt hu ((nb_mk hg hu).1 h), fun u hu => ?_, fun u w hu h => ?_⟩
  · cases h : nb (g.map Sx.mk) u u
    · rfl
    · exact absurd ((nb_mk hg hu).1 h) (hg.irr u hu)
  · have ha := (nb_mk hg hu).1 h
    exact (nb_mk hg (hg.lt hu ha)).2 (hg.sym u w hu ha)

/-- the graph of masks -/
def grow (F : List Int) : List (List Int) := F.map elems
theorem row_grow (F : List Int) (u : Nat) : row (grow F) u = elems (F.getD u 0) := by
  unfold row grow
  simp only [List.getD_eq_getElem?_getD, List.getElem?_map]
  cases F[u]? with
  | none => simp [elems_zero]
  | some r => rfl
theorem adj_grow {F : List Int} {n u w : Nat} (h : FOk F n) (hu : u < n) : adj (grow F) u w ↔ nb F u w = true := by
  unfold adj nb
  rw [row_grow, mem_elems_nat (h.vs u hu)]
theorem GOk.grow {F : List Int} {n : Nat} (h : FOk F n) (h1 : 1 ≤ n) (h16 : n ≤ 16) : GOk (grow F) := by
  have hl : (Sx.grow F).length = n := by unfold Sx.grow; rw [List.length_map, h.len]
  refine ⟨by omega, by omega, fun v hv => ?_, fun v hv ha => ?_, fun u v hu ha => ?_⟩
  · rw [row_grow, hl]
    refine ⟨elems_inc _, fun x hx => ?_⟩
    obtain ⟨w, _, h2, rfl⟩ := mem_elems.1 hx
    have := h.lt v w (by omega) h2
    omega
  · rw [adj_grow h (by omega)] at ha
    rw [h.irr v (by omega)] at ha; cases ha
  · rw [adj_grow h (by omega)] at ha
    have := h.lt u v (by omega) ha
    rw [adj_grow h (by omega)]
    exact h.sym u v (by omega) ha
theorem all_mask : ∀ n : Fin 17, ∀ v : Fin 32, has (IntKind.u32.wrap (ishl .u32 1 (n.val : Int) - 1)) v.val = decide (v.val < n.val) := by decide +kernel
/-- the order is a perfect elimination order -/
def PEO (F : List Int) (o : List Int) : Prop := ∀ (j : Nat) (v u w : Nat), o[j]? = some (v : Int) → nb F v u = true → nb F v w = true → (u : Int) ∉ o.take (j + 1) → (w : Int) ∉ o.take (j + 1) → u ≠ w → nb F u w = true
/-- later neighbours -/
def Lat (F L : List Int) (o : List Int) (i : Nat) : Prop := ∀ (j : Nat) (v : Nat), j < i → o[j]? = some (v : Int) → ∀ w, nb L v w = (nb F v w && decide ((w : Int) ∉ o.take (j + 1)))

structure EInv (n : Nat) (F0 o : List Int) (i : Nat) (F L : List Int) (left : Int) : Prop where
  f : FOk F n
  lenL : L.length = n
  vsL : ∀ u, u < n → VS (L.getD u 0)
  vsl : VS left
  left : ∀ v, has left v = decide (v < n ∧ (v : Int) ∉ o.take i)
  mono : ∀ u w, u < n → nb F0 u w = true → nb F u w = true
  lat : Lat F L o i
  peo : ∀ (j : Nat) (v u w : Nat), j < i → o[j]? = some (v : Int) → nb F v u = true → nb F v w = true → (u : Int) ∉ o.take (j + 1) → (w : Int) ∉ o.take (j + 1) → u ≠ w → nb F u w = true
  same : PEO F0 o → F = F0

theorem mem_take_mono {o : List Int} {j i : Nat} (h : j ≤ i) {x : Int} (hx : x ∈ o.take j) : x ∈ o.take i := by
  rw [mem_take_iff] at hx ⊢
  obtain ⟨k, h1, h2, h3⟩ := hx
  exact ⟨k, h1, by omega, h3⟩

theorem EInv.step {n : Nat} {F0 o F L : List Int} {i v : Nat} {left : Int} (h16 : n ≤ 16) (hn : ∀ x ∈ o, 0 ≤ x ∧ x < n) (hnd : o.Nodup) (hi : i < o.length) (hv : o[i] = (v : Int)) (h : EInv n F0 o i F L left) {F' : List Int}
    (hl' : F'.length = n) (hv' : ∀ u, u < n → VS (F'.getD u 0)) (h' : ∀ u w, u < n → nb F' u w = (nb F u w || (has (iand .u32 (F.getD v 0) (iandNot .u32 left (ishl .u32 1 (v : Int)))) u && has (iand .u32 (F.getD v 0) (iandNot .u32 left (ishl .u32 1 (v : Int)))) w && decide (w ≠ u)))) :
    EInv n F0 o (i + 1) F' (L.set v (iand .u32 (F.getD v 0) (iandNot .u32 left (ishl .u32 1 (v : Int))))) (iandNot .u32 left (ishl .u32 1 (v : Int))) := by
  have hvn : v < n := by have := hn _ (List.getElem_mem hi); omega
  have hvt : (v : Int) ∉ o.take i := by rw [← hv]; exact nodup_iff.1 hnd i hi
  have htk : ∀ x : Nat, ((x : Int) ∈ o.take (i + 1)) ↔ ((x : Int) ∈ o.take i ∨ x = v) := fun x => by
    rw [List.take_succ_eq_append_getElem hi, List.mem_append, hv]; simp [Int.natCast_inj]
  have hleft : ∀ w, has (iandNot .u32 left (ishl .u32 1 (v : Int))) w = decide (w < n ∧ (w : Int) ∉ o.take (i + 1)) := fun w => by
    rw [has_iandNot h.vsl (VS.ishl _ _), has_one (by omega), h.left, Bool.eq_iff_iff]
    simp only [Bool.and_eq_true, decide_eq_true_eq, Bool.not_eq_true', decide_eq_false_iff_not, htk]
    constructor
    · rintro ⟨⟨a, b⟩, c⟩; exact ⟨a, fun hh => hh.elim b c⟩
    · rintro ⟨a, b⟩; exact ⟨⟨a, fun hh => b (.inl hh)⟩, fun hh => b (.inr hh)⟩
  have hS : ∀ w, has (iand .u32 (F.getD v 0) (iandNot .u32 left (ishl .u32 1 (v : Int)))) w = (nb F v w && decide ((w : Int) ∉ o.take (i + 1))) := fun w => by
    rw [has_iand (h.f.vs v hvn) (VS.iandNot _ _), hleft, Bool.eq_iff_iff]
    show (nb F v w && _) = true ↔ _
    simp only [Bool.and_eq_true, decide_eq_true_eq]
    exact ⟨fun ⟨a, b, c⟩ => ⟨a, c⟩, fun ⟨a, c⟩ => ⟨a, h.f.lt v w hvn a, c⟩⟩
  have hlV : VS (iandNot .u32 left (ishl .u32 1 (v : Int))) := VS.iandNot _ _
  generalize iandNot .u32 left (ishl .u32 1 (v : Int)) = left' at *
  generalize hSS : iand .u32 (F.getD v 0) left' = S at *
  have hSV : VS S := by rw [← hSS]; exact VS.iand _ _
  have hSlt : ∀ w, has S w = true → w < n ∧ (w : Int) ∉ o.take (i + 1) := fun w hw => by
    rw [hS] at hw
    simp only [Bool.and_eq_true, decide_eq_true_eq] at hw
    exact ⟨h.f.lt v w hvn hw.1, hw.2⟩
  have hmono : ∀ u w, u < n → nb F u w = true → nb F' u w = true := fun u w hu hh => by rw [h' u w hu, hh]; rfl
  -- rows of those that are gone do not change
  have hold : ∀ x : Nat, x < n → (x : Int) ∈ o.take (i + 1) → ∀ w, nb F' x w = nb F x w := fun x hx hm w => by
    rw [h' x w hx]
    have : has S x = false := by
      cases hc : has S x
      · rfl
      · exact absurd hm (hSlt x hc).2
    simp [this]
  have hf' : FOk F' n := by
    refine ⟨hl', hv', fun u w hu hh => ?_, fun u hu => ?_, fun u w hu hh => ?_⟩
    · rw [h' u w hu] at hh
      simp only [Bool.or_eq_true, Bool.and_eq_true] at hh
      rcases hh with hh | ⟨⟨_, hh⟩, _⟩
      · exact h.f.lt u w hu hh
      · exact (hSlt w hh).1
    · rw [h' u u hu, h.f.irr u hu]; simp
    · rw [h' u w hu] at hh
      simp only [Bool.or_eq_true, Bool.and_eq_true, decide_eq_true_eq] at hh
      rcases hh with hh | ⟨⟨h1, h2⟩, h3⟩
      · exact hmono w u (h.f.lt u w hu hh) (h.f.sym u w hu hh)
      · rw [h' w u (hSlt w h2).1, h1, h2]
        have : decide (u ≠ w) = true := by simpa using fun e => h3 e.symm
        simp [this]
  have hjv : ∀ j (x : Nat), o[j]? = some (x : Int) → j < o.length ∧ x < n ∧ (x : Int) ∈ o.take (j + 1) := fun j x hx => by
    obtain ⟨h1, h2⟩ := List.getElem?_eq_some_iff.1 hx
    have := hn _ (List.getElem_mem h1)
    refine ⟨h1, by omega, ?_⟩
    rw [mem_take_iff]; exact ⟨j, h1, by omega, h2⟩
  refine ⟨hf', by simp [h.lenL], fun u hu => ?_, hlV, hleft, fun u w hu hh => hmono u w hu (h.mono u w hu hh), fun j x hj hx w => ?_, fun j x u w hj hx h1 h2 h3 h4 h5 => ?_, fun hp => ?_⟩
  · rw [getD_set _ _ _ _ (by rw [h.lenL]; exact hvn)]
    split
    · exact hSV
    · exact h.vsL u hu
  · obtain ⟨k1, k2, k3⟩ := hjv j x hx
    have k4 := mem_take_mono (show j + 1 ≤ i + 1 by omega) k3
    rw [hold x k2 k4 w]
    unfold nb
    rw [getD_set _ _ _ _ (by rw [h.lenL]; exact hvn)]
    by_cases hji : j = i
    · subst hji
      rw [List.getElem?_eq_getElem hi, hv] at hx
      have : x = v := by
        have : (v : Int) = (x : Int) := by simpa using hx
        omega
      subst this
      rw [if_pos rfl, hS]; rfl
    · have hne : x ≠ v := fun e => by
        subst e
        exact hvt (mem_take_mono (show j + 1 ≤ i by omega) k3)
      rw [if_neg hne]
      exact h.lat j x (by omega) hx w
  · obtain ⟨k1, k2, k3⟩ := hjv j x hx
    have k4 := mem_take_mono (show j + 1 ≤ i + 1 by omega) k3
    rw [hold x k2 k4] at h1 h2
    by_cases hji : j = i
    · subst hji
      rw [List.getElem?_eq_getElem hi, hv] at hx
      have : x = v := by
        have : (v : Int) = (x : Int) := by simpa using hx
        omega
      subst this
      have hu : has S u = true := by rw [hS, h1]; simpa using h3
      have hw : has S w = true := by rw [hS, h2]; simpa using h4
      rw [h' u w (hSlt u hu).1, hu, hw]
      have : decide (w ≠ u) = true := by simpa using fun e => h5 e.symm
      simp [this]
    · exact hmono u w (h.f.lt x u k2 h1) (h.peo j x u w (by omega) hx h1 h2 h3 h4 h5)
  · have hFF := h.same hp
    subst hFF
    refine FOk.ext hl' h.f.len hv' h.f.vs (fun u w hu => ?_)
    rw [h' u w hu, Bool.eq_iff_iff]
    simp only [Bool.or_eq_true, Bool.and_eq_true, decide_eq_true_eq]
    constructor
    · rintro (hh | ⟨⟨h1, h2⟩, h3⟩)
      · exact hh
      · have k1 := (hSlt u h1).2; have k2 := (hSlt w h2).2
        rw [hS] at h1 h2
        simp only [Bool.and_eq_true] at h1 h2
        exact hp i v u w (by rw [List.getElem?_eq_getElem hi, hv]) h1.1 h2.1 k1 k2 (fun e => h3 e.symm)
    · exact .inl

end Go.Sx

/- How many a set has. Plain. -/
namespace Go.Sx
end Go.Sx

/- Sets in the order of their elements, and by size first: what the program's comparisons say, by a key. Plain. -/
namespace Go.Sx
/-! ### a key for lists -/
def lk : Nat → List Int → Int
  | 0, _ => 0
  | _ + 1, [] => 0
  | d + 1, a :: l => (a + 1) * 33 ^ d + lk d l
def lkey (s : Int) : Int := lk 32 (elems s)
def skey (s : Int) : Int := ((elems s).length : Int) * 33 ^ 32 + lkey s
end Go.Sx

/- Sorts by a comparison are one sort. Plain, made by program. -/
namespace Go.Sx
end Go.Sx

/- Trees of bags: the reference's own check, where it answers true. Plain. -/
namespace Go.Sx
theorem nodup_le : ∀ {l m : List Int}, l.Nodup → (∀ x ∈ l, x ∈ m) → l.length ≤ m.length
  | [], _, _, _ => by simp
  | x :: l, m, h, hs => by
    have h' := List.nodup_cons.1 h
    have hx := hs x (by simp)
    have := nodup_le (l := l) (m := m.erase x) h'.2 (fun y hy => by
      have hne : y ≠ x := fun e => h'.1 (e ▸ hy)
      exact (List.mem_erase_of_ne hne).2 (hs y (by simp [hy])))
    rw [List.length_erase_of_mem hx] at this
    have hp : 0 < m.length := List.length_pos_of_mem hx
    simp; omega
theorem Inc.nodup {l : List Int} (h : Inc l) : l.Nodup := List.Pairwise.imp (fun h e => by omega) h

/-- which bags have a vertex -/
def withV (bags : List (List Int)) (v : Int) : List Int := ((List.range bags.length).filter fun b => decide (v ∈ bags.getD b [])).map Int.ofNat
/-- linked -/
def Lk (links : List (List Int)) (x y : Int) : Prop := [x, y] ∈ links ∨ [y, x] ∈ links
/-- m has the first of sel, and with each what is linked in sel -/
structure Closed (links : List (List Int)) (sel m : List Int) : Prop where
  sub : ∀ x ∈ m, x ∈ sel
  first : ∀ x, sel.head? = some x → x ∈ m
  step : ∀ x ∈ m, ∀ y ∈ sel, Lk links x y → y ∈ m

/-- all of sel hangs together -/
def Conn (links : List (List Int)) (sel : List Int) : Prop := ∀ m, Closed links sel m → ∀ x ∈ sel, x ∈ m
end Go.Sx

/- A tree of bags that is right, by the reference's own check. Plain. -/
namespace Go.Sx
/-- a link of two bags, the lesser one first -/
def LinkIn (n : Nat) (l : List Int) : Prop := ∃ a b : Nat, l = [(a : Int), (b : Int)] ∧ a < b ∧ b < n

/-- what a tree of bags of a graph is -/
structure TB (g bags links : List (List Int)) : Prop where
  n1 : 1 ≤ bags.length
  n16 : bags.length ≤ 16
  many : links.length + 1 = bags.length
  lks : ∀ l ∈ links, LinkIn bags.length l
  sets : ∀ b ∈ bags, SetOf b g.length
  tree : Conn links ((List.range bags.length).map Int.ofNat)
  edges : ∀ u v : Nat, u < g.length → adj g u v → ∃ b ∈ bags, (u : Int) ∈ b ∧ (v : Int) ∈ b
  some : ∀ v, v < g.length → withV bags v ≠ []
  conn : ∀ v, v < g.length → Conn links (withV bags v)

end Go.Sx

/- The edges of a graph, listed by the program and by the reference; the filled graph of an order. Plain. -/
namespace Go.Sx
def rowF (r : List Int) (u : Nat) (s : List (List Int)) : List (List Int) := (List.range r.length).foldl (fun s i => if (u : Int) < r.getD i 0 then s ++ [[(u : Int), r.getD i 0]] else s) s
theorem inner_edges (r : List Int) (u : Nat) (s0 : List (List Int)) (h : s0.length + r.length ≤ 4294967296) {step : List (List Int) × Int → Option ((List (List Int) × Int) ⊕ List (List Int))}
    (hstep : ∀ s (i : Nat) (hi : i < r.length), step (s, (i : Int)) = cond (decide ((u : Int) < r[i])) ((appendD s [[(u : Int), r[i]]]).bind fun l => some (.inl (l, ((i + 1 : Nat) : Int)))) (some (.inl (s, ((i + 1 : Nat) : Int)))))
    (hend : ∀ s, step (s, (r.length : Int)) = some (.inr s)) : loopF step (s0, 0) = some (rowF r u s0) ∧ (rowF r u s0).length ≤ s0.length + r.length := by
  have key := loop_nat (step := step) r.length (fun s i => (s, i)) (fun s i => if (u : Int) < r.getD i 0 then s ++ [[(u : Int), r.getD i 0]] else s) (fun s => s) (fun i s => s.length ≤ s0.length + i) s0 (by omega)
    (fun s i hi hs => ?_) (fun s _ => hend s)
  · exact key
  · have hg : r.getD i 0 = r[i] := getD_lt hi 0
    refine ⟨?_, ?_⟩
    · rw [hstep s i hi, hg]
      by_cases hc : (u : Int) < r[i]
      · rw [decide_eq_true hc, cond_true, appendD_ok (by simp; omega), if_pos hc]; rfl
      · rw [decide_eq_false hc, cond_false, if_neg hc]
    · rw [hg]
      split
      · rw [List.length_append, List.length_singleton]; omega
      · omega
def edgesF (g : List (List Int)) : List (List Int) := (List.range g.length).foldl (fun s u => rowF (row g u) u s) []

theorem impl_edgesOf_eq (g : List (List Int)) (hg : GOk g) : D.impl_edgesOf g = some (edgesF g) := by
  have h16 := hg.n16
  unfold D.impl_edgesOf
  have key := loop_nat (ρ := List (List Int)) (step := (fun (s_288 : (List (List Int)) × Int) => match s_288 with | (l_291, x_296) => cond (decide (x_296 < (g.length : Int))) ((idx g x_296).bind fun e_441 => (loopF (σ := (List (List Int)) × Int) (ρ := ((List (List Int)))) (fun (s_508 : (List (List Int)) × Int) => match s_508 with | (l_511, x_516) => cond (decide (x_516 < (e_441.length : Int))) ((idx e_441 x_516).bind fun e_551 => cond (decide (x_296 < e_551)) ((appendD l_511 ([([x_296, e_551] : List Int)] : List (List Int))).bind fun l_569 => some (.inl (l_569, (IntKind.i64.wrap (x_516 + 1))))) (some (.inl (l_511, (IntKind.i64.wrap (x_516 + 1)))))) (some (.inr l_511))) (l_291, 0)).bind fun l_544 => some (.inl (l_544, (IntKind.i64.wrap (x_296 + 1))))) (some (.inr l_291))))
    g.length (fun s i => (s, i)) (fun s u => rowF (row g u) u s) (fun s => s) (fun i s => s.length ≤ 16 * i) [] (by simp) (fun s u hu hs => ?_) (fun s _ => ?_)
  · exact congrArg (fun z => Option.bind z fun l => some l) key.1
  · have hr := hg.row_len hu
    obtain ⟨k1, k2⟩ := inner_edges (row g u) u s (by omega) (step := (fun (s_508 : (List (List Int)) × Int) => match s_508 with | (l_511, x_516) => cond (decide (x_516 < ((row g u).length : Int))) ((idx (row g u) x_516).bind fun e_551 => cond (decide ((u : Int) < e_551)) ((appendD l_511 ([([(u : Int), e_551] : List Int)] : List (List Int))).bind fun l_569 => some (.inl (l_569, (IntKind.i64.wrap (x_516 + 1))))) (some (.inl (l_511, (IntKind.i64.wrap (x_516 + 1)))))) (some (.inr l_511)))) (fun s i hi => by
        simp only [dlt hi, cond_true, idx_nat hi, Option.bind_some, wi (show i < 4611686018427387904 by omega)]) (fun s => by simp only [dnlt, cond_false])
    refine ⟨?_, by omega⟩
    simp only [dlt hu, cond_true, idx_row hu, Option.bind_some, wi (show u < 4611686018427387904 by omega)]
    exact (congrArg (fun z => Option.bind z _) k1).trans rfl
  · simp only [dnlt, cond_false]

theorem GOk.sh2 {g : List (List Int)} (hg : GOk g) : Sh2 g := by
  have h16 := hg.n16
  exact ⟨by unfold Sh; omega, fun r hr => by have := (hg.mem0 hr).1; unfold Sh; omega⟩
theorem gB_true {g : List (List Int)} (hg : GOk g) : gB g = true := (gB_iff g).2 hg
theorem impl_ManyEdges_eq (g : List (List Int)) (hg : GOk g) : D.impl_ManyEdges g = some ((edgesF g).length : Int) := by
  unfold D.impl_ManyEdges D.impl_EdgesOf
  rw [impl_GraphOk_eq g hg.sh2, gB_true hg, Option.bind_some, Bool.not_true, cond_false, impl_edgesOf_eq g hg]; rfl
theorem nets_graph_eq (F : List Int) (h : F.length ≤ 16) (hV : ∀ u, u < F.length → VS (F.getD u 0)) : D.impl_nets_graph F = some (grow F) := by
  unfold D.impl_nets_graph
  refine (loop_map F (fun s i => (i, s)) elems (by omega) (fun s i hi _ => ?_) (fun s => ?_)).trans rfl
  · have := hV i hi
    rw [getD_lt hi] at this
    simp only [dlt hi, cond_true, idx_nat hi, Option.bind_some, numbers_eq _ this, wi (show i < 4611686018427387904 by omega)]
  · simp only [dnlt, cond_false]

theorem OOk.sh {g : List (List Int)} {o : List Int} (hg : GOk g) (ho : OOk g o) : Sh o := by
  have := hg.n16; have := ho.len; unfold Sh; omega
theorem impl_OrderOk_true {g : List (List Int)} {o : List Int} (hg : GOk g) (ho : OOk g o) : D.impl_OrderOk g o = some true := by
  rw [impl_OrderOk_eq g o hg.sh2 (ho.sh hg), gB_true hg, (ordB_iff g o).2 ho]; rfl

/-- what filling comes to -/
structure Fill (g : List (List Int)) (o F L : List Int) : Prop where
  elim : D.impl_elimination (g.map mk) o = some (F, L)
  f : FOk F g.length
  lenL : L.length = g.length
  vsL : ∀ u, u < g.length → VS (L.getD u 0)
  mono : ∀ u w, u < g.length → adj g u w → nb F u w = true
  lat : Lat F L o g.length
  peo : PEO F o
  same : PEO (g.map mk) o → F = g.map mk

theorem Fill.FillOf {g : List (List Int)} {o F L : List Int} (hg : GOk g) (ho : OOk g o) (h : Fill g o F L) : D.impl_FillOf g o = some (grow F, true) := by
  have h16 := hg.n16
  unfold D.impl_FillOf
  rw [impl_OrderOk_true hg ho, Option.bind_some, Bool.not_true, cond_false, netsOf_eq g hg, Option.bind_some, narrow_eq o (ho.sh hg), Option.bind_some, h.elim, Option.bind_some, nets_graph_eq F (by rw [h.f.len]; omega) (fun u hu => h.f.vs u (by rw [h.f.len] at hu; exact hu))]
  rfl
theorem Fill.gok {g : List (List Int)} {o F L : List Int} (hg : GOk g) (h : Fill g o F L) : GOk (grow F) := GOk.grow h.f hg.n1 hg.n16
theorem grow_len (F : List Int) : (grow F).length = F.length := by simp [grow]
end Go.Sx

/- Who is left, cliques, and the reference's perfect orders, where there is one. Plain. -/
namespace Go.Sx
theorem take_filter_succ {α : Type} (p : α → Bool) {l : List α} {i : Nat} (hi : i < l.length) : (l.take (i + 1)).filter p = (l.take i).filter p ++ (if p l[i] then [l[i]] else []) := by
  rw [List.take_succ_eq_append_getElem hi, List.filter_append]
  congr 1
  rw [List.filter_cons, List.filter_nil]

end Go.Sx

/- Sums over the first numbers, counted pairs; the first least of a list. Plain. -/
namespace Go.Sx
/-! ### the first least of a list -/
def ast (f : Int → Int) (s : Int × Int) (v : Int) : Int × Int := if s.1 < 0 ∨ f v < s.2 then (v, f v) else s
def amin (f : Int → Int) (l : List Int) : Int × Int := l.foldl (ast f) (-1, 0)
theorem ast_run (f : Int → Int) : ∀ (l : List Int) (b : Int), 0 ≤ b → (∀ x ∈ l, 0 ≤ x) → ∃ c, l.foldl (ast f) (b, f b) = (c, f c) ∧ (c = b ∨ c ∈ l) ∧ 0 ≤ c ∧ f c ≤ f b ∧ ∀ x ∈ l, f c ≤ f x
  | [], b, hb, _ => ⟨b, rfl, .inl rfl, hb, Int.le_refl _, by simp⟩
  | x :: l, b, hb, hl => by
    have hx := hl x (by simp)
    have hl' := fun y hy => hl y (List.mem_cons_of_mem x hy)
    rw [List.foldl_cons]
    by_cases hc : f x < f b
    · have e : ast f (b, f b) x = (x, f x) := by unfold ast; rw [if_pos (.inr hc)]
      rw [e]
      obtain ⟨c, h1, h2, h3, h4, h5⟩ := ast_run f l x hx hl'
      refine ⟨c, h1, .inr ?_, h3, by omega, fun y hy => ?_⟩
      · rcases h2 with rfl | h2
        · simp
        · exact List.mem_cons_of_mem _ h2
      · rcases List.mem_cons.1 hy with rfl | hy
        · exact h4
        · exact h5 y hy
    · have e : ast f (b, f b) x = (b, f b) := by unfold ast; rw [if_neg (fun h => h.elim (fun h => by dsimp only at h; omega) hc)]
      rw [e]
      obtain ⟨c, h1, h2, h3, h4, h5⟩ := ast_run f l b hb hl'
      refine ⟨c, h1, ?_, h3, h4, fun y hy => ?_⟩
      · rcases h2 with h2 | h2
        · exact .inl h2
        · exact .inr (List.mem_cons_of_mem _ h2)
      · rcases List.mem_cons.1 hy with rfl | hy
        · omega
        · exact h5 y hy
theorem ast_first (f : Int → Int) (x : Int) : ast f (-1, 0) x = (x, f x) := by unfold ast; rw [if_pos (.inl (by decide))]
theorem amin_ok (f : Int → Int) {l : List Int} (hne : l ≠ []) (hl : ∀ x ∈ l, 0 ≤ x) : ∃ c, amin f l = (c, f c) ∧ c ∈ l ∧ ∀ x ∈ l, f c ≤ f x := by
  cases l with
  | nil => exact absurd rfl hne
  | cons x l =>
    unfold amin
    rw [List.foldl_cons, ast_first]
    obtain ⟨c, h1, h2, h3, h4, h5⟩ := ast_run f l x (hl x (by simp)) (fun y hy => hl y (List.mem_cons_of_mem _ hy))
    refine ⟨c, h1, ?_, fun y hy => ?_⟩
    · rcases h2 with rfl | h2
      · simp
      · exact List.mem_cons_of_mem _ h2
    · rcases List.mem_cons.1 hy with rfl | hy
      · exact h4
      · exact h5 y hy
/-! ### those below a number that are in a set -/
def els (s : Int) (i : Nat) : List Int := ((List.range i).filter (has s)).map Int.ofNat
theorem els_all {s : Int} {n : Nat} (hn : n ≤ 32) (h : ∀ v, has s v = true → v < n) : els s n = elems s := by
  unfold els elems
  obtain ⟨k, hk⟩ : ∃ k, 32 = n + k := ⟨32 - n, by omega⟩
  rw [hk, List.range_add, List.filter_append]
  have : ((List.range k).map (fun x => n + x)).filter (has s) = [] := by
    rw [List.filter_eq_nil_iff]
    intro x hx hc
    obtain ⟨y, _, rfl⟩ := List.mem_map.1 hx
    have := h _ hc; omega
  rw [this, List.append_nil]
theorem elems_nonneg (s : Int) : ∀ x ∈ elems s, 0 ≤ x := fun x hx => by
  obtain ⟨v, _, _, rfl⟩ := mem_elems.1 hx; omega
def full (n : Nat) : Int := IntKind.u32.wrap (ishl .u32 1 (n : Int) - 1)
theorem full_vs (n : Nat) : VS (full n) := VS.wrap _
theorem has_full {n : Nat} (h : n ≤ 16) (v : Nat) : has (full n) v = decide (v < n) := by
  by_cases hv : v < 32
  · exact all_mask ⟨n, by omega⟩ ⟨v, hv⟩
  · rw [has_big (full_vs n) (by omega)]; symm; simp; omega
theorem nets_all_full (F : List Int) : D.impl_nets_all F = some (full F.length) := by
  unfold D.impl_nets_all D.impl_firstOf
  have : decide ((F.length : Int) < 0) = false := by simp
  rw [this]; rfl
end Go.Sx

/- 'laws.FnFill' comes to true. Plain. -/
namespace Go.Sx
theorem Fill.many {g : List (List Int)} {o F L : List Int} (hg : GOk g) (ho : OOk g o) (h : Fill g o F L) : D.impl_FillMany g o = some (IntKind.i64.wrap (((edgesF (grow F)).length : Int) - ((edgesF g).length : Int))) := by
  unfold D.impl_FillMany
  rw [h.FillOf hg ho, Option.bind_some]
  simp only [Bool.not_true, cond_false]
  rw [impl_ManyEdges_eq _ (h.gok hg), Option.bind_some, impl_ManyEdges_eq _ hg]
  rfl
end Go.Sx

/- PathDecomp: the reference's and the program's are one. Plain. -/
namespace Go.Sx
section
variable {g : List (List Int)} {o : List Int} (hg : GOk g) (ho : OOk g o)
include hg ho
end

end Go.Sx

/- The bags of an order are a tree of bags, as wide as the order's separation; FnPathDecomp, plain. -/
namespace Go.Sx
section
variable {g : List (List Int)} {o : List Int} (hg : GOk g) (ho : OOk g o)
include hg ho

/-- the greatest of the first ones -/
def mx (f : Nat → Int) : Nat → Int
  | 0 => 0
  | n + 1 => max (mx f n) (f n)

end

end Go.Sx

/- The degeneracy: what both compute, and that no order's width is below it. Plain. -/
namespace Go.Sx
/-- a set of some of the first vertices, of that many -/
structure SQ (n : Nat) (s : Int) (k : Nat) : Prop where
  vs : VS s
  lt : ∀ v, has s v = true → v < n
  card : (elems s).length = k
theorem SQ.full {n : Nat} (h : n ≤ 16) : SQ n (full n) n := by
  refine ⟨full_vs n, fun v hv => by rw [has_full h] at hv; exact of_decide_eq_true hv, ?_⟩
  rw [← els_all (n := n) (by omega) (fun v hv => by rw [has_full h] at hv; exact of_decide_eq_true hv)]
  unfold els
  rw [List.length_map, List.filter_eq_self.2 (fun v hv => by rw [has_full h]; exact decide_eq_true (List.mem_range.1 hv)), List.length_range]
theorem SQ.ne {n k : Nat} {s : Int} (h : SQ n s (k + 1)) : elems s ≠ [] := fun e => by have := h.card; rw [e] at this; simp at this
theorem SQ.z {n : Nat} {s : Int} (h : SQ n s 0) : s = 0 := by
  rw [h.vs.eq_zero]
  intro v hv
  cases hc : has s v
  · rfl
  · have : (v : Int) ∈ elems s := (mem_elems_nat h.vs).2 hc
    have h0 := h.card
    rw [List.length_eq_zero_iff] at h0
    rw [h0] at this; simp at this
/-- the first least -/
theorem SQ.min {n k : Nat} {s : Int} (h : SQ n s (k + 1)) (f : Int → Int) : ∃ c : Nat, c < n ∧ has s c = true ∧ amin f (elems s) = ((c : Int), f c) ∧ ∀ v : Nat, has s v = true → f c ≤ f v := by
  obtain ⟨c, h1, h2, h3⟩ := amin_ok f h.ne (elems_nonneg s)
  obtain ⟨v, _, h5, rfl⟩ := mem_elems.1 h2
  exact ⟨v, h.lt v h5, h5, h1, fun w hw => h3 w ((mem_elems_nat h.vs).2 hw)⟩
end Go.Sx

/- Orders that take, again and again, who costs least: the program's and the reference's are one. Plain. -/
namespace Go.Sx
structure GQ (n i : Nat) (F o : List Int) (s : Int) : Prop where
  f : FOk F n
  left : SQ n s (n - i)
  len : o.length = i
  rng : ∀ x ∈ o, ∃ v : Nat, x = v ∧ v < n ∧ has s v = false
  nd : o.Nodup
theorem idx_F {F : List Int} {n v : Nat} (h : FOk F n) (hv : v < n) : idx F (v : Int) = some (F.getD v 0) := by
  have := h.len
  rw [idx_nat (by omega), getD_lt (by omega)]
end Go.Sx

/- The greatest cliques: the program finds each of them once. Plain. -/
namespace Go.Sx
/-- neighbours of each other -/
def CQ (F : List Int) (K : Int) : Prop := ∀ u w, has K u = true → has K w = true → u ≠ w → nb F u w = true
/-- and nobody more -/
def MX (F : List Int) (n : Nat) (K : Int) : Prop := CQ F K ∧ ∀ w, w < n → has K w = false → ∃ u, has K u = true ∧ nb F u w = false
/-- a set of vertices -/
def In (n : Nat) (K : Int) : Prop := VS K ∧ ∀ w, has K w = true → w < n
structure Tgt (F : List Int) (n : Nat) (C O K : Int) : Prop where
  ok : In n K
  mx : MX F n K
  sup : ∀ w, has C w = true → has K w = true
  sub : ∀ w, has K w = true → has C w = true ∨ has O w = true

theorem In.lt {n : Nat} {K : Int} (h : In n K) (hn : n ≤ 16) : 0 ≤ K ∧ K < 65536 := by
  obtain ⟨m, rfl, hm⟩ := h.1.nat
  refine ⟨by omega, ?_⟩
  have : m < 2 ^ 16 := by
    apply Nat.lt_pow_two_of_testBit
    intro i hi
    cases hc : m.testBit i
    · rfl
    · have := h.2 i (by rw [has_nat]; exact hc)
      omega
  omega
theorem masks_len {n : Nat} {l : List Int} (hn : n ≤ 16) (h : ∀ K ∈ l, In n K) (hd : l.Nodup) : l.length ≤ 65536 := by
  have := nodup_le (m := (List.range 65536).map Int.ofNat) hd (fun K hK => by
    have := (h K hK).lt hn
    exact List.mem_map.2 ⟨K.toNat, List.mem_range.2 (by omega), by show ((K.toNat : Nat) : Int) = K; omega⟩)
  simpa using this

structure BK (F : List Int) (n : Nat) (C O S : Int) : Prop where
  c : In n C
  o : In n O
  s : In n S
  cq : CQ F C
  cn : ∀ w, w < n → ((has O w = true ∨ has S w = true) ↔ ∀ u, has C u = true → nb F u w = true)
  dis : ∀ w, has O w = true → has S w = false

theorem rise_nodup {k : Int → Int} {l : List Int} (h : l.Pairwise (fun a b => k a < k b)) : l.Nodup := List.Pairwise.imp (fun h e => by subst e; omega) h

end Go.Sx

/- What the reference draws from bytes: graphs, right or wrong, orders, sets. Plain. -/
namespace Go.Sx
/-- a draw: something, and the bytes with a place in them -/
def Dw {α : Type} (b : List Int) (P : α → Prop) (e : Option (α × List Int × Int × Int)) : Prop := ∃ y, e = some y ∧ (P y.1 ∧ y.2.1 = b ∧ DK b y.2.2.1)
theorem Dw.then {α β : Type} {b : List Int} {P : α → Prop} {e : Option (α × List Int × Int × Int)} {k : α × List Int × Int × Int → Option β} {Q : β → Prop} (h : Dw b P e)
    (hk : ∀ a i z, P a → DK b i → ∃ y, k (a, b, i, z) = some y ∧ Q y) : ∃ y, e.bind k = some y ∧ Q y := by
  obtain ⟨⟨a, b', i, z⟩, rfl, h1, h2, h3⟩ := h
  dsimp only at h1 h2 h3
  subst h2
  exact hk a i z h1 h3

/-- few rows, and few in each -/
def Few (g : List (List Int)) : Prop := g.length ≤ 17 ∧ ∀ r ∈ g, r.length ≤ 17
theorem Few.sh2 {g : List (List Int)} (h : Few g) : Sh2 g := ⟨by have := h.1; unfold Sh; omega, fun r hr => by have := h.2 r hr; unfold Sh; omega⟩
theorem Few.set {g : List (List Int)} (h : Few g) (k : Nat) {r : List Int} (hr : r.length ≤ 17) : Few (g.set k r) := by
  refine ⟨by have := h.1; simpa using this, fun x hx => ?_⟩
  rcases List.mem_or_eq_of_mem_set hx with hx | rfl
  · exact h.2 x hx
  · exact hr

end Go.Sx

/- The reference's greatest cliques are the program's. Plain. -/
namespace Go.Sx
def Cq (g : List (List Int)) (x : List Int) : Prop := ∀ u w : Nat, (u : Int) ∈ x → (w : Int) ∈ x → u ≠ w → adj g u w
/-- a greatest clique, as a list -/
structure Fin' (g : List (List Int)) (x : List Int) : Prop where
  inc : Inc x
  rng : ∀ z ∈ x, 0 ≤ z ∧ z < g.length
  cq : Cq g x
  mx : ∀ w, w < g.length → ∃ u : Nat, (u : Int) ∈ x ∧ ¬ adj g u w
structure SK (g : List (List Int)) (set left out : List Int) : Prop where
  inc : Inc (set ++ left)
  r1 : ∀ z ∈ set ++ left, 0 ≤ z ∧ z < g.length
  r2 : ∀ z ∈ out, 0 ≤ z ∧ z < g.length
  cq : Cq g set
  cn : ∀ w : Nat, w < g.length → (((w : Int) ∈ left ∨ (w : Int) ∈ out) ↔ ∀ u : Nat, (u : Int) ∈ set → adj g u w)
  len : out.length + left.length ≤ 16

/-- the greatest cliques, in order -/
structure GC (g : List (List Int)) (l : List Int) : Prop where
  up : l.Pairwise fun a b => lkey a < lkey b
  mem : ∀ K, K ∈ l ↔ In g.length K ∧ MX (g.map mk) g.length K

end Go.Sx

/- 'laws.FnOrders' comes to true. Plain. -/
namespace Go.Sx
section
variable {g : List (List Int)} (hg : GOk g)
include hg
theorem OOk.shl {o : List Int} (ho : OOk g o) : Sh o := ho.sh hg
end
end Go.Sx

/- Sets as 64-bit numbers, as the reference has them. Plain. -/
namespace Go.Sx
/-- a set of at most 16 -/
def S16 (s : Int) : Prop := 0 ≤ s ∧ s < 65536
theorem S16.vs {s : Int} (h : S16 s) : VS s := ⟨h.1, by have := h.2; omega⟩
theorem S16.nat {s : Int} (h : S16 s) : ∃ n : Nat, s = n ∧ n < 65536 := ⟨s.toNat, by have := h.1; omega, by have := h.1; have := h.2; omega⟩
theorem S16.lt {s : Int} (h : S16 s) {v : Nat} (hv : has s v = true) : v < 16 := by
  obtain ⟨n, rfl, hn⟩ := h.nat
  rw [has_nat] at hv
  have := Nat.ge_two_pow_of_testBit hv
  apply Classical.byContradiction
  intro hc
  have h2 : 2 ^ 16 ≤ 2 ^ v := Nat.pow_le_pow_right (by omega) (by omega)
  omega
theorem In.of {n i : Nat} (h : i < 2 ^ n) (hn : n ≤ 16) : In n (i : Int) := by
  have : 2 ^ n ≤ 2 ^ 16 := Nat.pow_le_pow_right (by omega) hn
  refine ⟨⟨by omega, by omega⟩, fun w hw => ?_⟩
  rw [has_nat] at hw
  have := Nat.ge_two_pow_of_testBit hw
  apply Classical.byContradiction
  intro hc
  have h2 : 2 ^ n ≤ 2 ^ w := Nat.pow_le_pow_right (by omega) (by omega)
  omega
end Go.Sx

/- A graph whose vertices are renamed by an order; 'laws.FnSetsOk' comes to true. Plain. -/
namespace Go.Sx
/-! ### renaming -/
theorem vset_has_eq {s : Int} (h : VS s) {v : Nat} (hv : v < 32) : D.impl_vset_has s (v : Int) = some (has s v) := by
  unfold D.impl_vset_has
  have : decide ((v : Int) < 0) = false := by simp
  rw [this, cond_false, bitAt_eq h hv]
end Go.Sx

/- 'laws.FnCliques' comes to true. Plain. -/
namespace Go.Sx
end Go.Sx

/- Prunes of a graph: the program accepts what the reference accepts. Plain. -/
namespace Go.Sx
theorem l1Same_eq (x y : List Int) (hx : Sh x) : D.spec_l1Same x y = some (decide (x = y)) := by
  unfold Sh at hx
  unfold D.spec_l1Same
  by_cases hl : x.length = y.length
  · have e : ((x.length : Int) != (y.length : Int)) = false := by simp [hl]
    rw [e, cond_false]
    refine (loop_allb x.length (fun i => x.getD i 0 == y.getD i 0) false (fun i hi => ?_) ?_ rfl rfl).trans ?_
    · have hi' : i < y.length := by omega
      simp only [dlt hi, cond_true, idx_nat hi, idx_nat hi', Option.bind_some, getD_lt hi, getD_lt hi', wi (show i < 4611686018427387904 by omega)]
      by_cases h : x[i] = y[i]
      · have : (x[i] != y[i]) = false := by simp [h]
        rw [this, cond_false, if_pos (by simp [h])]
      · have : (x[i] != y[i]) = true := by simp [h]
        rw [this, cond_true, if_neg (by simp [h])]
    · simp only [dnlt, cond_false]
    · congr 1
      rw [Bool.eq_iff_iff, all_forall, decide_eq_true_eq]
      constructor
      · intro h
        exact ext_getD hl (fun j hj => by have := h j hj; simpa using this)
      · rintro rfl i _; simp
  · have e : ((x.length : Int) != (y.length : Int)) = true := by simp; omega
    rw [e, cond_true, decide_eq_false (fun h => hl (by rw [h]))]

/-- who of a set is near v, but for one -/
def nearN (g : List (List Int)) (v : Nat) (but : Int) (l : List Int) : List Int := (row g v).filter fun x => x != but && decide (x ∈ l)
theorem l18Near_eq {g : List (List Int)} (hg : GOk g) {v : Nat} (hv : v < g.length) (but : Int) (l : List Int) (hl : Sh l) : D.spec_l18Near g l (v : Int) but = some (nearN g v but l) := by
  have hr := hg.row_len hv
  unfold D.spec_l18Near nearN
  refine (loop_to (fun i => (((row g v).take i).filter (fun x => x != but && decide (x ∈ l)), (i : Int))) (row g v).length ((row g v).filter fun x => x != but && decide (x ∈ l)) (by simp) (fun i hi => ?_) ?_).trans rfl
  · have hlen : (((row g v).take i).filter (fun x => x != but && decide (x ∈ l))).length ≤ 16 := Nat.le_trans (List.length_filter_le _ _) (by simp; omega)
    simp only [idx_row hv, Option.bind_some, dlt hi, cond_true, idx_nat hi, l1Has_eq _ _ hl, wi (show i < 4611686018427387904 by omega)]
    rw [take_filter_succ (fun x => x != but && decide (x ∈ l)) hi]
    cases (row g v)[i] != but
    · simp
    · rw [cond_true, Option.bind_some, Bool.true_and]
      cases decide ((row g v)[i] ∈ l)
      · simp
      · rw [cond_true, appendD_ok (by rw [List.length_singleton]; omega), Option.bind_some]; simp
  · simp only [idx_row hv, Option.bind_some, dnlt, cond_false, List.take_length]
theorem mem_nearN {g : List (List Int)} {v : Nat} {but : Int} {s : Int} (hs : VS s) (w : Nat) : (w : Int) ∈ nearN g v but (elems s) ↔ adj g v w ∧ (w : Int) ≠ but ∧ has s w = true := by
  unfold nearN adj
  rw [List.mem_filter, Bool.and_eq_true, decide_eq_true_eq, mem_elems_nat hs]
  simp

/-- may v be pruned by b, in the set s? -/
def canB (g : List (List Int)) (s : Int) (v : Nat) (b k : Int) : Prop :=
  if k = 1 then b = -1 ∧ ∀ w, has s w = true → ¬ adj g v w
  else ∃ u : Nat, b = u ∧ u ≠ v ∧ has s u = true ∧
    ((k = 2 ∧ ∀ w, has s w = true → (adj g v w ↔ w = u)) ∨ (k = 3 ∧ ¬ adj g v u ∧ ∀ w, has s w = true → (adj g v w ↔ adj g u w)) ∨
      (k = 4 ∧ adj g v u ∧ ∀ w, has s w = true → w ≠ u → w ≠ v → (adj g v w ↔ adj g u w)))

theorem nil_len {l : List Int} : (((l.length : Int) == 0) = true) ↔ l = [] := by
  rw [beq_iff_eq]
  constructor
  · intro h; exact List.length_eq_zero_iff.1 (by omega)
  · rintro rfl; rfl
theorem nearN_nil {g : List (List Int)} (hg : GOk g) {v : Nat} (hv : v < g.length) {but : Int} {s : Int} (hs : VS s) : nearN g v but (elems s) = [] ↔ ∀ w : Nat, adj g v w → (w : Int) ≠ but → has s w = true → False := by
  constructor
  · intro h w h1 h2 h3
    have := (mem_nearN (g := g) (v := v) (but := but) hs w).2 ⟨h1, h2, h3⟩
    rw [h] at this; simp at this
  · intro h
    cases hl : nearN g v but (elems s) with
    | nil => rfl
    | cons a l =>
      exfalso
      have ha : a ∈ nearN g v but (elems s) := by rw [hl]; simp
      obtain ⟨w, rfl, _, _⟩ := hg.mem hv (List.mem_filter.1 ha).1
      obtain ⟨h1, h2, h3⟩ := (mem_nearN hs w).1 ha
      exact h w h1 h2 h3
theorem nearN_same {g : List (List Int)} (hg : GOk g) {v u : Nat} (hv : v < g.length) (hu : u < g.length) {a b : Int} {s : Int} (hs : VS s) : nearN g v a (elems s) = nearN g u b (elems s) ↔ ∀ w : Nat, has s w = true → ((adj g v w ∧ (w : Int) ≠ a) ↔ (adj g u w ∧ (w : Int) ≠ b)) := by
  constructor
  · intro h w hw
    have h1 := mem_nearN (g := g) (v := v) (but := a) hs w
    have h2 := mem_nearN (g := g) (v := u) (but := b) hs w
    rw [h] at h1
    have h3 := h1.symm.trans h2
    constructor
    · rintro ⟨a1, a2⟩; have := h3.1 ⟨a1, a2, hw⟩; exact ⟨this.1, this.2.1⟩
    · rintro ⟨a1, a2⟩; have := h3.2 ⟨a1, a2, hw⟩; exact ⟨this.1, this.2.1⟩
  · intro h
    refine Inc.ext (List.Pairwise.filter _ (hg.rows v hv).1) (List.Pairwise.filter _ (hg.rows u hu).1) (fun x => ?_)
    constructor
    · intro hx
      obtain ⟨w, rfl, _, _⟩ := hg.mem hv (List.mem_filter.1 hx).1
      obtain ⟨h1, h2, h3⟩ := (mem_nearN hs w).1 hx
      have := (h w h3).1 ⟨h1, h2⟩
      exact (mem_nearN hs w).2 ⟨this.1, this.2, h3⟩
    · intro hx
      obtain ⟨w, rfl, _, _⟩ := hg.mem hu (List.mem_filter.1 hx).1
      obtain ⟨h1, h2, h3⟩ := (mem_nearN hs w).1 hx
      have := (h w h3).2 ⟨h1, h2⟩
      exact (mem_nearN hs w).2 ⟨this.1, this.2, h3⟩

theorem l18Goes_eq {g : List (List Int)} (hg : GOk g) {s : Int} (hs : In g.length s) {v : Nat} (hv : v < g.length) (b k : Int) : ∃ r, D.spec_l18Goes g (elems s) (v : Int) b k = some r ∧ (r = true ↔ canB g s v b k) := by
  have hel := elems_len s
  have hsh : Sh (elems s) := by unfold Sh; omega
  unfold D.spec_l18Goes canB
  rw [l18Near_eq hg hv b _ hsh, Option.bind_some]
  by_cases h1 : k = 1
  · have e : (k == 1) = true := by simp [h1]
    rw [e, cond_true, if_pos h1]
    refine ⟨_, rfl, ?_⟩
    rw [Bool.and_eq_true, nil_len, beq_iff_eq, nearN_nil hg hv hs.1]
    constructor
    · rintro ⟨h2, h3⟩
      exact ⟨h2, fun w hw ha => h3 w ha (by omega) hw⟩
    · rintro ⟨h2, h3⟩
      exact ⟨h2, fun w ha _ hw => h3 w hw ha⟩
  · have e : (k == 1) = false := by simp [h1]
    rw [e, cond_false, if_neg h1]
    by_cases h2 : b = (v : Int)
    · have e2 : (b == (v : Int)) = true := by simp [h2]
      rw [e2, cond_true, Option.bind_some, cond_true]
      refine ⟨false, rfl, ?_⟩
      constructor
      · intro h; cases h
      · rintro ⟨u, h3, h4, _⟩; omega
    · have e2 : (b == (v : Int)) = false := by simp [h2]
      rw [e2, cond_false, l1Has_eq _ _ hsh, Option.bind_some, Option.bind_some]
      by_cases h3 : b ∈ elems s
      · obtain ⟨u, hu, rfl⟩ : ∃ u : Nat, has s u = true ∧ b = u := by
          obtain ⟨u, _, h4, h5⟩ := mem_elems.1 h3
          exact ⟨u, h4, h5⟩
        have hun := hs.2 u hu
        have huv : u ≠ v := fun e => h2 (by rw [e])
        rw [decide_eq_true h3, Bool.not_true, cond_false, idx_row hv, Option.bind_some, l1Has_eq _ _ (hg.sh2.row hv), Option.bind_some]
        have hex : ∀ Q : Nat → Prop, (∃ u' : Nat, (u : Int) = u' ∧ u' ≠ v ∧ has s u' = true ∧ Q u') ↔ Q u := fun Q => by
          constructor
          · rintro ⟨u', h5, _, _, h6⟩
            obtain rfl : u = u' := by omega
            exact h6
          · intro h; exact ⟨u, rfl, huv, hu, h⟩
        rw [hex (fun u => (k = 2 ∧ ∀ w, has s w = true → (adj g v w ↔ w = u)) ∨ (k = 3 ∧ ¬ adj g v u ∧ ∀ w, has s w = true → (adj g v w ↔ adj g u w)) ∨ (k = 4 ∧ adj g v u ∧ ∀ w, has s w = true → w ≠ u → w ≠ v → (adj g v w ↔ adj g u w)))]
        have hadj : decide ((u : Int) ∈ row g v) = true ↔ adj g v u := by rw [decide_eq_true_eq]; rfl
        have hnv : ∀ w : Nat, (w : Int) ≠ (u : Int) ↔ w ≠ u := fun w => by constructor <;> intro h <;> omega
        have hnv2 : ∀ w : Nat, (w : Int) ≠ (v : Int) ↔ w ≠ v := fun w => by constructor <;> intro h <;> omega
        have hsym : adj g u v ↔ adj g v u := ⟨hg.sym u v hun, hg.sym v u hv⟩
        by_cases k2 : k = 2
        · subst k2
          rw [show ((2 : Int) == 2) = true from rfl, cond_true]
          refine ⟨_, rfl, ?_⟩
          rw [Bool.and_eq_true, hadj, nil_len, nearN_nil hg hv hs.1]
          constructor
          · rintro ⟨ha, h5⟩
            refine .inl ⟨rfl, fun w hw => ⟨fun hA => ?_, fun e => by rw [e]; exact ha⟩⟩
            apply Classical.byContradiction
            intro hne
            exact h5 w hA ((hnv w).2 hne) hw
          · rintro (⟨_, h5⟩ | ⟨h5, _⟩ | ⟨h5, _⟩)
            · exact ⟨(h5 u hu).2 rfl, fun w hA hne hw => (hnv w).1 hne ((h5 w hw).1 hA)⟩
            · cases h5
            · cases h5
        · have e4 : (k == 2) = false := by simp [k2]
          rw [e4, cond_false]
          by_cases k3 : k = 3
          · subst k3
            rw [show ((3 : Int) == 3) = true from rfl, cond_true]
            by_cases ha : adj g v u
            · rw [hadj.2 ha, Bool.not_true, cond_false]
              refine ⟨false, rfl, ?_⟩
              constructor
              · intro h; cases h
              · rintro (⟨h5, _⟩ | ⟨_, h5, _⟩ | ⟨h5, _⟩)
                · cases h5
                · exact absurd ha h5
                · cases h5
            · have e5 : decide ((u : Int) ∈ row g v) = false := decide_eq_false ha
              rw [e5, Bool.not_false, cond_true, l18Near_eq hg hun (v : Int) _ hsh, Option.bind_some, l1Same_eq _ _ (by have := hg.row_len hv; exact Nat.le_trans (List.length_filter_le _ _) (by omega)), Option.bind_some, Option.bind_some]
              refine ⟨_, rfl, ?_⟩
              rw [decide_eq_true_eq, nearN_same hg hv hun hs.1]
              constructor
              · intro h
                refine .inr (.inl ⟨rfl, ha, fun w hw => ?_⟩)
                have := h w hw
                constructor
                · intro hA
                  exact (this.1 ⟨hA, (hnv w).2 (fun e => ha (e ▸ hA))⟩).1
                · intro hA
                  exact (this.2 ⟨hA, (hnv2 w).2 (fun e => ha (hsym.1 (e ▸ hA)))⟩).1
              · rintro (⟨h5, _⟩ | ⟨_, _, h5⟩ | ⟨h5, _⟩)
                · cases h5
                · intro w hw
                  have := h5 w hw
                  constructor
                  · rintro ⟨hA, _⟩
                    exact ⟨this.1 hA, (hnv2 w).2 (fun e => hg.irr v hv (e ▸ hA))⟩
                  · rintro ⟨hA, _⟩
                    exact ⟨this.2 hA, (hnv w).2 (fun e => hg.irr u hun (e ▸ hA))⟩
                · cases h5
          · have e5 : (k == 3) = false := by simp [k3]
            rw [e5, cond_false]
            by_cases k4 : k = 4
            · subst k4
              rw [show ((4 : Int) == 4) = true from rfl, cond_true]
              by_cases ha : adj g v u
              · rw [hadj.2 ha, cond_true, l18Near_eq hg hun (v : Int) _ hsh, Option.bind_some, l1Same_eq _ _ (by have := hg.row_len hv; exact Nat.le_trans (List.length_filter_le _ _) (by omega)), Option.bind_some, Option.bind_some]
                refine ⟨_, rfl, ?_⟩
                rw [decide_eq_true_eq, nearN_same hg hv hun hs.1]
                constructor
                · intro h
                  refine .inr (.inr ⟨rfl, ha, fun w hw h6 h7 => ?_⟩)
                  have := h w hw
                  exact ⟨fun hA => (this.1 ⟨hA, (hnv w).2 h6⟩).1, fun hA => (this.2 ⟨hA, (hnv2 w).2 h7⟩).1⟩
                · rintro (⟨h5, _⟩ | ⟨h5, _⟩ | ⟨_, _, h5⟩)
                  · cases h5
                  · cases h5
                  · intro w hw
                    constructor
                    · rintro ⟨hA, h6⟩
                      have h7 : w ≠ v := fun e => hg.irr v hv (e ▸ hA)
                      exact ⟨(h5 w hw ((hnv w).1 h6) h7).1 hA, (hnv2 w).2 h7⟩
                    · rintro ⟨hA, h6⟩
                      have h7 : w ≠ u := fun e => hg.irr u hun (e ▸ hA)
                      exact ⟨(h5 w hw h7 ((hnv2 w).1 h6)).2 hA, (hnv w).2 h7⟩
              · have e6 : decide ((u : Int) ∈ row g v) = false := decide_eq_false ha
                rw [e6, cond_false, Option.bind_some]
                refine ⟨false, rfl, ?_⟩
                constructor
                · intro h; cases h
                · rintro (⟨h5, _⟩ | ⟨h5, _⟩ | ⟨_, h5, _⟩)
                  · cases h5
                  · cases h5
                  · exact absurd h5 ha
            · have e6 : (k == 4) = false := by simp [k4]
              rw [e6, cond_false]
              refine ⟨false, rfl, ?_⟩
              constructor
              · intro h; cases h
              · rintro (⟨h5, _⟩ | ⟨h5, _⟩ | ⟨h5, _⟩)
                · exact absurd h5 k2
                · exact absurd h5 k3
                · exact absurd h5 k4
      · rw [decide_eq_false h3, Bool.not_false, cond_true]
        refine ⟨false, rfl, ?_⟩
        constructor
        · intro h; cases h
        · rintro ⟨u, rfl, _, hu, _⟩
          exact absurd ((mem_elems_nat hs.1).2 hu) h3

theorem eq_mask {a b : Int} (ha : VS a) (hb : VS b) : ((a == b) = true) ↔ ∀ w, has a w = has b w := by
  rw [beq_iff_eq]
  constructor
  · rintro rfl w; rfl
  · intro h; exact ha.ext hb (fun v _ => h v)

theorem canPrune_eq {g : List (List Int)} (hg : GOk g) {s : Int} (hs : In g.length s) {v : Nat} (hv : v < g.length) (b k : Int) : ∃ r, D.impl_canPrune (g.map mk) s (v : Int) b k = some r ∧ (r = true ↔ canB g s v b k) := by
  have h16 := hg.n16
  have hF := FOk.of hg
  have hml : ((g.map mk).length : Int) = g.length := by simp
  have hh : ∀ (x : Nat), x < g.length → ∀ w, has (iand .u32 ((g.map mk).getD x 0) s) w = true ↔ adj g x w ∧ has s w = true := fun x hx w => by
    rw [has_iand (hF.vs x hx) hs.1, Bool.and_eq_true]
    exact and_congr (nb_mk hg hx) Iff.rfl
  unfold D.impl_canPrune canB
  rw [idx_F hF hv, Option.bind_some]
  by_cases h1 : k = 1
  · have e : (k == 1) = true := by simp [h1]
    rw [e, cond_true, if_pos h1]
    refine ⟨_, rfl, ?_⟩
    rw [Bool.and_eq_true, beq_iff_eq, eq_mask (VS.iand _ _) VS.zero]
    refine and_congr Iff.rfl ?_
    constructor
    · intro h w hw ha
      have := h w
      rw [has_zero, (hh v hv w).2 ⟨ha, hw⟩] at this; cases this
    · intro h w
      rw [has_zero, Bool.eq_false_iff]
      intro hc
      obtain ⟨ha, hw⟩ := (hh v hv w).1 hc
      exact h w hw ha
  · have e : (k == 1) = false := by simp [h1]
    rw [e, cond_false, if_neg h1, inRange_eq, Option.bind_some, hml, w64 (by omega) (by omega)]
    by_cases h2 : (0 ≤ b ∧ b ≤ (g.length : Int) - 1) ∧ b ≠ v
    · obtain ⟨⟨h3, h4⟩, h5⟩ := h2
      obtain ⟨u, rfl⟩ : ∃ u : Nat, b = u := ⟨b.toNat, by omega⟩
      have hun : u < g.length := by omega
      have huv : u ≠ v := fun e => h5 (by rw [e])
      have e2 : (!(decide ((0 : Int) ≤ (u : Int)) && decide ((u : Int) ≤ (g.length : Int) - 1)) || ((u : Int) == (v : Int))) = false := by
        rw [decide_eq_true h3, decide_eq_true h4]; simp; omega
      rw [e2, cond_false, vset_has_eq hs.1 (by omega), Option.bind_some, Option.bind_some]
      cases hu : has s u
      · rw [Bool.not_false, cond_true]
        refine ⟨false, rfl, ?_⟩
        constructor
        · intro h; cases h
        · rintro ⟨u', h6, _, h7, _⟩
          obtain rfl : u = u' := by omega
          rw [hu] at h7; cases h7
      · rw [Bool.not_true, cond_false, idx_F hF hun, Option.bind_some]
        have hex : ∀ Q : Nat → Prop, (∃ u' : Nat, (u : Int) = u' ∧ u' ≠ v ∧ has s u' = true ∧ Q u') ↔ Q u := fun Q => by
          constructor
          · rintro ⟨u', h5, _, _, h6⟩
            obtain rfl : u = u' := by omega
            exact h6
          · intro h; exact ⟨u, rfl, huv, hu, h⟩
        rw [hex (fun u => (k = 2 ∧ ∀ w, has s w = true → (adj g v w ↔ w = u)) ∨ (k = 3 ∧ ¬ adj g v u ∧ ∀ w, has s w = true → (adj g v w ↔ adj g u w)) ∨ (k = 4 ∧ adj g v u ∧ ∀ w, has s w = true → w ≠ u → w ≠ v → (adj g v w ↔ adj g u w)))]
        have hsym : adj g u v ↔ adj g v u := ⟨hg.sym u v hun, hg.sym v u hv⟩
        by_cases k2 : k = 2
        · subst k2
          rw [show ((2 : Int) == 2) = true from rfl, cond_true, impl_one_eq, Option.bind_some]
          refine ⟨_, rfl, ?_⟩
          rw [eq_mask (VS.iand _ _) (VS.ishl _ _)]
          constructor
          · intro h
            refine .inl ⟨rfl, fun w hw => ?_⟩
            have := h w
            rw [has_one (by omega)] at this
            constructor
            · intro hA
              rw [(hh v hv w).2 ⟨hA, hw⟩] at this
              exact of_decide_eq_true this.symm
            · intro e
              rw [decide_eq_true e] at this
              exact ((hh v hv w).1 this).1
          · rintro (⟨_, h5⟩ | ⟨h5, _⟩ | ⟨h5, _⟩)
            · intro w
              rw [has_one (by omega), Bool.eq_iff_iff, hh v hv w, decide_eq_true_eq]
              constructor
              · rintro ⟨hA, hw⟩; exact (h5 w hw).1 hA
              · intro e
                have hw : has s w = true := by rw [e]; exact hu
                exact ⟨(h5 w hw).2 e, hw⟩
            · cases h5
            · cases h5
        · have e4 : (k == 2) = false := by simp [k2]
          rw [e4, cond_false]
          by_cases k3 : k = 3
          · subst k3
            rw [show ((3 : Int) == 3) = true from rfl, cond_true]
            refine ⟨_, rfl, ?_⟩
            rw [eq_mask (VS.iand _ _) (VS.iand _ _)]
            constructor
            · intro h
              have key : ∀ w, has s w = true → (adj g v w ↔ adj g u w) := fun w hw => by
                have := h w
                rw [Bool.eq_iff_iff, hh v hv w, hh u hun w] at this
                exact ⟨fun hA => (this.1 ⟨hA, hw⟩).1, fun hA => (this.2 ⟨hA, hw⟩).1⟩
              exact .inr (.inl ⟨rfl, fun ha => hg.irr u hun ((key u hu).1 ha), key⟩)
            · rintro (⟨h5, _⟩ | ⟨_, _, h5⟩ | ⟨h5, _⟩)
              · cases h5
              · intro w
                rw [Bool.eq_iff_iff, hh v hv w, hh u hun w]
                exact ⟨fun ⟨hA, hw⟩ => ⟨(h5 w hw).1 hA, hw⟩, fun ⟨hA, hw⟩ => ⟨(h5 w hw).2 hA, hw⟩⟩
              · cases h5
          · have e5 : (k == 3) = false := by simp [k3]
            rw [e5, cond_false]
            by_cases k4 : k = 4
            · subst k4
              rw [show ((4 : Int) == 4) = true from rfl, cond_true, vset_has_eq (VS.iand _ _) (by omega), Option.bind_some]
              cases hc : has (iand .u32 ((g.map mk).getD v 0) s) u
              · rw [cond_false, Option.bind_some]
                refine ⟨false, rfl, ?_⟩
                constructor
                · intro h; cases h
                · rintro (⟨h5, _⟩ | ⟨h5, _⟩ | ⟨_, h5, _⟩)
                  · cases h5
                  · cases h5
                  · rw [(hh v hv u).2 ⟨h5, hu⟩] at hc; cases hc
              · have ha := ((hh v hv u).1 hc).1
                rw [cond_true, impl_one_eq, impl_one_eq, Option.bind_some, Option.bind_some, Option.bind_some]
                refine ⟨_, rfl, ?_⟩
                have hh2 : ∀ (x y : Nat), x < g.length → y < g.length → ∀ w, has (iandNot .u32 (iand .u32 ((g.map mk).getD x 0) s) (ishl .u32 1 (y : Int))) w = true ↔ (adj g x w ∧ has s w = true) ∧ w ≠ y := fun x y hx hy w => by
                  rw [has_iandNot (VS.iand _ _) (VS.ishl _ _), has_one (by omega), Bool.and_eq_true, hh x hx w]
                  simp
                rw [eq_mask (VS.iandNot _ _) (VS.iandNot _ _)]
                constructor
                · intro h
                  refine .inr (.inr ⟨rfl, ha, fun w hw h6 h7 => ?_⟩)
                  have := h w
                  rw [Bool.eq_iff_iff, hh2 v u hv hun w, hh2 u v hun hv w] at this
                  exact ⟨fun hA => (this.1 ⟨⟨hA, hw⟩, h6⟩).1.1, fun hA => (this.2 ⟨⟨hA, hw⟩, h7⟩).1.1⟩
                · rintro (⟨h5, _⟩ | ⟨h5, _⟩ | ⟨_, _, h5⟩)
                  · cases h5
                  · cases h5
                  · intro w
                    rw [Bool.eq_iff_iff, hh2 v u hv hun w, hh2 u v hun hv w]
                    constructor
                    · rintro ⟨⟨hA, hw⟩, h6⟩
                      have h7 : w ≠ v := fun e => hg.irr v hv (e ▸ hA)
                      exact ⟨⟨(h5 w hw h6 h7).1 hA, hw⟩, h7⟩
                    · rintro ⟨⟨hA, hw⟩, h7⟩
                      have h6 : w ≠ u := fun e => hg.irr u hun (e ▸ hA)
                      exact ⟨⟨(h5 w hw h6 h7).2 hA, hw⟩, h6⟩
            · have e6 : (k == 4) = false := by simp [k4]
              rw [e6, cond_false]
              refine ⟨false, rfl, ?_⟩
              constructor
              · intro h; cases h
              · rintro (⟨h5, _⟩ | ⟨h5, _⟩ | ⟨h5, _⟩)
                · exact absurd h5 k2
                · exact absurd h5 k3
                · exact absurd h5 k4
    · have e2 : (!(decide ((0 : Int) ≤ b) && decide (b ≤ (g.length : Int) - 1)) || (b == (v : Int))) = true := by
        by_cases h5 : b = v
        · simp [h5]
        · have : ¬ (0 ≤ b ∧ b ≤ (g.length : Int) - 1) := fun h => h2 ⟨h, h5⟩
          rw [Bool.or_eq_true, Bool.not_eq_true']
          left
          rw [Bool.and_eq_false_iff, decide_eq_false_iff_not, decide_eq_false_iff_not]
          by_cases h6 : 0 ≤ b
          · right; intro h7; exact this ⟨h6, h7⟩
          · left; exact h6
      rw [e2, cond_true, Option.bind_some, cond_true]
      refine ⟨false, rfl, ?_⟩
      constructor
      · intro h; cases h
      · rintro ⟨u, rfl, h6, h7, _⟩
        have := hs.2 u h7
        exact absurd ⟨⟨by omega, by omega⟩, by omega⟩ h2
end Go.Sx
