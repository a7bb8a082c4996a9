/- Parts of the proof: Xf, Xh, Ua, Ub, Uc, Va, Vc, Qg, U1D, Qh, Xi. -/
import Derived.Test.YtebbefpdncgoiaaGreatDoorCt6
import Derived.KernelRfl
set_option linter.unusedVariables false
set_option linter.unusedSimpArgs false
set_option linter.unusedSectionVars false
/- Who is reached in a net of sets. Plain. -/
namespace Go.Sx
/-- a net over n things: sets of numbers below n -/
structure Net (A : List Int) (n : Nat) : Prop where
  len : A.length = n
  vs : ∀ u, u < n → VS (A.getD u 0)
  lt : ∀ u w, u < n → nb A u w = true → w < n
theorem FOk.net {A : List Int} {n : Nat} (h : FOk A n) : Net A n := ⟨h.len, h.vs, h.lt⟩
/-- who is reached from v within W -/
structure Rch (A : List Int) (W : Int) (v : Nat) (S : Int) : Prop where
  vs : VS S
  me : has S v = true
  step : ∀ x y, has S x = true → nb A x y = true → has W y = true → has S y = true
  least : ∀ T : Nat → Prop, T v → (∀ x y, T x → nb A x y = true → has W y = true → T y) → ∀ x, has S x = true → T x

theorem reach_ok {A : List Int} {n : Nat} (hn : n ≤ 16) (hA : Net A n) {v : Nat} (hv : v < n) {W : Int} (hW : VS W) : ∃ S, D.M A (v : Int) W = some S ∧ Rch A W v S ∧ ∀ x, has S x = true → x < n := by
  unfold D.M
  rw [impl_one_eq, Option.bind_some]
  refine loop_then (fun S => VS S ∧ has S v = true ∧ (∀ x, has S x = true → x < n) ∧ ∀ T : Nat → Prop, T v → (∀ x y, T x → nb A x y = true → has W y = true → T y) → ∀ x, has S x = true → T x) (fun S => n - (elems S).length)
    (fun S => Rch A W v S ∧ ∀ x, has S x = true → x < n) ?_ ?_ (fun r hr => ⟨r, rfl, hr⟩)
  · rintro S ⟨hS, hv', hlt, hT⟩
    have hle := elems_len S
    simp only [list_eq S hS, Option.bind_some]
    have hin := loop_then (step := (fun (s_223 : Int × Int) => match s_223 with | (x_226, x_227) => cond (decide (x_227 < ((elems S).length : Int))) ((idx (elems S) x_227).bind fun e_246 => (idx A e_246).bind fun e_252 => some (.inl ((ior .u32 x_226 (iand .u32 e_252 W)), (IntKind.i64.wrap (x_227 + 1))))) (some (.inr x_226)))) (s := (S, 0)) (k := fun r => some r) (Q := fun X : Int => VS X ∧ ∀ y, has X y = true ↔ has S y = true ∨ ∃ u : Nat, has S u = true ∧ nb A u y = true ∧ has W y = true)
      (fun s => ∃ k : Nat, s.2 = (k : Int) ∧ k ≤ (elems S).length ∧ VS s.1 ∧ ∀ y, has s.1 y = true ↔ has S y = true ∨ ∃ u : Nat, (u : Int) ∈ (elems S).take k ∧ nb A u y = true ∧ has W y = true) (fun s => (elems S).length - s.2.toNat) (fun X => VS X ∧ ∀ y, has X y = true ↔ has S y = true ∨ ∃ u : Nat, has S u = true ∧ nb A u y = true ∧ has W y = true)
      ?_ ⟨0, rfl, by omega, hS, fun y => by simp⟩ (fun r hr => ⟨r, rfl, hr⟩)
    · obtain ⟨X, hX, hX1, hX2⟩ := hin
      rw [Option.bind_eq_some_iff] at hX
      obtain ⟨z, e1, e2⟩ := hX
      cases e2
      rw [e1, Option.bind_some]
      by_cases hc : X = S
      · subst hc
        simp only [beq_self_eq_true, cond_true]
        refine ⟨_, rfl, ⟨hS, hv', fun x y h1 h2 h3 => (hX2 y).2 (.inr ⟨x, h1, h2, h3⟩), hT⟩, hlt⟩
      · have e3 : (X == S) = false := by simpa using hc
        simp only [e3, cond_false]
        have hXlt : ∀ x, has X x = true → x < n := fun x hx => by
          rcases (hX2 x).1 hx with h | ⟨u, h1, h2, _⟩
          · exact hlt x h
          · exact hA.lt u x (hlt u h1) h2
        refine ⟨_, rfl, ⟨hX1, (hX2 v).2 (.inl hv'), hXlt, fun T h1 h2 x hx => ?_⟩, ?_⟩
        · rcases (hX2 x).1 hx with h | ⟨u, h3, h4, h5⟩
          · exact hT T h1 h2 x h
          · exact h2 u x (hT T h1 h2 u h3) h4 h5
        · -- one more at least
          obtain ⟨w, hw, hws⟩ : ∃ w : Nat, has X w = true ∧ has S w = false := by
            apply Classical.byContradiction
            intro hno
            refine hc (hX1.ext hS (fun w _ => ?_))
            rw [Bool.eq_iff_iff]
            refine ⟨fun h => ?_, fun h => (hX2 w).2 (.inl h)⟩
            cases hh : has S w
            · exact absurd ⟨w, h, hh⟩ hno
            · rfl
          have h1 : ((w : Int) :: elems S).length ≤ (elems X).length := nodup_le (List.nodup_cons.2 ⟨fun hm => by rw [mem_elems_nat hS, hws] at hm; exact Bool.noConfusion hm, (elems_inc S).nodup⟩) (fun x hx => by
            rcases List.mem_cons.1 hx with rfl | hx
            · rw [mem_elems_nat hX1]; exact hw
            · obtain ⟨u, _, h2, rfl⟩ := mem_elems.1 hx
              rw [mem_elems_nat hX1]; exact (hX2 u).2 (.inl h2))
          have h2 : (elems X).length ≤ n := (elems_inc X).short (n := n) (fun x hx => by
            obtain ⟨u, _, h2, rfl⟩ := mem_elems.1 hx
            have := hXlt u h2; omega)
          simp at h1
          show n - (elems X).length < n - (elems S).length
          omega
    · rintro ⟨X, _⟩ ⟨k, rfl, hk, hX1, hX2⟩
      dsimp only at hX1 hX2 ⊢
      by_cases hkl : k < (elems S).length
      · obtain ⟨u, _, h2, h3⟩ := mem_elems.1 (List.getElem_mem hkl)
        have hu := hlt u h2
        have hAu : idx A (u : Int) = some (A.getD u 0) := by rw [idx_nat (by rw [hA.len]; exact hu), getD_lt (by rw [hA.len]; exact hu)]
        simp only [dlt hkl, cond_true, idx_nat hkl, Option.bind_some, h3, hAu, wi (show k < 4611686018427387904 by omega)]
        refine ⟨_, rfl, ⟨k + 1, rfl, hkl, VS.ior _ _, fun y => ?_⟩, by dsimp only; omega⟩
        dsimp only
        rw [has_ior hX1 (VS.iand _ _), Bool.or_eq_true, has_iand (hA.vs u hu) hW, Bool.and_eq_true, hX2, List.take_succ_eq_append_getElem hkl, h3]
        constructor
        · rintro ((h | ⟨u', h4, h5⟩) | ⟨h4, h5⟩)
          · exact .inl h
          · exact .inr ⟨u', List.mem_append_left _ h4, h5⟩
          · exact .inr ⟨u, List.mem_append_right _ (by simp), h4, h5⟩
        · rintro (h | ⟨u', h4, h5, h6⟩)
          · exact .inl (.inl h)
          · rcases List.mem_append.1 h4 with h4 | h4
            · exact .inl (.inr ⟨u', h4, h5, h6⟩)
            · simp at h4
              obtain rfl : u' = u := by omega
              exact .inr ⟨h5, h6⟩
      · obtain rfl : k = (elems S).length := by omega
        simp only [dnlt, cond_false]
        refine ⟨_, rfl, hX1, fun y => ?_⟩
        rw [hX2, List.take_length]
        constructor
        · rintro (h | ⟨u, h1, h2⟩)
          · exact .inl h
          · exact .inr ⟨u, (mem_elems_nat hS).1 h1, h2⟩
        · rintro (h | ⟨u, h1, h2⟩)
          · exact .inl h
          · exact .inr ⟨u, (mem_elems_nat hS).2 h1, h2⟩
  · refine ⟨VS.ishl _ _, by rw [has_one (by omega)]; simp, fun x hx => ?_, fun T h1 _ x hx => ?_⟩
    · rw [has_one (by omega)] at hx
      have := of_decide_eq_true hx; omega
    · rw [has_one (by omega)] at hx
      rw [of_decide_eq_true hx]; exact h1

/-! ### nets of links -/
theorem join_net {n : Nat} (hn : n ≤ 16) {X : List Int} (hX : Net X n) {v t : Nat} (hv : v < n) (ht : t < n) (hvt : v ≠ t) :
    ∃ y, D.F X (v : Int) (t : Int) = some y ∧ Net y n ∧ ∀ u w, u < n → nb y u w = (nb X u w || (decide (u = v) && decide (w = t)) || (decide (u = t) && decide (w = v))) := by
  have hl := hX.len; have hV := hX.vs
  have hx : ∀ k, k < n → idx X (k : Int) = some (X.getD k 0) := fun k hk => by rw [idx_nat (by omega), getD_lt (by omega)]
  have hform : ∀ u w, u < n → nb ((X.set v (ior .u32 (X.getD v 0) (ishl .u32 1 (t : Int)))).set t (ior .u32 (X.getD t 0) (ishl .u32 1 (v : Int)))) u w = (nb X u w || (decide (u = v) && decide (w = t)) || (decide (u = t) && decide (w = v))) := fun u w hu => by
    unfold nb
    rw [List.getD_eq_getElem?_getD, List.getElem?_set]
    by_cases h : t = u
    · subst h
      rw [if_pos rfl, if_pos (by simp; omega), Option.getD_some, has_ior (hV _ hu) (VS.ishl _ _), has_one (by omega)]
      have : decide (t = v) = false := decide_eq_false (fun e => hvt e.symm)
      rw [this]; simp
    · rw [if_neg h, List.getElem?_set]
      have e2 : decide (u = t) = false := decide_eq_false (fun e => h e.symm)
      by_cases h2 : v = u
      · subst h2
        rw [if_pos rfl, if_pos (by omega), Option.getD_some, has_ior (hV _ hu) (VS.ishl _ _), has_one (by omega), e2]
        simp
      · have e3 : decide (u = v) = false := decide_eq_false (fun e => h2 e.symm)
        rw [if_neg h2, ← List.getD_eq_getElem?_getD, e2, e3]; simp
  refine ⟨(X.set v (ior .u32 (X.getD v 0) (ishl .u32 1 (t : Int)))).set t (ior .u32 (X.getD t 0) (ishl .u32 1 (v : Int))), ?_, ⟨by simp [hl], fun u hu => ?_, fun u w hu hw => ?_⟩, hform⟩
  · unfold D.F
    have e1 : idx (X.set v (ior .u32 (X.getD v 0) (ishl .u32 1 (t : Int)))) (t : Int) = some (X.getD t 0) := by
      rw [idx_nat (by simp; omega), List.getElem_set_ne hvt]
      exact congrArg some (getD_lt (by omega) 0).symm
    simp only [hx v hv, Option.bind_some, impl_one_eq, Int.toNat_natCast, e1]
  · rw [List.getD_eq_getElem?_getD, List.getElem?_set]
    by_cases h : t = u
    · rw [if_pos h, if_pos (by simp; omega)]; exact VS.ior _ _
    · rw [if_neg h, List.getElem?_set]
      by_cases h2 : v = u
      · rw [if_pos h2, if_pos (by omega)]; exact VS.ior _ _
      · rw [if_neg h2, ← List.getD_eq_getElem?_getD]; exact hV u hu
  · rw [hform u w hu] at hw
    simp only [Bool.or_eq_true, Bool.and_eq_true, decide_eq_true_eq] at hw
    rcases hw with (h | h) | h
    · exact hX.lt u w hu h
    · omega
    · omega
end Go.Sx

/- Trees of cliques, by links that join what is apart: both take the same ones. Plain. -/
namespace Go.Sx
/-- a link of two numbers below n, the lesser one first -/
structure KOk (n : Nat) (K : List (List Int)) : Prop where
  nd : K.Nodup
  lk : ∀ l ∈ K, LinkIn n l
theorem LinkIn.good {n : Nat} (hn : n ≤ 1000) {l : List Int} (h : LinkIn n l) : rowGood l := by
  obtain ⟨a, b, rfl, h1, h2⟩ := h
  refine ⟨rfl, ?_⟩
  simp only [List.getD_cons_zero, List.getD_cons_succ]
  omega
theorem KOk.len {n : Nat} (hn : n ≤ 16) {K : List (List Int)} (h : KOk n K) : K.length ≤ 256 := by
  have h1 : (K.map rowKey).Nodup := by
    unfold List.Nodup
    rw [List.pairwise_map]
    refine List.Pairwise.imp_of_mem (fun {a b} ha hb hab e => ?_) h.nd
    exact hab (row_inj ((h.lk a ha).good (by omega)) ((h.lk b hb).good (by omega)) e)
  have h2 := nodup_le (m := (List.range 16).flatMap (fun a => (List.range 16).map fun b => ((a : Nat) : Int) * 1048576 + ((b : Nat) : Int))) h1 (fun x hx => by
    obtain ⟨l, hl, rfl⟩ := List.mem_map.1 hx
    obtain ⟨a, b, rfl, h3, h4⟩ := h.lk l hl
    exact List.mem_flatMap.2 ⟨a, List.mem_range.2 (by omega), List.mem_map.2 ⟨b, List.mem_range.2 (by omega), rfl⟩⟩)
  have h3 : ((List.range 16).flatMap (fun a => (List.range 16).map fun b => ((a : Nat) : Int) * 1048576 + ((b : Nat) : Int))).length = 256 := by decide +kernel
  rw [h3, List.length_map] at h2
  exact h2

/-- is there a way by links? -/
def WayP (K : List (List Int)) (a b : Int) : Prop := ∀ T : Int → Prop, T a → (∀ x y, T x → Lk K x y → T y) → T b
theorem Lk.perm {K K' : List (List Int)} (h : K.Perm K') {x y : Int} : Lk K x y ↔ Lk K' x y := by
  unfold Lk; rw [h.mem_iff, h.mem_iff]
theorem WayP.perm {K K' : List (List Int)} (h : K.Perm K') {a b : Int} : WayP K a b ↔ WayP K' a b := by
  unfold WayP
  constructor
  · intro hh T h1 h2; exact hh T h1 (fun x y hx hl => h2 x y hx ((Lk.perm h).1 hl))
  · intro hh T h1 h2; exact hh T h1 (fun x y hx hl => h2 x y hx ((Lk.perm h).2 hl))

open Classical in
theorem l9Way_ok (bags K : List (List Int)) {n : Nat} (hn : n ≤ 16) (hl : K.length ≤ 1000000) (hk : ∀ l ∈ K, LinkIn n l) {a : Nat} (ha : a < n) (b : Int) : D.K bags K (a : Int) b = some (decide (WayP K a b)) := by
  have hp : Pairs K := fun l hl' => by obtain ⟨x, y, e, _⟩ := hk l hl'; exact ⟨x, y, e⟩
  have hrng : ∀ x y, Lk K x y → 0 ≤ y ∧ y < n := fun x y h => by
    rcases h with h | h
    · obtain ⟨u, v, e, h1, h2⟩ := hk _ h
      simp at e; omega
    · obtain ⟨u, v, e, h1, h2⟩ := hk _ h
      simp at e; omega
  have hsub : ∀ m : List Int, m.Nodup → (∀ x ∈ m, 0 ≤ x ∧ x < n) → m.length ≤ n := fun m hm hr => by
    have := nodup_le (m := (List.range n).map Int.ofNat) hm (fun x hx => List.mem_map.2 ⟨x.toNat, List.mem_range.2 (by have := hr x hx; omega), by have := hr x hx; show ((x.toNat : Nat) : Int) = x; omega⟩)
    simpa using this
  unfold D.K
  have key := loop_then (step := (fun (s_388 : (List Int) × Int) => match s_388 with | (l_391, x_396) => cond (decide (x_396 < (l_391.length : Int))) ((idx l_391 x_396).bind fun e_591 => (D.h0 bags K e_591).bind fun y_600 => (loopF (σ := (List Int) × Int) (ρ := ((List Int))) (fun (s_690 : (List Int) × Int) => match s_690 with | (l_693, x_698) => cond (decide (x_698 < (y_600.length : Int))) ((idx y_600 x_698).bind fun e_742 => (D.h l_693 e_742).bind fun y_748 => cond (!y_748) ((idx y_600 x_698).bind fun e_759 => (appendD l_693 ([e_759] : List Int)).bind fun l_769 => some (.inl (l_769, (IntKind.i64.wrap (x_698 + 1))))) (some (.inl (l_693, (IntKind.i64.wrap (x_698 + 1)))))) (some (.inr l_693))) (l_391, 0)).bind fun l_735 => some (.inl (l_735, (IntKind.i64.wrap (x_396 + 1))))) (some (.inr l_391)))) (s := (([(a : Int)] : List Int), 0)) (k := fun r => some r) (Q := fun m : List Int => m.length ≤ n ∧ ∀ x, x ∈ m ↔ WayP K a x)
    (fun s => ∃ i : Nat, s.2 = (i : Int) ∧ i ≤ s.1.length ∧ s.1.Nodup ∧ (∀ x ∈ s.1, 0 ≤ x ∧ x < n) ∧ (a : Int) ∈ s.1 ∧ (∀ x ∈ s.1, WayP K a x) ∧ ∀ x ∈ s.1.take i, ∀ y, Lk K x y → y ∈ s.1) (fun s => n - s.2.toNat)
    (fun m => m.length ≤ n ∧ ∀ x, x ∈ m ↔ WayP K a x) ?_ ⟨0, rfl, by simp, by simp, by simp; omega, by simp, by simp; exact fun T h _ => h, by simp⟩ (fun r hr => ⟨r, rfl, hr⟩)
  · obtain ⟨m, hm, h1, h2⟩ := key
    rw [Option.bind_eq_some_iff] at hm
    obtain ⟨z, e1, e2⟩ := hm
    cases e2
    rw [e1, Option.bind_some, l1Has_eq _ _ (by unfold Sh; omega), Option.bind_some]
    congr 1
    rw [decide_eq_decide]
    exact h2 b
  · rintro ⟨m, _⟩ ⟨i, rfl, hi, hn', hr, hx, hw, hc⟩
    dsimp only at hi hn' hr hx hw hc ⊢
    have hml := hsub m hn' hr
    by_cases him : i < m.length
    · simp only [dlt him, cond_true, idx_nat him, Option.bind_some]
      refine bind_then _ (l9Near_ok bags K m[i] hl hp) ?_
      rintro near ⟨hni, hnm, hnl⟩
      refine loop_then (fun s => ∃ k : Nat, s.2 = (k : Int) ∧ k ≤ near.length ∧ s.1.Nodup ∧ (∀ x ∈ s.1, 0 ≤ x ∧ x < n) ∧ (∃ t, s.1 = m ++ t) ∧ (∀ x ∈ s.1, WayP K a x) ∧ ∀ y ∈ near.take k, y ∈ s.1) (fun s => near.length - s.2.toNat)
        (fun r => r.Nodup ∧ (∀ x ∈ r, 0 ≤ x ∧ x < n) ∧ (∃ t, r = m ++ t) ∧ (∀ x ∈ r, WayP K a x) ∧ ∀ y ∈ near, y ∈ r) ?_ ⟨0, rfl, by simp, hn', hr, ⟨[], by simp⟩, hw, by simp⟩ ?_
      · rintro ⟨r, _⟩ ⟨k, rfl, hk', hrn, hrr, ⟨t, rfl⟩, hrw, hrc⟩
        dsimp only at hrn hrr hrw hrc ⊢
        have hrl := hsub _ hrn hrr
        have hrsh : Sh (m ++ t) := by unfold Sh; omega
        by_cases hkn : k < near.length
        · have htk := List.take_succ_eq_append_getElem hkn
          have hlk : Lk K m[i] near[k] := (hnm _).1 (List.getElem_mem hkn)
          simp only [dlt hkn, cond_true, idx_nat hkn, Option.bind_some, l1Has_eq _ _ hrsh, wi (show k < 4611686018427387904 by omega)]
          by_cases h2 : near[k] ∈ m ++ t
          · simp only [h2, decide_true, Bool.not_true, cond_false]
            refine ⟨_, rfl, ⟨k + 1, rfl, by omega, hrn, hrr, ⟨t, rfl⟩, hrw, fun y hy => ?_⟩, by dsimp only; omega⟩
            rw [htk] at hy
            rcases List.mem_append.1 hy with hy | hy
            · exact hrc y hy
            · simp at hy; subst hy; exact h2
          · simp only [h2, decide_false, Bool.not_false, cond_true]
            rw [appendD_ok (by simp at hrl ⊢; omega), Option.bind_some]
            refine ⟨_, rfl, ⟨k + 1, rfl, by omega, ?_, fun y hy => ?_, ⟨t ++ [near[k]], by simp⟩, fun y hy => ?_, fun y hy => ?_⟩, by dsimp only; omega⟩
            · have hp : (m ++ t ++ [near[k]]).Perm (near[k] :: (m ++ t)) := List.perm_append_comm
              exact hp.nodup_iff.2 (List.nodup_cons.2 ⟨h2, hrn⟩)
            · rcases List.mem_append.1 hy with hy | hy
              · exact hrr y hy
              · simp at hy; subst hy; exact hrng _ _ hlk
            · rcases List.mem_append.1 hy with hy | hy
              · exact hrw y hy
              · simp at hy; subst hy
                exact fun T h1 h3 => h3 _ _ (hw m[i] (List.getElem_mem him) T h1 h3) hlk
            · dsimp only
              rw [htk] at hy
              rcases List.mem_append.1 hy with hy | hy
              · exact List.mem_append_left _ (hrc y hy)
              · simp at hy; subst hy; simp
        · obtain rfl : k = near.length := by omega
          simp only [dnlt, cond_false]
          rw [List.take_length] at hrc
          exact ⟨_, rfl, hrn, hrr, ⟨t, rfl⟩, hrw, hrc⟩
      · rintro r ⟨hrn, hrr, ⟨t, rfl⟩, hrw, hrc⟩
        simp only [wi (show i < 4611686018427387904 by omega)]
        refine ⟨_, rfl, ⟨i + 1, rfl, by simp; omega, hrn, hrr, List.mem_append_left _ hx, hrw, fun x hx' y hxy => ?_⟩, by dsimp only; omega⟩
        dsimp only at hx' ⊢
        rw [List.take_append_of_le_length (by omega), List.take_succ_eq_append_getElem him] at hx'
        rcases List.mem_append.1 hx' with hx' | hx'
        · exact List.mem_append_left _ (hc x hx' y hxy)
        · simp at hx'; subst hx'
          exact hrc y ((hnm y).2 hxy)
    · obtain rfl : i = m.length := by omega
      simp only [dnlt, cond_false]
      rw [List.take_length] at hc
      exact ⟨_, rfl, hml, fun x => ⟨hw x, fun h => h (fun z => z ∈ m) hx (fun x y hx' hxy => hc x hx' y hxy)⟩⟩

/-- the net of some links -/
structure NetL (A : List Int) (n : Nat) (K : List (List Int)) : Prop where
  net : Net A n
  nb : ∀ x y, x < n → y < n → (nb A x y = true ↔ Lk K (x : Int) (y : Int))
theorem NetL.way {A : List Int} {n : Nat} {K : List (List Int)} (hn : n ≤ 16) (h : NetL A n K) (hk : ∀ l ∈ K, LinkIn n l) {W : Int} (hW : ∀ y, y < n → has W y = true) {v : Nat} (hv : v < n) {S : Int} (hS : Rch A W v S) (hSn : ∀ x, has S x = true → x < n) {b : Nat} (hb : b < n) : has S b = true ↔ WayP K (v : Int) (b : Int) := by
  constructor
  · intro hh T h1 h2
    exact hS.least (fun x => x < n ∧ T (x : Int)) ⟨hv, h1⟩ (fun x y hx hxy _ => by
      have hy := h.net.lt x y hx.1 hxy
      exact ⟨hy, h2 _ _ hx.2 ((h.nb x y hx.1 hy).1 hxy)⟩) b hh |>.2
  · intro hh
    obtain ⟨u, hu, _, hu2⟩ := hh (fun z => ∃ u : Nat, z = (u : Int) ∧ u < n ∧ has S u = true) ⟨v, rfl, hv, hS.me⟩ (fun x y ⟨u, e, hu, hs⟩ hl => by
      subst e
      obtain ⟨w, rfl, hw⟩ : ∃ w : Nat, y = (w : Int) ∧ w < n := by
        rcases hl with hl | hl
        · obtain ⟨p, q, e, h1, h2⟩ := hk _ hl
          simp at e; exact ⟨q, e.2, h2⟩
        · obtain ⟨p, q, e, h1, h2⟩ := hk _ hl
          simp at e; exact ⟨p, e.1, by omega⟩
      exact ⟨w, rfl, hw, hS.step u w hs ((h.nb u w hu hw).2 hl) (hW w hw)⟩)
    have : b = u := by omega
    rw [this]; exact hu2

def iter {σ : Type} (f : Nat → σ → σ) : Nat → Nat → σ → σ
  | _, 0, s => s
  | a, m + 1, s => iter f (a + 1) m (f a s)
/-- a loop that does in one state what is done in another -/
theorem loop_iter {σ S ρ : Type} {step : S → Option (S ⊕ ρ)} (Rel : σ → Nat → S → Prop) (f : Nat → σ → σ) (hi : Nat) (Post : σ → ρ → Prop)
    (hstep : ∀ K k s, k < hi → Rel K k s → ∃ s', step s = some (.inl s') ∧ Rel (f k K) (k + 1) s') (hend : ∀ K s, Rel K hi s → ∃ r, step s = some (.inr r) ∧ Post K r) :
    ∀ m a K s, a + m = hi → Rel K a s → ∃ r, loopF step s = some r ∧ Post (iter f a m K) r
  | 0, a, K, s, h, hr => by
    obtain rfl : a = hi := by omega
    obtain ⟨r, e, hp⟩ := hend K s hr
    exact ⟨r, loopF_done e, hp⟩
  | m + 1, a, K, s, h, hr => by
    obtain ⟨s', e, hr'⟩ := hstep K a s (by omega) hr
    obtain ⟨r, e2, hp⟩ := loop_iter Rel f hi Post hstep hend m (a + 1) (f a K) s' (by omega) hr'
    exact ⟨r, (loopF_more e).trans e2, hp⟩
theorem loop_iter_bind {σ S ρ β : Type} {step : S → Option (S ⊕ ρ)} {k : ρ → Option β} {Q : β → Prop} (Rel : σ → Nat → S → Prop) (f : Nat → σ → σ) (hi : Nat) (Post : σ → ρ → Prop) {m a : Nat} {K : σ} {s : S}
    (hstep : ∀ K k s, k < hi → Rel K k s → ∃ s', step s = some (.inl s') ∧ Rel (f k K) (k + 1) s') (hend : ∀ K s, Rel K hi s → ∃ r, step s = some (.inr r) ∧ Post K r)
    (h : a + m = hi) (hr : Rel K a s) (hk : ∀ r, Post (iter f a m K) r → ∃ y, k r = some y ∧ Q y) : ∃ y, (loopF step s).bind k = some y ∧ Q y := by
  obtain ⟨r, e, hp⟩ := loop_iter Rel f hi Post hstep hend m a K s h hr
  rw [e, Option.bind_some]
  exact hk r hp
end Go.Sx

/- Sets in the order of their elements, and by size first: what the program's comparisons say, by a key. Plain. -/
namespace Go.Sx
/-- comparing lists -/
def cz : List Int → List Int → Int
  | [], [] => 0
  | [], _ :: _ => -1
  | _ :: _, [] => 1
  | a :: x, b :: y => if a < b then -1 else if b < a then 1 else cz x y
theorem cz_range : ∀ x y, cz x y = -1 ∨ cz x y = 0 ∨ cz x y = 1
  | [], [] => .inr (.inl rfl)
  | [], _ :: _ => .inl rfl
  | _ :: _, [] => .inr (.inr rfl)
  | a :: x, b :: y => by
    unfold cz
    split
    · exact .inl rfl
    · split
      · exact .inr (.inr rfl)
      · exact cz_range x y
theorem cmp_int (a b : Int) : D.o a b = some (if a < b then -1 else if b < a then 1 else 0) := by
  unfold D.o D.k
  simp only [bne_self_eq_false, Option.bind_some, cond_false]
  by_cases h : a < b
  · simp [h]
  · by_cases h2 : b < a <;> simp [h, h2]
theorem compare_eq (x y : List Int) (hx : Sh x) (hy : Sh y) : D.u0 x y = some (cz x y) := by
  unfold Sh at hx hy
  unfold D.u0
  have key : ∀ (K : Unit ⊕ Int → Option Int), K (.inl ()) = cond (decide ((x.length : Int) < (y.length : Int))) (some (-1)) (some 0) → (∀ z, K (.inr z) = some z) → ∀ (k i : Nat), i + k = x.length → (i ≤ y.length) → (loopF (σ := Int) (ρ := (Unit) ⊕ (Int)) (fun (x_54 : Int) => cond (decide (x_54 < (x.length : Int))) ((idx x x_54).bind fun e_81 => cond (decide ((y.length : Int) ≤ x_54)) (some (.inr (.inr 1))) ((idx y x_54).bind fun e_88 => (D.o e_81 e_88).bind fun y_94 => cond (y_94 != 0) (some (.inr (.inr y_94))) (some (.inl (IntKind.i64.wrap (x_54 + 1)))))) (some (.inr (.inl ())))) (i : Int)).bind K = some (cz (x.drop i) (y.drop i)) := by
    intro K hK1 hK2 k
    induction k with
    | zero =>
      intro i hi hiy
      obtain rfl : i = x.length := by omega
      rw [loopF_done (r := Sum.inl ()) (by simp only [dnlt, cond_false])]
      simp only [Option.bind_some, List.drop_length, hK1]
      by_cases h : x.length < y.length
      · have e : decide ((x.length : Int) < (y.length : Int)) = true := by simp; omega
        rw [e, cond_true, List.drop_eq_getElem_cons h]; rfl
      · have e : decide ((x.length : Int) < (y.length : Int)) = false := by simp; omega
        rw [e, cond_false, List.drop_eq_nil_of_le (by omega)]; rfl
    | succ k ih =>
      intro i hi hiy
      have hix : i < x.length := by omega
      by_cases h : i < y.length
      · have e : decide ((y.length : Int) ≤ (i : Int)) = false := by simp; omega
        rw [List.drop_eq_getElem_cons hix, List.drop_eq_getElem_cons h]
        by_cases h1 : x[i] < y[i]
        · rw [loopF_done (r := Sum.inr (-1)) (by simp only [dlt hix, cond_true, idx_nat hix, idx_nat h, Option.bind_some, e, cond_false, cmp_int, h1, if_true]; rfl), Option.bind_some, hK2]
          simp [cz, h1]
        · by_cases h2 : y[i] < x[i]
          · rw [loopF_done (r := Sum.inr 1) (by simp only [dlt hix, cond_true, idx_nat hix, idx_nat h, Option.bind_some, e, cond_false, cmp_int, h1, h2, if_true, if_false]; rfl), Option.bind_some, hK2]
            simp [cz, h1, h2]
          · rw [loopF_more (s' := ((i + 1 : Nat) : Int)) (by simp only [dlt hix, cond_true, idx_nat hix, idx_nat h, Option.bind_some, e, cond_false, cmp_int, h1, h2, if_false, wi (show i < 4611686018427387904 by omega)]; rfl), ih (i + 1) (by omega) (by omega)]
            simp [cz, h1, h2]
      · obtain rfl : i = y.length := by omega
        have e : decide ((y.length : Int) ≤ (y.length : Int)) = true := by simp
        rw [loopF_done (r := Sum.inr 1) (by simp only [dlt hix, cond_true, idx_nat hix, Option.bind_some, e]), Option.bind_some, hK2]
        simp only [List.drop_length]
        rw [List.drop_eq_getElem_cons hix]; rfl
  exact key _ rfl (fun _ => rfl) x.length 0 (by omega) (by omega)

/-! ### a key for lists -/
def lk : Nat → List Int → Int
  | 0, _ => 0
  | _ + 1, [] => 0
  | d + 1, a :: l => (a + 1) * 33 ^ d + lk d l
theorem pow33 (d : Nat) : (1 : Int) ≤ 33 ^ d := by
  have : (0 : Int) < 33 ^ d := Int.pow_pos (by omega)
  omega
theorem lk_bound : ∀ (d : Nat) (l : List Int), (∀ x ∈ l, 0 ≤ x ∧ x < 32) → 0 ≤ lk d l ∧ lk d l < 33 ^ d
  | 0, l, _ => by simp [lk]
  | d + 1, [], _ => by have := pow33 (d + 1); simp only [lk]; omega
  | d + 1, a :: l, h => by
    have h1 := lk_bound d l (fun x hx => h x (List.mem_cons_of_mem _ hx))
    have ha := h a (by simp)
    have hp := pow33 d
    simp only [lk]
    generalize hq : (33 : Int) ^ d = p at *
    have e : (33 : Int) ^ (d + 1) = p * 33 := by rw [← hq, Int.pow_succ]
    rw [e]
    have h2 : (a + 1) * p ≤ 32 * p := Int.mul_le_mul_of_nonneg_right (by omega) (by omega)
    have h3 : 0 ≤ (a + 1) * p := Int.mul_nonneg (by omega) (by omega)
    omega
theorem lk_cmp : ∀ (d : Nat) (x y : List Int), x.length ≤ d → y.length ≤ d → (∀ z ∈ x, 0 ≤ z ∧ z < 32) → (∀ z ∈ y, 0 ≤ z ∧ z < 32) → (cz x y < 0 ↔ lk d x < lk d y)
  | d, [], [], _, _, _, _ => by cases d <;> simp [cz, lk]
  | 0, _ :: _, _, h, _, _, _ => by simp at h
  | 0, _, _ :: _, _, h, _, _ => by simp at h
  | d + 1, [], b :: y, _, h, _, hy => by
    have h1 := lk_bound d y (fun x hx => hy x (List.mem_cons_of_mem _ hx))
    have hb := hy b (by simp)
    have hp := pow33 d
    simp only [cz, lk]
    have h3 : 1 * (33 : Int) ^ d ≤ (b + 1) * 33 ^ d := Int.mul_le_mul_of_nonneg_right (by omega) (by omega)
    constructor
    · intro _; omega
    · intro _; omega
  | d + 1, a :: x, [], h, _, hx, _ => by
    have h1 := lk_bound d x (fun z hz => hx z (List.mem_cons_of_mem _ hz))
    have ha := hx a (by simp)
    have hp := pow33 d
    simp only [cz, lk]
    have h3 : 1 * (33 : Int) ^ d ≤ (a + 1) * 33 ^ d := Int.mul_le_mul_of_nonneg_right (by omega) (by omega)
    constructor
    · intro hc; omega
    · intro hc; omega
  | d + 1, a :: x, b :: y, hlx, hly, hx, hy => by
    have ih := lk_cmp d x y (by simpa using hlx) (by simpa using hly) (fun z hz => hx z (List.mem_cons_of_mem _ hz)) (fun z hz => hy z (List.mem_cons_of_mem _ hz))
    have h1 := lk_bound d x (fun z hz => hx z (List.mem_cons_of_mem _ hz))
    have h2 := lk_bound d y (fun z hz => hy z (List.mem_cons_of_mem _ hz))
    have hp := pow33 d
    simp only [cz, lk]
    by_cases hab : a < b
    · rw [if_pos hab]
      have h3 : (a + 1 + 1) * (33 : Int) ^ d ≤ (b + 1) * 33 ^ d := Int.mul_le_mul_of_nonneg_right (by omega) (by omega)
      have h4 : (a + 1 + 1) * (33 : Int) ^ d = (a + 1) * 33 ^ d + 33 ^ d := by rw [Int.add_mul (a + 1) 1, Int.one_mul]
      constructor
      · intro _; omega
      · intro _; omega
    · by_cases hba : b < a
      · rw [if_neg hab, if_pos hba]
        have h3 : (b + 1 + 1) * (33 : Int) ^ d ≤ (a + 1) * 33 ^ d := Int.mul_le_mul_of_nonneg_right (by omega) (by omega)
        have h4 : (b + 1 + 1) * (33 : Int) ^ d = (b + 1) * 33 ^ d + 33 ^ d := by rw [Int.add_mul (b + 1) 1, Int.one_mul]
        constructor
        · intro hc; omega
        · intro hc; omega
      · rw [if_neg hab, if_neg hba]
        obtain rfl : a = b := by omega
        rw [ih]; omega
theorem cz_zero : ∀ x y, cz x y = 0 ↔ x = y
  | [], [] => by simp [cz]
  | [], _ :: _ => by simp [cz]
  | _ :: _, [] => by simp [cz]
  | a :: x, b :: y => by
    unfold cz
    by_cases h : a < b
    · simp [h]; omega
    · by_cases h2 : b < a
      · simp [h, h2]; omega
      · obtain rfl : a = b := by omega
        simp [cz_zero x y]
theorem cz_anti : ∀ x y, cz y x = - cz x y
  | [], [] => rfl
  | [], _ :: _ => rfl
  | _ :: _, [] => rfl
  | a :: x, b :: y => by
    unfold cz
    by_cases h : a < b
    · have h2 : ¬ b < a := by omega
      simp [h, h2]
    · by_cases h2 : b < a
      · simp [h, h2]
      · simp [h, h2, cz_anti x y]
theorem lk_inj {d : Nat} {x y : List Int} (hx : x.length ≤ d) (hy : y.length ≤ d) (h1 : ∀ z ∈ x, 0 ≤ z ∧ z < 32) (h2 : ∀ z ∈ y, 0 ≤ z ∧ z < 32) (h : lk d x = lk d y) : x = y := by
  have a := lk_cmp d x y hx hy h1 h2
  have b := lk_cmp d y x hy hx h2 h1
  rw [cz_anti x y] at b
  rw [← cz_zero]
  rcases cz_range x y with e | e | e <;> omega

/-! ### the two comparisons of sets -/
theorem elems_rng (s : Int) : ∀ z ∈ elems s, 0 ≤ z ∧ z < 32 := fun z hz => by
  obtain ⟨v, h1, _, rfl⟩ := mem_elems.1 hz; omega
def lkey (s : Int) : Int := lk 32 (elems s)
theorem elems_inj {s t : Int} (hs : VS s) (ht : VS t) (h : elems s = elems t) : s = t := by rw [← mk_elems hs, ← mk_elems ht, h]
theorem lkey_inj {s t : Int} (hs : VS s) (ht : VS t) (h : lkey s = lkey t) : s = t :=
  elems_inj hs ht (lk_inj (elems_len s) (elems_len t) (elems_rng s) (elems_rng t) h)
theorem compareSets_eq {s t : Int} (hs : VS s) (ht : VS t) : D.a s t = some (cz (elems s) (elems t)) := by
  unfold D.a
  rw [list_eq s hs, Option.bind_some, list_eq t ht, Option.bind_some, compare_eq _ _ (elems_sh s) (elems_sh t)]
  rfl
noncomputable abbrev byLex : Gs.Srtd Int where
  dflt := 0
  key := lkey
  good := VS
  cmp := D.a
  law := fun s t hs ht => ⟨_, compareSets_eq hs ht, by rw [decide_eq_decide]; exact lk_cmp 32 _ _ (elems_len s) (elems_len t) (elems_rng s) (elems_rng t)⟩
/-- a list that rises by an injective key is the only one of its elements -/
theorem rise_unique {k : Int → Int} : ∀ {l l' : List Int}, l.Pairwise (fun a b => k a < k b) → l'.Pairwise (fun a b => k a < k b) → (∀ x, x ∈ l ↔ x ∈ l') → l = l'
  | [], [], _, _, _ => rfl
  | [], y :: l', _, _, h => by have := (h y).2 (by simp); simp at this
  | x :: l, [], _, _, h => by have := (h x).1 (by simp); simp at this
  | x :: l, y :: l', h1, h2, h => by
    have h1' := List.pairwise_cons.1 h1; have h2' := List.pairwise_cons.1 h2
    have e : x = y := by
      rcases List.mem_cons.1 ((h x).1 (by simp)) with e | e
      · exact e
      · rcases List.mem_cons.1 ((h y).2 (by simp)) with e' | e'
        · exact e'.symm
        · have := h2'.1 x e; have := h1'.1 y e'; omega
    subst e
    have : l = l' := by
      refine rise_unique h1'.2 h2'.2 (fun z => ?_)
      constructor
      · intro hz
        rcases List.mem_cons.1 ((h z).1 (List.mem_cons_of_mem _ hz)) with e | e
        · subst e; have := h1'.1 z hz; omega
        · exact e
      · intro hz
        rcases List.mem_cons.1 ((h z).2 (List.mem_cons_of_mem _ hz)) with e | e
        · subst e; have := h2'.1 z hz; omega
        · exact e
    rw [this]
/-- what sorting comes to: the things in the order of their keys -/
theorem sorted_rise (I : Gs.Srtd Int) (hinj : ∀ x y, I.good x → I.good y → I.key x = I.key y → x = y) (l : List Int) (hG : ∀ x ∈ l, I.good x) (hn : l.Nodup) (hlen : l.length ≤ 1000000) :
    ∃ l', DG.Sort I.cmp l = some l' ∧ List.Perm l' l ∧ l'.Pairwise (fun a b => I.key a < I.key b) := by
  obtain ⟨l', e, hp, hs⟩ := @Gs.sort_spec Int I l hG hlen
  refine ⟨l', e, hp, ?_⟩
  rw [List.pairwise_iff_getElem]
  intro i j hi hj hij
  have h := hs i j (by omega) (by omega) (by omega)
  unfold Gs.at' Gs.el at h
  rw [Int.toNat_natCast, Int.toNat_natCast, getD_lt hi, getD_lt hj] at h
  have hne : l'[i] ≠ l'[j] := fun e => by
    have hn' := hp.nodup_iff.2 hn
    have := (List.nodup_iff_pairwise_ne.1 hn')
    exact (List.pairwise_iff_getElem.1 this) i j hi hj hij e
  have g1 := hG _ (hp.mem_iff.1 (List.getElem_mem hi))
  have g2 := hG _ (hp.mem_iff.1 (List.getElem_mem hj))
  have hk : I.key l'[i] ≠ I.key l'[j] := fun e => hne (hinj _ _ g1 g2 e)
  omega
end Go.Sx

/- Sorts by a comparison are one sort. Plain, made by program. -/
namespace Go.Sx
theorem se_insertionSort_impl_vset_impl_compareSets : D.T0 = DG.insertionSort D.a := by kernel_rfl
theorem se_heapSort_impl_vset_impl_compareSets : D.V0 = DG.heapSort D.a := by kernel_rfl
theorem se_breakPatterns_impl_vset_impl_compareSets : D.b1 = DG.breakPatterns D.a := by kernel_rfl
theorem se_choosePivot_impl_vset_impl_compareSets : D.g1 = DG.choosePivot D.a := by kernel_rfl
theorem se_reverseRange_impl_vset_impl_compareSets : D.O0 = DG.reverseRange D.a := by kernel_rfl
theorem se_partialInsertionSort_impl_vset_impl_compareSets : D.Z0 = DG.partialInsertionSort D.a := by kernel_rfl
theorem se_partitionEqual_impl_vset_impl_compareSets : D.f1 = DG.partitionEqual D.a := by kernel_rfl
theorem se_partition_impl_vset_impl_compareSets : D.Y0 = DG.partition D.a := by kernel_rfl
theorem se_pdqsort_impl_vset_impl_compareSets : ∀ (n : Nat) x a b c, D.L n x a b c = DG.pdqsortR D.a n x a b c
  | 0, _, _, _, _ => rfl
  | n + 1, x, a, b, c => by
    unfold D.L DG.pdqsortR
    rw [se_insertionSort_impl_vset_impl_compareSets, se_heapSort_impl_vset_impl_compareSets, se_breakPatterns_impl_vset_impl_compareSets, se_choosePivot_impl_vset_impl_compareSets, se_reverseRange_impl_vset_impl_compareSets, se_partialInsertionSort_impl_vset_impl_compareSets, se_partitionEqual_impl_vset_impl_compareSets, se_partition_impl_vset_impl_compareSets, funext (fun x => funext fun a => funext fun b => funext fun c => se_pdqsort_impl_vset_impl_compareSets n x a b c)]
    kernel_rfl
theorem se_impl_vset_impl_compareSets (x) : D.v0 x = DG.Sort D.a x := by
  unfold D.v0 DG.Sort D.t DG.pdqsort
  simp only [se_pdqsort_impl_vset_impl_compareSets]
end Go.Sx

/- The greatest cliques: the program finds each of them once. Plain. -/
namespace Go.Sx
/-- neighbours of each other -/
def CQ (F : List Int) (K : Int) : Prop := ∀ u w, has K u = true → has K w = true → u ≠ w → nb F u w = true
/-- and nobody more -/
def MX (F : List Int) (n : Nat) (K : Int) : Prop := CQ F K ∧ ∀ w, w < n → has K w = false → ∃ u, has K u = true ∧ nb F u w = false
/-- a set of vertices -/
def In (n : Nat) (K : Int) : Prop := VS K ∧ ∀ w, has K w = true → w < n
structure Tgt (F : List Int) (n : Nat) (C O K : Int) : Prop where
  ok : In n K
  mx : MX F n K
  sup : ∀ w, has C w = true → has K w = true
  sub : ∀ w, has K w = true → has C w = true ∨ has O w = true

theorem In.lt {n : Nat} {K : Int} (h : In n K) (hn : n ≤ 16) : 0 ≤ K ∧ K < 65536 := by
  obtain ⟨m, rfl, hm⟩ := h.1.nat
  refine ⟨by omega, ?_⟩
  have : m < 2 ^ 16 := by
    apply Nat.lt_pow_two_of_testBit
    intro i hi
    cases hc : m.testBit i
    · rfl
    · have := h.2 i (by rw [has_nat]; exact hc)
      omega
  omega
theorem masks_len {n : Nat} {l : List Int} (hn : n ≤ 16) (h : ∀ K ∈ l, In n K) (hd : l.Nodup) : l.length ≤ 65536 := by
  have := nodup_le (m := (List.range 65536).map Int.ofNat) hd (fun K hK => by
    have := (h K hK).lt hn
    exact List.mem_map.2 ⟨K.toNat, List.mem_range.2 (by omega), by show ((K.toNat : Nat) : Int) = K; omega⟩)
  simpa using this

structure BK (F : List Int) (n : Nat) (C O S : Int) : Prop where
  c : In n C
  o : In n O
  s : In n S
  cq : CQ F C
  cn : ∀ w, w < n → ((has O w = true ∨ has S w = true) ↔ ∀ u, has C u = true → nb F u w = true)
  dis : ∀ w, has O w = true → has S w = false

theorem BK.notin {F : List Int} {n : Nat} {C O S : Int} (hF : FOk F n) (h : BK F n C O S) {w : Nat} (hw : has O w = true) : has C w = false := by
  cases hc : has C w
  · rfl
  · have := (h.cn w (h.o.2 w hw)).1 (.inl hw) w hc
    rw [hF.irr w (h.o.2 w hw)] at this; cases this

theorem grow_ok {F : List Int} {n : Nat} (hn : n ≤ 16) (hF : FOk F n) : ∀ (fuel : Nat) (C O S : Int) (x4 : List Int), (elems O).length < fuel → BK F n C O S → x4.Nodup → (∀ K ∈ x4, In n K) → (∀ K ∈ x4, ¬ Tgt F n C O K) →
    ∃ y, D.V fuel F C O S x4 = some y ∧ ∃ R, y = x4 ++ R ∧ (x4 ++ R).Nodup ∧ ∀ K, K ∈ R ↔ Tgt F n C O K
  | 0, _, _, _, _, h, _, _, _, _ => by omega
  | fuel + 1, C, O, S, x4, hf, hB, hd, hi, ht => by
    have hlen := hF.len
    have hx4 := masks_len hn hi hd
    unfold D.V
    by_cases hO : O = 0
    · subst hO
      have e0 : ((0 : Int) == 0) = true := rfl
      rw [e0, cond_true]
      by_cases hS : S = 0
      · subst hS
        rw [e0, cond_true, appendD_ok (by simp; omega)]
        have hT : Tgt F n C 0 C := ⟨hB.c, ⟨hB.cq, fun w hw hc => by
          apply Classical.byContradiction
          intro hne
          have := (hB.cn w hw).2 (fun u hu => by
            cases h : nb F u w
            · exact absurd ⟨u, hu, h⟩ hne
            · rfl)
          simp [has_zero] at this⟩, fun w h => h, fun w h => .inl h⟩
        refine ⟨_, rfl, [C], rfl, ?_, fun K => ?_⟩
        · rw [List.nodup_append]
          refine ⟨hd, by simp, fun a ha b hb e => ?_⟩
          rw [List.mem_singleton] at hb
          subst hb; subst e
          exact ht a ha hT
        · rw [List.mem_singleton]
          constructor
          · rintro rfl; exact hT
          · intro h
            refine h.ok.1.ext hB.c.1 (fun v _ => ?_)
            rw [Bool.eq_iff_iff]
            refine ⟨fun hv => ?_, h.sup v⟩
            rcases h.sub v hv with h | h
            · exact h
            · rw [has_zero] at h; cases h
      · have e1 : (S == 0) = false := by simpa using hS
        rw [e1, cond_false]
        refine ⟨_, rfl, [], by simp, by simpa using hd, fun K => ?_⟩
        simp only [List.not_mem_nil, false_iff]
        intro h
        have hK : K = C := by
          refine h.ok.1.ext hB.c.1 (fun v _ => ?_)
          rw [Bool.eq_iff_iff]
          refine ⟨fun hv => ?_, h.sup v⟩
          rcases h.sub v hv with h | h
          · exact h
          · rw [has_zero] at h; cases h
        subst hK
        apply hS
        rw [hB.s.1.eq_zero]
        intro w hw
        cases hc : has S w
        · rfl
        · have hwn := hB.s.2 w hc
          have hcn := (hB.cn w hwn).1 (.inr hc)
          have hKw : has K w = false := by
            cases hk : has K w
            · rfl
            · have := hcn w hk
              rw [hF.irr w hwn] at this; cases this
          obtain ⟨u, h1, h2⟩ := h.mx.2 w hwn hKw
          rw [hcn u h1] at h2; cases h2
    · have e1 : (O == 0) = false := by simpa using hO
      rw [e1, cond_false, list_eq O hB.o.1, Option.bind_some]
      have hel := elems_len O
      -- the K of the first ones
      refine loop_then (fun st => ∃ i : Nat, st.2.2.2 = (i : Int) ∧ i ≤ (elems O).length ∧ VS st.1 ∧ VS st.2.1 ∧ (∀ w : Nat, has st.1 w = (has O w && decide ((w : Int) ∉ (elems O).take i))) ∧ (∀ w : Nat, has st.2.1 w = (has S w || decide ((w : Int) ∈ (elems O).take i))) ∧
          ∃ R, st.2.2.1 = x4 ++ R ∧ (x4 ++ R).Nodup ∧ ∀ K, K ∈ R ↔ Tgt F n C O K ∧ ∃ w : Nat, (w : Int) ∈ (elems O).take i ∧ has K w = true) (fun st => (elems O).length - st.2.2.2.toNat)
        (fun r => ∃ R, r = x4 ++ R ∧ (x4 ++ R).Nodup ∧ ∀ K, K ∈ R ↔ Tgt F n C O K) ?_ ⟨0, rfl, by omega, hB.o.1, hB.s.1, fun w => by simp, fun w => by simp, [], by simp, by simpa using hd, fun K => by simp⟩ (fun r hr => ⟨r, rfl, hr⟩)
      rintro ⟨o, s, acc, _⟩ ⟨i, rfl, hil, ho, hs, hho, hhs, R, rfl, hRn, hR⟩
      dsimp only at ho hs hho hhs hRn hR ⊢
      by_cases hlt : i < (elems O).length
      · obtain ⟨v, hv32, hv1, hv2⟩ := mem_elems.1 (List.getElem_mem hlt)
        have hvn := hB.o.2 v hv1
        have hvC := hB.notin hF hv1
        have htk : ∀ w : Nat, ((w : Int) ∈ (elems O).take (i + 1)) ↔ ((w : Int) ∈ (elems O).take i ∨ w = v) := fun w => by
          rw [List.take_succ_eq_append_getElem hlt, List.mem_append, hv2]; simp [Int.natCast_inj]
        have hvt : (v : Int) ∉ (elems O).take i := by rw [← hv2]; exact nodup_iff.1 (elems_inc O).nodup i hlt
        have hle : ∀ w : Nat, (w : Int) ∈ (elems O).take i → has O w = true := fun w hw => (mem_elems_nat hB.o.1).1 (List.mem_of_mem_take hw)
        simp only [dlt hlt, cond_true, idx_nat hlt, hv2, Option.bind_some, impl_one_eq, idx_F hF hvn]
        have hC' : ∀ w, has (ior .u32 C (ishl .u32 1 (v : Int))) w = (has C w || decide (w = v)) := fun w => by rw [has_ior hB.c.1 (VS.ishl _ _), has_one hv32]
        have hO' : ∀ w, has (iand .u32 o (F.getD v 0)) w = (has o w && nb F v w) := fun w => has_iand ho (hF.vs v hvn) w
        have hS' : ∀ w, has (iand .u32 s (F.getD v 0)) w = (has s w && nb F v w) := fun w => has_iand hs (hF.vs v hvn) w
        have hB' : BK F n (ior .u32 C (ishl .u32 1 (v : Int))) (iand .u32 o (F.getD v 0)) (iand .u32 s (F.getD v 0)) := by
          have hcnv := (hB.cn v hvn).1 (.inl hv1)
          refine ⟨⟨VS.ior _ _, fun w hw => ?_⟩, ⟨VS.iand _ _, fun w hw => ?_⟩, ⟨VS.iand _ _, fun w hw => ?_⟩, fun u w hu hw huw => ?_, fun w hw => ?_, fun w hw => ?_⟩
          · rw [hC', Bool.or_eq_true, decide_eq_true_eq] at hw
            rcases hw with h | rfl
            · exact hB.c.2 w h
            · exact hvn
          · rw [hO', Bool.and_eq_true] at hw; exact hF.lt v w hvn hw.2
          · rw [hS', Bool.and_eq_true] at hw; exact hF.lt v w hvn hw.2
          · rw [hC', Bool.or_eq_true, decide_eq_true_eq] at hu hw
            rcases hu with hu | rfl
            · rcases hw with hw | rfl
              · exact hB.cq u w hu hw huw
              · exact hcnv u hu
            · rcases hw with hw | rfl
              · exact hF.sym w u (hB.c.2 w hw) (hcnv w hw)
              · exact absurd rfl huw
          · rw [hO', hS', hho, hhs]
            simp only [Bool.and_eq_true, Bool.or_eq_true, decide_eq_true_eq]
            constructor
            · intro h u hu
              rw [hC', Bool.or_eq_true, decide_eq_true_eq] at hu
              have hos : has O w = true ∨ has S w = true := by
                rcases h with ⟨⟨h, _⟩, _⟩ | ⟨h | h, _⟩
                · exact .inl h
                · exact .inr h
                · exact .inl (hle w h)
              have hvw : nb F v w = true := by rcases h with ⟨_, h⟩ | ⟨_, h⟩ <;> exact h
              rcases hu with hu | rfl
              · exact (hB.cn w hw).1 hos u hu
              · exact hvw
            · intro h
              have hvw : nb F v w = true := h v (by rw [hC']; simp)
              have hos := (hB.cn w hw).2 (fun u hu => h u (by rw [hC', hu]; rfl))
              by_cases hm : (w : Int) ∈ (elems O).take i
              · exact .inr ⟨.inr hm, hvw⟩
              · rcases hos with hos | hos
                · exact .inl ⟨⟨hos, hm⟩, hvw⟩
                · exact .inr ⟨.inl hos, hvw⟩
          · rw [hO', hho] at hw
            simp only [Bool.and_eq_true, decide_eq_true_eq] at hw
            rw [hS', hhs, hB.dis w hw.1.1, decide_eq_false hw.1.2]; rfl
        have hfu : (elems (iand .u32 o (F.getD v 0))).length < fuel := by
          have h1 : ((v : Int) :: elems (iand .u32 o (F.getD v 0))).length ≤ (elems O).length := by
            refine nodup_le (List.nodup_cons.2 ⟨fun hc => ?_, (elems_inc _).nodup⟩) (fun x hx => ?_)
            · rw [mem_elems_nat (VS.iand _ _), hO', hF.irr v hvn] at hc; simp at hc
            · rcases List.mem_cons.1 hx with rfl | hx
              · exact (mem_elems_nat hB.o.1).2 hv1
              · obtain ⟨w, _, h2, rfl⟩ := mem_elems.1 hx
                rw [hO', hho] at h2
                simp only [Bool.and_eq_true] at h2
                exact (mem_elems_nat hB.o.1).2 h2.1.1
          rw [List.length_cons] at h1; omega
        have hsubT : ∀ K, Tgt F n (ior .u32 C (ishl .u32 1 (v : Int))) (iand .u32 o (F.getD v 0)) K → Tgt F n C O K ∧ has K v = true ∧ ∀ w : Nat, (w : Int) ∈ (elems O).take i → has K w = false := fun K hK => by
          refine ⟨⟨hK.ok, hK.mx, fun w hw => hK.sup w (by rw [hC', hw]; rfl), fun w hw => ?_⟩, hK.sup v (by rw [hC']; simp), fun w hw => ?_⟩
          · rcases hK.sub w hw with h | h
            · rw [hC', Bool.or_eq_true, decide_eq_true_eq] at h
              rcases h with h | rfl
              · exact .inl h
              · exact .inr hv1
            · rw [hO', hho] at h
              simp only [Bool.and_eq_true] at h
              exact .inr h.1.1
          · cases hk : has K w
            · rfl
            · exfalso
              rcases hK.sub w hk with h | h
              · rw [hC', Bool.or_eq_true, decide_eq_true_eq] at h
                rcases h with h | rfl
                · rw [hB.notin hF (hle w hw)] at h; cases h
                · exact hvt hw
              · rw [hO', hho] at h
                simp only [Bool.and_eq_true, decide_eq_true_eq] at h
                exact h.1.2 hw
        have hRi : ∀ K ∈ x4 ++ R, In n K := fun K hK => by
          rcases List.mem_append.1 hK with h | h
          · exact hi K h
          · exact ((hR K).1 h).1.ok
        obtain ⟨y, e2, R2, rfl, hn2, hm2⟩ := grow_ok hn hF fuel _ _ _ (x4 ++ R) hfu hB' hRn hRi (fun K hK hT => by
          obtain ⟨k1, k2, k3⟩ := hsubT K hT
          rcases List.mem_append.1 hK with h | h
          · exact ht K h k1
          · obtain ⟨_, w, hw1, hw2⟩ := (hR K).1 h
            rw [k3 w hw1] at hw2; cases hw2)
        rw [e2, Option.bind_some, wi (show i < 4611686018427387904 by omega)]
        refine ⟨_, rfl, ⟨i + 1, rfl, by omega, VS.iandNot _ _, VS.ior _ _, fun w => ?_, fun w => ?_, R ++ R2, by rw [List.append_assoc], by rw [← List.append_assoc]; exact hn2, fun K => ?_⟩, by dsimp only; omega⟩
        · dsimp only
          rw [has_iandNot ho (VS.ishl _ _), has_one hv32, hho]
          have : decide ((w : Int) ∉ (elems O).take (i + 1)) = (decide ((w : Int) ∉ (elems O).take i) && !decide (w = v)) := by
            rw [Bool.eq_iff_iff]; simp only [decide_eq_true_eq, Bool.and_eq_true, Bool.not_eq_true', decide_eq_false_iff_not, htk, not_or]
          rw [this, Bool.and_assoc]
        · dsimp only
          rw [has_ior hs (VS.ishl _ _), has_one hv32, hhs]
          have : decide ((w : Int) ∈ (elems O).take (i + 1)) = (decide ((w : Int) ∈ (elems O).take i) || decide (w = v)) := by
            rw [Bool.eq_iff_iff]; simp only [decide_eq_true_eq, Bool.or_eq_true, htk]
          rw [this, Bool.or_assoc]
        · rw [List.mem_append, hR, hm2]
          constructor
          · rintro (⟨h1, w, hw1, hw2⟩ | h)
            · exact ⟨h1, w, (htk w).2 (.inl hw1), hw2⟩
            · obtain ⟨k1, k2, _⟩ := hsubT K h
              exact ⟨k1, v, (htk v).2 (.inr rfl), k2⟩
          · rintro ⟨h1, w, hw1, hw2⟩
            by_cases hex : ∃ w : Nat, (w : Int) ∈ (elems O).take i ∧ has K w = true
            · exact .inl ⟨h1, hex⟩
            · right
              have hno : ∀ w : Nat, (w : Int) ∈ (elems O).take i → has K w = false := fun w hw => by
                cases hk : has K w
                · rfl
                · exact absurd ⟨w, hw, hk⟩ hex
              have hKv : has K v = true := by
                rcases (htk w).1 hw1 with h | rfl
                · rw [hno w h] at hw2; cases hw2
                · exact hw2
              refine ⟨h1.ok, h1.mx, fun u hu => ?_, fun u hu => ?_⟩
              · rw [hC', Bool.or_eq_true, decide_eq_true_eq] at hu
                rcases hu with hu | rfl
                · exact h1.sup u hu
                · exact hKv
              · rw [hC', hO', hho]
                simp only [Bool.or_eq_true, Bool.and_eq_true, decide_eq_true_eq]
                by_cases huv : u = v
                · exact .inl (.inr huv)
                · rcases h1.sub u hu with h | h
                  · exact .inl (.inl h)
                  · refine .inr ⟨⟨h, fun hm => ?_⟩, h1.mx.1 v u hKv hu (fun e => huv e.symm)⟩
                    rw [hno u hm] at hu; cases hu
      · obtain rfl : i = (elems O).length := by omega
        simp only [dnlt, cond_false]
        refine ⟨_, rfl, R, rfl, hRn, fun K => ?_⟩
        rw [hR, List.take_length]
        constructor
        · exact fun h => h.1
        · intro h
          refine ⟨h, ?_⟩
          -- the set is not C: there is one more
          obtain ⟨b, hb32, hb1, hb2, _⟩ := least_spec hB.o.1 hO
          have hbn := hB.o.2 b hb1
          apply Classical.byContradiction
          intro hne
          have hKC : ∀ w, has K w = true → has C w = true := fun w hw => by
            rcases h.sub w hw with h | h
            · exact h
            · exact absurd ⟨w, (mem_elems_nat hB.o.1).2 h, hw⟩ hne
          have hKb : has K b = false := by
            cases hk : has K b
            · rfl
            · have := hB.notin hF hb1
              rw [hKC b hk] at this; cases this
          obtain ⟨u, h1, h2⟩ := h.mx.2 b hbn hKb
          have := (hB.cn b hbn).1 (.inl hb1) u (hKC u h1)
          rw [this] at h2; cases h2

theorem recFuel_33 : 33 ≤ recFuel := by have := recFuel_big; omega
/-- the program's list of the greatest cliques -/
theorem cliquesOf_ok {F : List Int} {n : Nat} (h1 : 1 ≤ n) (hn : n ≤ 16) (hF : FOk F n) : ∃ l, D.d0 F = some l ∧ l.Pairwise (fun a b => lkey a < lkey b) ∧ ∀ K, K ∈ l ↔ In n K ∧ MX F n K := by
  have hlen := hF.len
  unfold D.d0 D.u
  rw [nets_all_full, Option.bind_some, hlen]
  have hel := elems_len (full n)
  have h33 := recFuel_33
  obtain ⟨y, e, R, hy, hd, hR⟩ := grow_ok hn hF recFuel 0 (full n) 0 [] (by omega) ⟨⟨VS.zero, fun w hw => by rw [has_zero] at hw; cases hw⟩, ⟨full_vs n, fun w hw => by rw [has_full hn] at hw; exact of_decide_eq_true hw⟩, ⟨VS.zero, fun w hw => by rw [has_zero] at hw; cases hw⟩,
    fun u w hu => (by rw [has_zero] at hu; cases hu), fun w hw => ⟨fun _ u hu => (by rw [has_zero] at hu; cases hu), fun _ => .inl (by rw [has_full hn]; exact decide_eq_true hw)⟩, fun w _ => has_zero w⟩ (by simp) (by simp) (by simp)
  rw [List.nil_append] at hd hy
  subst hy
  have hT : ∀ K, Tgt F n 0 (full n) K ↔ In n K ∧ MX F n K := fun K => ⟨fun h => ⟨h.ok, h.mx⟩, fun ⟨h1, h2⟩ => ⟨h1, h2, fun w hw => (by rw [has_zero] at hw; cases hw), fun w hw => .inr (by rw [has_full hn]; exact decide_eq_true (h1.2 w hw))⟩⟩
  rw [e, Option.bind_some, se_impl_vset_impl_compareSets]
  obtain ⟨l', e2, hp, hs⟩ := sorted_rise byLex (fun x y => lkey_inj) y (fun K hK => ((hT K).1 ((hR K).1 hK)).1.1) hd (by
    have := masks_len hn (fun K hK => ((hT K).1 ((hR K).1 hK)).1) hd
    omega)
  refine ⟨l', by rw [show DG.Sort D.a y = some l' from e2]; rfl, hs, fun K => ?_⟩
  rw [hp.mem_iff, hR, hT]

theorem rise_nodup {k : Int → Int} {l : List Int} (h : l.Pairwise (fun a b => k a < k b)) : l.Nodup := List.Pairwise.imp (fun h e => by subst e; omega) h

end Go.Sx

/- What the reference draws from bytes: graphs, right or wrong, orders, sets. Plain. -/
namespace Go.Sx
/-- a draw: something, and the bytes with a place in them -/
def Dw {α : Type} (b : List Int) (P : α → Prop) (e : Option (α × List Int × Int × Int)) : Prop := ∃ y, e = some y ∧ (P y.1 ∧ y.2.1 = b ∧ DK b y.2.2.1)
theorem Dw.then {α β : Type} {b : List Int} {P : α → Prop} {e : Option (α × List Int × Int × Int)} {k : α × List Int × Int × Int → Option β} {Q : β → Prop} (h : Dw b P e)
    (hk : ∀ a i z, P a → DK b i → ∃ y, k (a, b, i, z) = some y ∧ Q y) : ∃ y, e.bind k = some y ∧ Q y := by
  obtain ⟨⟨a, b', i, z⟩, rfl, h1, h2, h3⟩ := h
  dsimp only at h1 h2 h3
  subst h2
  exact hk a i z h1 h3

/-- few rows, and few in each -/
def Few (g : List (List Int)) : Prop := g.length ≤ 17 ∧ ∀ r ∈ g, r.length ≤ 17
theorem Few.sh2 {g : List (List Int)} (h : Few g) : Sh2 g := ⟨by have := h.1; unfold Sh; omega, fun r hr => by have := h.2 r hr; unfold Sh; omega⟩
theorem Few.set {g : List (List Int)} (h : Few g) (k : Nat) {r : List Int} (hr : r.length ≤ 17) : Few (g.set k r) := by
  refine ⟨by have := h.1; simpa using this, fun x hx => ?_⟩
  rcases List.mem_or_eq_of_mem_set hx with hx | rfl
  · exact h.2 x hx
  · exact hr

end Go.Sx

/- The reference's greatest cliques are the program's. Plain. -/
namespace Go.Sx
theorem elems_mk {n : Nat} {x : List Int} (hn : n ≤ 16) (hi : Inc x) (hr : ∀ z ∈ x, 0 ≤ z ∧ z < n) : elems (mk x) = x := by
  have h32 : ∀ z ∈ x, 0 ≤ z ∧ z < 32 := fun z hz => by have := hr z hz; omega
  refine Inc.ext (elems_inc _) hi (fun z => ?_)
  rw [mem_elems]
  constructor
  · rintro ⟨v, _, h, rfl⟩
    rw [has_mk h32] at h
    exact of_decide_eq_true h
  · intro hz
    have := h32 z hz
    refine ⟨z.toNat, by omega, ?_, by omega⟩
    rw [has_mk h32, show ((z.toNat : Nat) : Int) = z by omega]
    exact decide_eq_true hz

theorem cz_app : ∀ s a b : List Int, cz (s ++ a) (s ++ b) = cz a b
  | [], _, _ => rfl
  | c :: s, a, b => by
    rw [List.cons_append, List.cons_append, cz, if_neg (by omega), if_neg (by omega), cz_app s a b]
theorem cz_head {a b : Int} (x y : List Int) (h : a < b) : cz (a :: x) (b :: y) < 0 := by
  rw [cz, if_pos h]; decide
theorem cz_nodup {L : List (List Int)} (h : L.Pairwise fun a b => cz a b < 0) : L.Nodup := List.Pairwise.imp (fun h e => by
  subst e
  rw [(cz_zero _ _).2 rfl] at h; omega) h

def Cq (g : List (List Int)) (x : List Int) : Prop := ∀ u w : Nat, (u : Int) ∈ x → (w : Int) ∈ x → u ≠ w → adj g u w
/-- a greatest clique, as a list -/
structure Fin' (g : List (List Int)) (x : List Int) : Prop where
  inc : Inc x
  rng : ∀ z ∈ x, 0 ≤ z ∧ z < g.length
  cq : Cq g x
  mx : ∀ w, w < g.length → ∃ u : Nat, (u : Int) ∈ x ∧ ¬ adj g u w
/-- one that has the set, and else of what is left -/
def Sol (g : List (List Int)) (set left x : List Int) : Prop := ∃ y, x = set ++ y ∧ (∀ z ∈ y, z ∈ left) ∧ Fin' g x
structure SK (g : List (List Int)) (set left out : List Int) : Prop where
  inc : Inc (set ++ left)
  r1 : ∀ z ∈ set ++ left, 0 ≤ z ∧ z < g.length
  r2 : ∀ z ∈ out, 0 ≤ z ∧ z < g.length
  cq : Cq g set
  cn : ∀ w : Nat, w < g.length → (((w : Int) ∈ left ∨ (w : Int) ∈ out) ↔ ∀ u : Nat, (u : Int) ∈ set → adj g u w)
  len : out.length + left.length ≤ 16

theorem inc_len {n : Nat} {x : List Int} (hi : Inc x) (hr : ∀ z ∈ x, 0 ≤ z ∧ z < n) : x.length ≤ n := by
  have := nodup_le (m := (List.range n).map Int.ofNat) hi.nodup (fun z hz => by
    have := hr z hz
    exact List.mem_map.2 ⟨z.toNat, List.mem_range.2 (by omega), by show ((z.toNat : Nat) : Int) = z; omega⟩)
  simpa using this

theorem sols_len {g : List (List Int)} (hn : g.length ≤ 16) {L : List (List Int)} (h : ∀ x ∈ L, Fin' g x) (hp : L.Pairwise fun a b => cz a b < 0) : L.length ≤ 65536 := by
  have h1 : (L.map mk).Nodup := by
    unfold List.Nodup
    rw [List.pairwise_map]
    refine List.Pairwise.imp_of_mem (fun {a b} ha hb hab e => hab ?_) (cz_nodup hp)
    rw [← elems_mk hn (h a ha).inc (h a ha).rng, ← elems_mk hn (h b hb).inc (h b hb).rng, e]
  have h2 := masks_len (n := g.length) (l := L.map mk) hn (fun K hK => by
    obtain ⟨x, hx, rfl⟩ := List.mem_map.1 hK
    refine ⟨VS.mk _, fun w hw => ?_⟩
    rw [has_mk (fun z hz => by have := (h x hx).rng z hz; omega)] at hw
    have := (h x hx).rng _ (of_decide_eq_true hw)
    omega) h1
  simpa using h2

/-- the state of the next round -/
theorem SK.next {g : List (List Int)} (hg : GOk g) {set left out : List Int} (h : SK g set left out) {i v : Nat} (hi : i < left.length) (hv : left[i] = (v : Int)) :
    SK g (set ++ [(v : Int)]) ((left.drop (i + 1)).filter fun x => decide (x ∈ row g v)) ((out ++ left.take i).filter fun x => decide (x ∈ row g v)) ∧
    (∀ x, Sol g (set ++ [(v : Int)]) ((left.drop (i + 1)).filter fun x => decide (x ∈ row g v)) x ↔ ∃ y, x = set ++ (v : Int) :: y ∧ (∀ z ∈ y, z ∈ left) ∧ Fin' g x) := by
  have hvm : (v : Int) ∈ left := by rw [← hv]; exact List.getElem_mem hi
  have hvr := h.r1 _ (List.mem_append.2 (.inr hvm))
  have hvn : v < g.length := by omega
  have hinc := List.pairwise_append.1 h.inc
  have hsplit : left = left.take i ++ (v : Int) :: left.drop (i + 1) := by
    rw [← hv, List.getElem_cons_drop, List.take_append_drop]
  have hdrop : ∀ z, z ∈ left.drop (i + 1) ↔ z ∈ left ∧ (v : Int) < z := fun z => by
    have h2 := hinc.2.1
    rw [hsplit] at h2
    have h3 := List.pairwise_append.1 h2
    have h4 := List.pairwise_cons.1 h3.2.1
    constructor
    · intro hz
      exact ⟨List.mem_of_mem_drop hz, h4.1 z hz⟩
    · rintro ⟨h5, h6⟩
      rw [hsplit] at h5
      rcases List.mem_append.1 h5 with h5 | h5
      · have := h3.2.2 z h5 (v : Int) (by simp); omega
      · rcases List.mem_cons.1 h5 with rfl | h5
        · omega
        · exact h5
  refine ⟨⟨?_, ?_, ?_, ?_, ?_, ?_⟩, fun x => ?_⟩
  · rw [List.append_assoc]
    refine List.pairwise_append.2 ⟨hinc.1, ?_, fun a ha b hb => ?_⟩
    · rw [List.singleton_append]
      refine List.pairwise_cons.2 ⟨fun z hz => ((hdrop z).1 (List.mem_filter.1 hz).1).2, ?_⟩
      exact List.Pairwise.filter _ (List.Pairwise.sublist (List.drop_sublist _ _) hinc.2.1)
    · refine hinc.2.2 a ha b ?_
      rw [List.singleton_append] at hb
      rcases List.mem_cons.1 hb with rfl | hb
      · exact hvm
      · exact ((hdrop b).1 (List.mem_filter.1 hb).1).1
  · intro z hz
    rcases List.mem_append.1 hz with hz | hz
    · rcases List.mem_append.1 hz with hz | hz
      · exact h.r1 z (List.mem_append.2 (.inl hz))
      · simp at hz; subst hz; exact hvr
    · exact h.r1 z (List.mem_append.2 (.inr ((hdrop z).1 (List.mem_filter.1 hz).1).1))
  · intro z hz
    rcases List.mem_append.1 (List.mem_filter.1 hz).1 with hz | hz
    · exact h.r2 z hz
    · exact h.r1 z (List.mem_append.2 (.inr (List.mem_of_mem_take hz)))
  · intro u w hu hw hne
    have key : ∀ a : Nat, (a : Int) ∈ set → adj g a v := fun a ha => (h.cn v hvn).1 (.inl hvm) a ha
    rcases List.mem_append.1 hu with hu1 | hu1 <;> rcases List.mem_append.1 hw with hw1 | hw1
    · exact h.cq u w hu1 hw1 hne
    · have e : w = v := by simp at hw1; omega
      rw [e]; exact key u hu1
    · have e : u = v := by simp at hu1; omega
      rw [e]
      have := h.r1 _ (List.mem_append.2 (.inl hw1))
      exact hg.sym w v (by omega) (key w hw1)
    · simp at hu1 hw1; omega
  · intro w hw
    have h1 := h.cn w hw
    have hself : (w : Int) ∈ row g v → w ≠ v := fun ha e => by subst e; exact hg.irr w hw ha
    constructor
    · intro hm u hu
      have hm' : ((w : Int) ∈ left ∨ (w : Int) ∈ out) ∧ (w : Int) ∈ row g v := by
        rcases hm with hm | hm
        · obtain ⟨a1, a2⟩ := List.mem_filter.1 hm
          exact ⟨.inl ((hdrop _).1 a1).1, of_decide_eq_true a2⟩
        · obtain ⟨a1, a2⟩ := List.mem_filter.1 hm
          refine ⟨?_, of_decide_eq_true a2⟩
          rcases List.mem_append.1 a1 with a1 | a1
          · exact .inr a1
          · exact .inl (List.mem_of_mem_take a1)
      rcases List.mem_append.1 hu with hu | hu
      · exact h1.1 hm'.1 u hu
      · have : u = v := by simp at hu; omega
        subst this; exact hm'.2
    · intro hA
      have hav : (w : Int) ∈ row g v := hA v (by simp)
      have hne := hself hav
      rcases h1.2 (fun u hu => hA u (List.mem_append.2 (.inl hu))) with hm | hm
      · rw [hsplit] at hm
        rcases List.mem_append.1 hm with hm | hm
        · exact .inr (List.mem_filter.2 ⟨List.mem_append.2 (.inr hm), decide_eq_true hav⟩)
        · rcases List.mem_cons.1 hm with hm | hm
          · omega
          · exact .inl (List.mem_filter.2 ⟨hm, decide_eq_true hav⟩)
      · exact .inr (List.mem_filter.2 ⟨List.mem_append.2 (.inl hm), decide_eq_true hav⟩)
  · have a1 : ((left.drop (i + 1)).filter fun x => decide (x ∈ row g v)).length ≤ (left.drop (i + 1)).length := List.length_filter_le _ _
    have a2 : ((out ++ left.take i).filter fun x => decide (x ∈ row g v)).length ≤ (out ++ left.take i).length := List.length_filter_le _ _
    have := h.len
    simp only [List.length_drop, List.length_append, List.length_take] at a1 a2
    omega
  · constructor
    · rintro ⟨y, rfl, hy, hf⟩
      exact ⟨y, by simp, fun z hz => ((hdrop z).1 (List.mem_filter.1 (hy z hz)).1).1, hf⟩
    · rintro ⟨y, rfl, hy, hf⟩
      refine ⟨y, by simp, fun z hz => ?_, hf⟩
      have hz2 := hf.rng z (by simp [hz])
      have h6 := (List.pairwise_cons.1 (List.pairwise_append.1 hf.inc).2.1).1 z hz
      refine List.mem_filter.2 ⟨(hdrop z).2 ⟨hy z hz, h6⟩, decide_eq_true ?_⟩
      have := hf.cq v z.toNat (by simp) (by rw [show ((z.toNat : Nat) : Int) = z by omega]; simp [hz]) (by omega)
      unfold adj at this
      rwa [show ((z.toNat : Nat) : Int) = z by omega] at this

theorem l8R_ok {g : List (List Int)} (hg : GOk g) : ∀ (fuel : Nat) (set left out : List Int), left.length < fuel → SK g set left out →
    ∃ L, D.Y fuel g set left out = some L ∧ (∀ x, x ∈ L ↔ Sol g set left x) ∧ L.Pairwise fun a b => cz a b < 0
  | 0, _, left, _, h, _ => by omega
  | fuel + 1, set, left, out, hfu, h => by
    have h16 := hg.n16
    unfold D.Y
    have hsl := inc_len (n := g.length) h.inc h.r1
    rw [List.length_append] at hsl
    have hol := h.len
    by_cases hb : left = [] ∧ out = []
    · obtain ⟨rfl, rfl⟩ := hb
      refine ⟨[set], rfl, fun x => ?_, by simp⟩
      rw [List.mem_singleton]
      have hf : Fin' g set := by
        refine ⟨by have := h.inc; rwa [List.append_nil] at this, fun z hz => h.r1 z (by simp [hz]), h.cq, fun w hw => ?_⟩
        apply Classical.byContradiction
        intro hc
        have := (h.cn w hw).2 (fun u hu => Classical.byContradiction fun hn => hc ⟨u, hu, hn⟩)
        simp at this
      constructor
      · rintro rfl; exact ⟨[], by simp, by simp, hf⟩
      · rintro ⟨y, rfl, hy, _⟩
        cases y with
        | nil => simp
        | cons z y => have := hy z (by simp); simp at this
    · have e0 : (((left.length : Int) == 0) && ((out.length : Int) == 0)) = false := by
        rw [Bool.eq_false_iff]
        intro hc
        simp only [Bool.and_eq_true, beq_iff_eq] at hc
        exact hb ⟨List.length_eq_zero_iff.1 (by omega), List.length_eq_zero_iff.1 (by omega)⟩
      rw [e0, cond_false]
      have hnot : ∀ x, Sol g set left x ↔ ∃ j, ∃ hj : j < left.length, ∃ y, x = set ++ left[j] :: y ∧ (∀ z ∈ y, z ∈ left) ∧ Fin' g x := fun x => by
        constructor
        · rintro ⟨y, rfl, hy, hf⟩
          cases y with
          | nil =>
            exfalso
            have hex : ∃ w : Nat, w < g.length ∧ ((w : Int) ∈ left ∨ (w : Int) ∈ out) := by
              cases hl : left with
              | cons a l =>
                have := h.r1 a (by simp [hl])
                exact ⟨a.toNat, by omega, .inl (by rw [show ((a.toNat : Nat) : Int) = a by omega]; simp)⟩
              | nil =>
                cases ho : out with
                | nil => exact absurd ⟨hl, ho⟩ hb
                | cons a l =>
                  have := h.r2 a (by simp [ho])
                  exact ⟨a.toNat, by omega, .inr (by rw [show ((a.toNat : Nat) : Int) = a by omega]; simp)⟩
            obtain ⟨w, hw, hm⟩ := hex
            obtain ⟨u, hu, hn⟩ := hf.mx w hw
            rw [List.append_nil] at hu
            exact hn ((h.cn w hw).1 hm u hu)
          | cons z y =>
            obtain ⟨j, hj, e⟩ := List.getElem_of_mem (hy z (by simp))
            exact ⟨j, hj, y, by rw [e], fun t ht => hy t (by simp [ht]), hf⟩
        · rintro ⟨j, hj, y, rfl, hy, hf⟩
          refine ⟨_, rfl, fun z hz => ?_, hf⟩
          rcases List.mem_cons.1 hz with rfl | hz
          · exact List.getElem_mem hj
          · exact hy z hz
      refine loop_then (fun s => ∃ i : Nat, s.2 = (i : Int) ∧ i ≤ left.length ∧ (∀ x, x ∈ s.1 ↔ ∃ j, ∃ hj : j < left.length, j < i ∧ ∃ y, x = set ++ left[j] :: y ∧ (∀ z ∈ y, z ∈ left) ∧ Fin' g x) ∧ s.1.Pairwise fun a b => cz a b < 0)
        (fun s => left.length - s.2.toNat) (fun L => (∀ x, x ∈ L ↔ Sol g set left x) ∧ L.Pairwise fun a b => cz a b < 0) ?_ ⟨0, rfl, by omega, fun x => ⟨fun hx => by simp at hx, fun ⟨j, _, hj, _⟩ => by omega⟩, by simp⟩ (fun L hL => ⟨L, rfl, hL⟩)
      rintro ⟨fd, _⟩ ⟨i, rfl, hi, hfd, hpw⟩
      dsimp only at hfd hpw ⊢
      by_cases hil : i < left.length
      · have hr := h.r1 _ (List.mem_append.2 (.inr (List.getElem_mem hil)))
        obtain ⟨v, hv⟩ : ∃ v : Nat, left[i] = (v : Int) := ⟨left[i].toNat, by omega⟩
        have hvn : v < g.length := by omega
        obtain ⟨hsk, hsol⟩ := h.next hg hil hv
        have hdl : ((left.drop (i + 1)).filter fun x => decide (x ∈ row g v)).length ≤ (left.drop (i + 1)).length := List.length_filter_le _ _
        rw [List.length_drop] at hdl
        obtain ⟨L, e1, hL, hLp⟩ := l8R_ok hg fuel _ _ _ (by omega) hsk
        have hrow := hg.row_len hvn
        have hS : ∀ l : List Int, l.length ≤ 64 → Sh l := fun l hl => by unfold Sh; omega
        have c1 : D.p set = some set := l1Copy_eq _ (hS _ (by omega))
        have c2 : D.p out = some out := l1Copy_eq _ (hS _ (by omega))
        have c3 : appendD set [(v : Int)] = some (set ++ [(v : Int)]) := appendD_ok (by simp; omega)
        have c4 : appendD out (left.take i) = some (out ++ left.take i) := appendD_ok (by simp; omega)
        have c5 := l8Meet_eq (left.drop (i + 1)) (row g v) (hS _ (by simp; omega)) (hS _ (by omega))
        have c6 := l8Meet_eq (out ++ left.take i) (row g v) (hS _ (by simp; omega)) (hS _ (by omega))
        have hfdF : ∀ x ∈ fd, Fin' g x := fun x hx => by
          obtain ⟨_, _, _, _, _, _, hf⟩ := (hfd x).1 hx
          exact hf
        have hLF : ∀ x ∈ L, Fin' g x := fun x hx => by
          obtain ⟨_, _, _, hf⟩ := (hL x).1 hx
          exact hf
        have n1 := sols_len h16 hfdF hpw
        have n2 := sols_len h16 hLF hLp
        have c7 : appendD fd L = some (fd ++ L) := appendD_ok (by omega)
        simp only [dlt hil, cond_true, idx_nat hil, hv, Option.bind_some, wi (show i < 4611686018427387904 by omega), sliceD_post (show i + 1 ≤ left.length by omega), sliceD_pre (show i ≤ left.length by omega), idx_row hvn, c1, c2, c3, c4, c5, c6, e1, c7]
        refine ⟨_, rfl, ⟨i + 1, rfl, by omega, fun x => ?_, ?_⟩, by dsimp only; omega⟩
        · dsimp only
          rw [List.mem_append, hfd, hL, hsol]
          constructor
          · rintro (⟨j, hj, hji, hx⟩ | hx)
            · exact ⟨j, hj, by omega, hx⟩
            · exact ⟨i, hil, by omega, by rw [hv]; exact hx⟩
          · rintro ⟨j, hj, hji, hx⟩
            by_cases he : j = i
            · subst he
              rw [hv] at hx
              exact .inr hx
            · exact .inl ⟨j, hj, by omega, hx⟩
        · dsimp only
          refine List.pairwise_append.2 ⟨hpw, hLp, fun a ha b hb' => ?_⟩
          obtain ⟨j, hj, hji, y, rfl, _⟩ := (hfd a).1 ha
          obtain ⟨y', rfl, _⟩ := (hsol b).1 ((hL b).1 hb')
          rw [cz_app]
          refine cz_head _ _ ?_
          rw [← hv]
          exact List.pairwise_iff_getElem.1 (List.pairwise_append.1 h.inc).2.1 j i hj hil hji
      · obtain rfl : i = left.length := by omega
        simp only [dnlt, cond_false]
        refine ⟨_, rfl, fun x => ?_, hpw⟩
        rw [hfd, hnot]
        exact ⟨fun ⟨j, hj, _, hx⟩ => ⟨j, hj, hx⟩, fun ⟨j, hj, hx⟩ => ⟨j, hj, hj, hx⟩⟩

/-! ### as masks -/
theorem fin_mx {g : List (List Int)} (hg : GOk g) {x : List Int} (h : Fin' g x) : In g.length (mk x) ∧ MX (g.map mk) g.length (mk x) := by
  have h16 := hg.n16
  have hm : ∀ w : Nat, has (mk x) w = true ↔ (w : Int) ∈ x := fun w => by
    rw [has_mk (fun z hz => by have := h.rng z hz; omega)]; simp
  have hl : ∀ w : Nat, (w : Int) ∈ x → w < g.length := fun w hw => by have := h.rng _ hw; omega
  refine ⟨⟨VS.mk _, fun w hw => hl w ((hm w).1 hw)⟩, fun u w hu hw hne => ?_, fun w hw _ => ?_⟩
  · exact (nb_mk hg (hl u ((hm u).1 hu))).2 (h.cq u w ((hm u).1 hu) ((hm w).1 hw) hne)
  · obtain ⟨u, hu, hn⟩ := h.mx w hw
    refine ⟨u, (hm u).2 hu, ?_⟩
    rw [Bool.eq_false_iff]
    intro hc
    exact hn ((nb_mk hg (hl u hu)).1 hc)
theorem mx_fin {g : List (List Int)} (hg : GOk g) {K : Int} (hI : In g.length K) (h : MX (g.map mk) g.length K) : Fin' g (elems K) := by
  have hm : ∀ w : Nat, (w : Int) ∈ elems K ↔ has K w = true := fun w => mem_elems_nat hI.1
  refine ⟨elems_inc _, fun z hz => ?_, fun u w hu hw hne => ?_, fun w hw => ?_⟩
  · obtain ⟨v, _, h2, rfl⟩ := mem_elems.1 hz
    have := hI.2 v h2
    omega
  · have hu' := (hm u).1 hu
    exact (nb_mk hg (hI.2 u hu')).1 (h.1 u w hu' ((hm w).1 hw) hne)
  · cases hc : has K w
    · obtain ⟨u, hu, hn⟩ := h.2 w hw hc
      refine ⟨u, (hm u).2 hu, fun ha => ?_⟩
      rw [(nb_mk hg (hI.2 u hu)).2 ha] at hn; cases hn
    · exact ⟨w, (hm w).2 hc, hg.irr w hw⟩

/-- the greatest cliques, in order -/
structure GC (g : List (List Int)) (l : List Int) : Prop where
  up : l.Pairwise fun a b => lkey a < lkey b
  mem : ∀ K, K ∈ l ↔ In g.length K ∧ MX (g.map mk) g.length K

theorem CliquesOf_all {g : List (List Int)} (hg : GOk g) : ∃ l, D.d0 (g.map mk) = some l ∧ l.length ≤ 65536 ∧ D.i1 g = some (l.map elems) ∧ D.j0 g = some (l.map elems) ∧ GC g l := by
  have h16 := hg.n16
  obtain ⟨l, e1, hup, hmem⟩ := cliquesOf_ok hg.n1 h16 (FOk.of hg)
  have hGC : GC g l := ⟨hup, hmem⟩
  have hvs : ∀ s ∈ l, VS s := fun s hs => ((hmem s).1 hs).1.1
  have hll := masks_len h16 (fun K hK => ((hmem K).1 hK).1) (rise_nodup hup)
  refine ⟨l, e1, by omega, ?_, ?_, hGC⟩
  · unfold D.i1
    rw [impl_GraphOk_eq g hg.sh2, gB_true hg, Option.bind_some, Bool.not_true, cond_false, netsOf_eq g hg, Option.bind_some, e1, Option.bind_some, results_eq l (by unfold Sh; omega) hvs]; rfl
  · unfold D.j0 D.e D.g
    rw [spec_GraphOk_eq g hg.sh2, gB_true hg, Option.bind_some, Bool.not_true, cond_false, Option.bind_some, l1All_eq g.length (by omega), Option.bind_some]
    have hrg : ∀ z, z ∈ (List.range g.length).map Int.ofNat ↔ 0 ≤ z ∧ z < g.length := fun z => by
      rw [List.mem_map]
      constructor
      · rintro ⟨v, hv, rfl⟩
        have := List.mem_range.1 hv
        exact ⟨Int.natCast_nonneg v, by show (v : Int) < _; omega⟩
      · intro h
        exact ⟨z.toNat, List.mem_range.2 (by omega), by show ((z.toNat : Nat) : Int) = z; omega⟩
    have hinc : Inc ((List.range g.length).map Int.ofNat) := by
      unfold Inc
      rw [List.pairwise_map]
      exact List.Pairwise.imp (fun {a b} h => by show (a : Int) < (b : Int); omega) List.pairwise_lt_range
    have h33 := recFuel_33
    obtain ⟨L, e2, hL, hLp⟩ := l8R_ok hg recFuel [] ((List.range g.length).map Int.ofNat) [] (by simp; omega) ⟨hinc, fun z hz => (hrg z).1 hz, by simp, fun u w hu => by simp at hu, fun w hw => ⟨fun _ u hu => by simp at hu, fun _ => .inl ((hrg _).2 (by omega))⟩, by simp; omega⟩
    have hLF : ∀ x, x ∈ L ↔ Fin' g x := fun x => by
      rw [hL]
      constructor
      · rintro ⟨y, rfl, _, hf⟩; exact hf
      · intro hf
        exact ⟨x, rfl, fun z hz => (hrg z).2 (hf.rng z hz), hf⟩
    have hem : ∀ x ∈ L, elems (mk x) = x := fun x hx => elems_mk h16 ((hLF x).1 hx).inc ((hLF x).1 hx).rng
    have hLm : L.map mk = l := by
      refine rise_unique (k := lkey) ?_ hup (fun K => ?_)
      · rw [List.pairwise_map]
        refine List.Pairwise.imp_of_mem (fun {a b} ha hb hab => ?_) hLp
        have fa := (hLF a).1 ha; have fb := (hLF b).1 hb
        have la := inc_len fa.inc fa.rng; have lb := inc_len fb.inc fb.rng
        unfold lkey
        rw [hem a ha, hem b hb]
        exact (lk_cmp 32 a b (by omega) (by omega) (fun z hz => by have := fa.rng z hz; omega) (fun z hz => by have := fb.rng z hz; omega)).1 hab
      · rw [List.mem_map, hmem]
        constructor
        · rintro ⟨x, hx, rfl⟩
          exact fin_mx hg ((hLF x).1 hx)
        · rintro ⟨hI, hM⟩
          exact ⟨elems K, (hLF _).2 (mx_fin hg hI hM), mk_elems hI.1⟩
    have hLe : L = l.map elems := by
      rw [← hLm, List.map_map]
      have : L.map (elems ∘ mk) = L.map id := List.map_congr_left (fun x hx => hem x hx)
      rw [this, List.map_id]
    rw [e2, Option.bind_some, Option.bind_some, hLe]
end Go.Sx

/- The exact laws' own helpers in closed form: copies, equality, sizes, marks. Plain. -/
namespace Go.Sx
theorem loop_set {α S ρ β : Type} {step : S → Option (S ⊕ ρ)} {k : ρ → Option β} {s0 : S} (xs ys : List α) (hl : xs.length = ys.length) (enc : List α → Int → S) (r : ρ) (h0 : enc ys 0 = s0)
    (hstep : ∀ l (i : Nat) (h : i < xs.length), l.length = xs.length → step (enc l i) = some (.inl (enc (l.set i xs[i]) ((i + 1 : Nat) : Int))))
    (hend : step (enc xs xs.length) = some (.inr r)) : (loopF step s0).bind k = k r := by
  refine loop_to (fun i => enc (xs.take i ++ ys.drop i) (i : Int)) xs.length r (by simpa using h0) (fun i hi => ?_) ?_
  · have e : (xs.take i ++ ys.drop i).set i xs[i] = xs.take (i + 1) ++ ys.drop (i + 1) := by
      rw [List.take_succ_eq_append_getElem hi, List.drop_eq_getElem_cons (show i < ys.length by omega), List.set_append_right _ _ (by simp; omega)]
      have e0 : i - (xs.take i).length = 0 := by rw [List.length_take]; omega
      rw [e0, List.set_cons_zero, List.append_assoc]; rfl
    rw [hstep _ i hi (by simp; omega), e]
  · rw [← hend, List.take_length, hl, List.drop_length, List.append_nil]

theorem toS_eq (xs : List Int) (h : Sh xs) : D.v xs = some xs := by
  unfold Sh at h
  unfold D.v
  rw [makeD_ok (by omega) (by omega), Option.bind_some]
  refine (loop_set xs (List.replicate xs.length 0) (by simp) (fun l i => (l, i)) xs rfl (fun l i hi hl => ?_) ?_).trans rfl
  · simp only [dlt hi, cond_true, idx_nat hi, idx_nat (show i < l.length by omega), Option.bind_some, wi (show i < 4611686018427387904 by omega), Int.toNat_natCast]
  · simp only [dnlt, cond_false]
theorem toSS_eq (xs : List (List Int)) (h : Sh2 xs) : D.z0 xs = some xs := by
  obtain ⟨h, h2⟩ := h
  unfold Sh at h
  unfold D.z0
  rw [makeD_ok (by omega) (by omega), Option.bind_some]
  refine (loop_set xs (List.replicate xs.length []) (by simp) (fun l i => (l, i)) xs rfl (fun l i hi hl => ?_) ?_).trans rfl
  · simp only [dlt hi, cond_true, idx_nat hi, idx_nat (show i < l.length by omega), Option.bind_some, wi (show i < 4611686018427387904 by omega), Int.toNat_natCast, toS_eq _ (h2 _ (List.getElem_mem hi))]
  · simp only [dnlt, cond_false]
theorem toGraph_eq (g : List (List Int)) (h : Sh2 g) : D.x g = some g := by
  unfold D.x; rw [toSS_eq g h]; rfl

theorem list_eq_all {α : Type} [DecidableEq α] (xs ys : List α) (d : α) (hl : xs.length = ys.length) : (List.range xs.length).all (fun i => decide (xs.getD i d = ys.getD i d)) = decide (xs = ys) := by
  rw [Bool.eq_iff_iff, all_forall, decide_eq_true_eq]
  constructor
  · intro h
    apply List.ext_getElem hl
    intro i h1 h2
    have := h i h1
    rw [getD_lt h1, getD_lt h2] at this
    exact of_decide_eq_true this
  · rintro rfl i _; simp
theorem eqS_eq (xs ys : List Int) (h : Sh xs) : D.j xs ys = some (decide (xs = ys)) := by
  unfold Sh at h
  unfold D.j
  by_cases hl : xs.length = ys.length
  · have e : ((xs.length : Int) != (ys.length : Int)) = false := by simp [hl]
    rw [e, cond_false, ← list_eq_all xs ys 0 hl]
    refine loop_allb xs.length _ false (fun i hi => ?_) ?_ rfl rfl
    · have hi' : i < ys.length := by omega
      simp only [dlt hi, cond_true, idx_nat hi, idx_nat hi', Option.bind_some, wi (show i < 4611686018427387904 by omega), getD_lt hi, getD_lt hi']
      by_cases hc : xs[i] = ys[i]
      · simp [hc]
      · have : (xs[i] != ys[i]) = true := by simpa using hc
        simp [hc, this]
    · simp only [dnlt, cond_false]
  · have e : ((xs.length : Int) != (ys.length : Int)) = true := by simp; omega
    have : xs ≠ ys := by rintro rfl; exact hl rfl
    simp [e, this]
theorem eqSS_eq (xs ys : List (List Int)) (h : Sh2 xs) : D.A xs ys = some (decide (xs = ys)) := by
  obtain ⟨h, h2⟩ := h
  unfold Sh at h
  unfold D.A
  by_cases hl : xs.length = ys.length
  · have e : ((xs.length : Int) != (ys.length : Int)) = false := by simp [hl]
    rw [e, cond_false, ← list_eq_all xs ys [] hl]
    refine loop_allb xs.length _ false (fun i hi => ?_) ?_ rfl rfl
    · have hi' : i < ys.length := by omega
      simp only [dlt hi, cond_true, idx_nat hi, idx_nat hi', Option.bind_some, wi (show i < 4611686018427387904 by omega), getD_lt hi, getD_lt hi', eqS_eq _ _ (h2 _ (List.getElem_mem hi))]
      by_cases hc : xs[i] = ys[i]
      · simp [hc]
      · simp [hc]
    · simp only [dnlt, cond_false]
  · have e : ((xs.length : Int) != (ys.length : Int)) = true := by simp; omega
    have : xs ≠ ys := by rintro rfl; exact hl rfl
    simp [e, this]
theorem eqGraph_eq (xs ys : List (List Int)) (h : Sh2 xs) : D.L0 xs ys = some (decide (xs = ys)) := by
  unfold D.L0; rw [eqSS_eq xs ys h, Option.bind_some]; cases decide (xs = ys) <;> rfl

/-! ### sizes -/
/-- how many there are in all -/
def tot : List (List Int) → Int
  | [] => 0
  | x :: xs => x.length + tot xs
theorem tot_nonneg : ∀ xs, 0 ≤ tot xs
  | [] => Int.le_refl _
  | x :: xs => by have := tot_nonneg xs; simp only [tot]; omega
theorem tot_app : ∀ xs ys, tot (xs ++ ys) = tot xs + tot ys
  | [], ys => by simp [tot]
  | x :: xs, ys => by simp only [List.cons_append, tot, tot_app xs ys]; omega
theorem tot_mem : ∀ {xs : List (List Int)} {x}, x ∈ xs → (x.length : Int) ≤ tot xs
  | y :: xs, x, h => by
    have := tot_nonneg xs
    simp only [tot]
    rcases List.mem_cons.1 h with rfl | h
    · omega
    · have := tot_mem h; omega
theorem tot_take {xs : List (List Int)} {i : Nat} (h : i < xs.length) : tot (xs.take (i + 1)) = tot (xs.take i) + xs[i].length := by
  rw [List.take_succ_eq_append_getElem h, tot_app]; simp [tot]
theorem tot_le {xs : List (List Int)} {n : Int} (h : ∀ x ∈ xs, (x.length : Int) ≤ n) : tot xs ≤ xs.length * n := by
  induction xs with
  | nil => simp [tot]
  | cons x xs ih =>
    have := ih (fun y hy => h y (by simp [hy]))
    have := h x (by simp)
    simp only [tot, List.length_cons, Int.natCast_add, Int.add_mul]; omega
theorem Sh2.of_tot {xs : List (List Int)} (h : Sh xs) (h2 : tot xs ≤ 4294967296) : Sh2 xs := ⟨h, fun x hx => by have := tot_mem hx; unfold Sh; omega⟩

theorem szS_eq (xs : List Int) (k : Int) (hx : (xs.length : Int) ≤ 9223372036854775807) (h0 : 0 ≤ k) (h1 : k ≤ 1048576) :
    D.q xs k = some (if (xs.length : Int) ≤ k then k - xs.length else -1) := by
  unfold D.q
  rw [w64 (by omega) (by omega)]
  by_cases h : k - (xs.length : Int) < 0
  · rw [if_neg (by omega)]; simp [h]
  · rw [if_pos (by omega)]; simp [h]
theorem szSS_eq (xs : List (List Int)) (k : Int) (hx : (xs.length : Int) ≤ 9223372036854775807) (hx2 : ∀ x ∈ xs, (x.length : Int) ≤ 9223372036854775807) (h0 : 0 ≤ k) (h1 : k ≤ 1048576) :
    ∃ y, D.n0 xs k = some y ∧ (y < 0 ∨ (y + xs.length + tot xs = k ∧ 0 ≤ y)) := by
  unfold D.n0
  rw [w64 (by omega) (by omega)]
  by_cases h : k - (xs.length : Int) < 0
  · simp only [h, decide_true, cond_true]; exact ⟨-1, rfl, .inl (by omega)⟩
  · simp only [h, decide_false, cond_false]
    have key : ∀ (n i : Nat) (l : Int), i + n = xs.length → 0 ≤ l → l + tot (xs.take i) = k - xs.length →
        ∃ r, loopF (σ := Int × Int) (ρ := (Int) ⊕ (Int)) (fun (s_39 : Int × Int) => match s_39 with | (x_42, x_43) => cond (decide (x_43 < (xs.length : Int))) ((idx xs x_43).bind fun e_64 => (D.q e_64 x_42).bind fun y_70 => cond (decide (y_70 < 0)) (some (.inr (.inr (-1)))) (some (.inl (y_70, (IntKind.i64.wrap (x_43 + 1)))))) (some (.inr (.inl x_42)))) (l, (i : Int)) = some r ∧
          (r = .inr (-1) ∨ ∃ y, r = .inl y ∧ y + xs.length + tot xs = k ∧ 0 ≤ y) := by
      intro n
      induction n with
      | zero =>
        intro i l hi hl he
        obtain rfl : i = xs.length := by omega
        refine ⟨.inl l, loopF_done (by simp only [dnlt, cond_false]), .inr ⟨l, rfl, ?_, hl⟩⟩
        rw [List.take_length] at he; omega
      | succ n ih =>
        intro i l hi hl he
        have hil : i < xs.length := by omega
        have ht := tot_nonneg (xs.take i)
        have e1 := szS_eq xs[i] l (hx2 _ (List.getElem_mem hil)) hl (by omega)
        by_cases hc : (xs[i].length : Int) ≤ l
        · rw [if_pos hc] at e1
          obtain ⟨r, hr, hp⟩ := ih (i + 1) (l - xs[i].length) (by omega) (by omega) (by rw [tot_take hil]; omega)
          refine ⟨r, ?_, hp⟩
          rw [loopF_more (s' := (l - xs[i].length, ((i + 1 : Nat) : Int)))]
          · exact hr
          · have hd : decide (l - (xs[i].length : Int) < 0) = false := by simp; omega
            simp only [dlt hil, cond_true, idx_nat hil, Option.bind_some, e1, hd, cond_false, wi (show i < 4611686018427387904 by omega)]
        · rw [if_neg hc] at e1
          refine ⟨.inr (-1), loopF_done ?_, .inl rfl⟩
          have hd : decide ((-1 : Int) < 0) = true := by decide
          simp only [dlt hil, cond_true, idx_nat hil, Option.bind_some, e1, hd]
    obtain ⟨r, hr, hp⟩ := key xs.length 0 (k - xs.length) (by omega) (by omega) (by simp [tot])
    rw [show ((0 : Nat) : Int) = 0 from rfl] at hr
    rw [hr, Option.bind_some]
    rcases hp with rfl | ⟨y, rfl, h1, h2⟩
    · exact ⟨-1, rfl, .inl (by omega)⟩
    · exact ⟨y, rfl, .inr ⟨h1, h2⟩⟩
theorem szGraph_eq (xs : List (List Int)) (k : Int) (hx : (xs.length : Int) ≤ 9223372036854775807) (hx2 : ∀ x ∈ xs, (x.length : Int) ≤ 9223372036854775807) (h0 : 0 ≤ k) (h1 : k ≤ 1048576) :
    ∃ y, D.q0 xs k = some y ∧ (y < 0 ∨ (y + xs.length + tot xs = k ∧ 0 ≤ y)) := by
  obtain ⟨y, e, h⟩ := szSS_eq xs k hx hx2 h0 h1
  unfold D.q0
  rw [e, Option.bind_some]
  by_cases hy : y < 0
  · simp only [hy, decide_true, cond_true]; exact ⟨-1, rfl, .inl (by omega)⟩
  · simp only [hy, decide_false, cond_false]; exact ⟨y, rfl, h⟩

/-! ### marks -/
/-- so many numbers from k on -/
def numsI (k : Int) (n : Nat) : List Int := (List.range n).map fun (i : Nat) => k + (i : Int)
theorem numsI_len (k : Int) (n : Nat) : (numsI k n).length = n := by simp [numsI]
theorem numsI_get (k : Int) {n i : Nat} (h : i < (numsI k n).length) : (numsI k n)[i] = k + (i : Int) := by simp [numsI]
def marked (k : Int) : List (List Int) → List (List Int)
  | [] => []
  | x :: xs => numsI k x.length :: marked (k + x.length) xs
theorem marked_app : ∀ xs ys k, marked k (xs ++ ys) = marked k xs ++ marked (k + tot xs) ys
  | [], ys, k => by simp [marked, tot]
  | x :: xs, ys, k => by simp only [List.cons_append, marked, marked_app xs ys, tot]; rw [show k + (x.length : Int) + tot xs = k + (x.length + tot xs) by omega]
theorem marked_len : ∀ xs k, (marked k xs).length = xs.length
  | [], _ => rfl
  | x :: xs, k => by simp [marked, marked_len xs]
theorem marked_get : ∀ (xs : List (List Int)) (k : Int) (i : Nat) (h : i < xs.length), (marked k xs)[i]'(by rw [marked_len]; exact h) = numsI (k + tot (xs.take i)) xs[i].length
  | x :: xs, k, 0, h => by simp [marked, tot]
  | x :: xs, k, i + 1, h => by
    simp only [marked, List.getElem_cons_succ, List.take_succ_cons, tot]
    rw [marked_get xs (k + x.length) i (by simpa using h)]
    congr 1; omega
theorem markS_eq (xs : List Int) (k : Int) (h : Sh xs) (h0 : 0 ≤ k) (h1 : k ≤ 4611686018427387904) : D.i xs k = some (k + xs.length, numsI k xs.length) := by
  unfold Sh at h
  unfold D.i
  have e : (numsI k xs.length ++ xs.drop xs.length) = numsI k xs.length := by simp
  refine (loop_to (fun i => (numsI k i ++ xs.drop i, k + (i : Int), (i : Int))) xs.length (numsI k xs.length, k + (xs.length : Int)) (by simp [numsI]) (fun i hi => ?_) ?_).trans rfl
  · have hl : (numsI k i ++ xs.drop i).length = xs.length := by simp [numsI_len]; omega
    have hi' : i < (numsI k i ++ xs.drop i).length := by omega
    have hset : (numsI k i ++ xs.drop i).set i (k + i) = numsI k (i + 1) ++ xs.drop (i + 1) := by
      rw [List.drop_eq_getElem_cons hi, List.set_append_right _ _ (by rw [numsI_len]; omega)]
      simp only [numsI_len, Nat.sub_self, List.set_cons_zero]
      unfold numsI
      rw [List.range_succ, List.map_append]; simp
    simp only [dlt hi', cond_true, idx_nat hi', Option.bind_some, wi (show i < 4611686018427387904 by omega), Int.toNat_natCast, hset]
    rw [w64 (by omega) (by omega)]
    have : k + (i : Int) + 1 = k + ((i + 1 : Nat) : Int) := by omega
    rw [this]
  · simp only [e, numsI_len, dnlt, cond_false]
theorem markSS_eq (xs : List (List Int)) (k : Int) (h : Sh2 xs) (h0 : 0 ≤ k) (h1 : k + tot xs ≤ 4611686018427387904) : D.E xs k = some (k + tot xs, marked k xs) := by
  obtain ⟨h, h2⟩ := h
  unfold Sh at h
  unfold D.E
  have hml : ∀ i, i ≤ xs.length → (marked k (xs.take i)).length = i := fun i hi => by rw [marked_len, List.length_take]; omega
  refine (loop_to (fun i => (marked k (xs.take i) ++ xs.drop i, k + tot (xs.take i), (i : Int))) xs.length (marked k xs, k + tot xs) (by simp [marked, tot]) (fun i hi => ?_) ?_).trans rfl
  · have hm := hml i (by omega)
    have hl : (marked k (xs.take i) ++ xs.drop i).length = xs.length := by simp [hm]; omega
    have hi' : i < (marked k (xs.take i) ++ xs.drop i).length := by omega
    have hg : (marked k (xs.take i) ++ xs.drop i)[i] = xs[i] := by
      rw [List.getElem_append_right (by omega)]
      simp [hm]
    have ht := tot_take hi
    have htn : tot (xs.take (i + 1)) ≤ tot xs := by
      have := tot_app (xs.take (i + 1)) (xs.drop (i + 1))
      rw [List.take_append_drop] at this
      have := tot_nonneg (xs.drop (i + 1)); omega
    have htn0 := tot_nonneg (xs.take i)
    have hset : (marked k (xs.take i) ++ xs.drop i).set i (numsI (k + tot (xs.take i)) xs[i].length) = marked k (xs.take (i + 1)) ++ xs.drop (i + 1) := by
      have e0 : i - (marked k (xs.take i)).length = 0 := by omega
      rw [List.drop_eq_getElem_cons hi, List.set_append_right _ _ (by omega), List.take_succ_eq_append_getElem hi, marked_app, e0, List.set_cons_zero, List.append_assoc]
      rfl
    simp only [dlt hi', cond_true, idx_nat hi', hg, Option.bind_some, wi (show i < 4611686018427387904 by omega), Int.toNat_natCast, markS_eq xs[i] (k + tot (xs.take i)) (h2 _ (List.getElem_mem hi)) (by omega) (by omega), hset]
    rw [ht]
    have : k + tot (xs.take i) + (xs[i].length : Int) = k + (tot (xs.take i) + (xs[i].length : Int)) := by omega
    rw [this]
  · have e : marked k (xs.take xs.length) ++ xs.drop xs.length = marked k xs := by simp
    simp only [e, marked_len, dnlt, cond_false]
    simp only [List.take_length]
theorem markGraph_eq (xs : List (List Int)) (k : Int) (h : Sh2 xs) (h0 : 0 ≤ k) (h1 : k + tot xs ≤ 4611686018427387904) : D.H0 xs k = some (k + tot xs, marked k xs) := by
  unfold D.H0; rw [markSS_eq xs k h h0 h1]; rfl

theorem heldS_eq (n : Nat) (k : Int) (h : n ≤ 4294967296) (h0 : 0 ≤ k) (h1 : k ≤ 4611686018427387904) : D.m (numsI k n) k = some (k + n) := by
  unfold D.m
  rw [numsI_len]
  refine (loop_to (fun i => (k + (i : Int), (i : Int))) n (.inl (k + (n : Int))) (by simp) (fun i hi => ?_) ?_).trans rfl
  · have hi' : i < (numsI k n).length := by rw [numsI_len]; exact hi
    simp only [dlt hi, cond_true, idx_nat hi', numsI_get, Option.bind_some, bne_self_eq_false, cond_false, wi (show i < 4611686018427387904 by omega)]
    rw [w64 (by omega) (by omega)]
    have : k + (i : Int) + 1 = k + ((i + 1 : Nat) : Int) := by omega
    rw [this]
  · simp only [dnlt, cond_false]
theorem heldSS_eq (xs : List (List Int)) (k : Int) (h : Sh2 xs) (h0 : 0 ≤ k) (h1 : k + tot xs ≤ 4611686018427387904) : D.W (marked k xs) k = some (k + tot xs) := by
  obtain ⟨h, h2⟩ := h
  unfold Sh at h
  unfold D.W
  rw [marked_len]
  refine (loop_to (fun i => (k + tot (xs.take i), (i : Int))) xs.length (.inl (k + tot xs)) (by simp [tot]) (fun i hi => ?_) ?_).trans rfl
  · have hi' : i < (marked k xs).length := by rw [marked_len]; exact hi
    have ht := tot_take hi
    have htn : tot (xs.take (i + 1)) ≤ tot xs := by
      have := tot_app (xs.take (i + 1)) (xs.drop (i + 1))
      rw [List.take_append_drop] at this
      have := tot_nonneg (xs.drop (i + 1)); omega
    have htn0 := tot_nonneg (xs.take i)
    simp only [dlt hi, cond_true, idx_nat hi', marked_get xs k i hi, Option.bind_some, heldS_eq xs[i].length (k + tot (xs.take i)) (h2 _ (List.getElem_mem hi)) (by omega) (by omega), wi (show i < 4611686018427387904 by omega)]
    have hd : decide (k + tot (xs.take i) + (xs[i].length : Int) < 0) = false := by simp; omega
    simp only [hd, cond_false, ht]
    have : k + tot (xs.take i) + (xs[i].length : Int) = k + (tot (xs.take i) + (xs[i].length : Int)) := by omega
    rw [this]
  · simp only [dnlt, cond_false, List.take_length]
end Go.Sx



/- FnExactPathDecomp, plain: the law's own function answers true. -/
namespace Go.Sx
theorem eqDecomp_eq (a b c d : List (List Int)) (h1 : Sh2 a) (h2 : Sh2 b) : D.D a b c d = some (decide (a = c) && decide (b = d)) := by
  unfold D.D
  rw [eqSS_eq a c h1, Option.bind_some]
  cases decide (a = c)
  · rfl
  · rw [eqSS_eq b d h2, Option.bind_some]; cases decide (b = d) <;> rfl
theorem markDecomp_eq (a b : List (List Int)) (k : Int) (h1 : Sh2 a) (h2 : Sh2 b) (h0 : 0 ≤ k) (h : k + tot a + tot b ≤ 4611686018427387904) :
    D.y0 a b k = some (k + tot a + tot b, marked k a, marked (k + tot a) b) := by
  have := tot_nonneg a; have := tot_nonneg b
  unfold D.y0
  rw [markSS_eq a k h1 h0 (by omega), Option.bind_some, markSS_eq b _ h2 (by dsimp only; omega) (by dsimp only; omega)]; rfl
theorem heldDecomp_eq (a b : List (List Int)) (k : Int) (h1 : Sh2 a) (h2 : Sh2 b) (h0 : 0 ≤ k) (h : k + tot a + tot b ≤ 4611686018427387904) :
    D.R (marked k a) (marked (k + tot a) b) k = some (k + tot a + tot b) := by
  have := tot_nonneg a; have := tot_nonneg b
  unfold D.R
  rw [heldSS_eq a k h1 h0 (by omega), Option.bind_some, heldSS_eq b _ h2 (by omega) (by omega)]
  have d1 : decide (k + tot a < 0) = false := by simp; omega
  have d2 : decide (k + tot a + tot b < 0) = false := by simp; omega
  simp only [d1, d2, cond_false, Option.bind_some]

end Go.Sx

/- FnExactCliqueTree, plain: the law's own function answers true. -/
namespace Go.Sx
open Classical in
/-- a link more, where two of so many common ones are apart -/
noncomputable def stp (l : List Int) (q : Nat) (i k : Nat) (K : List (List Int)) : List (List Int) :=
  if (elems (iand .u32 (l.getD i 0) (l.getD k 0))).length = q ∧ ¬ WayP K (i : Int) (k : Int) then K ++ [mkLink (i : Int) (k : Int)] else K
noncomputable def st3 (l : List Int) (q i : Nat) (K : List (List Int)) : List (List Int) := iter (stp l q i) (i + 1) (l.length - (i + 1)) K
noncomputable def st2 (l : List Int) (q : Nat) (K : List (List Int)) : List (List Int) := iter (st3 l q) 0 l.length K
noncomputable def st1 (l : List Int) : List (List Int) := iter (fun j K => st2 l (16 - j) K) 0 17 []

theorem mkLink_lt {i k : Nat} (h : i < k) : mkLink (i : Int) (k : Int) = [(i : Int), (k : Int)] := by
  unfold mkLink
  rw [show min (i : Int) (k : Int) = i by omega, show max (i : Int) (k : Int) = k by omega]
theorem KOk.add {n i k : Nat} {K : List (List Int)} (h : KOk n K) (hik : i < k) (hk : k < n) (hw : ¬ WayP K (i : Int) (k : Int)) : KOk n (K ++ [mkLink (i : Int) (k : Int)]) := by
  have hnot : mkLink (i : Int) (k : Int) ∉ K := fun hm => hw (fun T h1 h2 => h2 _ _ h1 (.inl (by rw [mkLink_lt hik] at hm; exact hm)))
  refine ⟨?_, fun l hl => ?_⟩
  · have hp : (K ++ [mkLink (i : Int) (k : Int)]).Perm (mkLink (i : Int) (k : Int) :: K) := List.perm_append_comm
    exact hp.nodup_iff.2 (List.nodup_cons.2 ⟨hnot, h.nd⟩)
  · rcases List.mem_append.1 hl with hl | hl
    · exact h.lk l hl
    · simp at hl; subst hl
      exact ⟨i, k, mkLink_lt hik, hik, hk⟩
theorem NetL.add {A A' : List Int} {n i k : Nat} {K : List (List Int)} (h : NetL A n K) (hik : i < k) (hk : k < n) (hA : Net A' n) (hnb : ∀ u w, u < n → Sx.nb A' u w = (Sx.nb A u w || (decide (u = i) && decide (w = k)) || (decide (u = k) && decide (w = i)))) : NetL A' n (K ++ [mkLink (i : Int) (k : Int)]) := by
  refine ⟨hA, fun x y hx hy => ?_⟩
  rw [hnb x y hx, mkLink_lt hik]
  simp only [Bool.or_eq_true, Bool.and_eq_true, decide_eq_true_eq]
  rw [h.nb x y hx hy]
  unfold Lk
  simp only [List.mem_append, List.mem_singleton, List.cons.injEq, and_true, Int.natCast_inj]
  constructor
  · rintro ((h1 | h1) | ⟨h1, h2⟩)
    · exact h1.elim (fun h => .inl (.inl h)) (fun h => .inr (.inl h))
    · exact .inl (.inr h1)
    · exact .inr (.inr ⟨h2, h1⟩)
  · rintro ((h1 | h1) | (h1 | ⟨h1, h2⟩))
    · exact .inl (.inl (.inl h1))
    · exact .inl (.inr h1)
    · exact .inl (.inl (.inr h1))
    · exact .inr ⟨h2, h1⟩

theorem meet_len {s t : Int} (hs : VS s) (ht : VS t) : ((elems s).filter fun x => decide (x ∈ elems t)) = elems (iand .u32 s t) := by
  refine Inc.ext (List.Pairwise.filter _ (elems_inc s)) (elems_inc _) (fun x => ?_)
  rw [List.mem_filter, decide_eq_true_eq, mem_elems, mem_elems, mem_elems]
  constructor
  · rintro ⟨⟨v, h1, h2, rfl⟩, ⟨w, h3, h4, h5⟩⟩
    obtain rfl : v = w := by omega
    exact ⟨v, h1, by rw [has_iand hs ht, h2, h4]; rfl, rfl⟩
  · rintro ⟨v, h1, h2, rfl⟩
    rw [has_iand hs ht, Bool.and_eq_true] at h2
    exact ⟨⟨v, h1, h2.1, rfl⟩, ⟨v, h1, h2.2, rfl⟩⟩

section
variable {l : List Int} (hn : l.length ≤ 16) (hvs : ∀ s ∈ l, VS s)
include hn hvs
theorem getv {i : Nat} (hi : i < l.length) : idx l (i : Int) = some (l.getD i 0) ∧ VS (l.getD i 0) ∧ idx (l.map elems) (i : Int) = some (elems (l.getD i 0)) := by
  have e : l.getD i 0 = l[i] := getD_lt hi 0
  rw [e]
  exact ⟨idx_nat hi, hvs _ (List.getElem_mem hi), by rw [idx_nat (by simpa using hi)]; simp⟩

/-- what the program holds -/
def RelI (l : List Int) (A : List Int) (K K' : List (List Int)) : Prop := K' = K ∧ KOk l.length K ∧ NetL A l.length K
/-- what the reference holds -/
def RelS (l : List Int) (P K : List (List Int)) : Prop := KOk l.length K ∧ P.Perm K ∧ Srtd2 P

open Classical in
theorem impl_in {q i : Nat} (hi : i < l.length) (K : List (List Int)) (A : List Int) (K' : List (List Int)) (hr : RelI l A K K') :
    ∃ r, loopF (σ := (List Int) × (List (List Int)) × Int) (ρ := ((List Int) × (List (List Int)))) (fun (s_5984 : (List Int) × (List (List Int)) × Int) => match s_5984 with | (l_5987, l_5990, x_5995) => cond (decide (x_5995 < (l.length : Int))) ((idx l (i : Int)).bind fun e_6091 => (idx l x_5995).bind fun e_6097 => (D.y (iand .u32 e_6091 e_6097)).bind fun y_6103 => (cond (y_6103 == (q : Int)) ((D.n l_5987).bind fun y_6125 => (D.M l_5987 (i : Int) y_6125).bind fun y_6131 => (D.G y_6131 x_5995).bind fun y_6137 => some (!y_6137)) (some false)).bind fun b_6123 => cond b_6123 ((D.F l_5987 (i : Int) x_5995).bind fun y_6143 => (D.N (i : Int) x_5995).bind fun y_6152 => (appendD l_5990 [y_6152]).bind fun l_6167 => some (.inl (y_6143, l_6167, (IntKind.i64.wrap (x_5995 + 1))))) (some (.inl (l_5987, l_5990, (IntKind.i64.wrap (x_5995 + 1)))))) (some (.inr (l_5987, l_5990)))) (A, K', ((i + 1 : Nat) : Int)) = some r ∧ RelI l r.1 (st3 l q i K) r.2 := by
  refine loop_iter (fun K k (s : (List Int) × (List (List Int)) × Int) => s.2.2 = (k : Int) ∧ i < k ∧ RelI l s.1 K s.2.1) (stp l q i) l.length (fun K (r : (List Int) × (List (List Int))) => RelI l r.1 K r.2) ?_ ?_ (l.length - (i + 1)) (i + 1) K (A, K', ((i + 1 : Nat) : Int)) (by omega) ⟨rfl, by omega, hr⟩
  · rintro K₁ k ⟨A, K, _⟩ hk ⟨rfl, hik, rfl, hK, hA⟩
    dsimp only at hK hA ⊢
    obtain ⟨e1, v1, _⟩ := getv hn hvs hi
    obtain ⟨e2, v2, _⟩ := getv hn hvs hk
    have hlen := hK.len hn
    simp only [dlt hk, cond_true, e1, e2, Option.bind_some, size_eq (VS.iand _ _), wi (show k < 4611686018427387904 by omega)]
    unfold stp
    by_cases hq : (elems (iand .u32 (l.getD i 0) (l.getD k 0))).length = q
    · have eq : ((((elems (iand .u32 (l.getD i 0) (l.getD k 0))).length : Nat) : Int) == (q : Int)) = true := by rw [beq_iff_eq]; omega
      obtain ⟨s, e3, hs1, hs2⟩ := nets_all_eq A (by rw [hA.net.len]; omega)
      obtain ⟨S, e4, hS, hSn⟩ := reach_ok hn hA.net hi hs1
      have hway := hA.way hn hK.lk (fun y hy => by rw [hs2, hA.net.len]; exact decide_eq_true hy) hi hS hSn hk
      have hhas : D.G S (k : Int) = some (has S k) := by
        unfold D.G
        have : decide ((k : Int) < 0) = false := by simp
        rw [this, cond_false, bitAt_eq hS.vs (by omega)]
      simp only [eq, cond_true, e3, e4, Option.bind_some, hhas]
      by_cases hw : WayP K (i : Int) (k : Int)
      · have : has S k = true := hway.2 hw
        simp only [this, Bool.not_true, cond_false]
        refine ⟨_, rfl, rfl, by omega, ?_⟩
        rw [if_neg (fun h => h.2 hw)]
        exact ⟨rfl, hK, hA⟩
      · have : has S k = false := by
          cases hh : has S k
          · rfl
          · exact absurd (hway.1 hh) hw
        obtain ⟨A', e5, hA', hnb⟩ := join_net hn hA.net hi hk (by omega)
        simp only [this, Bool.not_false, cond_true, e5, Option.bind_some, sortedLink_eq]
        rw [appendD_ok (by simp; omega), Option.bind_some]
        refine ⟨_, rfl, rfl, by omega, ?_⟩
        rw [if_pos ⟨hq, hw⟩]
        exact ⟨rfl, hK.add hik hk hw, hA.add hik hk hA' hnb⟩
    · have eq : ((((elems (iand .u32 (l.getD i 0) (l.getD k 0))).length : Nat) : Int) == (q : Int)) = false := by rw [beq_eq_false_iff_ne]; omega
      simp only [eq, cond_false, Option.bind_some]
      refine ⟨_, rfl, rfl, by omega, ?_⟩
      rw [if_neg (fun h => hq h.1)]
      exact ⟨rfl, hK, hA⟩
  · rintro K ⟨A, K', _⟩ ⟨rfl, _, h⟩
    simp only [dnlt, cond_false]
    exact ⟨_, rfl, h⟩

open Classical in
theorem spec_in {q i : Nat} (hi : i < l.length) (K P : List (List Int)) (hr : RelS l P K) :
    ∃ r, loopF (σ := Int × (List (List Int))) (ρ := ((List (List Int)))) (fun (s_4724 : Int × (List (List Int))) => match s_4724 with | (x_4727, l_4728) => cond (decide (x_4727 < ((l.map elems).length : Int))) ((idx (l.map elems) (i : Int)).bind fun e_4808 => (idx (l.map elems) x_4727).bind fun e_4814 => (D.s e_4808 e_4814).bind fun y_4823 => (cond ((y_4823.length : Int) == (q : Int)) ((D.K (l.map elems) l_4728 (i : Int) x_4727).bind fun y_4847 => some (!y_4847)) (some false)).bind fun b_4845 => cond b_4845 ((D.J l_4728 (i : Int) x_4727).bind fun y_4862 => some (.inl ((IntKind.i64.wrap (x_4727 + 1)), y_4862))) (some (.inl ((IntKind.i64.wrap (x_4727 + 1)), l_4728)))) (some (.inr l_4728))) (((i + 1 : Nat) : Int), P) = some r ∧ RelS l r (st3 l q i K) := by
  refine loop_iter (fun K k (s : Int × (List (List Int))) => s.1 = (k : Int) ∧ i < k ∧ RelS l s.2 K) (stp l q i) l.length (fun K r => RelS l r K) ?_ ?_ (l.length - (i + 1)) (i + 1) K (((i + 1 : Nat) : Int), P) (by omega) ⟨rfl, by omega, hr⟩
  · rintro K k ⟨_, P⟩ hk ⟨rfl, hik, hK, hP, hs⟩
    dsimp only at hK hP hs ⊢
    obtain ⟨_, v1, e1⟩ := getv hn hvs hi
    obtain ⟨_, v2, e2⟩ := getv hn hvs hk
    have hlen := hK.len hn
    have hPl : P.length ≤ 256 := by rw [hP.length_eq]; exact hlen
    have hPk : ∀ x ∈ P, LinkIn l.length x := fun x hx => hK.lk x (hP.mem_iff.1 hx)
    have q1 := elems_len (l.getD i 0); have q2 := elems_len (l.getD k 0)
    have hd : decide ((k : Int) < ((l.map elems).length : Int)) = true := by simp; omega
    simp only [hd, cond_true, e1, e2, Option.bind_some, l8Meet_eq _ _ (show Sh (elems (l.getD i 0)) by unfold Sh; omega) (show Sh (elems (l.getD k 0)) by unfold Sh; omega), meet_len v1 v2, wi (show k < 4611686018427387904 by omega)]
    unfold stp
    by_cases hq : (elems (iand .u32 (l.getD i 0) (l.getD k 0))).length = q
    · have eq : ((((elems (iand .u32 (l.getD i 0) (l.getD k 0))).length : Nat) : Int) == (q : Int)) = true := by rw [beq_iff_eq]; omega
      simp only [eq, cond_true, l9Way_ok (l.map elems) P hn (by omega) hPk hi (k : Int), Option.bind_some]
      by_cases hw : WayP K (i : Int) (k : Int)
      · have : decide (WayP P (i : Int) (k : Int)) = true := decide_eq_true ((WayP.perm hP).2 hw)
        simp only [this, Bool.not_true, cond_false]
        refine ⟨_, rfl, rfl, by omega, ?_⟩
        rw [if_neg (fun h => h.2 hw)]
        exact ⟨hK, hP, hs⟩
      · have : decide (WayP P (i : Int) (k : Int)) = false := decide_eq_false (fun h => hw ((WayP.perm hP).1 h))
        have hadd := hK.add hik hk hw
        simp only [this, Bool.not_false, cond_true]
        rw [l9Link_eq (fun x hx => (hPk x hx).good (by omega)) ((hadd.lk _ (by simp)).good (by omega)) (by omega), Option.bind_some]
        refine ⟨_, rfl, rfl, by omega, ?_⟩
        rw [if_pos ⟨hq, hw⟩]
        refine ⟨hadd, ?_, ins_sorted _ hs⟩
        exact (ins_perm _ _).trans ((hP.cons _).trans (List.perm_append_singleton _ K).symm)
    · have eq : ((((elems (iand .u32 (l.getD i 0) (l.getD k 0))).length : Nat) : Int) == (q : Int)) = false := by rw [beq_eq_false_iff_ne]; omega
      simp only [eq, cond_false, Option.bind_some]
      refine ⟨_, rfl, rfl, by omega, ?_⟩
      rw [if_neg (fun h => hq h.1)]
      exact ⟨hK, hP, hs⟩
  · rintro K ⟨_, P⟩ ⟨rfl, _, h⟩
    have hd : decide (((l.length : Nat) : Int) < ((l.map elems).length : Int)) = false := by simp
    simp only [hd, cond_false]
    exact ⟨_, rfl, h⟩

theorem st1_ok : ∃ P, RelS l P (st1 l) ∧ sortRows (st1 l) = some P := by
  -- by the reference's way
  have hK0 : RelS l [] [] := ⟨⟨by simp, by simp⟩, List.Perm.refl _, by simp [Srtd2]⟩
  suffices h : ∃ P, RelS l P (st1 l) by
    obtain ⟨P, h⟩ := h
    have := h.1.len hn
    exact ⟨P, h, sortRows_ok (by omega) (fun x hx => (h.1.lk x hx).good (by omega)) h.2.1 h.2.2⟩
  have h1 : ∀ (q i : Nat) K P, i < l.length → RelS l P K → ∃ P', RelS l P' (st3 l q i K) := fun q i K P hi hr => by
    obtain ⟨r, _, h⟩ := spec_in hn hvs (q := q) hi K P hr
    exact ⟨r, h⟩
  have h2 : ∀ (q : Nat) (m a : Nat) K, a + m = l.length → (∃ P, RelS l P K) → ∃ P, RelS l P (iter (st3 l q) a m K) := by
    intro q m
    induction m with
    | zero => intro a K _ h; exact h
    | succ m ih =>
      intro a K ha ⟨P, h⟩
      exact ih (a + 1) _ (by omega) (h1 q a K P (by omega) h)
  have h3 : ∀ (m a : Nat) K, (∃ P, RelS l P K) → ∃ P, RelS l P (iter (fun j K => st2 l (16 - j) K) a m K) := by
    intro m
    induction m with
    | zero => intro a K h; exact h
    | succ m ih =>
      intro a K h
      exact ih (a + 1) _ (h2 _ _ 0 K (by omega) h)
  exact h3 17 0 [] ⟨[], hK0⟩
end

section
variable {g : List (List Int)} (hg : GOk g)
include hg
theorem CliqueTree_both : ∃ r : List (List Int) × List (List Int) × Bool, D.C g = some r ∧ D.w g = some r ∧ r.1.length ≤ 16 ∧ (∀ x ∈ r.1, x.length ≤ 32) ∧ r.2.1.length ≤ 256 ∧ ∀ x ∈ r.2.1, x.length = 2 := by
  obtain ⟨b, c1, c2⟩ := chordal_both hg
  obtain ⟨l, m1, m2, m3, m4, hGC⟩ := CliquesOf_all hg
  have hvs : ∀ s ∈ l, VS s := fun s hs => ((hGC.mem s).1 hs).1.1
  by_cases hb : b = true
  case neg =>
    have hb : b = false := by simpa using hb
    subst hb
    refine ⟨([], [], false), ?_, ?_, by simp, by simp, by simp, by simp⟩
    · unfold D.C
      simp only [m4, c2, Option.bind_some, Bool.not_false, Bool.true_or, cond_true]
    · unfold D.w
      simp only [c1, Option.bind_some, Bool.not_false, cond_true]
  case pos =>
    subst hb
    by_cases hn : l.length ≤ 16
    case neg =>
      have e1 : decide ((16 : Int) < (l.length : Int)) = true := by simp; omega
      have e2 : decide ((16 : Int) < ((l.map elems).length : Int)) = true := by simp; omega
      refine ⟨([], [], false), ?_, ?_, by simp, by simp, by simp, by simp⟩
      · unfold D.C
        simp only [m4, c2, Option.bind_some, Bool.not_true, Bool.false_or, e2, cond_true]
      · unfold D.w
        simp only [c1, Option.bind_some, Bool.not_true, cond_false, netsOf_eq g hg, m1, e1, cond_true]
    case pos =>
      have e1 : decide ((16 : Int) < (l.length : Int)) = false := by simp; omega
      have e2 : decide ((16 : Int) < ((l.map elems).length : Int)) = false := by simp; omega
      obtain ⟨P, hP, hsort⟩ := st1_ok hn hvs
      have hPl := hP.1.len hn
      refine ⟨(l.map elems, P, true), ?_, ?_, by simpa using hn, fun x hx => ?_, by rw [hP.2.1.length_eq]; exact hPl, fun x hx => ?_⟩
      · unfold D.C
        simp only [m4, c2, Option.bind_some, Bool.not_true, Bool.false_or, e2, cond_false]
        have key := loop_iter_bind (k := fun l_3666 => some (l.map elems, l_3666, true)) (Q := fun y => y = (l.map elems, P, true)) (step := (fun (s_2451 : Int × (List (List Int))) => match s_2451 with | (x_2457, l_2458) => cond (decide ((0 : Int) ≤ x_2457)) ((loopF (σ := Int × (List (List Int))) (ρ := ((List (List Int)))) (fun (s_4270 : Int × (List (List Int))) => match s_4270 with | (x_4273, l_4274) => cond (decide (x_4273 < ((l.map elems).length : Int))) ((loopF (σ := Int × (List (List Int))) (ρ := ((List (List Int)))) (fun (s_4724 : Int × (List (List Int))) => match s_4724 with | (x_4727, l_4728) => cond (decide (x_4727 < ((l.map elems).length : Int))) ((idx (l.map elems) x_4273).bind fun e_4808 => (idx (l.map elems) x_4727).bind fun e_4814 => (D.s e_4808 e_4814).bind fun y_4823 => (cond ((y_4823.length : Int) == x_2457) ((D.K (l.map elems) l_4728 x_4273 x_4727).bind fun y_4847 => some (!y_4847)) (some false)).bind fun b_4845 => cond b_4845 ((D.J l_4728 x_4273 x_4727).bind fun y_4862 => some (.inl ((IntKind.i64.wrap (x_4727 + 1)), y_4862))) (some (.inl ((IntKind.i64.wrap (x_4727 + 1)), l_4728)))) (some (.inr l_4728))) ((IntKind.i64.wrap (x_4273 + 1)), l_4274)).bind fun l_4801 => some (.inl ((IntKind.i64.wrap (x_4273 + 1)), l_4801))) (some (.inr l_4274))) (0, l_2458)).bind fun l_4574 => some (.inl ((IntKind.i64.wrap (x_2457 - 1)), l_4574))) (some (.inr l_2458))))
          (fun K j (s : Int × (List (List Int))) => s.1 = 16 - (j : Int) ∧ RelS l s.2 K) (fun j K => st2 l (16 - j) K) 17 (fun K r => RelS l r K) (m := 17) (a := 0) (K := []) (s := (16, [])) ?_ ?_ (by omega) ⟨rfl, ⟨by simp, by simp⟩, List.Perm.refl _, by simp [Srtd2]⟩ ?_
        · obtain ⟨y, hy, rfl⟩ := key
          exact hy
        · rintro K j ⟨_, P⟩ hj ⟨rfl, hr⟩
          dsimp only at hr ⊢
          have hd : decide ((0 : Int) ≤ 16 - (j : Int)) = true := by simp; omega
          have hq : (16 - (j : Int)) = ((16 - j : Nat) : Int) := by omega
          simp only [hd, cond_true]
          have k2 := loop_iter_bind (k := fun l_4574 => some (Sum.inl (β := List (List Int)) ((IntKind.i64.wrap ((16 - (j : Int)) - 1)), l_4574))) (Q := fun y => ∃ s', y = Sum.inl s' ∧ s'.1 = 16 - ((j + 1 : Nat) : Int) ∧ RelS l s'.2 (st2 l (16 - j) K)) (step := (fun (s_4270 : Int × (List (List Int))) => match s_4270 with | (x_4273, l_4274) => cond (decide (x_4273 < ((l.map elems).length : Int))) ((loopF (σ := Int × (List (List Int))) (ρ := ((List (List Int)))) (fun (s_4724 : Int × (List (List Int))) => match s_4724 with | (x_4727, l_4728) => cond (decide (x_4727 < ((l.map elems).length : Int))) ((idx (l.map elems) x_4273).bind fun e_4808 => (idx (l.map elems) x_4727).bind fun e_4814 => (D.s e_4808 e_4814).bind fun y_4823 => (cond ((y_4823.length : Int) == (16 - (j : Int))) ((D.K (l.map elems) l_4728 x_4273 x_4727).bind fun y_4847 => some (!y_4847)) (some false)).bind fun b_4845 => cond b_4845 ((D.J l_4728 x_4273 x_4727).bind fun y_4862 => some (.inl ((IntKind.i64.wrap (x_4727 + 1)), y_4862))) (some (.inl ((IntKind.i64.wrap (x_4727 + 1)), l_4728)))) (some (.inr l_4728))) ((IntKind.i64.wrap (x_4273 + 1)), l_4274)).bind fun l_4801 => some (.inl ((IntKind.i64.wrap (x_4273 + 1)), l_4801))) (some (.inr l_4274))))
            (fun K i (s : Int × (List (List Int))) => s.1 = (i : Int) ∧ RelS l s.2 K) (st3 l (16 - j)) l.length (fun K r => RelS l r K) (m := l.length) (a := 0) (K := K) (s := (0, P)) ?_ ?_ (by omega) ⟨rfl, hr⟩ ?_
          · obtain ⟨y, hy, s', rfl, h1, h2⟩ := k2
            exact ⟨s', hy, h1, h2⟩
          · rintro K i ⟨_, P⟩ hi ⟨rfl, hr⟩
            dsimp only at hr ⊢
            have hd : decide ((i : Int) < ((l.map elems).length : Int)) = true := by simp; omega
            obtain ⟨r, e, hr'⟩ := spec_in hn hvs (q := 16 - j) hi K P hr
            rw [← hq] at e
            simp only [hd, cond_true, wi (show i < 4611686018427387904 by omega), e, Option.bind_some]
            exact ⟨_, rfl, rfl, hr'⟩
          · rintro K ⟨_, P⟩ ⟨rfl, h⟩
            have hd : decide (((l.length : Nat) : Int) < ((l.map elems).length : Int)) = false := by simp
            simp only [hd, cond_false]
            exact ⟨_, rfl, h⟩
          · intro r hr'
            refine ⟨_, rfl, _, rfl, ?_, hr'⟩
            dsimp only
            rw [w64 (by omega) (by omega)]; omega
        · rintro K ⟨_, P⟩ ⟨rfl, h⟩
          exact ⟨P, rfl, h⟩
        · intro r hr
          refine ⟨_, rfl, ?_⟩
          have : r = P := sorted_eq (hr.2.1.trans hP.2.1.symm) (fun x hx => (hP.1.lk x (hP.2.1.mem_iff.1 hx)).good (by omega)) hr.2.2 hP.2.2
          rw [this]
      · unfold D.w
        simp only [c1, Option.bind_some, Bool.not_true, cond_false, netsOf_eq g hg, m1, e1]
        rw [makeD_ok (by omega) (by omega), Option.bind_some]
        have hA0 : NetL (List.replicate l.length 0) l.length [] := by
          have hz : ∀ u, (List.replicate l.length (0 : Int)).getD u 0 = 0 := fun u => by
            rw [List.getD_eq_getElem?_getD, List.getElem?_replicate]; split <;> rfl
          refine ⟨⟨by simp, fun u _ => by rw [hz]; exact VS.zero, fun u w _ h => by unfold nb at h; rw [hz, has_zero] at h; cases h⟩, fun x y _ _ => ?_⟩
          unfold nb Lk
          rw [hz, has_zero]; simp
        have key := loop_iter_bind (k := fun l_4649 => (sortRows l_4649).bind fun y_6173 => (D.a0 l).bind fun y_6182 => some (y_6182, y_6173, true)) (Q := fun y => y = (l.map elems, P, true)) (step := (fun (s_3117 : (List Int) × (List (List Int)) × Int) => match s_3117 with | (l_3120, l_3123, x_3128) => cond (decide ((0 : Int) ≤ x_3128)) ((loopF (σ := (List Int) × (List (List Int)) × Int) (ρ := ((List Int) × (List (List Int)))) (fun (s_5410 : (List Int) × (List (List Int)) × Int) => match s_5410 with | (l_5413, l_5416, x_5421) => cond (decide (x_5421 < (l.length : Int))) ((loopF (σ := (List Int) × (List (List Int)) × Int) (ρ := ((List Int) × (List (List Int)))) (fun (s_5984 : (List Int) × (List (List Int)) × Int) => match s_5984 with | (l_5987, l_5990, x_5995) => cond (decide (x_5995 < (l.length : Int))) ((idx l x_5421).bind fun e_6091 => (idx l x_5995).bind fun e_6097 => (D.y (iand .u32 e_6091 e_6097)).bind fun y_6103 => (cond (y_6103 == x_3128) ((D.n l_5987).bind fun y_6125 => (D.M l_5987 x_5421 y_6125).bind fun y_6131 => (D.G y_6131 x_5995).bind fun y_6137 => some (!y_6137)) (some false)).bind fun b_6123 => cond b_6123 ((D.F l_5987 x_5421 x_5995).bind fun y_6143 => (D.N x_5421 x_5995).bind fun y_6152 => (appendD l_5990 [y_6152]).bind fun l_6167 => some (.inl (y_6143, l_6167, (IntKind.i64.wrap (x_5995 + 1))))) (some (.inl (l_5987, l_5990, (IntKind.i64.wrap (x_5995 + 1)))))) (some (.inr (l_5987, l_5990)))) (l_5413, l_5416, (IntKind.i64.wrap (x_5421 + 1)))).bind fun (l_6081, l_6084) => some (.inl (l_6081, l_6084, (IntKind.i64.wrap (x_5421 + 1))))) (some (.inr (l_5413, l_5416)))) (l_3120, l_3123, 0)).bind fun (l_5794, l_5797) => some (.inl (l_5794, l_5797, (IntKind.i64.wrap (x_3128 - 1))))) (some (.inr l_3123))))
          (fun K j (s : (List Int) × (List (List Int)) × Int) => s.2.2 = 16 - (j : Int) ∧ RelI l s.1 K s.2.1) (fun j K => st2 l (16 - j) K) 17 (fun K r => r = K) (m := 17) (a := 0) (K := []) (s := (List.replicate l.length 0, [], 16)) ?_ ?_ (by omega) ⟨rfl, rfl, ⟨by simp, by simp⟩, hA0⟩ ?_
        · obtain ⟨y, hy, rfl⟩ := key
          exact hy
        · rintro K j ⟨A, K', _⟩ hj ⟨rfl, hr⟩
          dsimp only at hr ⊢
          have hd : decide ((0 : Int) ≤ 16 - (j : Int)) = true := by simp; omega
          have hq : (16 - (j : Int)) = ((16 - j : Nat) : Int) := by omega
          simp only [hd, cond_true]
          have k2 := loop_iter_bind (k := fun (x : List Int × List (List Int)) => match x with | (l_5794, l_5797) => some (Sum.inl (β := List (List Int)) (l_5794, l_5797, (IntKind.i64.wrap ((16 - (j : Int)) - 1))))) (Q := fun y => ∃ s', y = Sum.inl s' ∧ s'.2.2 = 16 - ((j + 1 : Nat) : Int) ∧ RelI l s'.1 (st2 l (16 - j) K) s'.2.1) (step := (fun (s_5410 : (List Int) × (List (List Int)) × Int) => match s_5410 with | (l_5413, l_5416, x_5421) => cond (decide (x_5421 < (l.length : Int))) ((loopF (σ := (List Int) × (List (List Int)) × Int) (ρ := ((List Int) × (List (List Int)))) (fun (s_5984 : (List Int) × (List (List Int)) × Int) => match s_5984 with | (l_5987, l_5990, x_5995) => cond (decide (x_5995 < (l.length : Int))) ((idx l x_5421).bind fun e_6091 => (idx l x_5995).bind fun e_6097 => (D.y (iand .u32 e_6091 e_6097)).bind fun y_6103 => (cond (y_6103 == (16 - (j : Int))) ((D.n l_5987).bind fun y_6125 => (D.M l_5987 x_5421 y_6125).bind fun y_6131 => (D.G y_6131 x_5995).bind fun y_6137 => some (!y_6137)) (some false)).bind fun b_6123 => cond b_6123 ((D.F l_5987 x_5421 x_5995).bind fun y_6143 => (D.N x_5421 x_5995).bind fun y_6152 => (appendD l_5990 [y_6152]).bind fun l_6167 => some (.inl (y_6143, l_6167, (IntKind.i64.wrap (x_5995 + 1))))) (some (.inl (l_5987, l_5990, (IntKind.i64.wrap (x_5995 + 1)))))) (some (.inr (l_5987, l_5990)))) (l_5413, l_5416, (IntKind.i64.wrap (x_5421 + 1)))).bind fun (l_6081, l_6084) => some (.inl (l_6081, l_6084, (IntKind.i64.wrap (x_5421 + 1))))) (some (.inr (l_5413, l_5416)))))
            (fun K i (s : (List Int) × (List (List Int)) × Int) => s.2.2 = (i : Int) ∧ RelI l s.1 K s.2.1) (st3 l (16 - j)) l.length (fun K r => RelI l r.1 K r.2) (m := l.length) (a := 0) (K := K) (s := (A, K', 0)) ?_ ?_ (by omega) ⟨rfl, hr⟩ ?_
          · obtain ⟨y, hy, s', rfl, h1, h2⟩ := k2
            exact ⟨s', hy, h1, h2⟩
          · rintro K i ⟨A, K', _⟩ hi ⟨rfl, hr⟩
            dsimp only at hr ⊢
            obtain ⟨r, e, hr'⟩ := impl_in hn hvs (q := 16 - j) hi K A K' hr
            rw [← hq] at e
            simp only [dlt hi, cond_true, wi (show i < 4611686018427387904 by omega), e, Option.bind_some]
            exact ⟨_, rfl, rfl, hr'⟩
          · rintro K ⟨A, K', _⟩ ⟨rfl, h⟩
            simp only [dnlt, cond_false]
            exact ⟨_, rfl, h⟩
          · rintro ⟨A, K''⟩ hr'
            refine ⟨_, rfl, _, rfl, ?_, hr'⟩
            dsimp only
            rw [w64 (by omega) (by omega)]; omega
        · rintro K ⟨A, K', _⟩ ⟨rfl, h⟩
          exact ⟨K', rfl, h.1⟩
        · rintro r rfl
          show ∃ y, (sortRows (st1 l)).bind _ = some y ∧ _
          rw [hsort, Option.bind_some, results_eq l (by unfold Sh; omega) hvs, Option.bind_some]
          exact ⟨_, rfl, rfl⟩
      · obtain ⟨s, _, rfl⟩ := List.mem_map.1 hx
        exact elems_len s
      · obtain ⟨a, b, rfl, _⟩ := hP.1.lk x (hP.2.1.mem_iff.1 hx)
        rfl
end

theorem CliqueTree_all (g : List (List Int)) (h1 : Sh2 g) : ∃ r : List (List Int) × List (List Int) × Bool, D.C g = some r ∧ D.w g = some r ∧ Sh2 r.1 ∧ Sh2 r.2.1 ∧ tot r.1 ≤ 4294967296 ∧ tot r.2.1 ≤ 4294967296 := by
  cases hb : gB g
  · refine ⟨([], [], false), ?_, ?_, ⟨by simp [Sh], by simp⟩, ⟨by simp [Sh], by simp⟩, by simp [tot], by simp [tot]⟩
    · unfold D.C D.j0 D.k0 D.G0
      rw [spec_GraphOk_eq g h1, hb]; rfl
    · unfold D.w D.m0
      rw [impl_GraphOk_eq g h1, hb]; rfl
  · obtain ⟨r, e1, e2, k1, k2, k3, k4⟩ := CliqueTree_both ((gB_iff g).1 hb)
    have t1 := tot_le (xs := r.1) (n := 32) (fun x hx => by have := k2 x hx; omega)
    have t2 := tot_le (xs := r.2.1) (n := 2) (fun x hx => by have := k4 x hx; omega)
    exact ⟨r, e1, e2, Sh2.of_tot (by unfold Sh; omega) (by omega), Sh2.of_tot (by unfold Sh; omega) (by omega), by omega, by omega⟩

theorem FnExactCliqueTree_true (g : List (List Int)) (hx : (g.length : Int) ≤ 9223372036854775807) (hx2 : ∀ x ∈ g, (x.length : Int) ≤ 9223372036854775807) : D.d1 g = some true := by
  unfold D.d1
  obtain ⟨y, e, hy⟩ := szGraph_eq g 1048576 hx hx2 (by omega) (by omega)
  rw [e, Option.bind_some]
  rcases hy with hy | ⟨hy, hy0⟩
  · simp only [hy, decide_true, cond_true]
  · have hd : decide (y < 0) = false := by simp; omega
    have htn := tot_nonneg g
    have h1 : Sh2 g := Sh2.of_tot (by unfold Sh; omega) (by omega)
    obtain ⟨r, f1, f2, r1, r2, r3, r4⟩ := CliqueTree_all g h1
    have n1 := tot_nonneg r.1; have n2 := tot_nonneg r.2.1
    simp only [hd, cond_false, toGraph_eq g h1, f1, f2, Option.bind_some, eqDecomp_eq _ _ _ _ r1 r2, decide_true, Bool.and_self, Bool.not_true, bne_self_eq_false, Bool.or_false,
      eqGraph_eq g g h1, markGraph_eq g 1 h1 (by omega) (by omega)]
    have d1 : decide (1 + tot g < 0) = false := by simp; omega
    have d2 : decide (1 + tot r.1 + tot r.2.1 < 0) = false := by simp; omega
    simp only [Option.bind_some, d1, cond_false, markDecomp_eq r.1 r.2.1 1 r1 r2 (by omega) (by omega), heldDecomp_eq r.1 r.2.1 1 r1 r2 (by omega) (by omega), d2, bne_self_eq_false]
end Go.Sx
