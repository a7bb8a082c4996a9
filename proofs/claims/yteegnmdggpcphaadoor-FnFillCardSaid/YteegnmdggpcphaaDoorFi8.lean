/- Parts of the proof: Se, Sf. -/
import Derived.Test.YteegnmdggpcphaaDoorFi7
set_option linter.unusedVariables false
set_option linter.unusedSimpArgs false
set_option linter.unusedSectionVars false
/- Who is left, cliques, and the reference's perfect orders, where there is one. Plain. -/
namespace Go.Sx
theorem least_of {P : Nat → Prop} (h : ∃ j, P j) : ∃ j, P j ∧ ∀ i, i < j → ¬ P i := by
  obtain ⟨j, hj⟩ := h
  induction j using Nat.strongRecOn with
  | ind j ih =>
    by_cases hc : ∃ i, i < j ∧ P i
    · obtain ⟨i, h1, h2⟩ := hc; exact ih i h1 h2
    · exact ⟨j, hj, fun i hi hp => hc ⟨i, hi, hp⟩⟩

theorem take_filter_succ {α : Type} (p : α → Bool) {l : List α} {i : Nat} (hi : i < l.length) : (l.take (i + 1)).filter p = (l.take i).filter p ++ (if p l[i] then [l[i]] else []) := by
  rw [List.take_succ_eq_append_getElem hi, List.filter_append]
  congr 1
  rw [List.filter_cons, List.filter_nil]

def lft (g : List (List Int)) (v : Nat) (gone : List Bool) : List Int := (row g v).filter fun x => !gone.getD x.toNat false
theorem l7Left_eq (g : List (List Int)) (hg : GOk g) {v : Nat} (hv : v < g.length) (gone : List Bool) (hl : gone.length = g.length) : D.spec_l7Left g (v : Int) gone = some (lft g v gone) := by
  have hr := hg.row_len hv
  unfold D.spec_l7Left lft
  refine (loop_to (fun i => (((row g v).take i).filter (fun x => !gone.getD x.toNat false), (i : Int))) (row g v).length ((row g v).filter fun x => !gone.getD x.toNat false) (by simp) (fun i hi => ?_) ?_).trans rfl
  · obtain ⟨w, e1, h1, _⟩ := hg.mem hv (List.getElem_mem hi)
    have hlen : (((row g v).take i).filter (fun x => !gone.getD x.toNat false)).length ≤ 16 := Nat.le_trans (List.length_filter_le _ _) (by simp; omega)
    simp only [idx_row hv, Option.bind_some, dlt hi, cond_true, idx_nat hi, e1, idx_nat (show w < gone.length by omega), wi (show i < 4611686018427387904 by omega)]
    have e3 := take_filter_succ (fun x : Int => !gone.getD x.toNat false) hi
    rw [e1] at e3
    simp only [Int.toNat_natCast, getD_lt (show w < gone.length by omega)] at e3
    rw [e3]
    cases hc : gone[w]
    · rw [Bool.not_false, cond_true, appendD_ok (by rw [List.length_singleton]; omega), Option.bind_some]; rfl
    · rw [Bool.not_true, cond_false]; simp
  · simp only [idx_row hv, Option.bind_some, dnlt, cond_false, List.take_length]

theorem l1Edge_eq (g : List (List Int)) (hg : GOk g) {u : Nat} (hu : u < g.length) (w : Int) : D.spec_l1Edge g (u : Int) w = some (decide (w ∈ row g u)) := by
  unfold D.spec_l1Edge
  rw [idx_row hu, Option.bind_some, l1Has_eq _ _ (hg.sh2.row hu)]; rfl

/-- all pairs of a list are neighbours -/
def Clq (g : List (List Int)) (l : List Int) (n : Nat) : Prop := ∀ i k, i < n → k < i → adj g (l.getD k 0).toNat (l.getD i 0).toNat
theorem l7Missing_ok (g : List (List Int)) (hg : GOk g) (l : List Int) (hl : l.length ≤ 16) (hr : ∀ x ∈ l, 0 ≤ x ∧ x < g.length) :
    ∃ y, D.spec_l7Missing g l = some y ∧ (0 ≤ y ∧ y ≤ 256 ∧ (y = 0 ↔ Clq g l l.length)) := by
  unfold D.spec_l7Missing
  refine loop_then (fun s => ∃ i : Nat, s.2 = (i : Int) ∧ i ≤ l.length ∧ 0 ≤ s.1 ∧ s.1 ≤ 16 * i ∧ (s.1 = 0 ↔ Clq g l i)) (fun s => l.length - s.2.toNat) (fun r => 0 ≤ r ∧ r ≤ 256 ∧ (r = 0 ↔ Clq g l l.length)) ?_ ⟨0, rfl, by omega, by simp, by simp, by simp [Clq]⟩ (fun r h => ⟨r, rfl, h⟩)
  rintro ⟨m, _⟩ ⟨i, rfl, hi, h0, h1, h2⟩
  dsimp only at h0 h1 h2 ⊢
  by_cases hlt : i < l.length
  · simp only [dlt hlt, cond_true]
    refine loop_then (fun s => ∃ k : Nat, s.2 = (k : Int) ∧ k ≤ i ∧ 0 ≤ s.1 ∧ s.1 ≤ 16 * i + k ∧ (s.1 = 0 ↔ (Clq g l i ∧ ∀ k', k' < k → adj g (l.getD k' 0).toNat (l.getD i 0).toNat))) (fun s => i - s.2.toNat)
      (fun r => 0 ≤ r ∧ r ≤ 16 * i + i ∧ (r = 0 ↔ Clq g l (i + 1))) ?_ ⟨0, rfl, by omega, h0, by omega, by simpa using h2⟩ ?_
    · rintro ⟨m, _⟩ ⟨k, rfl, hk, h0, h1, h2⟩
      dsimp only at h0 h1 h2 ⊢
      by_cases hkl : k < i
      · have hkk : k < l.length := by omega
        have r1 := hr _ (List.getElem_mem hkk)
        obtain ⟨a, ea⟩ : ∃ a : Nat, l[k] = (a : Int) := ⟨l[k].toNat, by omega⟩
        have r2 := hr _ (List.getElem_mem hlt)
        obtain ⟨b, eb⟩ : ∃ b : Nat, l[i] = (b : Int) := ⟨l[i].toNat, by omega⟩
        have hA : adj g (l.getD k 0).toNat (l.getD i 0).toNat ↔ (b : Int) ∈ row g a := by
          rw [getD_lt hkk, getD_lt hlt, ea, eb]; rfl
        simp only [dlt hkl, cond_true, idx_nat hkk, idx_nat hlt, Option.bind_some, ea, eb, l1Edge_eq g hg (show a < g.length by omega), wi (show k < 4611686018427387904 by omega)]
        have hsplit : (∀ k', k' < k + 1 → adj g (l.getD k' 0).toNat (l.getD i 0).toNat) ↔ ((∀ k', k' < k → adj g (l.getD k' 0).toNat (l.getD i 0).toNat) ∧ (b : Int) ∈ row g a) := by
          rw [← hA]
          constructor
          · intro h; exact ⟨fun k' hk' => h k' (by omega), h k (by omega)⟩
          · rintro ⟨h3, h4⟩ k' hk'
            rcases Nat.lt_or_ge k' k with hc | hc
            · exact h3 k' hc
            · obtain rfl : k' = k := by omega
              exact h4
        by_cases hm : (b : Int) ∈ row g a
        · simp only [decide_eq_true hm, Bool.not_true, cond_false]
          refine ⟨_, rfl, ⟨k + 1, rfl, by omega, h0, by dsimp only; omega, ?_⟩, by dsimp only; omega⟩
          dsimp only
          rw [hsplit, h2]
          exact ⟨fun ⟨p, q⟩ => ⟨p, q, hm⟩, fun ⟨p, q, _⟩ => ⟨p, q⟩⟩
        · simp only [decide_eq_false hm, Bool.not_false, cond_true]
          rw [w64 (show (-9223372036854775808 : Int) ≤ m + 1 by omega) (by omega)]
          refine ⟨_, rfl, ⟨k + 1, rfl, by omega, by dsimp only; omega, by dsimp only; omega, ?_⟩, by dsimp only; omega⟩
          dsimp only
          rw [hsplit]
          constructor
          · intro h; omega
          · rintro ⟨_, _, h⟩; exact absurd h hm
      · obtain rfl : k = i := by omega
        simp only [dnlt, cond_false]
        refine ⟨_, rfl, h0, by omega, ?_⟩
        rw [h2]
        constructor
        · rintro ⟨h3, h4⟩ i' k' hi' hk'
          rcases Nat.lt_or_ge i' k with hc | hc
          · exact h3 i' k' hc hk'
          · obtain rfl : i' = k := by omega
            exact h4 k' hk'
        · intro h
          exact ⟨fun i' k' hi' hk' => h i' k' (by omega) hk', fun k' hk' => h k k' (by omega) hk'⟩
    · rintro m ⟨h3, h4, h5⟩
      rw [wi (show i < 4611686018427387904 by omega)]
      exact ⟨_, rfl, ⟨i + 1, rfl, by omega, h3, by dsimp only; omega, h5⟩, by dsimp only; omega⟩
  · obtain rfl : i = l.length := by omega
    simp only [dnlt, cond_false]
    exact ⟨_, rfl, h0, by omega, h2⟩

theorem l8Clique_ok (g : List (List Int)) (hg : GOk g) (l : List Int) (hl : l.length ≤ 16) (hr : ∀ x ∈ l, 0 ≤ x ∧ x < g.length) : ∃ b, D.spec_l8Clique g l = some b ∧ (b = true ↔ Clq g l l.length) := by
  obtain ⟨y, e, _, _, h⟩ := l7Missing_ok g hg l hl hr
  unfold D.spec_l8Clique
  rw [e, Option.bind_some]
  exact ⟨_, rfl, by rw [beq_iff_eq]; exact h⟩

theorem lft_len {g : List (List Int)} (hg : GOk g) {v : Nat} (hv : v < g.length) (gone : List Bool) : (lft g v gone).length ≤ 16 := Nat.le_trans (List.length_filter_le _ _) (hg.row_len hv)
theorem lft_rng {g : List (List Int)} (hg : GOk g) {v : Nat} (hv : v < g.length) (gone : List Bool) : ∀ x ∈ lft g v gone, 0 ≤ x ∧ x < g.length := fun x hx => (hg.rows v hv).2 x (List.mem_filter.1 hx).1
theorem lft_inc {g : List (List Int)} (hg : GOk g) {v : Nat} (hv : v < g.length) (gone : List Bool) : Inc (lft g v gone) := List.Pairwise.filter _ (hg.rows v hv).1

/-- in words of the graph -/
def PEOg (g : List (List Int)) (o : List Int) : Prop := ∀ (j : Nat) (v u w : Nat), o[j]? = some (v : Int) → adj g v u → adj g v w → (u : Int) ∉ o.take (j + 1) → (w : Int) ∉ o.take (j + 1) → u ≠ w → adj g u w

theorem clq_of {g : List (List Int)} (hg : GOk g) {l : List Int} (hi : Inc l) (hr : ∀ x ∈ l, 0 ≤ x ∧ x < g.length) (h : ∀ u w : Nat, (u : Int) ∈ l → (w : Int) ∈ l → u ≠ w → adj g u w) : Clq g l l.length := by
  intro i k hil hki
  have hkl : k < l.length := by omega
  have r1 := hr _ (List.getElem_mem hkl); have r2 := hr _ (List.getElem_mem hil)
  have h3 := List.pairwise_iff_getElem.1 hi k i hkl hil hki
  rw [getD_lt hkl, getD_lt hil]
  refine h _ _ ?_ ?_ (by omega)
  · rw [show ((l[k].toNat : Nat) : Int) = l[k] by omega]; exact List.getElem_mem hkl
  · rw [show ((l[i].toNat : Nat) : Int) = l[i] by omega]; exact List.getElem_mem hil

theorem PerfectOrder_true {g : List (List Int)} {o : List Int} (hg : GOk g) (ho : OOk g o) (hp : PEOg g o) : ∃ out, D.spec_PerfectOrder g = some (out, true) := by
  have h16 := hg.n16
  unfold D.spec_PerfectOrder D.spec_l1Size
  rw [spec_GraphOk_eq g hg.sh2, gB_true hg]
  simp only [Option.bind_some, Bool.not_true, cond_false]
  rw [makeD_ok (by omega) (by omega), Option.bind_some]
  have key := loop_then (ρ := (List Int) ⊕ (List Int × Bool)) (k := fun zz => match zz with | .inl l_784 => (some (l_784, true)) | .inr z => (some z)) (Q := fun y : List Int × Bool => y.2 = true) (step := (fun (s_529 : (List Bool) × (List Int)) => match s_529 with | (l_532, l_535) => cond (decide ((l_535.length : Int) < (g.length : Int))) ((loopF (σ := Int) (ρ := (Int)) (fun (x_903 : Int) => cond (decide (x_903 < (g.length : Int))) ((idx l_532 x_903).bind fun e_960 => cond e_960 (some (.inl (IntKind.i64.wrap (x_903 + 1)))) ((D.spec_l7Left g x_903 l_532).bind fun y_970 => (D.spec_l8Clique g y_970).bind fun y_987 => cond (!y_987) (some (.inl (IntKind.i64.wrap (x_903 + 1)))) (some (.inr x_903)))) (some (.inr x_903))) 0).bind fun x_954 => cond (x_954 == (g.length : Int)) (some (.inr (.inr (([] : List Int), false)))) ((idx l_532 x_954).bind fun e_1016 => (appendD l_535 ([x_954] : List Int)).bind fun l_1026 => some (.inl ((l_532.set (Int.toNat x_954) true), l_1026)))) (some (.inr (.inl l_535))))) (s := (List.replicate g.length false, []))
    (fun s => s.1.length = g.length ∧ s.2.length ≤ g.length ∧ s.2.Nodup ∧ ∀ v, v < g.length → (s.1.getD v false = true ↔ (v : Int) ∈ s.2)) (fun s => g.length - s.2.length) (fun r => ∃ l, r = .inl l) ?_ ?_ ?_
  · obtain ⟨⟨a, b⟩, h1, h2⟩ := key
    dsimp only at h2
    subst h2
    exact ⟨a, h1⟩
  · rintro ⟨gone, out⟩ ⟨hgl, hol, hnd, hm⟩
    dsimp only at hgl hol hnd hm ⊢
    by_cases hlt : out.length < g.length
    · simp only [dlt hlt, cond_true]
      -- the first of the order that is left
      obtain ⟨j, hj, hjm⟩ := least_of (P := fun j => ∃ h : j < o.length, o[j] ∉ out) (by
        apply Classical.byContradiction
        intro hc
        have hsub : ∀ x ∈ o, x ∈ out := fun x hx => by
          obtain ⟨i, hi, rfl⟩ := List.getElem_of_mem hx
          apply Classical.byContradiction
          intro hn
          exact hc ⟨i, hi, hn⟩
        have := nodup_le ho.nd hsub
        have := ho.len
        omega)
      obtain ⟨hjl, hjo⟩ := hj
      have hor := ho.rng _ (List.getElem_mem hjl)
      obtain ⟨t, et⟩ : ∃ t : Nat, o[j] = (t : Int) := ⟨o[j].toNat, by omega⟩
      have htn : t < g.length := by omega
      rw [et] at hjo
      have htake : ∀ x ∈ o.take j, x ∈ out := fun x hx => by
        obtain ⟨i, hi, hij, rfl⟩ := mem_take_iff.1 hx
        apply Classical.byContradiction
        intro hn
        exact hjm i hij ⟨hi, hn⟩
      have hclq : Clq g (lft g t gone) (lft g t gone).length := by
        refine clq_of hg (lft_inc hg htn _) (lft_rng hg htn _) (fun u w hu hw hne => ?_)
        have hin : ∀ x : Nat, (x : Int) ∈ lft g t gone → adj g t x ∧ (x : Int) ∉ o.take (j + 1) := fun x hx => by
          obtain ⟨h1, h2⟩ := List.mem_filter.1 hx
          have hxn := hg.lt htn (show adj g t x from h1)
          refine ⟨h1, fun hxt => ?_⟩
          rw [List.take_succ_eq_append_getElem hjl, List.mem_append, et] at hxt
          rcases hxt with hxt | hxt
          · have := (hm x hxn).2 (htake _ hxt)
            rw [Int.toNat_natCast, this] at h2; cases h2
          · have : x = t := by
              have : (x : Int) = (t : Int) := by simpa using hxt
              omega
            subst this
            exact hg.irr x htn h1
        obtain ⟨a1, a2⟩ := hin u hu
        obtain ⟨b1, b2⟩ := hin w hw
        exact hp j t u w (by rw [List.getElem?_eq_getElem hjl, et]) a1 b1 a2 b2 hne
      have htf : gone.getD t false = false := by
        cases hc : gone.getD t false
        · rfl
        · exact absurd ((hm t htn).1 hc) hjo
      refine loop_then (fun x => ∃ v : Nat, x = (v : Int) ∧ v ≤ t) (fun x => g.length - x.toNat) (fun r => ∃ v : Nat, r = (v : Int) ∧ v < g.length ∧ (v : Int) ∉ out) ?_ ⟨0, rfl, by omega⟩ ?_
      · rintro _ ⟨v, rfl, hv⟩
        have hvn : v < g.length := by omega
        simp only [dlt hvn, cond_true, idx_nat (show v < gone.length by omega), Option.bind_some, wi (show v < 4611686018427387904 by omega)]
        have hgv : gone[v]'(by omega) = gone.getD v false := (getD_lt (by omega) _).symm
        cases hc : gone[v]'(by omega)
        · rw [cond_false, l7Left_eq g hg hvn gone hgl, Option.bind_some]
          obtain ⟨b, e1, h1⟩ := l8Clique_ok g hg (lft g v gone) (lft_len hg hvn _) (lft_rng hg hvn _)
          rw [e1, Option.bind_some]
          cases b
          · rw [Bool.not_false, cond_true]
            refine ⟨_, rfl, ⟨v + 1, rfl, ?_⟩, by simp; omega⟩
            rcases Nat.lt_or_ge v t with h | h
            · omega
            · obtain rfl : v = t := by omega
              exact absurd (h1.2 hclq) (by simp)
          · rw [Bool.not_true, cond_false]
            refine ⟨_, rfl, v, rfl, hvn, fun hmo => ?_⟩
            have := (hm v hvn).2 hmo
            rw [← hgv, hc] at this
            cases this
        · rw [cond_true]
          refine ⟨_, rfl, ⟨v + 1, rfl, ?_⟩, by simp; omega⟩
          rcases Nat.lt_or_ge v t with h | h
          · omega
          · obtain rfl : v = t := by omega
            rw [hgv, htf] at hc; cases hc
      · rintro _ ⟨v, rfl, hvn, hvo⟩
        have e1 : (((v : Nat) : Int) == (g.length : Int)) = false := by simp; omega
        rw [e1, cond_false, idx_nat (show v < gone.length by omega), Option.bind_some, appendD_ok (by simp; omega), Option.bind_some]
        refine ⟨_, rfl, ⟨by simp [hgl], by simp; omega, ?_, fun x hx => ?_⟩, by simp; omega⟩
        · rw [List.nodup_append]
          exact ⟨hnd, by simp, fun a ha b hb => by simp at hb; subst hb; exact fun e => hvo (e ▸ ha)⟩
        · rw [Int.toNat_natCast, List.mem_append, List.mem_singleton]
          by_cases hxv : x = v
          · subst hxv; simp [List.getD_eq_getElem?_getD, hgl, hx]
          · have : (gone.set v true).getD x false = gone.getD x false := by
              simp only [List.getD_eq_getElem?_getD, List.getElem?_set]
              rw [if_neg (fun e => hxv e.symm)]
            rw [this, hm x hx]
            exact ⟨.inl, fun h => h.elim id (fun e => absurd (by omega) hxv)⟩
    · have e1 : decide ((out.length : Int) < (g.length : Int)) = false := by simp; omega
      rw [e1, cond_false]
      exact ⟨_, rfl, _, rfl⟩
  · refine ⟨by simp, by simp, by simp, fun v hv => ?_⟩
    simp [List.getD_eq_getElem?_getD, List.getElem?_replicate, hv]
  · rintro _ ⟨l, rfl⟩
    exact ⟨_, rfl, rfl⟩

theorem ChordalIn_true {g : List (List Int)} {o : List Int} (hg : GOk g) (ho : OOk g o) (hp : PEOg g o) : D.spec_ChordalIn g = some true := by
  obtain ⟨out, e⟩ := PerfectOrder_true hg ho hp
  unfold D.spec_ChordalIn
  rw [e]; rfl
end Go.Sx

/- 'laws.FnFill' comes to true. Plain. -/
namespace Go.Sx
theorem slices_Equal_self (x : List Int) (h : Sh x) : D.slices_Equal_int64_int64 x x = some true := by
  unfold Sh at h
  unfold D.slices_Equal_int64_int64
  have e : ((x.length : Int) != (x.length : Int)) = false := by simp
  rw [e, cond_false]
  refine (loop_allb x.length (fun _ => true) false (fun i hi => ?_) ?_ rfl rfl).trans (by simp)
  · simp only [dlt hi, cond_true, idx_nat hi, Option.bind_some, wi' hi (by omega)]
    simp
  · simp only [dnlt, cond_false]
theorem EqualFunc_self (g : List (List Int)) (h : Sh2 g) : D.slices_EqualFunc_int64_int64_int64_int64__slices_Equal_int64_int64 g g = some true := by
  have hl : g.length ≤ 4294967296 := h.1
  unfold D.slices_EqualFunc_int64_int64_int64_int64__slices_Equal_int64_int64
  have e : ((g.length : Int) != (g.length : Int)) = false := by simp
  rw [e, cond_false]
  refine (loop_allb g.length (fun _ => true) false (fun i hi => ?_) ?_ rfl rfl).trans (by simp)
  · simp only [dlt hi, cond_true, idx_nat hi, Option.bind_some, wi' hi (by omega), slices_Equal_self _ (h.2 _ (List.getElem_mem hi)), Bool.not_true, cond_false, if_true]
  · simp only [dnlt, cond_false]
theorem SameGraph_self {g : List (List Int)} (hg : GOk g) : D.impl_SameGraph g g = some true := by
  unfold D.impl_SameGraph
  rw [impl_GraphOk_eq g hg.sh2, gB_true hg]
  simp only [Option.bind_some, cond_true, EqualFunc_self g hg.sh2]

theorem l1There_eq {g : List (List Int)} (hg : GOk g) {u : Nat} (hu : u < g.length) : D.spec_l1There g (u : Int) = some true := by
  have := hg.n16
  unfold D.spec_l1There D.spec_l1Size
  simp only [Option.bind_some, l1In_eq]
  rw [w64 (by omega) (by omega)]
  simp; omega
theorem spec_EdgeIn_true {g : List (List Int)} (hg : GOk g) {u v : Nat} (hu : u < g.length) (ha : adj g u v) : D.spec_EdgeIn g (u : Int) (v : Int) = some true := by
  unfold D.spec_EdgeIn
  rw [spec_GraphOk_eq g hg.sh2, gB_true hg]
  simp only [Option.bind_some, cond_true, l1There_eq hg hu, l1There_eq hg (hg.lt hu ha), l1Edge_eq g hg hu]
  rw [decide_eq_true (show (v : Int) ∈ row g u from ha)]

def maxsz (L : List Int) : Int := L.foldl (fun s x => if s < ((elems x).length : Int) then ((elems x).length : Int) else s) 0
theorem widthOf_eq {a o F L : List Int} (h : D.impl_elimination a o = some (F, L)) (hl : L.length ≤ 16) (hv : ∀ s ∈ L, VS s) : D.impl_widthOf a o = some (maxsz L) := by
  unfold D.impl_widthOf
  rw [h, Option.bind_some]
  refine (loop_listb L (fun s i => (s, i)) (fun s x => if s < ((elems x).length : Int) then ((elems x).length : Int) else s) (fun s => s) (fun _ => True) 0 trivial (fun s i hi _ => ⟨?_, trivial⟩) (fun s _ => ?_)).trans rfl
  · simp only [dlt hi, cond_true, idx_nat hi, Option.bind_some, wi (show i < 4611686018427387904 by omega), size_eq (hv _ (List.getElem_mem hi))]
  · simp only [dnlt, cond_false]
theorem Fill.vsm {g : List (List Int)} {o F L : List Int} (h : Fill g o F L) : ∀ s ∈ L, VS s := fun s hs => by
  obtain ⟨i, hi, rfl⟩ := List.getElem_of_mem hs
  have := h.vsL i (by rw [← h.lenL]; exact hi)
  rwa [getD_lt hi] at this
theorem Fill.width {g : List (List Int)} {o F L : List Int} (hg : GOk g) (ho : OOk g o) (h : Fill g o F L) : D.impl_OrderWidth g o = some (maxsz L) := by
  have h16 := hg.n16
  unfold D.impl_OrderWidth
  rw [impl_OrderOk_true hg ho, Option.bind_some, Bool.not_true, cond_false, netsOf_eq g hg, Option.bind_some, narrow_eq o (ho.sh hg), Option.bind_some, widthOf_eq h.elim (by rw [h.lenL]; omega) h.vsm]
  rfl
theorem Fill.many {g : List (List Int)} {o F L : List Int} (hg : GOk g) (ho : OOk g o) (h : Fill g o F L) : D.impl_FillMany g o = some (IntKind.i64.wrap (((edgesF (grow F)).length : Int) - ((edgesF g).length : Int))) := by
  unfold D.impl_FillMany
  rw [h.FillOf hg ho, Option.bind_some]
  simp only [Bool.not_true, cond_false]
  rw [impl_ManyEdges_eq _ (h.gok hg), Option.bind_some, impl_ManyEdges_eq _ hg]
  rfl
theorem Fill.peog {g : List (List Int)} {o F L : List Int} (ho : OOk g o) (h : Fill g o F L) : PEOg (grow F) o := by
  intro j v u w hj h1 h2 h3 h4 h5
  have hv : v < g.length := by
    obtain ⟨a, b⟩ := List.getElem?_eq_some_iff.1 hj
    have := ho.rng _ (List.getElem_mem a)
    omega
  rw [adj_grow h.f hv] at h1 h2
  rw [adj_grow h.f (h.f.lt v u hv h1)]
  exact h.peo j v u w hj h1 h2 h3 h4 h5

theorem FnFill_true (code : List Int) (hb : ∀ x ∈ code, 0 ≤ x ∧ x ≤ 255) : D.laws_FnFill code = some true := by
  unfold D.laws_FnFill D.laws_big
  simp only [Option.bind_some]
  by_cases hl : (4096 : Int) < code.length
  · simp only [hl, decide_true, cond_true]
  · simp only [hl, decide_false, cond_false]
    obtain ⟨z, e1, k1⟩ := roll_ok code 806 hb (by omega)
    simp only [e1, Option.bind_some]
    obtain ⟨⟨g, b, i, z2⟩, e2, hg, hg7, rfl, k2⟩ := w5Graph_ok k1 z 8 (by omega) (by omega)
    dsimp only at hg hg7 k2
    rw [show (((8 : Nat) : Nat) : Int) = 8 from rfl] at e2
    simp only [e2, Option.bind_some]
    obtain ⟨⟨o, b2, i2, z3⟩, e3, h1, h2, h3, rfl, k3⟩ := w5Order_ok k2 z2 g.length hg.n16
    dsimp only at h1 h2 h3 k3
    simp only [e3, Option.bind_some]
    have ho : OOk g o := ⟨h1, h2, h3⟩
    have h16 := hg.n16
    obtain ⟨F, L, hF⟩ := fill_ex hg ho
    have hf := hF.gok hg
    have hfo := hF.ook ho
    have hA := hF.again hg ho
    have hz : IntKind.i64.wrap (((edgesF (grow F)).length : Int) - ((edgesF (grow F)).length : Int)) = 0 := by rw [Int.sub_self]; rfl
    have hP : D.impl_PerfectIn (grow F) o = some true := by
      unfold D.impl_PerfectIn
      rw [hA.many hf hfo, hz]; rfl
    simp only [hF.FillOf hg ho, Option.bind_some, Bool.not_true, cond_false, spec_GraphOk_eq _ hf.sh2, gB_true hf, hP, ChordalIn_true hf hfo (hF.peog ho), hA.FillOf hf hfo]
    obtain ⟨es, e5, h5, h6⟩ := l1Edges_ok g hg
    have e6 : D.spec_EdgesOf g = some es := by
      unfold D.spec_EdgesOf
      rw [spec_GraphOk_eq g hg.sh2, gB_true hg, Option.bind_some, Bool.not_true, cond_false, e5]; rfl
    rw [e6, Option.bind_some]
    refine (loop_ck es.length (fun _ => true) (.inl ()) (.inr false) (fun i hi => ?_) ?_).trans ?_
    · obtain ⟨u, v, e7, h7, h8, _⟩ := h6 _ (List.getElem_mem hi)
      have hA' := (adj_grow hF.f h7).2 (hF.mono u v h7 h8)
      have i0 : idx [(u : Int), (v : Int)] 0 = some (u : Int) := rfl
      have i1 : idx [(u : Int), (v : Int)] 1 = some (v : Int) := rfl
      simp only [dlt hi, cond_true, idx_nat hi, Option.bind_some, e7, i0, i1, spec_EdgeIn_true hf (show u < (grow F).length by rw [grow_len, hF.f.len]; exact h7) hA', Bool.not_true, cond_false, wi (show i < 4611686018427387904 by omega), if_true]
    · simp only [dnlt, cond_false]
    · have e9 : (List.range es.length).all (fun _ => true) = true := by simp
      rw [e9, cond_true]
      simp only [cond_true, SameGraph_self hf, Option.bind_some, hF.many hg ho, spec_ManyEdges_eq _ hf, spec_ManyEdges_eq _ hg, hF.width hg ho, hA.width hf hfo]
      simp
end Go.Sx
