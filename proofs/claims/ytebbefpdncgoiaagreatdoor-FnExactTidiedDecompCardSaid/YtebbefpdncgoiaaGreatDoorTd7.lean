/- Parts of the proof: Sb, Sc, Rc, Rd, Sd, Se, Ta, Sf, Qf, Re, Tb, Tc, Xa, Xc, Xf, Xh, Sg, Xj, Xk, Xl, Qg, U1D, Qh, Xm, SxRowB. -/
import Derived.Test.YtebbefpdncgoiaaGreatDoorTd6
set_option linter.unusedVariables false
set_option linter.unusedSimpArgs false
set_option linter.unusedSectionVars false
/- Elimination: the filled neighbours and the later ones, by what they have. Plain. -/
namespace Go.Sx
/-- is w a neighbour of u, by masks -/
def nb (F : List Int) (u w : Nat) : Bool := has (F.getD u 0) w
/-- masks of a graph of n vertices -/
structure FOk (F : List Int) (n : Nat) : Prop where
  len : F.length = n
  vs : ∀ u, u < n → VS (F.getD u 0)
  lt : ∀ u w, u < n → nb F u w = true → w < n
  irr : ∀ u, u < n → nb F u u = false
  sym : ∀ u w, u < n → nb F u w = true → nb F w u = true

theorem FOk.ext {F F' : List Int} {n : Nat} (h : F.length = n) (h' : F'.length = n) (v : ∀ u, u < n → VS (F.getD u 0)) (v' : ∀ u, u < n → VS (F'.getD u 0)) (e : ∀ u w, u < n → nb F u w = nb F' u w) : F = F' := by
  refine ext_getD (by omega) (fun j hj => ?_)
  exact (v j (by omega)).ext (v' j (by omega)) (fun w _ => e j w (by omega))

theorem getD_map_mk (g : List (List Int)) (u : Nat) : (g.map mk).getD u 0 = mk (row g u) := by
  unfold row
  simp only [List.getD_eq_getElem?_getD, List.getElem?_map]
  cases g[u]? with
  | none => simp [mk]
  | some r => rfl
theorem nb_mk {g : List (List Int)} (hg : GOk g) {u w : Nat} (hu : u < g.length) : nb (g.map mk) u w = true ↔ adj g u w := by
  have h16 := hg.n16
  unfold nb
  rw [getD_map_mk, has_mk (fun x hx => by have := (hg.rows u hu).2 x hx; omega)]
  simp [adj]
theorem FOk.of {g : List (List Int)} (hg : GOk g) : FOk (g.map Sx.mk) g.length := by
  refine ⟨by simp, fun u _ => by rw [getD_map_mk]; exact VS.mk _, fun u w hu h => hg.lt hu ((nb_mk hg hu).1 h), fun u hu => ?_, fun u w hu h => ?_⟩
  · cases h : nb (g.map Sx.mk) u u
    · rfl
    · exact absurd ((nb_mk hg hu).1 h) (hg.irr u hu)
  · have ha := (nb_mk hg hu).1 h
    exact (nb_mk hg (hg.lt hu ha)).2 (hg.sym u w hu ha)

/-- the graph of masks -/
def grow (F : List Int) : List (List Int) := F.map elems
theorem row_grow (F : List Int) (u : Nat) : row (grow F) u = elems (F.getD u 0) := by
  unfold row grow
  simp only [List.getD_eq_getElem?_getD, List.getElem?_map]
  cases F[u]? with
  | none => simp [elems_zero]
  | some r => rfl
theorem adj_grow {F : List Int} {n u w : Nat} (h : FOk F n) (hu : u < n) : adj (grow F) u w ↔ nb F u w = true := by
  unfold adj nb
  rw [row_grow, mem_elems_nat (h.vs u hu)]
theorem GOk.grow {F : List Int} {n : Nat} (h : FOk F n) (h1 : 1 ≤ n) (h16 : n ≤ 16) : GOk (grow F) := by
  have hl : (Sx.grow F).length = n := by unfold Sx.grow; rw [List.length_map, h.len]
  refine ⟨by omega, by omega, fun v hv => ?_, fun v hv ha => ?_, fun u v hu ha => ?_⟩
  · rw [row_grow, hl]
    refine ⟨elems_inc _, fun x hx => ?_⟩
    obtain ⟨w, _, h2, rfl⟩ := mem_elems.1 hx
    have := h.lt v w (by omega) h2
    omega
  · rw [adj_grow h (by omega)] at ha
    rw [h.irr v (by omega)] at ha; cases ha
  · rw [adj_grow h (by omega)] at ha
    have := h.lt u v (by omega) ha
    rw [adj_grow h (by omega)]
    exact h.sym u v (by omega) ha
theorem all_mask : ∀ n : Fin 17, ∀ v : Fin 32, has (IntKind.u32.wrap (ishl .u32 1 (n.val : Int) - 1)) v.val = decide (v.val < n.val) := by decide +kernel
theorem nets_all_eq (F : List Int) (h : F.length ≤ 16) : ∃ s, D.impl_nets_all F = some s ∧ VS s ∧ ∀ v, has s v = decide (v < F.length) := by
  refine ⟨IntKind.u32.wrap (ishl .u32 1 (F.length : Int) - 1), ?_, VS.wrap _, fun v => ?_⟩
  · unfold D.impl_nets_all D.impl_firstOf
    have : decide ((F.length : Int) < 0) = false := by simp
    rw [this]; rfl
  · by_cases hv : v < 32
    · exact all_mask ⟨F.length, by omega⟩ ⟨v, hv⟩
    · rw [has_big (VS.wrap _) (by omega)]; symm; simp; omega

/-- the order is a perfect elimination order -/
def PEO (F : List Int) (o : List Int) : Prop := ∀ (j : Nat) (v u w : Nat), o[j]? = some (v : Int) → nb F v u = true → nb F v w = true → (u : Int) ∉ o.take (j + 1) → (w : Int) ∉ o.take (j + 1) → u ≠ w → nb F u w = true
/-- later neighbours -/
def Lat (F L : List Int) (o : List Int) (i : Nat) : Prop := ∀ (j : Nat) (v : Nat), j < i → o[j]? = some (v : Int) → ∀ w, nb L v w = (nb F v w && decide ((w : Int) ∉ o.take (j + 1)))

structure EInv (n : Nat) (F0 o : List Int) (i : Nat) (F L : List Int) (left : Int) : Prop where
  f : FOk F n
  lenL : L.length = n
  vsL : ∀ u, u < n → VS (L.getD u 0)
  vsl : VS left
  left : ∀ v, has left v = decide (v < n ∧ (v : Int) ∉ o.take i)
  mono : ∀ u w, u < n → nb F0 u w = true → nb F u w = true
  lat : Lat F L o i
  peo : ∀ (j : Nat) (v u w : Nat), j < i → o[j]? = some (v : Int) → nb F v u = true → nb F v w = true → (u : Int) ∉ o.take (j + 1) → (w : Int) ∉ o.take (j + 1) → u ≠ w → nb F u w = true
  same : PEO F0 o → F = F0

theorem mem_take_mono {o : List Int} {j i : Nat} (h : j ≤ i) {x : Int} (hx : x ∈ o.take j) : x ∈ o.take i := by
  rw [mem_take_iff] at hx ⊢
  obtain ⟨k, h1, h2, h3⟩ := hx
  exact ⟨k, h1, by omega, h3⟩

theorem EInv.step {n : Nat} {F0 o F L : List Int} {i v : Nat} {left : Int} (h16 : n ≤ 16) (hn : ∀ x ∈ o, 0 ≤ x ∧ x < n) (hnd : o.Nodup) (hi : i < o.length) (hv : o[i] = (v : Int)) (h : EInv n F0 o i F L left) {F' : List Int}
    (hl' : F'.length = n) (hv' : ∀ u, u < n → VS (F'.getD u 0)) (h' : ∀ u w, u < n → nb F' u w = (nb F u w || (has (iand .u32 (F.getD v 0) (iandNot .u32 left (ishl .u32 1 (v : Int)))) u && has (iand .u32 (F.getD v 0) (iandNot .u32 left (ishl .u32 1 (v : Int)))) w && decide (w ≠ u)))) :
    EInv n F0 o (i + 1) F' (L.set v (iand .u32 (F.getD v 0) (iandNot .u32 left (ishl .u32 1 (v : Int))))) (iandNot .u32 left (ishl .u32 1 (v : Int))) := by
  have hvn : v < n := by have := hn _ (List.getElem_mem hi); omega
  have hvt : (v : Int) ∉ o.take i := by rw [← hv]; exact nodup_iff.1 hnd i hi
  have htk : ∀ x : Nat, ((x : Int) ∈ o.take (i + 1)) ↔ ((x : Int) ∈ o.take i ∨ x = v) := fun x => by
    rw [List.take_succ_eq_append_getElem hi, List.mem_append, hv]; simp [Int.natCast_inj]
  have hleft : ∀ w, has (iandNot .u32 left (ishl .u32 1 (v : Int))) w = decide (w < n ∧ (w : Int) ∉ o.take (i + 1)) := fun w => by
    rw [has_iandNot h.vsl (VS.ishl _ _), has_one (by omega), h.left, Bool.eq_iff_iff]
    simp only [Bool.and_eq_true, decide_eq_true_eq, Bool.not_eq_true', decide_eq_false_iff_not, htk]
    constructor
    · rintro ⟨⟨a, b⟩, c⟩; exact ⟨a, fun hh => hh.elim b c⟩
    · rintro ⟨a, b⟩; exact ⟨⟨a, fun hh => b (.inl hh)⟩, fun hh => b (.inr hh)⟩
  have hS : ∀ w, has (iand .u32 (F.getD v 0) (iandNot .u32 left (ishl .u32 1 (v : Int)))) w = (nb F v w && decide ((w : Int) ∉ o.take (i + 1))) := fun w => by
    rw [has_iand (h.f.vs v hvn) (VS.iandNot _ _), hleft, Bool.eq_iff_iff]
    show (nb F v w && _) = true ↔ _
    simp only [Bool.and_eq_true, decide_eq_true_eq]
    exact ⟨fun ⟨a, b, c⟩ => ⟨a, c⟩, fun ⟨a, c⟩ => ⟨a, h.f.lt v w hvn a, c⟩⟩
  have hlV : VS (iandNot .u32 left (ishl .u32 1 (v : Int))) := VS.iandNot _ _
  generalize iandNot .u32 left (ishl .u32 1 (v : Int)) = left' at *
  generalize hSS : iand .u32 (F.getD v 0) left' = S at *
  have hSV : VS S := by rw [← hSS]; exact VS.iand _ _
  have hSlt : ∀ w, has S w = true → w < n ∧ (w : Int) ∉ o.take (i + 1) := fun w hw => by
    rw [hS] at hw
    simp only [Bool.and_eq_true, decide_eq_true_eq] at hw
    exact ⟨h.f.lt v w hvn hw.1, hw.2⟩
  have hmono : ∀ u w, u < n → nb F u w = true → nb F' u w = true := fun u w hu hh => by rw [h' u w hu, hh]; rfl
  -- rows of those that are gone do not change
  have hold : ∀ x : Nat, x < n → (x : Int) ∈ o.take (i + 1) → ∀ w, nb F' x w = nb F x w := fun x hx hm w => by
    rw [h' x w hx]
    have : has S x = false := by
      cases hc : has S x
      · rfl
      · exact absurd hm (hSlt x hc).2
    simp [this]
  have hf' : FOk F' n := by
    refine ⟨hl', hv', fun u w hu hh => ?_, fun u hu => ?_, fun u w hu hh => ?_⟩
    · rw [h' u w hu] at hh
      simp only [Bool.or_eq_true, Bool.and_eq_true] at hh
      rcases hh with hh | ⟨⟨_, hh⟩, _⟩
      · exact h.f.lt u w hu hh
      · exact (hSlt w hh).1
    · rw [h' u u hu, h.f.irr u hu]; simp
    · rw [h' u w hu] at hh
      simp only [Bool.or_eq_true, Bool.and_eq_true, decide_eq_true_eq] at hh
      rcases hh with hh | ⟨⟨h1, h2⟩, h3⟩
      · exact hmono w u (h.f.lt u w hu hh) (h.f.sym u w hu hh)
      · rw [h' w u (hSlt w h2).1, h1, h2]
        have : decide (u ≠ w) = true := by simpa using fun e => h3 e.symm
        simp [this]
  have hjv : ∀ j (x : Nat), o[j]? = some (x : Int) → j < o.length ∧ x < n ∧ (x : Int) ∈ o.take (j + 1) := fun j x hx => by
    obtain ⟨h1, h2⟩ := List.getElem?_eq_some_iff.1 hx
    have := hn _ (List.getElem_mem h1)
    refine ⟨h1, by omega, ?_⟩
    rw [mem_take_iff]; exact ⟨j, h1, by omega, h2⟩
  refine ⟨hf', by simp [h.lenL], fun u hu => ?_, hlV, hleft, fun u w hu hh => hmono u w hu (h.mono u w hu hh), fun j x hj hx w => ?_, fun j x u w hj hx h1 h2 h3 h4 h5 => ?_, fun hp => ?_⟩
  · rw [getD_set _ _ _ _ (by rw [h.lenL]; exact hvn)]
    split
    · exact hSV
    · exact h.vsL u hu
  · obtain ⟨k1, k2, k3⟩ := hjv j x hx
    have k4 := mem_take_mono (show j + 1 ≤ i + 1 by omega) k3
    rw [hold x k2 k4 w]
    unfold nb
    rw [getD_set _ _ _ _ (by rw [h.lenL]; exact hvn)]
    by_cases hji : j = i
    · subst hji
      rw [List.getElem?_eq_getElem hi, hv] at hx
      have : x = v := by
        have : (v : Int) = (x : Int) := by simpa using hx
        omega
      subst this
      rw [if_pos rfl, hS]; rfl
    · have hne : x ≠ v := fun e => by
        subst e
        exact hvt (mem_take_mono (show j + 1 ≤ i by omega) k3)
      rw [if_neg hne]
      exact h.lat j x (by omega) hx w
  · obtain ⟨k1, k2, k3⟩ := hjv j x hx
    have k4 := mem_take_mono (show j + 1 ≤ i + 1 by omega) k3
    rw [hold x k2 k4] at h1 h2
    by_cases hji : j = i
    · subst hji
      rw [List.getElem?_eq_getElem hi, hv] at hx
      have : x = v := by
        have : (v : Int) = (x : Int) := by simpa using hx
        omega
      subst this
      have hu : has S u = true := by rw [hS, h1]; simpa using h3
      have hw : has S w = true := by rw [hS, h2]; simpa using h4
      rw [h' u w (hSlt u hu).1, hu, hw]
      have : decide (w ≠ u) = true := by simpa using fun e => h5 e.symm
      simp [this]
    · exact hmono u w (h.f.lt x u k2 h1) (h.peo j x u w (by omega) hx h1 h2 h3 h4 h5)
  · have hFF := h.same hp
    subst hFF
    refine FOk.ext hl' h.f.len hv' h.f.vs (fun u w hu => ?_)
    rw [h' u w hu, Bool.eq_iff_iff]
    simp only [Bool.or_eq_true, Bool.and_eq_true, decide_eq_true_eq]
    constructor
    · rintro (hh | ⟨⟨h1, h2⟩, h3⟩)
      · exact hh
      · have k1 := (hSlt u h1).2; have k2 := (hSlt w h2).2
        rw [hS] at h1 h2
        simp only [Bool.and_eq_true] at h1 h2
        exact hp i v u w (by rw [List.getElem?_eq_getElem hi, hv]) h1.1 h2.1 k1 k2 (fun e => h3 e.symm)
    · exact .inl

end Go.Sx

/- How many a set has. Plain. -/
namespace Go.Sx
end Go.Sx

/- Trees of bags: the reference's own check, where it answers true. Plain. -/
namespace Go.Sx
theorem nodup_le : ∀ {l m : List Int}, l.Nodup → (∀ x ∈ l, x ∈ m) → l.length ≤ m.length
  | [], _, _, _ => by simp
  | x :: l, m, h, hs => by
    have h' := List.nodup_cons.1 h
    have hx := hs x (by simp)
    have := nodup_le (l := l) (m := m.erase x) h'.2 (fun y hy => by
      have hne : y ≠ x := fun e => h'.1 (e ▸ hy)
      exact (List.mem_erase_of_ne hne).2 (hs y (by simp [hy])))
    rw [List.length_erase_of_mem hx] at this
    have hp : 0 < m.length := List.length_pos_of_mem hx
    simp; omega
theorem nodup_all {l m : List Int} (hl : l.Nodup) (hm : m.Nodup) (h : ∀ x ∈ l, x ∈ m) (h' : ∀ x ∈ m, x ∈ l) : l.length = m.length :=
  Nat.le_antisymm (nodup_le hl h) (nodup_le hm h')
theorem Inc.nodup {l : List Int} (h : Inc l) : l.Nodup := List.Pairwise.imp (fun h e => by omega) h

theorem l1All_eq (n : Nat) (hn : n ≤ 4294967295) : D.spec_l1All (n : Int) = some ((List.range n).map Int.ofNat) := by
  unfold D.spec_l1All
  refine (loop_to (fun i => ((List.range i).map Int.ofNat, (i : Int))) n ((List.range n).map Int.ofNat) (by simp) (fun i hi => ?_) ?_).trans rfl
  · simp only [dlt hi, cond_true, wi (show i < 4611686018427387904 by omega)]
    rw [appendD_ok (by simp; omega), Option.bind_some, List.range_succ, List.map_append]; rfl
  · simp only [dnlt, cond_false]

theorem l8Meet_eq (a b : List Int) (ha : Sh a) (hb : Sh b) : D.spec_l8Meet a b = some (a.filter fun x => decide (x ∈ b)) := by
  unfold Sh at ha
  unfold D.spec_l8Meet
  have key : ∀ (k i : Nat), i + k = a.length → ∃ y, (loopF (σ := (List Int) × Int) (ρ := ((List Int))) (fun (s_78 : (List Int) × Int) => match s_78 with | (l_81, x_86) => cond (decide (x_86 < (a.length : Int))) ((idx a x_86).bind fun e_127 => (D.spec_l1Has b e_127).bind fun y_133 => cond y_133 ((idx a x_86).bind fun e_141 => (appendD l_81 ([e_141] : List Int)).bind fun l_151 => some (.inl (l_151, (IntKind.i64.wrap (x_86 + 1))))) (some (.inl (l_81, (IntKind.i64.wrap (x_86 + 1)))))) (some (.inr l_81))) ((a.take i).filter (fun x => decide (x ∈ b)), (i : Int))) = some y ∧ y = a.filter fun x => decide (x ∈ b) := by
    intro k
    induction k with
    | zero =>
      intro i hi
      obtain rfl : i = a.length := by omega
      rw [List.take_length]
      exact ⟨_, loopF_done (by simp only [dnlt, cond_false]), rfl⟩
    | succ k ih =>
      intro i hi
      have hil : i < a.length := by omega
      obtain ⟨y, h1, h2⟩ := ih (i + 1) (by omega)
      refine ⟨y, ?_, h2⟩
      rw [loopF_more]
      · exact h1
      · have hlen : ((a.take i).filter (fun x => decide (x ∈ b))).length ≤ i := Nat.le_trans (List.length_filter_le _ _) (by simp; omega)
        rw [List.take_succ_eq_append_getElem hil, List.filter_append]
        simp only [dlt hil, cond_true, idx_nat hil, Option.bind_some, l1Has_eq b _ hb, wi (show i < 4611686018427387904 by omega)]
        by_cases hc : a[i] ∈ b
        · simp only [hc, decide_true, cond_true, List.filter_cons, if_true, List.filter_nil]
          rw [appendD_ok (by simp; omega)]; rfl
        · simp [hc]
  obtain ⟨y, h1, rfl⟩ := key a.length 0 (by omega)
  simp only [List.take_zero, List.filter_nil] at h1
  rw [show ((0 : Nat) : Int) = 0 from rfl] at h1
  rw [h1]; rfl
theorem l9Part_eq (a b : List Int) (ha : Sh a) (hb : Sh b) : D.spec_l9Part a b = some (a.all fun x => decide (x ∈ b)) := by
  unfold D.spec_l9Part
  rw [l8Meet_eq a b ha hb, Option.bind_some]
  congr 1
  rw [Bool.eq_iff_iff, List.all_eq_true]
  constructor
  · intro h x hx
    have h1 : (a.filter fun x => decide (x ∈ b)).length = a.length := by have := beq_iff_eq.1 h; omega
    exact (List.length_filter_eq_length_iff.1 h1) x hx
  · intro h
    have : (a.filter fun x => decide (x ∈ b)) = a := List.filter_eq_self.2 h
    simp [this]
theorem l9In_eq (bags links : List (List Int)) (l : List Int) (hb : Sh2 bags) (hl : Sh l) : D.spec_l9In bags links l = some (bags.any fun b => l.all fun x => decide (x ∈ b)) := by
  have hbl : bags.length ≤ 4294967296 := hb.1
  unfold D.spec_l9In
  refine (loop_anyb bags.length (fun i => l.all fun x => decide (x ∈ bags.getD i [])) true (fun i hi => ?_) ?_ rfl rfl).trans ?_
  · simp only [dlt hi, cond_true, idx_nat hi, Option.bind_some, wi (show i < 4611686018427387904 by omega), getD_lt hi, l9Part_eq l _ hl (hb.2 _ (List.getElem_mem hi))]
    cases l.all fun x => decide (x ∈ bags[i]) <;> rfl
  · simp only [dnlt, cond_false]
  · rw [range_any_list bags (fun b => l.all fun x => decide (x ∈ b)) _ (fun i hi => by rw [getD_lt hi])]

/-- which bags have a vertex -/
def withV (bags : List (List Int)) (v : Int) : List Int := ((List.range bags.length).filter fun b => decide (v ∈ bags.getD b [])).map Int.ofNat
theorem mem_withV {bags : List (List Int)} {v x : Int} : x ∈ withV bags v ↔ ∃ b : Nat, x = b ∧ b < bags.length ∧ v ∈ bags.getD b [] := by
  unfold withV
  rw [List.mem_map]
  constructor
  · rintro ⟨b, hb, rfl⟩
    rw [List.mem_filter, List.mem_range] at hb
    exact ⟨b, rfl, hb.1, of_decide_eq_true hb.2⟩
  · rintro ⟨b, rfl, h1, h2⟩
    exact ⟨b, List.mem_filter.2 ⟨List.mem_range.2 h1, decide_eq_true h2⟩, rfl⟩
theorem withV_inc (bags : List (List Int)) (v : Int) : Inc (withV bags v) := by
  unfold withV Inc
  rw [List.pairwise_map]
  refine List.Pairwise.filter _ ?_
  refine List.Pairwise.imp ?_ (List.pairwise_lt_range (n := bags.length))
  intro a b h
  show (a : Int) < (b : Int)
  omega
theorem l9With_eq (bags links : List (List Int)) (v : Int) (hb : Sh2 bags) (hl : bags.length ≤ 4294967295) : D.spec_l9With bags links v = some (withV bags v) := by
  unfold D.spec_l9With
  refine (loop_to (fun i => (((List.range i).filter fun b => decide (v ∈ bags.getD b [])).map Int.ofNat, (i : Int))) bags.length (withV bags v) (by simp) (fun i hi => ?_) ?_).trans rfl
  · have hlen : (((List.range i).filter fun b => decide (v ∈ bags.getD b [])).map Int.ofNat).length ≤ i := by
      rw [List.length_map]; exact Nat.le_trans (List.length_filter_le _ _) (by simp)
    simp only [dlt hi, cond_true, idx_nat hi, Option.bind_some, l1Has_eq _ _ (hb.2 _ (List.getElem_mem hi)), wi (show i < 4611686018427387904 by omega)]
    rw [List.range_succ, List.filter_append, List.map_append]
    by_cases hc : v ∈ bags[i]
    · have : decide (v ∈ bags.getD i []) = true := by rw [getD_lt hi]; simpa using hc
      simp only [hc, decide_true, cond_true, List.filter_cons, this, if_true, List.filter_nil]
      rw [appendD_ok (by simp; simp at hlen; omega)]; rfl
    · have : decide (v ∈ bags.getD i []) = false := by rw [getD_lt hi]; simpa using hc
      simp only [hc, decide_false, cond_false, List.filter_cons, this, List.filter_nil, List.map_nil, List.append_nil]
      simp
  · simp only [dnlt, cond_false]; rfl

/-- linked -/
def Lk (links : List (List Int)) (x y : Int) : Prop := [x, y] ∈ links ∨ [y, x] ∈ links
/-- all links are pairs -/
def Pairs (links : List (List Int)) : Prop := ∀ l ∈ links, ∃ a b : Int, l = [a, b]

theorem l9Near_ok (bags links : List (List Int)) (b : Int) (hl : links.length ≤ 1000000) (hp : Pairs links) :
    ∃ y, D.spec_l9Near bags links b = some y ∧ (Inc y ∧ (∀ w, w ∈ y ↔ Lk links b w) ∧ y.length ≤ 2 * links.length) := by
  unfold D.spec_l9Near
  refine loop_then (fun s => ∃ i : Nat, s.2 = (i : Int) ∧ i ≤ links.length ∧ Inc s.1 ∧ (∀ w, w ∈ s.1 ↔ Lk (links.take i) b w) ∧ s.1.length ≤ 2 * i) (fun s => links.length - s.2.toNat)
    (fun r => Inc r ∧ (∀ w, w ∈ r ↔ Lk links b w) ∧ r.length ≤ 2 * links.length) ?_ ⟨0, rfl, by omega, by simp [Inc], by simp [Lk], by simp⟩ ?_
  · rintro ⟨s, _⟩ ⟨i, rfl, hi, hs, hm, hsl⟩
    dsimp only at hs hm hsl ⊢
    by_cases hil : i < links.length
    · obtain ⟨x, y, exy⟩ := hp _ (List.getElem_mem hil)
      have h0 : idx [x, y] 0 = some x := rfl
      have h1 : idx [x, y] 1 = some y := rfl
      simp only [dlt hil, cond_true, idx_nat hil, exy, h0, h1, Option.bind_some, wi (show i < 4611686018427387904 by omega)]
      have hLk : ∀ w, Lk (links.take (i + 1)) b w ↔ Lk (links.take i) b w ∨ (x = b ∧ y = w) ∨ (y = b ∧ x = w) := by
        intro w
        unfold Lk
        rw [List.take_succ_eq_append_getElem hil, exy]
        simp only [List.mem_append, List.mem_singleton, List.cons.injEq, and_true]
        constructor
        · rintro ((h | ⟨rfl, rfl⟩) | (h | ⟨rfl, rfl⟩))
          · exact .inl (.inl h)
          · exact .inr (.inl ⟨rfl, rfl⟩)
          · exact .inl (.inr h)
          · exact .inr (.inr ⟨rfl, rfl⟩)
        · rintro ((h | h) | ⟨rfl, rfl⟩ | ⟨rfl, rfl⟩)
          · exact .inl (.inl h)
          · exact .inr (.inl h)
          · exact .inl (.inr ⟨rfl, rfl⟩)
          · exact .inr (.inr ⟨rfl, rfl⟩)
      refine bind_then (fun t => Inc t ∧ (∀ w, w ∈ t ↔ w ∈ s ∨ (x = b ∧ y = w)) ∧ t.length ≤ s.length + 1) ?_ ?_
      · by_cases hx : x = b
        · have : (x == b) = true := by simp [hx]
          simp only [this, cond_true, l1Into_eq s y hs (by omega), Option.bind_some]
          exact ⟨_, rfl, hs.into _, fun w => by rw [mem_into]; simp [hx]; constructor <;> (rintro (h | h) <;> simp [h]), into_len _ _⟩
        · have : (x == b) = false := by simpa using hx
          simp only [this, cond_false]
          exact ⟨_, rfl, hs, fun w => by simp [hx], by omega⟩
      · rintro t ⟨ht, htm, htl⟩
        by_cases hy : y = b
        · have : (y == b) = true := by simp [hy]
          simp only [this, cond_true, l1Into_eq t x ht (by omega), Option.bind_some]
          refine ⟨_, rfl, ⟨i + 1, rfl, by omega, ht.into _, fun w => ?_, ?_⟩, by dsimp only; omega⟩
          · dsimp only
            rw [hLk, mem_into, htm, hm]
            constructor
            · rintro (rfl | h | h)
              · exact .inr (.inr ⟨hy, rfl⟩)
              · exact .inl h
              · exact .inr (.inl h)
            · rintro (h | h | ⟨_, rfl⟩)
              · exact .inr (.inl h)
              · exact .inr (.inr h)
              · exact .inl rfl
          · have := into_len t x; dsimp only; omega
        · have : (y == b) = false := by simpa using hy
          simp only [this, cond_false]
          refine ⟨_, rfl, ⟨i + 1, rfl, by omega, ht, fun w => ?_, by dsimp only; omega⟩, by dsimp only; omega⟩
          dsimp only
          rw [hLk, htm, hm]
          constructor
          · rintro (h | h)
            · exact .inl h
            · exact .inr (.inl h)
          · rintro (h | h | ⟨h, _⟩)
            · exact .inl h
            · exact .inr h
            · exact absurd h hy
    · obtain rfl : i = links.length := by omega
      simp only [dnlt, cond_false]
      rw [List.take_length] at hm
      exact ⟨_, rfl, hs, hm, hsl⟩
  · rintro r hr
    exact ⟨_, rfl, hr⟩

/-- m has the first of sel, and with each what is linked in sel -/
structure Closed (links : List (List Int)) (sel m : List Int) : Prop where
  sub : ∀ x ∈ m, x ∈ sel
  first : ∀ x, sel.head? = some x → x ∈ m
  step : ∀ x ∈ m, ∀ y ∈ sel, Lk links x y → y ∈ m

theorem l9Reached_ok (bags links : List (List Int)) (sel : List Int) (hl : links.length ≤ 1000000) (hp : Pairs links) (hs : sel.length ≤ 1000000) (hne : sel ≠ []) :
    ∃ y, D.spec_l9Reached bags links sel = some y ∧ ∃ m : List Int, y = m.length ∧ m.Nodup ∧ Closed links sel m ∧ ∀ m', Closed links sel m' → ∀ x ∈ m, x ∈ m' := by
  unfold D.spec_l9Reached
  obtain ⟨x0, sel', rfl⟩ : ∃ x l, sel = x :: l := by cases sel with
    | nil => exact absurd rfl hne
    | cons x l => exact ⟨x, l, rfl⟩
  generalize hsel : x0 :: sel' = sel at *
  have hsh : Sh sel := by unfold Sh; omega
  have e0 : ((sel.length : Int) == 0) = false := by rw [← hsel]; simp; omega
  have e1 : idx sel 0 = some x0 := by rw [← hsel]; rfl
  have hx0 : x0 ∈ sel := by rw [← hsel]; simp
  simp only [e0, cond_false, e1, Option.bind_some]
  refine loop_then (fun s => ∃ i : Nat, s.2 = (i : Int) ∧ i ≤ s.1.length ∧ s.1.Nodup ∧ (∀ x ∈ s.1, x ∈ sel) ∧ x0 ∈ s.1 ∧ (∀ m', Closed links sel m' → ∀ x ∈ s.1, x ∈ m') ∧ ∀ x ∈ s.1.take i, ∀ y ∈ sel, Lk links x y → y ∈ s.1) (fun s => sel.length - s.2.toNat)
    (fun r => r.Nodup ∧ Closed links sel r ∧ ∀ m', Closed links sel m' → ∀ x ∈ r, x ∈ m') ?_ ⟨0, rfl, by simp, by simp, by simpa using hx0, by simp, fun m' hm' x hx => by simp at hx; subst hx; exact hm'.first _ (by rw [← hsel]; rfl), by simp⟩ ?_
  · rintro ⟨m, _⟩ ⟨i, rfl, hi, hn, hsub, hx, hmn, hc⟩
    dsimp only at hi hn hsub hx hmn hc ⊢
    have hml := nodup_le hn hsub
    by_cases him : i < m.length
    · simp only [dlt him, cond_true, idx_nat him, Option.bind_some]
      refine bind_then _ (l9Near_ok bags links m[i] hl hp) ?_
      rintro near ⟨hni, hnm, hnl⟩
      refine loop_then (fun s => ∃ k : Nat, s.2 = (k : Int) ∧ k ≤ near.length ∧ s.1.Nodup ∧ (∀ x ∈ s.1, x ∈ sel) ∧ (∃ t, s.1 = m ++ t) ∧ (∀ m', Closed links sel m' → ∀ x ∈ s.1, x ∈ m') ∧ ∀ y ∈ near.take k, y ∈ sel → y ∈ s.1) (fun s => near.length - s.2.toNat)
        (fun r => r.Nodup ∧ (∀ x ∈ r, x ∈ sel) ∧ (∃ t, r = m ++ t) ∧ (∀ m', Closed links sel m' → ∀ x ∈ r, x ∈ m') ∧ ∀ y ∈ near, y ∈ sel → y ∈ r) ?_ ⟨0, rfl, by simp, hn, hsub, ⟨[], by simp⟩, hmn, by simp⟩ ?_
      · rintro ⟨r, _⟩ ⟨k, rfl, hk, hrn, hrs, ⟨t, rfl⟩, hrm, hrc⟩
        dsimp only at hrn hrs hrm hrc ⊢
        have hrl := nodup_le hrn hrs
        have hrsh : Sh (m ++ t) := by unfold Sh; omega
        by_cases hkn : k < near.length
        · have htk := List.take_succ_eq_append_getElem hkn
          simp only [dlt hkn, cond_true, idx_nat hkn, Option.bind_some, l1Has_eq _ _ hsh, l1Has_eq _ _ hrsh, wi (show k < 4611686018427387904 by omega)]
          by_cases h1 : near[k] ∈ sel
          · by_cases h2 : near[k] ∈ m ++ t
            · simp only [h1, h2, decide_true, cond_true, Bool.not_true, cond_false, Option.bind_some]
              refine ⟨_, rfl, ⟨k + 1, rfl, by omega, hrn, hrs, ⟨t, rfl⟩, hrm, fun y hy hys => ?_⟩, by dsimp only; omega⟩
              rw [htk] at hy
              rcases List.mem_append.1 hy with hy | hy
              · exact hrc y hy hys
              · simp at hy; subst hy; exact h2
            · simp only [h1, h2, decide_true, decide_false, cond_true, Bool.not_false, Option.bind_some]
              rw [appendD_ok (by simp at hrl ⊢; omega), Option.bind_some]
              refine ⟨_, rfl, ⟨k + 1, rfl, by omega, ?_, fun y hy => ?_, ⟨t ++ [near[k]], by simp⟩, fun m' hm' y hy => ?_, fun y hy hys => ?_⟩, by dsimp only; omega⟩
              · have hp : (m ++ t ++ [near[k]]).Perm (near[k] :: (m ++ t)) := List.perm_append_comm
                exact hp.nodup_iff.2 (List.nodup_cons.2 ⟨h2, hrn⟩)
              · rcases List.mem_append.1 hy with hy | hy
                · exact hrs y hy
                · simp at hy; subst hy; exact h1
              · rcases List.mem_append.1 hy with hy | hy
                · exact hrm m' hm' y hy
                · simp at hy; subst hy
                  exact hm'.step m[i] (hmn m' hm' _ (List.getElem_mem him)) _ h1 ((hnm _).1 (List.getElem_mem hkn))
              · dsimp only
                rw [htk] at hy
                rcases List.mem_append.1 hy with hy | hy
                · exact List.mem_append_left _ (hrc y hy hys)
                · simp at hy; subst hy; simp
          · simp only [h1, decide_false, cond_false, Option.bind_some]
            refine ⟨_, rfl, ⟨k + 1, rfl, by omega, hrn, hrs, ⟨t, rfl⟩, hrm, fun y hy hys => ?_⟩, by dsimp only; omega⟩
            rw [htk] at hy
            rcases List.mem_append.1 hy with hy | hy
            · exact hrc y hy hys
            · simp at hy; subst hy; exact absurd hys h1
        · obtain rfl : k = near.length := by omega
          simp only [dnlt, cond_false]
          rw [List.take_length] at hrc
          exact ⟨_, rfl, hrn, hrs, ⟨t, rfl⟩, hrm, hrc⟩
      · rintro r ⟨hrn, hrs, ⟨t, rfl⟩, hrm, hrc⟩
        simp only [wi (show i < 4611686018427387904 by omega)]
        refine ⟨_, rfl, ⟨i + 1, rfl, by simp; omega, hrn, hrs, List.mem_append_left _ hx, hrm, fun x hx' y hy hxy => ?_⟩, by dsimp only; omega⟩
        dsimp only at hx' ⊢
        rw [List.take_append_of_le_length (by omega), List.take_succ_eq_append_getElem him] at hx'
        rcases List.mem_append.1 hx' with hx' | hx'
        · exact List.mem_append_left _ (hc x hx' y hy hxy)
        · simp at hx'; subst hx'
          exact hrc y ((hnm y).2 hxy) hy
    · obtain rfl : i = m.length := by omega
      simp only [dnlt, cond_false]
      rw [List.take_length] at hc
      exact ⟨_, rfl, hn, ⟨hsub, fun x hx' => by rw [← hsel] at hx'; simp at hx'; subst hx'; exact hx, hc⟩, hmn⟩
  · rintro r ⟨h1, h2, h3⟩
    exact ⟨_, rfl, r, rfl, h1, h2, h3⟩

/-- all of sel hangs together -/
def Conn (links : List (List Int)) (sel : List Int) : Prop := ∀ m, Closed links sel m → ∀ x ∈ sel, x ∈ m
end Go.Sx

/- A tree of bags that is right, by the reference's own check. Plain. -/
namespace Go.Sx
/-- a link of two bags, the lesser one first -/
def LinkIn (n : Nat) (l : List Int) : Prop := ∃ a b : Nat, l = [(a : Int), (b : Int)] ∧ a < b ∧ b < n

theorem l1Edges_ok (g : List (List Int)) (hg : GOk g) : ∃ y, D.spec_l1Edges g = some y ∧ (y.length ≤ 256 ∧ ∀ e ∈ y, ∃ u v : Nat, e = [(u : Int), (v : Int)] ∧ u < g.length ∧ adj g u v ∧ u < v) := by
  have h16 := hg.n16
  unfold D.spec_l1Edges
  refine loop_then (fun s => ∃ u : Nat, s.2 = (u : Int) ∧ u ≤ g.length ∧ s.1.length ≤ 16 * u ∧ ∀ e ∈ s.1, ∃ u v : Nat, e = [(u : Int), (v : Int)] ∧ u < g.length ∧ adj g u v ∧ u < v) (fun s => g.length - s.2.toNat)
    (fun r => r.length ≤ 256 ∧ ∀ e ∈ r, ∃ u v : Nat, e = [(u : Int), (v : Int)] ∧ u < g.length ∧ adj g u v ∧ u < v) ?_ ⟨0, rfl, by omega, by simp, by simp⟩ ?_
  · rintro ⟨l, _⟩ ⟨u, rfl, hu, hl, hE⟩
    dsimp only at hl hE ⊢
    unfold D.spec_l1Size
    simp only [Option.bind_some]
    by_cases hug : u < g.length
    · have hrl := hg.row_len hug
      simp only [dlt hug, cond_true]
      refine loop_then (fun s => ∃ i : Nat, s.2 = (i : Int) ∧ i ≤ (row g u).length ∧ s.1.length ≤ 16 * u + i ∧ ∀ e ∈ s.1, ∃ u v : Nat, e = [(u : Int), (v : Int)] ∧ u < g.length ∧ adj g u v ∧ u < v) (fun s => (row g u).length - s.2.toNat)
        (fun r => r.length ≤ 16 * u + 16 ∧ ∀ e ∈ r, ∃ u v : Nat, e = [(u : Int), (v : Int)] ∧ u < g.length ∧ adj g u v ∧ u < v) ?_ ⟨0, rfl, by omega, by dsimp only; omega, hE⟩ ?_
      · rintro ⟨l, _⟩ ⟨i, rfl, hi, hl, hE⟩
        dsimp only at hl hE ⊢
        simp only [idx_row hug, Option.bind_some]
        by_cases hir : i < (row g u).length
        · obtain ⟨v, ev, hv, hav⟩ := hg.mem hug (List.getElem_mem hir)
          simp only [dlt hir, cond_true, idx_nat hir, ev, Option.bind_some, wi (show i < 4611686018427387904 by omega)]
          by_cases huv : u < v
          · simp only [dlt huv, cond_true]
            rw [appendD_ok (by simp; omega), Option.bind_some]
            refine ⟨_, rfl, ⟨i + 1, rfl, by omega, by simp; omega, fun e he => ?_⟩, by dsimp only; omega⟩
            rcases List.mem_append.1 he with he | he
            · exact hE e he
            · simp at he; subst he; exact ⟨u, v, rfl, hug, hav, huv⟩
          · have : decide ((u : Int) < (v : Int)) = false := by simp; omega
            simp only [this, cond_false]
            exact ⟨_, rfl, ⟨i + 1, rfl, by omega, by dsimp only; omega, hE⟩, by dsimp only; omega⟩
        · obtain rfl : i = (row g u).length := by omega
          simp only [dnlt, cond_false]
          exact ⟨_, rfl, by omega, hE⟩
      · rintro r ⟨h1, h2⟩
        simp only [wi (show u < 4611686018427387904 by omega)]
        exact ⟨_, rfl, ⟨u + 1, rfl, by omega, by dsimp only; omega, h2⟩, by dsimp only; omega⟩
    · obtain rfl : u = g.length := by omega
      simp only [dnlt, cond_false]
      exact ⟨_, rfl, by omega, hE⟩
  · rintro r hr
    exact ⟨_, rfl, hr⟩

/-- what a tree of bags of a graph is -/
structure TB (g bags links : List (List Int)) : Prop where
  n1 : 1 ≤ bags.length
  n16 : bags.length ≤ 16
  many : links.length + 1 = bags.length
  lks : ∀ l ∈ links, LinkIn bags.length l
  sets : ∀ b ∈ bags, SetOf b g.length
  tree : Conn links ((List.range bags.length).map Int.ofNat)
  edges : ∀ u v : Nat, u < g.length → adj g u v → ∃ b ∈ bags, (u : Int) ∈ b ∧ (v : Int) ∈ b
  some : ∀ v, v < g.length → withV bags v ≠ []
  conn : ∀ v, v < g.length → Conn links (withV bags v)

end Go.Sx

/- The edges of a graph, listed by the program and by the reference; the filled graph of an order. Plain. -/
namespace Go.Sx
def rowF (r : List Int) (u : Nat) (s : List (List Int)) : List (List Int) := (List.range r.length).foldl (fun s i => if (u : Int) < r.getD i 0 then s ++ [[(u : Int), r.getD i 0]] else s) s
theorem inner_edges (r : List Int) (u : Nat) (s0 : List (List Int)) (h : s0.length + r.length ≤ 4294967296) {step : List (List Int) × Int → Option ((List (List Int) × Int) ⊕ List (List Int))}
    (hstep : ∀ s (i : Nat) (hi : i < r.length), step (s, (i : Int)) = cond (decide ((u : Int) < r[i])) ((appendD s [[(u : Int), r[i]]]).bind fun l => some (.inl (l, ((i + 1 : Nat) : Int)))) (some (.inl (s, ((i + 1 : Nat) : Int)))))
    (hend : ∀ s, step (s, (r.length : Int)) = some (.inr s)) : loopF step (s0, 0) = some (rowF r u s0) ∧ (rowF r u s0).length ≤ s0.length + r.length := by
  have key := loop_nat (step := step) r.length (fun s i => (s, i)) (fun s i => if (u : Int) < r.getD i 0 then s ++ [[(u : Int), r.getD i 0]] else s) (fun s => s) (fun i s => s.length ≤ s0.length + i) s0 (by omega)
    (fun s i hi hs => ?_) (fun s _ => hend s)
  · exact key
  · have hg : r.getD i 0 = r[i] := getD_lt hi 0
    refine ⟨?_, ?_⟩
    · rw [hstep s i hi, hg]
      by_cases hc : (u : Int) < r[i]
      · rw [decide_eq_true hc, cond_true, appendD_ok (by simp; omega), if_pos hc]; rfl
      · rw [decide_eq_false hc, cond_false, if_neg hc]
    · rw [hg]
      split
      · rw [List.length_append, List.length_singleton]; omega
      · omega
def edgesF (g : List (List Int)) : List (List Int) := (List.range g.length).foldl (fun s u => rowF (row g u) u s) []

theorem impl_edgesOf_eq (g : List (List Int)) (hg : GOk g) : D.impl_edgesOf g = some (edgesF g) := by
  have h16 := hg.n16
  unfold D.impl_edgesOf
  have key := loop_nat (ρ := List (List Int)) (step := (fun (s_288 : (List (List Int)) × Int) => match s_288 with | (l_291, x_296) => cond (decide (x_296 < (g.length : Int))) ((idx g x_296).bind fun e_441 => (loopF (σ := (List (List Int)) × Int) (ρ := ((List (List Int)))) (fun (s_508 : (List (List Int)) × Int) => match s_508 with | (l_511, x_516) => cond (decide (x_516 < (e_441.length : Int))) ((idx e_441 x_516).bind fun e_551 => cond (decide (x_296 < e_551)) ((appendD l_511 ([([x_296, e_551] : List Int)] : List (List Int))).bind fun l_569 => some (.inl (l_569, (IntKind.i64.wrap (x_516 + 1))))) (some (.inl (l_511, (IntKind.i64.wrap (x_516 + 1)))))) (some (.inr l_511))) (l_291, 0)).bind fun l_544 => some (.inl (l_544, (IntKind.i64.wrap (x_296 + 1))))) (some (.inr l_291))))
    g.length (fun s i => (s, i)) (fun s u => rowF (row g u) u s) (fun s => s) (fun i s => s.length ≤ 16 * i) [] (by simp) (fun s u hu hs => ?_) (fun s _ => ?_)
  · exact congrArg (fun z => Option.bind z fun l => some l) key.1
  · have hr := hg.row_len hu
    obtain ⟨k1, k2⟩ := inner_edges (row g u) u s (by omega) (step := (fun (s_508 : (List (List Int)) × Int) => match s_508 with | (l_511, x_516) => cond (decide (x_516 < ((row g u).length : Int))) ((idx (row g u) x_516).bind fun e_551 => cond (decide ((u : Int) < e_551)) ((appendD l_511 ([([(u : Int), e_551] : List Int)] : List (List Int))).bind fun l_569 => some (.inl (l_569, (IntKind.i64.wrap (x_516 + 1))))) (some (.inl (l_511, (IntKind.i64.wrap (x_516 + 1)))))) (some (.inr l_511)))) (fun s i hi => by
        simp only [dlt hi, cond_true, idx_nat hi, Option.bind_some, wi (show i < 4611686018427387904 by omega)]) (fun s => by simp only [dnlt, cond_false])
    refine ⟨?_, by omega⟩
    simp only [dlt hu, cond_true, idx_row hu, Option.bind_some, wi (show u < 4611686018427387904 by omega)]
    exact (congrArg (fun z => Option.bind z _) k1).trans rfl
  · simp only [dnlt, cond_false]

theorem l1Edges_eq (g : List (List Int)) (hg : GOk g) : D.spec_l1Edges g = some (edgesF g) := by
  have h16 := hg.n16
  unfold D.spec_l1Edges D.spec_l1Size
  have key := loop_nat (ρ := List (List Int)) (step := (fun (s_482 : (List (List Int)) × Int) => match s_482 with | (l_485, x_490) => (some (g.length : Int)).bind fun y_731 => cond (decide (x_490 < y_731)) ((loopF (σ := (List (List Int)) × Int) (ρ := ((List (List Int)))) (fun (s_848 : (List (List Int)) × Int) => match s_848 with | (l_851, x_856) => (idx g x_490).bind fun e_914 => cond (decide (x_856 < (e_914.length : Int))) ((idx g x_490).bind fun e_921 => (idx e_921 x_856).bind fun e_927 => cond (decide (x_490 < e_927)) ((idx g x_490).bind fun e_934 => (idx e_934 x_856).bind fun e_940 => (appendD l_851 ([([x_490, e_940] : List Int)] : List (List Int))).bind fun l_957 => some (.inl (l_957, (IntKind.i64.wrap (x_856 + 1))))) (some (.inl (l_851, (IntKind.i64.wrap (x_856 + 1)))))) (some (.inr l_851))) (l_485, 0)).bind fun l_908 => some (.inl (l_908, (IntKind.i64.wrap (x_490 + 1))))) (some (.inr l_485))))
    g.length (fun s i => (s, i)) (fun s u => rowF (row g u) u s) (fun s => s) (fun i s => s.length ≤ 16 * i) [] (by simp) (fun s u hu hs => ?_) (fun s _ => ?_)
  · exact congrArg (fun z => Option.bind z fun l => some l) key.1
  · have hr := hg.row_len hu
    obtain ⟨k1, k2⟩ := inner_edges (row g u) u s (by omega) (step := (fun (s_848 : (List (List Int)) × Int) => match s_848 with | (l_851, x_856) => (idx g (u : Int)).bind fun e_914 => cond (decide (x_856 < (e_914.length : Int))) ((idx g (u : Int)).bind fun e_921 => (idx e_921 x_856).bind fun e_927 => cond (decide ((u : Int) < e_927)) ((idx g (u : Int)).bind fun e_934 => (idx e_934 x_856).bind fun e_940 => (appendD l_851 ([([(u : Int), e_940] : List Int)] : List (List Int))).bind fun l_957 => some (.inl (l_957, (IntKind.i64.wrap (x_856 + 1))))) (some (.inl (l_851, (IntKind.i64.wrap (x_856 + 1)))))) (some (.inr l_851)))) (fun s i hi => by
        simp only [idx_row hu, dlt hi, cond_true, idx_nat hi, Option.bind_some, wi (show i < 4611686018427387904 by omega)]) (fun s => by simp only [idx_row hu, Option.bind_some, dnlt, cond_false])
    refine ⟨?_, by omega⟩
    simp only [Option.bind_some, dlt hu, cond_true, wi (show u < 4611686018427387904 by omega)]
    exact (congrArg (fun z => Option.bind z _) k1).trans rfl
  · simp only [Option.bind_some, dnlt, cond_false]

theorem GOk.sh2 {g : List (List Int)} (hg : GOk g) : Sh2 g := by
  have h16 := hg.n16
  exact ⟨by unfold Sh; omega, fun r hr => by have := (hg.mem0 hr).1; unfold Sh; omega⟩
theorem gB_true {g : List (List Int)} (hg : GOk g) : gB g = true := (gB_iff g).2 hg
theorem impl_ManyEdges_eq (g : List (List Int)) (hg : GOk g) : D.impl_ManyEdges g = some ((edgesF g).length : Int) := by
  unfold D.impl_ManyEdges D.impl_EdgesOf
  rw [impl_GraphOk_eq g hg.sh2, gB_true hg, Option.bind_some, Bool.not_true, cond_false, impl_edgesOf_eq g hg]; rfl
theorem nets_graph_eq (F : List Int) (h : F.length ≤ 16) (hV : ∀ u, u < F.length → VS (F.getD u 0)) : D.impl_nets_graph F = some (grow F) := by
  unfold D.impl_nets_graph
  refine (loop_map F (fun s i => (i, s)) elems (by omega) (fun s i hi _ => ?_) (fun s => ?_)).trans rfl
  · have := hV i hi
    rw [getD_lt hi] at this
    simp only [dlt hi, cond_true, idx_nat hi, Option.bind_some, numbers_eq _ this, wi (show i < 4611686018427387904 by omega)]
  · simp only [dnlt, cond_false]

theorem OOk.sh {g : List (List Int)} {o : List Int} (hg : GOk g) (ho : OOk g o) : Sh o := by
  have := hg.n16; have := ho.len; unfold Sh; omega
theorem impl_OrderOk_true {g : List (List Int)} {o : List Int} (hg : GOk g) (ho : OOk g o) : D.impl_OrderOk g o = some true := by
  rw [impl_OrderOk_eq g o hg.sh2 (ho.sh hg), gB_true hg, (ordB_iff g o).2 ho]; rfl

/-- what filling comes to -/
structure Fill (g : List (List Int)) (o F L : List Int) : Prop where
  elim : D.impl_elimination (g.map mk) o = some (F, L)
  f : FOk F g.length
  lenL : L.length = g.length
  vsL : ∀ u, u < g.length → VS (L.getD u 0)
  mono : ∀ u w, u < g.length → adj g u w → nb F u w = true
  lat : Lat F L o g.length
  peo : PEO F o
  same : PEO (g.map mk) o → F = g.map mk

theorem Fill.FillOf {g : List (List Int)} {o F L : List Int} (hg : GOk g) (ho : OOk g o) (h : Fill g o F L) : D.impl_FillOf g o = some (grow F, true) := by
  have h16 := hg.n16
  unfold D.impl_FillOf
  rw [impl_OrderOk_true hg ho, Option.bind_some, Bool.not_true, cond_false, netsOf_eq g hg, Option.bind_some, narrow_eq o (ho.sh hg), Option.bind_some, h.elim, Option.bind_some, nets_graph_eq F (by rw [h.f.len]; omega) (fun u hu => h.f.vs u (by rw [h.f.len] at hu; exact hu))]
  rfl
theorem Fill.gok {g : List (List Int)} {o F L : List Int} (hg : GOk g) (h : Fill g o F L) : GOk (grow F) := GOk.grow h.f hg.n1 hg.n16
end Go.Sx

/- Who is left, cliques, and the reference's perfect orders, where there is one. Plain. -/
namespace Go.Sx
end Go.Sx

/- Sums over the first numbers, counted pairs; the first least of a list. Plain. -/
namespace Go.Sx
/-! ### the first least of a list -/
def ast (f : Int → Int) (s : Int × Int) (v : Int) : Int × Int := if s.1 < 0 ∨ f v < s.2 then (v, f v) else s
def amin (f : Int → Int) (l : List Int) : Int × Int := l.foldl (ast f) (-1, 0)
theorem ast_run (f : Int → Int) : ∀ (l : List Int) (b : Int), 0 ≤ b → (∀ x ∈ l, 0 ≤ x) → ∃ c, l.foldl (ast f) (b, f b) = (c, f c) ∧ (c = b ∨ c ∈ l) ∧ 0 ≤ c ∧ f c ≤ f b ∧ ∀ x ∈ l, f c ≤ f x
  | [], b, hb, _ => ⟨b, rfl, .inl rfl, hb, Int.le_refl _, by simp⟩
  | x :: l, b, hb, hl => by
    have hx := hl x (by simp)
    have hl' := fun y hy => hl y (List.mem_cons_of_mem x hy)
    rw [List.foldl_cons]
    by_cases hc : f x < f b
    · have e : ast f (b, f b) x = (x, f x) := by unfold ast; rw [if_pos (.inr hc)]
      rw [e]
      obtain ⟨c, h1, h2, h3, h4, h5⟩ := ast_run f l x hx hl'
      refine ⟨c, h1, .inr ?_, h3, by omega, fun y hy => ?_⟩
      · rcases h2 with rfl | h2
        · simp
        · exact List.mem_cons_of_mem _ h2
      · rcases List.mem_cons.1 hy with rfl | hy
        · exact h4
        · exact h5 y hy
    · have e : ast f (b, f b) x = (b, f b) := by unfold ast; rw [if_neg (fun h => h.elim (fun h => by dsimp only at h; omega) hc)]
      rw [e]
      obtain ⟨c, h1, h2, h3, h4, h5⟩ := ast_run f l b hb hl'
      refine ⟨c, h1, ?_, h3, h4, fun y hy => ?_⟩
      · rcases h2 with h2 | h2
        · exact .inl h2
        · exact .inr (List.mem_cons_of_mem _ h2)
      · rcases List.mem_cons.1 hy with rfl | hy
        · omega
        · exact h5 y hy
theorem ast_first (f : Int → Int) (x : Int) : ast f (-1, 0) x = (x, f x) := by unfold ast; rw [if_pos (.inl (by decide))]
theorem amin_ok (f : Int → Int) {l : List Int} (hne : l ≠ []) (hl : ∀ x ∈ l, 0 ≤ x) : ∃ c, amin f l = (c, f c) ∧ c ∈ l ∧ ∀ x ∈ l, f c ≤ f x := by
  cases l with
  | nil => exact absurd rfl hne
  | cons x l =>
    unfold amin
    rw [List.foldl_cons, ast_first]
    obtain ⟨c, h1, h2, h3, h4, h5⟩ := ast_run f l x (hl x (by simp)) (fun y hy => hl y (List.mem_cons_of_mem _ hy))
    refine ⟨c, h1, ?_, fun y hy => ?_⟩
    · rcases h2 with rfl | h2
      · simp
      · exact List.mem_cons_of_mem _ h2
    · rcases List.mem_cons.1 hy with rfl | hy
      · exact h4
      · exact h5 y hy
/-! ### those below a number that are in a set -/
def els (s : Int) (i : Nat) : List Int := ((List.range i).filter (has s)).map Int.ofNat
theorem els_all {s : Int} {n : Nat} (hn : n ≤ 32) (h : ∀ v, has s v = true → v < n) : els s n = elems s := by
  unfold els elems
  obtain ⟨k, hk⟩ : ∃ k, 32 = n + k := ⟨32 - n, by omega⟩
  rw [hk, List.range_add, List.filter_append]
  have : ((List.range k).map (fun x => n + x)).filter (has s) = [] := by
    rw [List.filter_eq_nil_iff]
    intro x hx hc
    obtain ⟨y, _, rfl⟩ := List.mem_map.1 hx
    have := h _ hc; omega
  rw [this, List.append_nil]
theorem elems_nonneg (s : Int) : ∀ x ∈ elems s, 0 ≤ x := fun x hx => by
  obtain ⟨v, _, _, rfl⟩ := mem_elems.1 hx; omega
def full (n : Nat) : Int := IntKind.u32.wrap (ishl .u32 1 (n : Int) - 1)
theorem full_vs (n : Nat) : VS (full n) := VS.wrap _
theorem has_full {n : Nat} (h : n ≤ 16) (v : Nat) : has (full n) v = decide (v < n) := by
  by_cases hv : v < 32
  · exact all_mask ⟨n, by omega⟩ ⟨v, hv⟩
  · rw [has_big (full_vs n) (by omega)]; symm; simp; omega
end Go.Sx

/- 'laws.FnFill' comes to true. Plain. -/
namespace Go.Sx
theorem Fill.many {g : List (List Int)} {o F L : List Int} (hg : GOk g) (ho : OOk g o) (h : Fill g o F L) : D.impl_FillMany g o = some (IntKind.i64.wrap (((edgesF (grow F)).length : Int) - ((edgesF g).length : Int))) := by
  unfold D.impl_FillMany
  rw [h.FillOf hg ho, Option.bind_some]
  simp only [Bool.not_true, cond_false]
  rw [impl_ManyEdges_eq _ (h.gok hg), Option.bind_some, impl_ManyEdges_eq _ hg]
  rfl
end Go.Sx

/- PathDecomp: the reference's and the program's are one. Plain. -/
namespace Go.Sx
section
variable {g : List (List Int)} {o : List Int} (hg : GOk g) (ho : OOk g o)
include hg ho
end

end Go.Sx

/- The bags of an order are a tree of bags, as wide as the order's separation; FnPathDecomp, plain. -/
namespace Go.Sx
section
variable {g : List (List Int)} {o : List Int} (hg : GOk g) (ho : OOk g o)
include hg ho

end

end Go.Sx

/- The degeneracy: what both compute, and that no order's width is below it. Plain. -/
namespace Go.Sx
/-- neighbours within a set -/
def dg (g : List (List Int)) (s : Int) (v : Int) : Int := ((elems (iand .u32 (mk (row g v.toNat)) s)).length : Int)
/-- a set of some of the first vertices, of that many -/
structure SQ (n : Nat) (s : Int) (k : Nat) : Prop where
  vs : VS s
  lt : ∀ v, has s v = true → v < n
  card : (elems s).length = k
theorem SQ.full {n : Nat} (h : n ≤ 16) : SQ n (full n) n := by
  refine ⟨full_vs n, fun v hv => by rw [has_full h] at hv; exact of_decide_eq_true hv, ?_⟩
  rw [← els_all (n := n) (by omega) (fun v hv => by rw [has_full h] at hv; exact of_decide_eq_true hv)]
  unfold els
  rw [List.length_map, List.filter_eq_self.2 (fun v hv => by rw [has_full h]; exact decide_eq_true (List.mem_range.1 hv)), List.length_range]
theorem SQ.ne {n k : Nat} {s : Int} (h : SQ n s (k + 1)) : elems s ≠ [] := fun e => by have := h.card; rw [e] at this; simp at this
theorem SQ.z {n : Nat} {s : Int} (h : SQ n s 0) : s = 0 := by
  rw [h.vs.eq_zero]
  intro v hv
  cases hc : has s v
  · rfl
  · have : (v : Int) ∈ elems s := (mem_elems_nat h.vs).2 hc
    have h0 := h.card
    rw [List.length_eq_zero_iff] at h0
    rw [h0] at this; simp at this
/-- the first least -/
theorem SQ.min {n k : Nat} {s : Int} (h : SQ n s (k + 1)) (f : Int → Int) : ∃ c : Nat, c < n ∧ has s c = true ∧ amin f (elems s) = ((c : Int), f c) ∧ ∀ v : Nat, has s v = true → f c ≤ f v := by
  obtain ⟨c, h1, h2, h3⟩ := amin_ok f h.ne (elems_nonneg s)
  obtain ⟨v, _, h5, rfl⟩ := mem_elems.1 h2
  exact ⟨v, h.lt v h5, h5, h1, fun w hw => h3 w ((mem_elems_nat h.vs).2 hw)⟩
theorem elems_head {s : Int} (h : VS s) {k : Nat} (hk : has s k = true) (hm : ∀ v, v < k → has s v = false) : ∃ t, elems s = (k : Int) :: t := by
  cases he : elems s with
  | nil => have := (mem_elems_nat h).2 hk; rw [he] at this; simp at this
  | cons x t =>
    refine ⟨t, ?_⟩
    congr 1
    have hx : x ∈ elems s := by rw [he]; simp
    obtain ⟨v, _, h2, rfl⟩ := mem_elems.1 hx
    have hkm := (mem_elems_nat h).2 hk
    rw [he] at hkm
    have hi := elems_inc s
    rw [he] at hi
    rcases List.mem_cons.1 hkm with e | e
    · exact e.symm
    · have := (List.pairwise_cons.1 hi).1 _ e
      have := hm v (by omega)
      rw [this] at h2; cases h2

end Go.Sx

/- Orders that take, again and again, who costs least: the program's and the reference's are one. Plain. -/
namespace Go.Sx
noncomputable def elimF (F : List Int) (s b : Int) : List Int := (D.impl_eliminate F s b).getD []
/-! ### the order that they come to -/
noncomputable def gq (c : List Int → Int → Int → Int) (g : List (List Int)) : Nat → List Int × List Int × Int
  | 0 => (g.map mk, [], full g.length)
  | i + 1 => (elimF (gq c g i).1 (gq c g i).2.2 (amin (c (gq c g i).1 (gq c g i).2.2) (elems (gq c g i).2.2)).1, (gq c g i).2.1 ++ [(amin (c (gq c g i).1 (gq c g i).2.2) (elems (gq c g i).2.2)).1],
      iandNot .u32 (gq c g i).2.2 (ishl .u32 1 (amin (c (gq c g i).1 (gq c g i).2.2) (elems (gq c g i).2.2)).1))
structure GQ (n i : Nat) (F o : List Int) (s : Int) : Prop where
  f : FOk F n
  left : SQ n s (n - i)
  len : o.length = i
  rng : ∀ x ∈ o, ∃ v : Nat, x = v ∧ v < n ∧ has s v = false
  nd : o.Nodup
end Go.Sx

/- What filling an order comes to, step by step, alike in both. Plain. -/
namespace Go.Sx
/-- the fill, the later ones and what is left, after so many steps -/
noncomputable def ef (g : List (List Int)) (o : List Int) : Nat → List Int × List Int × Int
  | 0 => (g.map mk, List.replicate g.length 0, full g.length)
  | i + 1 => (elimF (ef g o i).1 (ef g o i).2.2 (o.getD i 0), (ef g o i).2.1.set (o.getD i 0).toNat (iand .u32 ((ef g o i).1.getD (o.getD i 0).toNat 0) (iandNot .u32 (ef g o i).2.2 (ishl .u32 1 (o.getD i 0)))),
      iandNot .u32 (ef g o i).2.2 (ishl .u32 1 (o.getD i 0)))

section
variable {g : List (List Int)} {o : List Int} (hg : GOk g) (ho : OOk g o)
include hg ho
end
end Go.Sx

/- Links put in one by one, and links sorted: one and the same. Plain. -/
namespace Go.Sx
theorem less2 (a b c d : Int) : D.spec_l1Less [a, b] [c, d] = some (decide (a < c ∨ (a = c ∧ b < d))) := by
  unfold D.spec_l1Less
  have i0 : ∀ x y : Int, idx [x, y] 0 = some x := fun x y => by unfold idx; simp
  have i1 : ∀ x y : Int, idx [x, y] 1 = some y := fun x y => by unfold idx; simp
  have w1 : IntKind.i64.wrap 1 = 1 := by decide
  have w2 : IntKind.i64.wrap 2 = 2 := by decide
  have e0 : ((([a, b] : List Int).length : Int) != (([c, d] : List Int).length : Int)) = false := by simp
  rw [e0, cond_false]
  by_cases h1 : a = c
  · subst h1
    rw [loopF_more (s' := 1) (by simp [i0, w1])]
    by_cases h2 : b = d
    · subst h2
      rw [loopF_more (s' := 2) (by simp [i1, w2]), loopF_done (r := .inl ()) (by simp)]; simp
    · have e : (b != d) = true := by simpa using h2
      rw [loopF_done (r := .inr (decide (b < d))) (by simp [i1, e])]; simp
  · have e : (a != c) = true := by simpa using h1
    rw [loopF_done (r := .inr (decide (a < c))) (by simp [i0, e])]; simp [h1]
theorem less_key {x y : List Int} (hx : rowGood x) (hy : rowGood y) : D.spec_l1Less x y = some (decide (rowKey x < rowKey y)) := by
  obtain ⟨h1, h2, h3, h4, h5⟩ := hx
  obtain ⟨k1, k2, k3, k4, k5⟩ := hy
  obtain ⟨a, b, rfl⟩ := list2 h1
  obtain ⟨c, d, rfl⟩ := list2 k1
  rw [less2]
  unfold rowKey
  simp only [List.getD_cons_zero, List.getD_cons_succ] at *
  congr 1
  rw [decide_eq_decide]
  constructor <;> intro h <;> omega

def insAt (l : List Int) (xs : List (List Int)) : Nat := xs.findIdx fun x => decide (rowKey l < rowKey x)
/-- a link put in ahead of the first greater one -/
def ins (l : List Int) (xs : List (List Int)) : List (List Int) := xs.take (insAt l xs) ++ l :: xs.drop (insAt l xs)
theorem ins_perm (l : List Int) (xs : List (List Int)) : (ins l xs).Perm (l :: xs) := by
  unfold ins
  refine List.perm_middle.trans ?_
  rw [List.take_append_drop]
def Srtd2 (xs : List (List Int)) : Prop := xs.Pairwise (fun a b => rowKey a ≤ rowKey b)
theorem ins_sorted (l : List Int) {xs : List (List Int)} (h : Srtd2 xs) : Srtd2 (ins l xs) := by
  unfold ins Srtd2
  have hlt : ∀ x ∈ xs.take (insAt l xs), rowKey x ≤ rowKey l := fun x hx => by
    obtain ⟨j, hj, hji, rfl⟩ := mem_take_iff.1 hx
    have := List.not_of_lt_findIdx (p := fun x => decide (rowKey l < rowKey x)) (xs := xs) hji
    simp at this
    omega
  have hge : ∀ x ∈ xs.drop (insAt l xs), rowKey l < rowKey x := fun x hx => by
    obtain ⟨j, hj, rfl⟩ := List.getElem_of_mem hx
    have hk : insAt l xs < xs.length := by simp at hj; omega
    have h1 : decide (rowKey l < rowKey (xs[insAt l xs])) = true := List.findIdx_getElem (p := fun x => decide (rowKey l < rowKey x)) (xs := xs) (w := hk)
    have h1 := of_decide_eq_true h1
    rw [List.getElem_drop]
    rcases Nat.eq_zero_or_pos j with e | e
    · subst e; simpa using h1
    · have := (List.pairwise_iff_getElem.1 h) (insAt l xs) (insAt l xs + j) hk (by simp at hj; omega) (by omega)
      omega
  rw [List.pairwise_append]
  refine ⟨h.sublist (List.take_sublist _ _), ?_, fun a ha b hb => ?_⟩
  · rw [List.pairwise_cons]
    exact ⟨fun b hb => by have := hge b hb; omega, h.sublist (List.drop_sublist _ _)⟩
  · have := hlt a ha
    rcases List.mem_cons.1 hb with rfl | hb
    · exact this
    · have := hge b hb; omega
def mkLink (a b : Int) : List Int := [min a b, max a b]
theorem l1Min_eq (a b : Int) : D.spec_l1Min a b = some (min a b) := by
  unfold D.spec_l1Min
  by_cases h : a < b
  · simp only [h, decide_true, cond_true]; congr 1; omega
  · simp only [h, decide_false, cond_false]; congr 1; omega
theorem l1Max_eq2 (a b : Int) : D.spec_l1Max a b = some (max a b) := by
  unfold D.spec_l1Max
  by_cases h : b < a
  · simp only [h, decide_true, cond_true]; congr 1; omega
  · simp only [h, decide_false, cond_false]; congr 1; omega
theorem sortedLink_eq (a b : Int) : D.impl_sortedLink a b = some (mkLink a b) := by
  unfold D.impl_sortedLink mkLink
  congr 2
  · split <;> omega
  · congr 1; split <;> omega

theorem l9Link_eq {xs : List (List Int)} {a b : Int} (hg : ∀ x ∈ xs, rowGood x) (hl : rowGood (mkLink a b)) (hx : xs.length ≤ 1000000) : D.spec_l9Link xs a b = some (ins (mkLink a b) xs) := by
  unfold D.spec_l9Link
  rw [l1Min_eq, Option.bind_some, l1Max_eq2, Option.bind_some]
  have el : ([min a b, max a b] : List Int) = mkLink a b := rfl
  simp only [el]
  have hk := List.findIdx_le_length (p := fun x => decide (rowKey (mkLink a b) < rowKey x)) (xs := xs)
  generalize hkk : insAt (mkLink a b) xs = k
  have hkl : k ≤ xs.length := by rw [← hkk]; exact hk
  generalize hL : mkLink a b = l at *
  have hlo : ∀ i (hi : i < xs.length), i < k → D.spec_l1Less l xs[i] = some false := fun i hi hik => by
    rw [less_key hl (hg _ (List.getElem_mem hi))]
    have := List.not_of_lt_findIdx (p := fun x => decide (rowKey l < rowKey x)) (xs := xs) (i := i) (by unfold insAt at hkk; omega)
    simp at this
    simp; omega
  have hhi : ∀ (h : k < xs.length), D.spec_l1Less l xs[k] = some true := fun h => by
    rw [less_key hl (hg _ (List.getElem_mem h))]
    unfold insAt at hkk
    have h1 : decide (rowKey l < rowKey (xs[xs.findIdx fun x => decide (rowKey l < rowKey x)]'(by rw [hkk]; exact h))) = true := List.findIdx_getElem (p := fun x => decide (rowKey l < rowKey x)) (xs := xs) (w := by rw [hkk]; exact h)
    simp only [hkk] at h1
    rw [h1]
  let st : Nat → List Int × List (List Int) × Bool × Int := fun i => if i ≤ k then (l, xs.take i, false, (i : Int)) else (l, xs.take k ++ l :: (xs.drop k).take (i - k), true, (i : Int))
  have hst : st xs.length = (l, if k = xs.length then xs else ins l xs, decide (k < xs.length), (xs.length : Int)) := by
    by_cases e : k = xs.length
    · simp [st, e]
    · have h1 : ¬ xs.length ≤ k := by omega
      have h2 : k < xs.length := by omega
      simp only [st, h1, if_false, e, h2, decide_true]
      unfold ins; rw [hkk, List.take_of_length_le (l := xs.drop k) (by simp)]
  refine (loop_to st xs.length (l, if k = xs.length then xs else ins l xs, decide (k < xs.length)) (by simp [st]) (fun i hi => ?_) ?_).trans ?_
  · by_cases h1 : i < k
    · have e1 : st i = (l, xs.take i, false, (i : Int)) := by simp only [st]; rw [if_pos (by omega)]
      have e2 : st (i + 1) = (l, xs.take (i + 1), false, ((i + 1 : Nat) : Int)) := by simp only [st]; rw [if_pos (by omega)]
      rw [e1, e2]
      simp only [dlt hi, cond_true, Bool.not_false, idx_nat hi, Option.bind_some, hlo i hi h1, cond_false, wi (show i < 4611686018427387904 by omega)]
      rw [appendD_ok (by simp; omega), Option.bind_some, List.take_succ_eq_append_getElem hi]
    · by_cases h2 : i = k
      · subst h2
        have e1 : st i = (l, xs.take i, false, (i : Int)) := by simp only [st]; rw [if_pos (by omega)]
        have e2 : st (i + 1) = (l, xs.take i ++ l :: (xs.drop i).take 1, true, ((i + 1 : Nat) : Int)) := by simp only [st]; rw [if_neg (by omega)]; congr; omega
        rw [e1, e2]
        simp only [dlt hi, cond_true, Bool.not_false, idx_nat hi, Option.bind_some, hhi hi, wi (show i < 4611686018427387904 by omega)]
        rw [appendD_ok (by simp; omega), Option.bind_some, appendD_ok (by simp; omega), Option.bind_some]
        have : (xs.drop i).take 1 = [xs[i]] := by rw [List.drop_eq_getElem_cons hi, List.take_succ_cons, List.take_zero]
        rw [this]; simp
      · have e1 : st i = (l, xs.take k ++ l :: (xs.drop k).take (i - k), true, (i : Int)) := by simp only [st]; rw [if_neg (by omega)]
        have e2 : st (i + 1) = (l, xs.take k ++ l :: (xs.drop k).take (i + 1 - k), true, ((i + 1 : Nat) : Int)) := by simp only [st]; rw [if_neg (by omega)]
        rw [e1, e2]
        simp only [dlt hi, cond_true, Bool.not_true, cond_false, Option.bind_some, idx_nat hi, wi (show i < 4611686018427387904 by omega)]
        rw [appendD_ok (by simp; omega), Option.bind_some]
        have : (xs.drop k).take (i + 1 - k) = (xs.drop k).take (i - k) ++ [xs[i]] := by
          rw [show i + 1 - k = (i - k) + 1 by omega, List.take_succ_eq_append_getElem (by simp; omega)]
          congr 2
          rw [List.getElem_drop]; congr 1; omega
        rw [this]; simp
  · rw [hst]
    simp only [dnlt, cond_false]
  · by_cases e : k = xs.length
    · simp only [e, if_true, Nat.lt_irrefl, decide_false, Bool.not_false, cond_true]
      rw [appendD_ok (by simp; omega), Option.bind_some]
      unfold ins; rw [hkk, e]; simp
    · have h2 : k < xs.length := by omega
      simp only [e, if_false, h2, decide_true, Bool.not_true, cond_false]
end Go.Sx

/- Who is reached in a net of sets. Plain. -/
namespace Go.Sx
/-- a net over n things: sets of numbers below n -/
structure Net (A : List Int) (n : Nat) : Prop where
  len : A.length = n
  vs : ∀ u, u < n → VS (A.getD u 0)
  lt : ∀ u w, u < n → nb A u w = true → w < n
theorem FOk.net {A : List Int} {n : Nat} (h : FOk A n) : Net A n := ⟨h.len, h.vs, h.lt⟩
/-- who is reached from v within W -/
structure Rch (A : List Int) (W : Int) (v : Nat) (S : Int) : Prop where
  vs : VS S
  me : has S v = true
  step : ∀ x y, has S x = true → nb A x y = true → has W y = true → has S y = true
  least : ∀ T : Nat → Prop, T v → (∀ x y, T x → nb A x y = true → has W y = true → T y) → ∀ x, has S x = true → T x

theorem reach_ok {A : List Int} {n : Nat} (hn : n ≤ 16) (hA : Net A n) {v : Nat} (hv : v < n) {W : Int} (hW : VS W) : ∃ S, D.impl_reach A (v : Int) W = some S ∧ Rch A W v S ∧ ∀ x, has S x = true → x < n := by
  unfold D.impl_reach
  rw [impl_one_eq, Option.bind_some]
  refine loop_then (fun S => VS S ∧ has S v = true ∧ (∀ x, has S x = true → x < n) ∧ ∀ T : Nat → Prop, T v → (∀ x y, T x → nb A x y = true → has W y = true → T y) → ∀ x, has S x = true → T x) (fun S => n - (elems S).length)
    (fun S => Rch A W v S ∧ ∀ x, has S x = true → x < n) ?_ ?_ (fun r hr => ⟨r, rfl, hr⟩)
  · rintro S ⟨hS, hv', hlt, hT⟩
    have hle := elems_len S
    simp only [list_eq S hS, Option.bind_some]
    have hin := loop_then (step := (fun (s_223 : Int × Int) => match s_223 with | (x_226, x_227) => cond (decide (x_227 < ((elems S).length : Int))) ((idx (elems S) x_227).bind fun e_246 => (idx A e_246).bind fun e_252 => some (.inl ((ior .u32 x_226 (iand .u32 e_252 W)), (IntKind.i64.wrap (x_227 + 1))))) (some (.inr x_226)))) (s := (S, 0)) (k := fun r => some r) (Q := fun X : Int => VS X ∧ ∀ y, has X y = true ↔ has S y = true ∨ ∃ u : Nat, has S u = true ∧ nb A u y = true ∧ has W y = true)
      (fun s => ∃ k : Nat, s.2 = (k : Int) ∧ k ≤ (elems S).length ∧ VS s.1 ∧ ∀ y, has s.1 y = true ↔ has S y = true ∨ ∃ u : Nat, (u : Int) ∈ (elems S).take k ∧ nb A u y = true ∧ has W y = true) (fun s => (elems S).length - s.2.toNat) (fun X => VS X ∧ ∀ y, has X y = true ↔ has S y = true ∨ ∃ u : Nat, has S u = true ∧ nb A u y = true ∧ has W y = true)
      ?_ ⟨0, rfl, by omega, hS, fun y => by simp⟩ (fun r hr => ⟨r, rfl, hr⟩)
    · obtain ⟨X, hX, hX1, hX2⟩ := hin
      rw [Option.bind_eq_some_iff] at hX
      obtain ⟨z, e1, e2⟩ := hX
      cases e2
      rw [e1, Option.bind_some]
      by_cases hc : X = S
      · subst hc
        simp only [beq_self_eq_true, cond_true]
        refine ⟨_, rfl, ⟨hS, hv', fun x y h1 h2 h3 => (hX2 y).2 (.inr ⟨x, h1, h2, h3⟩), hT⟩, hlt⟩
      · have e3 : (X == S) = false := by simpa using hc
        simp only [e3, cond_false]
        have hXlt : ∀ x, has X x = true → x < n := fun x hx => by
          rcases (hX2 x).1 hx with h | ⟨u, h1, h2, _⟩
          · exact hlt x h
          · exact hA.lt u x (hlt u h1) h2
        refine ⟨_, rfl, ⟨hX1, (hX2 v).2 (.inl hv'), hXlt, fun T h1 h2 x hx => ?_⟩, ?_⟩
        · rcases (hX2 x).1 hx with h | ⟨u, h3, h4, h5⟩
          · exact hT T h1 h2 x h
          · exact h2 u x (hT T h1 h2 u h3) h4 h5
        · -- one more at least
          obtain ⟨w, hw, hws⟩ : ∃ w : Nat, has X w = true ∧ has S w = false := by
            apply Classical.byContradiction
            intro hno
            refine hc (hX1.ext hS (fun w _ => ?_))
            rw [Bool.eq_iff_iff]
            refine ⟨fun h => ?_, fun h => (hX2 w).2 (.inl h)⟩
            cases hh : has S w
            · exact absurd ⟨w, h, hh⟩ hno
            · rfl
          have h1 : ((w : Int) :: elems S).length ≤ (elems X).length := nodup_le (List.nodup_cons.2 ⟨fun hm => by rw [mem_elems_nat hS, hws] at hm; exact Bool.noConfusion hm, (elems_inc S).nodup⟩) (fun x hx => by
            rcases List.mem_cons.1 hx with rfl | hx
            · rw [mem_elems_nat hX1]; exact hw
            · obtain ⟨u, _, h2, rfl⟩ := mem_elems.1 hx
              rw [mem_elems_nat hX1]; exact (hX2 u).2 (.inl h2))
          have h2 : (elems X).length ≤ n := (elems_inc X).short (n := n) (fun x hx => by
            obtain ⟨u, _, h2, rfl⟩ := mem_elems.1 hx
            have := hXlt u h2; omega)
          simp at h1
          show n - (elems X).length < n - (elems S).length
          omega
    · rintro ⟨X, _⟩ ⟨k, rfl, hk, hX1, hX2⟩
      dsimp only at hX1 hX2 ⊢
      by_cases hkl : k < (elems S).length
      · obtain ⟨u, _, h2, h3⟩ := mem_elems.1 (List.getElem_mem hkl)
        have hu := hlt u h2
        have hAu : idx A (u : Int) = some (A.getD u 0) := by rw [idx_nat (by rw [hA.len]; exact hu), getD_lt (by rw [hA.len]; exact hu)]
        simp only [dlt hkl, cond_true, idx_nat hkl, Option.bind_some, h3, hAu, wi (show k < 4611686018427387904 by omega)]
        refine ⟨_, rfl, ⟨k + 1, rfl, hkl, VS.ior _ _, fun y => ?_⟩, by dsimp only; omega⟩
        dsimp only
        rw [has_ior hX1 (VS.iand _ _), Bool.or_eq_true, has_iand (hA.vs u hu) hW, Bool.and_eq_true, hX2, List.take_succ_eq_append_getElem hkl, h3]
        constructor
        · rintro ((h | ⟨u', h4, h5⟩) | ⟨h4, h5⟩)
          · exact .inl h
          · exact .inr ⟨u', List.mem_append_left _ h4, h5⟩
          · exact .inr ⟨u, List.mem_append_right _ (by simp), h4, h5⟩
        · rintro (h | ⟨u', h4, h5, h6⟩)
          · exact .inl (.inl h)
          · rcases List.mem_append.1 h4 with h4 | h4
            · exact .inl (.inr ⟨u', h4, h5, h6⟩)
            · simp at h4
              obtain rfl : u' = u := by omega
              exact .inr ⟨h5, h6⟩
      · obtain rfl : k = (elems S).length := by omega
        simp only [dnlt, cond_false]
        refine ⟨_, rfl, hX1, fun y => ?_⟩
        rw [hX2, List.take_length]
        constructor
        · rintro (h | ⟨u, h1, h2⟩)
          · exact .inl h
          · exact .inr ⟨u, (mem_elems_nat hS).1 h1, h2⟩
        · rintro (h | ⟨u, h1, h2⟩)
          · exact .inl h
          · exact .inr ⟨u, (mem_elems_nat hS).2 h1, h2⟩
  · refine ⟨VS.ishl _ _, by rw [has_one (by omega)]; simp, fun x hx => ?_, fun T h1 _ x hx => ?_⟩
    · rw [has_one (by omega)] at hx
      have := of_decide_eq_true hx; omega
    · rw [has_one (by omega)] at hx
      rw [of_decide_eq_true hx]; exact h1

/-! ### nets of links -/
theorem join_net {n : Nat} (hn : n ≤ 16) {X : List Int} (hX : Net X n) {v t : Nat} (hv : v < n) (ht : t < n) (hvt : v ≠ t) :
    ∃ y, D.impl_nets_join X (v : Int) (t : Int) = some y ∧ Net y n ∧ ∀ u w, u < n → nb y u w = (nb X u w || (decide (u = v) && decide (w = t)) || (decide (u = t) && decide (w = v))) := by
  have hl := hX.len; have hV := hX.vs
  have hx : ∀ k, k < n → idx X (k : Int) = some (X.getD k 0) := fun k hk => by rw [idx_nat (by omega), getD_lt (by omega)]
  have hform : ∀ u w, u < n → nb ((X.set v (ior .u32 (X.getD v 0) (ishl .u32 1 (t : Int)))).set t (ior .u32 (X.getD t 0) (ishl .u32 1 (v : Int)))) u w = (nb X u w || (decide (u = v) && decide (w = t)) || (decide (u = t) && decide (w = v))) := fun u w hu => by
    unfold nb
    rw [List.getD_eq_getElem?_getD, List.getElem?_set]
    by_cases h : t = u
    · subst h
      rw [if_pos rfl, if_pos (by simp; omega), Option.getD_some, has_ior (hV _ hu) (VS.ishl _ _), has_one (by omega)]
      have : decide (t = v) = false := decide_eq_false (fun e => hvt e.symm)
      rw [this]; simp
    · rw [if_neg h, List.getElem?_set]
      have e2 : decide (u = t) = false := decide_eq_false (fun e => h e.symm)
      by_cases h2 : v = u
      · subst h2
        rw [if_pos rfl, if_pos (by omega), Option.getD_some, has_ior (hV _ hu) (VS.ishl _ _), has_one (by omega), e2]
        simp
      · have e3 : decide (u = v) = false := decide_eq_false (fun e => h2 e.symm)
        rw [if_neg h2, ← List.getD_eq_getElem?_getD, e2, e3]; simp
  refine ⟨(X.set v (ior .u32 (X.getD v 0) (ishl .u32 1 (t : Int)))).set t (ior .u32 (X.getD t 0) (ishl .u32 1 (v : Int))), ?_, ⟨by simp [hl], fun u hu => ?_, fun u w hu hw => ?_⟩, hform⟩
  · unfold D.impl_nets_join
    have e1 : idx (X.set v (ior .u32 (X.getD v 0) (ishl .u32 1 (t : Int)))) (t : Int) = some (X.getD t 0) := by
      rw [idx_nat (by simp; omega), List.getElem_set_ne hvt]
      exact congrArg some (getD_lt (by omega) 0).symm
    simp only [hx v hv, Option.bind_some, impl_one_eq, Int.toNat_natCast, e1]
  · rw [List.getD_eq_getElem?_getD, List.getElem?_set]
    by_cases h : t = u
    · rw [if_pos h, if_pos (by simp; omega)]; exact VS.ior _ _
    · rw [if_neg h, List.getElem?_set]
      by_cases h2 : v = u
      · rw [if_pos h2, if_pos (by omega)]; exact VS.ior _ _
      · rw [if_neg h2, ← List.getD_eq_getElem?_getD]; exact hV u hu
  · rw [hform u w hu] at hw
    simp only [Bool.or_eq_true, Bool.and_eq_true, decide_eq_true_eq] at hw
    rcases hw with (h | h) | h
    · exact hX.lt u w hu h
    · omega
    · omega
end Go.Sx

/- Trees of cliques, by links that join what is apart: both take the same ones. Plain. -/
namespace Go.Sx
/-- a link of two numbers below n, the lesser one first -/
structure KOk (n : Nat) (K : List (List Int)) : Prop where
  nd : K.Nodup
  lk : ∀ l ∈ K, LinkIn n l
theorem LinkIn.good {n : Nat} (hn : n ≤ 1000) {l : List Int} (h : LinkIn n l) : rowGood l := by
  obtain ⟨a, b, rfl, h1, h2⟩ := h
  refine ⟨rfl, ?_⟩
  simp only [List.getD_cons_zero, List.getD_cons_succ]
  omega
theorem KOk.len {n : Nat} (hn : n ≤ 16) {K : List (List Int)} (h : KOk n K) : K.length ≤ 256 := by
  have h1 : (K.map rowKey).Nodup := by
    unfold List.Nodup
    rw [List.pairwise_map]
    refine List.Pairwise.imp_of_mem (fun {a b} ha hb hab e => ?_) h.nd
    exact hab (row_inj ((h.lk a ha).good (by omega)) ((h.lk b hb).good (by omega)) e)
  have h2 := nodup_le (m := (List.range 16).flatMap (fun a => (List.range 16).map fun b => ((a : Nat) : Int) * 1048576 + ((b : Nat) : Int))) h1 (fun x hx => by
    obtain ⟨l, hl, rfl⟩ := List.mem_map.1 hx
    obtain ⟨a, b, rfl, h3, h4⟩ := h.lk l hl
    exact List.mem_flatMap.2 ⟨a, List.mem_range.2 (by omega), List.mem_map.2 ⟨b, List.mem_range.2 (by omega), rfl⟩⟩)
  have h3 : ((List.range 16).flatMap (fun a => (List.range 16).map fun b => ((a : Nat) : Int) * 1048576 + ((b : Nat) : Int))).length = 256 := by decide +kernel
  rw [h3, List.length_map] at h2
  exact h2

/-- is there a way by links? -/
def WayP (K : List (List Int)) (a b : Int) : Prop := ∀ T : Int → Prop, T a → (∀ x y, T x → Lk K x y → T y) → T b
theorem Lk.perm {K K' : List (List Int)} (h : K.Perm K') {x y : Int} : Lk K x y ↔ Lk K' x y := by
  unfold Lk; rw [h.mem_iff, h.mem_iff]
theorem WayP.perm {K K' : List (List Int)} (h : K.Perm K') {a b : Int} : WayP K a b ↔ WayP K' a b := by
  unfold WayP
  constructor
  · intro hh T h1 h2; exact hh T h1 (fun x y hx hl => h2 x y hx ((Lk.perm h).1 hl))
  · intro hh T h1 h2; exact hh T h1 (fun x y hx hl => h2 x y hx ((Lk.perm h).2 hl))

/-- the net of some links -/
structure NetL (A : List Int) (n : Nat) (K : List (List Int)) : Prop where
  net : Net A n
  nb : ∀ x y, x < n → y < n → (nb A x y = true ↔ Lk K (x : Int) (y : Int))
end Go.Sx

/- The bags of an order are a path of bags; their order. FnPathBags, plain. -/
namespace Go.Sx
theorem GOk.shr {g : List (List Int)} (hg : GOk g) : Sh2 g := by
  have h16 := hg.n16
  exact ⟨by unfold Sh; omega, fun r hr => by have := (hg.mem0 hr).1; unfold Sh; omega⟩

/-- what a path of bags of a graph is -/
structure PB (g bags : List (List Int)) : Prop where
  n16 : bags.length ≤ 16
  sets : ∀ i, i < bags.length → SetOf (bags.getD i []) g.length
  some : ∀ i, i < bags.length → bags.getD i [] ≠ []
  all : ∀ v : Nat, v < g.length → ∃ i, i < bags.length ∧ (v : Int) ∈ bags.getD i []
  edge : ∀ u v : Nat, u < g.length → adj g u v → ∃ i, i < bags.length ∧ (u : Int) ∈ bags.getD i [] ∧ (v : Int) ∈ bags.getD i []
  run : ∀ (v : Nat) (i j k : Nat), i < j → j < k → k < bags.length → (v : Int) ∈ bags.getD i [] → (v : Int) ∈ bags.getD k [] → (v : Int) ∈ bags.getD j []

theorem PB.sh {g bags : List (List Int)} (hg : GOk g) (h : PB g bags) : Sh2 bags := by
  have := h.n16; have := hg.n16
  refine ⟨by unfold Sh; omega, fun b hb => ?_⟩
  obtain ⟨i, hi, rfl⟩ := List.getElem_of_mem hb
  have := (h.sets i hi).length_le (by omega)
  rw [getD_lt hi] at this
  unfold Sh; omega

section
variable {g : List (List Int)} {o : List Int} (hg : GOk g) (ho : OOk g o)
include hg ho
end

/-! ### the order's separation, as the program has it -/
section
variable {g : List (List Int)} {o : List Int} (hg : GOk g) (ho : OOk g o)
include hg ho
end

section
variable {g bags : List (List Int)} (hg : GOk g) (h : PB g bags)
include hg h
end

section
variable {g : List (List Int)} {o : List Int} (hg : GOk g) (ho : OOk g o)
include hg ho
end

end Go.Sx

/- DecompOk: the reference's and the program's are one. Plain. -/
namespace Go.Sx
theorem link_iff (n : Nat) (l : List Int) : LinkIn n l ↔ l.length = 2 ∧ SetOf l (n : Int) := by
  constructor
  · rintro ⟨a, b, rfl, h1, h2⟩
    refine ⟨rfl, by simp [Inc]; omega, fun x hx => ?_⟩
    simp at hx; omega
  · rintro ⟨h1, h2, h3⟩
    obtain ⟨x, y, rfl⟩ := list2 h1
    have a1 := h3 x (by simp); have a2 := h3 y (by simp)
    simp [Inc] at h2
    exact ⟨x.toNat, y.toNat, by rw [show ((x.toNat : Nat) : Int) = x by omega, show ((y.toNat : Nat) : Int) = y by omega], by omega, by omega⟩
def lkB (n : Nat) (l : List Int) : Bool := decide (l.length = 2) && setB l (n : Int)
theorem lkB_iff (n : Nat) (l : List Int) : lkB n l = true ↔ LinkIn n l := by
  unfold lkB
  rw [link_iff, Bool.and_eq_true, decide_eq_true_eq, setB_iff]

section
variable {B K : List (List Int)} (hB : Sh2 B) (hK : Sh2 K)
include hB hK
theorem l9Form_eq : D.spec_l9Form B K = some ((decide (1 ≤ B.length) && decide (B.length ≤ 16)) && decide (K.length ≤ 16) && K.all (lkB B.length)) := by
  have hBl : B.length ≤ 4294967296 := hB.1
  have hKl : K.length ≤ 4294967296 := hK.1
  unfold D.spec_l9Form
  rw [l1In_eq, Option.bind_some]
  have e1 : (decide ((1 : Int) ≤ (B.length : Int)) && decide ((B.length : Int) ≤ 16)) = (decide (1 ≤ B.length) && decide (B.length ≤ 16)) := by
    congr 1 <;> rw [decide_eq_decide] <;> omega
  rw [e1]
  cases hb : (decide (1 ≤ B.length) && decide (B.length ≤ 16))
  · simp
  · by_cases hk : K.length ≤ 16
    · have e2 : decide ((16 : Int) < (K.length : Int)) = false := by rw [decide_eq_false_iff_not]; omega
      rw [e2, decide_eq_true hk, Bool.not_true, Bool.or_self, cond_false, Bool.and_self, Bool.true_and]
      refine (loop_allb K.length (fun i => lkB B.length (K.getD i [])) false (fun i hi => ?_) ?_ rfl rfl).trans ?_
      · have hs := hK.2 _ (List.getElem_mem hi)
        simp only [dlt hi, cond_true, idx_nat hi, Option.bind_some, wi (show i < 4611686018427387904 by omega), getD_lt hi]
        unfold lkB
        by_cases h2 : K[i].length = 2
        · have : ((K[i].length : Int) != 2) = false := by simp; omega
          rw [this, cond_false, l1Set_eq _ _ hs (by omega) (by omega), Option.bind_some, decide_eq_true h2, Bool.true_and, Option.bind_some]
          cases setB K[i] (B.length : Int) <;> rfl
        · have : ((K[i].length : Int) != 2) = true := by simp; omega
          rw [this, cond_true, Option.bind_some, decide_eq_false h2, Bool.false_and]; rfl
      · simp only [dnlt, cond_false]
      · rw [range_all_list K (lkB B.length) _ (fun i hi => by rw [getD_lt hi])]
    · have e2 : decide ((16 : Int) < (K.length : Int)) = true := by rw [decide_eq_true_eq]; omega
      rw [e2, decide_eq_false hk, Bool.or_true, cond_true]; simp

theorem goodLinks_eq (hn : B.length ≤ 16) : D.impl_goodLinks K (B.length : Int) = some (K.all (lkB B.length)) := by
  have hKl : K.length ≤ 4294967296 := hK.1
  unfold D.impl_goodLinks D.slices_ContainsFunc_int64_int64__impl_goodLinks_1 D.slices_IndexFunc_int64_int64__impl_goodLinks_1
  have key := loop_find (ρ := Unit ⊕ Int) (step := (fun (x_40 : Int) => cond (decide (x_40 < (K.length : Int))) ((idx K x_40).bind fun e_60 => (D.impl_goodLinks_1 e_60 (B.length : Int)).bind fun y_66 => cond y_66 (some (.inr (.inr x_40))) (some (.inl (IntKind.i64.wrap (x_40 + 1))))) (some (.inr (.inl ()))))) K.length (fun i => if lkB B.length (K.getD i []) then none else some (.inr (i : Int))) (.inl ()) (fun i hi => by
      have hs := hK.2 _ (List.getElem_mem hi)
      simp only [dlt hi, cond_true, idx_nat hi, Option.bind_some, wi (show i < 4611686018427387904 by omega), getD_lt hi]
      unfold D.impl_goodLinks_1 lkB
      by_cases h2 : K[i].length = 2
      · have : ((K[i].length : Int) != 2) = false := by simp; omega
        rw [this, cond_false, increasing_eq _ _ hs (by omega) (by omega), Option.bind_some, decide_eq_true h2, Bool.true_and, Option.bind_some, Option.bind_some]
        cases setB K[i] (B.length : Int) <;> rfl
      · have : ((K[i].length : Int) != 2) = true := by simp; omega
        rw [this, cond_true, Option.bind_some, decide_eq_false h2, Bool.false_and]; rfl) (by simp only [dnlt, cond_false])
  rw [key, Option.bind_some]
  by_cases ha : K.all (lkB B.length) = true
  · have : (List.range K.length).findSome? (fun i => if lkB B.length (K.getD i []) then none else some (Sum.inr (α := Unit) (i : Int))) = none := by
      rw [List.findSome?_eq_none_iff]
      intro i hi
      have hi' := List.mem_range.1 hi
      rw [if_pos]
      rw [getD_lt hi']
      exact List.all_eq_true.1 ha _ (List.getElem_mem hi')
    rw [this, ha]; rfl
  · have ha : K.all (lkB B.length) = false := by simpa using ha
    obtain ⟨x, hx, hxb⟩ := List.all_eq_false.1 ha
    obtain ⟨i, hi, rfl⟩ := List.getElem_of_mem hx
    cases hf : (List.range K.length).findSome? (fun i => if lkB B.length (K.getD i []) then none else some (Sum.inr (α := Unit) (i : Int))) with
    | none =>
      rw [List.findSome?_eq_none_iff] at hf
      have := hf i (List.mem_range.2 hi)
      rw [getD_lt hi, if_neg (by simpa using hxb)] at this
      cases this
    | some z =>
      obtain ⟨j, _, hj⟩ := List.exists_of_findSome?_eq_some hf
      split at hj
      · cases hj
      · cases hj
        have : decide ((0 : Int) ≤ (j : Int)) = true := by rw [decide_eq_true_eq]; omega
        simp [ha]

open Classical in
theorem reached_eq (sel : List Int) (hl : K.length ≤ 1000000) (hp : Pairs K) (hs : sel.length ≤ 1000000) (hne : sel ≠ []) (hn : sel.Nodup) :
    ∃ y, D.spec_l9Reached B K sel = some y ∧ (y = (sel.length : Int) ↔ Conn K sel) := by
  obtain ⟨y, h1, m, rfl, h2, h3, h4⟩ := l9Reached_ok B K sel hl hp hs hne
  refine ⟨_, h1, fun h m' hm' x hx => ?_, fun hc => ?_⟩
  · have hxm : x ∈ m := by
      apply Classical.byContradiction
      intro hno
      have := nodup_le (l := x :: m) (m := sel) (List.nodup_cons.2 ⟨hno, h2⟩) (fun z hz => by
        rcases List.mem_cons.1 hz with rfl | hz
        · exact hx
        · exact h3.sub z hz)
      simp at this; omega
    exact h4 m' hm' x hxm
  · rw [nodup_all h2 hn h3.sub (hc m h3)]
end

def allB (n : Nat) : List Int := (List.range n).map Int.ofNat
theorem allB_nodup (n : Nat) : (allB n).Nodup := by
  refine Inc.nodup ?_
  unfold Inc allB
  rw [List.pairwise_map]
  exact List.Pairwise.imp (fun {a b} h => by show (a : Int) < (b : Int); omega) List.pairwise_lt_range
theorem allB_ne {n : Nat} (h : 1 ≤ n) : allB n ≠ [] := by
  intro hc
  have := congrArg List.length hc
  simp [allB] at this; omega

/-! ### edges, listed -/
theorem foldl_if_mem {α : Type} (p : Nat → Bool) (f : Nat → α) (s0 : List α) (x : α) : ∀ n, x ∈ (List.range n).foldl (fun s i => if p i then s ++ [f i] else s) s0 ↔ x ∈ s0 ∨ ∃ i, i < n ∧ p i = true ∧ x = f i
  | 0 => by simp
  | n + 1 => by
    rw [List.range_succ, List.foldl_append, List.foldl_cons, List.foldl_nil]
    have ih := foldl_if_mem p f s0 x n
    by_cases hp : p n = true
    · rw [if_pos hp, List.mem_append, ih]
      constructor
      · rintro ((h | ⟨i, h1, h2⟩) | h)
        · exact .inl h
        · exact .inr ⟨i, by omega, h2⟩
        · simp at h; exact .inr ⟨n, by omega, hp, h⟩
      · rintro (h | ⟨i, h1, h2, h3⟩)
        · exact .inl (.inl h)
        · by_cases e : i = n
          · subst e; exact .inr (by simp [h3])
          · exact .inl (.inr ⟨i, by omega, h2, h3⟩)
    · rw [if_neg hp, ih]
      constructor
      · rintro (h | ⟨i, h1, h2⟩)
        · exact .inl h
        · exact .inr ⟨i, by omega, h2⟩
      · rintro (h | ⟨i, h1, h2, h3⟩)
        · exact .inl h
        · by_cases e : i = n
          · subst e; exact absurd h2 hp
          · exact .inr ⟨i, by omega, h2, h3⟩
theorem mem_rowF (r : List Int) (u : Nat) (s : List (List Int)) (x : List Int) : x ∈ rowF r u s ↔ x ∈ s ∨ ∃ v ∈ r, (u : Int) < v ∧ x = [(u : Int), v] := by
  unfold rowF
  have := foldl_if_mem (fun i => decide ((u : Int) < r.getD i 0)) (fun i => [(u : Int), r.getD i 0]) s x r.length
  simp only [decide_eq_true_eq] at this
  rw [this]
  constructor
  · rintro (h | ⟨i, h1, h2, h3⟩)
    · exact .inl h
    · rw [getD_lt h1] at h2 h3
      exact .inr ⟨r[i], List.getElem_mem h1, h2, h3⟩
  · rintro (h | ⟨v, h1, h2, h3⟩)
    · exact .inl h
    · obtain ⟨i, hi, rfl⟩ := List.getElem_of_mem h1
      exact .inr ⟨i, hi, by rw [getD_lt hi]; exact h2, by rw [getD_lt hi]; exact h3⟩
theorem mem_edgesF {g : List (List Int)} (hg : GOk g) (x : List Int) : x ∈ edgesF g ↔ ∃ u v : Nat, u < g.length ∧ adj g u v ∧ u < v ∧ x = [(u : Int), (v : Int)] := by
  have key : ∀ n, n ≤ g.length → (x ∈ (List.range n).foldl (fun s u => rowF (row g u) u s) [] ↔ ∃ u v : Nat, u < n ∧ adj g u v ∧ u < v ∧ x = [(u : Int), (v : Int)]) := by
    intro n
    induction n with
    | zero => intro _; simp
    | succ n ih =>
      intro hn
      rw [List.range_succ, List.foldl_append, List.foldl_cons, List.foldl_nil, mem_rowF, ih (by omega)]
      constructor
      · rintro (⟨u, v, h1, h2⟩ | ⟨v, h1, h2, h3⟩)
        · exact ⟨u, v, by omega, h2⟩
        · obtain ⟨w, rfl, hw, ha⟩ := hg.mem (by omega) h1
          exact ⟨n, w, by omega, ha, by omega, h3⟩
      · rintro ⟨u, v, h1, h2, h3, h4⟩
        by_cases e : u = n
        · subst e; exact .inr ⟨v, h2, by omega, h4⟩
        · exact .inl ⟨u, v, by omega, h2, h3, h4⟩
  exact key g.length (Nat.le_refl _)

section
variable {g B K : List (List Int)} (hg : GOk g) (hB : Sh2 B) (hK : Sh2 K)
include hg hB hK
open Classical in
theorem spec_DecompOk_eq : D.spec_DecompOk g B K = some (decide (TB g B K)) := by
  have h16 := hg.n16
  have hKl : K.length ≤ 4294967296 := hK.1
  have hBl : B.length ≤ 4294967296 := hB.1
  unfold D.spec_DecompOk
  rw [spec_GraphOk_eq g hg.shr, (gB_iff g).2 hg]
  simp only [Option.bind_some, Bool.not_true, cond_false]
  unfold D.spec_l9Tree
  rw [l9Form_eq hB hK, Option.bind_some]
  by_cases hform : (1 ≤ B.length ∧ B.length ≤ 16 ∧ K.length + 1 = B.length) ∧ ∀ l ∈ K, LinkIn B.length l
  case neg =>
    have hT : ¬ TB g B K := fun h => hform ⟨⟨h.n1, h.n16, h.many⟩, h.lks⟩
    have e : (((decide (1 ≤ B.length) && decide (B.length ≤ 16)) && decide (K.length ≤ 16) && K.all (lkB B.length)) && ((K.length : Int) == IntKind.i64.wrap ((B.length : Int) - 1))) = false := by
      rw [w64 (by omega) (by omega)]
      cases hc : (((decide (1 ≤ B.length) && decide (B.length ≤ 16)) && decide (K.length ≤ 16) && K.all (lkB B.length)) && ((K.length : Int) == (B.length : Int) - 1))
      · rfl
      · exfalso
        simp only [Bool.and_eq_true, decide_eq_true_eq, beq_iff_eq, List.all_eq_true] at hc
        exact hform ⟨⟨hc.1.1.1.1, hc.1.1.1.2, by omega⟩, fun l hl => (lkB_iff _ _).1 (hc.1.2 l hl)⟩
    rw [e, cond_false, decide_eq_false hT]
    rfl
  case pos =>
    obtain ⟨⟨n1, n16, hm⟩, hlk⟩ := hform
    have hpairs : Pairs K := fun l hl => by obtain ⟨a, b, e, _⟩ := hlk l hl; exact ⟨a, b, e⟩
    have e : (((decide (1 ≤ B.length) && decide (B.length ≤ 16)) && decide (K.length ≤ 16) && K.all (lkB B.length)) && ((K.length : Int) == IntKind.i64.wrap ((B.length : Int) - 1))) = true := by
      rw [w64 (by omega) (by omega)]
      simp only [Bool.and_eq_true, decide_eq_true_eq, beq_iff_eq, List.all_eq_true]
      exact ⟨⟨⟨⟨n1, n16⟩, by omega⟩, fun l hl => (lkB_iff _ _).2 (hlk l hl)⟩, by omega⟩
    rw [e, cond_true, l1All_eq B.length (by omega), Option.bind_some]
    obtain ⟨y, e1, hy⟩ := reached_eq hB hK (allB B.length) (by omega) hpairs (by simp [allB]; omega) (allB_ne n1) (allB_nodup _)
    have hal : (allB B.length).length = B.length := by simp [allB]
    rw [hal] at hy
    have e1' : D.spec_l9Reached B K ((List.range B.length).map Int.ofNat) = some y := e1
    rw [e1', Option.bind_some, Option.bind_some, Option.bind_some]
    by_cases hc : Conn K (allB B.length)
    case neg =>
      have : (y == (B.length : Int)) = false := by rw [beq_eq_false_iff_ne]; exact fun h => hc (hy.1 h)
      rw [this, Bool.not_false, cond_true, decide_eq_false (fun h => hc h.tree)]
    case pos =>
      have : (y == (B.length : Int)) = true := by rw [beq_iff_eq]; exact hy.2 hc
      rw [this, Bool.not_true, cond_false]
      unfold D.spec_l1Size
      refine (loop_ck B.length (fun i => setB (B.getD i []) g.length) (.inl ()) (.inr false) (fun i hi => ?_) ?_).trans ?_
      · simp only [dlt hi, cond_true, idx_nat hi, Option.bind_some, l1Set_eq _ _ (hB.2 _ (List.getElem_mem hi)) (show (0 : Int) ≤ (g.length : Int) by omega) (by omega), wi (show i < 4611686018427387904 by omega), getD_lt hi]
        cases setB B[i] (g.length : Int) <;> rfl
      · simp only [dnlt, cond_false]
      · rw [range_all_list B (fun b => setB b g.length) _ (fun i hi => by rw [getD_lt hi])]
        by_cases hs : ∀ b ∈ B, SetOf b (g.length : Int)
        case neg =>
          have : (B.all fun b => setB b g.length) = false := by
            cases hh : (B.all fun b => setB b g.length)
            · rfl
            · exact absurd (fun b hb => (setB_iff _ _).1 (List.all_eq_true.1 hh b hb)) hs
          rw [this, cond_false, decide_eq_false (fun h => hs h.sets)]
        case pos =>
          have : (B.all fun b => setB b g.length) = true := List.all_eq_true.2 (fun b hb => (setB_iff _ _).2 (hs b hb))
          rw [this, cond_true]
          dsimp only
          rw [l1Edges_eq g hg, Option.bind_some]
          have hel : (edgesF g).length ≤ 256 := by
            obtain ⟨y, y1, y2, _⟩ := l1Edges_ok g hg
            rw [l1Edges_eq g hg] at y1
            cases y1; exact y2
          refine (loop_ck (edgesF g).length (fun i => B.any fun b => ((edgesF g).getD i []).all fun x => decide (x ∈ b)) (.inl ()) (.inr false) (fun i hi => ?_) ?_).trans ?_
          · obtain ⟨u, v, _, _, _, e2⟩ := (mem_edgesF hg _).1 (List.getElem_mem hi)
            simp only [dlt hi, cond_true, idx_nat hi, Option.bind_some, l9In_eq B K (edgesF g)[i] hB (by rw [e2]; simp [Sh]), wi (show i < 4611686018427387904 by omega), getD_lt hi]
            cases (B.any fun b => ((edgesF g)[i]).all fun x => decide (x ∈ b)) <;> rfl
          · simp only [dnlt, cond_false]
          · rw [range_all_list (edgesF g) (fun e => B.any fun b => e.all fun x => decide (x ∈ b)) _ (fun i hi => by rw [getD_lt hi])]
            by_cases hE : ∀ u v : Nat, u < g.length → adj g u v → ∃ b ∈ B, (u : Int) ∈ b ∧ (v : Int) ∈ b
            case neg =>
              have : ((edgesF g).all fun e => B.any fun b => e.all fun x => decide (x ∈ b)) = false := by
                cases hh : ((edgesF g).all fun e => B.any fun b => e.all fun x => decide (x ∈ b))
                · rfl
                · exfalso
                  refine hE (fun u v hu ha => ?_)
                  have hlt : ∀ u v : Nat, u < g.length → adj g u v → u < v → ∃ b ∈ B, (u : Int) ∈ b ∧ (v : Int) ∈ b := fun u v hu ha huv => by
                    obtain ⟨b, hb, hbb⟩ := List.any_eq_true.1 (List.all_eq_true.1 hh _ ((mem_edgesF hg _).2 ⟨u, v, hu, ha, huv, rfl⟩))
                    simp at hbb
                    exact ⟨b, hb, hbb⟩
                  rcases Nat.lt_trichotomy u v with c | c | c
                  · exact hlt u v hu ha c
                  · subst c; exact absurd ha (hg.irr u hu)
                  · obtain ⟨b, hb, h1, h2⟩ := hlt v u (hg.lt hu ha) (hg.sym u v hu ha) c
                    exact ⟨b, hb, h2, h1⟩
              rw [this, cond_false, decide_eq_false (fun h => hE h.edges)]
            case pos =>
              have : ((edgesF g).all fun e => B.any fun b => e.all fun x => decide (x ∈ b)) = true := List.all_eq_true.2 (fun e he => by
                obtain ⟨u, v, hu, ha, _, rfl⟩ := (mem_edgesF hg _).1 he
                obtain ⟨b, hb, h1, h2⟩ := hE u v hu ha
                exact List.any_eq_true.2 ⟨b, hb, by simp [h1, h2]⟩)
              rw [this, cond_true]
              dsimp only
              refine (loop_allb g.length (fun v => decide (withV B (v : Int) ≠ [] ∧ Conn K (withV B (v : Int)))) false (fun v hv => ?_) ?_ rfl rfl).trans ?_
              · have hwl : (withV B (v : Int)).length ≤ 16 := by
                  have := (withV_inc B (v : Int)).short (n := B.length) (fun x hx => by
                    obtain ⟨b, rfl, hb, _⟩ := mem_withV.1 hx; omega)
                  omega
                simp only [Option.bind_some, dlt hv, cond_true, l9With_eq B K (v : Int) hB (by omega), wi (show v < 4611686018427387904 by omega)]
                by_cases hne : withV B (v : Int) = []
                · rw [hne]; simp
                · have e0 : (((withV B (v : Int)).length : Int) == 0) = false := by
                    rw [beq_eq_false_iff_ne]
                    have := List.length_pos_iff.2 hne
                    omega
                  obtain ⟨y, e2, hy2⟩ := reached_eq hB hK (withV B (v : Int)) (by omega) hpairs (by omega) hne (withV_inc B (v : Int)).nodup
                  rw [e0, cond_false, e2, Option.bind_some, Option.bind_some]
                  by_cases hcv : Conn K (withV B (v : Int))
                  · have : (y != ((withV B (v : Int)).length : Int)) = false := by rw [bne_eq_false_iff_eq]; exact hy2.2 hcv
                    rw [this, cond_false, if_pos (decide_eq_true ⟨hne, hcv⟩)]
                  · have : (y != ((withV B (v : Int)).length : Int)) = true := by rw [bne_iff_ne]; exact fun h => hcv (hy2.1 h)
                    rw [this, cond_true, if_neg (by simpa using fun h => hcv)]
              · simp only [Option.bind_some, dnlt, cond_false]
              · congr 1
                rw [Bool.eq_iff_iff, all_forall, decide_eq_true_eq]
                simp only [decide_eq_true_eq]
                constructor
                · intro hv
                  exact ⟨n1, n16, hm, hlk, hs, hc, hE, fun v h => (hv v h).1, fun v h => (hv v h).2⟩
                · intro h v hv
                  exact ⟨h.some v hv, h.conn v hv⟩
end
end Go.Sx

/- DecompOk of the program. Plain. -/
namespace Go.Sx
theorem least_mem {s : Int} (hs : VS s) {k : Nat} (hk : has s k = true) (hm : ∀ v, v < k → has s v = false) : (elems s).head? = some (k : Int) := by
  obtain ⟨t, e⟩ := elems_head hs hk hm
  rw [e]; rfl
open Classical in
theorem connected_eq {A : List Int} {n : Nat} {K : List (List Int)} (hn : n ≤ 16) (h : NetL A n K) (hk : ∀ l ∈ K, LinkIn n l) {W : Int} (hW : VS W) (hlt : ∀ v, has W v = true → v < n) :
    D.impl_connected A W = some (decide (elems W ≠ [] ∧ Conn K (elems W))) := by
  unfold D.impl_connected
  by_cases hz : W = 0
  · subst hz
    have : elems 0 = [] := elems_zero
    simp [this]
  · have e1 : (W != 0) = true := by simpa using hz
    obtain ⟨v, hv32, e2, hv, hmin, _⟩ := least_eq hW hz
    obtain ⟨S, e3, hS, hSn⟩ := reach_ok hn h.net (hlt v hv) hW
    have hhead := least_mem hW hv hmin
    have hne : elems W ≠ [] := by intro e; rw [e] at hhead; cases hhead
    rw [e1, cond_true, e2, Option.bind_some, e3, Option.bind_some, Option.bind_some]
    congr 1
    rw [Bool.eq_iff_iff, beq_iff_eq, decide_eq_true_eq]
    have hsub : ∀ x, has S x = true → has W x = true := hS.least (fun x => has W x = true) hv (fun x y _ _ hy => hy)
    constructor
    · rintro rfl
      refine ⟨hne, fun m hm x hx => ?_⟩
      obtain ⟨u, _, hu, rfl⟩ := mem_elems.1 hx
      refine hS.least (fun z => (z : Int) ∈ m) (hm.first _ hhead) (fun p q hp hpq hq => ?_) u hu
      have hpW : has S p = true := (mem_elems_nat hW).1 (hm.sub _ hp)
      exact hm.step _ hp _ ((mem_elems_nat hW).2 hq) ((h.nb p q (hlt p hpW) (hlt q hq)).1 hpq)
    · rintro ⟨_, hc⟩
      refine hS.vs.ext hW (fun w _ => ?_)
      rw [Bool.eq_iff_iff]
      refine ⟨hsub w, fun hw => ?_⟩
      have := hc (elems S) ⟨fun x hx => by
        obtain ⟨u, _, hu, rfl⟩ := mem_elems.1 hx
        exact (mem_elems_nat hW).2 (hsub u hu), fun x hx => by
        rw [hhead] at hx; cases hx; exact (mem_elems_nat hS.vs).2 hS.me, fun x hx y hy hxy => by
        obtain ⟨p, _, hp, rfl⟩ := mem_elems.1 hx
        obtain ⟨q, _, hq, rfl⟩ := mem_elems.1 hy
        exact (mem_elems_nat hS.vs).2 (hS.step p q hp ((h.nb p q (hSn p hp) (hlt q hq)).2 hxy) hq)⟩ (w : Int) ((mem_elems_nat hW).2 hw)
      exact (mem_elems_nat hS.vs).1 this

theorem linkNets_ok {B K : List (List Int)} (hn : B.length ≤ 16) (hk : ∀ l ∈ K, LinkIn B.length l) (hKl : K.length ≤ 1000000) : ∃ A, D.impl_linkNets B K = some A ∧ NetL A B.length K := by
  unfold D.impl_linkNets
  rw [makeD_ok (by omega) (by omega), Option.bind_some]
  refine loop_then (fun s => ∃ i : Nat, s.2 = (i : Int) ∧ i ≤ K.length ∧ NetL s.1 B.length (K.take i)) (fun s => K.length - s.2.toNat) (fun A => NetL A B.length K) ?_ ⟨0, rfl, by omega, ?_⟩ (fun r hr => ⟨r, rfl, hr⟩)
  · rintro ⟨A, _⟩ ⟨i, rfl, hi, hA⟩
    dsimp only at hA ⊢
    by_cases hil : i < K.length
    · obtain ⟨a, b, e, hab, hb⟩ := hk _ (List.getElem_mem hil)
      have i0 : idx K[i] 0 = some (a : Int) := by rw [e]; rfl
      have i1 : idx K[i] 1 = some (b : Int) := by rw [e]; rfl
      obtain ⟨A', e2, h1, h2⟩ := join_net hn hA.net (show a < B.length by omega) hb (by omega)
      simp only [dlt hil, cond_true, idx_nat hil, Option.bind_some, i0, i1, e2, wi (show i < 4611686018427387904 by omega)]
      refine ⟨_, rfl, ⟨i + 1, rfl, hil, h1, fun x y hx hy => ?_⟩, by dsimp only; omega⟩
      dsimp only
      rw [h2 x y hx, List.take_succ_eq_append_getElem hil, e]
      simp only [Bool.or_eq_true, Bool.and_eq_true, decide_eq_true_eq]
      rw [hA.nb x y hx hy]
      unfold Lk
      simp only [List.mem_append, List.mem_singleton, List.cons.injEq, and_true, Int.natCast_inj]
      constructor
      · rintro ((h1 | h1) | ⟨h1, h2⟩)
        · exact h1.elim (fun h => .inl (.inl h)) (fun h => .inr (.inl h))
        · exact .inl (.inr h1)
        · exact .inr (.inr ⟨h2, h1⟩)
      · rintro ((h1 | h1) | (h1 | ⟨h1, h2⟩))
        · exact .inl (.inl (.inl h1))
        · exact .inl (.inr h1)
        · exact .inl (.inl (.inr h1))
        · exact .inr ⟨h2, h1⟩
    · obtain rfl : i = K.length := by omega
      simp only [dnlt, cond_false]
      rw [List.take_length] at hA
      exact ⟨_, rfl, hA⟩
  · have hz : ∀ u, (List.replicate B.length (0 : Int)).getD u 0 = 0 := fun u => by
      rw [List.getD_eq_getElem?_getD, List.getElem?_replicate]; split <;> rfl
    refine ⟨⟨by simp, fun u _ => by rw [hz]; exact VS.zero, fun u w _ h => by unfold nb at h; rw [hz, has_zero] at h; cases h⟩, fun x y _ _ => ?_⟩
    unfold nb Lk
    rw [hz, has_zero]; simp

section
variable {g B K : List (List Int)} (hg : GOk g) (hs : ∀ b ∈ B, SetOf b (g.length : Int)) (hBl : B.length ≤ 16)
include hg hs hBl
theorem masks_eq : D.impl_bagMasks B = some (B.map mk) := by
  have h16 := hg.n16
  unfold D.impl_bagMasks
  refine (loop_map B (fun s i => (s, i)) mk (by omega) (fun s i hi _ => ?_) (fun s => ?_)).trans rfl
  · have hb := hs _ (List.getElem_mem hi)
    have hl := hb.length_le (by omega)
    simp only [dlt hi, cond_true, idx_nat hi, Option.bind_some, maskOf_eq _ (show Sh B[i] by unfold Sh; omega) (fun x hx => (hb.2 x hx).1), wi (show i < 4611686018427387904 by omega)]
  · simp only [dnlt, cond_false]
theorem has_mask {i : Nat} (hi : i < B.length) (v : Nat) : has (mk B[i]) v = decide ((v : Int) ∈ B[i]) := by
  have h16 := hg.n16
  have hb := hs _ (List.getElem_mem hi)
  exact has_mk (fun x hx => by have := hb.2 x hx; omega) v

open Classical in
theorem coversEdges_eq : D.impl_coversEdges (g.map mk) (B.map mk) = some (decide (∀ v, v < g.length → (∃ j, ∃ hj : j < B.length, (v : Int) ∈ B[j]) ∧ ∀ w, adj g v w → ∃ j, ∃ hj : j < B.length, (v : Int) ∈ B[j] ∧ (w : Int) ∈ B[j])) := by
  have h16 := hg.n16
  unfold D.impl_coversEdges
  refine (loop_allb g.length (fun v => decide ((∃ j, ∃ hj : j < B.length, (v : Int) ∈ B[j]) ∧ ∀ w, adj g v w → ∃ j, ∃ hj : j < B.length, (v : Int) ∈ B[j] ∧ (w : Int) ∈ B[j])) false (fun v hv => ?_) ?_ rfl rfl).trans ?_
  · have hv' : v < (g.map mk).length := by simpa using hv
    have e1 : decide ((v : Int) < ((g.map mk).length : Int)) = true := dlt hv'
    simp only [e1, cond_true, idx_nat hv', Option.bind_some, List.getElem_map]
    obtain ⟨y, hy, hq⟩ := loop_then (step := (fun (s_340 : Int × Int) => match s_340 with | (x_343, x_344) => cond (decide (x_344 < ((B.map mk).length : Int))) ((idx (B.map mk) x_344).bind fun e_365 => (D.impl_vset_has e_365 (v : Int)).bind fun y_371 => cond y_371 (some (.inl ((ior .u32 x_343 e_365), (IntKind.i64.wrap (x_344 + 1))))) (some (.inl (x_343, (IntKind.i64.wrap (x_344 + 1)))))) (some (.inr x_343)))) (s := (0, 0))
      (k := fun r => some r) (Q := fun x => VS x ∧ ∀ u, has x u = true ↔ ∃ j, ∃ hj : j < B.length, (v : Int) ∈ B[j] ∧ (u : Int) ∈ B[j])
      (fun s => ∃ i : Nat, s.2 = (i : Int) ∧ i ≤ B.length ∧ VS s.1 ∧ ∀ u, has s.1 u = true ↔ ∃ j, ∃ hj : j < B.length, j < i ∧ (v : Int) ∈ B[j] ∧ (u : Int) ∈ B[j]) (fun s => B.length - s.2.toNat)
      (fun x => VS x ∧ ∀ u, has x u = true ↔ ∃ j, ∃ hj : j < B.length, (v : Int) ∈ B[j] ∧ (u : Int) ∈ B[j]) (by
        rintro ⟨x, _⟩ ⟨i, rfl, hi, hx, hh⟩
        dsimp only at hx hh ⊢
        by_cases hlt : i < B.length
        · have hlt' : i < (B.map mk).length := by simpa using hlt
          have hhas : D.impl_vset_has (mk B[i]) (v : Int) = some (has (mk B[i]) v) := by
            unfold D.impl_vset_has
            have : decide ((v : Int) < 0) = false := by simp
            rw [this, cond_false, bitAt_eq (VS.mk _) (by omega)]
          simp only [dlt hlt', cond_true, idx_nat hlt', Option.bind_some, List.getElem_map, hhas, has_mask hg hs hBl hlt, wi (show i < 4611686018427387904 by omega)]
          by_cases hm : (v : Int) ∈ B[i]
          · simp only [hm, decide_true, cond_true]
            refine ⟨_, rfl, ⟨i + 1, rfl, by omega, VS.ior _ _, fun u => ?_⟩, by dsimp only; omega⟩
            dsimp only
            rw [has_ior hx (VS.mk _), Bool.or_eq_true, hh, has_mask hg hs hBl hlt, decide_eq_true_eq]
            constructor
            · rintro (⟨j, h0, h1, h2, h3⟩ | h1)
              · exact ⟨j, h0, by omega, h2, h3⟩
              · exact ⟨i, hlt, by omega, hm, h1⟩
            · rintro ⟨j, h0, h1, h2, h3⟩
              by_cases hji : j = i
              · subst hji; exact .inr h3
              · exact .inl ⟨j, h0, by omega, h2, h3⟩
          · simp only [hm, decide_false, cond_false]
            refine ⟨_, rfl, ⟨i + 1, rfl, by omega, hx, fun u => ?_⟩, by dsimp only; omega⟩
            dsimp only
            rw [hh]
            constructor
            · rintro ⟨j, h0, h1, h2⟩; exact ⟨j, h0, by omega, h2⟩
            · rintro ⟨j, h0, h1, h2, h3⟩
              by_cases hji : j = i
              · subst hji; exact absurd h2 hm
              · exact ⟨j, h0, by omega, h2, h3⟩
        · obtain rfl : i = B.length := by omega
          have : decide (((B.length : Nat) : Int) < ((B.map mk).length : Int)) = false := by simp
          simp only [this, cond_false]
          refine ⟨_, rfl, hx, fun u => ?_⟩
          rw [hh]
          exact ⟨fun ⟨j, h0, _, h2⟩ => ⟨j, h0, h2⟩, fun ⟨j, h0, h2⟩ => ⟨j, h0, h0, h2⟩⟩) ⟨0, rfl, by omega, VS.zero, fun u => by simp [has_zero]⟩ (fun r hr => ⟨r, rfl, hr⟩)
    rw [Option.bind_eq_some_iff] at hy
    obtain ⟨a, ha, hb⟩ := hy
    cases hb
    obtain ⟨hy1, hy2⟩ := hq
    rw [ha, Option.bind_some]
    have hhas : D.impl_vset_has y (v : Int) = some (has y v) := by
      unfold D.impl_vset_has
      have : decide ((v : Int) < 0) = false := by simp
      rw [this, cond_false, bitAt_eq hy1 (by omega)]
    rw [hhas, Option.bind_some, wi (show v < 4611686018427387904 by omega)]
    have hrow : ∀ x ∈ g[v], 0 ≤ x ∧ x < 32 := fun x hx => by
      rw [← row_eq hv] at hx
      have := (hg.rows v hv).2 x hx; omega
    by_cases h1 : ∃ j, ∃ hj : j < B.length, (v : Int) ∈ B[j]
    case neg =>
      have : has y v = false := by
        cases hh : has y v
        · rfl
        · obtain ⟨j, hj, m1, _⟩ := (hy2 v).1 hh
          exact absurd ⟨j, hj, m1⟩ h1
      rw [this, Bool.not_false, Bool.true_or, cond_true, if_neg (by rw [decide_eq_true_eq]; exact fun h => h1 h.1)]
    case pos =>
      have : has y v = true := by
        obtain ⟨j, hj, m1⟩ := h1
        exact (hy2 v).2 ⟨j, hj, m1, m1⟩
      rw [this, Bool.not_true, Bool.false_or]
      by_cases h2 : ∀ w, adj g v w → ∃ j, ∃ hj : j < B.length, (v : Int) ∈ B[j] ∧ (w : Int) ∈ B[j]
      case neg =>
        have hz : (iandNot .u32 (mk g[v]) y != 0) = true := by
          rw [bne_iff_ne]
          intro hz
          rw [(VS.iandNot _ _).eq_zero] at hz
          refine h2 (fun w hw => ?_)
          have hw' := hg.lt hv hw
          have := hz w (by omega)
          rw [has_iandNot (VS.mk _) hy1, has_mk hrow] at this
          have hm : (w : Int) ∈ g[v] := by rw [← row_eq hv]; exact hw
          simp only [hm, decide_true, Bool.true_and, Bool.not_eq_false'] at this
          exact (hy2 w).1 this
        rw [hz, cond_true, if_neg (by rw [decide_eq_true_eq]; exact fun h => h2 h.2)]
      case pos =>
        have hz : (iandNot .u32 (mk g[v]) y != 0) = false := by
          rw [bne_eq_false_iff_eq, (VS.iandNot _ _).eq_zero]
          intro u hu
          rw [has_iandNot (VS.mk _) hy1, has_mk hrow]
          by_cases ha : (u : Int) ∈ g[v]
          · rw [← row_eq hv] at ha
            have : has y u = true := (hy2 u).2 (h2 u ha)
            simp [this]
          · simp [ha]
        rw [hz, cond_false, if_pos (decide_eq_true ⟨h1, h2⟩)]
  · have : decide (((g.length : Nat) : Int) < ((g.map mk).length : Int)) = false := by simp
    simp only [this, cond_false]
  · congr 1
    rw [Bool.eq_iff_iff, all_forall, decide_eq_true_eq]
    simp only [decide_eq_true_eq]

/-- the bags that have a vertex, as a set -/
theorem with_ok {v : Nat} (hv : v < g.length) : ∃ x, (loopF (σ := Int × Int) (ρ := (Int)) (fun (s_662 : Int × Int) => match s_662 with | (x_665, x_666) => cond (decide (x_666 < ((B.map mk).length : Int))) ((idx (B.map mk) x_666).bind fun e_694 => (D.impl_vset_has e_694 (v : Int)).bind fun y_700 => cond y_700 ((D.impl_one x_666).bind fun y_708 => some (.inl ((ior .u32 x_665 y_708), (IntKind.i64.wrap (x_666 + 1))))) (some (.inl (x_665, (IntKind.i64.wrap (x_666 + 1)))))) (some (.inr x_665))) (0, 0)) = some x ∧ VS x ∧ (∀ u, has x u = true → u < B.length) ∧ elems x = withV B (v : Int) := by
  have h16 := hg.n16
  obtain ⟨y, hy, hq⟩ := loop_then (step := (fun (s_662 : Int × Int) => match s_662 with | (x_665, x_666) => cond (decide (x_666 < ((B.map mk).length : Int))) ((idx (B.map mk) x_666).bind fun e_694 => (D.impl_vset_has e_694 (v : Int)).bind fun y_700 => cond y_700 ((D.impl_one x_666).bind fun y_708 => some (.inl ((ior .u32 x_665 y_708), (IntKind.i64.wrap (x_666 + 1))))) (some (.inl (x_665, (IntKind.i64.wrap (x_666 + 1)))))) (some (.inr x_665)))) (s := (0, 0))
    (k := fun r => some r) (Q := fun x => VS x ∧ ∀ u, has x u = true ↔ ∃ hj : u < B.length, (v : Int) ∈ B[u])
    (fun s => ∃ i : Nat, s.2 = (i : Int) ∧ i ≤ B.length ∧ VS s.1 ∧ ∀ u, has s.1 u = true ↔ ∃ hj : u < B.length, u < i ∧ (v : Int) ∈ B[u]) (fun s => B.length - s.2.toNat)
    (fun x => VS x ∧ ∀ u, has x u = true ↔ ∃ hj : u < B.length, (v : Int) ∈ B[u]) (by
      rintro ⟨x, _⟩ ⟨i, rfl, hi, hx, hh⟩
      dsimp only at hx hh ⊢
      by_cases hlt : i < B.length
      · have hlt' : i < (B.map mk).length := by simpa using hlt
        have hhas : D.impl_vset_has (mk B[i]) (v : Int) = some (has (mk B[i]) v) := by
          unfold D.impl_vset_has
          have : decide ((v : Int) < 0) = false := by simp
          rw [this, cond_false, bitAt_eq (VS.mk _) (by omega)]
        simp only [dlt hlt', cond_true, idx_nat hlt', Option.bind_some, List.getElem_map, hhas, has_mask hg hs hBl hlt, impl_one_eq, wi (show i < 4611686018427387904 by omega)]
        by_cases hm : (v : Int) ∈ B[i]
        · simp only [hm, decide_true, cond_true]
          refine ⟨_, rfl, ⟨i + 1, rfl, by omega, VS.ior _ _, fun u => ?_⟩, by dsimp only; omega⟩
          dsimp only
          rw [has_ior hx (VS.ishl _ _), Bool.or_eq_true, hh, has_one (by omega), decide_eq_true_eq]
          constructor
          · rintro (⟨h0, h1, h2⟩ | rfl)
            · exact ⟨h0, by omega, h2⟩
            · exact ⟨hlt, by omega, hm⟩
          · rintro ⟨h0, h1, h2⟩
            by_cases hji : u = i
            · exact .inr hji
            · exact .inl ⟨h0, by omega, h2⟩
        · simp only [hm, decide_false, cond_false]
          refine ⟨_, rfl, ⟨i + 1, rfl, by omega, hx, fun u => ?_⟩, by dsimp only; omega⟩
          dsimp only
          rw [hh]
          constructor
          · rintro ⟨h0, h1, h2⟩; exact ⟨h0, by omega, h2⟩
          · rintro ⟨h0, h1, h2⟩
            by_cases hji : u = i
            · subst hji; exact absurd h2 hm
            · exact ⟨h0, by omega, h2⟩
      · obtain rfl : i = B.length := by omega
        have : decide (((B.length : Nat) : Int) < ((B.map mk).length : Int)) = false := by simp
        simp only [this, cond_false]
        refine ⟨_, rfl, hx, fun u => ?_⟩
        rw [hh]
        exact ⟨fun ⟨h0, _, h2⟩ => ⟨h0, h2⟩, fun ⟨h0, h2⟩ => ⟨h0, h0, h2⟩⟩) ⟨0, rfl, by omega, VS.zero, fun u => by simp [has_zero]⟩ (fun r hr => ⟨r, rfl, hr⟩)
  rw [Option.bind_eq_some_iff] at hy
  obtain ⟨a, ha, hb⟩ := hy
  cases hb
  obtain ⟨hy1, hy2⟩ := hq
  refine ⟨_, ha, hy1, fun u hu => ((hy2 u).1 hu).1, ?_⟩
  refine Inc.ext (elems_inc _) (withV_inc B (v : Int)) (fun x => ?_)
  rw [mem_elems, mem_withV]
  constructor
  · rintro ⟨u, _, h2, rfl⟩
    obtain ⟨h3, h4⟩ := (hy2 u).1 h2
    exact ⟨u, rfl, h3, by rw [getD_lt h3]; exact h4⟩
  · rintro ⟨u, rfl, h3, h4⟩
    rw [getD_lt h3] at h4
    exact ⟨u, by omega, (hy2 u).2 ⟨h3, h4⟩, rfl⟩
end

section
variable {g B K : List (List Int)} (hg : GOk g) (hB : Sh2 B) (hK : Sh2 K)
include hg hB hK
open Classical in
theorem impl_DecompOk_eq : D.impl_DecompOk g B K = some (decide (TB g B K)) := by
  have h16 := hg.n16
  have hKl : K.length ≤ 4294967296 := hK.1
  have hBl : B.length ≤ 4294967296 := hB.1
  unfold D.impl_DecompOk
  rw [impl_GraphOk_eq g hg.shr, (gB_iff g).2 hg]
  simp only [Option.bind_some, Bool.not_true, Bool.false_or]
  rw [w64 (by omega) (by omega)]
  by_cases hb : 1 ≤ B.length ∧ B.length ≤ 16 ∧ K.length + 1 = B.length
  case neg =>
    have hT : ¬ TB g B K := fun h => hb ⟨h.n1, h.n16, h.many⟩
    have e : ((decide ((B.length : Int) < 1) || decide ((16 : Int) < (B.length : Int))) || ((K.length : Int) != (B.length : Int) - 1)) = true := by
      simp only [Bool.or_eq_true, decide_eq_true_eq, bne_iff_ne]
      omega
    rw [e, cond_true, Option.bind_some, cond_true, decide_eq_false hT]
  case pos =>
    obtain ⟨n1, n16, hm⟩ := hb
    have e : ((decide ((B.length : Int) < 1) || decide ((16 : Int) < (B.length : Int))) || ((K.length : Int) != (B.length : Int) - 1)) = false := by
      cases hc : ((decide ((B.length : Int) < 1) || decide ((16 : Int) < (B.length : Int))) || ((K.length : Int) != (B.length : Int) - 1))
      · rfl
      · simp only [Bool.or_eq_true, decide_eq_true_eq, bne_iff_ne] at hc; omega
    rw [e, cond_false, goodLinks_eq hB hK n16, Option.bind_some, Option.bind_some]
    by_cases hlk : ∀ l ∈ K, LinkIn B.length l
    case neg =>
      have : K.all (lkB B.length) = false := by
        cases hh : K.all (lkB B.length)
        · rfl
        · exact absurd (fun l hl => (lkB_iff _ _).1 (List.all_eq_true.1 hh l hl)) hlk
      rw [this, Bool.not_false, cond_true, decide_eq_false (fun h => hlk h.lks)]
    case pos =>
      have : K.all (lkB B.length) = true := List.all_eq_true.2 (fun l hl => (lkB_iff _ _).2 (hlk l hl))
      rw [this, Bool.not_true, cond_false]
      refine (loop_ck B.length (fun i => setB (B.getD i []) g.length) (.inl ()) (.inr false) (fun i hi => ?_) ?_).trans ?_
      · simp only [dlt hi, cond_true, idx_nat hi, Option.bind_some, increasing_eq _ _ (hB.2 _ (List.getElem_mem hi)) (show (0 : Int) ≤ (g.length : Int) by omega) (by omega), wi (show i < 4611686018427387904 by omega), getD_lt hi]
        cases setB B[i] (g.length : Int) <;> rfl
      · simp only [dnlt, cond_false]
      · rw [range_all_list B (fun b => setB b g.length) _ (fun i hi => by rw [getD_lt hi])]
        by_cases hs : ∀ b ∈ B, SetOf b (g.length : Int)
        case neg =>
          have : (B.all fun b => setB b g.length) = false := by
            cases hh : (B.all fun b => setB b g.length)
            · rfl
            · exact absurd (fun b hb => (setB_iff _ _).1 (List.all_eq_true.1 hh b hb)) hs
          rw [this, cond_false, decide_eq_false (fun h => hs h.sets)]
        case pos =>
          have : (B.all fun b => setB b g.length) = true := List.all_eq_true.2 (fun b hb => (setB_iff _ _).2 (hs b hb))
          rw [this, cond_true]
          dsimp only
          obtain ⟨A, e1, hA⟩ := linkNets_ok n16 hlk (by omega)
          obtain ⟨s, e2, hs1, hs2⟩ := nets_all_eq A (by rw [hA.net.len]; omega)
          have hsel : elems s = allB B.length := by
            have hsn : ∀ v, has s v = true → v < B.length := fun v hv => by rw [hs2, hA.net.len] at hv; exact of_decide_eq_true hv
            rw [← els_all (n := B.length) (by omega) hsn]
            unfold els allB
            congr 1
            rw [List.filter_eq_self]
            intro v hv
            rw [hs2, hA.net.len]; exact decide_eq_true (List.mem_range.1 hv)
          rw [e1, Option.bind_some, masks_eq hg hs n16, Option.bind_some, e2, Option.bind_some, connected_eq n16 hA hlk hs1 (fun v hv => by rw [hs2, hA.net.len] at hv; exact of_decide_eq_true hv), Option.bind_some, hsel]
          by_cases hc : Conn K (allB B.length)
          case neg =>
            rw [decide_eq_false (fun h => hc h.2), Bool.not_false, cond_true, Option.bind_some, cond_true, decide_eq_false (fun h => hc h.tree)]
          case pos =>
            rw [decide_eq_true (⟨allB_ne n1, hc⟩ : _ ∧ _), Bool.not_true, cond_false, netsOf_eq g hg, Option.bind_some, coversEdges_eq hg hs n16, Option.bind_some, Option.bind_some]
            by_cases hE : ∀ v, v < g.length → (∃ j, ∃ hj : j < B.length, (v : Int) ∈ B[j]) ∧ ∀ w, adj g v w → ∃ j, ∃ hj : j < B.length, (v : Int) ∈ B[j] ∧ (w : Int) ∈ B[j]
            case neg =>
              rw [decide_eq_false hE, Bool.not_false, cond_true, decide_eq_false]
              intro h
              refine hE (fun v hv => ⟨?_, fun w hw => ?_⟩)
              · obtain ⟨x, hx⟩ := List.exists_mem_of_ne_nil _ (h.some v hv)
                obtain ⟨b, _, hb, hvb⟩ := mem_withV.1 hx
                rw [getD_lt hb] at hvb
                exact ⟨b, hb, hvb⟩
              · obtain ⟨b, hb, h1, h2⟩ := h.edges v w hv hw
                obtain ⟨j, hj, rfl⟩ := List.getElem_of_mem hb
                exact ⟨j, hj, h1, h2⟩
            case pos =>
              rw [decide_eq_true hE, Bool.not_true, cond_false]
              refine (loop_allb g.length (fun v => decide (withV B (v : Int) ≠ [] ∧ Conn K (withV B (v : Int)))) false (fun v hv => ?_) ?_ rfl rfl).trans ?_
              · obtain ⟨x, e3, hx1, hx2, hx3⟩ := with_ok hg hs n16 hv
                rw [dlt hv, cond_true, e3, Option.bind_some, connected_eq n16 hA hlk hx1 hx2, Option.bind_some, hx3, wi (show v < 4611686018427387904 by omega)]
                cases decide (withV B (v : Int) ≠ [] ∧ Conn K (withV B (v : Int))) <;> rfl
              · simp only [dnlt, cond_false]
              · congr 1
                rw [Bool.eq_iff_iff, all_forall, decide_eq_true_eq]
                simp only [decide_eq_true_eq]
                constructor
                · intro hv
                  refine ⟨n1, n16, hm, hlk, hs, hc, fun u v hu ha => ?_, fun v h => (hv v h).1, fun v h => (hv v h).2⟩
                  obtain ⟨j, hj, h1, h2⟩ := (hE u hu).2 v ha
                  exact ⟨B[j], List.getElem_mem hj, h1, h2⟩
                · intro h v hv
                  exact ⟨h.some v hv, h.conn v hv⟩
end
end Go.Sx

/- Tidying a tree of bags: both do the same, round by round. Plain. -/
namespace Go.Sx
theorem elems_mk' {n : Nat} {x : List Int} (hn : n ≤ 16) (hi : Inc x) (hr : ∀ z ∈ x, 0 ≤ z ∧ z < n) : elems (mk x) = x := by
  refine Inc.ext (elems_inc _) hi (fun z => ?_)
  rw [mem_elems]
  constructor
  · rintro ⟨v, _, h2, rfl⟩
    rw [has_mk (fun y hy => by have := hr y hy; omega)] at h2
    exact of_decide_eq_true h2
  · intro hz
    have := hr z hz
    refine ⟨z.toNat, by omega, ?_, by omega⟩
    rw [has_mk (fun y hy => by have := hr y hy; omega)]
    exact decide_eq_true (by rw [show ((z.toNat : Nat) : Int) = z by omega]; exact hz)
theorem findSome_map {α β γ : Type} (f : α → Option β) (h : β → γ) : ∀ xs : List α, xs.findSome? (fun i => (f i).map h) = (xs.findSome? f).map h
  | [] => rfl
  | x :: xs => by
    rw [List.findSome?_cons, List.findSome?_cons]
    cases f x with
    | none => exact findSome_map f h xs
    | some y => rfl
/-- is one set a part of another one? -/
def prt (s t : Int) : Bool := (iandNot .u32 s t) == 0
theorem l9Part_elems {s t : Int} (hs : VS s) (ht : VS t) : D.spec_l9Part (elems s) (elems t) = some (prt s t) := by
  have h1 := elems_len s; have h2 := elems_len t
  rw [l9Part_eq _ _ (show Sh (elems s) by unfold Sh; omega) (show Sh (elems t) by unfold Sh; omega)]
  congr 1
  unfold prt
  rw [Bool.eq_iff_iff, List.all_eq_true, beq_iff_eq, (VS.iandNot _ _).eq_zero]
  constructor
  · intro h v hv
    rw [has_iandNot hs ht]
    cases hh : has s v
    · rfl
    · have := h (v : Int) ((mem_elems_nat hs).2 hh)
      rw [decide_eq_true_eq, mem_elems_nat ht] at this
      rw [this]; rfl
  · intro h x hx
    obtain ⟨v, hv, h3, rfl⟩ := mem_elems.1 hx
    have := h v hv
    rw [has_iandNot hs ht, h3, Bool.true_and, Bool.not_eq_false'] at this
    rw [decide_eq_true_eq, mem_elems_nat ht]; exact this

def ren (gone kept x : Int) : Int := if gone < (if x = gone then kept else x) then (if x = gone then kept else x) - 1 else (if x = gone then kept else x)
def lnk (gone kept : Int) (l : List Int) : Option (List Int) := if ren gone kept (l.getD 0 0) = ren gone kept (l.getD 1 0) then none else some (mkLink (ren gone kept (l.getD 0 0)) (ren gone kept (l.getD 1 0)))
structure TS (M : List Int) (K : List (List Int)) : Prop where
  n16 : M.length ≤ 16
  vs : ∀ s ∈ M, VS s
  lk : ∀ l ∈ K, LinkIn M.length l
  k16 : K.length ≤ 16

theorem ren_rng {n g k : Nat} (hg : g < n) (hk : k < n) (hgk : g ≠ k) {a : Nat} (ha : a < n) : 0 ≤ ren g k a ∧ ren g k a < ((n - 1 : Nat) : Int) := by
  unfold ren
  by_cases e : (a : Int) = g
  · simp only [e, if_true]; split <;> omega
  · simp only [e, if_false]; split <;> omega
theorem lnk_in {n g k : Nat} (hg : g < n) (hk : k < n) (hgk : g ≠ k) {l r : List Int} (hl : LinkIn n l) (h : lnk g k l = some r) : LinkIn (n - 1) r := by
  obtain ⟨a, b, rfl, hab, hb⟩ := hl
  unfold lnk at h
  simp only [List.getD_cons_zero, List.getD_cons_succ] at h
  have h1 := ren_rng hg hk hgk (show a < n by omega)
  have h2 := ren_rng hg hk hgk hb
  split at h
  · cases h
  · rename_i hne
    cases h
    generalize ren g k a = x at *
    generalize ren g k b = y at *
    refine ⟨(min x y).toNat, (max x y).toNat, ?_, by omega, by omega⟩
    unfold mkLink
    rw [show (((min x y).toNat : Nat) : Int) = min x y by omega, show (((max x y).toNat : Nat) : Int) = max x y by omega]

def merged (g k : Nat) (K : List (List Int)) : List (List Int) := K.filterMap (lnk g k)
theorem mem_merged {n g k : Nat} {K : List (List Int)} (hK : ∀ l ∈ K, LinkIn n l) (hg : g < n) (hk : k < n) (hgk : g ≠ k) : ∀ r ∈ merged g k K, LinkIn (n - 1) r := fun r hr => by
  obtain ⟨l, hl, e⟩ := List.mem_filterMap.1 hr
  exact lnk_in hg hk hgk (hK l hl) e
theorem merged_len (g k : Nat) (K : List (List Int)) : (merged g k K).length ≤ K.length := List.length_filterMap_le _ _
theorem sortRows_def {xs : List (List Int)} (hl : xs.length ≤ 1000000) (hg : ∀ x ∈ xs, rowGood x) : sortRows xs = some (xs.mergeSort keyLe) := by
  unfold sortRows; rw [if_pos ⟨hl, hg⟩]

theorem mergedBags_1_eq {g k : Nat} (hg : g ≤ 1000000) (hk : k ≤ 1000000) {x : Int} (h0 : 0 ≤ x) (h1 : x ≤ 1000000) : D.impl_mergedBags_1 x (g : Int) (k : Int) = some (ren g k x) := by
  unfold D.impl_mergedBags_1 ren
  rw [w64 (by omega) (by omega), w64 (by omega) (by omega)]
  by_cases e : x = (g : Int)
  · have : (x == (g : Int)) = true := by simpa using e
    rw [this, cond_true]
    simp only [e, if_true]
    by_cases h : (g : Int) < (k : Int)
    · rw [decide_eq_true h, cond_true, if_pos h]
    · rw [decide_eq_false h, cond_false, if_neg h]
  · have : (x == (g : Int)) = false := by simpa using e
    rw [this, cond_false]
    simp only [e, if_false]
    by_cases h : (g : Int) < x
    · rw [decide_eq_true h, cond_true, if_pos h]
    · rw [decide_eq_false h, cond_false, if_neg h]

theorem filterMap_take_succ {α β : Type} (f : α → Option β) {l : List α} {i : Nat} (hi : i < l.length) : (l.take (i + 1)).filterMap f = (l.take i).filterMap f ++ (f l[i]).toList := by
  rw [List.take_succ_eq_append_getElem hi, List.filterMap_append]
  cases hf : f l[i] <;> simp [hf]

section
variable {M : List Int} {K : List (List Int)} (h : TS M K) {g k : Nat} (hg : g < M.length) (hk : k < M.length) (hgk : g ≠ k)
include h hg hk hgk
theorem impl_merge : D.impl_mergedBags M K (g : Int) (k : Int) = some (M.eraseIdx g, (merged g k K).mergeSort keyLe) := by
  have h16 := h.n16; have hk16 := h.k16
  unfold D.impl_mergedBags
  refine (loop_to (fun i => ((K.take i).filterMap (lnk g k), (i : Int))) K.length (merged g k K) (by simp) (fun i hi => ?_) ?_).trans ?_
  · obtain ⟨a, b, e, hab, hb⟩ := h.lk _ (List.getElem_mem hi)
    have i0 : idx K[i] 0 = some (a : Int) := by rw [e]; rfl
    have i1 : idx K[i] 1 = some (b : Int) := by rw [e]; rfl
    simp only [dlt hi, cond_true, idx_nat hi, Option.bind_some, i0, i1, mergedBags_1_eq (show g ≤ 1000000 by omega) (show k ≤ 1000000 by omega) (show (0 : Int) ≤ (a : Int) by omega) (by omega), mergedBags_1_eq (show g ≤ 1000000 by omega) (show k ≤ 1000000 by omega) (show (0 : Int) ≤ (b : Int) by omega) (by omega), wi (show i < 4611686018427387904 by omega), filterMap_take_succ (lnk g k) hi]
    have el : lnk (g : Int) (k : Int) K[i] = if ren g k a = ren g k b then none else some (mkLink (ren g k a) (ren g k b)) := by rw [e]; rfl
    rw [el]
    have hfl : ((K.take i).filterMap (lnk g k)).length ≤ 16 := by
      have := List.length_filterMap_le (lnk (g : Int) (k : Int)) (K.take i)
      rw [List.length_take] at this; omega
    by_cases hc : ren g k a = ren g k b
    · have : (ren g k a != ren g k b) = false := by simpa using hc
      rw [this, cond_false, if_pos hc]; simp
    · have : (ren g k a != ren g k b) = true := by simpa using hc
      rw [this, cond_true, if_neg hc, sortedLink_eq, Option.bind_some, appendD_ok (by simp; omega), Option.bind_some]; simp
  · simp only [dnlt, cond_false, List.take_length]; rfl
  · have hml := merged_len g k K
    rw [sortRows_def (by omega) (fun x hx => (mem_merged h.lk hg hk hgk x hx).good (by omega)), Option.bind_some]
    unfold D.slices_Clone_impl_vset_impl_vset D.slices_Delete_impl_vset_impl_vset delD
    rw [appendD_ok (by simp; omega)]
    simp only [Option.bind_some, List.nil_append]
    rw [wi (show g < 4611686018427387904 by omega), if_pos ⟨by omega, by omega, by omega⟩, Option.bind_some]
    congr 2
    rw [Int.toNat_natCast, Int.toNat_natCast, List.eraseIdx_eq_take_drop_succ]

def insAll (acc xs : List (List Int)) : List (List Int) := xs.foldl (fun acc l => ins l acc) acc
omit h hg hk hgk in
theorem insAll_ok : ∀ (xs acc : List (List Int)), Srtd2 acc → (insAll acc xs).Perm (xs ++ acc) ∧ Srtd2 (insAll acc xs)
  | [], acc, h => ⟨List.Perm.refl _, h⟩
  | x :: xs, acc, h => by
    obtain ⟨h1, h2⟩ := insAll_ok xs (ins x acc) (ins_sorted x h)
    refine ⟨h1.trans ?_, h2⟩
    exact ((ins_perm x acc).append_left xs).trans List.perm_middle
omit h hg hk hgk in
theorem insAll_sort {xs : List (List Int)} (hx : ∀ x ∈ xs, rowGood x) : insAll [] xs = xs.mergeSort keyLe := by
  obtain ⟨h1, h2⟩ := insAll_ok xs [] (by simp [Srtd2])
  rw [List.append_nil] at h1
  exact sorted_eq (h1.trans (mergeKey_perm xs).symm) (fun x hx' => hx x ((mergeKey_perm xs).mem_iff.1 hx')) h2 (mergeKey_sorted xs)
omit h hg hk hgk in
theorem insAll_snoc (acc xs : List (List Int)) (x : List Int) : insAll acc (xs ++ [x]) = ins x (insAll acc xs) := by
  unfold insAll; rw [List.foldl_append]; rfl

theorem spec_merge : D.spec_l9Merge (M.map elems) K (g : Int) (k : Int) = some ((M.eraseIdx g).map elems, (merged g k K).mergeSort keyLe) := by
  have h16 := h.n16; have hk16 := h.k16
  unfold D.spec_l9Merge
  refine (loop_to (fun i => ((i : Int), (if i ≤ g then M.take i else M.take g ++ (M.drop (g + 1)).take (i - (g + 1))).map elems)) M.length ((M.eraseIdx g).map elems) (by simp) (fun i hi => ?_) ?_).trans ?_
  · have hd : decide ((i : Int) < ((M.map elems).length : Int)) = true := by simp; omega
    have hcp : D.spec_l1Copy (elems M[i]) = some (elems M[i]) := l1Copy_eq _ (by have := elems_len M[i]; unfold Sh; omega)
    simp only [hd, cond_true, wi (show i < 4611686018427387904 by omega)]
    by_cases e : i = g
    · subst e
      have : (((i : Nat) : Int) != (i : Int)) = false := by simp
      rw [this, cond_false, if_pos (Nat.le_refl i), if_neg (by omega)]; simp
    · have : (((i : Nat) : Int) != (g : Int)) = true := by rw [bne_iff_ne]; omega
      rw [this, cond_true, idx_nat (show i < (M.map elems).length by simpa using hi), Option.bind_some, List.getElem_map, hcp, Option.bind_some]
      rcases Nat.lt_or_gt_of_ne e with c | c
      · rw [if_pos (by omega), if_pos (by omega), appendD_ok (by simp; omega), Option.bind_some, List.take_succ_eq_append_getElem hi, List.map_append]; rfl
      · rw [if_neg (by omega), if_neg (by omega), appendD_ok (by simp; omega), Option.bind_some]
        have e2 : (M.drop (g + 1)).take (i + 1 - (g + 1)) = (M.drop (g + 1)).take (i - (g + 1)) ++ [M[i]] := by
          rw [show i + 1 - (g + 1) = (i - (g + 1)) + 1 by omega, List.take_succ_eq_append_getElem (by simp; omega)]
          congr 2
          rw [List.getElem_drop]; congr 1; omega
        rw [e2]; simp
  · have hd : decide (((M.length : Nat) : Int) < ((M.map elems).length : Int)) = false := by simp
    simp only [hd, cond_false]
    rw [if_neg (by omega), List.eraseIdx_eq_take_drop_succ, List.take_of_length_le (l := M.drop (g + 1)) (by simp)]
  · refine (loop_to (fun i => ((i : Int), insAll [] ((K.take i).filterMap (lnk g k)))) K.length (insAll [] (merged g k K)) (by simp [insAll]) (fun i hi => ?_) ?_).trans ?_
    · obtain ⟨a, b, e, hab, hb⟩ := h.lk _ (List.getElem_mem hi)
      have i0 : idx K[i] 0 = some (a : Int) := by rw [e]; rfl
      have i1 : idx K[i] 1 = some (b : Int) := by rw [e]; rfl
      have ra := ren_rng hg hk hgk (show a < M.length by omega)
      have rb := ren_rng hg hk hgk hb
      have el : lnk (g : Int) (k : Int) K[i] = if ren g k a = ren g k b then none else some (mkLink (ren g k a) (ren g k b)) := by rw [e]; rfl
      simp only [dlt hi, cond_true, idx_nat hi, Option.bind_some, i0, i1, wi (show i < 4611686018427387904 by omega), filterMap_take_succ (lnk g k) hi, el]
      have hsub : ∀ x : Int, (cond (x == (g : Int)) (some (k : Int)) (some x)) = some (if x = (g : Int) then (k : Int) else x) := fun x => by
        by_cases hx : x = (g : Int)
        · simp [hx]
        · have : (x == (g : Int)) = false := by simpa using hx
          rw [this, cond_false, if_neg hx]
      have hfl : ∀ x : Int, D.spec_l1Flag (decide ((g : Int) < x)) = some (if (g : Int) < x then 1 else 0) := fun x => by
        unfold D.spec_l1Flag
        by_cases hx : (g : Int) < x
        · simp [hx]
        · simp [hx]
      have hren : ∀ x : Int, ren g k x = (if x = (g : Int) then (k : Int) else x) - (if (g : Int) < (if x = (g : Int) then (k : Int) else x) then 1 else 0) := fun x => by
        unfold ren
        by_cases hx : (g : Int) < (if x = (g : Int) then (k : Int) else x)
        · rw [if_pos hx, if_pos hx]
        · rw [if_neg hx, if_neg hx]; omega
      have ne1 : (if (a : Int) = (g : Int) then (k : Int) else a) ≠ (g : Int) := by split <;> omega
      have ne2 : (if (b : Int) = (g : Int) then (k : Int) else b) ≠ (g : Int) := by split <;> omega
      have hA := hren (a : Int); have hBb := hren (b : Int)
      rw [hsub, Option.bind_some, hsub, Option.bind_some]
      generalize (if (a : Int) = (g : Int) then (k : Int) else a) = x at *
      generalize (if (b : Int) = (g : Int) then (k : Int) else b) = y at *
      have hiff : ren g k a = ren g k b ↔ x = y := by
        rw [hA, hBb]
        constructor
        · intro hh; split at hh <;> split at hh <;> omega
        · rintro rfl; rfl
      by_cases hc : x = y
      · have : (x != y) = false := by simpa using hc
        rw [this, cond_false, if_pos (hiff.2 hc)]; simp
      · have : (x != y) = true := by simpa using hc
        rw [this, cond_true, if_neg (fun hh => hc (hiff.1 hh)), hfl, Option.bind_some, hfl, Option.bind_some, ← hA, ← hBb, w64 (by omega) (by omega), w64 (by omega) (by omega)]
        have hlen : (insAll [] ((K.take i).filterMap (lnk g k))).length ≤ 16 := by
          obtain ⟨hp, _⟩ := insAll_ok ((K.take i).filterMap (lnk g k)) [] (by simp [Srtd2])
          rw [hp.length_eq, List.append_nil]
          have := List.length_filterMap_le (lnk (g : Int) (k : Int)) (K.take i)
          rw [List.length_take] at this; omega
        have hin : LinkIn (M.length - 1) (mkLink (ren g k a) (ren g k b)) := lnk_in hg hk hgk (h.lk _ (List.getElem_mem hi)) (by rw [el, if_neg (fun hh => hc (hiff.1 hh))])
        rw [l9Link_eq (fun x hx => ?_) (hin.good (by omega)) (by omega), Option.bind_some, Option.toList_some, insAll_snoc]
        obtain ⟨hp, _⟩ := insAll_ok ((K.take i).filterMap (lnk g k)) [] (by simp [Srtd2])
        rw [List.append_nil] at hp
        exact ((mem_merged (fun l hl => h.lk l (List.mem_of_mem_take hl)) hg hk hgk x (hp.mem_iff.1 hx))).good (by omega)
    · simp only [dnlt, cond_false, List.take_length]; rfl
    · rw [insAll_sort (fun x hx => (mem_merged h.lk hg hk hgk x hx).good (by omega))]

theorem TS.merge : TS (M.eraseIdx g) ((merged g k K).mergeSort keyLe) := by
  have h16 := h.n16
  have hl : (M.eraseIdx g).length = M.length - 1 := by rw [List.length_eraseIdx, if_pos hg]
  refine ⟨by omega, fun s hs => h.vs s (List.mem_of_mem_eraseIdx hs), fun l hl' => ?_, ?_⟩
  · rw [hl]
    exact mem_merged h.lk hg hk hgk l ((mergeKey_perm _).mem_iff.1 hl')
  · rw [(mergeKey_perm _).length_eq]
    exact Nat.le_trans (merged_len g k K) h.k16
end

def spareM (M : List Int) (l : List Int) : Option (Nat × Nat) :=
  if prt (M.getD (l.getD 1 0).toNat 0) (M.getD (l.getD 0 0).toNat 0) then some ((l.getD 1 0).toNat, (l.getD 0 0).toNat)
  else if prt (M.getD (l.getD 0 0).toNat 0) (M.getD (l.getD 1 0).toNat 0) then some ((l.getD 0 0).toNat, (l.getD 1 0).toNat) else none
def spare (M : List Int) (K : List (List Int)) : Option (Nat × Nat) := (List.range K.length).findSome? (fun i => spareM M (K.getD i []))

section
variable {M : List Int} {K : List (List Int)} (h : TS M K)
include h
theorem spareM_in {l : List Int} (hl : l ∈ K) {g k : Nat} (e : spareM M l = some (g, k)) : g < M.length ∧ k < M.length ∧ g ≠ k := by
  obtain ⟨a, b, rfl, hab, hb⟩ := h.lk l hl
  unfold spareM at e
  simp only [List.getD_cons_zero, List.getD_cons_succ, Int.toNat_natCast] at e
  split at e
  · cases e; omega
  · split at e
    · cases e; omega
    · cases e
theorem spare_in {g k : Nat} (e : spare M K = some (g, k)) : g < M.length ∧ k < M.length ∧ g ≠ k := by
  obtain ⟨i, hi, e2⟩ := List.exists_of_findSome?_eq_some e
  have hi' := List.mem_range.1 hi
  rw [getD_lt hi'] at e2
  exact spareM_in h (List.getElem_mem hi') e2

theorem spec_spare : D.spec_l9Spare (M.map elems) K = some (match spare M K with | some (g, k) => ((g : Int), (k : Int)) | none => (-1, -1)) := by
  have h16 := h.n16; have hk16 := h.k16
  unfold D.spec_l9Spare
  have key := loop_find (ρ := Unit ⊕ (Int × Int)) (step := (fun (x_134 : Int) => cond (decide (x_134 < (K.length : Int))) ((idx K x_134).bind fun e_200 => (idx e_200 0).bind fun e_206 => (idx K x_134).bind fun e_212 => (idx e_212 1).bind fun e_218 => (idx (M.map elems) e_218).bind fun e_224 => (idx (M.map elems) e_206).bind fun e_230 => (D.spec_l9Part e_224 e_230).bind fun y_236 => cond y_236 (some (.inr (.inr (e_218, e_206)))) ((idx (M.map elems) e_206).bind fun e_242 => (idx (M.map elems) e_218).bind fun e_248 => (D.spec_l9Part e_242 e_248).bind fun y_254 => cond y_254 (some (.inr (.inr (e_206, e_218)))) (some (.inl (IntKind.i64.wrap (x_134 + 1)))))) (some (.inr (.inl ()))))) K.length (fun i => (spareM M (K.getD i [])).map fun p => .inr ((p.1 : Int), (p.2 : Int))) (.inl ()) (fun i hi => by
    obtain ⟨a, b, e, hab, hb⟩ := h.lk _ (List.getElem_mem hi)
    have i0 : idx K[i] 0 = some (a : Int) := by rw [e]; rfl
    have i1 : idx K[i] 1 = some (b : Int) := by rw [e]; rfl
    have hm : ∀ x : Nat, x < M.length → idx (M.map elems) (x : Int) = some (elems (M.getD x 0)) ∧ VS (M.getD x 0) := fun x hx => by
      rw [idx_nat (by simpa using hx), List.getElem_map, getD_lt hx]
      exact ⟨rfl, h.vs _ (List.getElem_mem hx)⟩
    obtain ⟨ma, va⟩ := hm a (by omega)
    obtain ⟨mb, vb⟩ := hm b hb
    simp only [dlt hi, cond_true, idx_nat hi, Option.bind_some, i0, i1, ma, mb, l9Part_elems vb va, l9Part_elems va vb, wi (show i < 4611686018427387904 by omega), getD_lt hi]
    have es : spareM M K[i] = if prt (M.getD b 0) (M.getD a 0) then some (b, a) else if prt (M.getD a 0) (M.getD b 0) then some (a, b) else none := by rw [e]; rfl
    rw [es]
    cases prt (M.getD b 0) (M.getD a 0)
    · cases prt (M.getD a 0) (M.getD b 0) <;> rfl
    · rfl) (by simp only [dnlt, cond_false])
  rw [key, Option.bind_some, findSome_map]
  unfold spare
  cases (List.range K.length).findSome? (fun i => spareM M (K.getD i [])) with
  | none => rfl
  | some p => rfl

theorem impl_round : loopF (σ := Int) (ρ := ((List Int) × (List (List Int)) × Bool)) (fun (x_1473 : Int) => cond (decide (x_1473 < (K.length : Int))) ((idx K x_1473).bind fun e_1582 => (idx e_1582 0).bind fun e_1588 => (idx e_1582 1).bind fun e_1594 => (idx M e_1594).bind fun e_1602 => (idx M e_1588).bind fun e_1608 => cond ((iandNot .u32 e_1602 e_1608) == 0) ((D.impl_mergedBags M K e_1594 e_1588).bind fun y_1623 => some (.inr (y_1623.1, y_1623.2, true))) ((idx M e_1588).bind fun e_1638 => (idx M e_1594).bind fun e_1644 => cond ((iandNot .u32 e_1638 e_1644) == 0) ((D.impl_mergedBags M K e_1588 e_1594).bind fun y_1659 => some (.inr (y_1659.1, y_1659.2, true))) (some (.inl (IntKind.i64.wrap (x_1473 + 1)))))) (some (.inr (M, K, false)))) 0 =
    some (match spare M K with | some (g, k) => (M.eraseIdx g, (merged g k K).mergeSort keyLe, true) | none => (M, K, false)) := by
  have h16 := h.n16; have hk16 := h.k16
  have key := loop_find (ρ := ((List Int) × (List (List Int)) × Bool)) (step := (fun (x_1473 : Int) => cond (decide (x_1473 < (K.length : Int))) ((idx K x_1473).bind fun e_1582 => (idx e_1582 0).bind fun e_1588 => (idx e_1582 1).bind fun e_1594 => (idx M e_1594).bind fun e_1602 => (idx M e_1588).bind fun e_1608 => cond ((iandNot .u32 e_1602 e_1608) == 0) ((D.impl_mergedBags M K e_1594 e_1588).bind fun y_1623 => some (.inr (y_1623.1, y_1623.2, true))) ((idx M e_1588).bind fun e_1638 => (idx M e_1594).bind fun e_1644 => cond ((iandNot .u32 e_1638 e_1644) == 0) ((D.impl_mergedBags M K e_1588 e_1594).bind fun y_1659 => some (.inr (y_1659.1, y_1659.2, true))) (some (.inl (IntKind.i64.wrap (x_1473 + 1)))))) (some (.inr (M, K, false))))) K.length (fun i => (spareM M (K.getD i [])).map fun p => (M.eraseIdx p.1, (merged p.1 p.2 K).mergeSort keyLe, true)) (M, K, false) (fun i hi => by
    obtain ⟨a, b, e, hab, hb⟩ := h.lk _ (List.getElem_mem hi)
    have i0 : idx K[i] 0 = some (a : Int) := by rw [e]; rfl
    have i1 : idx K[i] 1 = some (b : Int) := by rw [e]; rfl
    have hm : ∀ x : Nat, x < M.length → idx M (x : Int) = some (M.getD x 0) := fun x hx => by
      rw [idx_nat hx, getD_lt hx]
    have ma := hm a (by omega)
    have mb := hm b hb
    simp only [dlt hi, cond_true, idx_nat hi, Option.bind_some, i0, i1, ma, mb, impl_merge h hb (show a < M.length by omega) (by omega), impl_merge h (show a < M.length by omega) hb (by omega), wi (show i < 4611686018427387904 by omega), getD_lt hi]
    have es : spareM M K[i] = if prt (M.getD b 0) (M.getD a 0) then some (b, a) else if prt (M.getD a 0) (M.getD b 0) then some (a, b) else none := by rw [e]; rfl
    rw [es]
    have p1 : ((iandNot .u32 (M.getD b 0) (M.getD a 0)) == 0) = prt (M.getD b 0) (M.getD a 0) := rfl
    have p2 : ((iandNot .u32 (M.getD a 0) (M.getD b 0)) == 0) = prt (M.getD a 0) (M.getD b 0) := rfl
    rw [p1, p2]
    cases prt (M.getD b 0) (M.getD a 0)
    · cases prt (M.getD a 0) (M.getD b 0) <;> rfl
    · rfl) (by simp only [dnlt, cond_false])
  rw [key, findSome_map]
  unfold spare
  cases (List.range K.length).findSome? (fun i => spareM M (K.getD i [])) with
  | none => rfl
  | some p => rfl
end

theorem tidy_both : ∀ (m : Nat) (M : List Int) (K : List (List Int)), M.length ≤ m → TS M K → ∃ M' K', TS M' K' ∧
    loopF (σ := (List Int) × (List (List Int)) × Bool) (ρ := ((List Int) × (List (List Int)))) (fun (s_853 : (List Int) × (List (List Int)) × Bool) => match s_853 with | (l_856, l_861, b_866) => cond b_866 ((loopF (σ := Int) (ρ := ((List Int) × (List (List Int)) × Bool)) (fun (x_1473 : Int) => cond (decide (x_1473 < (l_861.length : Int))) ((idx l_861 x_1473).bind fun e_1582 => (idx e_1582 0).bind fun e_1588 => (idx e_1582 1).bind fun e_1594 => (idx l_856 e_1594).bind fun e_1602 => (idx l_856 e_1588).bind fun e_1608 => cond ((iandNot .u32 e_1602 e_1608) == 0) ((D.impl_mergedBags l_856 l_861 e_1594 e_1588).bind fun y_1623 => some (.inr (y_1623.1, y_1623.2, true))) ((idx l_856 e_1588).bind fun e_1638 => (idx l_856 e_1594).bind fun e_1644 => cond ((iandNot .u32 e_1638 e_1644) == 0) ((D.impl_mergedBags l_856 l_861 e_1588 e_1594).bind fun y_1659 => some (.inr (y_1659.1, y_1659.2, true))) (some (.inl (IntKind.i64.wrap (x_1473 + 1)))))) (some (.inr (l_856, l_861, false)))) 0).bind fun (l_1569, l_1574, b_1579) => some (.inl (l_1569, l_1574, b_1579))) (some (.inr (l_856, l_861)))) (M, K, true) = some (M', K') ∧
    loopF (σ := (List (List Int)) × (List (List Int))) (ρ := (((List (List Int))) × ((List (List Int))) × Bool)) (fun (s_125 : (List (List Int)) × (List (List Int))) => match s_125 with | (l_128, l_133) => (D.spec_l9Spare l_128 l_133).bind fun y_139 => cond (decide (y_139.1 < 0)) (some (.inr (l_128, l_133, true))) ((D.spec_l9Merge l_128 l_133 y_139.1 y_139.2).bind fun y_160 => some (.inl (y_160.1, y_160.2)))) (M.map elems, K) = some (M'.map elems, K', true) := by
  intro m
  induction m with
  | zero =>
    intro M K hm h
    have hK : K = [] := by
      cases K with
      | nil => rfl
      | cons l K =>
        obtain ⟨a, b, _, h1, h2⟩ := h.lk l (by simp)
        omega
    subst hK
    refine ⟨M, [], h, ?_, ?_⟩
    · rw [loopF_more (s' := (M, [], false)) (by simp only [cond_true]; rw [impl_round h]; rfl), loopF_done (r := (M, [])) (by rfl)]
    · rw [loopF_done (r := (M.map elems, [], true)) (by simp only [spec_spare h]; rfl)]
  | succ m ih =>
    intro M K hm h
    cases hsp : spare M K with
    | none =>
      refine ⟨M, K, h, ?_, ?_⟩
      · rw [loopF_more (s' := (M, K, false)) (by simp only [cond_true]; rw [impl_round h, hsp]; rfl), loopF_done (r := (M, K)) (by rfl)]
      · rw [loopF_done (r := (M.map elems, K, true)) (by simp only [spec_spare h, hsp]; rfl)]
    | some p =>
      obtain ⟨g, k⟩ := p
      obtain ⟨hg, hk, hgk⟩ := spare_in h hsp
      obtain ⟨M', K', h1, h2, h3⟩ := ih (M.eraseIdx g) ((merged g k K).mergeSort keyLe) (by rw [List.length_eraseIdx, if_pos hg]; omega) (h.merge hg hk hgk)
      refine ⟨M', K', h1, ?_, ?_⟩
      · rw [loopF_more (s' := (M.eraseIdx g, (merged g k K).mergeSort keyLe, true)) (by simp only [cond_true]; rw [impl_round h, hsp]; rfl)]
        exact h2
      · have hn : decide ((g : Int) < 0) = false := by simp
        rw [loopF_more (s' := ((M.eraseIdx g).map elems, (merged g k K).mergeSort keyLe)) (by simp only [spec_spare h, hsp, Option.bind_some, hn, cond_false, spec_merge h hg hk hgk])]
        exact h3
end Go.Sx

/- The exact laws' own helpers in closed form: copies, equality, sizes, marks. Plain. -/
namespace Go.Sx
theorem loop_set {α S ρ β : Type} {step : S → Option (S ⊕ ρ)} {k : ρ → Option β} {s0 : S} (xs ys : List α) (hl : xs.length = ys.length) (enc : List α → Int → S) (r : ρ) (h0 : enc ys 0 = s0)
    (hstep : ∀ l (i : Nat) (h : i < xs.length), l.length = xs.length → step (enc l i) = some (.inl (enc (l.set i xs[i]) ((i + 1 : Nat) : Int))))
    (hend : step (enc xs xs.length) = some (.inr r)) : (loopF step s0).bind k = k r := by
  refine loop_to (fun i => enc (xs.take i ++ ys.drop i) (i : Int)) xs.length r (by simpa using h0) (fun i hi => ?_) ?_
  · have e : (xs.take i ++ ys.drop i).set i xs[i] = xs.take (i + 1) ++ ys.drop (i + 1) := by
      rw [List.take_succ_eq_append_getElem hi, List.drop_eq_getElem_cons (show i < ys.length by omega), List.set_append_right _ _ (by simp; omega)]
      have e0 : i - (xs.take i).length = 0 := by rw [List.length_take]; omega
      rw [e0, List.set_cons_zero, List.append_assoc]; rfl
    rw [hstep _ i hi (by simp; omega), e]
  · rw [← hend, List.take_length, hl, List.drop_length, List.append_nil]

theorem toS_eq (xs : List Int) (h : Sh xs) : D.laws_toInt64S xs = some xs := by
  unfold Sh at h
  unfold D.laws_toInt64S
  rw [makeD_ok (by omega) (by omega), Option.bind_some]
  refine (loop_set xs (List.replicate xs.length 0) (by simp) (fun l i => (l, i)) xs rfl (fun l i hi hl => ?_) ?_).trans rfl
  · simp only [dlt hi, cond_true, idx_nat hi, idx_nat (show i < l.length by omega), Option.bind_some, wi (show i < 4611686018427387904 by omega), Int.toNat_natCast]
  · simp only [dnlt, cond_false]
theorem toSS_eq (xs : List (List Int)) (h : Sh2 xs) : D.laws_toInt64SS xs = some xs := by
  obtain ⟨h, h2⟩ := h
  unfold Sh at h
  unfold D.laws_toInt64SS
  rw [makeD_ok (by omega) (by omega), Option.bind_some]
  refine (loop_set xs (List.replicate xs.length []) (by simp) (fun l i => (l, i)) xs rfl (fun l i hi hl => ?_) ?_).trans rfl
  · simp only [dlt hi, cond_true, idx_nat hi, idx_nat (show i < l.length by omega), Option.bind_some, wi (show i < 4611686018427387904 by omega), Int.toNat_natCast, toS_eq _ (h2 _ (List.getElem_mem hi))]
  · simp only [dnlt, cond_false]
theorem toGraph_eq (g : List (List Int)) (h : Sh2 g) : D.laws_toGraph g = some g := by
  unfold D.laws_toGraph; rw [toSS_eq g h]; rfl

theorem list_eq_all {α : Type} [DecidableEq α] (xs ys : List α) (d : α) (hl : xs.length = ys.length) : (List.range xs.length).all (fun i => decide (xs.getD i d = ys.getD i d)) = decide (xs = ys) := by
  rw [Bool.eq_iff_iff, all_forall, decide_eq_true_eq]
  constructor
  · intro h
    apply List.ext_getElem hl
    intro i h1 h2
    have := h i h1
    rw [getD_lt h1, getD_lt h2] at this
    exact of_decide_eq_true this
  · rintro rfl i _; simp
theorem eqS_eq (xs ys : List Int) (h : Sh xs) : D.laws_eqInt64S xs ys = some (decide (xs = ys)) := by
  unfold Sh at h
  unfold D.laws_eqInt64S
  by_cases hl : xs.length = ys.length
  · have e : ((xs.length : Int) != (ys.length : Int)) = false := by simp [hl]
    rw [e, cond_false, ← list_eq_all xs ys 0 hl]
    refine loop_allb xs.length _ false (fun i hi => ?_) ?_ rfl rfl
    · have hi' : i < ys.length := by omega
      simp only [dlt hi, cond_true, idx_nat hi, idx_nat hi', Option.bind_some, wi (show i < 4611686018427387904 by omega), getD_lt hi, getD_lt hi']
      by_cases hc : xs[i] = ys[i]
      · simp [hc]
      · have : (xs[i] != ys[i]) = true := by simpa using hc
        simp [hc, this]
    · simp only [dnlt, cond_false]
  · have e : ((xs.length : Int) != (ys.length : Int)) = true := by simp; omega
    have : xs ≠ ys := by rintro rfl; exact hl rfl
    simp [e, this]
theorem eqSS_eq (xs ys : List (List Int)) (h : Sh2 xs) : D.laws_eqInt64SS xs ys = some (decide (xs = ys)) := by
  obtain ⟨h, h2⟩ := h
  unfold Sh at h
  unfold D.laws_eqInt64SS
  by_cases hl : xs.length = ys.length
  · have e : ((xs.length : Int) != (ys.length : Int)) = false := by simp [hl]
    rw [e, cond_false, ← list_eq_all xs ys [] hl]
    refine loop_allb xs.length _ false (fun i hi => ?_) ?_ rfl rfl
    · have hi' : i < ys.length := by omega
      simp only [dlt hi, cond_true, idx_nat hi, idx_nat hi', Option.bind_some, wi (show i < 4611686018427387904 by omega), getD_lt hi, getD_lt hi', eqS_eq _ _ (h2 _ (List.getElem_mem hi))]
      by_cases hc : xs[i] = ys[i]
      · simp [hc]
      · simp [hc]
    · simp only [dnlt, cond_false]
  · have e : ((xs.length : Int) != (ys.length : Int)) = true := by simp; omega
    have : xs ≠ ys := by rintro rfl; exact hl rfl
    simp [e, this]
theorem eqGraph_eq (xs ys : List (List Int)) (h : Sh2 xs) : D.laws_eqGraph xs ys = some (decide (xs = ys)) := by
  unfold D.laws_eqGraph; rw [eqSS_eq xs ys h, Option.bind_some]; cases decide (xs = ys) <;> rfl

/-! ### sizes -/
/-- how many there are in all -/
def tot : List (List Int) → Int
  | [] => 0
  | x :: xs => x.length + tot xs
theorem tot_nonneg : ∀ xs, 0 ≤ tot xs
  | [] => Int.le_refl _
  | x :: xs => by have := tot_nonneg xs; simp only [tot]; omega
theorem tot_app : ∀ xs ys, tot (xs ++ ys) = tot xs + tot ys
  | [], ys => by simp [tot]
  | x :: xs, ys => by simp only [List.cons_append, tot, tot_app xs ys]; omega
theorem tot_mem : ∀ {xs : List (List Int)} {x}, x ∈ xs → (x.length : Int) ≤ tot xs
  | y :: xs, x, h => by
    have := tot_nonneg xs
    simp only [tot]
    rcases List.mem_cons.1 h with rfl | h
    · omega
    · have := tot_mem h; omega
theorem tot_take {xs : List (List Int)} {i : Nat} (h : i < xs.length) : tot (xs.take (i + 1)) = tot (xs.take i) + xs[i].length := by
  rw [List.take_succ_eq_append_getElem h, tot_app]; simp [tot]
theorem tot_le {xs : List (List Int)} {n : Int} (h : ∀ x ∈ xs, (x.length : Int) ≤ n) : tot xs ≤ xs.length * n := by
  induction xs with
  | nil => simp [tot]
  | cons x xs ih =>
    have := ih (fun y hy => h y (by simp [hy]))
    have := h x (by simp)
    simp only [tot, List.length_cons, Int.natCast_add, Int.add_mul]; omega
theorem Sh2.of_tot {xs : List (List Int)} (h : Sh xs) (h2 : tot xs ≤ 4294967296) : Sh2 xs := ⟨h, fun x hx => by have := tot_mem hx; unfold Sh; omega⟩

theorem szS_eq (xs : List Int) (k : Int) (hx : (xs.length : Int) ≤ 9223372036854775807) (h0 : 0 ≤ k) (h1 : k ≤ 1048576) :
    D.laws_szInt64S xs k = some (if (xs.length : Int) ≤ k then k - xs.length else -1) := by
  unfold D.laws_szInt64S
  rw [w64 (by omega) (by omega)]
  by_cases h : k - (xs.length : Int) < 0
  · rw [if_neg (by omega)]; simp [h]
  · rw [if_pos (by omega)]; simp [h]
theorem szSS_eq (xs : List (List Int)) (k : Int) (hx : (xs.length : Int) ≤ 9223372036854775807) (hx2 : ∀ x ∈ xs, (x.length : Int) ≤ 9223372036854775807) (h0 : 0 ≤ k) (h1 : k ≤ 1048576) :
    ∃ y, D.laws_szInt64SS xs k = some y ∧ (y < 0 ∨ (y + xs.length + tot xs = k ∧ 0 ≤ y)) := by
  unfold D.laws_szInt64SS
  rw [w64 (by omega) (by omega)]
  by_cases h : k - (xs.length : Int) < 0
  · simp only [h, decide_true, cond_true]; exact ⟨-1, rfl, .inl (by omega)⟩
  · simp only [h, decide_false, cond_false]
    have key : ∀ (n i : Nat) (l : Int), i + n = xs.length → 0 ≤ l → l + tot (xs.take i) = k - xs.length →
        ∃ r, loopF (σ := Int × Int) (ρ := (Int) ⊕ (Int)) (fun (s_39 : Int × Int) => match s_39 with | (x_42, x_43) => cond (decide (x_43 < (xs.length : Int))) ((idx xs x_43).bind fun e_64 => (D.laws_szInt64S e_64 x_42).bind fun y_70 => cond (decide (y_70 < 0)) (some (.inr (.inr (-1)))) (some (.inl (y_70, (IntKind.i64.wrap (x_43 + 1)))))) (some (.inr (.inl x_42)))) (l, (i : Int)) = some r ∧
          (r = .inr (-1) ∨ ∃ y, r = .inl y ∧ y + xs.length + tot xs = k ∧ 0 ≤ y) := by
      intro n
      induction n with
      | zero =>
        intro i l hi hl he
        obtain rfl : i = xs.length := by omega
        refine ⟨.inl l, loopF_done (by simp only [dnlt, cond_false]), .inr ⟨l, rfl, ?_, hl⟩⟩
        rw [List.take_length] at he; omega
      | succ n ih =>
        intro i l hi hl he
        have hil : i < xs.length := by omega
        have ht := tot_nonneg (xs.take i)
        have e1 := szS_eq xs[i] l (hx2 _ (List.getElem_mem hil)) hl (by omega)
        by_cases hc : (xs[i].length : Int) ≤ l
        · rw [if_pos hc] at e1
          obtain ⟨r, hr, hp⟩ := ih (i + 1) (l - xs[i].length) (by omega) (by omega) (by rw [tot_take hil]; omega)
          refine ⟨r, ?_, hp⟩
          rw [loopF_more (s' := (l - xs[i].length, ((i + 1 : Nat) : Int)))]
          · exact hr
          · have hd : decide (l - (xs[i].length : Int) < 0) = false := by simp; omega
            simp only [dlt hil, cond_true, idx_nat hil, Option.bind_some, e1, hd, cond_false, wi (show i < 4611686018427387904 by omega)]
        · rw [if_neg hc] at e1
          refine ⟨.inr (-1), loopF_done ?_, .inl rfl⟩
          have hd : decide ((-1 : Int) < 0) = true := by decide
          simp only [dlt hil, cond_true, idx_nat hil, Option.bind_some, e1, hd]
    obtain ⟨r, hr, hp⟩ := key xs.length 0 (k - xs.length) (by omega) (by omega) (by simp [tot])
    rw [show ((0 : Nat) : Int) = 0 from rfl] at hr
    rw [hr, Option.bind_some]
    rcases hp with rfl | ⟨y, rfl, h1, h2⟩
    · exact ⟨-1, rfl, .inl (by omega)⟩
    · exact ⟨y, rfl, .inr ⟨h1, h2⟩⟩
theorem szGraph_eq (xs : List (List Int)) (k : Int) (hx : (xs.length : Int) ≤ 9223372036854775807) (hx2 : ∀ x ∈ xs, (x.length : Int) ≤ 9223372036854775807) (h0 : 0 ≤ k) (h1 : k ≤ 1048576) :
    ∃ y, D.laws_szGraph xs k = some y ∧ (y < 0 ∨ (y + xs.length + tot xs = k ∧ 0 ≤ y)) := by
  obtain ⟨y, e, h⟩ := szSS_eq xs k hx hx2 h0 h1
  unfold D.laws_szGraph
  rw [e, Option.bind_some]
  by_cases hy : y < 0
  · simp only [hy, decide_true, cond_true]; exact ⟨-1, rfl, .inl (by omega)⟩
  · simp only [hy, decide_false, cond_false]; exact ⟨y, rfl, h⟩

/-! ### marks -/
/-- so many numbers from k on -/
def numsI (k : Int) (n : Nat) : List Int := (List.range n).map fun (i : Nat) => k + (i : Int)
theorem numsI_len (k : Int) (n : Nat) : (numsI k n).length = n := by simp [numsI]
theorem numsI_get (k : Int) {n i : Nat} (h : i < (numsI k n).length) : (numsI k n)[i] = k + (i : Int) := by simp [numsI]
def marked (k : Int) : List (List Int) → List (List Int)
  | [] => []
  | x :: xs => numsI k x.length :: marked (k + x.length) xs
theorem marked_app : ∀ xs ys k, marked k (xs ++ ys) = marked k xs ++ marked (k + tot xs) ys
  | [], ys, k => by simp [marked, tot]
  | x :: xs, ys, k => by simp only [List.cons_append, marked, marked_app xs ys, tot]; rw [show k + (x.length : Int) + tot xs = k + (x.length + tot xs) by omega]
theorem marked_len : ∀ xs k, (marked k xs).length = xs.length
  | [], _ => rfl
  | x :: xs, k => by simp [marked, marked_len xs]
theorem marked_get : ∀ (xs : List (List Int)) (k : Int) (i : Nat) (h : i < xs.length), (marked k xs)[i]'(by rw [marked_len]; exact h) = numsI (k + tot (xs.take i)) xs[i].length
  | x :: xs, k, 0, h => by simp [marked, tot]
  | x :: xs, k, i + 1, h => by
    simp only [marked, List.getElem_cons_succ, List.take_succ_cons, tot]
    rw [marked_get xs (k + x.length) i (by simpa using h)]
    congr 1; omega
theorem markS_eq (xs : List Int) (k : Int) (h : Sh xs) (h0 : 0 ≤ k) (h1 : k ≤ 4611686018427387904) : D.laws_markInt64S xs k = some (k + xs.length, numsI k xs.length) := by
  unfold Sh at h
  unfold D.laws_markInt64S
  have e : (numsI k xs.length ++ xs.drop xs.length) = numsI k xs.length := by simp
  refine (loop_to (fun i => (numsI k i ++ xs.drop i, k + (i : Int), (i : Int))) xs.length (numsI k xs.length, k + (xs.length : Int)) (by simp [numsI]) (fun i hi => ?_) ?_).trans rfl
  · have hl : (numsI k i ++ xs.drop i).length = xs.length := by simp [numsI_len]; omega
    have hi' : i < (numsI k i ++ xs.drop i).length := by omega
    have hset : (numsI k i ++ xs.drop i).set i (k + i) = numsI k (i + 1) ++ xs.drop (i + 1) := by
      rw [List.drop_eq_getElem_cons hi, List.set_append_right _ _ (by rw [numsI_len]; omega)]
      simp only [numsI_len, Nat.sub_self, List.set_cons_zero]
      unfold numsI
      rw [List.range_succ, List.map_append]; simp
    simp only [dlt hi', cond_true, idx_nat hi', Option.bind_some, wi (show i < 4611686018427387904 by omega), Int.toNat_natCast, hset]
    rw [w64 (by omega) (by omega)]
    have : k + (i : Int) + 1 = k + ((i + 1 : Nat) : Int) := by omega
    rw [this]
  · simp only [e, numsI_len, dnlt, cond_false]
theorem markSS_eq (xs : List (List Int)) (k : Int) (h : Sh2 xs) (h0 : 0 ≤ k) (h1 : k + tot xs ≤ 4611686018427387904) : D.laws_markInt64SS xs k = some (k + tot xs, marked k xs) := by
  obtain ⟨h, h2⟩ := h
  unfold Sh at h
  unfold D.laws_markInt64SS
  have hml : ∀ i, i ≤ xs.length → (marked k (xs.take i)).length = i := fun i hi => by rw [marked_len, List.length_take]; omega
  refine (loop_to (fun i => (marked k (xs.take i) ++ xs.drop i, k + tot (xs.take i), (i : Int))) xs.length (marked k xs, k + tot xs) (by simp [marked, tot]) (fun i hi => ?_) ?_).trans rfl
  · have hm := hml i (by omega)
    have hl : (marked k (xs.take i) ++ xs.drop i).length = xs.length := by simp [hm]; omega
    have hi' : i < (marked k (xs.take i) ++ xs.drop i).length := by omega
    have hg : (marked k (xs.take i) ++ xs.drop i)[i] = xs[i] := by
      rw [List.getElem_append_right (by omega)]
      simp [hm]
    have ht := tot_take hi
    have htn : tot (xs.take (i + 1)) ≤ tot xs := by
      have := tot_app (xs.take (i + 1)) (xs.drop (i + 1))
      rw [List.take_append_drop] at this
      have := tot_nonneg (xs.drop (i + 1)); omega
    have htn0 := tot_nonneg (xs.take i)
    have hset : (marked k (xs.take i) ++ xs.drop i).set i (numsI (k + tot (xs.take i)) xs[i].length) = marked k (xs.take (i + 1)) ++ xs.drop (i + 1) := by
      have e0 : i - (marked k (xs.take i)).length = 0 := by omega
      rw [List.drop_eq_getElem_cons hi, List.set_append_right _ _ (by omega), List.take_succ_eq_append_getElem hi, marked_app, e0, List.set_cons_zero, List.append_assoc]
      rfl
    simp only [dlt hi', cond_true, idx_nat hi', hg, Option.bind_some, wi (show i < 4611686018427387904 by omega), Int.toNat_natCast, markS_eq xs[i] (k + tot (xs.take i)) (h2 _ (List.getElem_mem hi)) (by omega) (by omega), hset]
    rw [ht]
    have : k + tot (xs.take i) + (xs[i].length : Int) = k + (tot (xs.take i) + (xs[i].length : Int)) := by omega
    rw [this]
  · have e : marked k (xs.take xs.length) ++ xs.drop xs.length = marked k xs := by simp
    simp only [e, marked_len, dnlt, cond_false]
    simp only [List.take_length]
theorem markGraph_eq (xs : List (List Int)) (k : Int) (h : Sh2 xs) (h0 : 0 ≤ k) (h1 : k + tot xs ≤ 4611686018427387904) : D.laws_markGraph xs k = some (k + tot xs, marked k xs) := by
  unfold D.laws_markGraph; rw [markSS_eq xs k h h0 h1]; rfl

theorem heldS_eq (n : Nat) (k : Int) (h : n ≤ 4294967296) (h0 : 0 ≤ k) (h1 : k ≤ 4611686018427387904) : D.laws_heldInt64S (numsI k n) k = some (k + n) := by
  unfold D.laws_heldInt64S
  rw [numsI_len]
  refine (loop_to (fun i => (k + (i : Int), (i : Int))) n (.inl (k + (n : Int))) (by simp) (fun i hi => ?_) ?_).trans rfl
  · have hi' : i < (numsI k n).length := by rw [numsI_len]; exact hi
    simp only [dlt hi, cond_true, idx_nat hi', numsI_get, Option.bind_some, bne_self_eq_false, cond_false, wi (show i < 4611686018427387904 by omega)]
    rw [w64 (by omega) (by omega)]
    have : k + (i : Int) + 1 = k + ((i + 1 : Nat) : Int) := by omega
    rw [this]
  · simp only [dnlt, cond_false]
theorem heldSS_eq (xs : List (List Int)) (k : Int) (h : Sh2 xs) (h0 : 0 ≤ k) (h1 : k + tot xs ≤ 4611686018427387904) : D.laws_heldInt64SS (marked k xs) k = some (k + tot xs) := by
  obtain ⟨h, h2⟩ := h
  unfold Sh at h
  unfold D.laws_heldInt64SS
  rw [marked_len]
  refine (loop_to (fun i => (k + tot (xs.take i), (i : Int))) xs.length (.inl (k + tot xs)) (by simp [tot]) (fun i hi => ?_) ?_).trans rfl
  · have hi' : i < (marked k xs).length := by rw [marked_len]; exact hi
    have ht := tot_take hi
    have htn : tot (xs.take (i + 1)) ≤ tot xs := by
      have := tot_app (xs.take (i + 1)) (xs.drop (i + 1))
      rw [List.take_append_drop] at this
      have := tot_nonneg (xs.drop (i + 1)); omega
    have htn0 := tot_nonneg (xs.take i)
    simp only [dlt hi, cond_true, idx_nat hi', marked_get xs k i hi, Option.bind_some, heldS_eq xs[i].length (k + tot (xs.take i)) (h2 _ (List.getElem_mem hi)) (by omega) (by omega), wi (show i < 4611686018427387904 by omega)]
    have hd : decide (k + tot (xs.take i) + (xs[i].length : Int) < 0) = false := by simp; omega
    simp only [hd, cond_false, ht]
    have : k + tot (xs.take i) + (xs[i].length : Int) = k + (tot (xs.take i) + (xs[i].length : Int)) := by omega
    rw [this]
  · simp only [dnlt, cond_false, List.take_length]
end Go.Sx



/- FnExactPathDecomp, plain: the law's own function answers true. -/
namespace Go.Sx
theorem eqDecomp_eq (a b c d : List (List Int)) (h1 : Sh2 a) (h2 : Sh2 b) : D.laws_eqDecomp a b c d = some (decide (a = c) && decide (b = d)) := by
  unfold D.laws_eqDecomp
  rw [eqSS_eq a c h1, Option.bind_some]
  cases decide (a = c)
  · rfl
  · rw [eqSS_eq b d h2, Option.bind_some]; cases decide (b = d) <;> rfl
theorem markDecomp_eq (a b : List (List Int)) (k : Int) (h1 : Sh2 a) (h2 : Sh2 b) (h0 : 0 ≤ k) (h : k + tot a + tot b ≤ 4611686018427387904) :
    D.laws_markDecomp a b k = some (k + tot a + tot b, marked k a, marked (k + tot a) b) := by
  have := tot_nonneg a; have := tot_nonneg b
  unfold D.laws_markDecomp
  rw [markSS_eq a k h1 h0 (by omega), Option.bind_some, markSS_eq b _ h2 (by dsimp only; omega) (by dsimp only; omega)]; rfl
theorem heldDecomp_eq (a b : List (List Int)) (k : Int) (h1 : Sh2 a) (h2 : Sh2 b) (h0 : 0 ≤ k) (h : k + tot a + tot b ≤ 4611686018427387904) :
    D.laws_heldDecomp (marked k a) (marked (k + tot a) b) k = some (k + tot a + tot b) := by
  have := tot_nonneg a; have := tot_nonneg b
  unfold D.laws_heldDecomp
  rw [heldSS_eq a k h1 h0 (by omega), Option.bind_some, heldSS_eq b _ h2 (by omega) (by omega)]
  have d1 : decide (k + tot a < 0) = false := by simp; omega
  have d2 : decide (k + tot a + tot b < 0) = false := by simp; omega
  simp only [d1, d2, cond_false, Option.bind_some]

end Go.Sx

/- FnExactTidiedDecomp, plain: the law's own function answers true. -/
namespace Go.Sx
theorem TB.sh {g B K : List (List Int)} (hg : GOk g) (h : TB g B K) : Sh2 B ∧ Sh2 K := by
  have h16 := hg.n16; have := h.n16; have := h.many
  refine ⟨⟨by unfold Sh; omega, fun b hb => by have := (h.sets b hb).length_le (by omega); unfold Sh; omega⟩, ⟨by unfold Sh; omega, fun l hl => ?_⟩⟩
  obtain ⟨a, b, rfl, _⟩ := h.lks l hl
  simp [Sh]

section
variable {g B K : List (List Int)} (hg : GOk g) (h : TB g B K)
include hg h
theorem tidied_both : ∃ B' K' : List (List Int), D.spec_l9Sorted B K = some (B, K.mergeSort keyLe) ∧ D.impl_tidied B K = some (B', K') ∧
    (loopF (σ := (List (List Int)) × (List (List Int))) (ρ := (((List (List Int))) × ((List (List Int))) × Bool)) (fun (s_125 : (List (List Int)) × (List (List Int))) => match s_125 with | (l_128, l_133) => (D.spec_l9Spare l_128 l_133).bind fun y_139 => cond (decide (y_139.1 < 0)) (some (.inr (l_128, l_133, true))) ((D.spec_l9Merge l_128 l_133 y_139.1 y_139.2).bind fun y_160 => some (.inl (y_160.1, y_160.2)))) (B, K.mergeSort keyLe) = some (B', K', true)) ∧
    B'.length ≤ 16 ∧ (∀ x ∈ B', x.length ≤ 32) ∧ K'.length ≤ 16 ∧ ∀ x ∈ K', x.length = 2 := by
  have h16 := hg.n16; have b16 := h.n16; have hm := h.many
  obtain ⟨hB, hK⟩ := h.sh hg
  have hgood : ∀ x ∈ K, rowGood x := fun x hx => (h.lks x hx).good (by omega)
  have hBe : (B.map mk).map elems = B := by
    rw [List.map_map]
    conv => rhs; rw [← List.map_id B]
    refine List.map_congr_left (fun b hb => ?_)
    have hs := h.sets b hb
    exact elems_mk' h16 hs.1 hs.2
  have hT : TS (B.map mk) (K.mergeSort keyLe) := by
    refine ⟨by simpa using b16, fun s hs => ?_, fun l hl => ?_, by rw [(mergeKey_perm _).length_eq]; omega⟩
    · obtain ⟨b, _, rfl⟩ := List.mem_map.1 hs
      exact VS.mk _
    · rw [List.length_map]
      exact h.lks l ((mergeKey_perm K).mem_iff.1 hl)
  obtain ⟨M', K', hT', e1, e2⟩ := tidy_both 16 (B.map mk) (K.mergeSort keyLe) (by simpa using b16) hT
  rw [hBe] at e2
  refine ⟨M'.map elems, K', ?_, ?_, e2, by rw [List.length_map]; exact hT'.n16, fun x hx => ?_, hT'.k16, fun x hx => ?_⟩
  · unfold D.spec_l9Sorted
    refine (loop_to (fun i => ((i : Int), B.take i)) B.length B (by simp) (fun i hi => ?_) ?_).trans ?_
    · simp only [dlt hi, cond_true, idx_nat hi, Option.bind_some, l1Copy_eq _ (hB.2 _ (List.getElem_mem hi)), wi (show i < 4611686018427387904 by omega)]
      rw [appendD_ok (by simp; omega), Option.bind_some, List.take_succ_eq_append_getElem hi]
    · simp only [dnlt, cond_false, List.take_length]
    · refine (loop_to (fun i => ((i : Int), insAll [] (K.take i))) K.length (insAll [] K) (by simp [insAll]) (fun i hi => ?_) ?_).trans ?_
      · obtain ⟨a, b, e, hab, hb⟩ := h.lks _ (List.getElem_mem hi)
        have i0 : idx K[i] 0 = some (a : Int) := by rw [e]; rfl
        have i1 : idx K[i] 1 = some (b : Int) := by rw [e]; rfl
        have el : mkLink (a : Int) (b : Int) = K[i] := by
          rw [e]; unfold mkLink
          rw [show min (a : Int) (b : Int) = a by omega, show max (a : Int) (b : Int) = b by omega]
        obtain ⟨hp, _⟩ := insAll_ok (K.take i) [] (by simp [Srtd2])
        rw [List.append_nil] at hp
        have hlen : (insAll [] (K.take i)).length ≤ 16 := by rw [hp.length_eq, List.length_take]; omega
        simp only [dlt hi, cond_true, idx_nat hi, Option.bind_some, i0, i1, wi (show i < 4611686018427387904 by omega)]
        rw [l9Link_eq (fun x hx => hgood x (List.mem_of_mem_take (hp.mem_iff.1 hx))) (by rw [el]; exact hgood _ (List.getElem_mem hi)) (by omega), Option.bind_some, el, List.take_succ_eq_append_getElem hi, insAll_snoc]
      · simp only [dnlt, cond_false, List.take_length]
      · rw [insAll_sort hgood]
  · unfold D.impl_tidied
    rw [masks_eq hg h.sets b16, Option.bind_some]
    unfold D.slices_Clone2_int64_int64
    rw [appendD_ok (by simp; omega)]
    simp only [Option.bind_some, List.nil_append]
    rw [sortRows_def (by omega) hgood, Option.bind_some, e1, Option.bind_some]
    dsimp only
    have hl := hT'.n16; have hk := hT'.k16
    rw [results_eq M' (by unfold Sh; omega) hT'.vs, Option.bind_some]
    refine (loop_to (fun i => ((i : Int), K'.take i)) K'.length K' (by simp) (fun i hi => ?_) ?_).trans rfl
    · obtain ⟨a, b, e, _⟩ := hT'.lk _ (List.getElem_mem hi)
      have hc : D.slices_Clone_int64_int64 K'[i] = some K'[i] := by
        unfold D.slices_Clone_int64_int64
        rw [appendD_ok (by rw [e]; simp)]; rfl
      simp only [dlt hi, cond_true, idx_nat hi, Option.bind_some, hc, wi (show i < 4611686018427387904 by omega)]
      rw [appendD_ok (by simp; omega), Option.bind_some, List.take_succ_eq_append_getElem hi]
    · simp only [dnlt, cond_false, List.take_length]
  · obtain ⟨s, _, rfl⟩ := List.mem_map.1 hx
    exact elems_len s
  · obtain ⟨a, b, rfl, _⟩ := hT'.lk x hx
    rfl
end

open Classical in
theorem Tidied_all (g B K : List (List Int)) (h1 : Sh2 g) (h2 : Sh2 B) (h3 : Sh2 K) : ∃ r : List (List Int) × List (List Int) × Bool, D.spec_TidiedDecomp g B K = some r ∧ D.impl_TidiedDecomp g B K = some r ∧ Sh2 r.1 ∧ Sh2 r.2.1 ∧ tot r.1 ≤ 4294967296 ∧ tot r.2.1 ≤ 4294967296 := by
  by_cases hgt : GOk g ∧ TB g B K
  · obtain ⟨hg, ht⟩ := hgt
    obtain ⟨B', K', e1, e2, e3, k1, k2, k3, k4⟩ := tidied_both hg ht
    have t1 := tot_le (xs := B') (n := 32) (fun x hx => by have := k2 x hx; omega)
    have t2 := tot_le (xs := K') (n := 2) (fun x hx => by have := k4 x hx; omega)
    refine ⟨(B', K', true), ?_, ?_, Sh2.of_tot (by unfold Sh; dsimp only; omega) (by dsimp only; omega), Sh2.of_tot (by unfold Sh; dsimp only; omega) (by dsimp only; omega), by dsimp only; omega, by dsimp only; omega⟩
    · unfold D.spec_TidiedDecomp
      rw [spec_DecompOk_eq hg h2 h3, decide_eq_true ht, Option.bind_some, Bool.not_true, cond_false, e1, Option.bind_some, e3]; rfl
    · unfold D.impl_TidiedDecomp
      rw [impl_DecompOk_eq hg h2 h3, decide_eq_true ht, Option.bind_some, Bool.not_true, cond_false, e2]; rfl
  · refine ⟨([], [], false), ?_, ?_, ⟨by simp [Sh], by simp⟩, ⟨by simp [Sh], by simp⟩, by simp [tot], by simp [tot]⟩
    · unfold D.spec_TidiedDecomp
      by_cases hg : GOk g
      · rw [spec_DecompOk_eq hg h2 h3, decide_eq_false (fun ht => hgt ⟨hg, ht⟩)]; rfl
      · unfold D.spec_DecompOk
        have hb : gB g = false := by
          cases hh : gB g
          · rfl
          · exact absurd ((gB_iff g).1 hh) hg
        rw [spec_GraphOk_eq g h1, hb]; rfl
    · unfold D.impl_TidiedDecomp
      by_cases hg : GOk g
      · rw [impl_DecompOk_eq hg h2 h3, decide_eq_false (fun ht => hgt ⟨hg, ht⟩)]; rfl
      · unfold D.impl_DecompOk
        have hb : gB g = false := by
          cases hh : gB g
          · rfl
          · exact absurd ((gB_iff g).1 hh) hg
        rw [impl_GraphOk_eq g h1, hb]; rfl

theorem szDecomp_eq (B K : List (List Int)) (k : Int) (hx : (B.length : Int) ≤ 9223372036854775807) (hx2 : ∀ x ∈ B, (x.length : Int) ≤ 9223372036854775807) (hy : (K.length : Int) ≤ 9223372036854775807) (hy2 : ∀ x ∈ K, (x.length : Int) ≤ 9223372036854775807) (h0 : 0 ≤ k) (h1 : k ≤ 1048576) :
    ∃ y, D.laws_szDecomp B K k = some y ∧ (y < 0 ∨ (y + B.length + tot B + K.length + tot K = k ∧ 0 ≤ y)) := by
  unfold D.laws_szDecomp
  obtain ⟨y, e, hh⟩ := szSS_eq B k hx hx2 h0 h1
  rw [e, Option.bind_some]
  have tb := tot_nonneg B; have tk := tot_nonneg K
  by_cases hy0 : y < 0
  · simp only [hy0, decide_true, cond_true]; exact ⟨-1, rfl, .inl (by omega)⟩
  · simp only [hy0, decide_false, cond_false]
    obtain ⟨z, e2, hh2⟩ := szSS_eq K y hy hy2 (by omega) (by omega)
    rw [e2, Option.bind_some]
    by_cases hz0 : z < 0
    · simp only [hz0, decide_true, cond_true]; exact ⟨-1, rfl, .inl (by omega)⟩
    · simp only [hz0, decide_false, cond_false]; exact ⟨z, rfl, .inr (by omega)⟩
theorem toDecomp_eq (B K : List (List Int)) (h2 : Sh2 B) (h3 : Sh2 K) : D.laws_toDecomp B K = some (B, K) := by
  unfold D.laws_toDecomp; rw [toSS_eq B h2, Option.bind_some, toSS_eq K h3]; rfl

theorem FnExactTidiedDecomp_true (g B K : List (List Int)) (hx : (g.length : Int) ≤ 9223372036854775807) (hx2 : ∀ x ∈ g, (x.length : Int) ≤ 9223372036854775807) (hy : (B.length : Int) ≤ 9223372036854775807) (hy2 : ∀ x ∈ B, (x.length : Int) ≤ 9223372036854775807)
    (hz : (K.length : Int) ≤ 9223372036854775807) (hz2 : ∀ x ∈ K, (x.length : Int) ≤ 9223372036854775807) : D.laws_FnExactTidiedDecomp g B K = some true := by
  unfold D.laws_FnExactTidiedDecomp
  have tg := tot_nonneg g; have tb := tot_nonneg B; have tk := tot_nonneg K
  obtain ⟨y, e, hy'⟩ := szGraph_eq g 1048576 hx hx2 (by omega) (by omega)
  rw [e, Option.bind_some]
  rcases hy' with hy' | ⟨hy', hy0⟩
  · simp only [hy', decide_true, cond_true]
  · have hd : decide (y < 0) = false := by simp; omega
    simp only [hd, cond_false]
    obtain ⟨z, e2, hz'⟩ := szDecomp_eq B K y hy hy2 hz hz2 (by omega) (by omega)
    rw [e2, Option.bind_some]
    rcases hz' with hz' | ⟨hz', hz0⟩
    · simp only [hz', decide_true, cond_true]
    · have hd2 : decide (z < 0) = false := by simp; omega
      have h1 : Sh2 g := Sh2.of_tot (by unfold Sh; omega) (by omega)
      have h2 : Sh2 B := Sh2.of_tot (by unfold Sh; omega) (by omega)
      have h3 : Sh2 K := Sh2.of_tot (by unfold Sh; omega) (by omega)
      obtain ⟨r, f1, f2, r1, r2, r3, r4⟩ := Tidied_all g B K h1 h2 h3
      have n1 := tot_nonneg r.1; have n2 := tot_nonneg r.2.1
      simp only [hd2, cond_false, toGraph_eq g h1, toDecomp_eq B K h2 h3, f1, f2, Option.bind_some, eqDecomp_eq _ _ _ _ r1 r2, eqDecomp_eq _ _ _ _ h2 h3, decide_true, Bool.and_self, Bool.not_true, bne_self_eq_false, Bool.or_false,
        eqGraph_eq g g h1, markGraph_eq g 1 h1 (by omega) (by omega)]
      rw [markDecomp_eq B K (1 + tot g) h2 h3 (by omega) (by omega)]
      have d1 : decide (1 + tot g + tot B + tot K < 0) = false := by simp; omega
      have d2 : decide (1 + tot r.1 + tot r.2.1 < 0) = false := by simp; omega
      simp only [Option.bind_some, d1, cond_false, markDecomp_eq r.1 r.2.1 1 r1 r2 (by omega) (by omega), heldDecomp_eq r.1 r.2.1 1 r1 r2 (by omega) (by omega), d2, bne_self_eq_false]
end Go.Sx

/- Structs of two fields that come in. Over any program. -/
namespace Go.Sx
open Go.RowKit Go.ChangeShapes Go.WideShapes Go.Deep
section
variable {H : Type} {enc : TypeId × Value → H} {P : Program} {w : World} {base : Nat} {spare : Nat → Bool} {held : Bool}
theorem Opens.struct2 {t : TypeId} {f0 f1 : Field} {cs : List Value} {fuel : Nat} {y : DataW H × List MemPlace} {α β : Type} {R : Rep α} {S : Rep β} (ht : P.underlying t = some (.struct #[f0, f1])) (hn : P.cellsOf t = 2) (o0 : f0.offset = 0) (o1 : f1.offset = 1)
    (c0 : P.cellsOf f0.type = 1) (c1 : P.cellsOf f1.type = 1) (h0 : Opens enc P w base spare held f0.type R) (h1 : Opens enc P w base spare held f1.type S) (h : DataW.trod enc P w base spare held fuel t cs = some y) : ∃ v u x z, cs = [v, u] ∧ R (G0 w) v x ∧ S (G0 w) u z := by
  obtain ⟨y0, y1, n, _, hl, h2, h3⟩ := trod_struct2 ht h
  rw [hn] at hl
  match cs, hl with
  | [v, u], _ =>
    rw [o0, c0] at h2
    rw [o1, c1] at h3
    simp at h2 h3
    obtain ⟨x, hx⟩ := h0 n v _ h2
    obtain ⟨z, hz⟩ := h1 n u _ h3
    exact ⟨v, u, x, z, rfl, hx, hz⟩
end
end Go.Sx
