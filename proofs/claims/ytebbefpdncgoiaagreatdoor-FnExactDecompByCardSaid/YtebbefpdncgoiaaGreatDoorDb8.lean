/- Parts of the proof: Sb, Sc, Rc, Rd, Sd, Se, Ta, Sf, Qf, Re, Tb, Tc, Xa, Xc, Qg, U1D, Qh, Xd, Xe. -/
import Derived.Test.YtebbefpdncgoiaaGreatDoorDb7
set_option linter.unusedVariables false
set_option linter.unusedSimpArgs false
set_option linter.unusedSectionVars false
/- Elimination: the filled neighbours and the later ones, by what they have. Plain. -/
namespace Go.Sx
/-- is w a neighbour of u, by masks -/
def nb (F : List Int) (u w : Nat) : Bool := has (F.getD u 0) w
/-- masks of a graph of n vertices -/
structure FOk (F : List Int) (n : Nat) : Prop where
  len : F.length = n
  vs : ∀ u, u < n → VS (F.getD u 0)
  lt : ∀ u w, u < n → nb F u w = true → w < n
  irr : ∀ u, u < n → nb F u u = false
  sym : ∀ u w, u < n → nb F u w = true → nb F w u = true

theorem FOk.ext {F F' : List Int} {n : Nat} (h : F.length = n) (h' : F'.length = n) (v : ∀ u, u < n → VS (F.getD u 0)) (v' : ∀ u, u < n → VS (F'.getD u 0)) (e : ∀ u w, u < n → nb F u w = nb F' u w) : F = F' := by
  refine ext_getD (by omega) (fun j hj => ?_)
  exact (v j (by omega)).ext (v' j (by omega)) (fun w _ => e j w (by omega))

theorem getD_map_mk (g : List (List Int)) (u : Nat) : (g.map mk).getD u 0 = mk (row g u) := by
  unfold row
  simp only [List.getD_eq_getElem?_getD, List.getElem?_map]
  cases g[u]? with
  | none => simp [mk]
  | some r => rfl
theorem nb_mk {g : List (List Int)} (hg : GOk g) {u w : Nat} (hu : u < g.length) : nb (g.map mk) u w = true ↔ adj g u w := by
  have h16 := hg.n16
  unfold nb
  rw [getD_map_mk, has_mk (fun x hx => by have := (hg.rows u hu).2 x hx; omega)]
  simp [adj]
theorem FOk.of {g : List (List Int)} (hg : GOk g) : FOk (g.map Sx.mk) g.length := by
  refine ⟨by simp, fun u _ => by rw [getD_map_mk]; exact VS.mk _, fun u w hu h => hg.lt hu ((nb_mk hg hu).1 h), fun u hu => ?_, fun u w hu h => ?_⟩
  · cases h : nb (g.map Sx.mk) u u
    · rfl
    · exact absurd ((nb_mk hg hu).1 h) (hg.irr u hu)
  · have ha := (nb_mk hg hu).1 h
    exact (nb_mk hg (hg.lt hu ha)).2 (hg.sym u w hu ha)

/-- the graph of masks -/
def grow (F : List Int) : List (List Int) := F.map elems
theorem row_grow (F : List Int) (u : Nat) : row (grow F) u = elems (F.getD u 0) := by
  unfold row grow
  simp only [List.getD_eq_getElem?_getD, List.getElem?_map]
  cases F[u]? with
  | none => simp [elems_zero]
  | some r => rfl
theorem adj_grow {F : List Int} {n u w : Nat} (h : FOk F n) (hu : u < n) : adj (grow F) u w ↔ nb F u w = true := by
  unfold adj nb
  rw [row_grow, mem_elems_nat (h.vs u hu)]
theorem GOk.grow {F : List Int} {n : Nat} (h : FOk F n) (h1 : 1 ≤ n) (h16 : n ≤ 16) : GOk (grow F) := by
  have hl : (Sx.grow F).length = n := by unfold Sx.grow; rw [List.length_map, h.len]
  refine ⟨by omega, by omega, fun v hv => ?_, fun v hv ha => ?_, fun u v hu ha => ?_⟩
  · rw [row_grow, hl]
    refine ⟨elems_inc _, fun x hx => ?_⟩
    obtain ⟨w, _, h2, rfl⟩ := mem_elems.1 hx
    have := h.lt v w (by omega) h2
    omega
  · rw [adj_grow h (by omega)] at ha
    rw [h.irr v (by omega)] at ha; cases ha
  · rw [adj_grow h (by omega)] at ha
    have := h.lt u v (by omega) ha
    rw [adj_grow h (by omega)]
    exact h.sym u v (by omega) ha
theorem mk_elems {s : Int} (h : VS s) : mk (elems s) = s := by
  refine (VS.mk _).ext h (fun v hv => ?_)
  rw [has_mk (fun x hx => by obtain ⟨w, h1, _, rfl⟩ := mem_elems.1 hx; omega), Bool.eq_iff_iff, decide_eq_true_eq, mem_elems_nat h]
theorem all_mask : ∀ n : Fin 17, ∀ v : Fin 32, has (IntKind.u32.wrap (ishl .u32 1 (n.val : Int) - 1)) v.val = decide (v.val < n.val) := by decide +kernel
theorem nets_all_eq (F : List Int) (h : F.length ≤ 16) : ∃ s, D.impl_nets_all F = some s ∧ VS s ∧ ∀ v, has s v = decide (v < F.length) := by
  refine ⟨IntKind.u32.wrap (ishl .u32 1 (F.length : Int) - 1), ?_, VS.wrap _, fun v => ?_⟩
  · unfold D.impl_nets_all D.impl_firstOf
    have : decide ((F.length : Int) < 0) = false := by simp
    rw [this]; rfl
  · by_cases hv : v < 32
    · exact all_mask ⟨F.length, by omega⟩ ⟨v, hv⟩
    · rw [has_big (VS.wrap _) (by omega)]; symm; simp; omega

/-- all of S become neighbours of each other -/
theorem inner_ok {n v : Nat} (F L : List Int) (S : Int) (h16 : n ≤ 16) (hF : F.length = n) (hV : ∀ u, u < n → VS (F.getD u 0)) (hS : VS S) (hSn : ∀ w, has S w = true → w < n) (hL : idx L (v : Int) = some S) :
    ∃ F', (loopF (σ := (List Int) × Int) (ρ := ((List Int))) (fun (s_776 : (List Int) × Int) => match s_776 with | (l_779, x_782) => cond (decide (x_782 < ((elems S).length : Int))) ((idx (elems S) x_782).bind fun e_820 => (idx l_779 e_820).bind fun e_826 => (idx L (v : Int)).bind fun e_832 => (D.impl_one e_820).bind fun y_838 => (idx l_779 e_820).bind fun e_841 => some (.inl ((l_779.set (Int.toNat e_820) (ior .u32 e_826 (iandNot .u32 e_832 y_838))), (IntKind.i64.wrap (x_782 + 1))))) (some (.inr l_779))) (F, 0)) = some F' ∧
      (F'.length = n ∧ (∀ u, u < n → VS (F'.getD u 0)) ∧ ∀ u w, u < n → nb F' u w = (nb F u w || (has S u && has S w && decide (w ≠ u)))) := by
  have key := loop_then (k := fun r => some r) (Q := fun F' : List Int => F'.length = n ∧ (∀ u, u < n → VS (F'.getD u 0)) ∧ ∀ u w, u < n → nb F' u w = (nb F u w || (has S u && has S w && decide (w ≠ u))))
    (step := (fun (s_776 : (List Int) × Int) => match s_776 with | (l_779, x_782) => cond (decide (x_782 < ((elems S).length : Int))) ((idx (elems S) x_782).bind fun e_820 => (idx l_779 e_820).bind fun e_826 => (idx L (v : Int)).bind fun e_832 => (D.impl_one e_820).bind fun y_838 => (idx l_779 e_820).bind fun e_841 => some (.inl ((l_779.set (Int.toNat e_820) (ior .u32 e_826 (iandNot .u32 e_832 y_838))), (IntKind.i64.wrap (x_782 + 1))))) (some (.inr l_779)))) (s := (F, 0))
    (fun s => ∃ i : Nat, s.2 = (i : Int) ∧ i ≤ (elems S).length ∧ s.1.length = n ∧ (∀ u, u < n → VS (s.1.getD u 0)) ∧ ∀ u w, u < n → nb s.1 u w = (nb F u w || (decide ((u : Int) ∈ (elems S).take i) && has S w && decide (w ≠ u)))) (fun s => (elems S).length - s.2.toNat)
    (fun F' => F'.length = n ∧ (∀ u, u < n → VS (F'.getD u 0)) ∧ ∀ u w, u < n → nb F' u w = (nb F u w || (has S u && has S w && decide (w ≠ u)))) ?_ ⟨0, rfl, by omega, hF, hV, fun u w _ => by simp⟩ (fun r hr => ⟨r, rfl, hr⟩)
  · obtain ⟨y, hy, hq⟩ := key
    rw [Option.bind_eq_some_iff] at hy
    obtain ⟨a, ha, hb⟩ := hy
    cases hb
    exact ⟨_, ha, hq⟩
  · rintro ⟨l, _⟩ ⟨i, rfl, hi, hl, hv, hh⟩
    dsimp only at hl hv hh ⊢
    have hle := elems_len S
    by_cases hlt : i < (elems S).length
    · obtain ⟨u0, h1, h2, h3⟩ := mem_elems.1 (List.getElem_mem hlt)
      have h4 := hSn u0 h2
      simp only [dlt hlt, cond_true, idx_nat hlt, Option.bind_some, h3, idx_nat (show u0 < l.length by omega), hL, impl_one_eq, wi (show i < 4611686018427387904 by omega), Int.toNat_natCast]
      refine ⟨_, rfl, ⟨i + 1, rfl, by omega, by simp [hl], fun u hu => ?_, fun u w hu => ?_⟩, by dsimp only; omega⟩
      · rw [getD_set _ _ _ _ (by omega)]
        split
        · exact VS.ior _ _
        · exact hv u hu
      · have hmem : ((u : Int) ∈ (elems S).take (i + 1)) ↔ ((u : Int) ∈ (elems S).take i ∨ u = u0) := by
          rw [List.take_succ_eq_append_getElem hlt, List.mem_append, h3]
          simp [Int.natCast_inj]
        unfold nb
        rw [getD_set _ _ _ _ (by omega)]
        by_cases hc : u = u0
        · subst hc
          rw [if_pos rfl]
          have hg : l[u] = l.getD u 0 := (getD_lt (by omega) 0).symm
          rw [hg, has_ior (hv u hu) (VS.iandNot _ _), has_iandNot hS (VS.ishl _ _), has_one (by omega)]
          have := hh u w hu
          unfold nb at this
          rw [this, decide_eq_true (hmem.2 (.inr rfl))]
          cases has (F.getD u 0) w <;> cases has S w <;> by_cases hw : w = u <;> simp [hw]
        · rw [if_neg hc]
          have := hh u w hu
          unfold nb at this
          rw [this]
          have : decide ((u : Int) ∈ (elems S).take (i + 1)) = decide ((u : Int) ∈ (elems S).take i) := by
            rw [Bool.eq_iff_iff, decide_eq_true_eq, decide_eq_true_eq, hmem]; simp [hc]
          rw [this]
    · obtain rfl : i = (elems S).length := by omega
      simp only [dnlt, cond_false]
      refine ⟨_, rfl, hl, hv, fun u w hu => ?_⟩
      rw [hh u w hu, List.take_length]
      congr 3
      rw [Bool.eq_iff_iff, decide_eq_true_eq, mem_elems_nat hS]

/-- the order is a perfect elimination order -/
def PEO (F : List Int) (o : List Int) : Prop := ∀ (j : Nat) (v u w : Nat), o[j]? = some (v : Int) → nb F v u = true → nb F v w = true → (u : Int) ∉ o.take (j + 1) → (w : Int) ∉ o.take (j + 1) → u ≠ w → nb F u w = true
/-- later neighbours -/
def Lat (F L : List Int) (o : List Int) (i : Nat) : Prop := ∀ (j : Nat) (v : Nat), j < i → o[j]? = some (v : Int) → ∀ w, nb L v w = (nb F v w && decide ((w : Int) ∉ o.take (j + 1)))

structure EInv (n : Nat) (F0 o : List Int) (i : Nat) (F L : List Int) (left : Int) : Prop where
  f : FOk F n
  lenL : L.length = n
  vsL : ∀ u, u < n → VS (L.getD u 0)
  vsl : VS left
  left : ∀ v, has left v = decide (v < n ∧ (v : Int) ∉ o.take i)
  mono : ∀ u w, u < n → nb F0 u w = true → nb F u w = true
  lat : Lat F L o i
  peo : ∀ (j : Nat) (v u w : Nat), j < i → o[j]? = some (v : Int) → nb F v u = true → nb F v w = true → (u : Int) ∉ o.take (j + 1) → (w : Int) ∉ o.take (j + 1) → u ≠ w → nb F u w = true
  same : PEO F0 o → F = F0

theorem mem_take_mono {o : List Int} {j i : Nat} (h : j ≤ i) {x : Int} (hx : x ∈ o.take j) : x ∈ o.take i := by
  rw [mem_take_iff] at hx ⊢
  obtain ⟨k, h1, h2, h3⟩ := hx
  exact ⟨k, h1, by omega, h3⟩

theorem EInv.step {n : Nat} {F0 o F L : List Int} {i v : Nat} {left : Int} (h16 : n ≤ 16) (hn : ∀ x ∈ o, 0 ≤ x ∧ x < n) (hnd : o.Nodup) (hi : i < o.length) (hv : o[i] = (v : Int)) (h : EInv n F0 o i F L left) {F' : List Int}
    (hl' : F'.length = n) (hv' : ∀ u, u < n → VS (F'.getD u 0)) (h' : ∀ u w, u < n → nb F' u w = (nb F u w || (has (iand .u32 (F.getD v 0) (iandNot .u32 left (ishl .u32 1 (v : Int)))) u && has (iand .u32 (F.getD v 0) (iandNot .u32 left (ishl .u32 1 (v : Int)))) w && decide (w ≠ u)))) :
    EInv n F0 o (i + 1) F' (L.set v (iand .u32 (F.getD v 0) (iandNot .u32 left (ishl .u32 1 (v : Int))))) (iandNot .u32 left (ishl .u32 1 (v : Int))) := by
  have hvn : v < n := by have := hn _ (List.getElem_mem hi); omega
  have hvt : (v : Int) ∉ o.take i := by rw [← hv]; exact nodup_iff.1 hnd i hi
  have htk : ∀ x : Nat, ((x : Int) ∈ o.take (i + 1)) ↔ ((x : Int) ∈ o.take i ∨ x = v) := fun x => by
    rw [List.take_succ_eq_append_getElem hi, List.mem_append, hv]; simp [Int.natCast_inj]
  have hleft : ∀ w, has (iandNot .u32 left (ishl .u32 1 (v : Int))) w = decide (w < n ∧ (w : Int) ∉ o.take (i + 1)) := fun w => by
    rw [has_iandNot h.vsl (VS.ishl _ _), has_one (by omega), h.left, Bool.eq_iff_iff]
    simp only [Bool.and_eq_true, decide_eq_true_eq, Bool.not_eq_true', decide_eq_false_iff_not, htk]
    constructor
    · rintro ⟨⟨a, b⟩, c⟩; exact ⟨a, fun hh => hh.elim b c⟩
    · rintro ⟨a, b⟩; exact ⟨⟨a, fun hh => b (.inl hh)⟩, fun hh => b (.inr hh)⟩
  have hS : ∀ w, has (iand .u32 (F.getD v 0) (iandNot .u32 left (ishl .u32 1 (v : Int)))) w = (nb F v w && decide ((w : Int) ∉ o.take (i + 1))) := fun w => by
    rw [has_iand (h.f.vs v hvn) (VS.iandNot _ _), hleft, Bool.eq_iff_iff]
    show (nb F v w && _) = true ↔ _
    simp only [Bool.and_eq_true, decide_eq_true_eq]
    exact ⟨fun ⟨a, b, c⟩ => ⟨a, c⟩, fun ⟨a, c⟩ => ⟨a, h.f.lt v w hvn a, c⟩⟩
  have hlV : VS (iandNot .u32 left (ishl .u32 1 (v : Int))) := VS.iandNot _ _
  generalize iandNot .u32 left (ishl .u32 1 (v : Int)) = left' at *
  generalize hSS : iand .u32 (F.getD v 0) left' = S at *
  have hSV : VS S := by rw [← hSS]; exact VS.iand _ _
  have hSlt : ∀ w, has S w = true → w < n ∧ (w : Int) ∉ o.take (i + 1) := fun w hw => by
    rw [hS] at hw
    simp only [Bool.and_eq_true, decide_eq_true_eq] at hw
    exact ⟨h.f.lt v w hvn hw.1, hw.2⟩
  have hmono : ∀ u w, u < n → nb F u w = true → nb F' u w = true := fun u w hu hh => by rw [h' u w hu, hh]; rfl
  -- rows of those that are gone do not change
  have hold : ∀ x : Nat, x < n → (x : Int) ∈ o.take (i + 1) → ∀ w, nb F' x w = nb F x w := fun x hx hm w => by
    rw [h' x w hx]
    have : has S x = false := by
      cases hc : has S x
      · rfl
      · exact absurd hm (hSlt x hc).2
    simp [this]
  have hf' : FOk F' n := by
    refine ⟨hl', hv', fun u w hu hh => ?_, fun u hu => ?_, fun u w hu hh => ?_⟩
    · rw [h' u w hu] at hh
      simp only [Bool.or_eq_true, Bool.and_eq_true] at hh
      rcases hh with hh | ⟨⟨_, hh⟩, _⟩
      · exact h.f.lt u w hu hh
      · exact (hSlt w hh).1
    · rw [h' u u hu, h.f.irr u hu]; simp
    · rw [h' u w hu] at hh
      simp only [Bool.or_eq_true, Bool.and_eq_true, decide_eq_true_eq] at hh
      rcases hh with hh | ⟨⟨h1, h2⟩, h3⟩
      · exact hmono w u (h.f.lt u w hu hh) (h.f.sym u w hu hh)
      · rw [h' w u (hSlt w h2).1, h1, h2]
        have : decide (u ≠ w) = true := by simpa using fun e => h3 e.symm
        simp [this]
  have hjv : ∀ j (x : Nat), o[j]? = some (x : Int) → j < o.length ∧ x < n ∧ (x : Int) ∈ o.take (j + 1) := fun j x hx => by
    obtain ⟨h1, h2⟩ := List.getElem?_eq_some_iff.1 hx
    have := hn _ (List.getElem_mem h1)
    refine ⟨h1, by omega, ?_⟩
    rw [mem_take_iff]; exact ⟨j, h1, by omega, h2⟩
  refine ⟨hf', by simp [h.lenL], fun u hu => ?_, hlV, hleft, fun u w hu hh => hmono u w hu (h.mono u w hu hh), fun j x hj hx w => ?_, fun j x u w hj hx h1 h2 h3 h4 h5 => ?_, fun hp => ?_⟩
  · rw [getD_set _ _ _ _ (by rw [h.lenL]; exact hvn)]
    split
    · exact hSV
    · exact h.vsL u hu
  · obtain ⟨k1, k2, k3⟩ := hjv j x hx
    have k4 := mem_take_mono (show j + 1 ≤ i + 1 by omega) k3
    rw [hold x k2 k4 w]
    unfold nb
    rw [getD_set _ _ _ _ (by rw [h.lenL]; exact hvn)]
    by_cases hji : j = i
    · subst hji
      rw [List.getElem?_eq_getElem hi, hv] at hx
      have : x = v := by
        have : (v : Int) = (x : Int) := by simpa using hx
        omega
      subst this
      rw [if_pos rfl, hS]; rfl
    · have hne : x ≠ v := fun e => by
        subst e
        exact hvt (mem_take_mono (show j + 1 ≤ i by omega) k3)
      rw [if_neg hne]
      exact h.lat j x (by omega) hx w
  · obtain ⟨k1, k2, k3⟩ := hjv j x hx
    have k4 := mem_take_mono (show j + 1 ≤ i + 1 by omega) k3
    rw [hold x k2 k4] at h1 h2
    by_cases hji : j = i
    · subst hji
      rw [List.getElem?_eq_getElem hi, hv] at hx
      have : x = v := by
        have : (v : Int) = (x : Int) := by simpa using hx
        omega
      subst this
      have hu : has S u = true := by rw [hS, h1]; simpa using h3
      have hw : has S w = true := by rw [hS, h2]; simpa using h4
      rw [h' u w (hSlt u hu).1, hu, hw]
      have : decide (w ≠ u) = true := by simpa using fun e => h5 e.symm
      simp [this]
    · exact hmono u w (h.f.lt x u k2 h1) (h.peo j x u w (by omega) hx h1 h2 h3 h4 h5)
  · have hFF := h.same hp
    subst hFF
    refine FOk.ext hl' h.f.len hv' h.f.vs (fun u w hu => ?_)
    rw [h' u w hu, Bool.eq_iff_iff]
    simp only [Bool.or_eq_true, Bool.and_eq_true, decide_eq_true_eq]
    constructor
    · rintro (hh | ⟨⟨h1, h2⟩, h3⟩)
      · exact hh
      · have k1 := (hSlt u h1).2; have k2 := (hSlt w h2).2
        rw [hS] at h1 h2
        simp only [Bool.and_eq_true] at h1 h2
        exact hp i v u w (by rw [List.getElem?_eq_getElem hi, hv]) h1.1 h2.1 k1 k2 (fun e => h3 e.symm)
    · exact .inl

theorem elim_ok {n : Nat} {F0 o : List Int} (h16 : n ≤ 16) (h0 : FOk F0 n) (hl : o.length = n) (hn : ∀ x ∈ o, 0 ≤ x ∧ x < n) (hnd : o.Nodup) :
    ∃ y, D.impl_elimination F0 o = some y ∧ ∃ left, EInv n F0 o n y.1 y.2 left := by
  have hlen := h0.len
  unfold D.impl_elimination
  rw [appendD_ok (by simp; omega), Option.bind_some]
  obtain ⟨s, e1, hs1, hs2⟩ := nets_all_eq F0 (by omega)
  rw [e1, Option.bind_some, makeD_ok (by omega) (by omega), Option.bind_some]
  simp only [Option.bind_some, List.nil_append]
  refine loop_then (fun st => ∃ i : Nat, st.2.2.2 = (i : Int) ∧ i ≤ n ∧ EInv n F0 o i st.1 st.2.1 st.2.2.1) (fun st => n - st.2.2.2.toNat) (fun r => ∃ left, EInv n F0 o n r.1 r.2 left) ?_ ?_ ?_
  · rintro ⟨F, L, left, _⟩ ⟨i, rfl, hi, h⟩
    dsimp only at h ⊢
    rw [hl]
    by_cases hlt : i < n
    · have hio : i < o.length := by omega
      obtain ⟨v, hv⟩ : ∃ v : Nat, o[i] = (v : Int) := ⟨(o[i]).toNat, by have := hn _ (List.getElem_mem hio); omega⟩
      have hvn : v < n := by have := hn _ (List.getElem_mem hio); omega
      have hFv : idx F (v : Int) = some (F.getD v 0) := by rw [idx_nat (by rw [h.f.len]; omega), getD_lt (by rw [h.f.len]; omega)]
      have hLs : idx (L.set v (iand .u32 (F.getD v 0) (iandNot .u32 left (ishl .u32 1 (v : Int))))) (v : Int) = some (iand .u32 (F.getD v 0) (iandNot .u32 left (ishl .u32 1 (v : Int)))) := by
        rw [idx_nat (by simp [h.lenL]; omega)]; simp
      simp only [dlt hlt, cond_true, idx_nat hio, hv, Option.bind_some, impl_one_eq, hFv, idx_nat (show v < L.length by rw [h.lenL]; omega), Int.toNat_natCast]
      rw [hLs]
      simp only [Option.bind_some, list_eq _ (VS.iand _ _)]
      have hSlt : ∀ w, has (iand .u32 (F.getD v 0) (iandNot .u32 left (ishl .u32 1 (v : Int)))) w = true → w < n := fun w hw => by
        rw [has_iand (h.f.vs v hvn) (VS.iandNot _ _)] at hw
        simp only [Bool.and_eq_true] at hw
        exact h.f.lt v w hvn hw.1
      obtain ⟨F', e2, k1, k2, k3⟩ := inner_ok F _ _ h16 h.f.len h.f.vs (VS.iand _ _) hSlt hLs
      rw [hLs] at e2
      refine bind_eq (x := F') e2 ?_
      rw [wi (show i < 4611686018427387904 by omega)]
      exact ⟨_, rfl, ⟨i + 1, rfl, by omega, h.step h16 hn hnd hio hv k1 k2 k3⟩, by dsimp only; omega⟩
    · obtain rfl : i = n := by omega
      simp only [dnlt, cond_false]
      exact ⟨_, rfl, _, h⟩
  · refine ⟨0, rfl, by omega, h0, by simp [hlen], fun u hu => ?_, hs1, fun v => by rw [hs2, hlen]; simp, fun u w _ h => h, fun j v hj => by omega, fun j v u w hj => by omega, fun _ => rfl⟩
    rw [List.getD_eq_getElem?_getD, List.getElem?_replicate]
    split <;> exact VS.zero
  · rintro ⟨F, L⟩ h
    exact ⟨_, rfl, h⟩
end Go.Sx

/- How many a set has. Plain. -/
namespace Go.Sx
end Go.Sx

/- Trees of bags: the reference's own check, where it answers true. Plain. -/
namespace Go.Sx
theorem nodup_le : ∀ {l m : List Int}, l.Nodup → (∀ x ∈ l, x ∈ m) → l.length ≤ m.length
  | [], _, _, _ => by simp
  | x :: l, m, h, hs => by
    have h' := List.nodup_cons.1 h
    have hx := hs x (by simp)
    have := nodup_le (l := l) (m := m.erase x) h'.2 (fun y hy => by
      have hne : y ≠ x := fun e => h'.1 (e ▸ hy)
      exact (List.mem_erase_of_ne hne).2 (hs y (by simp [hy])))
    rw [List.length_erase_of_mem hx] at this
    have hp : 0 < m.length := List.length_pos_of_mem hx
    simp; omega
theorem Inc.nodup {l : List Int} (h : Inc l) : l.Nodup := List.Pairwise.imp (fun h e => by omega) h

/-- which bags have a vertex -/
def withV (bags : List (List Int)) (v : Int) : List Int := ((List.range bags.length).filter fun b => decide (v ∈ bags.getD b [])).map Int.ofNat
/-- linked -/
def Lk (links : List (List Int)) (x y : Int) : Prop := [x, y] ∈ links ∨ [y, x] ∈ links
/-- m has the first of sel, and with each what is linked in sel -/
structure Closed (links : List (List Int)) (sel m : List Int) : Prop where
  sub : ∀ x ∈ m, x ∈ sel
  first : ∀ x, sel.head? = some x → x ∈ m
  step : ∀ x ∈ m, ∀ y ∈ sel, Lk links x y → y ∈ m

/-- all of sel hangs together -/
def Conn (links : List (List Int)) (sel : List Int) : Prop := ∀ m, Closed links sel m → ∀ x ∈ sel, x ∈ m
end Go.Sx

/- A tree of bags that is right, by the reference's own check. Plain. -/
namespace Go.Sx
/-- a link of two bags, the lesser one first -/
def LinkIn (n : Nat) (l : List Int) : Prop := ∃ a b : Nat, l = [(a : Int), (b : Int)] ∧ a < b ∧ b < n

/-- what a tree of bags of a graph is -/
structure TB (g bags links : List (List Int)) : Prop where
  n1 : 1 ≤ bags.length
  n16 : bags.length ≤ 16
  many : links.length + 1 = bags.length
  lks : ∀ l ∈ links, LinkIn bags.length l
  sets : ∀ b ∈ bags, SetOf b g.length
  tree : Conn links ((List.range bags.length).map Int.ofNat)
  edges : ∀ u v : Nat, u < g.length → adj g u v → ∃ b ∈ bags, (u : Int) ∈ b ∧ (v : Int) ∈ b
  some : ∀ v, v < g.length → withV bags v ≠ []
  conn : ∀ v, v < g.length → Conn links (withV bags v)

end Go.Sx

/- The edges of a graph, listed by the program and by the reference; the filled graph of an order. Plain. -/
namespace Go.Sx
def rowF (r : List Int) (u : Nat) (s : List (List Int)) : List (List Int) := (List.range r.length).foldl (fun s i => if (u : Int) < r.getD i 0 then s ++ [[(u : Int), r.getD i 0]] else s) s
theorem inner_edges (r : List Int) (u : Nat) (s0 : List (List Int)) (h : s0.length + r.length ≤ 4294967296) {step : List (List Int) × Int → Option ((List (List Int) × Int) ⊕ List (List Int))}
    (hstep : ∀ s (i : Nat) (hi : i < r.length), step (s, (i : Int)) = cond (decide ((u : Int) < r[i])) ((appendD s [[(u : Int), r[i]]]).bind fun l => some (.inl (l, ((i + 1 : Nat) : Int)))) (some (.inl (s, ((i + 1 : Nat) : Int)))))
    (hend : ∀ s, step (s, (r.length : Int)) = some (.inr s)) : loopF step (s0, 0) = some (rowF r u s0) ∧ (rowF r u s0).length ≤ s0.length + r.length := by
  have key := loop_nat (step := step) r.length (fun s i => (s, i)) (fun s i => if (u : Int) < r.getD i 0 then s ++ [[(u : Int), r.getD i 0]] else s) (fun s => s) (fun i s => s.length ≤ s0.length + i) s0 (by omega)
    (fun s i hi hs => ?_) (fun s _ => hend s)
  · exact key
  · have hg : r.getD i 0 = r[i] := getD_lt hi 0
    refine ⟨?_, ?_⟩
    · rw [hstep s i hi, hg]
      by_cases hc : (u : Int) < r[i]
      · rw [decide_eq_true hc, cond_true, appendD_ok (by simp; omega), if_pos hc]; rfl
      · rw [decide_eq_false hc, cond_false, if_neg hc]
    · rw [hg]
      split
      · rw [List.length_append, List.length_singleton]; omega
      · omega
def edgesF (g : List (List Int)) : List (List Int) := (List.range g.length).foldl (fun s u => rowF (row g u) u s) []

theorem impl_edgesOf_eq (g : List (List Int)) (hg : GOk g) : D.impl_edgesOf g = some (edgesF g) := by
  have h16 := hg.n16
  unfold D.impl_edgesOf
  have key := loop_nat (ρ := List (List Int)) (step := (fun (s_288 : (List (List Int)) × Int) => match s_288 with | (l_291, x_296) => cond (decide (x_296 < (g.length : Int))) ((idx g x_296).bind fun e_441 => (loopF (σ := (List (List Int)) × Int) (ρ := ((List (List Int)))) (fun (s_508 : (List (List Int)) × Int) => match s_508 with | (l_511, x_516) => cond (decide (x_516 < (e_441.length : Int))) ((idx e_441 x_516).bind fun e_551 => cond (decide (x_296 < e_551)) ((appendD l_511 ([([x_296, e_551] : List Int)] : List (List Int))).bind fun l_569 => some (.inl (l_569, (IntKind.i64.wrap (x_516 + 1))))) (some (.inl (l_511, (IntKind.i64.wrap (x_516 + 1)))))) (some (.inr l_511))) (l_291, 0)).bind fun l_544 => some (.inl (l_544, (IntKind.i64.wrap (x_296 + 1))))) (some (.inr l_291))))
    g.length (fun s i => (s, i)) (fun s u => rowF (row g u) u s) (fun s => s) (fun i s => s.length ≤ 16 * i) [] (by simp) (fun s u hu hs => ?_) (fun s _ => ?_)
  · exact congrArg (fun z => Option.bind z fun l => some l) key.1
  · have hr := hg.row_len hu
    obtain ⟨k1, k2⟩ := inner_edges (row g u) u s (by omega) (step := (fun (s_508 : (List (List Int)) × Int) => match s_508 with | (l_511, x_516) => cond (decide (x_516 < ((row g u).length : Int))) ((idx (row g u) x_516).bind fun e_551 => cond (decide ((u : Int) < e_551)) ((appendD l_511 ([([(u : Int), e_551] : List Int)] : List (List Int))).bind fun l_569 => some (.inl (l_569, (IntKind.i64.wrap (x_516 + 1))))) (some (.inl (l_511, (IntKind.i64.wrap (x_516 + 1)))))) (some (.inr l_511)))) (fun s i hi => by
        simp only [dlt hi, cond_true, idx_nat hi, Option.bind_some, wi (show i < 4611686018427387904 by omega)]) (fun s => by simp only [dnlt, cond_false])
    refine ⟨?_, by omega⟩
    simp only [dlt hu, cond_true, idx_row hu, Option.bind_some, wi (show u < 4611686018427387904 by omega)]
    exact (congrArg (fun z => Option.bind z _) k1).trans rfl
  · simp only [dnlt, cond_false]

theorem GOk.sh2 {g : List (List Int)} (hg : GOk g) : Sh2 g := by
  have h16 := hg.n16
  exact ⟨by unfold Sh; omega, fun r hr => by have := (hg.mem0 hr).1; unfold Sh; omega⟩
theorem gB_true {g : List (List Int)} (hg : GOk g) : gB g = true := (gB_iff g).2 hg
theorem impl_ManyEdges_eq (g : List (List Int)) (hg : GOk g) : D.impl_ManyEdges g = some ((edgesF g).length : Int) := by
  unfold D.impl_ManyEdges D.impl_EdgesOf
  rw [impl_GraphOk_eq g hg.sh2, gB_true hg, Option.bind_some, Bool.not_true, cond_false, impl_edgesOf_eq g hg]; rfl
theorem nets_graph_eq (F : List Int) (h : F.length ≤ 16) (hV : ∀ u, u < F.length → VS (F.getD u 0)) : D.impl_nets_graph F = some (grow F) := by
  unfold D.impl_nets_graph
  refine (loop_map F (fun s i => (i, s)) elems (by omega) (fun s i hi _ => ?_) (fun s => ?_)).trans rfl
  · have := hV i hi
    rw [getD_lt hi] at this
    simp only [dlt hi, cond_true, idx_nat hi, Option.bind_some, numbers_eq _ this, wi (show i < 4611686018427387904 by omega)]
  · simp only [dnlt, cond_false]

theorem OOk.sh {g : List (List Int)} {o : List Int} (hg : GOk g) (ho : OOk g o) : Sh o := by
  have := hg.n16; have := ho.len; unfold Sh; omega
theorem impl_OrderOk_true {g : List (List Int)} {o : List Int} (hg : GOk g) (ho : OOk g o) : D.impl_OrderOk g o = some true := by
  rw [impl_OrderOk_eq g o hg.sh2 (ho.sh hg), gB_true hg, (ordB_iff g o).2 ho]; rfl

/-- what filling comes to -/
structure Fill (g : List (List Int)) (o F L : List Int) : Prop where
  elim : D.impl_elimination (g.map mk) o = some (F, L)
  f : FOk F g.length
  lenL : L.length = g.length
  vsL : ∀ u, u < g.length → VS (L.getD u 0)
  mono : ∀ u w, u < g.length → adj g u w → nb F u w = true
  lat : Lat F L o g.length
  peo : PEO F o
  same : PEO (g.map mk) o → F = g.map mk

theorem fill_ex {g : List (List Int)} {o : List Int} (hg : GOk g) (ho : OOk g o) : ∃ F L, Fill g o F L := by
  obtain ⟨⟨F, L⟩, e, left, h⟩ := elim_ok hg.n16 (FOk.of hg) ho.len ho.rng ho.nd
  refine ⟨F, L, e, h.f, h.lenL, h.vsL, fun u w hu ha => h.mono u w hu ((nb_mk hg hu).2 ha), h.lat, fun j v u w hj => ?_, h.same⟩
  have hjl := (List.getElem?_eq_some_iff.1 hj).1
  have := ho.len
  exact h.peo j v u w (by omega) hj

theorem Fill.FillOf {g : List (List Int)} {o F L : List Int} (hg : GOk g) (ho : OOk g o) (h : Fill g o F L) : D.impl_FillOf g o = some (grow F, true) := by
  have h16 := hg.n16
  unfold D.impl_FillOf
  rw [impl_OrderOk_true hg ho, Option.bind_some, Bool.not_true, cond_false, netsOf_eq g hg, Option.bind_some, narrow_eq o (ho.sh hg), Option.bind_some, h.elim, Option.bind_some, nets_graph_eq F (by rw [h.f.len]; omega) (fun u hu => h.f.vs u (by rw [h.f.len] at hu; exact hu))]
  rfl
theorem Fill.gok {g : List (List Int)} {o F L : List Int} (hg : GOk g) (h : Fill g o F L) : GOk (grow F) := GOk.grow h.f hg.n1 hg.n16
theorem grow_len (F : List Int) : (grow F).length = F.length := by simp [grow]
theorem place' {g : List (List Int)} {o : List Int} (ho : OOk g o) {v : Nat} (hv : v < g.length) : ∃ i : Nat, i < g.length ∧ o[i]? = some (v : Int) := by
  have hsub : ∀ x ∈ o, x ∈ (List.range g.length).map Int.ofNat := fun x hx => by
    have := ho.rng x hx
    exact List.mem_map.2 ⟨x.toNat, List.mem_range.2 (by omega), by show ((x.toNat : Nat) : Int) = x; omega⟩
  by_cases hm : (v : Int) ∈ o
  · obtain ⟨i, hi, e⟩ := List.getElem_of_mem hm
    exact ⟨i, by have := ho.len; omega, by rw [List.getElem?_eq_getElem hi, e]⟩
  · exfalso
    have h1 : ((v : Int) :: o).length ≤ ((List.range g.length).map Int.ofNat).length := nodup_le (List.nodup_cons.2 ⟨hm, ho.nd⟩) (fun x hx => by
      rcases List.mem_cons.1 hx with rfl | hx
      · exact List.mem_map.2 ⟨v, List.mem_range.2 hv, rfl⟩
      · exact hsub x hx)
    have := ho.len
    simp at h1
    omega

end Go.Sx

/- Who is left, cliques, and the reference's perfect orders, where there is one. Plain. -/
namespace Go.Sx
theorem take_filter_succ {α : Type} (p : α → Bool) {l : List α} {i : Nat} (hi : i < l.length) : (l.take (i + 1)).filter p = (l.take i).filter p ++ (if p l[i] then [l[i]] else []) := by
  rw [List.take_succ_eq_append_getElem hi, List.filter_append]
  congr 1
  rw [List.filter_cons, List.filter_nil]

def lft (g : List (List Int)) (v : Nat) (gone : List Bool) : List Int := (row g v).filter fun x => !gone.getD x.toNat false
theorem l7Left_eq (g : List (List Int)) (hg : GOk g) {v : Nat} (hv : v < g.length) (gone : List Bool) (hl : gone.length = g.length) : D.spec_l7Left g (v : Int) gone = some (lft g v gone) := by
  have hr := hg.row_len hv
  unfold D.spec_l7Left lft
  refine (loop_to (fun i => (((row g v).take i).filter (fun x => !gone.getD x.toNat false), (i : Int))) (row g v).length ((row g v).filter fun x => !gone.getD x.toNat false) (by simp) (fun i hi => ?_) ?_).trans rfl
  · obtain ⟨w, e1, h1, _⟩ := hg.mem hv (List.getElem_mem hi)
    have hlen : (((row g v).take i).filter (fun x => !gone.getD x.toNat false)).length ≤ 16 := Nat.le_trans (List.length_filter_le _ _) (by simp; omega)
    simp only [idx_row hv, Option.bind_some, dlt hi, cond_true, idx_nat hi, e1, idx_nat (show w < gone.length by omega), wi (show i < 4611686018427387904 by omega)]
    have e3 := take_filter_succ (fun x : Int => !gone.getD x.toNat false) hi
    rw [e1] at e3
    simp only [Int.toNat_natCast, getD_lt (show w < gone.length by omega)] at e3
    rw [e3]
    cases hc : gone[w]
    · rw [Bool.not_false, cond_true, appendD_ok (by rw [List.length_singleton]; omega), Option.bind_some]; rfl
    · rw [Bool.not_true, cond_false]; simp
  · simp only [idx_row hv, Option.bind_some, dnlt, cond_false, List.take_length]

theorem lft_inc {g : List (List Int)} (hg : GOk g) {v : Nat} (hv : v < g.length) (gone : List Bool) : Inc (lft g v gone) := List.Pairwise.filter _ (hg.rows v hv).1

end Go.Sx

/- Sums over the first numbers, counted pairs; the first least of a list. Plain. -/
namespace Go.Sx
/-! ### the first least of a list -/
def ast (f : Int → Int) (s : Int × Int) (v : Int) : Int × Int := if s.1 < 0 ∨ f v < s.2 then (v, f v) else s
def amin (f : Int → Int) (l : List Int) : Int × Int := l.foldl (ast f) (-1, 0)
theorem ast_run (f : Int → Int) : ∀ (l : List Int) (b : Int), 0 ≤ b → (∀ x ∈ l, 0 ≤ x) → ∃ c, l.foldl (ast f) (b, f b) = (c, f c) ∧ (c = b ∨ c ∈ l) ∧ 0 ≤ c ∧ f c ≤ f b ∧ ∀ x ∈ l, f c ≤ f x
  | [], b, hb, _ => ⟨b, rfl, .inl rfl, hb, Int.le_refl _, by simp⟩
  | x :: l, b, hb, hl => by
    have hx := hl x (by simp)
    have hl' := fun y hy => hl y (List.mem_cons_of_mem x hy)
    rw [List.foldl_cons]
    by_cases hc : f x < f b
    · have e : ast f (b, f b) x = (x, f x) := by unfold ast; rw [if_pos (.inr hc)]
      rw [e]
      obtain ⟨c, h1, h2, h3, h4, h5⟩ := ast_run f l x hx hl'
      refine ⟨c, h1, .inr ?_, h3, by omega, fun y hy => ?_⟩
      · rcases h2 with rfl | h2
        · simp
        · exact List.mem_cons_of_mem _ h2
      · rcases List.mem_cons.1 hy with rfl | hy
        · exact h4
        · exact h5 y hy
    · have e : ast f (b, f b) x = (b, f b) := by unfold ast; rw [if_neg (fun h => h.elim (fun h => by dsimp only at h; omega) hc)]
      rw [e]
      obtain ⟨c, h1, h2, h3, h4, h5⟩ := ast_run f l b hb hl'
      refine ⟨c, h1, ?_, h3, h4, fun y hy => ?_⟩
      · rcases h2 with h2 | h2
        · exact .inl h2
        · exact .inr (List.mem_cons_of_mem _ h2)
      · rcases List.mem_cons.1 hy with rfl | hy
        · omega
        · exact h5 y hy
theorem ast_first (f : Int → Int) (x : Int) : ast f (-1, 0) x = (x, f x) := by unfold ast; rw [if_pos (.inl (by decide))]
theorem amin_ok (f : Int → Int) {l : List Int} (hne : l ≠ []) (hl : ∀ x ∈ l, 0 ≤ x) : ∃ c, amin f l = (c, f c) ∧ c ∈ l ∧ ∀ x ∈ l, f c ≤ f x := by
  cases l with
  | nil => exact absurd rfl hne
  | cons x l =>
    unfold amin
    rw [List.foldl_cons, ast_first]
    obtain ⟨c, h1, h2, h3, h4, h5⟩ := ast_run f l x (hl x (by simp)) (fun y hy => hl y (List.mem_cons_of_mem _ hy))
    refine ⟨c, h1, ?_, fun y hy => ?_⟩
    · rcases h2 with rfl | h2
      · simp
      · exact List.mem_cons_of_mem _ h2
    · rcases List.mem_cons.1 hy with rfl | hy
      · exact h4
      · exact h5 y hy
/-! ### those below a number that are in a set -/
def els (s : Int) (i : Nat) : List Int := ((List.range i).filter (has s)).map Int.ofNat
theorem els_all {s : Int} {n : Nat} (hn : n ≤ 32) (h : ∀ v, has s v = true → v < n) : els s n = elems s := by
  unfold els elems
  obtain ⟨k, hk⟩ : ∃ k, 32 = n + k := ⟨32 - n, by omega⟩
  rw [hk, List.range_add, List.filter_append]
  have : ((List.range k).map (fun x => n + x)).filter (has s) = [] := by
    rw [List.filter_eq_nil_iff]
    intro x hx hc
    obtain ⟨y, _, rfl⟩ := List.mem_map.1 hx
    have := h _ hc; omega
  rw [this, List.append_nil]
theorem elems_nonneg (s : Int) : ∀ x ∈ elems s, 0 ≤ x := fun x hx => by
  obtain ⟨v, _, _, rfl⟩ := mem_elems.1 hx; omega
def full (n : Nat) : Int := IntKind.u32.wrap (ishl .u32 1 (n : Int) - 1)
theorem full_vs (n : Nat) : VS (full n) := VS.wrap _
theorem has_full {n : Nat} (h : n ≤ 16) (v : Nat) : has (full n) v = decide (v < n) := by
  by_cases hv : v < 32
  · exact all_mask ⟨n, by omega⟩ ⟨v, hv⟩
  · rw [has_big (full_vs n) (by omega)]; symm; simp; omega
def goneOf (n : Nat) (s : Int) : List Bool := (List.range n).map fun v => !has s v
theorem goneOf_len (n : Nat) (s : Int) : (goneOf n s).length = n := by simp [goneOf]
theorem goneOf_at {n : Nat} {s : Int} {v : Nat} (h : v < n) {h' : v < (goneOf n s).length} : (goneOf n s)[v] = !has s v := by
  simp [goneOf]
theorem goneOf_get {n : Nat} {s : Int} {v : Nat} (h : v < n) : (goneOf n s).getD v false = !has s v := by
  unfold goneOf
  rw [getD_lt (by simpa using h)]; simp
theorem goneOf_idx {n : Nat} {s : Int} {v : Nat} (h : v < n) : idx (goneOf n s) (v : Int) = some (!has s v) := by
  rw [idx_nat (by rw [goneOf_len]; exact h), ← goneOf_get h, getD_lt (by rw [goneOf_len]; exact h)]
theorem goneOf_set {n b : Nat} {s : Int} (hs : VS s) (hb : b < n) (hn : n ≤ 32) : (goneOf n s).set b true = goneOf n (iandNot .u32 s (ishl .u32 1 (b : Int))) := by
  apply List.ext_getElem
  · simp [goneOf]
  · intro i h1 h2
    have hi : i < n := by simpa [goneOf] using h2
    rw [List.getElem_set, goneOf_at hi, goneOf_at hi, has_iandNot hs (VS.ishl _ _), has_one (by omega)]
    by_cases e : b = i
    · subst e; simp
    · rw [if_neg e]
      have : decide (i = b) = false := by simp; omega
      simp [this]
theorem goneOf_full {n : Nat} (h : n ≤ 16) : List.replicate n false = goneOf n (full n) := by
  apply List.ext_getElem
  · simp [goneOf]
  · intro i h1 h2
    have hi : i < n := by simpa [goneOf] using h2
    rw [List.getElem_replicate, goneOf_at hi, has_full h]
    simp [hi]
theorem lft_gone {g : List (List Int)} (hg : GOk g) {s : Int} (hs : VS s) {v : Nat} (hv : v < g.length) : lft g v (goneOf g.length s) = elems (iand .u32 (mk (row g v)) s) := by
  have h16 := hg.n16
  refine Inc.ext (lft_inc hg hv _) (elems_inc _) (fun x => ?_)
  unfold lft
  rw [List.mem_filter, mem_elems]
  constructor
  · rintro ⟨h1, h2⟩
    obtain ⟨w, rfl, hw, ha⟩ := hg.mem hv h1
    rw [Int.toNat_natCast, goneOf_get hw, Bool.not_not] at h2
    refine ⟨w, by omega, ?_, rfl⟩
    rw [has_iand (VS.mk _) hs, h2, has_mk (fun x hx => by have := (hg.rows v hv).2 x hx; omega)]
    simpa using h1
  · rintro ⟨w, _, h2, rfl⟩
    rw [has_iand (VS.mk _) hs, has_mk (fun x hx => by have := (hg.rows v hv).2 x hx; omega)] at h2
    simp only [Bool.and_eq_true, decide_eq_true_eq] at h2
    have hw : w < g.length := by have := (hg.rows v hv).2 _ h2.1; omega
    exact ⟨h2.1, by rw [Int.toNat_natCast, goneOf_get hw, h2.2]; rfl⟩
end Go.Sx

/- 'laws.FnFill' comes to true. Plain. -/
namespace Go.Sx
theorem Fill.many {g : List (List Int)} {o F L : List Int} (hg : GOk g) (ho : OOk g o) (h : Fill g o F L) : D.impl_FillMany g o = some (IntKind.i64.wrap (((edgesF (grow F)).length : Int) - ((edgesF g).length : Int))) := by
  unfold D.impl_FillMany
  rw [h.FillOf hg ho, Option.bind_some]
  simp only [Bool.not_true, cond_false]
  rw [impl_ManyEdges_eq _ (h.gok hg), Option.bind_some, impl_ManyEdges_eq _ hg]
  rfl
end Go.Sx

/- PathDecomp: the reference's and the program's are one. Plain. -/
namespace Go.Sx
section
variable {g : List (List Int)} {o : List Int} (hg : GOk g) (ho : OOk g o)
include hg ho
end

end Go.Sx

/- The bags of an order are a tree of bags, as wide as the order's separation; FnPathDecomp, plain. -/
namespace Go.Sx
section
variable {g : List (List Int)} {o : List Int} (hg : GOk g) (ho : OOk g o)
include hg ho

end

end Go.Sx

/- The degeneracy: what both compute, and that no order's width is below it. Plain. -/
namespace Go.Sx
/-- neighbours within a set -/
def dg (g : List (List Int)) (s : Int) (v : Int) : Int := ((elems (iand .u32 (mk (row g v.toNat)) s)).length : Int)
/-- a set of some of the first vertices, of that many -/
structure SQ (n : Nat) (s : Int) (k : Nat) : Prop where
  vs : VS s
  lt : ∀ v, has s v = true → v < n
  card : (elems s).length = k
theorem SQ.full {n : Nat} (h : n ≤ 16) : SQ n (full n) n := by
  refine ⟨full_vs n, fun v hv => by rw [has_full h] at hv; exact of_decide_eq_true hv, ?_⟩
  rw [← els_all (n := n) (by omega) (fun v hv => by rw [has_full h] at hv; exact of_decide_eq_true hv)]
  unfold els
  rw [List.length_map, List.filter_eq_self.2 (fun v hv => by rw [has_full h]; exact decide_eq_true (List.mem_range.1 hv)), List.length_range]
theorem SQ.ne {n k : Nat} {s : Int} (h : SQ n s (k + 1)) : elems s ≠ [] := fun e => by have := h.card; rw [e] at this; simp at this
theorem SQ.z {n : Nat} {s : Int} (h : SQ n s 0) : s = 0 := by
  rw [h.vs.eq_zero]
  intro v hv
  cases hc : has s v
  · rfl
  · have : (v : Int) ∈ elems s := (mem_elems_nat h.vs).2 hc
    have h0 := h.card
    rw [List.length_eq_zero_iff] at h0
    rw [h0] at this; simp at this
/-- the first least -/
theorem SQ.min {n k : Nat} {s : Int} (h : SQ n s (k + 1)) (f : Int → Int) : ∃ c : Nat, c < n ∧ has s c = true ∧ amin f (elems s) = ((c : Int), f c) ∧ ∀ v : Nat, has s v = true → f c ≤ f v := by
  obtain ⟨c, h1, h2, h3⟩ := amin_ok f h.ne (elems_nonneg s)
  obtain ⟨v, _, h5, rfl⟩ := mem_elems.1 h2
  exact ⟨v, h.lt v h5, h5, h1, fun w hw => h3 w ((mem_elems_nat h.vs).2 hw)⟩
end Go.Sx

/- Orders that take, again and again, who costs least: the program's and the reference's are one. Plain. -/
namespace Go.Sx
theorem graph_ext {g g' : List (List Int)} (hg : GOk g) (hg' : GOk g') (hl : g.length = g'.length) (h : ∀ a b : Nat, a < g.length → (adj g a b ↔ adj g' a b)) : g = g' := by
  apply List.ext_getElem hl
  intro i h1 h2
  rw [← row_eq h1, ← row_eq h2]
  refine Inc.ext (hg.rows i h1).1 (hg'.rows i h2).1 (fun x => ?_)
  constructor
  · intro hx
    obtain ⟨w, rfl, _, ha⟩ := hg.mem h1 hx
    exact (h i w h1).1 ha
  · intro hx
    obtain ⟨w, rfl, _, ha⟩ := hg'.mem h2 hx
    exact (h i w h1).2 ha
theorem grow_of {g : List (List Int)} (hg : GOk g) : grow (g.map mk) = g := by
  have hf := FOk.of hg
  refine graph_ext (GOk.grow hf hg.n1 hg.n16) hg (by rw [grow_len, hf.len]) (fun a b ha => ?_)
  rw [grow_len, hf.len] at ha
  rw [adj_grow hf ha, nb_mk hg ha]

/-- all of a list become neighbours: the reference's -/
theorem l7Clique_ok {g : List (List Int)} (hg : GOk g) {l : List Int} (hi : Inc l) (hr : ∀ x ∈ l, 0 ≤ x ∧ x < g.length) :
    ∃ g', D.spec_l7Clique g l = some g' ∧ (GOk g' ∧ g'.length = g.length ∧ ∀ a b : Nat, adj g' a b ↔ adj g a b ∨ (a ≠ b ∧ (a : Int) ∈ l ∧ (b : Int) ∈ l)) := by
  have h16 := hg.n16
  have hl := hi.short (n := g.length) hr
  unfold D.spec_l7Clique
  refine loop_then (fun s => ∃ i : Nat, s.2 = (i : Int) ∧ i ≤ l.length ∧ GOk s.1 ∧ s.1.length = g.length ∧ ∀ a b : Nat, adj s.1 a b ↔ adj g a b ∨ (a ≠ b ∧ (a : Int) ∈ l.take i ∧ (b : Int) ∈ l.take i)) (fun s => l.length - s.2.toNat)
    (fun r => GOk r ∧ r.length = g.length ∧ ∀ a b : Nat, adj r a b ↔ adj g a b ∨ (a ≠ b ∧ (a : Int) ∈ l ∧ (b : Int) ∈ l)) ?_ ⟨0, rfl, by omega, hg, rfl, fun a b => by simp⟩ (fun r h => ⟨r, rfl, h⟩)
  rintro ⟨G, _⟩ ⟨i, rfl, hil, hG, hGl, hA⟩
  dsimp only at hG hGl hA ⊢
  by_cases hlt : i < l.length
  · have r1 := hr _ (List.getElem_mem hlt)
    obtain ⟨v, ev⟩ : ∃ v : Nat, l[i] = (v : Int) := ⟨l[i].toNat, by omega⟩
    simp only [dlt hlt, cond_true]
    refine loop_then (fun s => ∃ k : Nat, s.2 = (k : Int) ∧ k ≤ i ∧ GOk s.1 ∧ s.1.length = g.length ∧ ∀ a b : Nat, adj s.1 a b ↔ adj G a b ∨ (a = v ∧ (b : Int) ∈ l.take k) ∨ (b = v ∧ (a : Int) ∈ l.take k)) (fun s => i - s.2.toNat)
      (fun r => GOk r ∧ r.length = g.length ∧ ∀ a b : Nat, adj r a b ↔ adj G a b ∨ (a = v ∧ (b : Int) ∈ l.take i) ∨ (b = v ∧ (a : Int) ∈ l.take i)) ?_ ⟨0, rfl, by omega, hG, hGl, fun a b => by simp⟩ ?_
    · rintro ⟨G', _⟩ ⟨k, rfl, hk, hG', hGl', hA'⟩
      dsimp only at hG' hGl' hA' ⊢
      by_cases hkl : k < i
      · have hkk : k < l.length := by omega
        have r2 := hr _ (List.getElem_mem hkk)
        obtain ⟨u, eu⟩ : ∃ u : Nat, l[k] = (u : Int) := ⟨l[k].toNat, by omega⟩
        have hne : l[k] < l[i] := (List.pairwise_iff_getElem.1 hi) k i hkk hlt hkl
        obtain ⟨g2, q1, q2, q3, q4⟩ := l1Link_ok hG' (u := u) (v := v) (by omega) (by omega) (by omega)
        simp only [dlt hkl, cond_true, idx_nat hkk, idx_nat hlt, Option.bind_some, eu, ev, q1, wi (show k < 4611686018427387904 by omega)]
        refine ⟨_, rfl, ⟨k + 1, rfl, by omega, q2, by dsimp only; omega, fun a b => ?_⟩, by dsimp only; omega⟩
        dsimp only
        rw [q4, hA', List.take_succ_eq_append_getElem hkk, eu]
        simp only [List.mem_append, List.mem_singleton, Int.natCast_inj]
        constructor
        · rintro ((h | ⟨h1, h2⟩ | ⟨h1, h2⟩) | ⟨h1, h2⟩ | ⟨h1, h2⟩)
          · exact .inl h
          · exact .inr (.inl ⟨h1, .inl h2⟩)
          · exact .inr (.inr ⟨h1, .inl h2⟩)
          · exact .inr (.inr ⟨h2, .inr h1⟩)
          · exact .inr (.inl ⟨h1, .inr h2⟩)
        · rintro (h | ⟨h1, h2 | h2⟩ | ⟨h1, h2 | h2⟩)
          · exact .inl (.inl h)
          · exact .inl (.inr (.inl ⟨h1, h2⟩))
          · exact .inr (.inr ⟨h1, h2⟩)
          · exact .inl (.inr (.inr ⟨h1, h2⟩))
          · exact .inr (.inl ⟨h2, h1⟩)
      · obtain rfl : k = i := by omega
        simp only [dnlt, cond_false]
        exact ⟨_, rfl, hG', hGl', hA'⟩
    · rintro r ⟨q1, q2, q3⟩
      rw [wi (show i < 4611686018427387904 by omega)]
      refine ⟨_, rfl, ⟨i + 1, rfl, by omega, q1, q2, fun a b => ?_⟩, by dsimp only; omega⟩
      dsimp only
      have hvt : (v : Int) ∉ l.take i := by
        rw [← ev]; exact nodup_iff.1 hi.nodup i hlt
      rw [q3, hA, List.take_succ_eq_append_getElem hlt, ev]
      simp only [List.mem_append, List.mem_singleton, Int.natCast_inj]
      constructor
      · rintro ((h | ⟨h0, h1, h2⟩) | ⟨h1, h2⟩ | ⟨h1, h2⟩)
        · exact .inl h
        · exact .inr ⟨h0, .inl h1, .inl h2⟩
        · refine .inr ⟨fun e => ?_, .inr h1, .inl h2⟩
          subst e; subst h1; exact hvt h2
        · refine .inr ⟨fun e => ?_, .inl h2, .inr h1⟩
          subst e; subst h1; exact hvt h2
      · rintro (h | ⟨h0, h1 | h1, h2 | h2⟩)
        · exact .inl (.inl h)
        · exact .inl (.inr ⟨h0, h1, h2⟩)
        · exact .inr (.inr ⟨h2, h1⟩)
        · exact .inr (.inl ⟨h1, h2⟩)
        · exact absurd (h1.trans h2.symm) h0
  · obtain rfl : i = l.length := by omega
    simp only [dnlt, cond_false]
    rw [List.take_length] at hA
    exact ⟨_, rfl, hG, hGl, hA⟩

/-! ### the program's -/
theorem FOk.clique {F F' : List Int} {n : Nat} {S : Int} (h : FOk F n) (hS : ∀ w, has S w = true → w < n) (hl : F'.length = n) (hv : ∀ u, u < n → VS (F'.getD u 0)) (h' : ∀ u w, u < n → nb F' u w = (nb F u w || (has S u && has S w && decide (w ≠ u)))) : FOk F' n := by
  refine ⟨hl, hv, fun u w hu hh => ?_, fun u hu => ?_, fun u w hu hh => ?_⟩
  · rw [h' u w hu] at hh
    simp only [Bool.or_eq_true, Bool.and_eq_true] at hh
    rcases hh with hh | ⟨⟨_, hh⟩, _⟩
    · exact h.lt u w hu hh
    · exact hS w hh
  · rw [h' u u hu, h.irr u hu]; simp
  · rw [h' u w hu] at hh
    simp only [Bool.or_eq_true, Bool.and_eq_true, decide_eq_true_eq] at hh
    rcases hh with hh | ⟨⟨h1, h2⟩, h3⟩
    · rw [h' w u (h.lt u w hu hh), h.sym u w hu hh]; rfl
    · rw [h' w u (hS w h2), h1, h2]
      have : decide (u ≠ w) = true := by simpa using fun e => h3 e.symm
      simp [this]
theorem eliminate_ok {F : List Int} {n b : Nat} {s : Int} (h16 : n ≤ 16) (h : FOk F n) (hs : VS s) (hb : b < n) :
    ∃ F', D.impl_eliminate F s (b : Int) = some F' ∧ (FOk F' n ∧ ∀ u w, u < n → nb F' u w = (nb F u w || ((nb F b u && has s u) && (nb F b w && has s w) && decide (w ≠ u)))) := by
  have hlen := h.len
  unfold D.impl_eliminate
  have hFb : idx F (b : Int) = some (F.getD b 0) := by rw [idx_nat (by omega), getD_lt (by omega)]
  rw [hFb]
  simp only [Option.bind_some, impl_one_eq]
  have hSV : VS (iandNot .u32 (iand .u32 (F.getD b 0) s) (ishl .u32 1 (b : Int))) := VS.iandNot _ _
  have hS : ∀ w, has (iandNot .u32 (iand .u32 (F.getD b 0) s) (ishl .u32 1 (b : Int))) w = (nb F b w && has s w) := fun w => by
    rw [has_iandNot (VS.iand _ _) (VS.ishl _ _), has_iand (h.vs b hb) hs, has_one (by omega)]
    by_cases e : w = b
    · subst e
      have := h.irr w hb
      unfold nb at this ⊢
      rw [this]; simp
    · unfold nb; simp [e]
  have hSn : ∀ w, has (iandNot .u32 (iand .u32 (F.getD b 0) s) (ishl .u32 1 (b : Int))) w = true → w < n := fun w hw => by
    rw [hS, Bool.and_eq_true] at hw
    exact h.lt b w hb hw.1
  generalize iandNot .u32 (iand .u32 (F.getD b 0) s) (ishl .u32 1 (b : Int)) = S at *
  rw [list_eq S hSV, Option.bind_some]
  refine loop_then (fun st => ∃ i : Nat, st.2 = (i : Int) ∧ i ≤ (elems S).length ∧ st.1.length = n ∧ (∀ u, u < n → VS (st.1.getD u 0)) ∧ ∀ u w, u < n → nb st.1 u w = (nb F u w || (decide ((u : Int) ∈ (elems S).take i) && has S w && decide (w ≠ u)))) (fun st => (elems S).length - st.2.toNat)
    (fun F' => F'.length = n ∧ (∀ u, u < n → VS (F'.getD u 0)) ∧ ∀ u w, u < n → nb F' u w = (nb F u w || (has S u && has S w && decide (w ≠ u)))) ?_ ⟨0, rfl, by omega, hlen, h.vs, fun u w _ => by simp⟩ ?_
  · rintro ⟨l, _⟩ ⟨i, rfl, hi, hl, hv, hh⟩
    dsimp only at hl hv hh ⊢
    have hle := elems_len S
    by_cases hlt : i < (elems S).length
    · obtain ⟨u0, h1, h2, h3⟩ := mem_elems.1 (List.getElem_mem hlt)
      have h4 := hSn u0 h2
      simp only [dlt hlt, cond_true, idx_nat hlt, Option.bind_some, h3, idx_nat (show u0 < l.length by omega), impl_one_eq, wi (show i < 4611686018427387904 by omega), Int.toNat_natCast]
      refine ⟨_, rfl, ⟨i + 1, rfl, by omega, by simp [hl], fun u hu => ?_, fun u w hu => ?_⟩, by dsimp only; omega⟩
      · rw [getD_set _ _ _ _ (by omega)]
        split
        · exact VS.ior _ _
        · exact hv u hu
      · have hmem : ((u : Int) ∈ (elems S).take (i + 1)) ↔ ((u : Int) ∈ (elems S).take i ∨ u = u0) := by
          rw [List.take_succ_eq_append_getElem hlt, List.mem_append, h3]
          simp [Int.natCast_inj]
        unfold nb
        rw [getD_set _ _ _ _ (by omega)]
        by_cases hc : u = u0
        · subst hc
          rw [if_pos rfl]
          have hg : l[u] = l.getD u 0 := (getD_lt (by omega) 0).symm
          rw [hg, has_ior (hv u hu) (VS.iandNot _ _), has_iandNot hSV (VS.ishl _ _), has_one (by omega)]
          have := hh u w hu
          unfold nb at this
          rw [this, decide_eq_true (hmem.2 (.inr rfl))]
          cases has (F.getD u 0) w <;> cases has S w <;> by_cases hw : w = u <;> simp [hw]
        · rw [if_neg hc]
          have := hh u w hu
          unfold nb at this
          rw [this]
          have : decide ((u : Int) ∈ (elems S).take (i + 1)) = decide ((u : Int) ∈ (elems S).take i) := by
            rw [Bool.eq_iff_iff, decide_eq_true_eq, decide_eq_true_eq, hmem]; simp [hc]
          rw [this]
    · obtain rfl : i = (elems S).length := by omega
      simp only [dnlt, cond_false]
      refine ⟨_, rfl, hl, hv, fun u w hu => ?_⟩
      rw [hh u w hu, List.take_length]
      congr 3
      rw [Bool.eq_iff_iff, decide_eq_true_eq, mem_elems_nat hSV]
  · rintro F' ⟨q1, q2, q3⟩
    refine ⟨_, rfl, h.clique hSn q1 q2 q3, fun u w hu => ?_⟩
    rw [q3 u w hu, hS, hS]
noncomputable def elimF (F : List Int) (s b : Int) : List Int := (D.impl_eliminate F s b).getD []
theorem elimF_ok {F : List Int} {n b : Nat} {s : Int} (h16 : n ≤ 16) (h : FOk F n) (hs : VS s) (hb : b < n) :
    D.impl_eliminate F s (b : Int) = some (elimF F s b) ∧ FOk (elimF F s b) n ∧ ∀ u w, u < n → nb (elimF F s b) u w = (nb F u w || ((nb F b u && has s u) && (nb F b w && has s w) && decide (w ≠ u))) := by
  obtain ⟨F', e, h1, h2⟩ := eliminate_ok h16 h hs hb
  have : elimF F s b = F' := by unfold elimF; rw [e]; rfl
  rw [this]; exact ⟨e, h1, h2⟩
theorem lft_grow {F : List Int} {n v : Nat} {s : Int} (h1 : 1 ≤ n) (h16 : n ≤ 16) (h : FOk F n) (hs : VS s) (hv : v < n) : lft (grow F) v (goneOf n s) = elems (iand .u32 (F.getD v 0) s) := by
  have hl : (grow F).length = n := by rw [grow_len, h.len]
  have := lft_gone (GOk.grow h h1 h16) hs (v := v) (by omega)
  rw [hl, row_grow, mk_elems (h.vs v hv)] at this
  exact this
/-- both make the same of it -/
theorem clique_grow {F : List Int} {n b : Nat} {s : Int} (h1 : 1 ≤ n) (h16 : n ≤ 16) (h : FOk F n) (hs : VS s) (hb : b < n) :
    D.spec_l7Clique (grow F) (lft (grow F) b (goneOf n (iandNot .u32 s (ishl .u32 1 (b : Int))))) = some (grow (elimF F s b)) := by
  obtain ⟨_, e2, e3⟩ := elimF_ok h16 h hs hb
  have hG := GOk.grow h h1 h16
  have hl : (grow F).length = n := by rw [grow_len, h.len]
  rw [lft_grow h1 h16 h (VS.iandNot _ _) hb]
  have hm : ∀ w : Nat, (w : Int) ∈ elems (iand .u32 (F.getD b 0) (iandNot .u32 s (ishl .u32 1 (b : Int)))) ↔ (nb F b w && has s w) = true := fun w => by
    rw [mem_elems_nat (VS.iand _ _), has_iand (h.vs b hb) (VS.iandNot _ _), has_iandNot hs (VS.ishl _ _), has_one (by omega)]
    by_cases e : w = b
    · subst e
      have := h.irr w hb
      unfold nb at this ⊢
      rw [this]; simp
    · unfold nb; simp [e]
  obtain ⟨g', q1, q2, q3, q4⟩ := l7Clique_ok hG (l := elems (iand .u32 (F.getD b 0) (iandNot .u32 s (ishl .u32 1 (b : Int))))) (elems_inc _) (fun x hx => by
    obtain ⟨w, _, _, rfl⟩ := mem_elems.1 hx
    have := (hm w).1 hx
    rw [Bool.and_eq_true] at this
    have := h.lt b w hb this.1
    omega)
  rw [q1]
  congr 1
  refine graph_ext q2 (GOk.grow e2 h1 h16) (by rw [q3, grow_len, grow_len, h.len, e2.len]) (fun u w hu => ?_)
  have hu' : u < n := by omega
  rw [q4, adj_grow e2 hu', adj_grow h hu', e3 u w hu', hm, hm]
  simp only [Bool.or_eq_true, Bool.and_eq_true, decide_eq_true_eq]
  constructor
  · rintro (h | ⟨h, h1, h2⟩)
    · exact .inl h
    · exact .inr ⟨⟨h1, h2⟩, fun e => h e.symm⟩
  · rintro (h | ⟨⟨h1, h2⟩, h⟩)
    · exact .inl h
    · exact .inr ⟨fun e => h e.symm, h1, h2⟩

structure GQ (n i : Nat) (F o : List Int) (s : Int) : Prop where
  f : FOk F n
  left : SQ n s (n - i)
  len : o.length = i
  rng : ∀ x ∈ o, ∃ v : Nat, x = v ∧ v < n ∧ has s v = false
  nd : o.Nodup
theorem l1CopyGraph_eq {g : List (List Int)} (hg : GOk g) : D.spec_l1CopyGraph g = some g := by
  have h16 := hg.n16
  unfold D.spec_l1CopyGraph
  refine (loop_map g (fun s i => (i, s)) (fun r => r) (by omega) (fun s i hi _ => ?_) (fun s => ?_)).trans (by simp)
  · simp only [dlt hi, cond_true, idx_nat hi, Option.bind_some, l1Copy_eq _ (hg.sh2.2 _ (List.getElem_mem hi)), wi (show i < 4611686018427387904 by omega)]
  · simp only [dnlt, cond_false]
end Go.Sx

/- What filling an order comes to, step by step, alike in both. Plain. -/
namespace Go.Sx
/-- the fill, the later ones and what is left, after so many steps -/
noncomputable def ef (g : List (List Int)) (o : List Int) : Nat → List Int × List Int × Int
  | 0 => (g.map mk, List.replicate g.length 0, full g.length)
  | i + 1 => (elimF (ef g o i).1 (ef g o i).2.2 (o.getD i 0), (ef g o i).2.1.set (o.getD i 0).toNat (iand .u32 ((ef g o i).1.getD (o.getD i 0).toNat 0) (iandNot .u32 (ef g o i).2.2 (ishl .u32 1 (o.getD i 0)))),
      iandNot .u32 (ef g o i).2.2 (ishl .u32 1 (o.getD i 0)))

section
variable {g : List (List Int)} {o : List Int} (hg : GOk g) (ho : OOk g o)
include hg ho
theorem ef_inv : ∀ i, i ≤ g.length → EInv g.length (g.map mk) o i (ef g o i).1 (ef g o i).2.1 (ef g o i).2.2
  | 0, _ => by
    have h16 := hg.n16
    refine ⟨FOk.of hg, by simp [ef], fun u hu => ?_, full_vs _, fun v => ?_, fun u w _ h => h, fun j v hj => by omega, fun j v u w hj => by omega, fun _ => rfl⟩
    · rw [show (ef g o 0).2.1 = List.replicate g.length 0 from rfl, List.getD_eq_getElem?_getD, List.getElem?_replicate]
      split <;> exact VS.zero
    · rw [show (ef g o 0).2.2 = full g.length from rfl, has_full h16]; simp
  | i + 1, hi => by
    have h16 := hg.n16; have hl := ho.len
    have ih := ef_inv i (by omega)
    have hio : i < o.length := by omega
    have hr := ho.rng _ (List.getElem_mem hio)
    obtain ⟨v, hv⟩ : ∃ v : Nat, o[i] = (v : Int) := ⟨o[i].toNat, by omega⟩
    have hvn : v < g.length := by omega
    have hd : o.getD i 0 = (v : Int) := by rw [getD_lt hio, hv]
    obtain ⟨_, k1, k2⟩ := elimF_ok (b := v) h16 ih.f ih.vsl hvn
    simp only [ef, hd, Int.toNat_natCast]
    refine ih.step h16 ho.rng ho.nd hio hv k1.len k1.vs (fun u w hu => ?_)
    rw [k2 u w hu, has_iand (ih.f.vs v hvn) (VS.iandNot _ _), has_iand (ih.f.vs v hvn) (VS.iandNot _ _), has_iandNot ih.vsl (VS.ishl _ _), has_iandNot ih.vsl (VS.ishl _ _), has_one (by omega), has_one (by omega)]
    have hirr := ih.f.irr v hvn
    have e : ∀ x, (has ((ef g o i).1.getD v 0) x && (has (ef g o i).2.2 x && !decide (x = v))) = (nb (ef g o i).1 v x && has (ef g o i).2.2 x) := fun x => by
      by_cases e : x = v
      · subst e; rw [show has ((ef g o i).1.getD x 0) x = nb (ef g o i).1 x x from rfl, hirr]; simp
      · unfold nb; simp [e]
    rw [e, e]

theorem elim_ef : D.impl_elimination (g.map mk) o = some ((ef g o g.length).1, (ef g o g.length).2.1) := by
  have h16 := hg.n16; have hl := ho.len
  have hlen : (g.map mk).length = g.length := by simp
  unfold D.impl_elimination
  rw [appendD_ok (by simp; omega), Option.bind_some]
  obtain ⟨s, e1, hs1, hs2⟩ := nets_all_eq (g.map mk) (by omega)
  rw [e1, Option.bind_some, makeD_ok (by omega) (by omega), Option.bind_some]
  simp only [Option.bind_some, List.nil_append]
  have hsf : s = full g.length := hs1.ext (full_vs _) (fun w _ => by rw [hs2, has_full h16, hlen])
  refine (loop_to (fun i => ((ef g o i).1, (ef g o i).2.1, (ef g o i).2.2, (i : Int))) g.length ((ef g o g.length).1, (ef g o g.length).2.1) (by simp [ef, hsf]) (fun i hi => ?_) ?_).trans rfl
  · have h := ef_inv hg ho i (by omega)
    have h' := ef_inv hg ho (i + 1) (by omega)
    have hio : i < o.length := by omega
    have hr := ho.rng _ (List.getElem_mem hio)
    obtain ⟨v, hv⟩ : ∃ v : Nat, o[i] = (v : Int) := ⟨o[i].toNat, by omega⟩
    have hvn : v < g.length := by omega
    have hd : o.getD i 0 = (v : Int) := by rw [getD_lt hio, hv]
    obtain ⟨_, q1, q2⟩ := elimF_ok (b := v) h16 h.f h.vsl hvn
    simp only [ef, hd, Int.toNat_natCast] at h' ⊢
    generalize (ef g o i).1 = F at *
    generalize (ef g o i).2.1 = L at *
    generalize (ef g o i).2.2 = left at *
    have hFv : idx F (v : Int) = some (F.getD v 0) := by rw [idx_nat (by rw [h.f.len]; omega), getD_lt (by rw [h.f.len]; omega)]
    have hLs : idx (L.set v (iand .u32 (F.getD v 0) (iandNot .u32 left (ishl .u32 1 (v : Int))))) (v : Int) = some (iand .u32 (F.getD v 0) (iandNot .u32 left (ishl .u32 1 (v : Int)))) := by
      rw [idx_nat (by simp [h.lenL]; omega)]; simp
    simp only [dlt hio, cond_true, idx_nat hio, hv, Option.bind_some, impl_one_eq, hFv, idx_nat (show v < L.length by rw [h.lenL]; omega), Int.toNat_natCast]
    rw [hLs]
    simp only [Option.bind_some, list_eq _ (VS.iand _ _)]
    have hSlt : ∀ w, has (iand .u32 (F.getD v 0) (iandNot .u32 left (ishl .u32 1 (v : Int)))) w = true → w < g.length := fun w hw => by
      rw [has_iand (h.f.vs v hvn) (VS.iandNot _ _)] at hw
      simp only [Bool.and_eq_true] at hw
      exact h.f.lt v w hvn hw.1
    obtain ⟨F', e2, k1, k2, k3⟩ := inner_ok F _ _ h16 h.f.len h.f.vs (VS.iand _ _) hSlt hLs
    have hFF : F' = elimF F left (v : Int) := by
      refine FOk.ext k1 q1.len k2 q1.vs (fun u w hu => ?_)
      rw [k3 u w hu, q2 u w hu, has_iand (h.f.vs v hvn) (VS.iandNot _ _), has_iand (h.f.vs v hvn) (VS.iandNot _ _), has_iandNot h.vsl (VS.ishl _ _), has_iandNot h.vsl (VS.ishl _ _), has_one (by omega), has_one (by omega)]
      have hirr := h.f.irr v hvn
      have e : ∀ x, (has (F.getD v 0) x && (has left x && !decide (x = v))) = (nb F v x && has left x) := fun x => by
        by_cases e : x = v
        · subst e; rw [show has (F.getD x 0) x = nb F x x from rfl, hirr]; simp
        · unfold nb; simp [e]
      rw [e, e]
    rw [hLs] at e2
    simp only [Option.bind_some] at e2
    rw [e2, Option.bind_some, wi (show i < 4611686018427387904 by omega), hFF]
  · simp only [hl, dnlt, cond_false]

theorem l7Fill_ef : D.spec_l7Fill g o = some (grow (ef g o g.length).1) := by
  have h16 := hg.n16; have hl := ho.len; have hn1 := hg.n1
  unfold D.spec_l7Fill D.spec_l1Size
  rw [l1CopyGraph_eq hg, Option.bind_some, Option.bind_some, makeD_ok (by omega) (by omega), Option.bind_some]
  refine (loop_to (fun i => (goneOf g.length (ef g o i).2.2, (i : Int), grow (ef g o i).1)) g.length (grow (ef g o g.length).1) (by simp only [ef]; rw [goneOf_full h16, grow_of hg]; rfl) (fun i hi => ?_) ?_).trans rfl
  · have h := ef_inv hg ho i (by omega)
    have hio : i < o.length := by omega
    have hr := ho.rng _ (List.getElem_mem hio)
    obtain ⟨v, hv⟩ : ∃ v : Nat, o[i] = (v : Int) := ⟨o[i].toNat, by omega⟩
    have hvn : v < g.length := by omega
    have hd : o.getD i 0 = (v : Int) := by rw [getD_lt hio, hv]
    simp only [ef, hd]
    generalize (ef g o i).1 = F at *
    generalize (ef g o i).2.1 = L at *
    generalize (ef g o i).2.2 = s at *
    have hG := GOk.grow h.f hn1 h16
    have hGl : (grow F).length = g.length := by rw [grow_len, h.f.len]
    have hl7 := l7Left_eq (grow F) hG (show v < (grow F).length by omega) (goneOf g.length (iandNot .u32 s (ishl .u32 1 (v : Int)))) (by rw [goneOf_len]; omega)
    simp only [dlt hio, cond_true, idx_nat hio, hv, Option.bind_some, goneOf_idx hvn, Int.toNat_natCast, goneOf_set h.vsl hvn (show g.length ≤ 32 by omega), hl7, clique_grow hn1 h16 h.f h.vsl hvn, wi (show i < 4611686018427387904 by omega)]
  · simp only [hl, dnlt, cond_false]
end
end Go.Sx

/- Links put in one by one, and links sorted: one and the same. Plain. -/
namespace Go.Sx
theorem less2 (a b c d : Int) : D.spec_l1Less [a, b] [c, d] = some (decide (a < c ∨ (a = c ∧ b < d))) := by
  unfold D.spec_l1Less
  have i0 : ∀ x y : Int, idx [x, y] 0 = some x := fun x y => by unfold idx; simp
  have i1 : ∀ x y : Int, idx [x, y] 1 = some y := fun x y => by unfold idx; simp
  have w1 : IntKind.i64.wrap 1 = 1 := by decide
  have w2 : IntKind.i64.wrap 2 = 2 := by decide
  have e0 : ((([a, b] : List Int).length : Int) != (([c, d] : List Int).length : Int)) = false := by simp
  rw [e0, cond_false]
  by_cases h1 : a = c
  · subst h1
    rw [loopF_more (s' := 1) (by simp [i0, w1])]
    by_cases h2 : b = d
    · subst h2
      rw [loopF_more (s' := 2) (by simp [i1, w2]), loopF_done (r := .inl ()) (by simp)]; simp
    · have e : (b != d) = true := by simpa using h2
      rw [loopF_done (r := .inr (decide (b < d))) (by simp [i1, e])]; simp
  · have e : (a != c) = true := by simpa using h1
    rw [loopF_done (r := .inr (decide (a < c))) (by simp [i0, e])]; simp [h1]
theorem less_key {x y : List Int} (hx : rowGood x) (hy : rowGood y) : D.spec_l1Less x y = some (decide (rowKey x < rowKey y)) := by
  obtain ⟨h1, h2, h3, h4, h5⟩ := hx
  obtain ⟨k1, k2, k3, k4, k5⟩ := hy
  obtain ⟨a, b, rfl⟩ := list2 h1
  obtain ⟨c, d, rfl⟩ := list2 k1
  rw [less2]
  unfold rowKey
  simp only [List.getD_cons_zero, List.getD_cons_succ] at *
  congr 1
  rw [decide_eq_decide]
  constructor <;> intro h <;> omega

def insAt (l : List Int) (xs : List (List Int)) : Nat := xs.findIdx fun x => decide (rowKey l < rowKey x)
/-- a link put in ahead of the first greater one -/
def ins (l : List Int) (xs : List (List Int)) : List (List Int) := xs.take (insAt l xs) ++ l :: xs.drop (insAt l xs)
def mkLink (a b : Int) : List Int := [min a b, max a b]
theorem l1Min_eq (a b : Int) : D.spec_l1Min a b = some (min a b) := by
  unfold D.spec_l1Min
  by_cases h : a < b
  · simp only [h, decide_true, cond_true]; congr 1; omega
  · simp only [h, decide_false, cond_false]; congr 1; omega
theorem l1Max_eq2 (a b : Int) : D.spec_l1Max a b = some (max a b) := by
  unfold D.spec_l1Max
  by_cases h : b < a
  · simp only [h, decide_true, cond_true]; congr 1; omega
  · simp only [h, decide_false, cond_false]; congr 1; omega
theorem sortedLink_eq (a b : Int) : D.impl_sortedLink a b = some (mkLink a b) := by
  unfold D.impl_sortedLink mkLink
  congr 2
  · split <;> omega
  · congr 1; split <;> omega

theorem l9Link_eq {xs : List (List Int)} {a b : Int} (hg : ∀ x ∈ xs, rowGood x) (hl : rowGood (mkLink a b)) (hx : xs.length ≤ 1000000) : D.spec_l9Link xs a b = some (ins (mkLink a b) xs) := by
  unfold D.spec_l9Link
  rw [l1Min_eq, Option.bind_some, l1Max_eq2, Option.bind_some]
  have el : ([min a b, max a b] : List Int) = mkLink a b := rfl
  simp only [el]
  have hk := List.findIdx_le_length (p := fun x => decide (rowKey (mkLink a b) < rowKey x)) (xs := xs)
  generalize hkk : insAt (mkLink a b) xs = k
  have hkl : k ≤ xs.length := by rw [← hkk]; exact hk
  generalize hL : mkLink a b = l at *
  have hlo : ∀ i (hi : i < xs.length), i < k → D.spec_l1Less l xs[i] = some false := fun i hi hik => by
    rw [less_key hl (hg _ (List.getElem_mem hi))]
    have := List.not_of_lt_findIdx (p := fun x => decide (rowKey l < rowKey x)) (xs := xs) (i := i) (by unfold insAt at hkk; omega)
    simp at this
    simp; omega
  have hhi : ∀ (h : k < xs.length), D.spec_l1Less l xs[k] = some true := fun h => by
    rw [less_key hl (hg _ (List.getElem_mem h))]
    unfold insAt at hkk
    have h1 : decide (rowKey l < rowKey (xs[xs.findIdx fun x => decide (rowKey l < rowKey x)]'(by rw [hkk]; exact h))) = true := List.findIdx_getElem (p := fun x => decide (rowKey l < rowKey x)) (xs := xs) (w := by rw [hkk]; exact h)
    simp only [hkk] at h1
    rw [h1]
  let st : Nat → List Int × List (List Int) × Bool × Int := fun i => if i ≤ k then (l, xs.take i, false, (i : Int)) else (l, xs.take k ++ l :: (xs.drop k).take (i - k), true, (i : Int))
  have hst : st xs.length = (l, if k = xs.length then xs else ins l xs, decide (k < xs.length), (xs.length : Int)) := by
    by_cases e : k = xs.length
    · simp [st, e]
    · have h1 : ¬ xs.length ≤ k := by omega
      have h2 : k < xs.length := by omega
      simp only [st, h1, if_false, e, h2, decide_true]
      unfold ins; rw [hkk, List.take_of_length_le (l := xs.drop k) (by simp)]
  refine (loop_to st xs.length (l, if k = xs.length then xs else ins l xs, decide (k < xs.length)) (by simp [st]) (fun i hi => ?_) ?_).trans ?_
  · by_cases h1 : i < k
    · have e1 : st i = (l, xs.take i, false, (i : Int)) := by simp only [st]; rw [if_pos (by omega)]
      have e2 : st (i + 1) = (l, xs.take (i + 1), false, ((i + 1 : Nat) : Int)) := by simp only [st]; rw [if_pos (by omega)]
      rw [e1, e2]
      simp only [dlt hi, cond_true, Bool.not_false, idx_nat hi, Option.bind_some, hlo i hi h1, cond_false, wi (show i < 4611686018427387904 by omega)]
      rw [appendD_ok (by simp; omega), Option.bind_some, List.take_succ_eq_append_getElem hi]
    · by_cases h2 : i = k
      · subst h2
        have e1 : st i = (l, xs.take i, false, (i : Int)) := by simp only [st]; rw [if_pos (by omega)]
        have e2 : st (i + 1) = (l, xs.take i ++ l :: (xs.drop i).take 1, true, ((i + 1 : Nat) : Int)) := by simp only [st]; rw [if_neg (by omega)]; congr; omega
        rw [e1, e2]
        simp only [dlt hi, cond_true, Bool.not_false, idx_nat hi, Option.bind_some, hhi hi, wi (show i < 4611686018427387904 by omega)]
        rw [appendD_ok (by simp; omega), Option.bind_some, appendD_ok (by simp; omega), Option.bind_some]
        have : (xs.drop i).take 1 = [xs[i]] := by rw [List.drop_eq_getElem_cons hi, List.take_succ_cons, List.take_zero]
        rw [this]; simp
      · have e1 : st i = (l, xs.take k ++ l :: (xs.drop k).take (i - k), true, (i : Int)) := by simp only [st]; rw [if_neg (by omega)]
        have e2 : st (i + 1) = (l, xs.take k ++ l :: (xs.drop k).take (i + 1 - k), true, ((i + 1 : Nat) : Int)) := by simp only [st]; rw [if_neg (by omega)]
        rw [e1, e2]
        simp only [dlt hi, cond_true, Bool.not_true, cond_false, Option.bind_some, idx_nat hi, wi (show i < 4611686018427387904 by omega)]
        rw [appendD_ok (by simp; omega), Option.bind_some]
        have : (xs.drop k).take (i + 1 - k) = (xs.drop k).take (i - k) ++ [xs[i]] := by
          rw [show i + 1 - k = (i - k) + 1 by omega, List.take_succ_eq_append_getElem (by simp; omega)]
          congr 2
          rw [List.getElem_drop]; congr 1; omega
        rw [this]; simp
  · rw [hst]
    simp only [dnlt, cond_false]
  · by_cases e : k = xs.length
    · simp only [e, if_true, Nat.lt_irrefl, decide_false, Bool.not_false, cond_true]
      rw [appendD_ok (by simp; omega), Option.bind_some]
      unfold ins; rw [hkk, e]; simp
    · have h2 : k < xs.length := by omega
      simp only [e, if_false, h2, decide_true, Bool.not_true, cond_false]
end Go.Sx

/- The exact laws' own helpers in closed form: copies, equality, sizes, marks. Plain. -/
namespace Go.Sx
theorem loop_set {α S ρ β : Type} {step : S → Option (S ⊕ ρ)} {k : ρ → Option β} {s0 : S} (xs ys : List α) (hl : xs.length = ys.length) (enc : List α → Int → S) (r : ρ) (h0 : enc ys 0 = s0)
    (hstep : ∀ l (i : Nat) (h : i < xs.length), l.length = xs.length → step (enc l i) = some (.inl (enc (l.set i xs[i]) ((i + 1 : Nat) : Int))))
    (hend : step (enc xs xs.length) = some (.inr r)) : (loopF step s0).bind k = k r := by
  refine loop_to (fun i => enc (xs.take i ++ ys.drop i) (i : Int)) xs.length r (by simpa using h0) (fun i hi => ?_) ?_
  · have e : (xs.take i ++ ys.drop i).set i xs[i] = xs.take (i + 1) ++ ys.drop (i + 1) := by
      rw [List.take_succ_eq_append_getElem hi, List.drop_eq_getElem_cons (show i < ys.length by omega), List.set_append_right _ _ (by simp; omega)]
      have e0 : i - (xs.take i).length = 0 := by rw [List.length_take]; omega
      rw [e0, List.set_cons_zero, List.append_assoc]; rfl
    rw [hstep _ i hi (by simp; omega), e]
  · rw [← hend, List.take_length, hl, List.drop_length, List.append_nil]

theorem toS_eq (xs : List Int) (h : Sh xs) : D.laws_toInt64S xs = some xs := by
  unfold Sh at h
  unfold D.laws_toInt64S
  rw [makeD_ok (by omega) (by omega), Option.bind_some]
  refine (loop_set xs (List.replicate xs.length 0) (by simp) (fun l i => (l, i)) xs rfl (fun l i hi hl => ?_) ?_).trans rfl
  · simp only [dlt hi, cond_true, idx_nat hi, idx_nat (show i < l.length by omega), Option.bind_some, wi (show i < 4611686018427387904 by omega), Int.toNat_natCast]
  · simp only [dnlt, cond_false]
theorem toSS_eq (xs : List (List Int)) (h : Sh2 xs) : D.laws_toInt64SS xs = some xs := by
  obtain ⟨h, h2⟩ := h
  unfold Sh at h
  unfold D.laws_toInt64SS
  rw [makeD_ok (by omega) (by omega), Option.bind_some]
  refine (loop_set xs (List.replicate xs.length []) (by simp) (fun l i => (l, i)) xs rfl (fun l i hi hl => ?_) ?_).trans rfl
  · simp only [dlt hi, cond_true, idx_nat hi, idx_nat (show i < l.length by omega), Option.bind_some, wi (show i < 4611686018427387904 by omega), Int.toNat_natCast, toS_eq _ (h2 _ (List.getElem_mem hi))]
  · simp only [dnlt, cond_false]
theorem toGraph_eq (g : List (List Int)) (h : Sh2 g) : D.laws_toGraph g = some g := by
  unfold D.laws_toGraph; rw [toSS_eq g h]; rfl

theorem list_eq_all {α : Type} [DecidableEq α] (xs ys : List α) (d : α) (hl : xs.length = ys.length) : (List.range xs.length).all (fun i => decide (xs.getD i d = ys.getD i d)) = decide (xs = ys) := by
  rw [Bool.eq_iff_iff, all_forall, decide_eq_true_eq]
  constructor
  · intro h
    apply List.ext_getElem hl
    intro i h1 h2
    have := h i h1
    rw [getD_lt h1, getD_lt h2] at this
    exact of_decide_eq_true this
  · rintro rfl i _; simp
theorem eqS_eq (xs ys : List Int) (h : Sh xs) : D.laws_eqInt64S xs ys = some (decide (xs = ys)) := by
  unfold Sh at h
  unfold D.laws_eqInt64S
  by_cases hl : xs.length = ys.length
  · have e : ((xs.length : Int) != (ys.length : Int)) = false := by simp [hl]
    rw [e, cond_false, ← list_eq_all xs ys 0 hl]
    refine loop_allb xs.length _ false (fun i hi => ?_) ?_ rfl rfl
    · have hi' : i < ys.length := by omega
      simp only [dlt hi, cond_true, idx_nat hi, idx_nat hi', Option.bind_some, wi (show i < 4611686018427387904 by omega), getD_lt hi, getD_lt hi']
      by_cases hc : xs[i] = ys[i]
      · simp [hc]
      · have : (xs[i] != ys[i]) = true := by simpa using hc
        simp [hc, this]
    · simp only [dnlt, cond_false]
  · have e : ((xs.length : Int) != (ys.length : Int)) = true := by simp; omega
    have : xs ≠ ys := by rintro rfl; exact hl rfl
    simp [e, this]
theorem eqSS_eq (xs ys : List (List Int)) (h : Sh2 xs) : D.laws_eqInt64SS xs ys = some (decide (xs = ys)) := by
  obtain ⟨h, h2⟩ := h
  unfold Sh at h
  unfold D.laws_eqInt64SS
  by_cases hl : xs.length = ys.length
  · have e : ((xs.length : Int) != (ys.length : Int)) = false := by simp [hl]
    rw [e, cond_false, ← list_eq_all xs ys [] hl]
    refine loop_allb xs.length _ false (fun i hi => ?_) ?_ rfl rfl
    · have hi' : i < ys.length := by omega
      simp only [dlt hi, cond_true, idx_nat hi, idx_nat hi', Option.bind_some, wi (show i < 4611686018427387904 by omega), getD_lt hi, getD_lt hi', eqS_eq _ _ (h2 _ (List.getElem_mem hi))]
      by_cases hc : xs[i] = ys[i]
      · simp [hc]
      · simp [hc]
    · simp only [dnlt, cond_false]
  · have e : ((xs.length : Int) != (ys.length : Int)) = true := by simp; omega
    have : xs ≠ ys := by rintro rfl; exact hl rfl
    simp [e, this]
theorem eqGraph_eq (xs ys : List (List Int)) (h : Sh2 xs) : D.laws_eqGraph xs ys = some (decide (xs = ys)) := by
  unfold D.laws_eqGraph; rw [eqSS_eq xs ys h, Option.bind_some]; cases decide (xs = ys) <;> rfl

/-! ### sizes -/
/-- how many there are in all -/
def tot : List (List Int) → Int
  | [] => 0
  | x :: xs => x.length + tot xs
theorem tot_nonneg : ∀ xs, 0 ≤ tot xs
  | [] => Int.le_refl _
  | x :: xs => by have := tot_nonneg xs; simp only [tot]; omega
theorem tot_app : ∀ xs ys, tot (xs ++ ys) = tot xs + tot ys
  | [], ys => by simp [tot]
  | x :: xs, ys => by simp only [List.cons_append, tot, tot_app xs ys]; omega
theorem tot_mem : ∀ {xs : List (List Int)} {x}, x ∈ xs → (x.length : Int) ≤ tot xs
  | y :: xs, x, h => by
    have := tot_nonneg xs
    simp only [tot]
    rcases List.mem_cons.1 h with rfl | h
    · omega
    · have := tot_mem h; omega
theorem tot_take {xs : List (List Int)} {i : Nat} (h : i < xs.length) : tot (xs.take (i + 1)) = tot (xs.take i) + xs[i].length := by
  rw [List.take_succ_eq_append_getElem h, tot_app]; simp [tot]
theorem tot_le {xs : List (List Int)} {n : Int} (h : ∀ x ∈ xs, (x.length : Int) ≤ n) : tot xs ≤ xs.length * n := by
  induction xs with
  | nil => simp [tot]
  | cons x xs ih =>
    have := ih (fun y hy => h y (by simp [hy]))
    have := h x (by simp)
    simp only [tot, List.length_cons, Int.natCast_add, Int.add_mul]; omega
theorem Sh2.of_tot {xs : List (List Int)} (h : Sh xs) (h2 : tot xs ≤ 4294967296) : Sh2 xs := ⟨h, fun x hx => by have := tot_mem hx; unfold Sh; omega⟩

theorem szS_eq (xs : List Int) (k : Int) (hx : (xs.length : Int) ≤ 9223372036854775807) (h0 : 0 ≤ k) (h1 : k ≤ 1048576) :
    D.laws_szInt64S xs k = some (if (xs.length : Int) ≤ k then k - xs.length else -1) := by
  unfold D.laws_szInt64S
  rw [w64 (by omega) (by omega)]
  by_cases h : k - (xs.length : Int) < 0
  · rw [if_neg (by omega)]; simp [h]
  · rw [if_pos (by omega)]; simp [h]
theorem szSS_eq (xs : List (List Int)) (k : Int) (hx : (xs.length : Int) ≤ 9223372036854775807) (hx2 : ∀ x ∈ xs, (x.length : Int) ≤ 9223372036854775807) (h0 : 0 ≤ k) (h1 : k ≤ 1048576) :
    ∃ y, D.laws_szInt64SS xs k = some y ∧ (y < 0 ∨ (y + xs.length + tot xs = k ∧ 0 ≤ y)) := by
  unfold D.laws_szInt64SS
  rw [w64 (by omega) (by omega)]
  by_cases h : k - (xs.length : Int) < 0
  · simp only [h, decide_true, cond_true]; exact ⟨-1, rfl, .inl (by omega)⟩
  · simp only [h, decide_false, cond_false]
    have key : ∀ (n i : Nat) (l : Int), i + n = xs.length → 0 ≤ l → l + tot (xs.take i) = k - xs.length →
        ∃ r, loopF (σ := Int × Int) (ρ := (Int) ⊕ (Int)) (fun (s_39 : Int × Int) => match s_39 with | (x_42, x_43) => cond (decide (x_43 < (xs.length : Int))) ((idx xs x_43).bind fun e_64 => (D.laws_szInt64S e_64 x_42).bind fun y_70 => cond (decide (y_70 < 0)) (some (.inr (.inr (-1)))) (some (.inl (y_70, (IntKind.i64.wrap (x_43 + 1)))))) (some (.inr (.inl x_42)))) (l, (i : Int)) = some r ∧
          (r = .inr (-1) ∨ ∃ y, r = .inl y ∧ y + xs.length + tot xs = k ∧ 0 ≤ y) := by
      intro n
      induction n with
      | zero =>
        intro i l hi hl he
        obtain rfl : i = xs.length := by omega
        refine ⟨.inl l, loopF_done (by simp only [dnlt, cond_false]), .inr ⟨l, rfl, ?_, hl⟩⟩
        rw [List.take_length] at he; omega
      | succ n ih =>
        intro i l hi hl he
        have hil : i < xs.length := by omega
        have ht := tot_nonneg (xs.take i)
        have e1 := szS_eq xs[i] l (hx2 _ (List.getElem_mem hil)) hl (by omega)
        by_cases hc : (xs[i].length : Int) ≤ l
        · rw [if_pos hc] at e1
          obtain ⟨r, hr, hp⟩ := ih (i + 1) (l - xs[i].length) (by omega) (by omega) (by rw [tot_take hil]; omega)
          refine ⟨r, ?_, hp⟩
          rw [loopF_more (s' := (l - xs[i].length, ((i + 1 : Nat) : Int)))]
          · exact hr
          · have hd : decide (l - (xs[i].length : Int) < 0) = false := by simp; omega
            simp only [dlt hil, cond_true, idx_nat hil, Option.bind_some, e1, hd, cond_false, wi (show i < 4611686018427387904 by omega)]
        · rw [if_neg hc] at e1
          refine ⟨.inr (-1), loopF_done ?_, .inl rfl⟩
          have hd : decide ((-1 : Int) < 0) = true := by decide
          simp only [dlt hil, cond_true, idx_nat hil, Option.bind_some, e1, hd]
    obtain ⟨r, hr, hp⟩ := key xs.length 0 (k - xs.length) (by omega) (by omega) (by simp [tot])
    rw [show ((0 : Nat) : Int) = 0 from rfl] at hr
    rw [hr, Option.bind_some]
    rcases hp with rfl | ⟨y, rfl, h1, h2⟩
    · exact ⟨-1, rfl, .inl (by omega)⟩
    · exact ⟨y, rfl, .inr ⟨h1, h2⟩⟩
theorem szGraph_eq (xs : List (List Int)) (k : Int) (hx : (xs.length : Int) ≤ 9223372036854775807) (hx2 : ∀ x ∈ xs, (x.length : Int) ≤ 9223372036854775807) (h0 : 0 ≤ k) (h1 : k ≤ 1048576) :
    ∃ y, D.laws_szGraph xs k = some y ∧ (y < 0 ∨ (y + xs.length + tot xs = k ∧ 0 ≤ y)) := by
  obtain ⟨y, e, h⟩ := szSS_eq xs k hx hx2 h0 h1
  unfold D.laws_szGraph
  rw [e, Option.bind_some]
  by_cases hy : y < 0
  · simp only [hy, decide_true, cond_true]; exact ⟨-1, rfl, .inl (by omega)⟩
  · simp only [hy, decide_false, cond_false]; exact ⟨y, rfl, h⟩

/-! ### marks -/
/-- so many numbers from k on -/
def numsI (k : Int) (n : Nat) : List Int := (List.range n).map fun (i : Nat) => k + (i : Int)
theorem numsI_len (k : Int) (n : Nat) : (numsI k n).length = n := by simp [numsI]
theorem numsI_get (k : Int) {n i : Nat} (h : i < (numsI k n).length) : (numsI k n)[i] = k + (i : Int) := by simp [numsI]
def marked (k : Int) : List (List Int) → List (List Int)
  | [] => []
  | x :: xs => numsI k x.length :: marked (k + x.length) xs
theorem marked_app : ∀ xs ys k, marked k (xs ++ ys) = marked k xs ++ marked (k + tot xs) ys
  | [], ys, k => by simp [marked, tot]
  | x :: xs, ys, k => by simp only [List.cons_append, marked, marked_app xs ys, tot]; rw [show k + (x.length : Int) + tot xs = k + (x.length + tot xs) by omega]
theorem marked_len : ∀ xs k, (marked k xs).length = xs.length
  | [], _ => rfl
  | x :: xs, k => by simp [marked, marked_len xs]
theorem marked_get : ∀ (xs : List (List Int)) (k : Int) (i : Nat) (h : i < xs.length), (marked k xs)[i]'(by rw [marked_len]; exact h) = numsI (k + tot (xs.take i)) xs[i].length
  | x :: xs, k, 0, h => by simp [marked, tot]
  | x :: xs, k, i + 1, h => by
    simp only [marked, List.getElem_cons_succ, List.take_succ_cons, tot]
    rw [marked_get xs (k + x.length) i (by simpa using h)]
    congr 1; omega
theorem markS_eq (xs : List Int) (k : Int) (h : Sh xs) (h0 : 0 ≤ k) (h1 : k ≤ 4611686018427387904) : D.laws_markInt64S xs k = some (k + xs.length, numsI k xs.length) := by
  unfold Sh at h
  unfold D.laws_markInt64S
  have e : (numsI k xs.length ++ xs.drop xs.length) = numsI k xs.length := by simp
  refine (loop_to (fun i => (numsI k i ++ xs.drop i, k + (i : Int), (i : Int))) xs.length (numsI k xs.length, k + (xs.length : Int)) (by simp [numsI]) (fun i hi => ?_) ?_).trans rfl
  · have hl : (numsI k i ++ xs.drop i).length = xs.length := by simp [numsI_len]; omega
    have hi' : i < (numsI k i ++ xs.drop i).length := by omega
    have hset : (numsI k i ++ xs.drop i).set i (k + i) = numsI k (i + 1) ++ xs.drop (i + 1) := by
      rw [List.drop_eq_getElem_cons hi, List.set_append_right _ _ (by rw [numsI_len]; omega)]
      simp only [numsI_len, Nat.sub_self, List.set_cons_zero]
      unfold numsI
      rw [List.range_succ, List.map_append]; simp
    simp only [dlt hi', cond_true, idx_nat hi', Option.bind_some, wi (show i < 4611686018427387904 by omega), Int.toNat_natCast, hset]
    rw [w64 (by omega) (by omega)]
    have : k + (i : Int) + 1 = k + ((i + 1 : Nat) : Int) := by omega
    rw [this]
  · simp only [e, numsI_len, dnlt, cond_false]
theorem markSS_eq (xs : List (List Int)) (k : Int) (h : Sh2 xs) (h0 : 0 ≤ k) (h1 : k + tot xs ≤ 4611686018427387904) : D.laws_markInt64SS xs k = some (k + tot xs, marked k xs) := by
  obtain ⟨h, h2⟩ := h
  unfold Sh at h
  unfold D.laws_markInt64SS
  have hml : ∀ i, i ≤ xs.length → (marked k (xs.take i)).length = i := fun i hi => by rw [marked_len, List.length_take]; omega
  refine (loop_to (fun i => (marked k (xs.take i) ++ xs.drop i, k + tot (xs.take i), (i : Int))) xs.length (marked k xs, k + tot xs) (by simp [marked, tot]) (fun i hi => ?_) ?_).trans rfl
  · have hm := hml i (by omega)
    have hl : (marked k (xs.take i) ++ xs.drop i).length = xs.length := by simp [hm]; omega
    have hi' : i < (marked k (xs.take i) ++ xs.drop i).length := by omega
    have hg : (marked k (xs.take i) ++ xs.drop i)[i] = xs[i] := by
      rw [List.getElem_append_right (by omega)]
      simp [hm]
    have ht := tot_take hi
    have htn : tot (xs.take (i + 1)) ≤ tot xs := by
      have := tot_app (xs.take (i + 1)) (xs.drop (i + 1))
      rw [List.take_append_drop] at this
      have := tot_nonneg (xs.drop (i + 1)); omega
    have htn0 := tot_nonneg (xs.take i)
    have hset : (marked k (xs.take i) ++ xs.drop i).set i (numsI (k + tot (xs.take i)) xs[i].length) = marked k (xs.take (i + 1)) ++ xs.drop (i + 1) := by
      have e0 : i - (marked k (xs.take i)).length = 0 := by omega
      rw [List.drop_eq_getElem_cons hi, List.set_append_right _ _ (by omega), List.take_succ_eq_append_getElem hi, marked_app, e0, List.set_cons_zero, List.append_assoc]
      rfl
    simp only [dlt hi', cond_true, idx_nat hi', hg, Option.bind_some, wi (show i < 4611686018427387904 by omega), Int.toNat_natCast, markS_eq xs[i] (k + tot (xs.take i)) (h2 _ (List.getElem_mem hi)) (by omega) (by omega), hset]
    rw [ht]
    have : k + tot (xs.take i) + (xs[i].length : Int) = k + (tot (xs.take i) + (xs[i].length : Int)) := by omega
    rw [this]
  · have e : marked k (xs.take xs.length) ++ xs.drop xs.length = marked k xs := by simp
    simp only [e, marked_len, dnlt, cond_false]
    simp only [List.take_length]
theorem markGraph_eq (xs : List (List Int)) (k : Int) (h : Sh2 xs) (h0 : 0 ≤ k) (h1 : k + tot xs ≤ 4611686018427387904) : D.laws_markGraph xs k = some (k + tot xs, marked k xs) := by
  unfold D.laws_markGraph; rw [markSS_eq xs k h h0 h1]; rfl

theorem heldS_eq (n : Nat) (k : Int) (h : n ≤ 4294967296) (h0 : 0 ≤ k) (h1 : k ≤ 4611686018427387904) : D.laws_heldInt64S (numsI k n) k = some (k + n) := by
  unfold D.laws_heldInt64S
  rw [numsI_len]
  refine (loop_to (fun i => (k + (i : Int), (i : Int))) n (.inl (k + (n : Int))) (by simp) (fun i hi => ?_) ?_).trans rfl
  · have hi' : i < (numsI k n).length := by rw [numsI_len]; exact hi
    simp only [dlt hi, cond_true, idx_nat hi', numsI_get, Option.bind_some, bne_self_eq_false, cond_false, wi (show i < 4611686018427387904 by omega)]
    rw [w64 (by omega) (by omega)]
    have : k + (i : Int) + 1 = k + ((i + 1 : Nat) : Int) := by omega
    rw [this]
  · simp only [dnlt, cond_false]
theorem heldSS_eq (xs : List (List Int)) (k : Int) (h : Sh2 xs) (h0 : 0 ≤ k) (h1 : k + tot xs ≤ 4611686018427387904) : D.laws_heldInt64SS (marked k xs) k = some (k + tot xs) := by
  obtain ⟨h, h2⟩ := h
  unfold Sh at h
  unfold D.laws_heldInt64SS
  rw [marked_len]
  refine (loop_to (fun i => (k + tot (xs.take i), (i : Int))) xs.length (.inl (k + tot xs)) (by simp [tot]) (fun i hi => ?_) ?_).trans rfl
  · have hi' : i < (marked k xs).length := by rw [marked_len]; exact hi
    have ht := tot_take hi
    have htn : tot (xs.take (i + 1)) ≤ tot xs := by
      have := tot_app (xs.take (i + 1)) (xs.drop (i + 1))
      rw [List.take_append_drop] at this
      have := tot_nonneg (xs.drop (i + 1)); omega
    have htn0 := tot_nonneg (xs.take i)
    simp only [dlt hi, cond_true, idx_nat hi', marked_get xs k i hi, Option.bind_some, heldS_eq xs[i].length (k + tot (xs.take i)) (h2 _ (List.getElem_mem hi)) (by omega) (by omega), wi (show i < 4611686018427387904 by omega)]
    have hd : decide (k + tot (xs.take i) + (xs[i].length : Int) < 0) = false := by simp; omega
    simp only [hd, cond_false, ht]
    have : k + tot (xs.take i) + (xs[i].length : Int) = k + (tot (xs.take i) + (xs[i].length : Int)) := by omega
    rw [this]
  · simp only [dnlt, cond_false, List.take_length]
end Go.Sx



/- FnExactPathDecomp, plain: the law's own function answers true. -/
namespace Go.Sx
theorem eqDecomp_eq (a b c d : List (List Int)) (h1 : Sh2 a) (h2 : Sh2 b) : D.laws_eqDecomp a b c d = some (decide (a = c) && decide (b = d)) := by
  unfold D.laws_eqDecomp
  rw [eqSS_eq a c h1, Option.bind_some]
  cases decide (a = c)
  · rfl
  · rw [eqSS_eq b d h2, Option.bind_some]; cases decide (b = d) <;> rfl
theorem markDecomp_eq (a b : List (List Int)) (k : Int) (h1 : Sh2 a) (h2 : Sh2 b) (h0 : 0 ≤ k) (h : k + tot a + tot b ≤ 4611686018427387904) :
    D.laws_markDecomp a b k = some (k + tot a + tot b, marked k a, marked (k + tot a) b) := by
  have := tot_nonneg a; have := tot_nonneg b
  unfold D.laws_markDecomp
  rw [markSS_eq a k h1 h0 (by omega), Option.bind_some, markSS_eq b _ h2 (by dsimp only; omega) (by dsimp only; omega)]; rfl
theorem heldDecomp_eq (a b : List (List Int)) (k : Int) (h1 : Sh2 a) (h2 : Sh2 b) (h0 : 0 ≤ k) (h : k + tot a + tot b ≤ 4611686018427387904) :
    D.laws_heldDecomp (marked k a) (marked (k + tot a) b) k = some (k + tot a + tot b) := by
  have := tot_nonneg a; have := tot_nonneg b
  unfold D.laws_heldDecomp
  rw [heldSS_eq a k h1 h0 (by omega), Option.bind_some, heldSS_eq b _ h2 (by omega) (by omega)]
  have d1 : decide (k + tot a < 0) = false := by simp; omega
  have d2 : decide (k + tot a + tot b < 0) = false := by simp; omega
  simp only [d1, d2, cond_false, Option.bind_some]

end Go.Sx

/- DecompBy: the reference's and the program's are one. Plain. -/
namespace Go.Sx
theorem into_elems' {s : Int} (hs : VS s) {v : Nat} (hv : v < 32) : into (elems s) (v : Int) = elems (ior .u32 s (ishl .u32 1 (v : Int))) := by
  refine Inc.ext ((elems_inc _).into _) (elems_inc _) (fun z => ?_)
  rw [mem_into, mem_elems, mem_elems]
  constructor
  · rintro (rfl | ⟨w, h3, h4, rfl⟩)
    · exact ⟨v, hv, by rw [has_ior hs (VS.ishl _ _), has_one hv]; simp, rfl⟩
    · exact ⟨w, h3, by rw [has_ior hs (VS.ishl _ _), h4]; rfl, rfl⟩
  · rintro ⟨w, h3, h4, rfl⟩
    rw [has_ior hs (VS.ishl _ _), has_one hv, Bool.or_eq_true] at h4
    rcases h4 with h4 | h4
    · exact .inr ⟨w, h3, h4, rfl⟩
    · exact .inl (by rw [of_decide_eq_true h4])
theorem nodup_pos {o : List Int} (h : o.Nodup) {i j : Nat} (hi : i < o.length) (hj : j < o.length) (e : o[i] = o[j]) : i = j := by
  rcases Nat.lt_trichotomy i j with c | c | c
  · exact absurd (mem_take_iff.2 ⟨i, hi, c, e⟩) (nodup_iff.1 h j hj)
  · exact c
  · exact absurd (mem_take_iff.2 ⟨j, hj, c, e.symm⟩) (nodup_iff.1 h i hi)
theorem ins_last {l : List Int} {xs : List (List Int)} (h : ∀ x ∈ xs, rowKey x ≤ rowKey l) : ins l xs = xs ++ [l] := by
  have e : insAt l xs = xs.length := by
    unfold insAt
    rw [List.findIdx_eq_length]
    intro x hx
    have := h x hx
    simp; omega
  unfold ins
  rw [e]; simp

/-- the first place behind i whose vertex is in a list; the next place, if the list is empty -/
def nxt (o l : List Int) (i : Nat) : Nat := (i + 1) + (o.drop (i + 1)).findIdx (fun x => decide (l = []) || decide (x ∈ l))
theorem nxt_gt (o l : List Int) (i : Nat) : i < nxt o l i := by unfold nxt; omega
theorem to_loop (o l : List Int) (hl : Sh l) (ho : o.length ≤ 1000000) (i : Nat) (hi : i < o.length) :
    (loopF (σ := Int) (ρ := Int) (fun (x : Int) => (cond ((decide (x < (o.length : Int))) && (decide ((0 : Int) < (l.length : Int)))) ((idx o x).bind fun e => (D.spec_l1Has l e).bind fun y => some (!y)) (some false)).bind fun b => cond b (some (.inl (IntKind.i64.wrap (x + 1)))) (some (.inr x))) ((i + 1 : Nat) : Int)) = some ((nxt o l i : Nat) : Int) := by
  have hk := List.findIdx_le_length (p := fun x => decide (l = []) || decide (x ∈ l)) (xs := o.drop (i + 1))
  have key := loop_to (step := (fun (x : Int) => (cond ((decide (x < (o.length : Int))) && (decide ((0 : Int) < (l.length : Int)))) ((idx o x).bind fun e => (D.spec_l1Has l e).bind fun y => some (!y)) (some false)).bind fun b => cond b (some (.inl (IntKind.i64.wrap (x + 1)))) (some (.inr x)))) (k := fun r => some r) (s0 := ((i + 1 : Nat) : Int)) (fun j => ((i + 1 + j : Nat) : Int)) ((o.drop (i + 1)).findIdx (fun x => decide (l = []) || decide (x ∈ l))) ((nxt o l i : Nat) : Int) rfl (fun j hj => ?_) ?_
  · rw [Option.bind_eq_some_iff] at key
    obtain ⟨a, h1, h2⟩ := key
    cases h2; exact h1
  · have h1 := List.not_of_lt_findIdx hj
    simp only [List.length_drop] at hk
    have hx : i + 1 + j < o.length := by omega
    simp only [Bool.not_eq_true, Bool.or_eq_false_iff, decide_eq_false_iff_not, List.getElem_drop] at h1
    have hp : (decide ((0 : Int) < (l.length : Int))) = true := by
      have := List.length_pos_iff.2 h1.1
      simp; omega
    simp only [dlt hx, hp, Bool.and_self, cond_true, idx_nat hx, Option.bind_some, l1Has_eq _ _ hl, h1.2, decide_false, Bool.not_false, wi (show i + 1 + j < 4611686018427387904 by omega)]
    rfl
  · show _ = some (Sum.inr ((nxt o l i : Nat) : Int))
    have e : ((i + 1 + (o.drop (i + 1)).findIdx (fun x => decide (l = []) || decide (x ∈ l)) : Nat) : Int) = ((nxt o l i : Nat) : Int) := rfl
    rw [e]
    by_cases hx : nxt o l i < o.length
    · have h1 := List.findIdx_getElem (p := fun x => decide (l = []) || decide (x ∈ l)) (xs := o.drop (i + 1)) (w := by unfold nxt at hx; simp; omega)
      simp only [List.getElem_drop, Bool.or_eq_true, decide_eq_true_eq] at h1
      by_cases hn : l = []
      · subst hn; simp
      · have h2 : o[nxt o l i] ∈ l := by rcases h1 with h1 | h1; exact absurd h1 hn; exact h1
        have hp : (decide ((0 : Int) < (l.length : Int))) = true := by
          have := List.length_pos_iff.2 hn
          simp; omega
        simp only [dlt hx, hp, Bool.and_self, cond_true, idx_nat hx, Option.bind_some, l1Has_eq _ _ hl, h2, decide_true, Bool.not_true, cond_false]
    · have : (decide (((nxt o l i : Nat) : Int) < (o.length : Int))) = false := by simp; omega
      simp only [this, Bool.false_and, cond_false, Option.bind_some]

section
variable {g : List (List Int)} {o F L : List Int} (hg : GOk g) (ho : OOk g o) (hF : Fill g o F L)
include hg ho hF
theorem Fill.efF : F = (ef g o g.length).1 ∧ L = (ef g o g.length).2.1 := by
  have h := hF.elim
  rw [elim_ef hg ho] at h
  have := Option.some.inj h
  exact ⟨(congrArg (·.1) this).symm, (congrArg (·.2) this).symm⟩
theorem l7Later_eq : D.spec_l7Later g o = some (L.map elems) := by
  have h16 := hg.n16; have hn1 := hg.n1; have hl := ho.len
  have hLl := hF.lenL
  unfold D.spec_l7Later D.spec_l1Size
  rw [l7Fill_ef hg ho, Option.bind_some, ← (hF.efF hg ho).1, Option.bind_some, makeD_ok (by omega) (by omega), Option.bind_some, Option.bind_some, makeD_ok (by omega) (by omega), Option.bind_some]
  have hG := GOk.grow hF.f hn1 h16
  have hGl : (grow F).length = g.length := by rw [grow_len, hF.f.len]
  refine (loop_to (fun i => (goneOf g.length (ef g o i).2.2, (List.range g.length).map (fun v => if ((v : Nat) : Int) ∈ o.take i then elems (L.getD v 0) else []), (i : Int))) g.length (L.map elems) ?_ (fun i hi => ?_) ?_).trans rfl
  · have : (ef g o 0).2.2 = full g.length := rfl
    rw [this, ← goneOf_full h16]
    congr 2
    apply List.ext_getElem
    · simp
    · intro j h1 h2; simp
  · have h := ef_inv hg ho i (by omega)
    have h' := ef_inv hg ho (i + 1) (by omega)
    have hio : i < o.length := by omega
    have hr := ho.rng _ (List.getElem_mem hio)
    obtain ⟨v, hv⟩ : ∃ v : Nat, o[i] = (v : Int) := ⟨o[i].toNat, by omega⟩
    have hvn : v < g.length := by omega
    have hd : o.getD i 0 = (v : Int) := by rw [getD_lt hio, hv]
    have hs' : (ef g o (i + 1)).2.2 = iandNot .u32 (ef g o i).2.2 (ishl .u32 1 (v : Int)) := by simp only [ef, hd]
    rw [hs'] at h' ⊢
    have hl7 := l7Left_eq (grow F) hG (show v < (grow F).length by omega) (goneOf g.length (iandNot .u32 (ef g o i).2.2 (ishl .u32 1 (v : Int)))) (by rw [goneOf_len]; omega)
    simp only [dlt hio, cond_true, idx_nat hio, hv, Option.bind_some, goneOf_idx hvn, Int.toNat_natCast, goneOf_set h.vsl hvn (show g.length ≤ 32 by omega), hl7, idx_nat (show v < ((List.range g.length).map (fun v => if ((v : Nat) : Int) ∈ o.take i then elems (L.getD v 0) else [])).length by simpa using hvn), wi (show i < 4611686018427387904 by omega)]
    rw [lft_grow hn1 h16 hF.f (VS.iandNot _ _) hvn]
    have hel : iand .u32 (F.getD v 0) (iandNot .u32 (ef g o i).2.2 (ishl .u32 1 (v : Int))) = L.getD v 0 := by
      refine (VS.iand _ _).ext (hF.vsL v hvn) (fun w _ => ?_)
      rw [has_iand (hF.f.vs v hvn) (VS.iandNot _ _), h'.left]
      have hlat := hF.lat i v hi (by rw [List.getElem?_eq_getElem hio, hv]) w
      unfold nb at hlat
      rw [hlat, Bool.eq_iff_iff]
      simp only [Bool.and_eq_true, decide_eq_true_eq]
      exact ⟨fun ⟨a, _, c⟩ => ⟨a, c⟩, fun ⟨a, c⟩ => ⟨a, hF.f.lt v w hvn a, c⟩⟩
    rw [hel]
    congr 4
    apply List.ext_getElem
    · simp
    · intro j h1 h2
      rw [List.getElem_set]
      simp only [List.getElem_map, List.getElem_range]
      have htk : ((j : Int) ∈ o.take (i + 1)) ↔ ((j : Int) ∈ o.take i ∨ j = v) := by
        rw [List.take_succ_eq_append_getElem hio, List.mem_append, hv]; simp [Int.natCast_inj]
      by_cases e : v = j
      · subst e
        rw [if_pos rfl, if_pos (htk.2 (.inr rfl))]
      · rw [if_neg e]
        by_cases hm : (j : Int) ∈ o.take i
        · rw [if_pos hm, if_pos (htk.2 (.inl hm))]
        · rw [if_neg hm, if_neg (fun hh => (htk.1 hh).elim hm (fun e' => e e'.symm))]
  · simp only [hl, dnlt, cond_false]
    congr 2
    apply List.ext_getElem
    · simp [hLl]
    · intro j h1 h2
      simp only [List.getElem_map, List.getElem_range]
      obtain ⟨q, hq, hq2⟩ := place' ho (v := j) (by simpa using h1)
      rw [if_pos, getD_lt (by simpa using h2)]
      rw [← hl, List.take_length]
      exact List.mem_of_getElem? hq2

/-- the later ones of a vertex stand behind it -/
theorem later_pos {i v m : Nat} (hi : o[i]? = some (v : Int)) (hm : m < o.length) (h : o[m] ∈ elems (L.getD v 0)) : i + 1 ≤ m := by
  have hl := ho.len
  obtain ⟨hio, hv⟩ := List.getElem?_eq_some_iff.1 hi
  have hr := ho.rng _ (List.getElem_mem hio)
  obtain ⟨w, _, h2, h3⟩ := mem_elems.1 h
  have hlat := hF.lat i v (by omega) hi w
  unfold nb at hlat
  rw [hlat] at h2
  simp only [Bool.and_eq_true, decide_eq_true_eq] at h2
  apply Classical.byContradiction
  intro hc
  exact h2.2 (mem_take_iff.2 ⟨m, hm, by omega, h3⟩)
theorem later_in {v : Nat} (hv : v < g.length) {x : Int} (h : x ∈ elems (L.getD v 0)) : ∃ m : Nat, ∃ hm : m < o.length, o[m] = x ∧ 0 ≤ x ∧ x < g.length := by
  have hl := ho.len
  obtain ⟨i, h1, h2⟩ := place' ho hv
  obtain ⟨w, _, h3, rfl⟩ := mem_elems.1 h
  have hlat := hF.lat i v h1 h2 w
  unfold nb at hlat
  rw [hlat] at h3
  simp only [Bool.and_eq_true, decide_eq_true_eq] at h3
  have hw := hF.f.lt v w hv h3.1
  obtain ⟨m, h4, h5⟩ := place' ho hw
  obtain ⟨h6, h7⟩ := List.getElem?_eq_some_iff.1 h5
  exact ⟨m, h6, h7, by omega, by omega⟩

noncomputable def bagD (o L : List Int) (i : Nat) : List Int := into (elems (L.getD (o.getD i 0).toNat 0)) (o.getD i 0)
noncomputable def lnkD (o L : List Int) (i : Nat) : List Int := mkLink (i : Int) ((nxt o (elems (L.getD (o.getD i 0).toNat 0)) i : Nat) : Int)
omit hg ho hF in
theorem lnkD_eq (i : Nat) : lnkD o L i = [(i : Int), ((nxt o (elems (L.getD (o.getD i 0).toNat 0)) i : Nat) : Int)] := by
  have := nxt_gt o (elems (L.getD (o.getD i 0).toNat 0)) i
  unfold lnkD mkLink
  rw [show min (i : Int) ((nxt o (elems (L.getD (o.getD i 0).toNat 0)) i : Nat) : Int) = i by omega, show max (i : Int) ((nxt o (elems (L.getD (o.getD i 0).toNat 0)) i : Nat) : Int) = ((nxt o (elems (L.getD (o.getD i 0).toNat 0)) i : Nat) : Int) by omega]
omit hg ho hF in
theorem nxt_le (l : List Int) {i : Nat} (hi : i < o.length) : nxt o l i ≤ o.length := by
  have hk := List.findIdx_le_length (p := fun x => decide (l = []) || decide (x ∈ l)) (xs := o.drop (i + 1))
  simp at hk
  unfold nxt; omega
theorem nxt_lt {i : Nat} (hi : i + 1 < o.length) : nxt o (elems (L.getD (o.getD i 0).toNat 0)) i < o.length := by
  have hio : i < o.length := by omega
  have hl := ho.len
  have hr := ho.rng _ (List.getElem_mem hio)
  obtain ⟨v, hv⟩ : ∃ v : Nat, o[i] = (v : Int) := ⟨o[i].toNat, by omega⟩
  have hvn : v < g.length := by omega
  have hd : o.getD i 0 = (v : Int) := by rw [getD_lt hio, hv]
  rw [hd, Int.toNat_natCast]
  have hin := fun x hx => later_in hg ho hF hvn (x := x) hx
  have hps := fun m hm hh => later_pos hg ho hF (i := i) (v := v) (m := m) (by rw [List.getElem?_eq_getElem hio, hv]) hm hh
  generalize elems (L.getD v 0) = l at hin hps ⊢
  have : (o.drop (i + 1)).findIdx (fun x => decide (l = []) || decide (x ∈ l)) < (o.drop (i + 1)).length := by
    rw [List.findIdx_lt_length]
    by_cases hn : l = []
    · exact ⟨(o.drop (i + 1))[0]'(by simp; omega), List.getElem_mem _, by simp [hn]⟩
    · obtain ⟨x, hx⟩ := List.exists_mem_of_ne_nil _ hn
      obtain ⟨m, hm, hmx, _⟩ := hin x hx
      have hp := hps m hm (by rw [hmx]; exact hx)
      refine ⟨x, ?_, by simp [hx]⟩
      have : (o.drop (i + 1))[m - (i + 1)]'(by simp; omega) = x := by
        rw [List.getElem_drop, ← hmx]; congr 1; omega
      rw [← this]; exact List.getElem_mem _
  unfold nxt
  simp at this
  omega
theorem lnkD_good {i : Nat} (hi : i < o.length) : rowGood (lnkD o L i) := by
  have h1 := nxt_le (o := o) (elems (L.getD (o.getD i 0).toNat 0)) hi
  have h16 := hg.n16; have hl := ho.len
  rw [lnkD_eq]
  refine ⟨rfl, ?_⟩
  simp only [List.getD_cons_zero, List.getD_cons_succ]
  omega
theorem lnkD_le {i j : Nat} (hij : i < j) (hj : j < o.length) : rowKey (lnkD o L i) ≤ rowKey (lnkD o L j) := by
  have h1 := nxt_le (o := o) (elems (L.getD (o.getD i 0).toNat 0)) (show i < o.length by omega)
  have h16 := hg.n16; have hl := ho.len
  rw [lnkD_eq, lnkD_eq]
  unfold rowKey
  simp only [List.getD_cons_zero, List.getD_cons_succ]
  omega
theorem bagD_mask {i v : Nat} (hi : i < o.length) (hv : o[i] = (v : Int)) (hvn : v < g.length) : elems (ior .u32 (L.getD v 0) (ishl .u32 1 (v : Int))) = bagD o L i := by
  have h16 := hg.n16
  unfold bagD
  rw [getD_lt hi, hv, Int.toNat_natCast, into_elems' (hF.vsL v hvn) (by omega)]

theorem spec_DecompBy_ok : D.spec_DecompBy g o = some ((List.range o.length).map (bagD o L), (List.range (o.length - 1)).map (lnkD o L), true) := by
  have h16 := hg.n16; have hl := ho.len; have hn1 := hg.n1
  unfold D.spec_DecompBy
  rw [spec_OrderOk_eq g o hg.sh2 (ho.sh hg), gB_true hg, (ordB_iff g o).2 ho, Option.bind_some, Bool.and_self, Bool.not_true, cond_false, l7Later_eq hg ho hF, Option.bind_some]
  refine (loop_to (fun i => ((i : Int), (List.range i).map (bagD o L), (List.range (min i (o.length - 1))).map (lnkD o L))) o.length ((List.range o.length).map (bagD o L), (List.range (o.length - 1)).map (lnkD o L)) (by simp) (fun i hi => ?_) ?_).trans rfl
  · have hr := ho.rng _ (List.getElem_mem hi)
    obtain ⟨v, hv⟩ : ∃ v : Nat, o[i] = (v : Int) := ⟨o[i].toNat, by omega⟩
    have hvn : v < g.length := by omega
    have hvL : v < L.length := by rw [hF.lenL]; exact hvn
    have hd : o.getD i 0 = (v : Int) := by rw [getD_lt hi, hv]
    have he := elems_len L[v]
    have hsh : Sh (elems L[v]) := by unfold Sh; omega
    have hgL : L.getD v 0 = L[v] := getD_lt hvL 0
    simp only [dlt hi, cond_true, idx_nat hi, hv, Option.bind_some, idx_nat (show v < (L.map elems).length by simpa using hvL), List.getElem_map, l1Copy_eq _ hsh, l1Into_eq _ _ (elems_inc _) (show (elems L[v]).length ≤ 4294967295 by omega)]
    rw [appendD_ok (by simp; omega), Option.bind_some, wi (show i < 4611686018427387904 by omega), to_loop o (elems L[v]) hsh (by omega) i hi, Option.bind_some]
    have eb : bagD o L i = into (elems L[v]) (v : Int) := by unfold bagD; rw [hd, Int.toNat_natCast, hgL]
    by_cases hlast : i + 1 < o.length
    · have hx := nxt_lt hg ho hF hlast
      have el : mkLink (i : Int) ((nxt o (elems L[v]) i : Nat) : Int) = lnkD o L i := by unfold lnkD; rw [hd, Int.toNat_natCast, hgL]
      rw [hd, Int.toNat_natCast, hgL] at hx
      rw [dlt hx, cond_true, l9Link_eq (fun x hx => ?_) (by rw [el]; exact lnkD_good hg ho hF hi) (by simp; omega), Option.bind_some, el, ins_last (fun x hx => ?_)]
      · rw [show min i (o.length - 1) = i by omega, show min (i + 1) (o.length - 1) = i + 1 by omega, List.range_succ, List.map_append, List.map_append, List.map_singleton, List.map_singleton, eb]
      · obtain ⟨j, hj, rfl⟩ := List.mem_map.1 hx
        have := List.mem_range.1 hj
        exact lnkD_le hg ho hF (by omega) hi
      · obtain ⟨j, hj, rfl⟩ := List.mem_map.1 hx
        have := List.mem_range.1 hj
        exact lnkD_good hg ho hF (by omega)
    · have hx : nxt o (elems L[v]) i = o.length := by
        have h1 := nxt_le (o := o) (elems L[v]) hi
        have h2 := nxt_gt o (elems L[v]) i
        omega
      rw [hx, dnlt, cond_false, show min i (o.length - 1) = o.length - 1 by omega, show min (i + 1) (o.length - 1) = o.length - 1 by omega, List.range_succ, List.map_append, List.map_singleton, eb]
  · simp only [dnlt, cond_false]
    rw [show min o.length (o.length - 1) = o.length - 1 by omega]

/-- the places of the vertices -/
theorem places_ok (l0 : List Int) (hl0 : l0.length = g.length) : ∃ P, (loopF (σ := (List Int) × Int) (ρ := ((List Int))) (fun (s_59 : (List Int) × Int) => match s_59 with | (l_62, x_65) => cond (decide (x_65 < (o.length : Int))) ((idx o x_65).bind fun e_86 => (idx l_62 e_86).bind fun e_92 => some (.inl ((l_62.set (Int.toNat e_86) x_65), (IntKind.i64.wrap (x_65 + 1))))) (some (.inr l_62))) (l0, 0)) = some P ∧ P.length = g.length ∧ ∀ i (h : i < o.length), P.getD (o[i]).toNat 0 = (i : Int) := by
  have h16 := hg.n16; have hl := ho.len
  have key := loop_then (step := (fun (s_59 : (List Int) × Int) => match s_59 with | (l_62, x_65) => cond (decide (x_65 < (o.length : Int))) ((idx o x_65).bind fun e_86 => (idx l_62 e_86).bind fun e_92 => some (.inl ((l_62.set (Int.toNat e_86) x_65), (IntKind.i64.wrap (x_65 + 1))))) (some (.inr l_62)))) (s := (l0, 0)) (k := fun r => some r) (Q := fun P : List Int => P.length = g.length ∧ ∀ i (h : i < o.length), P.getD (o[i]).toNat 0 = (i : Int))
    (fun s => ∃ i : Nat, s.2 = (i : Int) ∧ i ≤ o.length ∧ s.1.length = g.length ∧ ∀ j (h : j < o.length), j < i → s.1.getD (o[j]).toNat 0 = (j : Int)) (fun s => o.length - s.2.toNat) (fun P => P.length = g.length ∧ ∀ i (h : i < o.length), P.getD (o[i]).toNat 0 = (i : Int)) ?_ ⟨0, rfl, by omega, hl0, fun j _ h => by omega⟩ (fun r hr => ⟨r, rfl, hr⟩)
  · obtain ⟨y, hy, hq⟩ := key
    rw [Option.bind_eq_some_iff] at hy
    obtain ⟨z, h1, h2⟩ := hy
    cases h2
    exact ⟨_, h1, hq⟩
  · rintro ⟨P, _⟩ ⟨i, rfl, hi, hP, hPp⟩
    dsimp only at hP hPp ⊢
    by_cases hil : i < o.length
    · have hr := ho.rng _ (List.getElem_mem hil)
      obtain ⟨v, hv⟩ : ∃ v : Nat, o[i] = (v : Int) := ⟨o[i].toNat, by omega⟩
      have hvn : v < g.length := by omega
      simp only [dlt hil, cond_true, idx_nat hil, hv, Option.bind_some, idx_nat (show v < P.length by omega), Int.toNat_natCast, wi (show i < 4611686018427387904 by omega)]
      refine ⟨_, rfl, ⟨i + 1, rfl, hil, by simpa using hP, fun j hj hji => ?_⟩, by dsimp only; omega⟩
      dsimp only
      rw [getD_set _ _ _ _ (by omega)]
      have hrj := ho.rng _ (List.getElem_mem hj)
      by_cases e : j = i
      · subst e; rw [hv]; simp
      · rw [if_neg]
        · exact hPp j hj (by omega)
        · intro hc
          have : o[j] = o[i] := by omega
          exact e (nodup_pos ho.nd hj hil this)
    · obtain rfl : i = o.length := by omega
      simp only [dnlt, cond_false]
      exact ⟨_, rfl, hP, fun j hj => hPp j hj hj⟩

/-- the least place of a list -/
theorem least_ok {P l : List Int} {i : Nat} (hi : i < o.length) (hP : P.length = g.length) (hPp : ∀ i (h : i < o.length), P.getD (o[i]).toNat 0 = (i : Int)) (hl32 : l.length ≤ 32)
    (hin : ∀ x ∈ l, ∃ m : Nat, ∃ hm : m < o.length, o[m] = x ∧ 0 ≤ x ∧ x < g.length) (hpos : ∀ m (hm : m < o.length), o[m] ∈ l → i + 1 ≤ m) :
    (loopF (σ := Int × Int) (ρ := (Int)) (fun (s_1068 : Int × Int) => match s_1068 with | (x_1071, x_1072) => cond (decide (x_1072 < (l.length : Int))) ((idx l x_1072).bind fun e_1115 => (cond (x_1072 == 0) (some true) ((idx P e_1115).bind fun e_1138 => some (decide (e_1138 < x_1071)))).bind fun b_1136 => cond b_1136 ((idx P e_1115).bind fun e_1145 => some (.inl (e_1145, (IntKind.i64.wrap (x_1072 + 1))))) (some (.inl (x_1071, (IntKind.i64.wrap (x_1072 + 1)))))) (some (.inr x_1071))) (((i + 1 : Nat) : Int), 0)) = some ((nxt o l i : Nat) : Int) := by
  have key := loop_then (step := (fun (s_1068 : Int × Int) => match s_1068 with | (x_1071, x_1072) => cond (decide (x_1072 < (l.length : Int))) ((idx l x_1072).bind fun e_1115 => (cond (x_1072 == 0) (some true) ((idx P e_1115).bind fun e_1138 => some (decide (e_1138 < x_1071)))).bind fun b_1136 => cond b_1136 ((idx P e_1115).bind fun e_1145 => some (.inl (e_1145, (IntKind.i64.wrap (x_1072 + 1))))) (some (.inl (x_1071, (IntKind.i64.wrap (x_1072 + 1)))))) (some (.inr x_1071)))) (s := (((i + 1 : Nat) : Int), 0)) (k := fun r => some r) (Q := fun x => x = ((nxt o l i : Nat) : Int))
    (fun s => ∃ k : Nat, s.2 = (k : Int) ∧ k ≤ l.length ∧ (k = 0 → s.1 = ((i + 1 : Nat) : Int)) ∧ (0 < k → ∃ m : Nat, s.1 = (m : Int) ∧ (∃ hm : m < o.length, o[m] ∈ l.take k) ∧ ∀ m' (hm' : m' < o.length), o[m'] ∈ l.take k → m ≤ m')) (fun s => l.length - s.2.toNat) (fun x => x = ((nxt o l i : Nat) : Int)) ?_ ⟨0, rfl, by omega, fun _ => rfl, fun h => by omega⟩ (fun r hr => ⟨r, rfl, hr⟩)
  · obtain ⟨y, hy, hq⟩ := key
    rw [Option.bind_eq_some_iff] at hy
    obtain ⟨z, h1, h2⟩ := hy
    cases h2
    rw [h1, hq]
  · rintro ⟨x, _⟩ ⟨k, rfl, hk, h0, h1⟩
    dsimp only at h0 h1 ⊢
    by_cases hkl : k < l.length
    · obtain ⟨m, hm, hmx, hx0, hxg⟩ := hin _ (List.getElem_mem hkl)
      have hidx : idx P l[k] = some (m : Int) := by
        rw [idx_int hx0 (by omega)]
        have := hPp m hm
        rw [hmx, getD_lt (by omega)] at this
        rw [this]
      have hnew : ∀ m' (hm' : m' < o.length), o[m'] ∈ l.take (k + 1) → o[m'] ∈ l.take k ∨ m' = m := fun m' hm' hh => by
        rw [List.take_succ_eq_append_getElem hkl, List.mem_append] at hh
        rcases hh with hh | hh
        · exact .inl hh
        · right
          simp at hh
          rw [← hmx] at hh
          exact nodup_pos ho.nd hm' hm hh
      have hmm : o[m] ∈ l.take (k + 1) := by
        rw [List.take_succ_eq_append_getElem hkl, List.mem_append, hmx]; right; simp
      simp only [dlt hkl, cond_true, idx_nat hkl, Option.bind_some, hidx, wi (show k < 4611686018427387904 by omega)]
      rcases Nat.eq_zero_or_pos k with e | e
      · subst e
        refine ⟨.inl ((m : Int), ((0 + 1 : Nat) : Int)), rfl, ⟨1, rfl, by omega, fun h => by omega, fun _ => ⟨m, rfl, ⟨hm, hmm⟩, fun m' hm' hh => ?_⟩⟩, by dsimp only; omega⟩
        rcases hnew m' hm' hh with h | h
        · simp at h
        · omega
      · have ek : (((k : Nat) : Int) == 0) = false := by simp; omega
        obtain ⟨q, rfl, ⟨hq, hql⟩, hqm⟩ := h1 e
        rw [ek, cond_false, Option.bind_some]
        by_cases hlt : (m : Int) < (q : Int)
        · rw [decide_eq_true hlt, cond_true]
          refine ⟨_, rfl, ⟨k + 1, rfl, hkl, fun h => by omega, fun _ => ⟨m, rfl, ⟨hm, hmm⟩, fun m' hm' hh => ?_⟩⟩, by dsimp only; omega⟩
          rcases hnew m' hm' hh with h | h
          · have := hqm m' hm' h; omega
          · omega
        · rw [decide_eq_false hlt, cond_false]
          refine ⟨_, rfl, ⟨k + 1, rfl, hkl, fun h => by omega, fun _ => ⟨q, rfl, ⟨hq, ?_⟩, fun m' hm' hh => ?_⟩⟩, by dsimp only; omega⟩
          · rw [List.take_succ_eq_append_getElem hkl, List.mem_append]; exact .inl hql
          · rcases hnew m' hm' hh with h | h
            · exact hqm m' hm' h
            · omega
    · obtain rfl : k = l.length := by omega
      simp only [dnlt, cond_false]
      refine ⟨_, rfl, ?_⟩
      show x = _
      by_cases hn : l = []
      · subst hn
        rw [h0 rfl]
        unfold nxt
        cases hd : o.drop (i + 1) with
        | nil => simp
        | cons a t => simp [List.findIdx_cons]
      · obtain ⟨m, rfl, ⟨hm, hml⟩, hmin⟩ := h1 (List.length_pos_iff.2 hn)
        rw [List.take_length] at hml
        simp only [List.take_length] at hmin
        have hmp := hpos m hm hml
        have : (o.drop (i + 1)).findIdx (fun x => decide (l = []) || decide (x ∈ l)) = m - (i + 1) := by
          rw [List.findIdx_eq (by simp; omega)]
          refine ⟨?_, fun j hj => ?_⟩
          · have : (o.drop (i + 1))[m - (i + 1)]'(by simp; omega) = o[m] := by
              rw [List.getElem_drop]; congr 1; omega
            rw [this]; simp [hml]
          · rw [List.getElem_drop]
            simp only [hn, decide_false, Bool.false_or, decide_eq_false_iff_not]
            intro hh
            have := hmin (i + 1 + j) (by omega) hh
            omega
        unfold nxt
        rw [this]
        omega

theorem impl_decompBy_ok : D.impl_decompBy (g.map mk) o = some ((List.range o.length).map (bagD o L), (List.range (o.length - 1)).map (lnkD o L)) := by
  have h16 := hg.n16; have hl := ho.len; have hn1 := hg.n1
  unfold D.impl_decompBy
  rw [hF.elim, Option.bind_some, makeD_ok (by omega) (by omega), Option.bind_some]
  obtain ⟨P, e1, hP, hPp⟩ := places_ok hg ho hF (List.replicate o.length 0) (by simpa using hl)
  rw [e1, Option.bind_some]
  have hsort : sortRows ((List.range (o.length - 1)).map (lnkD o L)) = some ((List.range (o.length - 1)).map (lnkD o L)) := by
    refine sortRows_ok (by simp; omega) (fun x hx => ?_) (List.Perm.refl _) ?_
    · obtain ⟨j, hj, rfl⟩ := List.mem_map.1 hx
      have := List.mem_range.1 hj
      exact lnkD_good hg ho hF (by omega)
    · rw [List.pairwise_map]
      refine List.pairwise_lt_range.imp_of_mem (fun {a b} ha hb hab => ?_)
      have := List.mem_range.1 hb
      exact lnkD_le hg ho hF hab (by omega)
  refine (loop_to (fun i => ((i : Int), (List.range i).map (bagD o L), (List.range i).map (lnkD o L))) (o.length - 1) ((List.range o.length).map (bagD o L), (List.range (o.length - 1)).map (lnkD o L)) (by simp) (fun i hi => ?_) ?_).trans ?_
  · have hio : i < o.length := by omega
    have hr := ho.rng _ (List.getElem_mem hio)
    obtain ⟨v, hv⟩ : ∃ v : Nat, o[i] = (v : Int) := ⟨o[i].toNat, by omega⟩
    have hvn : v < g.length := by omega
    have hvL : v < L.length := by rw [hF.lenL]; exact hvn
    have hd : o.getD i 0 = (v : Int) := by rw [getD_lt hio, hv]
    have hgL : L.getD v 0 = L[v] := getD_lt hvL 0
    have hlast : (((i : Nat) : Int) == IntKind.i64.wrap ((o.length : Int) - 1)) = false := by
      rw [w64 (by omega) (by omega)]; simp; omega
    have hvs := hF.vsL v hvn
    have hbag := bagD_mask hg ho hF hio hv hvn
    rw [hgL] at hvs hbag
    have he := elems_len L[v]
    simp only [dlt hio, cond_true, idx_nat hio, hv, Option.bind_some, idx_nat hvL, impl_one_eq, numbers_eq _ (VS.ior _ _), hbag, hlast, cond_false, list_eq _ hvs]
    rw [appendD_ok (by simp; omega), Option.bind_some, wi (show i < 4611686018427387904 by omega)]
    rw [least_ok hg ho hF hio hP hPp (by omega) (fun x hx => later_in hg ho hF hvn (by rw [hgL]; exact hx)) (fun m hm hh => later_pos hg ho hF (i := i) (v := v) (by rw [List.getElem?_eq_getElem hio, hv]) hm (by rw [hgL]; exact hh)), Option.bind_some, sortedLink_eq, Option.bind_some, appendD_ok (by simp; omega), Option.bind_some]
    have el : mkLink (i : Int) ((nxt o (elems L[v]) i : Nat) : Int) = lnkD o L i := by unfold lnkD; rw [hd, Int.toNat_natCast, hgL]
    rw [el, List.range_succ, List.map_append, List.map_append, List.map_singleton, List.map_singleton]
  · have hio : o.length - 1 < o.length := by omega
    have hr := ho.rng _ (List.getElem_mem hio)
    obtain ⟨v, hv⟩ : ∃ v : Nat, o[o.length - 1] = (v : Int) := ⟨o[o.length - 1].toNat, by omega⟩
    have hvn : v < g.length := by omega
    have hvL : v < L.length := by rw [hF.lenL]; exact hvn
    have hgL : L.getD v 0 = L[v] := getD_lt hvL 0
    have hlast : (((o.length - 1 : Nat) : Int) == IntKind.i64.wrap ((o.length : Int) - 1)) = true := by
      rw [w64 (by omega) (by omega)]; simp; omega
    have hbag := bagD_mask hg ho hF hio hv hvn
    rw [hgL] at hbag
    simp only [dlt hio, cond_true, idx_nat hio, hv, Option.bind_some, idx_nat hvL, impl_one_eq, numbers_eq _ (VS.ior _ _), hbag, hlast]
    rw [appendD_ok (by simp; omega), Option.bind_some]
    have : (List.range o.length).map (bagD o L) = (List.range (o.length - 1)).map (bagD o L) ++ [bagD o L (o.length - 1)] := by
      have e : o.length = (o.length - 1) + 1 := by omega
      conv => lhs; rw [e, List.range_succ, List.map_append, List.map_singleton]
    rw [this]
  · simp only [hsort, Option.bind_some]
theorem impl_DecompBy_ok : D.impl_DecompBy g o = some ((List.range o.length).map (bagD o L), (List.range (o.length - 1)).map (lnkD o L), true) := by
  unfold D.impl_DecompBy
  rw [impl_OrderOk_true hg ho, Option.bind_some, Bool.not_true, cond_false, netsOf_eq g hg, Option.bind_some, narrow_eq o (ho.sh hg), Option.bind_some, impl_decompBy_ok hg ho hF, Option.bind_some]
end
end Go.Sx

/- FnExactDecompBy, plain: the law's own function answers true. -/
namespace Go.Sx
theorem decompBy_both (g : List (List Int)) (o : List Int) (h1 : Sh2 g) (h2 : Sh o) : ∃ r : List (List Int) × List (List Int) × Bool, D.spec_DecompBy g o = some r ∧ D.impl_DecompBy g o = some r ∧ Sh2 r.1 ∧ Sh2 r.2.1 ∧ tot r.1 ≤ 4294967296 ∧ tot r.2.1 ≤ 4294967296 := by
  by_cases hc : gB g && ordB g o
  · have hc' := hc
    rw [Bool.and_eq_true] at hc'
    have hg := (gB_iff g).1 hc'.1
    have ho := (ordB_iff g o).1 hc'.2
    obtain ⟨F, L, hF⟩ := fill_ex hg ho
    have h16 := hg.n16; have hl := ho.len
    refine ⟨_, spec_DecompBy_ok hg ho hF, impl_DecompBy_ok hg ho hF, ?_⟩
    have hb : ∀ x ∈ (List.range o.length).map (bagD o L), (x.length : Int) ≤ 33 := by
      intro x hx
      obtain ⟨i, hi, rfl⟩ := List.mem_map.1 hx
      have h3 := into_len (elems (L.getD (o.getD i 0).toNat 0)) (o.getD i 0)
      have h4 := elems_len (L.getD (o.getD i 0).toNat 0)
      unfold bagD; omega
    have hk : ∀ x ∈ (List.range (o.length - 1)).map (lnkD o L), (x.length : Int) ≤ 2 := by
      intro x hx
      obtain ⟨i, hi, rfl⟩ := List.mem_map.1 hx
      rw [lnkD_eq]; simp
    have t1 := tot_le hb; have t2 := tot_le hk
    have l1 : ((List.range o.length).map (bagD o L)).length = o.length := by simp
    have l2 : ((List.range (o.length - 1)).map (lnkD o L)).length = o.length - 1 := by simp
    rw [l1] at t1; rw [l2] at t2
    dsimp only
    exact ⟨Sh2.of_tot (by unfold Sh; rw [l1]; omega) (by omega), Sh2.of_tot (by unfold Sh; rw [l2]; omega) (by omega), by omega, by omega⟩
  · have hc' : (gB g && ordB g o) = false := by simpa using hc
    refine ⟨([], [], false), ?_, ?_, ⟨by simp [Sh], by simp⟩, ⟨by simp [Sh], by simp⟩, by simp [tot], by simp [tot]⟩
    · unfold D.spec_DecompBy
      rw [spec_OrderOk_eq g o h1 h2, hc']; rfl
    · unfold D.impl_DecompBy
      rw [impl_OrderOk_eq g o h1 h2, hc']; rfl

theorem FnExactDecompBy_true (g : List (List Int)) (o : List Int) (hx : (g.length : Int) ≤ 9223372036854775807) (hx2 : ∀ x ∈ g, (x.length : Int) ≤ 9223372036854775807) (_ : (o.length : Int) ≤ 9223372036854775807) : D.laws_FnExactDecompBy g o = some true := by
  unfold D.laws_FnExactDecompBy
  by_cases h : (1048576 : Int) < o.length
  · simp only [h, decide_true, cond_true]
  · simp only [h, decide_false, cond_false]
    obtain ⟨y, e, hy⟩ := szGraph_eq g 1048576 hx hx2 (by omega) (by omega)
    rw [e, Option.bind_some]
    rcases hy with hy | ⟨hy, hy0⟩
    · simp only [hy, decide_true, cond_true]
    · have hd : decide (y < 0) = false := by simp; omega
      have htn := tot_nonneg g
      have h1 : Sh2 g := Sh2.of_tot (by unfold Sh; omega) (by omega)
      have h2 : Sh o := by unfold Sh; omega
      obtain ⟨r, f1, f2, r1, r2, r3, r4⟩ := decompBy_both g o h1 h2
      have n1 := tot_nonneg r.1; have n2 := tot_nonneg r.2.1
      simp only [hd, cond_false, toGraph_eq g h1, toS_eq o h2, f1, f2, Option.bind_some, eqDecomp_eq _ _ _ _ r1 r2, decide_true, Bool.and_self, Bool.not_true, bne_self_eq_false, Bool.or_false,
        eqGraph_eq g g h1, eqS_eq o o h2, markGraph_eq g 1 h1 (by omega) (by omega)]
      rw [markS_eq o _ h2 (by omega) (by omega)]
      have d1 : decide (1 + tot g + (o.length : Int) < 0) = false := by simp; omega
      have d2 : decide (1 + tot r.1 + tot r.2.1 < 0) = false := by simp; omega
      simp only [Option.bind_some, d1, cond_false, markDecomp_eq r.1 r.2.1 1 r1 r2 (by omega) (by omega), heldDecomp_eq r.1 r.2.1 1 r1 r2 (by omega) (by omega), d2, bne_self_eq_false]
end Go.Sx
