/- Parts of the proof: Tc, Uc, Va, Vc, Td, Ud, Vb, Vd, Wa, Wb, Qg, Wc, Xn, Xo, Xp. -/
import Derived.Test.YtebbefpdncgoiaaDoorCl5
set_option linter.unusedVariables false
set_option linter.unusedSimpArgs false
set_option linter.unusedSectionVars false
/- Orders that take, again and again, who costs least: the program's and the reference's are one. Plain. -/
namespace Go.Sx
structure GQ (n i : Nat) (F o : List Int) (s : Int) : Prop where
  f : FOk F n
  left : SQ n s (n - i)
  len : o.length = i
  rng : ∀ x ∈ o, ∃ v : Nat, x = v ∧ v < n ∧ has s v = false
  nd : o.Nodup
theorem idx_F {F : List Int} {n v : Nat} (h : FOk F n) (hv : v < n) : idx F (v : Int) = some (F.getD v 0) := by
  have := h.len
  rw [idx_nat (by omega), getD_lt (by omega)]
end Go.Sx

/- The greatest cliques: the program finds each of them once. Plain. -/
namespace Go.Sx
/-- neighbours of each other -/
def CQ (F : List Int) (K : Int) : Prop := ∀ u w, has K u = true → has K w = true → u ≠ w → nb F u w = true
/-- and nobody more -/
def MX (F : List Int) (n : Nat) (K : Int) : Prop := CQ F K ∧ ∀ w, w < n → has K w = false → ∃ u, has K u = true ∧ nb F u w = false
/-- a set of vertices -/
def In (n : Nat) (K : Int) : Prop := VS K ∧ ∀ w, has K w = true → w < n
structure Tgt (F : List Int) (n : Nat) (C O K : Int) : Prop where
  ok : In n K
  mx : MX F n K
  sup : ∀ w, has C w = true → has K w = true
  sub : ∀ w, has K w = true → has C w = true ∨ has O w = true

theorem In.lt {n : Nat} {K : Int} (h : In n K) (hn : n ≤ 16) : 0 ≤ K ∧ K < 65536 := by
  obtain ⟨m, rfl, hm⟩ := h.1.nat
  refine ⟨by omega, ?_⟩
  have : m < 2 ^ 16 := by
    apply Nat.lt_pow_two_of_testBit
    intro i hi
    cases hc : m.testBit i
    · rfl
    · have := h.2 i (by rw [has_nat]; exact hc)
      omega
  omega
theorem masks_len {n : Nat} {l : List Int} (hn : n ≤ 16) (h : ∀ K ∈ l, In n K) (hd : l.Nodup) : l.length ≤ 65536 := by
  have := nodup_le (m := (List.range 65536).map Int.ofNat) hd (fun K hK => by
    have := (h K hK).lt hn
    exact List.mem_map.2 ⟨K.toNat, List.mem_range.2 (by omega), by show ((K.toNat : Nat) : Int) = K; omega⟩)
  simpa using this

structure BK (F : List Int) (n : Nat) (C O S : Int) : Prop where
  c : In n C
  o : In n O
  s : In n S
  cq : CQ F C
  cn : ∀ w, w < n → ((has O w = true ∨ has S w = true) ↔ ∀ u, has C u = true → nb F u w = true)
  dis : ∀ w, has O w = true → has S w = false

theorem BK.notin {F : List Int} {n : Nat} {C O S : Int} (hF : FOk F n) (h : BK F n C O S) {w : Nat} (hw : has O w = true) : has C w = false := by
  cases hc : has C w
  · rfl
  · have := (h.cn w (h.o.2 w hw)).1 (.inl hw) w hc
    rw [hF.irr w (h.o.2 w hw)] at this; cases this

theorem grow_ok {F : List Int} {n : Nat} (hn : n ≤ 16) (hF : FOk F n) : ∀ (fuel : Nat) (C O S : Int) (x4 : List Int), (elems O).length < fuel → BK F n C O S → x4.Nodup → (∀ K ∈ x4, In n K) → (∀ K ∈ x4, ¬ Tgt F n C O K) →
    ∃ y, D.L0 fuel F C O S x4 = some y ∧ ∃ R, y = x4 ++ R ∧ (x4 ++ R).Nodup ∧ ∀ K, K ∈ R ↔ Tgt F n C O K
  | 0, _, _, _, _, h, _, _, _, _ => by omega
  | fuel + 1, C, O, S, x4, hf, hB, hd, hi, ht => by
    have hlen := hF.len
    have hx4 := masks_len hn hi hd
    unfold D.L0
    by_cases hO : O = 0
    · subst hO
      have e0 : ((0 : Int) == 0) = true := rfl
      rw [e0, cond_true]
      by_cases hS : S = 0
      · subst hS
        rw [e0, cond_true, appendD_ok (by simp; omega)]
        have hT : Tgt F n C 0 C := ⟨hB.c, ⟨hB.cq, fun w hw hc => by
          apply Classical.byContradiction
          intro hne
          have := (hB.cn w hw).2 (fun u hu => by
            cases h : nb F u w
            · exact absurd ⟨u, hu, h⟩ hne
            · rfl)
          simp [has_zero] at this⟩, fun w h => h, fun w h => .inl h⟩
        refine ⟨_, rfl, [C], rfl, ?_, fun K => ?_⟩
        · rw [List.nodup_append]
          refine ⟨hd, by simp, fun a ha b hb e => ?_⟩
          rw [List.mem_singleton] at hb
          subst hb; subst e
          exact ht a ha hT
        · rw [List.mem_singleton]
          constructor
          · rintro rfl; exact hT
          · intro h
            refine h.ok.1.ext hB.c.1 (fun v _ => ?_)
            rw [Bool.eq_iff_iff]
            refine ⟨fun hv => ?_, h.sup v⟩
            rcases h.sub v hv with h | h
            · exact h
            · rw [has_zero] at h; cases h
      · have e1 : (S == 0) = false := by simpa using hS
        rw [e1, cond_false]
        refine ⟨_, rfl, [], by simp, by simpa using hd, fun K => ?_⟩
        simp only [List.not_mem_nil, false_iff]
        intro h
        have hK : K = C := by
          refine h.ok.1.ext hB.c.1 (fun v _ => ?_)
          rw [Bool.eq_iff_iff]
          refine ⟨fun hv => ?_, h.sup v⟩
          rcases h.sub v hv with h | h
          · exact h
          · rw [has_zero] at h; cases h
        subst hK
        apply hS
        rw [hB.s.1.eq_zero]
        intro w hw
        cases hc : has S w
        · rfl
        · have hwn := hB.s.2 w hc
          have hcn := (hB.cn w hwn).1 (.inr hc)
          have hKw : has K w = false := by
            cases hk : has K w
            · rfl
            · have := hcn w hk
              rw [hF.irr w hwn] at this; cases this
          obtain ⟨u, h1, h2⟩ := h.mx.2 w hwn hKw
          rw [hcn u h1] at h2; cases h2
    · have e1 : (O == 0) = false := by simpa using hO
      rw [e1, cond_false, list_eq O hB.o.1, Option.bind_some]
      have hel := elems_len O
      -- the K of the first ones
      refine loop_then (fun st => ∃ i : Nat, st.2.2.2 = (i : Int) ∧ i ≤ (elems O).length ∧ VS st.1 ∧ VS st.2.1 ∧ (∀ w : Nat, has st.1 w = (has O w && decide ((w : Int) ∉ (elems O).take i))) ∧ (∀ w : Nat, has st.2.1 w = (has S w || decide ((w : Int) ∈ (elems O).take i))) ∧
          ∃ R, st.2.2.1 = x4 ++ R ∧ (x4 ++ R).Nodup ∧ ∀ K, K ∈ R ↔ Tgt F n C O K ∧ ∃ w : Nat, (w : Int) ∈ (elems O).take i ∧ has K w = true) (fun st => (elems O).length - st.2.2.2.toNat)
        (fun r => ∃ R, r = x4 ++ R ∧ (x4 ++ R).Nodup ∧ ∀ K, K ∈ R ↔ Tgt F n C O K) ?_ ⟨0, rfl, by omega, hB.o.1, hB.s.1, fun w => by simp, fun w => by simp, [], by simp, by simpa using hd, fun K => by simp⟩ (fun r hr => ⟨r, rfl, hr⟩)
      rintro ⟨o, s, acc, _⟩ ⟨i, rfl, hil, ho, hs, hho, hhs, R, rfl, hRn, hR⟩
      dsimp only at ho hs hho hhs hRn hR ⊢
      by_cases hlt : i < (elems O).length
      · obtain ⟨v, hv32, hv1, hv2⟩ := mem_elems.1 (List.getElem_mem hlt)
        have hvn := hB.o.2 v hv1
        have hvC := hB.notin hF hv1
        have htk : ∀ w : Nat, ((w : Int) ∈ (elems O).take (i + 1)) ↔ ((w : Int) ∈ (elems O).take i ∨ w = v) := fun w => by
          rw [List.take_succ_eq_append_getElem hlt, List.mem_append, hv2]; simp [Int.natCast_inj]
        have hvt : (v : Int) ∉ (elems O).take i := by rw [← hv2]; exact nodup_iff.1 (elems_inc O).nodup i hlt
        have hle : ∀ w : Nat, (w : Int) ∈ (elems O).take i → has O w = true := fun w hw => (mem_elems_nat hB.o.1).1 (List.mem_of_mem_take hw)
        simp only [dlt hlt, cond_true, idx_nat hlt, hv2, Option.bind_some, impl_one_eq, idx_F hF hvn]
        have hC' : ∀ w, has (ior .u32 C (ishl .u32 1 (v : Int))) w = (has C w || decide (w = v)) := fun w => by rw [has_ior hB.c.1 (VS.ishl _ _), has_one hv32]
        have hO' : ∀ w, has (iand .u32 o (F.getD v 0)) w = (has o w && nb F v w) := fun w => has_iand ho (hF.vs v hvn) w
        have hS' : ∀ w, has (iand .u32 s (F.getD v 0)) w = (has s w && nb F v w) := fun w => has_iand hs (hF.vs v hvn) w
        have hB' : BK F n (ior .u32 C (ishl .u32 1 (v : Int))) (iand .u32 o (F.getD v 0)) (iand .u32 s (F.getD v 0)) := by
          have hcnv := (hB.cn v hvn).1 (.inl hv1)
          refine ⟨⟨VS.ior _ _, fun w hw => ?_⟩, ⟨VS.iand _ _, fun w hw => ?_⟩, ⟨VS.iand _ _, fun w hw => ?_⟩, fun u w hu hw huw => ?_, fun w hw => ?_, fun w hw => ?_⟩
          · rw [hC', Bool.or_eq_true, decide_eq_true_eq] at hw
            rcases hw with h | rfl
            · exact hB.c.2 w h
            · exact hvn
          · rw [hO', Bool.and_eq_true] at hw; exact hF.lt v w hvn hw.2
          · rw [hS', Bool.and_eq_true] at hw; exact hF.lt v w hvn hw.2
          · rw [hC', Bool.or_eq_true, decide_eq_true_eq] at hu hw
            rcases hu with hu | rfl
            · rcases hw with hw | rfl
              · exact hB.cq u w hu hw huw
              · exact hcnv u hu
            · rcases hw with hw | rfl
              · exact hF.sym w u (hB.c.2 w hw) (hcnv w hw)
              · exact absurd rfl huw
          · rw [hO', hS', hho, hhs]
            simp only [Bool.and_eq_true, Bool.or_eq_true, decide_eq_true_eq]
            constructor
            · intro h u hu
              rw [hC', Bool.or_eq_true, decide_eq_true_eq] at hu
              have hos : has O w = true ∨ has S w = true := by
                rcases h with ⟨⟨h, _⟩, _⟩ | ⟨h | h, _⟩
                · exact .inl h
                · exact .inr h
                · exact .inl (hle w h)
              have hvw : nb F v w = true := by rcases h with ⟨_, h⟩ | ⟨_, h⟩ <;> exact h
              rcases hu with hu | rfl
              · exact (hB.cn w hw).1 hos u hu
              · exact hvw
            · intro h
              have hvw : nb F v w = true := h v (by rw [hC']; simp)
              have hos := (hB.cn w hw).2 (fun u hu => h u (by rw [hC', hu]; rfl))
              by_cases hm : (w : Int) ∈ (elems O).take i
              · exact .inr ⟨.inr hm, hvw⟩
              · rcases hos with hos | hos
                · exact .inl ⟨⟨hos, hm⟩, hvw⟩
                · exact .inr ⟨.inl hos, hvw⟩
          · rw [hO', hho] at hw
            simp only [Bool.and_eq_true, decide_eq_true_eq] at hw
            rw [hS', hhs, hB.dis w hw.1.1, decide_eq_false hw.1.2]; rfl
        have hfu : (elems (iand .u32 o (F.getD v 0))).length < fuel := by
          have h1 : ((v : Int) :: elems (iand .u32 o (F.getD v 0))).length ≤ (elems O).length := by
            refine nodup_le (List.nodup_cons.2 ⟨fun hc => ?_, (elems_inc _).nodup⟩) (fun x hx => ?_)
            · rw [mem_elems_nat (VS.iand _ _), hO', hF.irr v hvn] at hc; simp at hc
            · rcases List.mem_cons.1 hx with rfl | hx
              · exact (mem_elems_nat hB.o.1).2 hv1
              · obtain ⟨w, _, h2, rfl⟩ := mem_elems.1 hx
                rw [hO', hho] at h2
                simp only [Bool.and_eq_true] at h2
                exact (mem_elems_nat hB.o.1).2 h2.1.1
          rw [List.length_cons] at h1; omega
        have hsubT : ∀ K, Tgt F n (ior .u32 C (ishl .u32 1 (v : Int))) (iand .u32 o (F.getD v 0)) K → Tgt F n C O K ∧ has K v = true ∧ ∀ w : Nat, (w : Int) ∈ (elems O).take i → has K w = false := fun K hK => by
          refine ⟨⟨hK.ok, hK.mx, fun w hw => hK.sup w (by rw [hC', hw]; rfl), fun w hw => ?_⟩, hK.sup v (by rw [hC']; simp), fun w hw => ?_⟩
          · rcases hK.sub w hw with h | h
            · rw [hC', Bool.or_eq_true, decide_eq_true_eq] at h
              rcases h with h | rfl
              · exact .inl h
              · exact .inr hv1
            · rw [hO', hho] at h
              simp only [Bool.and_eq_true] at h
              exact .inr h.1.1
          · cases hk : has K w
            · rfl
            · exfalso
              rcases hK.sub w hk with h | h
              · rw [hC', Bool.or_eq_true, decide_eq_true_eq] at h
                rcases h with h | rfl
                · rw [hB.notin hF (hle w hw)] at h; cases h
                · exact hvt hw
              · rw [hO', hho] at h
                simp only [Bool.and_eq_true, decide_eq_true_eq] at h
                exact h.1.2 hw
        have hRi : ∀ K ∈ x4 ++ R, In n K := fun K hK => by
          rcases List.mem_append.1 hK with h | h
          · exact hi K h
          · exact ((hR K).1 h).1.ok
        obtain ⟨y, e2, R2, rfl, hn2, hm2⟩ := grow_ok hn hF fuel _ _ _ (x4 ++ R) hfu hB' hRn hRi (fun K hK hT => by
          obtain ⟨k1, k2, k3⟩ := hsubT K hT
          rcases List.mem_append.1 hK with h | h
          · exact ht K h k1
          · obtain ⟨_, w, hw1, hw2⟩ := (hR K).1 h
            rw [k3 w hw1] at hw2; cases hw2)
        rw [e2, Option.bind_some, wi (show i < 4611686018427387904 by omega)]
        refine ⟨_, rfl, ⟨i + 1, rfl, by omega, VS.iandNot _ _, VS.ior _ _, fun w => ?_, fun w => ?_, R ++ R2, by rw [List.append_assoc], by rw [← List.append_assoc]; exact hn2, fun K => ?_⟩, by dsimp only; omega⟩
        · dsimp only
          rw [has_iandNot ho (VS.ishl _ _), has_one hv32, hho]
          have : decide ((w : Int) ∉ (elems O).take (i + 1)) = (decide ((w : Int) ∉ (elems O).take i) && !decide (w = v)) := by
            rw [Bool.eq_iff_iff]; simp only [decide_eq_true_eq, Bool.and_eq_true, Bool.not_eq_true', decide_eq_false_iff_not, htk, not_or]
          rw [this, Bool.and_assoc]
        · dsimp only
          rw [has_ior hs (VS.ishl _ _), has_one hv32, hhs]
          have : decide ((w : Int) ∈ (elems O).take (i + 1)) = (decide ((w : Int) ∈ (elems O).take i) || decide (w = v)) := by
            rw [Bool.eq_iff_iff]; simp only [decide_eq_true_eq, Bool.or_eq_true, htk]
          rw [this, Bool.or_assoc]
        · rw [List.mem_append, hR, hm2]
          constructor
          · rintro (⟨h1, w, hw1, hw2⟩ | h)
            · exact ⟨h1, w, (htk w).2 (.inl hw1), hw2⟩
            · obtain ⟨k1, k2, _⟩ := hsubT K h
              exact ⟨k1, v, (htk v).2 (.inr rfl), k2⟩
          · rintro ⟨h1, w, hw1, hw2⟩
            by_cases hex : ∃ w : Nat, (w : Int) ∈ (elems O).take i ∧ has K w = true
            · exact .inl ⟨h1, hex⟩
            · right
              have hno : ∀ w : Nat, (w : Int) ∈ (elems O).take i → has K w = false := fun w hw => by
                cases hk : has K w
                · rfl
                · exact absurd ⟨w, hw, hk⟩ hex
              have hKv : has K v = true := by
                rcases (htk w).1 hw1 with h | rfl
                · rw [hno w h] at hw2; cases hw2
                · exact hw2
              refine ⟨h1.ok, h1.mx, fun u hu => ?_, fun u hu => ?_⟩
              · rw [hC', Bool.or_eq_true, decide_eq_true_eq] at hu
                rcases hu with hu | rfl
                · exact h1.sup u hu
                · exact hKv
              · rw [hC', hO', hho]
                simp only [Bool.or_eq_true, Bool.and_eq_true, decide_eq_true_eq]
                by_cases huv : u = v
                · exact .inl (.inr huv)
                · rcases h1.sub u hu with h | h
                  · exact .inl (.inl h)
                  · refine .inr ⟨⟨h, fun hm => ?_⟩, h1.mx.1 v u hKv hu (fun e => huv e.symm)⟩
                    rw [hno u hm] at hu; cases hu
      · obtain rfl : i = (elems O).length := by omega
        simp only [dnlt, cond_false]
        refine ⟨_, rfl, R, rfl, hRn, fun K => ?_⟩
        rw [hR, List.take_length]
        constructor
        · exact fun h => h.1
        · intro h
          refine ⟨h, ?_⟩
          -- the set is not C: there is one more
          obtain ⟨b, hb32, hb1, hb2, _⟩ := least_spec hB.o.1 hO
          have hbn := hB.o.2 b hb1
          apply Classical.byContradiction
          intro hne
          have hKC : ∀ w, has K w = true → has C w = true := fun w hw => by
            rcases h.sub w hw with h | h
            · exact h
            · exact absurd ⟨w, (mem_elems_nat hB.o.1).2 h, hw⟩ hne
          have hKb : has K b = false := by
            cases hk : has K b
            · rfl
            · have := hB.notin hF hb1
              rw [hKC b hk] at this; cases this
          obtain ⟨u, h1, h2⟩ := h.mx.2 b hbn hKb
          have := (hB.cn b hbn).1 (.inl hb1) u (hKC u h1)
          rw [this] at h2; cases h2

theorem recFuel_33 : 33 ≤ recFuel := by have := recFuel_big; omega
/-- the program's list of the greatest cliques -/
theorem cliquesOf_ok {F : List Int} {n : Nat} (h1 : 1 ≤ n) (hn : n ≤ 16) (hF : FOk F n) : ∃ l, D.K0 F = some l ∧ l.Pairwise (fun a b => lkey a < lkey b) ∧ ∀ K, K ∈ l ↔ In n K ∧ MX F n K := by
  have hlen := hF.len
  unfold D.K0 D.k0
  rw [nets_all_full, Option.bind_some, hlen]
  have hel := elems_len (full n)
  have h33 := recFuel_33
  obtain ⟨y, e, R, hy, hd, hR⟩ := grow_ok hn hF recFuel 0 (full n) 0 [] (by omega) ⟨⟨VS.zero, fun w hw => by rw [has_zero] at hw; cases hw⟩, ⟨full_vs n, fun w hw => by rw [has_full hn] at hw; exact of_decide_eq_true hw⟩, ⟨VS.zero, fun w hw => by rw [has_zero] at hw; cases hw⟩,
    fun u w hu => (by rw [has_zero] at hu; cases hu), fun w hw => ⟨fun _ u hu => (by rw [has_zero] at hu; cases hu), fun _ => .inl (by rw [has_full hn]; exact decide_eq_true hw)⟩, fun w _ => has_zero w⟩ (by simp) (by simp) (by simp)
  rw [List.nil_append] at hd hy
  subst hy
  have hT : ∀ K, Tgt F n 0 (full n) K ↔ In n K ∧ MX F n K := fun K => ⟨fun h => ⟨h.ok, h.mx⟩, fun ⟨h1, h2⟩ => ⟨h1, h2, fun w hw => (by rw [has_zero] at hw; cases hw), fun w hw => .inr (by rw [has_full hn]; exact decide_eq_true (h1.2 w hw))⟩⟩
  rw [e, Option.bind_some, se_impl_vset_impl_compareSets]
  obtain ⟨l', e2, hp, hs⟩ := sorted_rise byLex (fun x y => lkey_inj) y (fun K hK => ((hT K).1 ((hR K).1 hK)).1.1) hd (by
    have := masks_len hn (fun K hK => ((hT K).1 ((hR K).1 hK)).1) hd
    omega)
  refine ⟨l', by rw [show DG.Sort D.b y = some l' from e2]; rfl, hs, fun K => ?_⟩
  rw [hp.mem_iff, hR, hT]

theorem rise_nodup {k : Int → Int} {l : List Int} (h : l.Pairwise (fun a b => k a < k b)) : l.Nodup := List.Pairwise.imp (fun h e => by subst e; omega) h

end Go.Sx

/- What the reference draws from bytes: graphs, right or wrong, orders, sets. Plain. -/
namespace Go.Sx
/-- a draw: something, and the bytes with a place in them -/
def Dw {α : Type} (b : List Int) (P : α → Prop) (e : Option (α × List Int × Int × Int)) : Prop := ∃ y, e = some y ∧ (P y.1 ∧ y.2.1 = b ∧ DK b y.2.2.1)
theorem Dw.then {α β : Type} {b : List Int} {P : α → Prop} {e : Option (α × List Int × Int × Int)} {k : α × List Int × Int × Int → Option β} {Q : β → Prop} (h : Dw b P e)
    (hk : ∀ a i z, P a → DK b i → ∃ y, k (a, b, i, z) = some y ∧ Q y) : ∃ y, e.bind k = some y ∧ Q y := by
  obtain ⟨⟨a, b', i, z⟩, rfl, h1, h2, h3⟩ := h
  dsimp only at h1 h2 h3
  subst h2
  exact hk a i z h1 h3

/-- few rows, and few in each -/
def Few (g : List (List Int)) : Prop := g.length ≤ 17 ∧ ∀ r ∈ g, r.length ≤ 17
theorem Few.sh2 {g : List (List Int)} (h : Few g) : Sh2 g := ⟨by have := h.1; unfold Sh; omega, fun r hr => by have := h.2 r hr; unfold Sh; omega⟩
theorem Few.set {g : List (List Int)} (h : Few g) (k : Nat) {r : List Int} (hr : r.length ≤ 17) : Few (g.set k r) := by
  refine ⟨by have := h.1; simpa using this, fun x hx => ?_⟩
  rcases List.mem_or_eq_of_mem_set hx with hx | rfl
  · exact h.2 x hx
  · exact hr

end Go.Sx

/- The reference's greatest cliques are the program's. Plain. -/
namespace Go.Sx
theorem elems_mk {n : Nat} {x : List Int} (hn : n ≤ 16) (hi : Inc x) (hr : ∀ z ∈ x, 0 ≤ z ∧ z < n) : elems (mk x) = x := by
  have h32 : ∀ z ∈ x, 0 ≤ z ∧ z < 32 := fun z hz => by have := hr z hz; omega
  refine Inc.ext (elems_inc _) hi (fun z => ?_)
  rw [mem_elems]
  constructor
  · rintro ⟨v, _, h, rfl⟩
    rw [has_mk h32] at h
    exact of_decide_eq_true h
  · intro hz
    have := h32 z hz
    refine ⟨z.toNat, by omega, ?_, by omega⟩
    rw [has_mk h32, show ((z.toNat : Nat) : Int) = z by omega]
    exact decide_eq_true hz

theorem cz_app : ∀ s a b : List Int, cz (s ++ a) (s ++ b) = cz a b
  | [], _, _ => rfl
  | c :: s, a, b => by
    rw [List.cons_append, List.cons_append, cz, if_neg (by omega), if_neg (by omega), cz_app s a b]
theorem cz_head {a b : Int} (x y : List Int) (h : a < b) : cz (a :: x) (b :: y) < 0 := by
  rw [cz, if_pos h]; decide
theorem cz_nodup {L : List (List Int)} (h : L.Pairwise fun a b => cz a b < 0) : L.Nodup := List.Pairwise.imp (fun h e => by
  subst e
  rw [(cz_zero _ _).2 rfl] at h; omega) h

def Cq (g : List (List Int)) (x : List Int) : Prop := ∀ u w : Nat, (u : Int) ∈ x → (w : Int) ∈ x → u ≠ w → adj g u w
/-- a greatest clique, as a list -/
structure Fin' (g : List (List Int)) (x : List Int) : Prop where
  inc : Inc x
  rng : ∀ z ∈ x, 0 ≤ z ∧ z < g.length
  cq : Cq g x
  mx : ∀ w, w < g.length → ∃ u : Nat, (u : Int) ∈ x ∧ ¬ adj g u w
/-- one that has the set, and else of what is left -/
def Sol (g : List (List Int)) (set left x : List Int) : Prop := ∃ y, x = set ++ y ∧ (∀ z ∈ y, z ∈ left) ∧ Fin' g x
structure SK (g : List (List Int)) (set left out : List Int) : Prop where
  inc : Inc (set ++ left)
  r1 : ∀ z ∈ set ++ left, 0 ≤ z ∧ z < g.length
  r2 : ∀ z ∈ out, 0 ≤ z ∧ z < g.length
  cq : Cq g set
  cn : ∀ w : Nat, w < g.length → (((w : Int) ∈ left ∨ (w : Int) ∈ out) ↔ ∀ u : Nat, (u : Int) ∈ set → adj g u w)
  len : out.length + left.length ≤ 16

theorem inc_len {n : Nat} {x : List Int} (hi : Inc x) (hr : ∀ z ∈ x, 0 ≤ z ∧ z < n) : x.length ≤ n := by
  have := nodup_le (m := (List.range n).map Int.ofNat) hi.nodup (fun z hz => by
    have := hr z hz
    exact List.mem_map.2 ⟨z.toNat, List.mem_range.2 (by omega), by show ((z.toNat : Nat) : Int) = z; omega⟩)
  simpa using this

theorem sols_len {g : List (List Int)} (hn : g.length ≤ 16) {L : List (List Int)} (h : ∀ x ∈ L, Fin' g x) (hp : L.Pairwise fun a b => cz a b < 0) : L.length ≤ 65536 := by
  have h1 : (L.map mk).Nodup := by
    unfold List.Nodup
    rw [List.pairwise_map]
    refine List.Pairwise.imp_of_mem (fun {a b} ha hb hab e => hab ?_) (cz_nodup hp)
    rw [← elems_mk hn (h a ha).inc (h a ha).rng, ← elems_mk hn (h b hb).inc (h b hb).rng, e]
  have h2 := masks_len (n := g.length) (l := L.map mk) hn (fun K hK => by
    obtain ⟨x, hx, rfl⟩ := List.mem_map.1 hK
    refine ⟨VS.mk _, fun w hw => ?_⟩
    rw [has_mk (fun z hz => by have := (h x hx).rng z hz; omega)] at hw
    have := (h x hx).rng _ (of_decide_eq_true hw)
    omega) h1
  simpa using h2

/-- the state of the next round -/
theorem SK.next {g : List (List Int)} (hg : GOk g) {set left out : List Int} (h : SK g set left out) {i v : Nat} (hi : i < left.length) (hv : left[i] = (v : Int)) :
    SK g (set ++ [(v : Int)]) ((left.drop (i + 1)).filter fun x => decide (x ∈ row g v)) ((out ++ left.take i).filter fun x => decide (x ∈ row g v)) ∧
    (∀ x, Sol g (set ++ [(v : Int)]) ((left.drop (i + 1)).filter fun x => decide (x ∈ row g v)) x ↔ ∃ y, x = set ++ (v : Int) :: y ∧ (∀ z ∈ y, z ∈ left) ∧ Fin' g x) := by
  have hvm : (v : Int) ∈ left := by rw [← hv]; exact List.getElem_mem hi
  have hvr := h.r1 _ (List.mem_append.2 (.inr hvm))
  have hvn : v < g.length := by omega
  have hinc := List.pairwise_append.1 h.inc
  have hsplit : left = left.take i ++ (v : Int) :: left.drop (i + 1) := by
    rw [← hv, List.getElem_cons_drop, List.take_append_drop]
  have hdrop : ∀ z, z ∈ left.drop (i + 1) ↔ z ∈ left ∧ (v : Int) < z := fun z => by
    have h2 := hinc.2.1
    rw [hsplit] at h2
    have h3 := List.pairwise_append.1 h2
    have h4 := List.pairwise_cons.1 h3.2.1
    constructor
    · intro hz
      exact ⟨List.mem_of_mem_drop hz, h4.1 z hz⟩
    · rintro ⟨h5, h6⟩
      rw [hsplit] at h5
      rcases List.mem_append.1 h5 with h5 | h5
      · have := h3.2.2 z h5 (v : Int) (by simp); omega
      · rcases List.mem_cons.1 h5 with rfl | h5
        · omega
        · exact h5
  refine ⟨⟨?_, ?_, ?_, ?_, ?_, ?_⟩, fun x => ?_⟩
  · rw [List.append_assoc]
    refine List.pairwise_append.2 ⟨hinc.1, ?_, fun a ha b hb => ?_⟩
    · rw [List.singleton_append]
      refine List.pairwise_cons.2 ⟨fun z hz => ((hdrop z).1 (List.mem_filter.1 hz).1).2, ?_⟩
      exact List.Pairwise.filter _ (List.Pairwise.sublist (List.drop_sublist _ _) hinc.2.1)
    · refine hinc.2.2 a ha b ?_
      rw [List.singleton_append] at hb
      rcases List.mem_cons.1 hb with rfl | hb
      · exact hvm
      · exact ((hdrop b).1 (List.mem_filter.1 hb).1).1
  · intro z hz
    rcases List.mem_append.1 hz with hz | hz
    · rcases List.mem_append.1 hz with hz | hz
      · exact h.r1 z (List.mem_append.2 (.inl hz))
      · simp at hz; subst hz; exact hvr
    · exact h.r1 z (List.mem_append.2 (.inr ((hdrop z).1 (List.mem_filter.1 hz).1).1))
  · intro z hz
    rcases List.mem_append.1 (List.mem_filter.1 hz).1 with hz | hz
    · exact h.r2 z hz
    · exact h.r1 z (List.mem_append.2 (.inr (List.mem_of_mem_take hz)))
  · intro u w hu hw hne
    have key : ∀ a : Nat, (a : Int) ∈ set → adj g a v := fun a ha => (h.cn v hvn).1 (.inl hvm) a ha
    rcases List.mem_append.1 hu with hu1 | hu1 <;> rcases List.mem_append.1 hw with hw1 | hw1
    · exact h.cq u w hu1 hw1 hne
    · have e : w = v := by simp at hw1; omega
      rw [e]; exact key u hu1
    · have e : u = v := by simp at hu1; omega
      rw [e]
      have := h.r1 _ (List.mem_append.2 (.inl hw1))
      exact hg.sym w v (by omega) (key w hw1)
    · simp at hu1 hw1; omega
  · intro w hw
    have h1 := h.cn w hw
    have hself : (w : Int) ∈ row g v → w ≠ v := fun ha e => by subst e; exact hg.irr w hw ha
    constructor
    · intro hm u hu
      have hm' : ((w : Int) ∈ left ∨ (w : Int) ∈ out) ∧ (w : Int) ∈ row g v := by
        rcases hm with hm | hm
        · obtain ⟨a1, a2⟩ := List.mem_filter.1 hm
          exact ⟨.inl ((hdrop _).1 a1).1, of_decide_eq_true a2⟩
        · obtain ⟨a1, a2⟩ := List.mem_filter.1 hm
          refine ⟨?_, of_decide_eq_true a2⟩
          rcases List.mem_append.1 a1 with a1 | a1
          · exact .inr a1
          · exact .inl (List.mem_of_mem_take a1)
      rcases List.mem_append.1 hu with hu | hu
      · exact h1.1 hm'.1 u hu
      · have : u = v := by simp at hu; omega
        subst this; exact hm'.2
    · intro hA
      have hav : (w : Int) ∈ row g v := hA v (by simp)
      have hne := hself hav
      rcases h1.2 (fun u hu => hA u (List.mem_append.2 (.inl hu))) with hm | hm
      · rw [hsplit] at hm
        rcases List.mem_append.1 hm with hm | hm
        · exact .inr (List.mem_filter.2 ⟨List.mem_append.2 (.inr hm), decide_eq_true hav⟩)
        · rcases List.mem_cons.1 hm with hm | hm
          · omega
          · exact .inl (List.mem_filter.2 ⟨hm, decide_eq_true hav⟩)
      · exact .inr (List.mem_filter.2 ⟨List.mem_append.2 (.inl hm), decide_eq_true hav⟩)
  · have a1 : ((left.drop (i + 1)).filter fun x => decide (x ∈ row g v)).length ≤ (left.drop (i + 1)).length := List.length_filter_le _ _
    have a2 : ((out ++ left.take i).filter fun x => decide (x ∈ row g v)).length ≤ (out ++ left.take i).length := List.length_filter_le _ _
    have := h.len
    simp only [List.length_drop, List.length_append, List.length_take] at a1 a2
    omega
  · constructor
    · rintro ⟨y, rfl, hy, hf⟩
      exact ⟨y, by simp, fun z hz => ((hdrop z).1 (List.mem_filter.1 (hy z hz)).1).1, hf⟩
    · rintro ⟨y, rfl, hy, hf⟩
      refine ⟨y, by simp, fun z hz => ?_, hf⟩
      have hz2 := hf.rng z (by simp [hz])
      have h6 := (List.pairwise_cons.1 (List.pairwise_append.1 hf.inc).2.1).1 z hz
      refine List.mem_filter.2 ⟨(hdrop z).2 ⟨hy z hz, h6⟩, decide_eq_true ?_⟩
      have := hf.cq v z.toNat (by simp) (by rw [show ((z.toNat : Nat) : Int) = z by omega]; simp [hz]) (by omega)
      unfold adj at this
      rwa [show ((z.toNat : Nat) : Int) = z by omega] at this

theorem l8R_ok {g : List (List Int)} (hg : GOk g) : ∀ (fuel : Nat) (set left out : List Int), left.length < fuel → SK g set left out →
    ∃ L, D.D fuel g set left out = some L ∧ (∀ x, x ∈ L ↔ Sol g set left x) ∧ L.Pairwise fun a b => cz a b < 0
  | 0, _, left, _, h, _ => by omega
  | fuel + 1, set, left, out, hfu, h => by
    have h16 := hg.n16
    unfold D.D
    have hsl := inc_len (n := g.length) h.inc h.r1
    rw [List.length_append] at hsl
    have hol := h.len
    by_cases hb : left = [] ∧ out = []
    · obtain ⟨rfl, rfl⟩ := hb
      refine ⟨[set], rfl, fun x => ?_, by simp⟩
      rw [List.mem_singleton]
      have hf : Fin' g set := by
        refine ⟨by have := h.inc; rwa [List.append_nil] at this, fun z hz => h.r1 z (by simp [hz]), h.cq, fun w hw => ?_⟩
        apply Classical.byContradiction
        intro hc
        have := (h.cn w hw).2 (fun u hu => Classical.byContradiction fun hn => hc ⟨u, hu, hn⟩)
        simp at this
      constructor
      · rintro rfl; exact ⟨[], by simp, by simp, hf⟩
      · rintro ⟨y, rfl, hy, _⟩
        cases y with
        | nil => simp
        | cons z y => have := hy z (by simp); simp at this
    · have e0 : (((left.length : Int) == 0) && ((out.length : Int) == 0)) = false := by
        rw [Bool.eq_false_iff]
        intro hc
        simp only [Bool.and_eq_true, beq_iff_eq] at hc
        exact hb ⟨List.length_eq_zero_iff.1 (by omega), List.length_eq_zero_iff.1 (by omega)⟩
      rw [e0, cond_false]
      have hnot : ∀ x, Sol g set left x ↔ ∃ j, ∃ hj : j < left.length, ∃ y, x = set ++ left[j] :: y ∧ (∀ z ∈ y, z ∈ left) ∧ Fin' g x := fun x => by
        constructor
        · rintro ⟨y, rfl, hy, hf⟩
          cases y with
          | nil =>
            exfalso
            have hex : ∃ w : Nat, w < g.length ∧ ((w : Int) ∈ left ∨ (w : Int) ∈ out) := by
              cases hl : left with
              | cons a l =>
                have := h.r1 a (by simp [hl])
                exact ⟨a.toNat, by omega, .inl (by rw [show ((a.toNat : Nat) : Int) = a by omega]; simp)⟩
              | nil =>
                cases ho : out with
                | nil => exact absurd ⟨hl, ho⟩ hb
                | cons a l =>
                  have := h.r2 a (by simp [ho])
                  exact ⟨a.toNat, by omega, .inr (by rw [show ((a.toNat : Nat) : Int) = a by omega]; simp)⟩
            obtain ⟨w, hw, hm⟩ := hex
            obtain ⟨u, hu, hn⟩ := hf.mx w hw
            rw [List.append_nil] at hu
            exact hn ((h.cn w hw).1 hm u hu)
          | cons z y =>
            obtain ⟨j, hj, e⟩ := List.getElem_of_mem (hy z (by simp))
            exact ⟨j, hj, y, by rw [e], fun t ht => hy t (by simp [ht]), hf⟩
        · rintro ⟨j, hj, y, rfl, hy, hf⟩
          refine ⟨_, rfl, fun z hz => ?_, hf⟩
          rcases List.mem_cons.1 hz with rfl | hz
          · exact List.getElem_mem hj
          · exact hy z hz
      refine loop_then (fun s => ∃ i : Nat, s.2 = (i : Int) ∧ i ≤ left.length ∧ (∀ x, x ∈ s.1 ↔ ∃ j, ∃ hj : j < left.length, j < i ∧ ∃ y, x = set ++ left[j] :: y ∧ (∀ z ∈ y, z ∈ left) ∧ Fin' g x) ∧ s.1.Pairwise fun a b => cz a b < 0)
        (fun s => left.length - s.2.toNat) (fun L => (∀ x, x ∈ L ↔ Sol g set left x) ∧ L.Pairwise fun a b => cz a b < 0) ?_ ⟨0, rfl, by omega, fun x => ⟨fun hx => by simp at hx, fun ⟨j, _, hj, _⟩ => by omega⟩, by simp⟩ (fun L hL => ⟨L, rfl, hL⟩)
      rintro ⟨fd, _⟩ ⟨i, rfl, hi, hfd, hpw⟩
      dsimp only at hfd hpw ⊢
      by_cases hil : i < left.length
      · have hr := h.r1 _ (List.mem_append.2 (.inr (List.getElem_mem hil)))
        obtain ⟨v, hv⟩ : ∃ v : Nat, left[i] = (v : Int) := ⟨left[i].toNat, by omega⟩
        have hvn : v < g.length := by omega
        obtain ⟨hsk, hsol⟩ := h.next hg hil hv
        have hdl : ((left.drop (i + 1)).filter fun x => decide (x ∈ row g v)).length ≤ (left.drop (i + 1)).length := List.length_filter_le _ _
        rw [List.length_drop] at hdl
        obtain ⟨L, e1, hL, hLp⟩ := l8R_ok hg fuel _ _ _ (by omega) hsk
        have hrow := hg.row_len hvn
        have hS : ∀ l : List Int, l.length ≤ 64 → Sh l := fun l hl => by unfold Sh; omega
        have c1 : D.h set = some set := l1Copy_eq _ (hS _ (by omega))
        have c2 : D.h out = some out := l1Copy_eq _ (hS _ (by omega))
        have c3 : appendD set [(v : Int)] = some (set ++ [(v : Int)]) := appendD_ok (by simp; omega)
        have c4 : appendD out (left.take i) = some (out ++ left.take i) := appendD_ok (by simp; omega)
        have c5 := l8Meet_eq (left.drop (i + 1)) (row g v) (hS _ (by simp; omega)) (hS _ (by omega))
        have c6 := l8Meet_eq (out ++ left.take i) (row g v) (hS _ (by simp; omega)) (hS _ (by omega))
        have hfdF : ∀ x ∈ fd, Fin' g x := fun x hx => by
          obtain ⟨_, _, _, _, _, _, hf⟩ := (hfd x).1 hx
          exact hf
        have hLF : ∀ x ∈ L, Fin' g x := fun x hx => by
          obtain ⟨_, _, _, hf⟩ := (hL x).1 hx
          exact hf
        have n1 := sols_len h16 hfdF hpw
        have n2 := sols_len h16 hLF hLp
        have c7 : appendD fd L = some (fd ++ L) := appendD_ok (by omega)
        simp only [dlt hil, cond_true, idx_nat hil, hv, Option.bind_some, wi (show i < 4611686018427387904 by omega), sliceD_post (show i + 1 ≤ left.length by omega), sliceD_pre (show i ≤ left.length by omega), idx_row hvn, c1, c2, c3, c4, c5, c6, e1, c7]
        refine ⟨_, rfl, ⟨i + 1, rfl, by omega, fun x => ?_, ?_⟩, by dsimp only; omega⟩
        · dsimp only
          rw [List.mem_append, hfd, hL, hsol]
          constructor
          · rintro (⟨j, hj, hji, hx⟩ | hx)
            · exact ⟨j, hj, by omega, hx⟩
            · exact ⟨i, hil, by omega, by rw [hv]; exact hx⟩
          · rintro ⟨j, hj, hji, hx⟩
            by_cases he : j = i
            · subst he
              rw [hv] at hx
              exact .inr hx
            · exact .inl ⟨j, hj, by omega, hx⟩
        · dsimp only
          refine List.pairwise_append.2 ⟨hpw, hLp, fun a ha b hb' => ?_⟩
          obtain ⟨j, hj, hji, y, rfl, _⟩ := (hfd a).1 ha
          obtain ⟨y', rfl, _⟩ := (hsol b).1 ((hL b).1 hb')
          rw [cz_app]
          refine cz_head _ _ ?_
          rw [← hv]
          exact List.pairwise_iff_getElem.1 (List.pairwise_append.1 h.inc).2.1 j i hj hil hji
      · obtain rfl : i = left.length := by omega
        simp only [dnlt, cond_false]
        refine ⟨_, rfl, fun x => ?_, hpw⟩
        rw [hfd, hnot]
        exact ⟨fun ⟨j, hj, _, hx⟩ => ⟨j, hj, hx⟩, fun ⟨j, hj, hx⟩ => ⟨j, hj, hj, hx⟩⟩

/-! ### as masks -/
theorem fin_mx {g : List (List Int)} (hg : GOk g) {x : List Int} (h : Fin' g x) : In g.length (mk x) ∧ MX (g.map mk) g.length (mk x) := by
  have h16 := hg.n16
  have hm : ∀ w : Nat, has (mk x) w = true ↔ (w : Int) ∈ x := fun w => by
    rw [has_mk (fun z hz => by have := h.rng z hz; omega)]; simp
  have hl : ∀ w : Nat, (w : Int) ∈ x → w < g.length := fun w hw => by have := h.rng _ hw; omega
  refine ⟨⟨VS.mk _, fun w hw => hl w ((hm w).1 hw)⟩, fun u w hu hw hne => ?_, fun w hw _ => ?_⟩
  · exact (nb_mk hg (hl u ((hm u).1 hu))).2 (h.cq u w ((hm u).1 hu) ((hm w).1 hw) hne)
  · obtain ⟨u, hu, hn⟩ := h.mx w hw
    refine ⟨u, (hm u).2 hu, ?_⟩
    rw [Bool.eq_false_iff]
    intro hc
    exact hn ((nb_mk hg (hl u hu)).1 hc)
theorem mx_fin {g : List (List Int)} (hg : GOk g) {K : Int} (hI : In g.length K) (h : MX (g.map mk) g.length K) : Fin' g (elems K) := by
  have hm : ∀ w : Nat, (w : Int) ∈ elems K ↔ has K w = true := fun w => mem_elems_nat hI.1
  refine ⟨elems_inc _, fun z hz => ?_, fun u w hu hw hne => ?_, fun w hw => ?_⟩
  · obtain ⟨v, _, h2, rfl⟩ := mem_elems.1 hz
    have := hI.2 v h2
    omega
  · have hu' := (hm u).1 hu
    exact (nb_mk hg (hI.2 u hu')).1 (h.1 u w hu' ((hm w).1 hw) hne)
  · cases hc : has K w
    · obtain ⟨u, hu, hn⟩ := h.2 w hw hc
      refine ⟨u, (hm u).2 hu, fun ha => ?_⟩
      rw [(nb_mk hg (hI.2 u hu)).2 ha] at hn; cases hn
    · exact ⟨w, (hm w).2 hc, hg.irr w hw⟩

/-- the greatest cliques, in order -/
structure GC (g : List (List Int)) (l : List Int) : Prop where
  up : l.Pairwise fun a b => lkey a < lkey b
  mem : ∀ K, K ∈ l ↔ In g.length K ∧ MX (g.map mk) g.length K

theorem CliquesOf_all {g : List (List Int)} (hg : GOk g) : ∃ l, D.K0 (g.map mk) = some l ∧ l.length ≤ 65536 ∧ D.e1 g = some (l.map elems) ∧ D.c0 g = some (l.map elems) ∧ GC g l := by
  have h16 := hg.n16
  obtain ⟨l, e1, hup, hmem⟩ := cliquesOf_ok hg.n1 h16 (FOk.of hg)
  have hGC : GC g l := ⟨hup, hmem⟩
  have hvs : ∀ s ∈ l, VS s := fun s hs => ((hmem s).1 hs).1.1
  have hll := masks_len h16 (fun K hK => ((hmem K).1 hK).1) (rise_nodup hup)
  refine ⟨l, e1, by omega, ?_, ?_, hGC⟩
  · unfold D.e1
    rw [impl_GraphOk_eq g hg.sh2, gB_true hg, Option.bind_some, Bool.not_true, cond_false, netsOf_eq g hg, Option.bind_some, e1, Option.bind_some, results_eq l (by unfold Sh; omega) hvs]; rfl
  · unfold D.c0 D.g D.e
    rw [spec_GraphOk_eq g hg.sh2, gB_true hg, Option.bind_some, Bool.not_true, cond_false, Option.bind_some, l1All_eq g.length (by omega), Option.bind_some]
    have hrg : ∀ z, z ∈ (List.range g.length).map Int.ofNat ↔ 0 ≤ z ∧ z < g.length := fun z => by
      rw [List.mem_map]
      constructor
      · rintro ⟨v, hv, rfl⟩
        have := List.mem_range.1 hv
        exact ⟨Int.natCast_nonneg v, by show (v : Int) < _; omega⟩
      · intro h
        exact ⟨z.toNat, List.mem_range.2 (by omega), by show ((z.toNat : Nat) : Int) = z; omega⟩
    have hinc : Inc ((List.range g.length).map Int.ofNat) := by
      unfold Inc
      rw [List.pairwise_map]
      exact List.Pairwise.imp (fun {a b} h => by show (a : Int) < (b : Int); omega) List.pairwise_lt_range
    have h33 := recFuel_33
    obtain ⟨L, e2, hL, hLp⟩ := l8R_ok hg recFuel [] ((List.range g.length).map Int.ofNat) [] (by simp; omega) ⟨hinc, fun z hz => (hrg z).1 hz, by simp, fun u w hu => by simp at hu, fun w hw => ⟨fun _ u hu => by simp at hu, fun _ => .inl ((hrg _).2 (by omega))⟩, by simp; omega⟩
    have hLF : ∀ x, x ∈ L ↔ Fin' g x := fun x => by
      rw [hL]
      constructor
      · rintro ⟨y, rfl, _, hf⟩; exact hf
      · intro hf
        exact ⟨x, rfl, fun z hz => (hrg z).2 (hf.rng z hz), hf⟩
    have hem : ∀ x ∈ L, elems (mk x) = x := fun x hx => elems_mk h16 ((hLF x).1 hx).inc ((hLF x).1 hx).rng
    have hLm : L.map mk = l := by
      refine rise_unique (k := lkey) ?_ hup (fun K => ?_)
      · rw [List.pairwise_map]
        refine List.Pairwise.imp_of_mem (fun {a b} ha hb hab => ?_) hLp
        have fa := (hLF a).1 ha; have fb := (hLF b).1 hb
        have la := inc_len fa.inc fa.rng; have lb := inc_len fb.inc fb.rng
        unfold lkey
        rw [hem a ha, hem b hb]
        exact (lk_cmp 32 a b (by omega) (by omega) (fun z hz => by have := fa.rng z hz; omega) (fun z hz => by have := fb.rng z hz; omega)).1 hab
      · rw [List.mem_map, hmem]
        constructor
        · rintro ⟨x, hx, rfl⟩
          exact fin_mx hg ((hLF x).1 hx)
        · rintro ⟨hI, hM⟩
          exact ⟨elems K, (hLF _).2 (mx_fin hg hI hM), mk_elems hI.1⟩
    have hLe : L = l.map elems := by
      rw [← hLm, List.map_map]
      have : L.map (elems ∘ mk) = L.map id := List.map_congr_left (fun x hx => hem x hx)
      rw [this, List.map_id]
    rw [e2, Option.bind_some, Option.bind_some, hLe]
end Go.Sx

/- 'laws.FnOrders' comes to true. Plain. -/
namespace Go.Sx
/-- pairs of a set that are no neighbours -/
def mis (F : List Int) (n : Nat) (S : Int) : Nat := S2 n (fun u w => has S u && (has S w && (decide (w < u) && !nb F w u)))
/-! ### both greedy orders -/
def cd (F : List Int) (s v : Int) : Int := ((elems (iand .u32 (F.getD v.toNat 0) s)).length : Int)
def cf (n : Nat) (F : List Int) (s v : Int) : Int := (mis F n (iand .u32 (F.getD v.toNat 0) s) : Int)
section
variable {g : List (List Int)} (hg : GOk g)
include hg
theorem OOk.shl {o : List Int} (ho : OOk g o) : Sh o := ho.sh hg
end
end Go.Sx

/- Sets as 64-bit numbers, as the reference has them. Plain. -/
namespace Go.Sx
/-- a set of at most 16 -/
def S16 (s : Int) : Prop := 0 ≤ s ∧ s < 65536
theorem S16.vs {s : Int} (h : S16 s) : VS s := ⟨h.1, by have := h.2; omega⟩
theorem S16.nat {s : Int} (h : S16 s) : ∃ n : Nat, s = n ∧ n < 65536 := ⟨s.toNat, by have := h.1; omega, by have := h.1; have := h.2; omega⟩
theorem S16.lt {s : Int} (h : S16 s) {v : Nat} (hv : has s v = true) : v < 16 := by
  obtain ⟨n, rfl, hn⟩ := h.nat
  rw [has_nat] at hv
  have := Nat.ge_two_pow_of_testBit hv
  apply Classical.byContradiction
  intro hc
  have h2 : 2 ^ 16 ≤ 2 ^ v := Nat.pow_le_pow_right (by omega) (by omega)
  omega
theorem In.of {n i : Nat} (h : i < 2 ^ n) (hn : n ≤ 16) : In n (i : Int) := by
  have : 2 ^ n ≤ 2 ^ 16 := Nat.pow_le_pow_right (by omega) hn
  refine ⟨⟨by omega, by omega⟩, fun w hw => ?_⟩
  rw [has_nat] at hw
  have := Nat.ge_two_pow_of_testBit hw
  apply Classical.byContradiction
  intro hc
  have h2 : 2 ^ n ≤ 2 ^ w := Nat.pow_le_pow_right (by omega) (by omega)
  omega
end Go.Sx

/- A graph whose vertices are renamed by an order; 'laws.FnSetsOk' comes to true. Plain. -/
namespace Go.Sx
end Go.Sx

/- 'laws.FnCliques' comes to true. Plain. -/
namespace Go.Sx
end Go.Sx

/- Prunes of a graph: the program accepts what the reference accepts. Plain. -/
namespace Go.Sx
end Go.Sx

/- Lists of prunes: accepted alike; what grows by them. Plain. -/
namespace Go.Sx
end Go.Sx

/- The exact laws' own helpers in closed form: copies, equality, sizes, marks. Plain. -/
namespace Go.Sx
end Go.Sx

/- What grows by prunes: the program's graph is the reference's. Plain. -/
namespace Go.Sx
theorem nets_join_ok {n : Nat} (hn : n ≤ 16) {X : List Int} (hl : X.length = n) (hV : ∀ u, u < n → VS (X.getD u 0)) {v t : Nat} (hv : v < n) (ht : t < n) (hvt : v ≠ t) :
    ∃ y, D.Y X (v : Int) (t : Int) = some y ∧ (y.length = n ∧ (∀ u, u < n → VS (y.getD u 0)) ∧ ∀ u w, u < n → nb y u w = (nb X u w || (decide (u = v) && decide (w = t)) || (decide (u = t) && decide (w = v)))) := by
  have hx : ∀ k, k < n → idx X (k : Int) = some (X.getD k 0) := fun k hk => by rw [idx_nat (by omega), getD_lt (by omega)]
  refine ⟨(X.set v (ior .u32 (X.getD v 0) (ishl .u32 1 (t : Int)))).set t (ior .u32 (X.getD t 0) (ishl .u32 1 (v : Int))), ?_, by simp [hl], fun u hu => ?_, fun u w hu => ?_⟩
  · unfold D.Y
    have e1 : idx (X.set v (ior .u32 (X.getD v 0) (ishl .u32 1 (t : Int)))) (t : Int) = some (X.getD t 0) := by
      rw [idx_nat (by simp; omega), List.getElem_set_ne hvt]
      exact congrArg some (getD_lt (by omega) 0).symm
    simp only [hx v hv, Option.bind_some, impl_one_eq, Int.toNat_natCast, e1]
  · rw [List.getD_eq_getElem?_getD, List.getElem?_set]
    by_cases h : t = u
    · rw [if_pos h, if_pos (by simp; omega)]; exact VS.ior _ _
    · rw [if_neg h, List.getElem?_set]
      by_cases h2 : v = u
      · rw [if_pos h2, if_pos (by omega)]; exact VS.ior _ _
      · rw [if_neg h2, ← List.getD_eq_getElem?_getD]; exact hV u hu
  · unfold nb
    rw [List.getD_eq_getElem?_getD, List.getElem?_set]
    by_cases h : t = u
    · subst h
      rw [if_pos rfl, if_pos (by simp; omega), Option.getD_some, has_ior (hV _ hu) (VS.ishl _ _), has_one (by omega)]
      have : decide (t = v) = false := decide_eq_false (fun e => hvt e.symm)
      rw [this]; simp
    · rw [if_neg h, List.getElem?_set]
      have e2 : decide (u = t) = false := decide_eq_false (fun e => h e.symm)
      by_cases h2 : v = u
      · subst h2
        rw [if_pos rfl, if_pos (by omega), Option.getD_some, has_ior (hV _ hu) (VS.ishl _ _), has_one (by omega), e2]; simp
      · rw [if_neg h2, ← List.getD_eq_getElem?_getD, e2, decide_eq_false (fun e => h2 e.symm)]; simp

end Go.Sx

/- What two permutations cross: the program's crossings, the reference's graph of them. Plain. -/
namespace Go.Sx
/-- a permutation of the numbers below n -/
structure PK (n : Nat) (o : List Int) : Prop where
  len : o.length = n
  rng : ∀ x ∈ o, 0 ≤ x ∧ x < n
  nd : o.Nodup
/-- a number's place -/
def pl (o : List Int) (v : Nat) : Nat := o.idxOf (v : Int)
theorem PK.mem {n : Nat} {o : List Int} (h : PK n o) {v : Nat} (hv : v < n) : (v : Int) ∈ o := by
  by_cases hc : (v : Int) ∈ o
  · exact hc
  · have := nodup_le (l := (v : Int) :: o) (m := (List.range n).map Int.ofNat) (List.nodup_cons.2 ⟨hc, h.nd⟩) (fun x hx => by
      have hx' : 0 ≤ x ∧ x < n := by
        rcases List.mem_cons.1 hx with rfl | hx
        · omega
        · exact h.rng x hx
      exact List.mem_map.2 ⟨x.toNat, List.mem_range.2 (by omega), by show ((x.toNat : Nat) : Int) = x; omega⟩)
    have hl := h.len
    simp at this; omega
theorem PK.pl_lt {n : Nat} {o : List Int} (h : PK n o) {v : Nat} (hv : v < n) : pl o v < n := by
  have := List.idxOf_lt_length_iff.2 (h.mem hv)
  have hl := h.len
  unfold pl; omega
theorem PK.pl_get {n : Nat} {o : List Int} (h : PK n o) {v : Nat} (hv : v < n) (hl : pl o v < o.length) : o[pl o v] = (v : Int) := by
  unfold pl; exact List.getElem_idxOf _
theorem PK.pl_of {n : Nat} {o : List Int} (h : PK n o) {i v : Nat} (hi : i < o.length) (e : o[i] = (v : Int)) : pl o v = i := by
  have hv : v < n := by have := h.rng _ (List.getElem_mem hi); omega
  have hl := h.pl_lt hv
  have h2 := h.pl_get hv (by rw [h.len]; exact hl)
  have hl' : pl o v < o.length := by rw [h.len]; exact hl
  have hnd := List.pairwise_iff_getElem.1 h.nd
  rcases Nat.lt_trichotomy (pl o v) i with c | c | c
  · exact absurd (h2.trans e.symm) (hnd _ _ hl' hi c)
  · exact c
  · exact absurd (h2.trans e.symm).symm (hnd _ _ hi hl' c)
theorem PK.pl_inj {n : Nat} {o : List Int} (h : PK n o) {u v : Nat} (hu : u < n) (hv : v < n) (e : pl o u = pl o v) : u = v := by
  have h1 := h.pl_get hu (by rw [h.len]; exact h.pl_lt hu)
  have h2 := h.pl_get hv (by rw [h.len]; exact h.pl_lt hv)
  have h3 : o[pl o u]'(by rw [h.len]; exact h.pl_lt hu) = o[pl o v]'(by rw [h.len]; exact h.pl_lt hv) := by simp only [e]
  rw [h1, h2] at h3
  omega
theorem PK.at {n : Nat} {o : List Int} (h : PK n o) {i : Nat} (hi : i < o.length) : ∃ v : Nat, o[i] = (v : Int) ∧ v < n ∧ pl o v = i := by
  have := h.rng _ (List.getElem_mem hi)
  have e : o[i] = ((o[i].toNat : Nat) : Int) := by omega
  exact ⟨o[i].toNat, e, by omega, h.pl_of hi e⟩

theorem getD_setI {l : List Int} {i j : Nat} {x : Int} (hi : i < l.length) : (l.set i x).getD j 0 = if j = i then x else l.getD j 0 := by
  rw [List.getD_eq_getElem?_getD, List.getElem?_set]
  by_cases h : i = j
  · subst h; rw [if_pos rfl, if_pos hi, if_pos rfl]; rfl
  · rw [if_neg h, if_neg (fun e => h e.symm), ← List.getD_eq_getElem?_getD]

theorem placesIn_ok {n : Nat} (h1 : 1 ≤ n) (h16 : n ≤ 16) {o : List Int} (h : PK n o) : ∃ y, D.F o = some y ∧ (y.2 = true ∧ y.1.length = n ∧ ∀ v, v < n → y.1.getD v 0 = (pl o v : Int)) := by
  have hl := h.len
  obtain ⟨y, e1, e2, e3⟩ := sorted_spec o (by omega)
  have hyl := e2.length_eq
  have hset : setB y (o.length : Int) = true := by
    rw [setB_iff]
    refine ⟨sorted_inc e3 (e2.nodup_iff.2 h.nd), fun x hx => ?_⟩
    have := h.rng x (e2.mem_iff.1 hx)
    omega
  unfold D.F
  rw [show decide ((o.length : Int) < 1) = false from decide_eq_false (by omega), show decide ((16 : Int) < (o.length : Int)) = false from decide_eq_false (by omega)]
  simp only [Bool.or_false, cond_false, e1, Option.bind_some]
  rw [increasing_eq y _ (by unfold Sh; omega) (by omega) (by omega), Option.bind_some, Option.bind_some, hset, Bool.not_true, cond_false, makeD_ok (by omega) (by omega), Option.bind_some]
  refine loop_then (fun s => ∃ i : Nat, s.2 = (i : Int) ∧ i ≤ o.length ∧ s.1.length = n ∧ ∀ v, v < n → pl o v < i → s.1.getD v 0 = (pl o v : Int)) (fun s => o.length - s.2.toNat)
    (fun r => r.length = n ∧ ∀ v, v < n → r.getD v 0 = (pl o v : Int)) ?_ ⟨0, rfl, by omega, by simp [hl], fun v _ h => by omega⟩ (fun r hr => ⟨_, rfl, rfl, hr.1, hr.2⟩)
  rintro ⟨l, _⟩ ⟨i, rfl, hi, hll, hv⟩
  dsimp only at hll hv ⊢
  by_cases hil : i < o.length
  · obtain ⟨v, hov, hvn, hpv⟩ := h.at hil
    simp only [dlt hil, cond_true, idx_nat hil, hov, Option.bind_some, idx_nat (show v < l.length by omega), Int.toNat_natCast, wi (show i < 4611686018427387904 by omega)]
    refine ⟨_, rfl, ⟨i + 1, rfl, by omega, by simp [hll], fun u hu hp => ?_⟩, by dsimp only; omega⟩
    dsimp only
    rw [getD_setI (by omega)]
    by_cases huv : u = v
    · rw [if_pos huv, huv, hpv]
    · rw [if_neg huv]
      refine hv u hu ?_
      have : pl o u ≠ i := fun e => huv (h.pl_inj hu hvn (by rw [e, hpv]))
      omega
  · obtain rfl : i = o.length := by omega
    simp only [dnlt, cond_false]
    exact ⟨_, rfl, hll, fun v hvn => hv v hvn (by have := h.pl_lt hvn; omega)⟩

/-- do they cross -/
def XX (a b : List Int) (u v : Nat) : Bool := decide (pl a u < pl a v) != decide (pl b u < pl b v)
theorem XX_comm {n : Nat} {a b : List Int} (ha : PK n a) (hb : PK n b) {u v : Nat} (hu : u < n) (hv : v < n) (huv : u ≠ v) : XX a b u v = XX a b v u := by
  have h1 : pl a u ≠ pl a v := fun e => huv (ha.pl_inj hu hv e)
  have h2 : pl b u ≠ pl b v := fun e => huv (hb.pl_inj hu hv e)
  unfold XX
  rw [show decide (pl a v < pl a u) = !decide (pl a u < pl a v) by rw [Bool.eq_iff_iff]; simp; omega, show decide (pl b v < pl b u) = !decide (pl b u < pl b v) by rw [Bool.eq_iff_iff]; simp; omega]
  cases decide (pl a u < pl a v) <;> cases decide (pl b u < pl b v) <;> rfl

theorem dl_cast {i j : Nat} : decide ((i : Int) < (j : Int)) = decide (i < j) := by rw [Bool.eq_iff_iff]; simp

/-- the neighbours are those that cross -/
def NX (a b : List Int) (n : Nat) (F : List Int) : Prop := ∀ u w, u < n → nb F u w = (decide (w < n) && !decide (u = w) && XX a b u w)

theorem crossings_ok {n : Nat} (h1 : 1 ≤ n) (h16 : n ≤ 16) {a b : List Int} (ha : PK n a) (hb : PK n b) : ∃ y, D.o a b = some y ∧ (y.2 = true ∧ FOk y.1 n ∧ NX a b n y.1) := by
  have hla := ha.len; have hlb := hb.len
  obtain ⟨⟨P, t⟩, e1, rfl, hPl, hP⟩ := placesIn_ok h1 h16 ha
  obtain ⟨⟨Q, t⟩, e2, rfl, hQl, hQ⟩ := placesIn_ok h1 h16 hb
  dsimp only at hPl hP hQl hQ
  unfold D.o
  rw [e1, Option.bind_some, e2, Option.bind_some]
  have e3 : ((a.length : Int) != (b.length : Int)) = false := by rw [hla, hlb]; simp
  simp only [Bool.not_true, Bool.or_false, e3, cond_false]
  rw [makeD_ok (by omega) (by omega), Option.bind_some]
  have hPi : ∀ v, v < n → idx P (v : Int) = some (pl a v : Int) := fun v hv => by rw [idx_nat (by omega), ← hP v hv, getD_lt (by omega)]
  have hQi : ∀ v, v < n → idx Q (v : Int) = some (pl b v : Int) := fun v hv => by rw [idx_nat (by omega), ← hQ v hv, getD_lt (by omega)]
  refine loop_then (fun s => ∃ v : Nat, s.2 = (v : Int) ∧ v ≤ n ∧ s.1.length = n ∧ (∀ u, u < n → VS (s.1.getD u 0)) ∧ ∀ u w, u < n → nb s.1 u w = ((decide (u < v) && decide (w < v)) && !decide (u = w) && XX a b u w)) (fun s => n - s.2.toNat)
    (fun r => FOk r n ∧ NX a b n r) ?_ ⟨0, rfl, by omega, by simp [hla], fun u hu => ?_, fun u w hu => ?_⟩ (fun r hr => ⟨_, rfl, rfl, hr.1, hr.2⟩)
  · rintro ⟨F, _⟩ ⟨v, rfl, hv, hFl, hFv, hF⟩
    dsimp only at hFl hFv hF ⊢
    rw [hPl]
    by_cases hvn : v < n
    · rw [dlt hvn, cond_true]
      refine loop_then (fun s => ∃ t : Nat, s.2 = (t : Int) ∧ t ≤ v ∧ s.1.length = n ∧ (∀ u, u < n → VS (s.1.getD u 0)) ∧ ∀ u w, u < n → nb s.1 u w = (((decide (u < v) && decide (w < v)) || (decide (u = v) && decide (w < t)) || (decide (w = v) && decide (u < t))) && !decide (u = w) && XX a b u w)) (fun s => v - s.2.toNat)
        (fun r => r.length = n ∧ (∀ u, u < n → VS (r.getD u 0)) ∧ ∀ u w, u < n → nb r u w = ((decide (u < v + 1) && decide (w < v + 1)) && !decide (u = w) && XX a b u w)) ?_ ⟨0, rfl, by omega, hFl, hFv, fun u w hu => ?_⟩ (fun r hr => ⟨_, rfl, ⟨v + 1, ?_, by omega, hr.1, hr.2.1, hr.2.2⟩, ?_⟩)
      · rintro ⟨F, _⟩ ⟨t, rfl, ht, hFl, hFv, hF⟩
        dsimp only at hFl hFv hF ⊢
        by_cases htv : t < v
        · rw [dlt htv, cond_true, hPi v hvn, Option.bind_some, hPi t (by omega), Option.bind_some, hQi v hvn, Option.bind_some, hQi t (by omega), Option.bind_some, dl_cast, dl_cast]
          have hw : IntKind.i64.wrap ((t : Int) + 1) = ((t + 1 : Nat) : Int) := wi (by omega)
          have hx : XX a b v t = (decide (pl a v < pl a t) != decide (pl b v < pl b t)) := rfl
          rw [← hx, hw]
          have key : ∀ F' : List Int, (∀ u w, u < n → nb F' u w = (nb F u w || ((decide (u = v) && decide (w = t)) || (decide (u = t) && decide (w = v))) && XX a b v t)) → ∀ u w, u < n → nb F' u w = (((decide (u < v) && decide (w < v)) || (decide (u = v) && decide (w < t + 1)) || (decide (w = v) && decide (u < t + 1))) && !decide (u = w) && XX a b u w) := by
            intro F' h' u w hu
            rw [h' u w hu, hF u w hu]
            by_cases c1 : u = v ∧ w = t
            · obtain ⟨rfl, rfl⟩ := c1
              simp [show ¬ u = w by omega]
            · by_cases c2 : u = t ∧ w = v
              · obtain ⟨rfl, rfl⟩ := c2
                rw [XX_comm ha hb hvn hu (by omega)]
                simp [show ¬ u = w by omega]
              · have e1 : (decide (u = v) && decide (w = t) || decide (u = t) && decide (w = v)) = false := by
                  rw [Bool.eq_false_iff]; simp only [ne_eq, Bool.or_eq_true, Bool.and_eq_true, decide_eq_true_eq]; omega
                rw [e1, Bool.false_and, Bool.or_false]
                congr 2
                rw [Bool.eq_iff_iff]
                simp only [Bool.or_eq_true, Bool.and_eq_true, decide_eq_true_eq]
                omega
          cases hc : XX a b v t
          · rw [cond_false]
            exact ⟨_, rfl, ⟨t + 1, rfl, by omega, hFl, hFv, key F (fun u w hu => by rw [hc]; simp)⟩, by dsimp only; omega⟩
          · rw [cond_true]
            obtain ⟨y, e, k1, k2, k3⟩ := nets_join_ok h16 hFl hFv hvn (show t < n by omega) (by omega)
            rw [e, Option.bind_some]
            refine ⟨_, rfl, ⟨t + 1, rfl, by omega, k1, k2, key y (fun u w hu => ?_)⟩, by dsimp only; omega⟩
            rw [hc, k3 u w hu, Bool.and_true, Bool.or_assoc]
        · obtain rfl : t = v := by omega
          simp only [dnlt, cond_false]
          refine ⟨_, rfl, hFl, hFv, fun u w hu => ?_⟩
          rw [hF u w hu]
          by_cases c : u = w
          · subst c; simp
          · congr 2
            rw [Bool.eq_iff_iff]
            simp only [Bool.or_eq_true, Bool.and_eq_true, decide_eq_true_eq]
            omega
      · dsimp only
        rw [hF u w hu]
        simp
      · exact wi (by omega)
      · dsimp only
        rw [wi (by omega)]
        omega
    · obtain rfl : v = n := by omega
      simp only [dnlt, cond_false]
      have hNX : NX a b v F := fun u w hu => by
        rw [hF u w hu, decide_eq_true hu, Bool.true_and]
      refine ⟨_, rfl, ⟨hFl, hFv, fun u w hu h => ?_, fun u hu => ?_, fun u w hu h => ?_⟩, hNX⟩
      · rw [hNX u w hu] at h
        simp only [Bool.and_eq_true, decide_eq_true_eq] at h
        exact h.1.1
      · rw [hNX u u hu]; simp
      · rw [hNX u w hu] at h
        simp only [Bool.and_eq_true, decide_eq_true_eq, Bool.not_eq_true', decide_eq_false_iff_not] at h
        rw [hNX w u h.1.1, XX_comm ha hb h.1.1 hu (fun e => h.1.2 e.symm), h.2]
        simp [hu, show ¬ w = u from fun e => h.1.2 e.symm]
  · rw [getD_lt (by simp; omega)]
    simp only [List.getElem_replicate]
    exact VS.zero
  · dsimp only
    unfold nb
    rw [getD_lt (by simp; omega)]
    simp [has_zero]

/-! ### the reference -/
theorem l15Line_ok {n : Nat} (h1 : 1 ≤ n) (h16 : n ≤ 16) {o : List Int} (h : PK n o) : D.j o = some true := by
  have hl := h.len
  unfold D.j
  rw [l1In_eq, Option.bind_some, decide_eq_true (show (1 : Int) ≤ (o.length : Int) by omega), decide_eq_true (show (o.length : Int) ≤ 16 by omega)]
  simp only [Bool.and_self, Bool.not_true, cond_false]
  refine (loop_allb o.length (fun _ => true) false (fun i hi => ?_) ?_ rfl rfl).trans (by simp)
  · have hr := h.rng _ (List.getElem_mem hi)
    have hw : IntKind.i64.wrap ((o.length : Int) - 1) = (o.length : Int) - 1 := w64 (by omega) (by omega)
    have e1 : (decide (0 ≤ o[i]) && decide (o[i] ≤ (o.length : Int) - 1)) = true := by simp; omega
    rw [dlt hi, cond_true, idx_nat hi, Option.bind_some, hw, l1In_eq, e1, Option.bind_some, Bool.not_true, cond_false, sliceD_pre (by omega), Option.bind_some, Option.bind_some, l1Has_eq _ _ (by unfold Sh; simp; omega), decide_eq_false (nodup_iff.1 h.nd i hi), Option.bind_some, Option.bind_some, cond_false, wi (by omega), if_pos rfl]
  · simp only [dnlt, cond_false]
theorem l15Place_ok {n : Nat} (h16 : n ≤ 16) {o : List Int} (h : PK n o) {v : Nat} (hv : v < n) : D.n o (v : Int) = some (pl o v : Int) := by
  have hl := h.len
  have hp := h.pl_lt hv
  unfold D.n
  refine (loop_to (fun i => (i : Int)) (pl o v) (.inr (pl o v : Int)) rfl (fun i hi => ?_) ?_).trans rfl
  · have hil : i < o.length := by omega
    have hne : (o[i] == (v : Int)) = false := by
      rw [beq_eq_false_iff_ne]
      intro e
      have := h.pl_of hil e
      omega
    rw [dlt hil, cond_true, idx_nat hil, Option.bind_some, hne, cond_false, wi (by omega)]
  · have hil : pl o v < o.length := by omega
    have e : (o[pl o v] == (v : Int)) = true := by rw [h.pl_get hv hil]; simp
    rw [dlt hil, cond_true, idx_nat hil, Option.bind_some, e, cond_true]
theorem l15Cross_ok {n : Nat} (h16 : n ≤ 16) {a b : List Int} (ha : PK n a) (hb : PK n b) {u v : Nat} (hu : u < n) (hv : v < n) : D.Z a b (u : Int) (v : Int) = some (!decide (u = v) && XX a b u v) := by
  unfold D.Z
  rw [l15Place_ok h16 ha hu, l15Place_ok h16 ha hv, l15Place_ok h16 hb hu, l15Place_ok h16 hb hv]
  simp only [Option.bind_some, dl_cast]
  by_cases h : u = v
  · subst h; simp
  · have : ((u : Int) != (v : Int)) = true := by simp; omega
    rw [this, cond_true, decide_eq_false h]; rfl

def rowX (a b : List Int) (n v : Nat) : List Int := ((List.range n).filter (fun u => !decide (u = v) && XX a b u v)).map Int.ofNat
theorem rowX_eq {n : Nat} {a b F : List Int} (h16 : n ≤ 16) (ha : PK n a) (hb : PK n b) (hF : FOk F n) (hX : NX a b n F) {v : Nat} (hv : v < n) : rowX a b n v = elems (F.getD v 0) := by
  refine Inc.ext ?_ (elems_inc _) (fun x => ?_)
  · unfold rowX Inc
    rw [List.pairwise_map]
    exact List.Pairwise.imp (fun {i j} h => by show (i : Int) < (j : Int); omega) (List.Pairwise.filter _ List.pairwise_lt_range)
  · unfold rowX
    rw [List.mem_map]
    constructor
    · rintro ⟨u, hu, rfl⟩
      rw [List.mem_filter, List.mem_range] at hu
      obtain ⟨h1, h2⟩ := hu
      show (u : Int) ∈ _
      rw [mem_elems_nat (hF.vs v hv)]
      simp only [Bool.and_eq_true, Bool.not_eq_true', decide_eq_false_iff_not] at h2
      have := hX v u hv
      rw [XX_comm ha hb hv h1 (fun e => h2.1 e.symm), h2.2] at this
      show nb F v u = true
      rw [this]; simp [h1, show ¬ v = u from fun e => h2.1 e.symm]
    · intro hx
      obtain ⟨u, h1, h2, rfl⟩ := mem_elems.1 hx
      have h3 : nb F v u = true := h2
      have hun := hF.lt v u hv h3
      rw [hX v u hv] at h3
      simp only [Bool.and_eq_true, decide_eq_true_eq, Bool.not_eq_true', decide_eq_false_iff_not] at h3
      refine ⟨u, List.mem_filter.2 ⟨List.mem_range.2 hun, ?_⟩, rfl⟩
      rw [XX_comm ha hb hun hv (fun e => h3.1.2 e.symm), h3.2]
      simp [show ¬ u = v from fun e => h3.1.2 e.symm]
theorem l15Graph_ok {n : Nat} (h1 : 1 ≤ n) (h16 : n ≤ 16) {a b F : List Int} (ha : PK n a) (hb : PK n b) (hF : FOk F n) (hX : NX a b n F) : D.d0 a b = some (grow F) := by
  have hla := ha.len
  unfold D.d0
  refine (loop_to (fun i => ((i : Int), (List.range i).map (rowX a b n))) n ((List.range n).map (rowX a b n)) rfl (fun v hv => ?_) ?_).trans ?_
  · dsimp only
    rw [hla, dlt hv, cond_true]
    refine (loop_to (fun i => (((List.range i).filter (fun u => !decide (u = v) && XX a b u v)).map Int.ofNat, (i : Int))) n (rowX a b n v) rfl (fun u hu => ?_) ?_).trans ?_
    · dsimp only
      rw [dlt hu, cond_true, l15Cross_ok h16 ha hb hu hv, Option.bind_some, wi (by omega), List.range_succ, List.filter_append, List.map_append]
      cases hc : (!decide (u = v) && XX a b u v)
      · rw [cond_false]; simp [hc]
      · have hl : (((List.range u).filter (fun u => !decide (u = v) && XX a b u v)).map Int.ofNat).length ≤ u := by
          rw [List.length_map]
          have := List.length_filter_le (fun u => !decide (u = v) && XX a b u v) (List.range u)
          rwa [List.length_range] at this
        rw [cond_true, appendD_ok (by simp only [List.length_singleton]; omega), Option.bind_some]; simp [hc]
    · simp only [dnlt, cond_false]; rfl
    · rw [appendD_ok (by simp; omega), Option.bind_some, wi (by omega), List.range_succ, List.map_append]; rfl
  · simp only [hla, dnlt, cond_false]
  · congr 1
    unfold grow
    refine List.ext_getElem (by simp [hF.len]) (fun i h2 h3 => ?_)
    have hi : i < n := by simpa using h2
    simp only [List.getElem_map, List.getElem_range]
    rw [rowX_eq h16 ha hb hF hX hi, getD_lt]
theorem spec_PermGraph_ok {n : Nat} (h1 : 1 ≤ n) (h16 : n ≤ 16) {a b F : List Int} (ha : PK n a) (hb : PK n b) (hF : FOk F n) (hX : NX a b n F) : D.U a b = some (grow F, true) := by
  unfold D.U D.F0
  rw [l15Line_ok h1 h16 ha, Option.bind_some, cond_true, l15Line_ok h1 h16 hb]
  have e : ((a.length : Int) == (b.length : Int)) = true := by rw [ha.len, hb.len]; simp
  simp only [Option.bind_some, e, Bool.and_self, Bool.not_true, cond_false]
  rw [l15Graph_ok h1 h16 ha hb hF hX]; rfl
theorem impl_PermGraph_ok {n : Nat} (h16 : n ≤ 16) {a b F : List Int} (e : D.o a b = some (F, true)) (hF : FOk F n) : D.V a b = some (grow F, true) := by
  unfold D.V
  rw [e, Option.bind_some, Bool.not_true, cond_false, nets_graph_eq F (by rw [hF.len]; exact h16) (fun u hu => hF.vs u (by rw [← hF.len]; exact hu))]
  rfl
theorem CrossIn_true {n : Nat} (h1 : 1 ≤ n) (h16 : n ≤ 16) {a b F : List Int} (e : D.o a b = some (F, true)) (hF : FOk F n) {u v : Nat} (hu : u < n) (hv : v < n) (h : nb F u v = true) : D.s0 a b (u : Int) (v : Int) = some true := by
  have hg := GOk.grow hF h1 h16
  have hgl : (grow F).length = n := by rw [grow_len, hF.len]
  have hw : IntKind.i64.wrap (((grow F).length : Int) - 1) = ((grow F).length : Int) - 1 := w64 (by omega) (by omega)
  unfold D.s0 D.D0 D.C0
  rw [impl_PermGraph_ok h16 e hF, Option.bind_some]
  simp only [cond_true, impl_GraphOk_eq _ hg.sh2, gB_true hg, Option.bind_some, hw, inRange_eq]
  rw [decide_eq_true (show (0 : Int) ≤ (u : Int) by omega), decide_eq_true (show (u : Int) ≤ ((grow F).length : Int) - 1 by omega)]
  simp only [Bool.and_self, cond_true, idx_row (show u < (grow F).length by omega), Option.bind_some]
  rw [contains_eq _ _ (hg.sh2.row (by omega)), decide_eq_true (show (v : Int) ∈ row (grow F) u from (adj_grow hF hu).2 h)]
  rfl
end Go.Sx

/- The longest list that rises: what the program's search finds. Plain. -/
namespace Go.Sx
theorem isBetter_ok {x y : List Int} (hx : Sh x) (hy : Sh y) : ∃ b, D.I x y = some b ∧ ((b = true → y.length ≤ x.length) ∧ (b = false → x.length ≤ y.length)) := by
  unfold D.I
  by_cases h : x.length = y.length
  · have e : ((x.length : Int) != (y.length : Int)) = false := by rw [h]; simp
    rw [e, cond_false, compare_eq x y hx hy, Option.bind_some]
    exact ⟨_, rfl, fun _ => by omega, fun _ => by omega⟩
  · have e : ((x.length : Int) != (y.length : Int)) = true := by simp; omega
    rw [e, cond_true]
    refine ⟨_, rfl, fun h => ?_, fun h => ?_⟩
    · rw [decide_eq_true_eq] at h; omega
    · rw [decide_eq_false_iff_not] at h; omega

/-- a relation that rises -/
structure Ris (n : Nat) (R : Int → Int → Prop) (rk : Int → Nat) : Prop where
  up : ∀ x y, R x y → rk x < rk y
  lt : ∀ v : Nat, v < n → rk v < n
  tr : ∀ x y z, R x y → R y z → R x z
/-- a list that rises from v, and none from there is longer -/
structure Ch (n : Nat) (R : Int → Int → Prop) (v : Int) (l : List Int) : Prop where
  hd : ∃ t, l = v :: t
  pw : l.Pairwise R
  rng : ∀ x ∈ l, 0 ≤ x ∧ x < n
  mx : ∀ t : List Int, (v :: t).Pairwise R → (∀ x ∈ t, 0 ≤ x ∧ x < n) → t.length + 1 ≤ l.length
theorem Ris.nodup {n : Nat} {R : Int → Int → Prop} {rk : Int → Nat} (h : Ris n R rk) {l : List Int} (hp : l.Pairwise R) : l.Nodup :=
  List.Pairwise.imp (fun {x y} hxy e => by subst e; have := h.up x x hxy; omega) hp
theorem rng_len {n : Nat} {l : List Int} (hd : l.Nodup) (hr : ∀ x ∈ l, 0 ≤ x ∧ x < n) : l.length ≤ n := by
  have := nodup_le (m := (List.range n).map Int.ofNat) hd (fun x hx => by
    have := hr x hx
    exact List.mem_map.2 ⟨x.toNat, List.mem_range.2 (by omega), by show ((x.toNat : Nat) : Int) = x; omega⟩)
  simpa using this
theorem Ch.len {n : Nat} {R : Int → Int → Prop} {rk : Int → Nat} (h : Ris n R rk) {v : Int} {l : List Int} (hc : Ch n R v l) : l.length ≤ n := rng_len (h.nodup hc.pw) hc.rng

/-- what is known already is right -/
def GK (n : Nat) (R : Int → Int → Prop) (ks : List (Option (List Int))) : Prop := ks.length = n ∧ ∀ (v : Nat) (l : List Int), ks[v]? = some (some l) → Ch n R v l
def Mon (ks ks' : List (Option (List Int))) : Prop := ∀ (v : Nat) (l : List Int), ks[v]? = some (some l) → ks'[v]? = some (some l)
theorem Mon.refl (ks : List (Option (List Int))) : Mon ks ks := fun _ _ h => h

theorem llR_ok {n : Nat} (h16 : n ≤ 16) {R : Int → Int → Prop} {rk : Int → Nat} (hR : Ris n R rk) {G : List Int} (hG : G.length = n) (hV : ∀ v, v < n → VS (G.getD v 0)) (hN : ∀ v w, v < n → (has (G.getD v 0) w = true ↔ w < n ∧ R (v : Int) (w : Int))) :
    ∀ (fuel v : Nat) (ks : List (Option (List Int))), v < n → n - rk v < fuel → GK n R ks →
      ∃ y, D.J G fuel ks (v : Int) = some y ∧ (Ch n R v y.1 ∧ GK n R y.2 ∧ Mon ks y.2 ∧ y.2[v]? = some (some y.1))
  | 0, _, _, _, h, _ => by omega
  | fuel + 1, v, ks, hv, hf, hK => by
    have hkl := hK.1
    unfold D.J
    rw [idx_nat (show v < ks.length by omega), Option.bind_some]
    cases hc : ks[v]'(by omega) with
    | some l =>
      have hg : ks[v]? = some (some l) := by rw [List.getElem?_eq_getElem (by omega), hc]
      exact ⟨_, rfl, hK.2 v l hg, hK, Mon.refl _, hg⟩
    | none =>
      dsimp only
      rw [idx_nat (show v < G.length by omega), ← getD_lt (show v < G.length by omega) 0, Option.bind_some, list_eq _ (hV v hv), Option.bind_some]
      have hus : ∀ x, x ∈ elems (G.getD v 0) → ∃ w : Nat, x = (w : Int) ∧ w < n ∧ R (v : Int) (w : Int) := fun x hx => by
        obtain ⟨w, _, h2, rfl⟩ := mem_elems.1 hx
        obtain ⟨h3, h4⟩ := (hN v w hv).1 h2
        exact ⟨w, rfl, h3, h4⟩
      have hul := elems_len (G.getD v 0)
      generalize hU : elems (G.getD v 0) = us at hus hul
      refine loop_then (fun s => ∃ i : Nat, s.2.2 = (i : Int) ∧ i ≤ us.length ∧ GK n R s.2.1 ∧ Mon ks s.2.1 ∧ (s.1 = [] ∨ ∃ w, w ∈ us ∧ Ch n R w s.1) ∧ ∀ w, w ∈ us.take i → ∀ t : List Int, (w :: t).Pairwise R → (∀ x ∈ t, 0 ≤ x ∧ x < n) → t.length + 1 ≤ s.1.length) (fun s => us.length - s.2.2.toNat)
        (fun r => GK n R r.2 ∧ Mon ks r.2 ∧ (r.1 = [] ∨ ∃ w, w ∈ us ∧ Ch n R w r.1) ∧ ∀ w, w ∈ us → ∀ t : List Int, (w :: t).Pairwise R → (∀ x ∈ t, 0 ≤ x ∧ x < n) → t.length + 1 ≤ r.1.length) ?_ ⟨0, rfl, by omega, hK, Mon.refl _, .inl rfl, by simp⟩ ?_
      · rintro ⟨best, ks, _⟩ ⟨i, rfl, hi, hK, hM, hb, hm⟩
        dsimp only at hK hM hb hm ⊢
        unfold D.T0
        dsimp only
        by_cases hil : i < us.length
        · obtain ⟨w, hw, hwn, hRw⟩ := hus us[i] (List.getElem_mem hil)
          have hbl : Sh best := by
            rcases hb with rfl | ⟨w, _, hb⟩
            · simp [Sh]
            · have := hb.len hR; unfold Sh; omega
          rw [dlt hil, cond_true, idx_nat hil, Option.bind_some, hw]
          have h1 := hR.up _ _ hRw; have h2 := hR.lt w hwn
          obtain ⟨y, e, k1, k2, k3, k4⟩ := llR_ok h16 hR hG hV hN fuel w ks hwn (by omega) hK
          have hyl : Sh y.1 := by have := k1.len hR; unfold Sh; omega
          obtain ⟨b, eb, b1, b2⟩ := isBetter_ok hyl hbl
          rw [e, Option.bind_some, eb, Option.bind_some, wi (by omega)]
          refine ⟨_, rfl, ⟨i + 1, rfl, by omega, k2, fun u l h => k3 u l (hM u l h), ?_, ?_⟩, by dsimp only; omega⟩
          · dsimp only
            cases b
            · exact hb
            · exact .inr ⟨w, hw ▸ List.getElem_mem hil, k1⟩
          · dsimp only
            intro z hz t ht htr
            rw [List.take_succ_eq_append_getElem hil, List.mem_append, List.mem_singleton] at hz
            rcases hz with hz | hz
            · have := hm z hz t ht htr
              cases b
              · exact this
              · have := b1 rfl
                show _ ≤ y.1.length
                omega
            · rw [hw] at hz
              subst hz
              have := k1.mx t ht htr
              cases b
              · have := b2 rfl
                show _ ≤ best.length
                omega
              · exact this
        · obtain rfl : i = us.length := by omega
          simp only [dnlt, cond_false]
          exact ⟨_, rfl, hK, hM, hb, by rwa [List.take_length] at hm⟩
      · rintro ⟨best, ks'⟩ ⟨hK', hM', hb, hm⟩
        dsimp only at hK' hM' hb hm ⊢
        have hbl : best.length ≤ n := by
          rcases hb with rfl | ⟨w, _, hb⟩
          · simp
          · exact hb.len hR
        have hkl' := hK'.1
        rw [appendD_ok (by simp; omega), Option.bind_some, idx_nat (show v < ks'.length by omega), Option.bind_some, Int.toNat_natCast]
        have hCh : Ch n R (v : Int) ([(v : Int)] ++ best) := by
          refine ⟨⟨best, rfl⟩, ?_, ?_, ?_⟩
          · rcases hb with rfl | ⟨w, hw, hb⟩
            · simp
            · obtain ⟨w', rfl, _, hRw⟩ := hus w hw
              obtain ⟨t, ht⟩ := hb.hd
              refine List.pairwise_cons.2 ⟨fun x hx => ?_, hb.pw⟩
              have hp := hb.pw
              rw [ht] at hx hp
              rcases List.mem_cons.1 hx with rfl | hx
              · exact hRw
              · exact hR.tr _ _ _ hRw ((List.pairwise_cons.1 hp).1 x hx)
          · intro x hx
            rcases List.mem_cons.1 hx with rfl | hx
            · omega
            · rcases hb with rfl | ⟨w, _, hb⟩
              · simp at hx
              · exact hb.rng x hx
          · intro t ht htr
            cases t with
            | nil => simp
            | cons z t =>
              have h1 := (List.pairwise_cons.1 ht).1 z (List.mem_cons_self ..)
              have h2 := htr z (List.mem_cons_self ..)
              have hz : z ∈ us := by
                rw [← hU]
                have e : z = ((z.toNat : Nat) : Int) := by omega
                rw [e, mem_elems_nat (hV v hv), hN v _ hv]
                rw [e] at h1
                exact ⟨by omega, h1⟩
              have := hm z hz t (List.pairwise_cons.1 ht).2 (fun x hx => htr x (List.mem_cons_of_mem _ hx))
              simp; omega
        have hget : ∀ (u : Nat), (ks'.set v (some ([(v : Int)] ++ best)))[u]? = if u = v then some (some ([(v : Int)] ++ best)) else ks'[u]? := fun u => by
          rw [List.getElem?_set]
          by_cases h : v = u
          · subst h; rw [if_pos rfl, if_pos (by omega), if_pos rfl]
          · rw [if_neg h, if_neg (fun e => h e.symm)]
        refine ⟨_, rfl, hCh, ⟨by simp [hkl'], fun u l h => ?_⟩, fun u l h => ?_, ?_⟩
        · dsimp only at h
          rw [hget] at h
          by_cases hu : u = v
          · rw [if_pos hu] at h
            simp only [Option.some.injEq] at h
            subst h; subst hu; exact hCh
          · rw [if_neg hu] at h
            exact hK'.2 u l h
        · dsimp only
          rw [hget]
          by_cases hu : u = v
          · subst hu
            rw [List.getElem?_eq_getElem (by omega), hc] at h
            cases h
          · rw [if_neg hu]; exact hM' u l h
        · dsimp only
          rw [hget, if_pos rfl]

theorem unOpt_ex : ∀ {ks : List (Option (List Int))}, (∀ o ∈ ks, ∃ l, o = some l) → ∃ ls, unOpt ks = some ls
  | [], _ => ⟨[], rfl⟩
  | o :: t, h => by
    obtain ⟨l, rfl⟩ := h o (List.mem_cons_self ..)
    obtain ⟨ls, e⟩ := unOpt_ex (ks := t) (fun o ho => h o (List.mem_cons_of_mem _ ho))
    exact ⟨l :: ls, by simp [unOpt, e]⟩

theorem longestLists_ok {n : Nat} (h16 : n ≤ 16) {R : Int → Int → Prop} {rk : Int → Nat} (hR : Ris n R rk) {G : List Int} (hG : G.length = n) (hV : ∀ v, v < n → VS (G.getD v 0)) (hN : ∀ v w, v < n → (has (G.getD v 0) w = true ↔ w < n ∧ R (v : Int) (w : Int))) :
    ∃ ls, D.t0 G = some ls ∧ (ls.length = n ∧ ∀ (v : Nat) (l : List Int), ls[v]? = some l → Ch n R v l) := by
  have h33 := recFuel_33
  unfold D.t0
  rw [makeD_ok (by omega) (by omega), Option.bind_some]
  refine loop_then (fun s => ∃ i : Nat, s.2 = (i : Int) ∧ i ≤ n ∧ GK n R s.1 ∧ ∀ u, u < i → ∃ l, s.1[u]? = some (some l)) (fun s => n - s.2.toNat)
    (fun r => GK n R r ∧ ∀ u, u < n → ∃ l, r[u]? = some (some l)) ?_ ⟨0, rfl, by omega, ⟨by simp [hG], fun v l h => ?_⟩, fun u hu => by omega⟩ ?_
  · rintro ⟨ks, _⟩ ⟨i, rfl, hi, hK, hA⟩
    dsimp only at hK hA ⊢
    unfold D.P0
    dsimp only
    rw [hG]
    by_cases hin : i < n
    · have := hR.lt i hin
      obtain ⟨y, e, k1, k2, k3, k4⟩ := llR_ok h16 hR hG hV hN recFuel i ks hin (by omega) hK
      rw [dlt hin, cond_true, e, Option.bind_some, wi (by omega)]
      refine ⟨_, rfl, ⟨i + 1, rfl, by omega, k2, fun u hu => ?_⟩, by dsimp only; omega⟩
      dsimp only
      by_cases h : u = i
      · subst h; exact ⟨_, k4⟩
      · obtain ⟨l, hl⟩ := hA u (by omega)
        exact ⟨l, k3 u l hl⟩
    · obtain rfl : i = n := by omega
      simp only [dnlt, cond_false]
      exact ⟨_, rfl, hK, hA⟩
  · dsimp only at h
    obtain ⟨h1, h2⟩ := List.getElem?_eq_some_iff.1 h
    simp at h2
  · rintro ks ⟨hK, hA⟩
    obtain ⟨ls, e⟩ := unOpt_ex (ks := ks) (fun o ho => by
      obtain ⟨i, hi, rfl⟩ := List.getElem_of_mem ho
      obtain ⟨l, hl⟩ := hA i (by have := hK.1; omega)
      rw [List.getElem?_eq_getElem hi] at hl
      exact ⟨l, by simpa using hl⟩)
    have em := unOpt_map e
    refine ⟨ls, e, ?_, fun v l hl => hK.2 v l ?_⟩
    · have := hK.1
      rw [em, List.length_map] at this
      exact this
    · rw [em, List.getElem?_map, hl]; rfl

theorem bestList_ok {ls : List (List Int)} (hl : ls.length ≤ 4294967296) (hs : ∀ l ∈ ls, Sh l) : ∃ x, D.b0 ls = some x ∧ ((x = [] ∨ x ∈ ls) ∧ ∀ l ∈ ls, l.length ≤ x.length) := by
  unfold D.b0
  refine loop_then (fun s => ∃ i : Nat, s.2 = (i : Int) ∧ i ≤ ls.length ∧ (s.1 = [] ∨ s.1 ∈ ls) ∧ ∀ l ∈ ls.take i, l.length ≤ s.1.length) (fun s => ls.length - s.2.toNat)
    (fun x => (x = [] ∨ x ∈ ls) ∧ ∀ l ∈ ls, l.length ≤ x.length) ?_ ⟨0, rfl, by omega, .inl rfl, by simp⟩ (fun x hx => ⟨x, rfl, hx⟩)
  rintro ⟨x, _⟩ ⟨i, rfl, hi, hx, hm⟩
  dsimp only at hx hm ⊢
  by_cases hil : i < ls.length
  · have hxs : Sh x := by
      rcases hx with rfl | hx
      · simp [Sh]
      · exact hs x hx
    obtain ⟨b, e, b1, b2⟩ := isBetter_ok (hs _ (List.getElem_mem hil)) hxs
    rw [dlt hil, cond_true, idx_nat hil, Option.bind_some, e, Option.bind_some, wi (by omega)]
    cases b
    · rw [cond_false]
      refine ⟨_, rfl, ⟨i + 1, rfl, by omega, hx, fun l h => ?_⟩, by dsimp only; omega⟩
      rw [List.take_succ_eq_append_getElem hil, List.mem_append, List.mem_singleton] at h
      rcases h with h | rfl
      · exact hm l h
      · exact b2 rfl
    · rw [cond_true]
      refine ⟨_, rfl, ⟨i + 1, rfl, by omega, .inr (List.getElem_mem hil), fun l h => ?_⟩, by dsimp only; omega⟩
      rw [List.take_succ_eq_append_getElem hil, List.mem_append, List.mem_singleton] at h
      rcases h with h | rfl
      · have := hm l h; have := b1 rfl; dsimp only; omega
      · exact Nat.le_refl _
  · obtain rfl : i = ls.length := by omega
    simp only [dnlt, cond_false]
    exact ⟨_, rfl, hx, by rwa [List.take_length] at hm⟩

/-! ### both kinds of lists -/
def RLn (a b : List Int) (c : Bool) (x y : Int) : Prop := pl a x.toNat < pl a y.toNat ∧ XX a b x.toNat y.toNat = c
theorem RLn_ris {n : Nat} {a b : List Int} (ha : PK n a) (c : Bool) : Ris n (RLn a b c) (fun x => pl a x.toNat) := by
  refine ⟨fun x y h => h.1, fun v hv => by rw [Int.toNat_natCast]; exact ha.pl_lt hv, fun x y z h1 h2 => ⟨Nat.lt_trans h1.1 h2.1, ?_⟩⟩
  obtain ⟨p1, q1⟩ := h1; obtain ⟨p2, q2⟩ := h2
  unfold XX at q1 q2 ⊢
  rw [decide_eq_true p1] at q1
  rw [decide_eq_true p2] at q2
  rw [decide_eq_true (Nat.lt_trans p1 p2)]
  cases c
  · simp only [bne_eq_false_iff_eq] at q1 q2 ⊢
    have := of_decide_eq_true q1.symm; have := of_decide_eq_true q2.symm
    exact (decide_eq_true (by omega)).symm
  · simp only [bne_iff_ne, ne_eq] at q1 q2 ⊢
    intro h
    have h := of_decide_eq_true h.symm
    have h1 : ¬ pl b x.toNat < pl b y.toNat := fun h => q1 (decide_eq_true h).symm
    have h2 : ¬ pl b y.toNat < pl b z.toNat := fun h => q2 (decide_eq_true h).symm
    omega

theorem longestLine_ok {n : Nat} (h1 : 1 ≤ n) (h16 : n ≤ 16) {a b F : List Int} (ha : PK n a) (hb : PK n b) (e : D.o a b = some (F, true)) (hF : FOk F n) (hX : NX a b n F) (c : Bool) :
    ∃ x, D.B a b c = some x ∧ (x.Pairwise (RLn a b c) ∧ (∀ z ∈ x, 0 ≤ z ∧ z < n) ∧ ∀ y : List Int, y.Pairwise (RLn a b c) → (∀ z ∈ y, 0 ≤ z ∧ z < n) → y.length ≤ x.length) := by
  have hla := ha.len
  have hR := RLn_ris (b := b) ha c
  unfold D.B
  rw [e, Option.bind_some]
  simp only [Bool.not_true, cond_false]
  rw [makeD_ok (by omega) (by omega), Option.bind_some]
  have hw1 : IntKind.i64.wrap ((a.length : Int) - 1) = (a.length : Int) - 1 := w64 (by omega) (by omega)
  rw [hw1]
  refine loop_then (fun s => ∃ i : Nat, s.2.2 = (i : Int) - 1 ∧ i ≤ n ∧ s.1.length = n ∧ VS s.2.1 ∧ (∀ u, has s.2.1 u = true ↔ u < n ∧ i ≤ pl a u) ∧ (∀ u, u < n → VS (s.1.getD u 0)) ∧ ∀ v w, v < n → i ≤ pl a v → (has (s.1.getD v 0) w = true ↔ w < n ∧ RLn a b c v w)) (fun s => (s.2.2 + 1).toNat)
    (fun r => r.length = n ∧ (∀ u, u < n → VS (r.getD u 0)) ∧ ∀ v w, v < n → (has (r.getD v 0) w = true ↔ w < n ∧ RLn a b c v w)) ?_ ⟨n, by dsimp only; omega, by omega, by simp [hla], VS.zero, fun u => ?_, fun u hu => ?_, fun v w hv hp => ?_⟩ ?_
  · rintro ⟨G, m, _⟩ ⟨i, rfl, hi, hGl, hmv, hm, hGv, hG⟩
    dsimp only at hGl hmv hm hGv hG ⊢
    by_cases hi0 : 1 ≤ i
    · obtain ⟨k, rfl⟩ : ∃ k, i = k + 1 := ⟨i - 1, by omega⟩
      have hk : ((k + 1 : Nat) : Int) - 1 = (k : Int) := by omega
      have hka : k < a.length := by omega
      obtain ⟨v, hav, hvn, hpv⟩ := ha.at hka
      have hFi : idx F (v : Int) = some (F.getD v 0) := idx_F hF hvn
      have hw : IntKind.i64.wrap ((k : Int) - 1) = (k : Int) - 1 := w64 (by omega) (by omega)
      rw [hk, decide_eq_true (show (0 : Int) ≤ (k : Int) by omega), cond_true, idx_nat hka, Option.bind_some, hav, hFi]
      simp only [Option.bind_some, idx_nat (show v < G.length by omega), impl_one_eq, Int.toNat_natCast, hw]
      have hmain : ∀ M : Int, VS M → (∀ w, has M w = (has m w && (XX a b v w == c) && !decide (w = v) || (has M w && (decide (w = v) || !decide (w < n))))) → (∀ w, has M w = true → w ≠ v ∧ w < n) → ∃ y : (List Int × Int × Int) ⊕ List Int, some (Sum.inl (G.set v M, ior .u32 m (ishl .u32 1 (v : Int)), (k : Int) - 1)) = some y ∧ Stp (fun s : List Int × Int × Int => ∃ i : Nat, s.2.2 = (i : Int) - 1 ∧ i ≤ n ∧ s.1.length = n ∧ VS s.2.1 ∧ (∀ u, has s.2.1 u = true ↔ u < n ∧ i ≤ pl a u) ∧ (∀ u, u < n → VS (s.1.getD u 0)) ∧ ∀ v w, v < n → i ≤ pl a v → (has (s.1.getD v 0) w = true ↔ w < n ∧ RLn a b c v w)) (fun s => (s.2.2 + 1).toNat)
          (fun r => r.length = n ∧ (∀ u, u < n → VS (r.getD u 0)) ∧ ∀ v w, v < n → (has (r.getD v 0) w = true ↔ w < n ∧ RLn a b c v w)) (G, m, (k : Int)) y := by
        intro M hMv hM hMr
        refine ⟨_, rfl, ⟨k, rfl, by omega, by simp [hGl], VS.ior _ _, fun u => ?_, fun u hu => ?_, fun u w hu hp => ?_⟩, by dsimp only; omega⟩
        · dsimp only
          rw [has_ior hmv (VS.ishl _ _), has_one (by omega), Bool.or_eq_true, hm, decide_eq_true_eq]
          constructor
          · rintro (h | rfl)
            · omega
            · omega
          · rintro ⟨h1, h2⟩
            by_cases huv : u = v
            · exact .inr huv
            · have : pl a u ≠ k := fun e => huv (ha.pl_inj h1 hvn (by rw [e, hpv]))
              exact .inl ⟨h1, by omega⟩
        · dsimp only
          rw [getD_setI (by omega)]
          by_cases huv : u = v
          · rw [if_pos huv]; exact hMv
          · rw [if_neg huv]; exact hGv u hu
        · dsimp only at hp ⊢
          rw [getD_setI (by omega)]
          by_cases huv : u = v
          · subst huv
            rw [if_pos rfl]
            unfold RLn
            simp only [Int.toNat_natCast]
            constructor
            · intro h
              obtain ⟨h1, h2⟩ := hMr w h
              rw [hM w] at h
              simp only [decide_eq_false h1, decide_eq_true h2, Bool.not_true, Bool.or_false, Bool.and_false, Bool.not_false, Bool.and_true, Bool.and_eq_true, beq_iff_eq] at h
              have := (hm w).1 h.1
              exact ⟨h2, by omega, h.2⟩
            · rintro ⟨h1, h2, h3⟩
              have hne : w ≠ u := fun e => by subst e; omega
              rw [hM w, (hm w).2 ⟨h1, by omega⟩, h3]
              simp [hne]
          · rw [if_neg huv]
            have : pl a u ≠ k := fun e => huv (ha.pl_inj hu hvn (by rw [e, hpv]))
            exact hG u w hu (by omega)
      have hmn : has m v = false := by
        rw [Bool.eq_false_iff]; intro h; have := ((hm v).1 h).2; omega
      have hnx : ∀ w, w < n → w ≠ v → has (F.getD v 0) w = XX a b v w := fun w hw hwv => by
        have := hX v w hvn
        unfold nb at this
        rw [this]; simp [hw, show ¬ v = w from fun e => hwv e.symm]
      cases c
      · rw [cond_false]
        refine hmain _ (VS.iandNot _ _) (fun w => ?_) (fun w h => ?_)
        · rw [has_iandNot hmv (hF.vs v hvn)]
          by_cases hwv : w = v
          · subst hwv; rw [hmn]; simp
          · by_cases hwn : w < n
            · rw [hnx w hwn hwv]
              cases has m w <;> cases XX a b v w <;> simp [hwv, hwn]
            · have : has m w = false := by
                rw [Bool.eq_false_iff]; intro h; exact hwn ((hm w).1 h).1
              rw [this]; simp
        · rw [has_iandNot hmv (hF.vs v hvn), Bool.and_eq_true] at h
          refine ⟨fun e => by subst e; rw [hmn] at h; exact absurd h.1 (by simp), ((hm w).1 h.1).1⟩
      · rw [cond_true]
        refine hmain _ (VS.iand _ _) (fun w => ?_) (fun w h => ?_)
        · rw [has_iand hmv (hF.vs v hvn)]
          by_cases hwv : w = v
          · subst hwv; rw [hmn]; simp
          · by_cases hwn : w < n
            · rw [hnx w hwn hwv]
              cases has m w <;> cases XX a b v w <;> simp [hwv, hwn]
            · have : has m w = false := by
                rw [Bool.eq_false_iff]; intro h; exact hwn ((hm w).1 h).1
              rw [this]; simp
        · rw [has_iand hmv (hF.vs v hvn), Bool.and_eq_true] at h
          refine ⟨fun e => by subst e; rw [hmn] at h; exact absurd h.1 (by simp), ((hm w).1 h.1).1⟩
    · obtain rfl : i = 0 := by omega
      rw [show decide ((0 : Int) ≤ ((0 : Nat) : Int) - 1) = false from decide_eq_false (by omega), cond_false]
      exact ⟨_, rfl, hGl, hGv, fun v w hv => hG v w hv (by omega)⟩
  · dsimp only
    rw [has_zero]
    constructor
    · intro h; cases h
    · rintro ⟨h1, h2⟩; have := ha.pl_lt h1; omega
  · rw [getD_lt (by simp; omega)]
    simp only [List.getElem_replicate]
    exact VS.zero
  · have := ha.pl_lt hv; omega
  · rintro G ⟨hGl, hGv, hG⟩
    obtain ⟨ls, e2, hll, hls⟩ := longestLists_ok h16 hR hGl hGv hG
    have hsh : ∀ l ∈ ls, Sh l := fun l hl => by
      obtain ⟨i, hi, rfl⟩ := List.getElem_of_mem hl
      have := (hls i ls[i] (List.getElem?_eq_getElem hi)).len hR
      unfold Sh; omega
    obtain ⟨x, e3, hx, hm⟩ := bestList_ok (ls := ls) (by omega) hsh
    have hxs : Sh x := by
      rcases hx with rfl | hx
      · simp [Sh]
      · exact hsh x hx
    rw [e2, Option.bind_some, e3, Option.bind_some, wide_eq x hxs, Option.bind_some]
    refine ⟨x, rfl, ?_, ?_, fun y hy hyr => ?_⟩
    · rcases hx with rfl | hx
      · simp
      · obtain ⟨i, hi, rfl⟩ := List.getElem_of_mem hx
        exact (hls i ls[i] (List.getElem?_eq_getElem hi)).pw
    · rcases hx with rfl | hx
      · simp
      · obtain ⟨i, hi, rfl⟩ := List.getElem_of_mem hx
        exact (hls i ls[i] (List.getElem?_eq_getElem hi)).rng
    · cases y with
      | nil => simp
      | cons z t =>
        have hz := hyr z (List.mem_cons_self ..)
        have hzl : z.toNat < ls.length := by omega
        have hc := hls z.toNat ls[z.toNat] (List.getElem?_eq_getElem hzl)
        rw [show ((z.toNat : Nat) : Int) = z by omega] at hc
        have h3 := hc.mx t hy (fun x hx => hyr x (List.mem_cons_of_mem _ hx))
        have h4 := hm _ (List.getElem_mem hzl)
        simp only [List.length_cons]
        omega
end Go.Sx

/- 'laws.FnCrossLongest' comes to true. Plain. -/
namespace Go.Sx
theorem adj_nil {n u v : Nat} : ¬ adj (List.replicate n ([] : List Int)) u v := by
  unfold adj row
  rw [List.getD_eq_getElem?_getD, List.getElem?_replicate]
  by_cases h : u < n
  · rw [if_pos h]; simp
  · rw [if_neg h]; simp
/-- the reference's complement -/
theorem l2Other_ok {g : List (List Int)} (hg : GOk g) : ∃ y, D.e0 g = some y ∧ (GOk y ∧ y.length = g.length ∧ ∀ u v, u < g.length → (adj y u v ↔ v < g.length ∧ u ≠ v ∧ ¬ adj g u v)) := by
  have h16 := hg.n16; have h1 := hg.n1
  unfold D.e0 D.g
  rw [Option.bind_some, l1Empty_eq _ h16, Option.bind_some]
  refine loop_then (fun s => ∃ v : Nat, s.1 = (v : Int) ∧ v ≤ g.length ∧ GOk s.2 ∧ s.2.length = g.length ∧ ∀ x y, adj s.2 x y ↔ (x < v ∧ y < v) ∧ x ≠ y ∧ ¬ adj g x y) (fun s => g.length - s.1.toNat)
    (fun y => GOk y ∧ y.length = g.length ∧ ∀ u v, u < g.length → (adj y u v ↔ v < g.length ∧ u ≠ v ∧ ¬ adj g u v)) ?_ ⟨0, rfl, by omega, GOk.empty h1 h16, by simp, fun x y => ⟨fun h => absurd h adj_nil, fun h => by omega⟩⟩ (fun r hr => ⟨r, rfl, hr⟩)
  rintro ⟨_, G⟩ ⟨v, rfl, hv, hG, hl, hA⟩
  dsimp only at hG hl hA ⊢
  rw [Option.bind_some]
  by_cases hvn : v < g.length
  · rw [dlt hvn, cond_true]
    refine loop_then (fun s => ∃ t : Nat, s.1 = (t : Int) ∧ t ≤ v ∧ GOk s.2 ∧ s.2.length = g.length ∧ ∀ x y, adj s.2 x y ↔ ((x < v ∧ y < v) ∨ (x = v ∧ y < t) ∨ (y = v ∧ x < t)) ∧ x ≠ y ∧ ¬ adj g x y) (fun s => v - s.1.toNat)
      (fun r => GOk r ∧ r.length = g.length ∧ ∀ x y, adj r x y ↔ (x < v + 1 ∧ y < v + 1) ∧ x ≠ y ∧ ¬ adj g x y) ?_ ⟨0, rfl, by omega, hG, hl, fun x y => by rw [hA]; simp⟩ (fun r hr => ⟨_, rfl, ⟨v + 1, wi (by omega), by omega, hr⟩, ?_⟩)
    · rintro ⟨_, G⟩ ⟨t, rfl, ht, hG, hl, hA⟩
      dsimp only at hG hl hA ⊢
      by_cases htv : t < v
      · rw [dlt htv, cond_true, l1Edge_eq g hg (show t < g.length by omega), Option.bind_some, wi (show t < 4611686018427387904 by omega)]
        by_cases hc : (v : Int) ∈ row g t
        · have h1 : adj g t v := hc
          have h2 : adj g v t := hg.sym t v (by omega) h1
          rw [decide_eq_true hc, Bool.not_true, cond_false]
          refine ⟨_, rfl, ⟨t + 1, rfl, by omega, hG, hl, fun x y => ?_⟩, by dsimp only; omega⟩
          rw [hA]
          constructor
          · rintro ⟨h3, h4⟩
            exact ⟨by omega, h4⟩
          · rintro ⟨h3, h4, h5⟩
            refine ⟨?_, h4, h5⟩
            by_cases c1 : x = v ∧ y = t
            · obtain ⟨rfl, rfl⟩ := c1; exact absurd h2 h5
            · by_cases c2 : y = v ∧ x = t
              · obtain ⟨rfl, rfl⟩ := c2; exact absurd h1 h5
              · omega
        · have h1 : ¬ adj g t v := hc
          have h2 : ¬ adj g v t := fun h => h1 (hg.sym v t hvn h)
          rw [decide_eq_false hc, Bool.not_false, cond_true]
          obtain ⟨G', e, k1, k2, k3⟩ := l1Link_ok hG (u := t) (v := v) (by omega) (by omega) (by omega)
          rw [e, Option.bind_some]
          refine ⟨_, rfl, ⟨t + 1, rfl, by omega, k1, by dsimp only; omega, fun x y => ?_⟩, by dsimp only; omega⟩
          rw [k3, hA]
          constructor
          · rintro (⟨h3, h4⟩ | ⟨rfl, rfl⟩ | ⟨rfl, rfl⟩)
            · exact ⟨by omega, h4⟩
            · exact ⟨by omega, by omega, h1⟩
            · exact ⟨by omega, by omega, h2⟩
          · rintro ⟨h3, h4, h5⟩
            by_cases c1 : x = v ∧ y = t
            · exact .inr (.inr c1)
            · by_cases c2 : x = t ∧ y = v
              · exact .inr (.inl c2)
              · exact .inl ⟨by omega, h4, h5⟩
      · obtain rfl : t = v := by omega
        simp only [dnlt, cond_false]
        refine ⟨_, rfl, hG, hl, fun x y => ?_⟩
        rw [hA]
        constructor
        · rintro ⟨h3, h4, h5⟩; exact ⟨by omega, h4, h5⟩
        · rintro ⟨h3, h4, h5⟩; exact ⟨by omega, h4, h5⟩
    · dsimp only
      rw [wi (by omega)]; omega
  · obtain rfl : v = g.length := by omega
    simp only [dnlt, cond_false]
    refine ⟨_, rfl, hG, hl, fun x y hx => ?_⟩
    rw [hA]
    constructor
    · rintro ⟨h3, h4⟩; exact ⟨h3.2, h4⟩
    · rintro ⟨h3, h4⟩; exact ⟨⟨hx, h3⟩, h4⟩
theorem Complement_ok {g : List (List Int)} (hg : GOk g) : ∃ y, D.f0 g = some (y, true) ∧ (GOk y ∧ y.length = g.length ∧ ∀ u v, u < g.length → (adj y u v ↔ v < g.length ∧ u ≠ v ∧ ¬ adj g u v)) := by
  obtain ⟨y, e, h⟩ := l2Other_ok hg
  refine ⟨y, ?_, h⟩
  unfold D.f0
  rw [spec_GraphOk_eq g hg.sh2, gB_true hg, Option.bind_some, Bool.not_true, cond_false, e]; rfl

/-! ### greatest cliques -/
theorem CQ_ext {F : List Int} {n : Nat} (hn : n ≤ 16) (hF : FOk F n) : ∀ (k : Nat) (K : Int), 32 - (elems K).length ≤ k → In n K → CQ F K → ∃ K', In n K' ∧ MX F n K' ∧ ∀ w, has K w = true → has K' w = true := by
  intro k
  induction k with
  | zero =>
    intro K hk hI hC
    have : (elems K).length ≤ n := rng_len (List.Pairwise.imp (fun h e => by omega) (elems_inc K)) (fun x hx => by
      obtain ⟨w, _, h2, rfl⟩ := mem_elems.1 hx
      have := hI.2 w h2; omega)
    omega
  | succ k ih =>
    intro K hk hI hC
    by_cases hM : MX F n K
    · exact ⟨K, hI, hM, fun w h => h⟩
    · have : ∃ w, w < n ∧ has K w = false ∧ ∀ u, has K u = true → nb F u w = true := by
        refine Classical.byContradiction fun hc => hM ⟨hC, fun w hw hk => ?_⟩
        refine Classical.byContradiction fun hc2 => hc ⟨w, hw, hk, fun u hu => ?_⟩
        cases h : nb F u w
        · exact absurd ⟨u, hu, h⟩ hc2
        · rfl
      obtain ⟨w, hw, hKw, hall⟩ := this
      have hh : ∀ u, has (ior .u32 K (ishl .u32 1 (w : Int))) u = (has K u || decide (u = w)) := fun u => by rw [has_ior hI.1 (VS.ishl _ _), has_one (by omega)]
      obtain ⟨K', h1, h2, h3⟩ := ih (ior .u32 K (ishl .u32 1 (w : Int))) (by
        have hnd : ((w : Int) :: elems K).Nodup := List.nodup_cons.2 ⟨(fun h => by rw [mem_elems_nat hI.1, hKw] at h; cases h), List.Pairwise.imp (fun h e => by omega) (elems_inc K)⟩
        have := nodup_le (m := elems (ior .u32 K (ishl .u32 1 (w : Int)))) hnd (fun x hx => by
          rcases List.mem_cons.1 hx with rfl | hx
          · rw [mem_elems_nat (VS.ior _ _), hh]; simp
          · obtain ⟨u, _, h2, rfl⟩ := mem_elems.1 hx
            rw [mem_elems_nat (VS.ior _ _), hh, h2]; rfl)
        simp only [List.length_cons] at this
        omega) ⟨VS.ior _ _, fun u hu => by
          rw [hh, Bool.or_eq_true, decide_eq_true_eq] at hu
          rcases hu with hu | rfl
          · exact hI.2 u hu
          · exact hw⟩ (fun u v hu hv huv => by
          rw [hh, Bool.or_eq_true, decide_eq_true_eq] at hu hv
          rcases hu with hu | rfl
          · rcases hv with hv | rfl
            · exact hC u v hu hv huv
            · exact hall u hu
          · rcases hv with hv | rfl
            · exact hF.sym v u (hI.2 v hv) (hall v hv)
            · exact absurd rfl huv)
      exact ⟨K', h1, h2, fun u hu => h3 u (by rw [hh, hu]; rfl)⟩

/-- a clique as a list -/
structure CL (g : List (List Int)) (x : List Int) : Prop where
  nd : x.Nodup
  rng : ∀ z ∈ x, 0 ≤ z ∧ z < g.length
  cq : ∀ u w : Nat, (u : Int) ∈ x → (w : Int) ∈ x → u ≠ w → adj g u w
theorem w9Clique_ok {g : List (List Int)} (hg : GOk g) : ∃ m : Nat, D.s g = some (m : Int) ∧ (∀ x, CL g x → x.length ≤ m) ∧ ∃ x, CL g x ∧ x.length = m := by
  have h16 := hg.n16
  have hF := FOk.of hg
  obtain ⟨l, _, hll, _, e2, hGC⟩ := CliquesOf_all hg
  have hCL : ∀ K ∈ l, CL g (elems K) := fun K hK => by
    obtain ⟨hI, hM⟩ := (hGC.mem K).1 hK
    refine ⟨List.Pairwise.imp (fun h e => by omega) (elems_inc K), fun z hz => ?_, fun u w hu hw huw => ?_⟩
    · obtain ⟨w, _, h2, rfl⟩ := mem_elems.1 hz
      have := hI.2 w h2; omega
    · rw [mem_elems_nat hI.1] at hu hw
      exact (nb_mk hg (hI.2 u hu)).1 (hM.1 u w hu hw huw)
  have hmain : ∃ y, D.s g = some y ∧ ∃ m : Nat, y = (m : Int) ∧ (m = 0 ∨ ∃ K ∈ l, (elems K).length = m) ∧ ∀ K ∈ l, (elems K).length ≤ m := by
    unfold D.s
    rw [e2, Option.bind_some, List.length_map]
    refine loop_then (fun s => ∃ i m : Nat, s.2 = (i : Int) ∧ s.1 = (m : Int) ∧ i ≤ l.length ∧ (m = 0 ∨ ∃ K ∈ l, (elems K).length = m) ∧ ∀ K ∈ l.take i, (elems K).length ≤ m) (fun s => l.length - s.2.toNat)
      (fun y => ∃ m : Nat, y = (m : Int) ∧ (m = 0 ∨ ∃ K ∈ l, (elems K).length = m) ∧ ∀ K ∈ l, (elems K).length ≤ m) ?_ ⟨0, 0, rfl, rfl, by omega, .inl rfl, by simp⟩ (fun r hr => ⟨r, rfl, hr⟩)
    rintro ⟨_, _⟩ ⟨i, m, rfl, rfl, hi, hx, hm⟩
    dsimp only
    by_cases hil : i < l.length
    · have hget : idx (l.map elems) (i : Int) = some (elems l[i]) := by rw [idx_nat (by simpa using hil), List.getElem_map]
      rw [dlt hil, cond_true, hget, Option.bind_some, wi (by omega), dl_cast]
      by_cases hc : m < (elems l[i]).length
      · rw [decide_eq_true hc, cond_true, Option.bind_some]
        refine ⟨_, rfl, ⟨i + 1, (elems l[i]).length, rfl, rfl, by omega, .inr ⟨_, List.getElem_mem hil, rfl⟩, fun K hK => ?_⟩, by dsimp only; omega⟩
        rw [List.take_succ_eq_append_getElem hil, List.mem_append, List.mem_singleton] at hK
        rcases hK with hK | rfl
        · have := hm K hK; omega
        · exact Nat.le_refl _
      · rw [decide_eq_false hc, cond_false]
        refine ⟨_, rfl, ⟨i + 1, m, rfl, rfl, by omega, hx, fun K hK => ?_⟩, by dsimp only; omega⟩
        rw [List.take_succ_eq_append_getElem hil, List.mem_append, List.mem_singleton] at hK
        rcases hK with hK | rfl
        · exact hm K hK
        · omega
    · obtain rfl : i = l.length := by omega
      simp only [dnlt, cond_false]
      exact ⟨_, rfl, m, rfl, hx, by rwa [List.take_length] at hm⟩
  obtain ⟨_, e, m, rfl, hx, hm⟩ := hmain
  refine ⟨m, e, fun x hxc => ?_, ?_⟩
  · have hr32 : ∀ z ∈ x, 0 ≤ z ∧ z < 32 := fun z hz => by have := hxc.rng z hz; omega
    have hh : ∀ w : Nat, has (mk x) w = true ↔ (w : Int) ∈ x := fun w => by rw [has_mk hr32, decide_eq_true_eq]
    have hI : In g.length (mk x) := ⟨VS.mk x, fun w hw => by have := hxc.rng _ ((hh w).1 hw); omega⟩
    obtain ⟨K, h1, h2, h3⟩ := CQ_ext h16 hF 32 (mk x) (by omega) hI (fun u w hu hw huw => (nb_mk hg (hI.2 u hu)).2 (hxc.cq u w ((hh u).1 hu) ((hh w).1 hw) huw))
    have h4 := nodup_le (m := elems K) hxc.nd (fun z hz => by
      have hz0 := hxc.rng z hz
      have ez : z = ((z.toNat : Nat) : Int) := by omega
      rw [ez, mem_elems_nat h1.1]
      exact h3 _ ((hh _).2 (by rw [← ez]; exact hz)))
    have := hm K ((hGC.mem K).2 ⟨h1, h2⟩)
    omega
  · rcases hx with rfl | ⟨K, hK, hKm⟩
    · exact ⟨[], ⟨by simp, by simp, fun u w hu => by simp at hu⟩, rfl⟩
    · exact ⟨_, hCL K hK, hKm⟩

/-! ### the law -/
/-- lists that rise are the cliques -/
theorem line_clique {n : Nat} {g : List (List Int)} {o q : List Int} {c : Bool} (ho : PK n o) (hg : GOk g) (hgl : g.length = n) (hA : ∀ u v, u < n → v < n → u ≠ v → (adj g u v ↔ XX o q u v = c)) (hq : PK n q)
    {x : List Int} (hx : x.Pairwise (RLn o q c) ∧ (∀ z ∈ x, 0 ≤ z ∧ z < n) ∧ ∀ y : List Int, y.Pairwise (RLn o q c) → (∀ z ∈ y, 0 ≤ z ∧ z < n) → y.length ≤ x.length) : D.s g = some (x.length : Int) := by
  obtain ⟨hx1, hx2, hx3⟩ := hx
  have hR := RLn_ris (b := q) ho c
  obtain ⟨m, e, hm, y, hy, hym⟩ := w9Clique_ok hg
  have h1 : x.length ≤ m := hm x ⟨hR.nodup hx1, fun z hz => by rw [hgl]; exact hx2 z hz, fun u w hu hw huw => by
    have hun := hx2 _ hu; have hwn := hx2 _ hw
    rw [hA u w (by omega) (by omega) huw]
    obtain ⟨i, hi, ei⟩ := List.getElem_of_mem hu
    obtain ⟨j, hj, ej⟩ := List.getElem_of_mem hw
    have hp := List.pairwise_iff_getElem.1 hx1
    rcases Nat.lt_trichotomy i j with k | k | k
    · have := (hp i j hi hj k).2
      rw [ei, ej] at this
      exact this
    · subst k; rw [ei] at ej; omega
    · have := (hp j i hj hi k).2
      rw [ei, ej] at this
      rw [XX_comm ho hq (by omega) (by omega) huw]
      exact this⟩
  have h2 : m ≤ x.length := by
    have hp : (o.filter fun z => decide (z ∈ y)).Pairwise (RLn o q c) := by
      rw [List.pairwise_iff_getElem]
      intro i j hi hj hij
      have hsub := (List.filter_sublist (p := fun z => decide (z ∈ y)) (l := o))
      have hmi := List.mem_filter.1 (List.getElem_mem hi)
      have hmj := List.mem_filter.1 (List.getElem_mem hj)
      have hpo : o.Pairwise fun u v => pl o u.toNat < pl o v.toNat := by
        rw [List.pairwise_iff_getElem]
        intro i j hi hj hij
        obtain ⟨u, e1, _, e2⟩ := ho.at hi
        obtain ⟨v, e3, _, e4⟩ := ho.at hj
        rw [e1, e3, Int.toNat_natCast, Int.toNat_natCast, e2, e4]; exact hij
      have hlt := List.pairwise_iff_getElem.1 (hpo.sublist hsub) i j hi hj hij
      refine ⟨hlt, ?_⟩
      generalize (o.filter fun z => decide (z ∈ y))[i] = u at *
      generalize (o.filter fun z => decide (z ∈ y))[j] = v at *
      have hu := ho.rng u hmi.1; have hv := ho.rng v hmj.1
      have eu : u = ((u.toNat : Nat) : Int) := by omega
      have ev : v = ((v.toNat : Nat) : Int) := by omega
      have hne : u.toNat ≠ v.toNat := fun e => by rw [e] at hlt; omega
      refine (hA _ _ (by omega) (by omega) hne).1 (hy.cq _ _ ?_ ?_ hne)
      · rw [← eu]; exact of_decide_eq_true hmi.2
      · rw [← ev]; exact of_decide_eq_true hmj.2
    have h3 := hx3 _ hp (fun z hz => ho.rng z (List.mem_filter.1 hz).1)
    have h4 := nodup_le (m := o.filter fun z => decide (z ∈ y)) hy.nd (fun z hz => by
      have := hy.rng z hz
      rw [List.mem_filter]
      refine ⟨?_, decide_eq_true hz⟩
      have ez : z = ((z.toNat : Nat) : Int) := by omega
      rw [ez]; exact ho.mem (by omega))
    omega
  rw [e, show m = x.length by omega]

theorem FnCrossLongest_true (code : List Int) (hb : ∀ x ∈ code, 0 ≤ x ∧ x ≤ 255) : D.E0 code = some true := by
  unfold D.E0 D.v0
  simp only [Option.bind_some]
  by_cases hl : (4096 : Int) < code.length
  · simp only [hl, decide_true, cond_true]
  · simp only [hl, decide_false, cond_false]
    obtain ⟨z, e1, k1⟩ := roll_ok code 1011 hb (by omega)
    simp only [e1, Option.bind_some]
    obtain ⟨⟨r, b, i, z2⟩, e2, hr0, hr6, rfl, k2⟩ := below_then k1 z 6 (by omega)
    dsimp only at hr0 hr6 k2
    have hw : IntKind.i64.wrap (1 + r) = ((1 + r.toNat : Nat) : Int) := by rw [w64 (by omega) (by omega)]; omega
    obtain ⟨n, hn, h1, h16⟩ : ∃ n : Nat, 1 + r.toNat = n ∧ 1 ≤ n ∧ n ≤ 16 := ⟨_, rfl, by omega, by omega⟩
    rw [hn] at hw
    simp only [e2, Option.bind_some, hw]
    obtain ⟨⟨p, b3, i3, z3⟩, e3, p1, p2, p3, rfl, k3⟩ := w9Order_ok k2 z2 n h16
    dsimp only at p1 p2 p3 k3
    simp only [e3, Option.bind_some]
    obtain ⟨⟨q, b4, i4, z4⟩, e4, q1, q2, q3, rfl, k4⟩ := w9Order_ok k3 z3 n h16
    dsimp only at q1 q2 q3 k4
    simp only [e4, Option.bind_some]
    have hp : PK n p := ⟨p1, p2, p3⟩
    have hq : PK n q := ⟨q1, q2, q3⟩
    obtain ⟨⟨F, t⟩, e5, rfl, hF, hX⟩ := crossings_ok h1 h16 hp hq
    dsimp only at hF hX
    have hg := GOk.grow hF h1 h16
    have hgl : (grow F).length = n := by rw [grow_len, hF.len]
    obtain ⟨G, e6, hG, hGl, hGA⟩ := Complement_ok hg
    obtain ⟨x, e7, hx⟩ := longestLine_ok h1 h16 hp hq e5 hF hX true
    obtain ⟨y, e8, hy⟩ := longestLine_ok h1 h16 hp hq e5 hF hX false
    have hA1 : ∀ u v, u < n → v < n → u ≠ v → (adj (grow F) u v ↔ XX p q u v = true) := fun u v hu hv huv => by
      rw [adj_grow hF hu, hX u v hu]; simp [hv, huv]
    have c1 := line_clique hp hg hgl hA1 hq hx
    have c2 := line_clique hp hG (by omega) (fun u v hu hv huv => by
      rw [hGA u v (by omega), hA1 u v hu hv huv, hgl]
      cases XX p q u v <;> simp [hv, huv]) hq hy
    unfold D.z0 D.G0
    have ne1 : ((x.length : Int) != (x.length : Int)) = false := by simp
    have ne2 : ((y.length : Int) != (y.length : Int)) = false := by simp
    simp only [spec_PermGraph_ok h1 h16 hp hq hF hX, Option.bind_some, e6, e7, e8, c1, c2, ne1, ne2, cond_false]
    have hxl : x.length ≤ n := rng_len ((RLn_ris hp true).nodup hx.1) hx.2.1
    refine (loop_ck x.length (fun _ => true) (.inl ()) (.inr false) (fun i hi => ?_) ?_).trans (by rw [show (List.range x.length).all (fun _ => true) = true by simp]; rfl)
    · rw [dlt hi, cond_true]
      refine (loop_ck i (fun _ => true) (.inl ()) (.inr false) (fun j hj => ?_) ?_).trans ?_
      · have hjx : j < x.length := by omega
        have h2 := hx.2.1 _ (List.getElem_mem hi)
        have h3 := hx.2.1 _ (List.getElem_mem hjx)
        have h4 := (List.pairwise_iff_getElem.1 hx.1 j i hjx hi hj)
        have hne : x[i].toNat ≠ x[j].toNat := fun e => by have := h4.1; rw [e] at this; omega
        have hX2 : XX p q x[i].toNat x[j].toNat = true := by rw [XX_comm hp hq (by omega) (by omega) hne]; exact h4.2
        have hn1 : nb F x[i].toNat x[j].toNat = true := by rw [hX _ _ (by omega), hX2]; simp [hne]; omega
        have hC := CrossIn_true h1 h16 e5 hF (show x[i].toNat < n by omega) (show x[j].toNat < n by omega) hn1
        have hE := spec_EdgeIn_true hg (show x[i].toNat < (grow F).length by omega) ((adj_grow hF (by omega)).2 hn1)
        rw [show ((x[i].toNat : Nat) : Int) = x[i] by omega, show ((x[j].toNat : Nat) : Int) = x[j] by omega] at hC hE
        rw [dlt hj, cond_true, idx_nat hi, Option.bind_some, idx_nat hjx, Option.bind_some, hC, Option.bind_some, Bool.not_true, cond_false, Option.bind_some, Option.bind_some, hE, Option.bind_some, Bool.not_true, Option.bind_some, cond_false, wi (by omega), if_pos rfl]
      · simp only [dnlt, cond_false]
      · rw [show (List.range i).all (fun _ => true) = true by simp, cond_true]
        dsimp only
        rw [wi (by omega), if_pos rfl]
    · simp only [dnlt, cond_false]
end Go.Sx
