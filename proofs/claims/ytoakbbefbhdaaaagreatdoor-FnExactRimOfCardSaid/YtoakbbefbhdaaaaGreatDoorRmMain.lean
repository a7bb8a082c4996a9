/- The program's RimOf returns what the reference's returns, for all arguments: proved for every graph and every turn of neighbours, without conditions. -/
import Derived.Test.YtoakbbefbhdaaaaGreatDoorRm5
import Derived.Test.YtoakbbefbhdaaaaGreatDoorTie
import Derived.Test.YtoakbbefbhdaaaaGreatDoorCards
import Derived.SevenTiedAt
set_option linter.unusedVariables false
set_option linter.unusedSimpArgs false

namespace Go.Proofs.YtoakbbefbhdaaaaGreatDoor.RimIs
open Go Go.ChangeShapes Go.WideShapes Go.ChangeAt Go.RowKit

theorem c2 : Tryz.prog.cellsOf 2 = 1 := by kernel_rfl
theorem c22 : Tryz.prog.cellsOf 22 = 1 := by kernel_rfl
theorem c24 : Tryz.prog.cellsOf 24 = 1 := by kernel_rfl
theorem c26 : Tryz.prog.cellsOf 26 = 1 := by kernel_rfl
theorem c39 : Tryz.prog.cellsOf 39 = 1 := by kernel_rfl
theorem walk {W : World} {v0 : Value} {x0 : (List (List Int))} {v1 : Value} {x1 : (List (List Int))} (hW : Sx.CZ W) (h0 : Sx.RSl (Sx.RSl (Sx.RI .i64)) (Sx.G0 W) v0 x0) (h1 : Sx.RSl (Sx.RSl (Sx.RI .i64)) (Sx.G0 W) v1 x1) :
    Calls Tryz.prog 3 #[.agg #[v0], .agg #[v1]] W fun e w' => e = .returned (.bool true) ∧ Below W.heap.size W w' := by
  refine (Wk.m1 hW (Sx.Mem.start W) h0 h1 (Sx.Eo x0 x1 h0.le h0.le2 h1.le h1.le2)).mono fun e w' h => ?_
  obtain ⟨v, rfl, G', Ho, _, m, _, rfl⟩ := h
  exact ⟨rfl, m.below⟩

set_option maxRecDepth 100000 in
theorem lifted (os : Os) (started : os.Started) (H : Type) (enc : TypeId × Value → H) :
    ReturnsInHanded {} Tryz.checked os 3 .any (fun w args => (Rows.fnExactRimOfSpec.pre enc Tryz.prog Tryz.f3 [] false w args ∧ laidMet Tryz.prog laidTab w) ∧ sizedMet enc Tryz.prog Tryz.f3 (OpenSpec.ofChange Rows.fnExactRimOfSpec) false w args)
      (Rows.fnExactRimOfSpec.post enc Tryz.prog Tryz.f3 false true false false) := by
  refine returnsInHanded_of_change_and (C := Tryz.checked) (X := fun w _ => laidMet Tryz.prog laidTab w) (fun _ _ _ hh h => h.of_heap hh) Tryz.ownK started (by kernel_rfl) Tryz.func3
    (ChangeSpec.witness_at (enc := enc) (C := Tryz.checked) (os := os) (X := fun w _ => laidMet Tryz.prog laidTab w) false (D8 os) #[.agg #[.slice none 0 0], .agg #[.slice none 0 0]] 8 rfl (by kernel_rfl) (by kernel_rfl) (by kernel_rfl) (by kernel_rfl) (by kernel_rfl) (laidWorld_met os _)) ?_
  intro W base args ds gs before hval0 hW _ _ hL _
  have hval : ∀ (j : Nat) t v, Tryz.f3.params[j]? = some t → args[j]? = some v → Value.okWide Tryz.prog W .any base t v := hval0
  have hW' := hW
  obtain ⟨p, q, hA0, hV, rfl, hfz, hnd⟩ := hW
  have hA : DataW.TrodAll enc Tryz.prog W 0 (fun _ => true) true Tryz.f3.params.toList args.toList ds p := hA0
  rw [Tryz.params3] at hA hval
  obtain ⟨v0, vs0, d0, ds0, p0, q0, hargs, rfl, rfl, h0, r0⟩ := trodAll_cons hA
  obtain ⟨v1, vs1, d1, ds1, p1, q1, rfl, rfl, rfl, h1, r1⟩ := trodAll_cons r0
  obtain ⟨rfl, rfl, rfl⟩ := trodAll_nil r1
  obtain rfl : args = #[v0, v1] := by cases args; simp_all
  obtain ⟨rfl, rfl⟩ := trodVars_none hV
  have lt0 : ∀ x ∈ p0, x.block < W.heap.size := by obtain ⟨m, hm⟩ := h0; exact DataW.trod_lt m _ _ _ hm
  have lt1 : ∀ x ∈ p1, x.block < W.heap.size := by obtain ⟨m, hm⟩ := h1; exact DataW.trod_lt m _ _ _ hm
  obtain ⟨u0, g0, e0, k0⟩ : ∃ u0 g0, v0 = .agg #[u0] ∧ Sx.RSl (Sx.RSl (Sx.RI .i64)) (Sx.G0 W) u0 g0 := by
    obtain ⟨fuel, hf⟩ := h0
    obtain ⟨u0, g, e0, k0⟩ := Sx.Opens.struct1 Tryz.underlying24 c24 rfl c22 (Sx.Opens.slice Tryz.underlying22 c39 (Sx.Opens.slice Tryz.underlying39 c2 (Sx.Opens.int Tryz.underlying2))) hf
    have hv0 := hval 0 24 v0 rfl rfl
    unfold Value.okWide at hv0
    rw [Tryz.underlying24] at hv0
    obtain ⟨cs, rfl, _, _⟩ := hv0
    refine ⟨u0, g, ?_, k0⟩
    congr 1
    obtain ⟨l⟩ := cs
    simpa [Value.cells] using e0
  subst e0
  obtain ⟨u1, g1, e1, k1⟩ : ∃ u1 g1, v1 = .agg #[u1] ∧ Sx.RSl (Sx.RSl (Sx.RI .i64)) (Sx.G0 W) u1 g1 := by
    obtain ⟨fuel, hf⟩ := h1
    obtain ⟨u0, g, e0, k0⟩ := Sx.Opens.struct1 Tryz.underlying26 c26 rfl c22 (Sx.Opens.slice Tryz.underlying22 c39 (Sx.Opens.slice Tryz.underlying39 c2 (Sx.Opens.int Tryz.underlying2))) hf
    have hv0 := hval 1 26 v1 rfl rfl
    unfold Value.okWide at hv0
    rw [Tryz.underlying26] at hv0
    obtain ⟨cs, rfl, _, _⟩ := hv0
    refine ⟨u0, g, ?_, k0⟩
    congr 1
    obtain ⟨l⟩ := cs
    simpa [Value.cells] using e0
  subst e1
  clear hA0 hval0
  refine (walk (tabW_of_laid hL) k0 k1).mono fun e W' ⟨he, bel⟩ => ?_
  subst he
  exact ⟨_, rfl, _, _, _, [], _, [], hW', trodAll_mk1 (shut_bool Tryz.underlying4 _), (trodAll_cons_mk (Below.trod Tryz.laidOutK (by kernel_rfl) (of_decide_eq_true (by kernel_rfl)) h0 bel lt0) (trodAll_cons_mk (Below.trod Tryz.laidOutK (by kernel_rfl) (of_decide_eq_true (by kernel_rfl)) h1 bel lt1) trodAll_mk0)), rfl, bel.frame _, fun h => by cases h⟩

set_option maxHeartbeats 8000000 in
theorem facts : joinedFacts Tryz.prog 3 Tryz.f3 Rows.fnExactRimOfSpec Rows.fnExactRimOfRow = true := by
  simp only [joinedFacts, Bool.and_eq_true]
  and_intros <;> (as_aux_lemma => kernel_rfl)
theorem named : Tryz.prog.funcNamed Rows.fnExactRimOfRow.func = some 3 := by kernel_rfl
theorem wrap : Tryz.f3.isWrapper Tryz.prog Rows.fnExactRimOfRow.wrapper Rows.fnExactRimOfRow.mainSum := by
  unfold Func.isWrapper
  first | (rw [if_pos (by decide +kernel)]; kernel_rfl) | (rw [if_neg (by decide +kernel)]; exact ⟨rfl, rfl⟩)
theorem over : Rows.fnExactRimOfRow.holds Tryz.pinned (OpenSpec.ofChange Rows.fnExactRimOfSpec) :=
  OpenClaim.holds_of_wide 3 Tryz.f3 rfl rfl rfl rfl rfl rfl rfl ⟨rfl, rfl, rfl, rfl, rfl⟩ rfl rfl rfl rfl rfl named Tryz.func3 facts
    (of_decide_eq_true (by as_aux_lemma => kernel_rfl)) wrap (fun os started H enc _ => lifted os started H enc)

theorem looksNot : false = Tryz.prog.looks [] := by kernel_rfl
theorem goes : false = Rows.fnExactRimOfRow.goesBy Tryz.prog := by kernel_rfl
theorem mainIs : Tryz.prog.mainIs = some (true, "f759673616f2a7f68071df02e300043e46b04f409bed8843586efa1d0788faeb".toList) := by kernel_rfl
theorem byText : Rows.fnExactRimOfRow.wfByText (OpenSpec.ofChange Rows.fnExactRimOfSpec) = true := by kernel_rfl
theorem proved : Rows.FnExactRimOfCardSaid :=
  Claim7.holds_tied_plain_at .later [] [.data] true (true, "f759673616f2a7f68071df02e300043e46b04f409bed8843586efa1d0788faeb") false
    over (fun _ h => by cases h) byText (fun _ h => by cases h) fnExactRimOf_row_tie rfl ⟨rfl, rfl⟩ mainIs rfl
    (fun f fn hf hfn => by
      obtain rfl : f = 3 := Option.some.inj (named.symm.trans hf) |>.symm
      obtain rfl : fn = Tryz.f3 := (Option.some.inj (Tryz.func3.symm.trans hfn)).symm
      exact ⟨looksNot, fun j t ht => by
        rw [show Tryz.f3.params = #[24, 26] from Tryz.params3] at ht
        rcases j with _ | _ | j
        · obtain rfl : t = 24 := by simpa using ht.symm
          exact (show Tryz.prog.wantsStandIn 24 = false by as_aux_lemma => kernel_rfl)
        · obtain rfl : t = 26 := by simpa using ht.symm
          exact (show Tryz.prog.wantsStandIn 26 = false by as_aux_lemma => kernel_rfl)
        · simp at ht⟩)
    goes
end Go.Proofs.YtoakbbefbhdaaaaGreatDoor.RimIs
