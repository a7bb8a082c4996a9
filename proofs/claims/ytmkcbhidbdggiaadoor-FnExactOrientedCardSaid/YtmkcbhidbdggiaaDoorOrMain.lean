/- the program's orientation is the reference's: both go class by class -/
import Derived.Test.YtmkcbhidbdggiaaDoorOr5
import Derived.Test.YtmkcbhidbdggiaaDoorTie
import Derived.Test.YtmkcbhidbdggiaaDoorCards
import Derived.SevenTiedAt
set_option linter.unusedVariables false
set_option linter.unusedSimpArgs false

namespace Go.Proofs.YtmkcbhidbdggiaaDoor.OrientedIs
open Go Go.ChangeShapes Go.WideShapes Go.ChangeAt Go.RowKit

theorem c2 : Tryd.prog.cellsOf 2 = 1 := by kernel_rfl
theorem c27 : Tryd.prog.cellsOf 27 = 1 := by kernel_rfl
theorem c31 : Tryd.prog.cellsOf 31 = 1 := by kernel_rfl
theorem c43 : Tryd.prog.cellsOf 43 = 1 := by kernel_rfl
theorem walk {W : World} {v0 : Value} {x0 : (List (List Int))} (hW : Sx.C9 W) (h0 : Sx.RSl (Sx.RSl (Sx.RI .i64)) (Sx.G0 W) v0 x0) :
    Calls Tryd.prog 5 #[.agg #[v0]] W fun e w' => e = .returned (.bool true) ∧ Below W.heap.size W w' := by
  refine (Wk.E0 hW (Sx.Mem.start W) h0 (Sx.D8 x0 h0.le h0.le2)).mono fun e w' h => ?_
  obtain ⟨v, rfl, G', Ho, _, m, _, rfl⟩ := h
  exact ⟨rfl, m.below⟩

set_option maxRecDepth 100000 in
theorem lifted (os : Os) (started : os.Started) (H : Type) (enc : TypeId × Value → H) :
    ReturnsInHanded {} Tryd.checked os 5 .any (fun w args => (Rows.fnExactOrientedSpec.pre enc Tryd.prog Tryd.f5 [] false w args ∧ laidMet Tryd.prog laidTab w) ∧ sizedMet enc Tryd.prog Tryd.f5 (OpenSpec.ofChange Rows.fnExactOrientedSpec) false w args)
      (Rows.fnExactOrientedSpec.post enc Tryd.prog Tryd.f5 false true false false) := by
  refine returnsInHanded_of_change_and (C := Tryd.checked) (X := fun w _ => laidMet Tryd.prog laidTab w) (fun _ _ _ hh h => h.of_heap hh) Tryd.ownK started (by kernel_rfl) Tryd.func5
    (ChangeSpec.witness_at (enc := enc) (C := Tryd.checked) (os := os) (X := fun w _ => laidMet Tryd.prog laidTab w) false (Er os) #[.agg #[.slice none 0 0]] 8 rfl (by kernel_rfl) (by kernel_rfl) (by kernel_rfl) (by kernel_rfl) (by kernel_rfl) (laidWorld_met os _)) ?_
  intro W base args ds gs before hval0 hW _ _ hL _
  have hval : ∀ (j : Nat) t v, Tryd.f5.params[j]? = some t → args[j]? = some v → Value.okWide Tryd.prog W .any base t v := hval0
  have hW' := hW
  obtain ⟨p, q, hA0, hV, rfl, hfz, hnd⟩ := hW
  have hA : DataW.TrodAll enc Tryd.prog W 0 (fun _ => true) true Tryd.f5.params.toList args.toList ds p := hA0
  rw [Tryd.params5] at hA hval
  obtain ⟨v0, vs0, d0, ds0, p0, q0, hargs, rfl, rfl, h0, r0⟩ := trodAll_cons hA
  obtain ⟨rfl, rfl, rfl⟩ := trodAll_nil r0
  obtain rfl : args = #[v0] := by cases args; simp_all
  obtain ⟨rfl, rfl⟩ := trodVars_none hV
  have lt0 : ∀ x ∈ p0, x.block < W.heap.size := by obtain ⟨m, hm⟩ := h0; exact DataW.trod_lt m _ _ _ hm
  obtain ⟨u0, g0, e0, k0⟩ : ∃ u0 g0, v0 = .agg #[u0] ∧ Sx.RSl (Sx.RSl (Sx.RI .i64)) (Sx.G0 W) u0 g0 := by
    obtain ⟨fuel, hf⟩ := h0
    obtain ⟨u0, g, e0, k0⟩ := Sx.Opens.struct1 Tryd.underlying43 c43 rfl c27 (Sx.Opens.slice Tryd.underlying27 c31 (Sx.Opens.slice Tryd.underlying31 c2 (Sx.Opens.int Tryd.underlying2))) hf
    have hv0 := hval 0 43 v0 rfl rfl
    unfold Value.okWide at hv0
    rw [Tryd.underlying43] at hv0
    obtain ⟨cs, rfl, _, _⟩ := hv0
    refine ⟨u0, g, ?_, k0⟩
    congr 1
    obtain ⟨l⟩ := cs
    simpa [Value.cells] using e0
  subst e0
  clear hA0 hval0
  refine (walk (tabW_of_laid hL) k0).mono fun e W' ⟨he, bel⟩ => ?_
  subst he
  exact ⟨_, rfl, _, _, _, [], _, [], hW', trodAll_mk1 (shut_bool Tryd.underlying4 _), (trodAll_cons_mk (Below.trod Tryd.laidOutK (by kernel_rfl) (of_decide_eq_true (by kernel_rfl)) h0 bel lt0) trodAll_mk0), rfl, bel.frame _, fun h => by cases h⟩

set_option maxHeartbeats 8000000 in
theorem facts : joinedFacts Tryd.prog 5 Tryd.f5 Rows.fnExactOrientedSpec Rows.fnExactOrientedRow = true := by
  simp only [joinedFacts, Bool.and_eq_true]
  and_intros <;> (as_aux_lemma => kernel_rfl)
theorem named : Tryd.prog.funcNamed Rows.fnExactOrientedRow.func = some 5 := by kernel_rfl
theorem wrap : Tryd.f5.isWrapper Tryd.prog Rows.fnExactOrientedRow.wrapper Rows.fnExactOrientedRow.mainSum := by
  unfold Func.isWrapper
  first | (rw [if_pos (by decide +kernel)]; kernel_rfl) | (rw [if_neg (by decide +kernel)]; exact ⟨rfl, rfl⟩)
theorem over : Rows.fnExactOrientedRow.holds Tryd.pinned (OpenSpec.ofChange Rows.fnExactOrientedSpec) :=
  OpenClaim.holds_of_wide 5 Tryd.f5 rfl rfl rfl rfl rfl rfl rfl ⟨rfl, rfl, rfl, rfl, rfl⟩ rfl rfl rfl rfl rfl named Tryd.func5 facts
    (of_decide_eq_true (by as_aux_lemma => kernel_rfl)) wrap (fun os started H enc _ => lifted os started H enc)

theorem looksNot : false = Tryd.prog.looks [] := by kernel_rfl
theorem goes : false = Rows.fnExactOrientedRow.goesBy Tryd.prog := by kernel_rfl
theorem mainIs : Tryd.prog.mainIs = some (true, "f858dd03d91d20ec4241f0f12233de77255d98b00552d3b08b722336fb323b52".toList) := by kernel_rfl
theorem byText : Rows.fnExactOrientedRow.wfByText (OpenSpec.ofChange Rows.fnExactOrientedSpec) = true := by kernel_rfl
theorem proved : Rows.FnExactOrientedCardSaid :=
  Claim7.holds_tied_plain_at .later [] [.data] true (true, "f858dd03d91d20ec4241f0f12233de77255d98b00552d3b08b722336fb323b52") false
    over (fun _ h => by cases h) byText (fun _ h => by cases h) fnExactOriented_row_tie rfl ⟨rfl, rfl⟩ mainIs rfl
    (fun f fn hf hfn => by
      obtain rfl : f = 5 := Option.some.inj (named.symm.trans hf) |>.symm
      obtain rfl : fn = Tryd.f5 := (Option.some.inj (Tryd.func5.symm.trans hfn)).symm
      exact ⟨looksNot, fun j t ht => by
        rw [show Tryd.f5.params = #[43] from Tryd.params5] at ht
        rcases j with _ | j
        · obtain rfl : t = 43 := by simpa using ht.symm
          exact (show Tryd.prog.wantsStandIn 43 = false by as_aux_lemma => kernel_rfl)
        · simp at ht⟩)
    goes
end Go.Proofs.YtmkcbhidbdggiaaDoor.OrientedIs
