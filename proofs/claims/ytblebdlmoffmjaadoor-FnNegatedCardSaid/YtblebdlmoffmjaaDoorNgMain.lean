/- FnNegated: what is negated is not so, what is not free does not matter, and what is said without free names is said of each graph with other names. -/
import Derived.Test.YtblebdlmoffmjaaDoorNg5
import Derived.Test.YtblebdlmoffmjaaDoorTie
import Derived.Test.YtblebdlmoffmjaaDoorCards
import Derived.SevenTiedAt
set_option linter.unusedVariables false
set_option linter.unusedSimpArgs false

namespace Go.Proofs.YtblebdlmoffmjaaDoor.NegatedSays
open Go Go.ChangeShapes Go.WideShapes Go.ChangeAt Go.RowKit

theorem c5 : Tryd.prog.cellsOf 5 = 1 := by kernel_rfl
theorem walk {W : World} {v0 : Value} {x0 : (List Int)} (hW : Sx.TabW W) (h0 : Sx.RSl (Sx.RIr .u8) (Sx.G0 W) v0 x0) :
    Calls Tryd.prog 3 #[v0] W fun e w' => e = .returned (.bool true) ∧ Below W.heap.size W w' := by
  refine (Wk.a1 hW (Sx.Mem.start W) h0.fits.1 (Sx.FnNegated_true x0 (fun z hz => Sx.byte_of_wf (h0.fits.2 z hz)))).mono fun e w' h => ?_
  obtain ⟨v, rfl, G', Ho, _, m, _, rfl⟩ := h
  exact ⟨rfl, m.below⟩

set_option maxRecDepth 100000 in
theorem lifted (os : Os) (started : os.Started) (H : Type) (enc : TypeId × Value → H) :
    ReturnsInHanded {} Tryd.checked os 3 .any (fun w args => (Rows.fnNegatedSpec.pre enc Tryd.prog Tryd.f3 [] false w args ∧ laidMet Tryd.prog laidTab w) ∧ sizedMet enc Tryd.prog Tryd.f3 (OpenSpec.ofChange Rows.fnNegatedSpec) false w args)
      (Rows.fnNegatedSpec.post enc Tryd.prog Tryd.f3 false true false false) := by
  refine returnsInHanded_of_change_and (C := Tryd.checked) (X := fun w _ => laidMet Tryd.prog laidTab w) (fun _ _ _ hh h => h.of_heap hh) Tryd.ownK started (by kernel_rfl) Tryd.func3
    (ChangeSpec.witness_at (enc := enc) (C := Tryd.checked) (os := os) (X := fun w _ => laidMet Tryd.prog laidTab w) false (D4 os) #[.slice none 0 0] 8 rfl (by kernel_rfl) (by kernel_rfl) (by kernel_rfl) (by kernel_rfl) (by kernel_rfl) (laidWorld_met os _)) ?_
  intro W base args ds gs before hval0 hW _ _ hL _
  have hval : ∀ (j : Nat) t v, Tryd.f3.params[j]? = some t → args[j]? = some v → Value.okWide Tryd.prog W .any base t v := hval0
  have hW' := hW
  obtain ⟨p, q, hA0, hV, rfl, hfz, hnd⟩ := hW
  have hA : DataW.TrodAll enc Tryd.prog W 0 (fun _ => true) true Tryd.f3.params.toList args.toList ds p := hA0
  rw [Tryd.params3] at hA hval
  obtain ⟨v0, vs0, d0, ds0, p0, q0, hargs, rfl, rfl, h0, r0⟩ := trodAll_cons hA
  obtain ⟨rfl, rfl, rfl⟩ := trodAll_nil r0
  obtain rfl : args = #[v0] := by cases args; simp_all
  obtain ⟨rfl, rfl⟩ := trodVars_none hV
  have lt0 : ∀ x ∈ p0, x.block < W.heap.size := by obtain ⟨m, hm⟩ := h0; exact DataW.trod_lt m _ _ _ hm
  obtain ⟨o0, k0⟩ : ∃ o, Sx.RSl (Sx.RIr .u8) (Sx.G0 W) v0 o := by
    obtain ⟨fuel, hf⟩ := h0
    obtain ⟨a, len, cap, rfl⟩ := okWide_slice Tryd.underlying22 (hval 0 22 v0 rfl rfl)
    exact Sx.Opens.slice Tryd.underlying22 c5 (Sx.Opens.intr Tryd.underlying5) fuel _ _ hf
  clear hA0 hval0
  refine (walk (tabW_of_laid hL) k0).mono fun e W' ⟨he, bel⟩ => ?_
  subst he
  exact ⟨_, rfl, _, _, _, [], _, [], hW', trodAll_mk1 (shut_bool Tryd.underlying4 _), (trodAll_cons_mk (Below.trod Tryd.laidOutK (by kernel_rfl) (of_decide_eq_true (by kernel_rfl)) h0 bel lt0) trodAll_mk0), rfl, bel.frame _, fun h => by cases h⟩

set_option maxHeartbeats 8000000 in
theorem facts : joinedFacts Tryd.prog 3 Tryd.f3 Rows.fnNegatedSpec Rows.fnNegatedRow = true := by
  simp only [joinedFacts, Bool.and_eq_true]
  and_intros <;> (as_aux_lemma => kernel_rfl)
theorem named : Tryd.prog.funcNamed Rows.fnNegatedRow.func = some 3 := by kernel_rfl
theorem wrap : Tryd.f3.isWrapper Tryd.prog Rows.fnNegatedRow.wrapper Rows.fnNegatedRow.mainSum := by
  unfold Func.isWrapper
  first | (rw [if_pos (by decide +kernel)]; kernel_rfl) | (rw [if_neg (by decide +kernel)]; exact ⟨rfl, rfl⟩)
theorem over : Rows.fnNegatedRow.holds Tryd.pinned (OpenSpec.ofChange Rows.fnNegatedSpec) :=
  OpenClaim.holds_of_wide 3 Tryd.f3 rfl rfl rfl rfl rfl rfl rfl ⟨rfl, rfl, rfl, rfl, rfl⟩ rfl rfl rfl rfl rfl named Tryd.func3 facts
    (of_decide_eq_true (by as_aux_lemma => kernel_rfl)) wrap (fun os started H enc _ => lifted os started H enc)

theorem looksNot : false = Tryd.prog.looks [] := by kernel_rfl
theorem goes : false = Rows.fnNegatedRow.goesBy Tryd.prog := by kernel_rfl
theorem mainIs : Tryd.prog.mainIs = some (true, "51f9c47759f91921889974c2f1bbe5395064d48ae1eb9162e7269ffdf8f5fd14".toList) := by kernel_rfl
theorem byText : Rows.fnNegatedRow.wfByText (OpenSpec.ofChange Rows.fnNegatedSpec) = true := by kernel_rfl
theorem proved : Rows.FnNegatedCardSaid :=
  Claim7.holds_tied_plain_at .later [] [.data] true (true, "51f9c47759f91921889974c2f1bbe5395064d48ae1eb9162e7269ffdf8f5fd14") false
    over (fun _ h => by cases h) byText (fun _ h => by cases h) fnNegated_row_tie rfl ⟨rfl, rfl⟩ mainIs rfl
    (fun f fn hf hfn => by
      obtain rfl : f = 3 := Option.some.inj (named.symm.trans hf) |>.symm
      obtain rfl : fn = Tryd.f3 := (Option.some.inj (Tryd.func3.symm.trans hfn)).symm
      exact ⟨looksNot, fun j t ht => by
        rw [show Tryd.f3.params = #[22] from Tryd.params3] at ht
        rcases j with _ | j
        · obtain rfl : t = 22 := by simpa using ht.symm
          exact (show Tryd.prog.wantsStandIn 22 = false by as_aux_lemma => kernel_rfl)
        · simp at ht⟩)
    goes
end Go.Proofs.YtblebdlmoffmjaaDoor.NegatedSays
