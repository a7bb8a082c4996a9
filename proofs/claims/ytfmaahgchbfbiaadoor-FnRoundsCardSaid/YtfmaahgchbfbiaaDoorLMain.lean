/- A round trip is one; where a set breaks it there is none; who goes round goes through all: the statement FnRounds is proved for all arguments. -/
import Derived.Test.YtfmaahgchbfbiaaDoorL5
import Derived.Test.YtfmaahgchbfbiaaDoorTie
import Derived.Test.YtfmaahgchbfbiaaDoorCards
import Derived.SevenTiedAt
set_option linter.unusedVariables false
set_option linter.unusedSimpArgs false

namespace Go.Proofs.YtfmaahgchbfbiaaDoor.RoundsAre
open Go Go.ChangeShapes Go.WideShapes Go.ChangeAt Go.RowKit

theorem c5 : Tryd.prog.cellsOf 5 = 1 := by kernel_rfl
theorem walk {W : World} {v0 : Value} {x0 : (List Int)} (hW : Sx.Ct W) (h0 : Sx.RSl (Sx.RIr .u8) (Sx.G0 W) v0 x0) :
    Calls Tryd.prog 6 #[v0] W fun e w' => e = .returned (.bool true) ∧ Below W.heap.size W w' := by
  refine (Wk.N0 hW (Sx.Mem.start W) h0.fits.1 (Sx.FnRounds_true x0 (fun z hz => Sx.byte_of_wf (h0.fits.2 z hz)))).mono fun e w' h => ?_
  obtain ⟨v, rfl, G', Ho, _, m, _, rfl⟩ := h
  exact ⟨rfl, m.below⟩

set_option maxRecDepth 100000 in
theorem lifted (os : Os) (started : os.Started) (H : Type) (enc : TypeId × Value → H) :
    ReturnsInHanded {} Tryd.checked os 6 .any (fun w args => (Rows.fnRoundsSpec.pre enc Tryd.prog Tryd.f6 [] false w args ∧ laidMet Tryd.prog laidTab w) ∧ sizedMet enc Tryd.prog Tryd.f6 (OpenSpec.ofChange Rows.fnRoundsSpec) false w args)
      (Rows.fnRoundsSpec.post enc Tryd.prog Tryd.f6 false true false false) := by
  refine returnsInHanded_of_change_and (C := Tryd.checked) (X := fun w _ => laidMet Tryd.prog laidTab w) (fun _ _ _ hh h => h.of_heap hh) Tryd.ownK started (by kernel_rfl) Tryd.func6
    (ChangeSpec.witness_at (enc := enc) (C := Tryd.checked) (os := os) (X := fun w _ => laidMet Tryd.prog laidTab w) false (Ez os) #[.slice none 0 0] 8 rfl (by kernel_rfl) (by kernel_rfl) (by kernel_rfl) (by kernel_rfl) (by kernel_rfl) (laidWorld_met os _)) ?_
  intro W base args ds gs before hval0 hW _ _ hL _
  have hval : ∀ (j : Nat) t v, Tryd.f6.params[j]? = some t → args[j]? = some v → Value.okWide Tryd.prog W .any base t v := hval0
  have hW' := hW
  obtain ⟨p, q, hA0, hV, rfl, hfz, hnd⟩ := hW
  have hA : DataW.TrodAll enc Tryd.prog W 0 (fun _ => true) true Tryd.f6.params.toList args.toList ds p := hA0
  rw [Tryd.params6] at hA hval
  obtain ⟨v0, vs0, d0, ds0, p0, q0, hargs, rfl, rfl, h0, r0⟩ := trodAll_cons hA
  obtain ⟨rfl, rfl, rfl⟩ := trodAll_nil r0
  obtain rfl : args = #[v0] := by cases args; simp_all
  obtain ⟨rfl, rfl⟩ := trodVars_none hV
  have lt0 : ∀ x ∈ p0, x.block < W.heap.size := by obtain ⟨m, hm⟩ := h0; exact DataW.trod_lt m _ _ _ hm
  obtain ⟨o0, k0⟩ : ∃ o, Sx.RSl (Sx.RIr .u8) (Sx.G0 W) v0 o := by
    obtain ⟨fuel, hf⟩ := h0
    obtain ⟨a, len, cap, rfl⟩ := okWide_slice Tryd.underlying35 (hval 0 35 v0 rfl rfl)
    exact Sx.Opens.slice Tryd.underlying35 c5 (Sx.Opens.intr Tryd.underlying5) fuel _ _ hf
  clear hA0 hval0
  refine (walk (tabW_of_laid hL) k0).mono fun e W' ⟨he, bel⟩ => ?_
  subst he
  exact ⟨_, rfl, _, _, _, [], _, [], hW', trodAll_mk1 (shut_bool Tryd.underlying4 _), (trodAll_cons_mk (Below.trod Tryd.laidOutK (by kernel_rfl) (of_decide_eq_true (by kernel_rfl)) h0 bel lt0) trodAll_mk0), rfl, bel.frame _, fun h => by cases h⟩

set_option maxHeartbeats 8000000 in
theorem facts : joinedFacts Tryd.prog 6 Tryd.f6 Rows.fnRoundsSpec Rows.fnRoundsRow = true := by
  simp only [joinedFacts, Bool.and_eq_true]
  and_intros <;> (as_aux_lemma => kernel_rfl)
theorem named : Tryd.prog.funcNamed Rows.fnRoundsRow.func = some 6 := by kernel_rfl
theorem wrap : Tryd.f6.isWrapper Tryd.prog Rows.fnRoundsRow.wrapper Rows.fnRoundsRow.mainSum := by
  unfold Func.isWrapper
  first | (rw [if_pos (by decide +kernel)]; kernel_rfl) | (rw [if_neg (by decide +kernel)]; exact ⟨rfl, rfl⟩)
theorem over : Rows.fnRoundsRow.holds Tryd.pinned (OpenSpec.ofChange Rows.fnRoundsSpec) :=
  OpenClaim.holds_of_wide 6 Tryd.f6 rfl rfl rfl rfl rfl rfl rfl ⟨rfl, rfl, rfl, rfl, rfl⟩ rfl rfl rfl rfl rfl named Tryd.func6 facts
    (of_decide_eq_true (by as_aux_lemma => kernel_rfl)) wrap (fun os started H enc _ => lifted os started H enc)

theorem looksNot : false = Tryd.prog.looks [] := by kernel_rfl
theorem goes : false = Rows.fnRoundsRow.goesBy Tryd.prog := by kernel_rfl
theorem mainIs : Tryd.prog.mainIs = some (true, "492fa89a0886640d62b18ea09476edb2ec1bfd3b67129f19bcd2213a63709610".toList) := by kernel_rfl
theorem byText : Rows.fnRoundsRow.wfByText (OpenSpec.ofChange Rows.fnRoundsSpec) = true := by kernel_rfl
theorem proved : Rows.FnRoundsCardSaid :=
  Claim7.holds_tied_plain_at .later [] [.data] true (true, "492fa89a0886640d62b18ea09476edb2ec1bfd3b67129f19bcd2213a63709610") false
    over (fun _ h => by cases h) byText (fun _ h => by cases h) fnRounds_row_tie rfl ⟨rfl, rfl⟩ mainIs rfl
    (fun f fn hf hfn => by
      obtain rfl : f = 6 := Option.some.inj (named.symm.trans hf) |>.symm
      obtain rfl : fn = Tryd.f6 := (Option.some.inj (Tryd.func6.symm.trans hfn)).symm
      exact ⟨looksNot, fun j t ht => by
        rw [show Tryd.f6.params = #[35] from Tryd.params6] at ht
        rcases j with _ | j
        · obtain rfl : t = 35 := by simpa using ht.symm
          exact (show Tryd.prog.wantsStandIn 35 = false by as_aux_lemma => kernel_rfl)
        · simp at ht⟩)
    goes
end Go.Proofs.YtfmaahgchbfbiaaDoor.RoundsAre
