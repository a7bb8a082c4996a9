/- An edge split leaves a graph in the plane or out of it. -/
import Derived.Test.YtijemnhleooagaaGreatDoorSp6
import Derived.Test.YtijemnhleooagaaGreatDoorTie
import Derived.Test.YtijemnhleooagaaGreatDoorCards
import Derived.SevenTiedAt
set_option linter.unusedVariables false
set_option linter.unusedSimpArgs false
set_option linter.unusedSectionVars false

namespace Go.Proofs.YtijemnhleooagaaGreatDoor.SplitSays
open Go Go.ChangeShapes Go.WideShapes Go.ChangeAt Go.RowKit

theorem c5 : Tryz.prog.cellsOf 5 = 1 := by kernel_rfl
theorem walk {W : World} {v0 : Value} {x0 : (List Int)} (hW : Sx.Cs W) (h0 : Sx.RSl (Sx.RIr .u8) (Sx.G0 W) v0 x0) :
    Calls Tryz.prog 3 #[v0] W fun e w' => e = .returned (.bool true) ∧ Below W.heap.size W w' := by
  refine (Wk.T1 hW (Sx.Mem.start W) h0.fits.1 (Sx.FnSplit_true x0 (fun z hz => Sx.byte_of_wf (h0.fits.2 z hz)))).mono fun e w' h => ?_
  obtain ⟨v, rfl, G', Ho, _, m, _, rfl⟩ := h
  exact ⟨rfl, m.below⟩

set_option maxRecDepth 100000 in
theorem lifted (os : Os) (started : os.Started) (H : Type) (enc : TypeId × Value → H) :
    ReturnsInHanded {} Tryz.checked os 3 .any (fun w args => (Rows.fnSplitSpec.pre enc Tryz.prog Tryz.f3 [] false w args ∧ laidMet Tryz.prog laidTab w) ∧ sizedMet enc Tryz.prog Tryz.f3 (OpenSpec.ofChange Rows.fnSplitSpec) false w args)
      (Rows.fnSplitSpec.post enc Tryz.prog Tryz.f3 false true false false) := by
  refine returnsInHanded_of_change_and (C := Tryz.checked) (X := fun w _ => laidMet Tryz.prog laidTab w) (fun _ _ _ hh h => h.of_heap hh) Tryz.ownK started (by kernel_rfl) Tryz.func3
    (ChangeSpec.witness_at (enc := enc) (C := Tryz.checked) (os := os) (X := fun w _ => laidMet Tryz.prog laidTab w) false (FW os) #[.slice none 0 0] 8 rfl (by kernel_rfl) (by kernel_rfl) (by kernel_rfl) (by kernel_rfl) (by kernel_rfl) (laidWorld_met os _)) ?_
  intro W base args ds gs before hval0 hW _ _ hL _
  have hval : ∀ (j : Nat) t v, Tryz.f3.params[j]? = some t → args[j]? = some v → Value.okWide Tryz.prog W .any base t v := hval0
  have hW' := hW
  obtain ⟨p, q, hA0, hV, rfl, hfz, hnd⟩ := hW
  have hA : DataW.TrodAll enc Tryz.prog W 0 (fun _ => true) true Tryz.f3.params.toList args.toList ds p := hA0
  rw [Tryz.params3] at hA hval
  obtain ⟨v0, vs0, d0, ds0, p0, q0, hargs, rfl, rfl, h0, r0⟩ := trodAll_cons hA
  obtain ⟨rfl, rfl, rfl⟩ := trodAll_nil r0
  obtain rfl : args = #[v0] := by cases args; simp_all
  obtain ⟨rfl, rfl⟩ := trodVars_none hV
  have lt0 : ∀ x ∈ p0, x.block < W.heap.size := by obtain ⟨m, hm⟩ := h0; exact DataW.trod_lt m _ _ _ hm
  obtain ⟨o0, k0⟩ : ∃ o, Sx.RSl (Sx.RIr .u8) (Sx.G0 W) v0 o := by
    obtain ⟨fuel, hf⟩ := h0
    obtain ⟨a, len, cap, rfl⟩ := okWide_slice Tryz.underlying22 (hval 0 22 v0 rfl rfl)
    exact Sx.Opens.slice Tryz.underlying22 c5 (Sx.Opens.intr Tryz.underlying5) fuel _ _ hf
  clear hA0 hval0
  refine (walk (tabW_of_laid hL) k0).mono fun e W' ⟨he, bel⟩ => ?_
  subst he
  exact ⟨_, rfl, _, _, _, [], _, [], hW', trodAll_mk1 (shut_bool Tryz.underlying4 _), (trodAll_cons_mk (Below.trod Tryz.laidOutK (by kernel_rfl) (of_decide_eq_true (by kernel_rfl)) h0 bel lt0) trodAll_mk0), rfl, bel.frame _, fun h => by cases h⟩

set_option maxHeartbeats 8000000 in
theorem facts : joinedFacts Tryz.prog 3 Tryz.f3 Rows.fnSplitSpec Rows.fnSplitRow = true := by
  simp only [joinedFacts, Bool.and_eq_true]
  and_intros <;> (as_aux_lemma => kernel_rfl)
theorem named : Tryz.prog.funcNamed Rows.fnSplitRow.func = some 3 := by kernel_rfl
theorem wrap : Tryz.f3.isWrapper Tryz.prog Rows.fnSplitRow.wrapper Rows.fnSplitRow.mainSum := by
  unfold Func.isWrapper
  first | (rw [if_pos (by decide +kernel)]; kernel_rfl) | (rw [if_neg (by decide +kernel)]; exact ⟨rfl, rfl⟩)
theorem over : Rows.fnSplitRow.holds Tryz.pinned (OpenSpec.ofChange Rows.fnSplitSpec) :=
  OpenClaim.holds_of_wide 3 Tryz.f3 rfl rfl rfl rfl rfl rfl rfl ⟨rfl, rfl, rfl, rfl, rfl⟩ rfl rfl rfl rfl rfl named Tryz.func3 facts
    (of_decide_eq_true (by as_aux_lemma => kernel_rfl)) wrap (fun os started H enc _ => lifted os started H enc)

theorem looksNot : false = Tryz.prog.looks [] := by kernel_rfl
theorem goes : false = Rows.fnSplitRow.goesBy Tryz.prog := by kernel_rfl
theorem mainIs : Tryz.prog.mainIs = some (true, "4a905ab9bcffb4a08c793b6b30d9346ee9166b5581ac0419314a1255d3cbfb1c".toList) := by kernel_rfl
theorem byText : Rows.fnSplitRow.wfByText (OpenSpec.ofChange Rows.fnSplitSpec) = true := by kernel_rfl
theorem proved : Rows.FnSplitCardSaid :=
  Claim7.holds_tied_plain_at .later [] [.data] true (true, "4a905ab9bcffb4a08c793b6b30d9346ee9166b5581ac0419314a1255d3cbfb1c") false
    over (fun _ h => by cases h) byText (fun _ h => by cases h) fnSplit_row_tie rfl ⟨rfl, rfl⟩ mainIs rfl
    (fun f fn hf hfn => by
      obtain rfl : f = 3 := Option.some.inj (named.symm.trans hf) |>.symm
      obtain rfl : fn = Tryz.f3 := (Option.some.inj (Tryz.func3.symm.trans hfn)).symm
      exact ⟨looksNot, fun j t ht => by
        rw [show Tryz.f3.params = #[22] from Tryz.params3] at ht
        rcases j with _ | j
        · obtain rfl : t = 22 := by simpa using ht.symm
          exact (show Tryz.prog.wantsStandIn 22 = false by as_aux_lemma => kernel_rfl)
        · simp at ht⟩)
    goes
end Go.Proofs.YtijemnhleooagaaGreatDoor.SplitSays
