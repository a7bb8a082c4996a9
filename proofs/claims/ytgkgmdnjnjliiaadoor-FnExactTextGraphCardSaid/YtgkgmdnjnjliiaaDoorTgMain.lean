/- The program's TextGraph returns what the reference's TextGraph returns, for every text; no conditions. -/
import Derived.Test.YtgkgmdnjnjliiaaDoorTg3
import Derived.Test.YtgkgmdnjnjliiaaDoorTie
import Derived.Test.YtgkgmdnjnjliiaaDoorCards
import Derived.SevenTiedAt
set_option linter.unusedVariables false
set_option linter.unusedSimpArgs false
set_option linter.unusedSectionVars false

namespace Go.Proofs.YtgkgmdnjnjliiaaDoor.TextGraphIs
open Go Go.ChangeShapes Go.WideShapes Go.ChangeAt Go.RowKit

theorem walk {W : World} {x0 : ByteArray} (hW : Sx.TxtW W)  :
    Calls Tryd.prog 3 #[.string x0] W fun e w' => e = .returned (.bool true) ∧ Below W.heap.size W w' := by
  refine (Wk.a0 hW (Sx.Mem.start W)  (Sx.CM x0 )).mono fun e w' h => ?_
  obtain ⟨v, rfl, G', Ho, _, m, _, rfl⟩ := h
  exact ⟨rfl, m.below⟩

set_option maxRecDepth 100000 in
theorem lifted (os : Os) (started : os.Started) (H : Type) (enc : TypeId × Value → H) :
    ReturnsInHanded {} Tryd.checked os 3 .any (fun w args => (Rows.fnExactTextGraphSpec.pre enc Tryd.prog Tryd.f3 [] false w args ∧ laidMet Tryd.prog laidTab w) ∧ sizedMet enc Tryd.prog Tryd.f3 (OpenSpec.ofChange Rows.fnExactTextGraphSpec) false w args)
      (Rows.fnExactTextGraphSpec.post enc Tryd.prog Tryd.f3 false true false false) := by
  refine Tryd.wrap (C := Tryd.checked) (X := fun w _ => laidMet Tryd.prog laidTab w) (fun _ _ _ hh h => h.of_heap hh) Tryd.ownK started (by kernel_rfl) Tryd.func3
    (ChangeSpec.witness_shaped (enc := enc) (C := Tryd.checked) (os := os) (X := fun w _ => laidMet Tryd.prog laidTab w) false (World.laidAll Tryd.prog os laidTab) #[.string ⟨#[]⟩] 8 (World.laidAll_os _ _ _)
      (World.shaped_of_ZipB (by as_aux_lemma => kernel_rfl) (by as_aux_lemma => kernel_rfl)) (by as_aux_lemma => kernel_rfl) (by as_aux_lemma => kernel_rfl) (by as_aux_lemma => kernel_rfl) (laidMet_laidAll _ (by as_aux_lemma => kernel_rfl) (by as_aux_lemma => kernel_rfl))) ?_
  intro W base args ds gs before hval0 hW hL hsh
  have hval : ∀ (j : Nat) t v, Tryd.f3.params[j]? = some t → args[j]? = some v → Value.okWide Tryd.prog W .any base t v := hval0
  have hW' := hW
  obtain ⟨p, q, hA0, hV, rfl, hfz, hnd⟩ := hW
  have hA : DataW.TrodAll enc Tryd.prog W 0 (fun _ => true) true Tryd.f3.params.toList args.toList ds p := hA0
  rw [Tryd.params3] at hA hval
  obtain ⟨v0, vs0, d0, ds0, p0, q0, hargs, rfl, rfl, h0, r0⟩ := trodAll_cons hA
  obtain ⟨rfl, rfl, rfl⟩ := trodAll_nil r0
  obtain rfl : args = #[v0] := by cases args; simp_all
  obtain ⟨rfl, rfl⟩ := trodVars_none hV
  have lt0 : ∀ x ∈ p0, x.block < W.heap.size := by obtain ⟨m, hm⟩ := h0; exact DataW.trod_lt m _ _ _ hm
  obtain ⟨s0, rfl, _⟩ : ∃ s : ByteArray, v0 = .string s ∧ s.size ≤ maxLen := by
    obtain ⟨s, e1, _, _, e3⟩ := Go.ChangeMaps.open_string Tryd.underlying9 (hval 0 9 v0 rfl rfl) h0
    exact ⟨s, e1, e3⟩
  clear hA0 hval0
  refine (walk (txtW_of_laid hL hsh) ).mono fun e W' ⟨he, bel⟩ => ?_
  subst he
  exact ⟨_, rfl, _, _, _, [], _, [], hW', trodAll_mk1 (shut_bool Tryd.underlying4 _), (trodAll_cons_mk (Below.trod Tryd.laidOutK (by kernel_rfl) (of_decide_eq_true (by kernel_rfl)) h0 bel lt0) trodAll_mk0), rfl, bel.frame _, fun h => by cases h⟩

set_option maxHeartbeats 8000000 in
theorem facts : joinedFacts Tryd.prog 3 Tryd.f3 Rows.fnExactTextGraphSpec Rows.fnExactTextGraphRow = true := by
  simp only [joinedFacts, Bool.and_eq_true]
  and_intros <;> (as_aux_lemma => kernel_rfl)
theorem named : Tryd.prog.funcNamed Rows.fnExactTextGraphRow.func = some 3 := by kernel_rfl
theorem wrap : Tryd.f3.isWrapper Tryd.prog Rows.fnExactTextGraphRow.wrapper Rows.fnExactTextGraphRow.mainSum := by
  unfold Func.isWrapper
  first | (rw [if_pos (by decide +kernel)]; kernel_rfl) | (rw [if_neg (by decide +kernel)]; exact ⟨rfl, rfl⟩)
theorem over : Rows.fnExactTextGraphRow.holds Tryd.pinned (OpenSpec.ofChange Rows.fnExactTextGraphSpec) :=
  OpenClaim.holds_of_wide 3 Tryd.f3 rfl rfl rfl rfl rfl rfl rfl ⟨rfl, rfl, rfl, rfl, rfl⟩ rfl rfl rfl rfl rfl named Tryd.func3 facts
    (of_decide_eq_true (by as_aux_lemma => kernel_rfl)) wrap (fun os started H enc _ => lifted os started H enc)

theorem looksNot : true = Tryd.prog.looks [] := by kernel_rfl
theorem goes : false = Rows.fnExactTextGraphRow.goesBy Tryd.prog := by kernel_rfl
theorem mainIs : Tryd.prog.mainIs = some (true, "f9206e6daba00759ac5bc86ee4373de359482decd9595262e3fbba5e1c460979".toList) := by kernel_rfl
theorem byText : Rows.fnExactTextGraphRow.wfByText (OpenSpec.ofChange Rows.fnExactTextGraphSpec) = true := by kernel_rfl
theorem proved : Rows.FnExactTextGraphCardSaid :=
  Claim7.holds_tied_plain_at .later [] [.data, .data, .data, .data, .sentinel, .sentinel, .pinned] true (true, "f9206e6daba00759ac5bc86ee4373de359482decd9595262e3fbba5e1c460979") true
    over (fun _ h => by cases h) byText (fun _ h => by cases h) fnExactTextGraph_row_tie rfl ⟨rfl, rfl⟩ mainIs rfl
    (fun f fn hf hfn => by
      obtain rfl : f = 3 := Option.some.inj (named.symm.trans hf) |>.symm
      obtain rfl : fn = Tryd.f3 := (Option.some.inj (Tryd.func3.symm.trans hfn)).symm
      exact ⟨looksNot, fun j t ht => by
        rw [show Tryd.f3.params = #[9] from Tryd.params3] at ht
        rcases j with _ | j
        · obtain rfl : t = 9 := by simpa using ht.symm
          exact (show Tryd.prog.wantsStandIn 9 = false by as_aux_lemma => kernel_rfl)
        · simp at ht⟩)
    goes
end Go.Proofs.YtgkgmdnjnjliiaaDoor.TextGraphIs
