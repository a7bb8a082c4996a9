/- The program's BestDecomp returns what the reference's returns, for every graph; no condition. -/
import Derived.Test.YtkffjeaefgfnnaaGreatDoorBd7
import Derived.Test.YtkffjeaefgfnnaaGreatDoorTie
import Derived.Test.YtkffjeaefgfnnaaGreatDoorCards
import Derived.SevenTiedAt
set_option linter.unusedVariables false
set_option linter.unusedSimpArgs false
set_option linter.unusedSectionVars false

namespace Go.Proofs.YtkffjeaefgfnnaaGreatDoor.BestDecomp
open Go Go.ChangeShapes Go.WideShapes Go.ChangeAt Go.RowKit

theorem c2 : Tryz.prog.cellsOf 2 = 1 := by kernel_rfl
theorem c27 : Tryz.prog.cellsOf 27 = 1 := by kernel_rfl
theorem c31 : Tryz.prog.cellsOf 31 = 1 := by kernel_rfl
theorem c44 : Tryz.prog.cellsOf 44 = 1 := by kernel_rfl
theorem walk {W : World} {v0 : Value} {x0 : (List (List Int))} (hW : Sx.CW W) (h0 : Sx.RSl (Sx.RSl (Sx.RI .i64)) (Sx.G0 W) v0 x0) :
    Calls Tryz.prog 4 #[.agg #[v0]] W fun e w' => e = .returned (.bool true) ∧ Below W.heap.size W w' := by
  refine (Wk.k1 hW (Sx.Mem.start W) h0 (Sx.Et x0 h0.le h0.le2)).mono fun e w' h => ?_
  obtain ⟨v, rfl, G', Ho, _, m, _, rfl⟩ := h
  exact ⟨rfl, m.below⟩

set_option maxRecDepth 100000 in
theorem lifted (os : Os) (started : os.Started) (H : Type) (enc : TypeId × Value → H) :
    ReturnsInHanded {} Tryz.checked os 4 .any (fun w args => (Rows.fnExactBestDecompSpec.pre enc Tryz.prog Tryz.f4 [] false w args ∧ laidMet Tryz.prog laidTab w) ∧ sizedMet enc Tryz.prog Tryz.f4 (OpenSpec.ofChange Rows.fnExactBestDecompSpec) false w args)
      (Rows.fnExactBestDecompSpec.post enc Tryz.prog Tryz.f4 false true false false) := by
  refine returnsInHanded_of_change_and (C := Tryz.checked) (X := fun w _ => laidMet Tryz.prog laidTab w) (fun _ _ _ hh h => h.of_heap hh) Tryz.ownK started (by kernel_rfl) Tryz.func4
    (ChangeSpec.witness_at (enc := enc) (C := Tryz.checked) (os := os) (X := fun w _ => laidMet Tryz.prog laidTab w) false (E8 os) #[.agg #[.slice none 0 0]] 8 rfl (by kernel_rfl) (by kernel_rfl) (by kernel_rfl) (by kernel_rfl) (by kernel_rfl) (laidWorld_met os _)) ?_
  intro W base args ds gs before hval0 hW _ _ hL _
  have hval : ∀ (j : Nat) t v, Tryz.f4.params[j]? = some t → args[j]? = some v → Value.okWide Tryz.prog W .any base t v := hval0
  have hW' := hW
  obtain ⟨p, q, hA0, hV, rfl, hfz, hnd⟩ := hW
  have hA : DataW.TrodAll enc Tryz.prog W 0 (fun _ => true) true Tryz.f4.params.toList args.toList ds p := hA0
  rw [Tryz.params4] at hA hval
  obtain ⟨v0, vs0, d0, ds0, p0, q0, hargs, rfl, rfl, h0, r0⟩ := trodAll_cons hA
  obtain ⟨rfl, rfl, rfl⟩ := trodAll_nil r0
  obtain rfl : args = #[v0] := by cases args; simp_all
  obtain ⟨rfl, rfl⟩ := trodVars_none hV
  have lt0 : ∀ x ∈ p0, x.block < W.heap.size := by obtain ⟨m, hm⟩ := h0; exact DataW.trod_lt m _ _ _ hm
  obtain ⟨u0, g0, e0, k0⟩ : ∃ u0 g0, v0 = .agg #[u0] ∧ Sx.RSl (Sx.RSl (Sx.RI .i64)) (Sx.G0 W) u0 g0 := by
    obtain ⟨fuel, hf⟩ := h0
    obtain ⟨u0, g, e0, k0⟩ := Sx.Opens.struct1 Tryz.underlying44 c44 rfl c27 (Sx.Opens.slice Tryz.underlying27 c31 (Sx.Opens.slice Tryz.underlying31 c2 (Sx.Opens.int Tryz.underlying2))) hf
    have hv0 := hval 0 44 v0 rfl rfl
    unfold Value.okWide at hv0
    rw [Tryz.underlying44] at hv0
    obtain ⟨cs, rfl, _, _⟩ := hv0
    refine ⟨u0, g, ?_, k0⟩
    congr 1
    obtain ⟨l⟩ := cs
    simpa [Value.cells] using e0
  subst e0
  clear hA0 hval0
  refine (walk (tabW_of_laid hL) k0).mono fun e W' ⟨he, bel⟩ => ?_
  subst he
  exact ⟨_, rfl, _, _, _, [], _, [], hW', trodAll_mk1 (shut_bool Tryz.underlying4 _), (trodAll_cons_mk (Below.trod Tryz.laidOutK (by kernel_rfl) (of_decide_eq_true (by kernel_rfl)) h0 bel lt0) trodAll_mk0), rfl, bel.frame _, fun h => by cases h⟩

set_option maxHeartbeats 8000000 in
theorem facts : joinedFacts Tryz.prog 4 Tryz.f4 Rows.fnExactBestDecompSpec Rows.fnExactBestDecompRow = true := by
  simp only [joinedFacts, Bool.and_eq_true]
  and_intros <;> (as_aux_lemma => kernel_rfl)
theorem named : Tryz.prog.funcNamed Rows.fnExactBestDecompRow.func = some 4 := by kernel_rfl
theorem wrap : Tryz.f4.isWrapper Tryz.prog Rows.fnExactBestDecompRow.wrapper Rows.fnExactBestDecompRow.mainSum := by
  unfold Func.isWrapper
  first | (rw [if_pos (by decide +kernel)]; kernel_rfl) | (rw [if_neg (by decide +kernel)]; exact ⟨rfl, rfl⟩)
theorem over : Rows.fnExactBestDecompRow.holds Tryz.pinned (OpenSpec.ofChange Rows.fnExactBestDecompSpec) :=
  OpenClaim.holds_of_wide 4 Tryz.f4 rfl rfl rfl rfl rfl rfl rfl ⟨rfl, rfl, rfl, rfl, rfl⟩ rfl rfl rfl rfl rfl named Tryz.func4 facts
    (of_decide_eq_true (by as_aux_lemma => kernel_rfl)) wrap (fun os started H enc _ => lifted os started H enc)

theorem looksNot : false = Tryz.prog.looks [] := by kernel_rfl
theorem goes : false = Rows.fnExactBestDecompRow.goesBy Tryz.prog := by kernel_rfl
theorem mainIs : Tryz.prog.mainIs = some (true, "c536d4bc4a785a86994c666c6e1461765becc288e0c250aa4f67eee001475450".toList) := by kernel_rfl
theorem byText : Rows.fnExactBestDecompRow.wfByText (OpenSpec.ofChange Rows.fnExactBestDecompSpec) = true := by kernel_rfl
theorem proved : Rows.FnExactBestDecompCardSaid :=
  Claim7.holds_tied_plain_at .later [] [.data] true (true, "c536d4bc4a785a86994c666c6e1461765becc288e0c250aa4f67eee001475450") false
    over (fun _ h => by cases h) byText (fun _ h => by cases h) fnExactBestDecomp_row_tie rfl ⟨rfl, rfl⟩ mainIs rfl
    (fun f fn hf hfn => by
      obtain rfl : f = 4 := Option.some.inj (named.symm.trans hf) |>.symm
      obtain rfl : fn = Tryz.f4 := (Option.some.inj (Tryz.func4.symm.trans hfn)).symm
      exact ⟨looksNot, fun j t ht => by
        rw [show Tryz.f4.params = #[44] from Tryz.params4] at ht
        rcases j with _ | j
        · obtain rfl : t = 44 := by simpa using ht.symm
          exact (show Tryz.prog.wantsStandIn 44 = false by as_aux_lemma => kernel_rfl)
        · simp at ht⟩)
    goes
end Go.Proofs.YtkffjeaefgfnnaaGreatDoor.BestDecomp
