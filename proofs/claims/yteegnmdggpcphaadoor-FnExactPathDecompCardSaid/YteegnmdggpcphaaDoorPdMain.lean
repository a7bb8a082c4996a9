/- 'laws.FnExactPathDecomp' returns true, whatever the graph and whatever the order, and leaves both as they were: the row, and the card that ties the one table it reads to the program's text. -/
import Derived.Test.YteegnmdggpcphaaDoorPd7
import Derived.Test.YteegnmdggpcphaaDoorTie
import Derived.Test.YteegnmdggpcphaaDoorCards
import Derived.SevenTiedAt
set_option linter.unusedVariables false
set_option linter.unusedSimpArgs false
set_option linter.unusedSectionVars false
namespace Go.Proofs.YteegnmdggpcphaaDoor.PathDecomp
open Go Go.ChangeShapes Go.WideShapes Go.ChangeAt Go.RowKit

theorem walk {W : World} {v0 v1 : Value} {g : List (List Int)} {o : List Int} (hW : Sx.TabW W) (h0 : Sx.RSl (Sx.RSl (Sx.RI .i64)) (Sx.G0 W) v0 g) (h1 : Sx.RSl (Sx.RI .i64) (Sx.G0 W) v1 o) :
    Calls Tryd.prog 3 #[.agg #[v0], v1] W fun e w' => e = .returned (.bool true) ∧ Below W.heap.size W w' := by
  refine (Wk.laws_FnExactPathDecomp hW (Sx.Mem.start W) h0 h1 (Sx.FnExactPathDecomp_true g o h0.le h0.le2)).mono fun e w' h => ?_
  obtain ⟨v, rfl, G', Ho, _, m, _, rfl⟩ := h
  exact ⟨rfl, m.below⟩

set_option maxRecDepth 100000 in
theorem lifted (os : Os) (started : os.Started) (H : Type) (enc : TypeId × Value → H) :
    ReturnsInHanded {} Tryd.checked os 3 .any (fun w args => (Rows.fnExactPathDecompSpec.pre enc Tryd.prog Tryd.f3 [] false w args ∧ laidMet Tryd.prog laidTab w) ∧ sizedMet enc Tryd.prog Tryd.f3 (OpenSpec.ofChange Rows.fnExactPathDecompSpec) false w args)
      (Rows.fnExactPathDecompSpec.post enc Tryd.prog Tryd.f3 false true false false) := by
  refine returnsInHanded_of_change_and (C := Tryd.checked) (X := fun w _ => laidMet Tryd.prog laidTab w) (fun _ _ _ hh h => h.of_heap hh) Tryd.ownK started (by kernel_rfl) Tryd.func3
    (ChangeSpec.witness_at (enc := enc) (C := Tryd.checked) (os := os) (X := fun w _ => laidMet Tryd.prog laidTab w) false (laidWorld os) #[.agg #[.slice none 0 0], .slice none 0 0] 8 rfl (by kernel_rfl) (by kernel_rfl) (by kernel_rfl) (by kernel_rfl) (by kernel_rfl) (laidWorld_met os _)) ?_
  intro W base args ds gs before hval0 hW _ _ hL _
  have hval : ∀ (j : Nat) t v, Tryd.f3.params[j]? = some t → args[j]? = some v → Value.okWide Tryd.prog W .any base t v := hval0
  have hW' := hW
  obtain ⟨p, q, hA0, hV, rfl, hfz, hnd⟩ := hW
  have hA : DataW.TrodAll enc Tryd.prog W 0 (fun _ => true) true Tryd.f3.params.toList args.toList ds p := hA0
  rw [Tryd.params3] at hA hval
  obtain ⟨v0, vs0, d0, ds0, p0, q0, hargs, rfl, rfl, h0, r0⟩ := trodAll_cons hA
  obtain ⟨v1, vs1, d1, ds1, p1, q1, rfl, rfl, rfl, h1, r1⟩ := trodAll_cons r0
  obtain ⟨rfl, rfl, rfl⟩ := trodAll_nil r1
  obtain rfl : args = #[v0, v1] := by cases args; simp_all
  obtain ⟨rfl, rfl⟩ := trodVars_none hV
  have lt0 : ∀ x ∈ p0, x.block < W.heap.size := by obtain ⟨m, hm⟩ := h0; exact DataW.trod_lt m _ _ _ hm
  have lt1 : ∀ x ∈ p1, x.block < W.heap.size := by obtain ⟨m, hm⟩ := h1; exact DataW.trod_lt m _ _ _ hm
  obtain ⟨u0, g, e0, k0⟩ : ∃ u0 g, v0 = .agg #[u0] ∧ Sx.RSl (Sx.RSl (Sx.RI .i64)) (Sx.G0 W) u0 g := by
    obtain ⟨fuel, hf⟩ := h0
    obtain ⟨u0, g, e0, k0⟩ := Sx.Opens.struct1 Tryd.underlying24 Tryd.cellsGraph rfl Tryd.cellsRows (Sx.Opens.slice Tryd.underlying22 Tryd.cellsRow (Sx.Opens.slice Tryd.underlying25 Tryd.cellsI64 (Sx.Opens.int Tryd.underlying2))) hf
    have hv0 := hval 0 24 v0 rfl rfl
    unfold Value.okWide at hv0
    rw [Tryd.underlying24] at hv0
    obtain ⟨cs, rfl, _, _⟩ := hv0
    refine ⟨u0, g, ?_, k0⟩
    congr 1
    obtain ⟨l⟩ := cs
    simpa [Value.cells] using e0
  obtain ⟨o, k1⟩ : ∃ o, Sx.RSl (Sx.RI .i64) (Sx.G0 W) v1 o := by
    obtain ⟨fuel, hf⟩ := h1
    obtain ⟨a, len, cap, rfl⟩ := okWide_slice Tryd.underlying25 (hval 1 25 v1 rfl rfl)
    exact Sx.Opens.slice Tryd.underlying25 Tryd.cellsI64 (Sx.Opens.int Tryd.underlying2) fuel _ _ hf
  subst e0
  clear hA0 hval0
  refine (walk (tabW_of_laid hL) k0 k1).mono fun e W' ⟨he, bel⟩ => ?_
  subst he
  exact ⟨_, rfl, _, _, _, [], _, [], hW', trodAll_mk1 (shut_bool Tryd.underlying4 _), (trodAll_cons_mk (Below.trod Tryd.laidOutK (by kernel_rfl) (of_decide_eq_true (by kernel_rfl)) h0 bel lt0) (trodAll_cons_mk (Below.trod Tryd.laidOutK (by kernel_rfl) (of_decide_eq_true (by kernel_rfl)) h1 bel lt1) trodAll_mk0)), rfl, bel.frame _, fun h => by cases h⟩

set_option maxHeartbeats 8000000 in
theorem facts : joinedFacts Tryd.prog 3 Tryd.f3 Rows.fnExactPathDecompSpec Rows.fnExactPathDecompRow = true := by
  simp only [joinedFacts, Bool.and_eq_true]
  and_intros <;> (as_aux_lemma => kernel_rfl)
theorem named3 : Tryd.prog.funcNamed Rows.fnExactPathDecompRow.func = some 3 := by kernel_rfl
theorem wrap3 : Tryd.f3.isWrapper Tryd.prog Rows.fnExactPathDecompRow.wrapper Rows.fnExactPathDecompRow.mainSum := by
  unfold Func.isWrapper
  first | (rw [if_pos (by decide +kernel)]; kernel_rfl) | (rw [if_neg (by decide +kernel)]; exact ⟨rfl, rfl⟩)
theorem over : Rows.fnExactPathDecompRow.holds Tryd.pinned (OpenSpec.ofChange Rows.fnExactPathDecompSpec) :=
  OpenClaim.holds_of_wide 3 Tryd.f3 rfl rfl rfl rfl rfl rfl rfl ⟨rfl, rfl, rfl, rfl, rfl⟩ rfl rfl rfl rfl rfl named3 Tryd.func3 facts
    (of_decide_eq_true (by as_aux_lemma => kernel_rfl)) wrap3 (fun os started H enc _ => lifted os started H enc)

theorem looks3 : false = Tryd.prog.looks [] := by kernel_rfl
theorem goes3 : false = Rows.fnExactPathDecompRow.goesBy Tryd.prog := by kernel_rfl
theorem mainIs3 : Tryd.prog.mainIs = some (true, "0583ec78e31b6e6ed4e789a07b5b5f0a408eedb1d2390263b1091850e4768c04".toList) := by kernel_rfl
theorem byText3 : Rows.fnExactPathDecompRow.wfByText (OpenSpec.ofChange Rows.fnExactPathDecompSpec) = true := by kernel_rfl
theorem proved : Rows.FnExactPathDecompCardSaid :=
  Claim7.holds_tied_plain_at .later [] [.data] true (true, "0583ec78e31b6e6ed4e789a07b5b5f0a408eedb1d2390263b1091850e4768c04") false
    over (fun _ h => by cases h) byText3 (fun _ h => by cases h) fnExactPathDecomp_row_tie rfl ⟨rfl, rfl⟩ mainIs3 rfl
    (fun f fn hf hfn => by
      obtain rfl : f = 3 := Option.some.inj (named3.symm.trans hf) |>.symm
      obtain rfl : fn = Tryd.f3 := (Option.some.inj (Tryd.func3.symm.trans hfn)).symm
      exact ⟨looks3, fun j t ht => by
        rw [show Tryd.f3.params = #[24, 25] from Tryd.params3] at ht
        rcases j with _ | _ | j
        · obtain rfl : t = 24 := by simpa using ht.symm
          exact (show Tryd.prog.wantsStandIn 24 = false by as_aux_lemma => kernel_rfl)
        · obtain rfl : t = 25 := by simpa using ht.symm
          exact (show Tryd.prog.wantsStandIn 25 = false by as_aux_lemma => kernel_rfl)
        · simp at ht⟩)
    goes3
end Go.Proofs.YteegnmdggpcphaaDoor.PathDecomp
