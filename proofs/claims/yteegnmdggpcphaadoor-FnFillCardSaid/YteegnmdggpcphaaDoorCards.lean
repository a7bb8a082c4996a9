/-
  DERIVED. GIVEN WITH THE SEED: THE CARDS: each row of YteegnmdggpcphaaDoorRows.lean that lists a variable, with what it lists TIED to the program's text (the seventh form; the later family's looks); each row that meets fmt, with fmt's text TOLD by the authors' own Lean function (tested against real Go, not proved from fmt's source: count such statements apart). THE CARD IS WHAT COUNTS. Prove the row's statement (the work); the ties are given (YteegnmdggpcphaaDoorTie.lean); close each card by the builder's one call (the guide's Derived/Test/ToyasCard.lean, 'card_holds'). Laid BY PROGRAM, IN A SANDBOX (cutbox-door.mjs). By AI agents, Wed Nov 11 2026. No macro, syntax, notation, axiom, sorry.
-/
import Derived.Test.YteegnmdggpcphaaDoorRows
import GoSem.ClaimSeven
namespace Go.Proofs.YteegnmdggpcphaaDoor
namespace Rows

/-- THE TIED CARD OF 'laws.FnExactPathDecomp'. -/
def fnExactPathDecompCard : Claim7 := { stood := { row := fnExactPathDecompRow, standIns := [], harness := (true, "0583ec78e31b6e6ed4e789a07b5b5f0a408eedb1d2390263b1091850e4768c04"), looks := false }, kinds := [], alts := [], laidByText := true, laidKinds := [.data], laidTests := true, laidLooks := .later }
def FnExactPathDecompCardSaid : Prop := Claim7.holds Tryd.pinned (.plain (OpenSpec.ofChange fnExactPathDecompSpec)) fnExactPathDecompCard

/-- THE TIED CARD OF 'laws.FnExactLastingStables'. -/
def fnExactLastingStablesCard : Claim7 := { stood := { row := fnExactLastingStablesRow, standIns := [], harness := (true, "0583ec78e31b6e6ed4e789a07b5b5f0a408eedb1d2390263b1091850e4768c04"), looks := false }, kinds := [], alts := [], laidByText := true, laidKinds := [.data], laidTests := true, laidLooks := .later }
def FnExactLastingStablesCardSaid : Prop := Claim7.holds Tryd.pinned (.plain (OpenSpec.ofChange fnExactLastingStablesSpec)) fnExactLastingStablesCard

/-- THE TIED CARD OF 'laws.FnFill'. -/
def fnFillCard : Claim7 := { stood := { row := fnFillRow, standIns := [], harness := (true, "0583ec78e31b6e6ed4e789a07b5b5f0a408eedb1d2390263b1091850e4768c04"), looks := false }, kinds := [], alts := [], laidByText := true, laidKinds := [.data], laidTests := true, laidLooks := .later }
def FnFillCardSaid : Prop := Claim7.holds Tryd.pinned (.plain (OpenSpec.ofChange fnFillSpec)) fnFillCard

/-- THE TIED CARD OF 'laws.FnSubs'. -/
def fnSubsCard : Claim7 := { stood := { row := fnSubsRow, standIns := [], harness := (true, "0583ec78e31b6e6ed4e789a07b5b5f0a408eedb1d2390263b1091850e4768c04"), looks := false }, kinds := [], alts := [], laidByText := true, laidKinds := [.data], laidTests := true, laidLooks := .later }
def FnSubsCardSaid : Prop := Claim7.holds Tryd.pinned (.plain (OpenSpec.ofChange fnSubsSpec)) fnSubsCard

/-- THE TIED CARD OF 'laws.FnSetsOk'. -/
def fnSetsOkCard : Claim7 := { stood := { row := fnSetsOkRow, standIns := [], harness := (true, "0583ec78e31b6e6ed4e789a07b5b5f0a408eedb1d2390263b1091850e4768c04"), looks := false }, kinds := [], alts := [], laidByText := true, laidKinds := [.data], laidTests := true, laidLooks := .later }
def FnSetsOkCardSaid : Prop := Claim7.holds Tryd.pinned (.plain (OpenSpec.ofChange fnSetsOkSpec)) fnSetsOkCard

/-- THE TIED CARD OF 'laws.FnExactOriented'. -/
def fnExactOrientedCard : Claim7 := { stood := { row := fnExactOrientedRow, standIns := [], harness := (true, "0583ec78e31b6e6ed4e789a07b5b5f0a408eedb1d2390263b1091850e4768c04"), looks := false }, kinds := [], alts := [], laidByText := true, laidKinds := [.data], laidTests := true, laidLooks := .later }
def FnExactOrientedCardSaid : Prop := Claim7.holds Tryd.pinned (.plain (OpenSpec.ofChange fnExactOrientedSpec)) fnExactOrientedCard

/-- THE TIED CARD OF 'laws.FnCrossLongest'. -/
def fnCrossLongestCard : Claim7 := { stood := { row := fnCrossLongestRow, standIns := [], harness := (true, "0583ec78e31b6e6ed4e789a07b5b5f0a408eedb1d2390263b1091850e4768c04"), looks := false }, kinds := [], alts := [], laidByText := true, laidKinds := [.data], laidTests := true, laidLooks := .later }
def FnCrossLongestCardSaid : Prop := Claim7.holds Tryd.pinned (.plain (OpenSpec.ofChange fnCrossLongestSpec)) fnCrossLongestCard

/-- THE TIED CARD OF 'laws.FnPathDecomp'. -/
def fnPathDecompCard : Claim7 := { stood := { row := fnPathDecompRow, standIns := [], harness := (true, "0583ec78e31b6e6ed4e789a07b5b5f0a408eedb1d2390263b1091850e4768c04"), looks := false }, kinds := [], alts := [], laidByText := true, laidKinds := [.data], laidTests := true, laidLooks := .later }
def FnPathDecompCardSaid : Prop := Claim7.holds Tryd.pinned (.plain (OpenSpec.ofChange fnPathDecompSpec)) fnPathDecompCard

/-- THE TIED CARD OF 'laws.FnExactBlocksOf'. -/
def fnExactBlocksOfCard : Claim7 := { stood := { row := fnExactBlocksOfRow, standIns := [], harness := (true, "0583ec78e31b6e6ed4e789a07b5b5f0a408eedb1d2390263b1091850e4768c04"), looks := false }, kinds := [], alts := [], laidByText := true, laidKinds := [.data], laidTests := true, laidLooks := .later }
def FnExactBlocksOfCardSaid : Prop := Claim7.holds Tryd.pinned (.plain (OpenSpec.ofChange fnExactBlocksOfSpec)) fnExactBlocksOfCard

/-- THE TIED CARD OF 'laws.FnNegated'. -/
def fnNegatedCard : Claim7 := { stood := { row := fnNegatedRow, standIns := [], harness := (true, "0583ec78e31b6e6ed4e789a07b5b5f0a408eedb1d2390263b1091850e4768c04"), looks := false }, kinds := [], alts := [], laidByText := true, laidKinds := [.data], laidTests := true, laidLooks := .later }
def FnNegatedCardSaid : Prop := Claim7.holds Tryd.pinned (.plain (OpenSpec.ofChange fnNegatedSpec)) fnNegatedCard

/-- THE SECOND FORM's CARD OF 'laws.FnExactPathDecomp'. -/
def fnExactPathDecompUptoCard : Claim7 := { stood := { row := fnExactPathDecompUptoRow, standIns := [], harness := (true, "0583ec78e31b6e6ed4e789a07b5b5f0a408eedb1d2390263b1091850e4768c04"), looks := false }, kinds := [], alts := [], laidByText := true, laidKinds := [.data], laidTests := true, laidLooks := .later }
def FnExactPathDecompUptoCardSaid : Prop := Claim7.holds Tryd.pinned (.plain (OpenSpec.upto fnExactPathDecompSpec)) fnExactPathDecompUptoCard

/-- THE SECOND FORM's CARD OF 'laws.FnExactLastingStables'. -/
def fnExactLastingStablesUptoCard : Claim7 := { stood := { row := fnExactLastingStablesUptoRow, standIns := [], harness := (true, "0583ec78e31b6e6ed4e789a07b5b5f0a408eedb1d2390263b1091850e4768c04"), looks := false }, kinds := [], alts := [], laidByText := true, laidKinds := [.data], laidTests := true, laidLooks := .later }
def FnExactLastingStablesUptoCardSaid : Prop := Claim7.holds Tryd.pinned (.plain (OpenSpec.upto fnExactLastingStablesSpec)) fnExactLastingStablesUptoCard

/-- THE SECOND FORM's CARD OF 'laws.FnFill'. -/
def fnFillUptoCard : Claim7 := { stood := { row := fnFillUptoRow, standIns := [], harness := (true, "0583ec78e31b6e6ed4e789a07b5b5f0a408eedb1d2390263b1091850e4768c04"), looks := false }, kinds := [], alts := [], laidByText := true, laidKinds := [.data], laidTests := true, laidLooks := .later }
def FnFillUptoCardSaid : Prop := Claim7.holds Tryd.pinned (.plain (OpenSpec.upto fnFillSpec)) fnFillUptoCard

/-- THE SECOND FORM's CARD OF 'laws.FnSubs'. -/
def fnSubsUptoCard : Claim7 := { stood := { row := fnSubsUptoRow, standIns := [], harness := (true, "0583ec78e31b6e6ed4e789a07b5b5f0a408eedb1d2390263b1091850e4768c04"), looks := false }, kinds := [], alts := [], laidByText := true, laidKinds := [.data], laidTests := true, laidLooks := .later }
def FnSubsUptoCardSaid : Prop := Claim7.holds Tryd.pinned (.plain (OpenSpec.upto fnSubsSpec)) fnSubsUptoCard

/-- THE SECOND FORM's CARD OF 'laws.FnSetsOk'. -/
def fnSetsOkUptoCard : Claim7 := { stood := { row := fnSetsOkUptoRow, standIns := [], harness := (true, "0583ec78e31b6e6ed4e789a07b5b5f0a408eedb1d2390263b1091850e4768c04"), looks := false }, kinds := [], alts := [], laidByText := true, laidKinds := [.data], laidTests := true, laidLooks := .later }
def FnSetsOkUptoCardSaid : Prop := Claim7.holds Tryd.pinned (.plain (OpenSpec.upto fnSetsOkSpec)) fnSetsOkUptoCard

/-- THE SECOND FORM's CARD OF 'laws.FnExactOriented'. -/
def fnExactOrientedUptoCard : Claim7 := { stood := { row := fnExactOrientedUptoRow, standIns := [], harness := (true, "0583ec78e31b6e6ed4e789a07b5b5f0a408eedb1d2390263b1091850e4768c04"), looks := false }, kinds := [], alts := [], laidByText := true, laidKinds := [.data], laidTests := true, laidLooks := .later }
def FnExactOrientedUptoCardSaid : Prop := Claim7.holds Tryd.pinned (.plain (OpenSpec.upto fnExactOrientedSpec)) fnExactOrientedUptoCard

/-- THE SECOND FORM's CARD OF 'laws.FnCrossLongest'. -/
def fnCrossLongestUptoCard : Claim7 := { stood := { row := fnCrossLongestUptoRow, standIns := [], harness := (true, "0583ec78e31b6e6ed4e789a07b5b5f0a408eedb1d2390263b1091850e4768c04"), looks := false }, kinds := [], alts := [], laidByText := true, laidKinds := [.data], laidTests := true, laidLooks := .later }
def FnCrossLongestUptoCardSaid : Prop := Claim7.holds Tryd.pinned (.plain (OpenSpec.upto fnCrossLongestSpec)) fnCrossLongestUptoCard

/-- THE SECOND FORM's CARD OF 'laws.FnPathDecomp'. -/
def fnPathDecompUptoCard : Claim7 := { stood := { row := fnPathDecompUptoRow, standIns := [], harness := (true, "0583ec78e31b6e6ed4e789a07b5b5f0a408eedb1d2390263b1091850e4768c04"), looks := false }, kinds := [], alts := [], laidByText := true, laidKinds := [.data], laidTests := true, laidLooks := .later }
def FnPathDecompUptoCardSaid : Prop := Claim7.holds Tryd.pinned (.plain (OpenSpec.upto fnPathDecompSpec)) fnPathDecompUptoCard

/-- THE SECOND FORM's CARD OF 'laws.FnExactBlocksOf'. -/
def fnExactBlocksOfUptoCard : Claim7 := { stood := { row := fnExactBlocksOfUptoRow, standIns := [], harness := (true, "0583ec78e31b6e6ed4e789a07b5b5f0a408eedb1d2390263b1091850e4768c04"), looks := false }, kinds := [], alts := [], laidByText := true, laidKinds := [.data], laidTests := true, laidLooks := .later }
def FnExactBlocksOfUptoCardSaid : Prop := Claim7.holds Tryd.pinned (.plain (OpenSpec.upto fnExactBlocksOfSpec)) fnExactBlocksOfUptoCard

/-- THE SECOND FORM's CARD OF 'laws.FnNegated'. -/
def fnNegatedUptoCard : Claim7 := { stood := { row := fnNegatedUptoRow, standIns := [], harness := (true, "0583ec78e31b6e6ed4e789a07b5b5f0a408eedb1d2390263b1091850e4768c04"), looks := false }, kinds := [], alts := [], laidByText := true, laidKinds := [.data], laidTests := true, laidLooks := .later }
def FnNegatedUptoCardSaid : Prop := Claim7.holds Tryd.pinned (.plain (OpenSpec.upto fnNegatedSpec)) fnNegatedUptoCard
end Rows
end Go.Proofs.YteegnmdggpcphaaDoor
