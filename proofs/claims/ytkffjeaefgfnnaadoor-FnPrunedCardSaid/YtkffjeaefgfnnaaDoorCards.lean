/-
  DERIVED. GIVEN WITH THE SEED: THE CARDS: each row of YtkffjeaefgfnnaaDoorRows.lean that lists a variable, with what it lists TIED to the program's text (the seventh form; the later family's looks); each row that meets fmt, with fmt's text TOLD by the authors' own Lean function (tested against real Go, not proved from fmt's source: count such statements apart). THE CARD IS WHAT COUNTS. Prove the row's statement (the work); the ties are given (YtkffjeaefgfnnaaDoorTie.lean); close each card by the builder's one call (the guide's Derived/Test/ToyasCard.lean, 'card_holds'). Laid BY PROGRAM, IN A SANDBOX (cutbox-door.mjs). By AI agents, Wed Nov 11 2026. No macro, syntax, notation, axiom, sorry.
-/
import Derived.Test.YtkffjeaefgfnnaaDoorRows
import GoSem.ClaimSeven
namespace Go.Proofs.YtkffjeaefgfnnaaDoor
namespace Rows

/-- THE TIED CARD OF 'laws.FnPruned'. -/
def fnPrunedCard : Claim7 := { stood := { row := fnPrunedRow, standIns := [], harness := (true, "f6533b277715621a2a5692ef0694d11f882a78222ec9adaa02bac88ba4446a41"), looks := false }, kinds := [], alts := [], laidByText := true, laidKinds := [.data], laidTests := true, laidLooks := .later }
def FnPrunedCardSaid : Prop := Claim7.holds Tryd.pinned (.plain (OpenSpec.ofChange fnPrunedSpec)) fnPrunedCard

/-- THE TIED CARD OF 'laws.FnExactProperIn'. -/
def fnExactProperInCard : Claim7 := { stood := { row := fnExactProperInRow, standIns := [], harness := (true, "f6533b277715621a2a5692ef0694d11f882a78222ec9adaa02bac88ba4446a41"), looks := false }, kinds := [], alts := [], laidByText := true, laidKinds := [.data], laidTests := true, laidLooks := .later }
def FnExactProperInCardSaid : Prop := Claim7.holds Tryd.pinned (.plain (OpenSpec.ofChange fnExactProperInSpec)) fnExactProperInCard

/-- THE SECOND FORM's CARD OF 'laws.FnPruned'. -/
def fnPrunedUptoCard : Claim7 := { stood := { row := fnPrunedUptoRow, standIns := [], harness := (true, "f6533b277715621a2a5692ef0694d11f882a78222ec9adaa02bac88ba4446a41"), looks := false }, kinds := [], alts := [], laidByText := true, laidKinds := [.data], laidTests := true, laidLooks := .later }
def FnPrunedUptoCardSaid : Prop := Claim7.holds Tryd.pinned (.plain (OpenSpec.upto fnPrunedSpec)) fnPrunedUptoCard

/-- THE SECOND FORM's CARD OF 'laws.FnExactProperIn'. -/
def fnExactProperInUptoCard : Claim7 := { stood := { row := fnExactProperInUptoRow, standIns := [], harness := (true, "f6533b277715621a2a5692ef0694d11f882a78222ec9adaa02bac88ba4446a41"), looks := false }, kinds := [], alts := [], laidByText := true, laidKinds := [.data], laidTests := true, laidLooks := .later }
def FnExactProperInUptoCardSaid : Prop := Claim7.holds Tryd.pinned (.plain (OpenSpec.upto fnExactProperInSpec)) fnExactProperInUptoCard
end Rows
end Go.Proofs.YtkffjeaefgfnnaaDoor
