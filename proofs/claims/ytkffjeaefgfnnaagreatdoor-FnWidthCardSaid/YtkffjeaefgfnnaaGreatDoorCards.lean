/-
  DERIVED. GIVEN WITH THE SEED: THE CARDS: each row of YtkffjeaefgfnnaaGreatDoorRows.lean that lists a variable, with what it lists TIED to the program's text (the seventh form; the later family's looks); each row that meets fmt, with fmt's text TOLD by the authors' own Lean function (tested against real Go, not proved from fmt's source: count such statements apart). THE CARD IS WHAT COUNTS. Prove the row's statement (the work); the ties are given (YtkffjeaefgfnnaaGreatDoorTie.lean); close each card by the builder's one call (the guide's Derived/Test/ToyasCard.lean, 'card_holds'). Laid BY PROGRAM, IN A SANDBOX (cutbox-door.mjs). By AI agents, Wed Nov 11 2026. No macro, syntax, notation, axiom, sorry.
-/
import Derived.Test.YtkffjeaefgfnnaaGreatDoorRows
import GoSem.ClaimSeven
namespace Go.Proofs.YtkffjeaefgfnnaaGreatDoor
namespace Rows

/-- THE TIED CARD OF 'laws.FnWidth'. -/
def fnWidthCard : Claim7 := { stood := { row := fnWidthRow, standIns := [], harness := (true, "c536d4bc4a785a86994c666c6e1461765becc288e0c250aa4f67eee001475450"), looks := false }, kinds := [], alts := [], laidByText := true, laidKinds := [.data], laidTests := true, laidLooks := .later }
def FnWidthCardSaid : Prop := Claim7.holds Tryz.pinned (.plain (OpenSpec.ofChange fnWidthSpec)) fnWidthCard

/-- THE TIED CARD OF 'laws.FnExactBestDecomp'. -/
def fnExactBestDecompCard : Claim7 := { stood := { row := fnExactBestDecompRow, standIns := [], harness := (true, "c536d4bc4a785a86994c666c6e1461765becc288e0c250aa4f67eee001475450"), looks := false }, kinds := [], alts := [], laidByText := true, laidKinds := [.data], laidTests := true, laidLooks := .later }
def FnExactBestDecompCardSaid : Prop := Claim7.holds Tryz.pinned (.plain (OpenSpec.ofChange fnExactBestDecompSpec)) fnExactBestDecompCard

/-- THE SECOND FORM's CARD OF 'laws.FnWidth'. -/
def fnWidthUptoCard : Claim7 := { stood := { row := fnWidthUptoRow, standIns := [], harness := (true, "c536d4bc4a785a86994c666c6e1461765becc288e0c250aa4f67eee001475450"), looks := false }, kinds := [], alts := [], laidByText := true, laidKinds := [.data], laidTests := true, laidLooks := .later }
def FnWidthUptoCardSaid : Prop := Claim7.holds Tryz.pinned (.plain (OpenSpec.upto fnWidthSpec)) fnWidthUptoCard

/-- THE SECOND FORM's CARD OF 'laws.FnExactBestDecomp'. -/
def fnExactBestDecompUptoCard : Claim7 := { stood := { row := fnExactBestDecompUptoRow, standIns := [], harness := (true, "c536d4bc4a785a86994c666c6e1461765becc288e0c250aa4f67eee001475450"), looks := false }, kinds := [], alts := [], laidByText := true, laidKinds := [.data], laidTests := true, laidLooks := .later }
def FnExactBestDecompUptoCardSaid : Prop := Claim7.holds Tryz.pinned (.plain (OpenSpec.upto fnExactBestDecompSpec)) fnExactBestDecompUptoCard
end Rows
end Go.Proofs.YtkffjeaefgfnnaaGreatDoor
