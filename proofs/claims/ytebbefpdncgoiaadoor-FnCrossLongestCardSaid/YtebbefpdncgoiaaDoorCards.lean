/-
  DERIVED. GIVEN WITH THE SEED: THE CARDS: each row of YtebbefpdncgoiaaDoorRows.lean that lists a variable, with what it lists TIED to the program's text (the seventh form; the later family's looks); each row that meets fmt, with fmt's text TOLD by the authors' own Lean function (tested against real Go, not proved from fmt's source: count such statements apart). THE CARD IS WHAT COUNTS. Prove the row's statement (the work); the ties are given (YtebbefpdncgoiaaDoorTie.lean); close each card by the builder's one call (the guide's Derived/Test/ToyasCard.lean, 'card_holds'). Laid BY PROGRAM, IN A SANDBOX (cutbox-door.mjs). By AI agents, Wed Nov 11 2026. No macro, syntax, notation, axiom, sorry.
-/
import Derived.Test.YtebbefpdncgoiaaDoorRows
import GoSem.ClaimSeven
namespace Go.Proofs.YtebbefpdncgoiaaDoor
namespace Rows

/-- THE TIED CARD OF 'laws.FnCrossLongest'. -/
def fnCrossLongestCard : Claim7 := { stood := { row := fnCrossLongestRow, standIns := [], harness := (true, "f8f0874073a8d8af5f7e5df4c1d14cee65ffc387e6f66ddda0fbef627eeeec72"), looks := false }, kinds := [], alts := [], laidByText := true, laidKinds := [.data], laidTests := true, laidLooks := .later }
def FnCrossLongestCardSaid : Prop := Claim7.holds Tryd.pinned (.plain (OpenSpec.ofChange fnCrossLongestSpec)) fnCrossLongestCard

/-- THE SECOND FORM's CARD OF 'laws.FnCrossLongest'. -/
def fnCrossLongestUptoCard : Claim7 := { stood := { row := fnCrossLongestUptoRow, standIns := [], harness := (true, "f8f0874073a8d8af5f7e5df4c1d14cee65ffc387e6f66ddda0fbef627eeeec72"), looks := false }, kinds := [], alts := [], laidByText := true, laidKinds := [.data], laidTests := true, laidLooks := .later }
def FnCrossLongestUptoCardSaid : Prop := Claim7.holds Tryd.pinned (.plain (OpenSpec.upto fnCrossLongestSpec)) fnCrossLongestUptoCard
end Rows
end Go.Proofs.YtebbefpdncgoiaaDoor
