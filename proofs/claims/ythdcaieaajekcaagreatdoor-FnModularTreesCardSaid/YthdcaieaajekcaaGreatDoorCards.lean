/-
  DERIVED. GIVEN WITH THE SEED: THE CARDS: each row of YthdcaieaajekcaaGreatDoorRows.lean that lists a variable, with what it lists TIED to the program's text (the seventh form; the later family's looks); each row that meets fmt, with fmt's text TOLD by the authors' own Lean function (tested against real Go, not proved from fmt's source: count such statements apart). THE CARD IS WHAT COUNTS. Prove the row's statement (the work); the ties are given (YthdcaieaajekcaaGreatDoorTie.lean); close each card by the builder's one call (the guide's Derived/Test/ToyasCard.lean, 'card_holds'). Laid BY PROGRAM, IN A SANDBOX (cutbox-door.mjs). By AI agents, Wed Nov 11 2026. No macro, syntax, notation, axiom, sorry.
-/
import Derived.Test.YthdcaieaajekcaaGreatDoorRows
import GoSem.ClaimSeven
namespace Go.Proofs.YthdcaieaajekcaaGreatDoor
namespace Rows

/-- THE TIED CARD OF 'laws.FnModularTrees'. -/
def fnModularTreesCard : Claim7 := { stood := { row := fnModularTreesRow, standIns := [], harness := (true, "2b269e73d3e32c4c478e24ee08c9e96b2daebfd8c8814290c4fe11208c83720f"), looks := false }, kinds := [], alts := [], laidByText := true, laidKinds := [.data], laidTests := true, laidLooks := .later }
def FnModularTreesCardSaid : Prop := Claim7.holds Tryz.pinned (.plain (OpenSpec.ofChange fnModularTreesSpec)) fnModularTreesCard

/-- THE SECOND FORM's CARD OF 'laws.FnModularTrees'. -/
def fnModularTreesUptoCard : Claim7 := { stood := { row := fnModularTreesUptoRow, standIns := [], harness := (true, "2b269e73d3e32c4c478e24ee08c9e96b2daebfd8c8814290c4fe11208c83720f"), looks := false }, kinds := [], alts := [], laidByText := true, laidKinds := [.data], laidTests := true, laidLooks := .later }
def FnModularTreesUptoCardSaid : Prop := Claim7.holds Tryz.pinned (.plain (OpenSpec.upto fnModularTreesSpec)) fnModularTreesUptoCard
end Rows
end Go.Proofs.YthdcaieaajekcaaGreatDoor
