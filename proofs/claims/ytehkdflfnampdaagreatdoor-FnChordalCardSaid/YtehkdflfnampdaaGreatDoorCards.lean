/-
  DERIVED. GIVEN WITH THE SEED: THE CARDS: each row of YtehkdflfnampdaaGreatDoorRows.lean that lists a variable, with what it lists TIED to the program's text (the seventh form; the later family's looks); each row that meets fmt, with fmt's text TOLD by the authors' own Lean function (tested against real Go, not proved from fmt's source: count such statements apart). THE CARD IS WHAT COUNTS. Prove the row's statement (the work); the ties are given (YtehkdflfnampdaaGreatDoorTie.lean); close each card by the builder's one call (the guide's Derived/Test/ToyasCard.lean, 'card_holds'). Laid BY PROGRAM, IN A SANDBOX (cutbox-door.mjs). By AI agents, Wed Nov 11 2026. No macro, syntax, notation, axiom, sorry.
-/
import Derived.Test.YtehkdflfnampdaaGreatDoorRows
import GoSem.ClaimSeven
namespace Go.Proofs.YtehkdflfnampdaaGreatDoor
namespace Rows

/-- THE TIED CARD OF 'laws.FnChordal'. -/
def fnChordalCard : Claim7 := { stood := { row := fnChordalRow, standIns := [], harness := (true, "577f8c28a1cd81177e758850672019763d8581b51203f08d4a0772f4caa7f493"), looks := false }, kinds := [], alts := [], laidByText := true, laidKinds := [.data], laidTests := true, laidLooks := .later }
def FnChordalCardSaid : Prop := Claim7.holds Tryz.pinned (.plain (OpenSpec.ofChange fnChordalSpec)) fnChordalCard

/-- THE SECOND FORM's CARD OF 'laws.FnChordal'. -/
def fnChordalUptoCard : Claim7 := { stood := { row := fnChordalUptoRow, standIns := [], harness := (true, "577f8c28a1cd81177e758850672019763d8581b51203f08d4a0772f4caa7f493"), looks := false }, kinds := [], alts := [], laidByText := true, laidKinds := [.data], laidTests := true, laidLooks := .later }
def FnChordalUptoCardSaid : Prop := Claim7.holds Tryz.pinned (.plain (OpenSpec.upto fnChordalSpec)) fnChordalUptoCard
end Rows
end Go.Proofs.YtehkdflfnampdaaGreatDoor
