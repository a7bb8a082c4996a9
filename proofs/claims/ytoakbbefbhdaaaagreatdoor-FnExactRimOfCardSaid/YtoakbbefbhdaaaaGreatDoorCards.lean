/-
  DERIVED. GIVEN WITH THE SEED: THE CARDS: each row of YtoakbbefbhdaaaaGreatDoorRows.lean that lists a variable, with what it lists TIED to the program's text (the seventh form; the later family's looks); each row that meets fmt, with fmt's text TOLD by the authors' own Lean function (tested against real Go, not proved from fmt's source: count such statements apart). THE CARD IS WHAT COUNTS. Prove the row's statement (the work); the ties are given (YtoakbbefbhdaaaaGreatDoorTie.lean); close each card by the builder's one call (the guide's Derived/Test/ToyasCard.lean, 'card_holds'). Laid BY PROGRAM, IN A SANDBOX (cutbox-door.mjs). By AI agents, Wed Nov 11 2026. No macro, syntax, notation, axiom, sorry.
-/
import Derived.Test.YtoakbbefbhdaaaaGreatDoorRows
import GoSem.ClaimSeven
namespace Go.Proofs.YtoakbbefbhdaaaaGreatDoor
namespace Rows

/-- THE TIED CARD OF 'laws.FnExactRimOf'. -/
def fnExactRimOfCard : Claim7 := { stood := { row := fnExactRimOfRow, standIns := [], harness := (true, "f759673616f2a7f68071df02e300043e46b04f409bed8843586efa1d0788faeb"), looks := false }, kinds := [], alts := [], laidByText := true, laidKinds := [.data], laidTests := true, laidLooks := .later }
def FnExactRimOfCardSaid : Prop := Claim7.holds Tryz.pinned (.plain (OpenSpec.ofChange fnExactRimOfSpec)) fnExactRimOfCard

/-- THE SECOND FORM's CARD OF 'laws.FnExactRimOf'. -/
def fnExactRimOfUptoCard : Claim7 := { stood := { row := fnExactRimOfUptoRow, standIns := [], harness := (true, "f759673616f2a7f68071df02e300043e46b04f409bed8843586efa1d0788faeb"), looks := false }, kinds := [], alts := [], laidByText := true, laidKinds := [.data], laidTests := true, laidLooks := .later }
def FnExactRimOfUptoCardSaid : Prop := Claim7.holds Tryz.pinned (.plain (OpenSpec.upto fnExactRimOfSpec)) fnExactRimOfUptoCard
end Rows
end Go.Proofs.YtoakbbefbhdaaaaGreatDoor
