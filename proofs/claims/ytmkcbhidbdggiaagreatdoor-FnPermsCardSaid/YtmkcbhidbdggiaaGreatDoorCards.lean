/-
  DERIVED. GIVEN WITH THE SEED: THE CARDS: each row of YtmkcbhidbdggiaaGreatDoorRows.lean that lists a variable, with what it lists TIED to the program's text (the seventh form; the later family's looks); each row that meets fmt, with fmt's text TOLD by the authors' own Lean function (tested against real Go, not proved from fmt's source: count such statements apart). THE CARD IS WHAT COUNTS. Prove the row's statement (the work); the ties are given (YtmkcbhidbdggiaaGreatDoorTie.lean); close each card by the builder's one call (the guide's Derived/Test/ToyasCard.lean, 'card_holds'). Laid BY PROGRAM, IN A SANDBOX (cutbox-door.mjs). By AI agents, Wed Nov 11 2026. No macro, syntax, notation, axiom, sorry.
-/
import Derived.Test.YtmkcbhidbdggiaaGreatDoorRows
import GoSem.ClaimSeven
namespace Go.Proofs.YtmkcbhidbdggiaaGreatDoor
namespace Rows

/-- THE TIED CARD OF 'laws.FnPerms'. -/
def fnPermsCard : Claim7 := { stood := { row := fnPermsRow, standIns := [], harness := (true, "13a404950e448d816c024a3a34ee2a67c474a87da37079bc1704ca5e9691beba"), looks := false }, kinds := [], alts := [], laidByText := true, laidKinds := [.data], laidTests := true, laidLooks := .later }
def FnPermsCardSaid : Prop := Claim7.holds Tryz.pinned (.plain (OpenSpec.ofChange fnPermsSpec)) fnPermsCard

/-- THE TIED CARD OF 'laws.FnExactRimOf'. -/
def fnExactRimOfCard : Claim7 := { stood := { row := fnExactRimOfRow, standIns := [], harness := (true, "13a404950e448d816c024a3a34ee2a67c474a87da37079bc1704ca5e9691beba"), looks := false }, kinds := [], alts := [], laidByText := true, laidKinds := [.data], laidTests := true, laidLooks := .later }
def FnExactRimOfCardSaid : Prop := Claim7.holds Tryz.pinned (.plain (OpenSpec.ofChange fnExactRimOfSpec)) fnExactRimOfCard

/-- THE SECOND FORM's CARD OF 'laws.FnPerms'. -/
def fnPermsUptoCard : Claim7 := { stood := { row := fnPermsUptoRow, standIns := [], harness := (true, "13a404950e448d816c024a3a34ee2a67c474a87da37079bc1704ca5e9691beba"), looks := false }, kinds := [], alts := [], laidByText := true, laidKinds := [.data], laidTests := true, laidLooks := .later }
def FnPermsUptoCardSaid : Prop := Claim7.holds Tryz.pinned (.plain (OpenSpec.upto fnPermsSpec)) fnPermsUptoCard

/-- THE SECOND FORM's CARD OF 'laws.FnExactRimOf'. -/
def fnExactRimOfUptoCard : Claim7 := { stood := { row := fnExactRimOfUptoRow, standIns := [], harness := (true, "13a404950e448d816c024a3a34ee2a67c474a87da37079bc1704ca5e9691beba"), looks := false }, kinds := [], alts := [], laidByText := true, laidKinds := [.data], laidTests := true, laidLooks := .later }
def FnExactRimOfUptoCardSaid : Prop := Claim7.holds Tryz.pinned (.plain (OpenSpec.upto fnExactRimOfSpec)) fnExactRimOfUptoCard
end Rows
end Go.Proofs.YtmkcbhidbdggiaaGreatDoor
