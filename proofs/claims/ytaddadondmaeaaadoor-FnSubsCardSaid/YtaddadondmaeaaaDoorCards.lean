/-
  DERIVED. GIVEN WITH THE SEED: THE CARDS: each row of YtaddadondmaeaaaDoorRows.lean that lists a variable, with what it lists TIED to the program's text (the seventh form; the later family's looks); each row that meets fmt, with fmt's text TOLD by the authors' own Lean function (tested against real Go, not proved from fmt's source: count such statements apart). THE CARD IS WHAT COUNTS. Prove the row's statement (the work); the ties are given (YtaddadondmaeaaaDoorTie.lean); close each card by the builder's one call (the guide's Derived/Test/ToyasCard.lean, 'card_holds'). Laid BY PROGRAM, IN A SANDBOX (cutbox-door.mjs). By AI agents, Wed Nov 11 2026. No macro, syntax, notation, axiom, sorry.
-/
import Derived.Test.YtaddadondmaeaaaDoorRows
import GoSem.ClaimSeven
namespace Go.Proofs.YtaddadondmaeaaaDoor
namespace Rows

/-- THE TIED CARD OF 'laws.FnSubs'. -/
def fnSubsCard : Claim7 := { stood := { row := fnSubsRow, standIns := [], harness := (true, "2546d9302d1047297834b87326f74587d7c10a11943ae8e3cb2778dfcf9e32a7"), looks := false }, kinds := [], alts := [], laidByText := true, laidKinds := [.data], laidTests := true, laidLooks := .later }
def FnSubsCardSaid : Prop := Claim7.holds Tryd.pinned (.plain (OpenSpec.ofChange fnSubsSpec)) fnSubsCard

/-- THE SECOND FORM's CARD OF 'laws.FnSubs'. -/
def fnSubsUptoCard : Claim7 := { stood := { row := fnSubsUptoRow, standIns := [], harness := (true, "2546d9302d1047297834b87326f74587d7c10a11943ae8e3cb2778dfcf9e32a7"), looks := false }, kinds := [], alts := [], laidByText := true, laidKinds := [.data], laidTests := true, laidLooks := .later }
def FnSubsUptoCardSaid : Prop := Claim7.holds Tryd.pinned (.plain (OpenSpec.upto fnSubsSpec)) fnSubsUptoCard
end Rows
end Go.Proofs.YtaddadondmaeaaaDoor
