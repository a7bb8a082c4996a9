/-
  DERIVED. GIVEN WITH THE SEED: THE CARDS: each row of YteijfbpfjjjedaaGreatDoorRows.lean that lists a variable, with what it lists TIED to the program's text (the seventh form; the later family's looks); each row that meets fmt, with fmt's text TOLD by the authors' own Lean function (tested against real Go, not proved from fmt's source: count such statements apart). THE CARD IS WHAT COUNTS. Prove the row's statement (the work); the ties are given (YteijfbpfjjjedaaGreatDoorTie.lean); close each card by the builder's one call (the guide's Derived/Test/ToyasCard.lean, 'card_holds'). Laid BY PROGRAM, IN A SANDBOX (cutbox-door.mjs). By AI agents, Wed Nov 11 2026. No macro, syntax, notation, axiom, sorry.
-/
import Derived.Test.YteijfbpfjjjedaaGreatDoorRows
import GoSem.ClaimSeven
namespace Go.Proofs.YteijfbpfjjjedaaGreatDoor
namespace Rows

/-- THE TIED CARD OF 'laws.FnTablesToo'. -/
def fnTablesTooCard : Claim7 := { stood := { row := fnTablesTooRow, standIns := [], harness := (true, "73a26fcbf4e2be18c9fd0fc9e122177e0d19f06bd88d200802a9d724ea866907"), looks := false }, kinds := [], alts := [], laidByText := true, laidKinds := [.data], laidTests := true, laidLooks := .later }
def FnTablesTooCardSaid : Prop := Claim7.holds Tryz.pinned (.plain (OpenSpec.ofChange fnTablesTooSpec)) fnTablesTooCard

/-- THE SECOND FORM's CARD OF 'laws.FnTablesToo'. -/
def fnTablesTooUptoCard : Claim7 := { stood := { row := fnTablesTooUptoRow, standIns := [], harness := (true, "73a26fcbf4e2be18c9fd0fc9e122177e0d19f06bd88d200802a9d724ea866907"), looks := false }, kinds := [], alts := [], laidByText := true, laidKinds := [.data], laidTests := true, laidLooks := .later }
def FnTablesTooUptoCardSaid : Prop := Claim7.holds Tryz.pinned (.plain (OpenSpec.upto fnTablesTooSpec)) fnTablesTooUptoCard
end Rows
end Go.Proofs.YteijfbpfjjjedaaGreatDoor
