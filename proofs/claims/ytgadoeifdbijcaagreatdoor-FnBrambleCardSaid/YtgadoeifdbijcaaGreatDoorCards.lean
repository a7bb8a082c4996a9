/-
  DERIVED. GIVEN WITH THE SEED: THE CARDS: each row of YtgadoeifdbijcaaGreatDoorRows.lean that lists a variable, with what it lists TIED to the program's text (the seventh form; the later family's looks); each row that meets fmt, with fmt's text TOLD by the authors' own Lean function (tested against real Go, not proved from fmt's source: count such statements apart). THE CARD IS WHAT COUNTS. Prove the row's statement (the work); the ties are given (YtgadoeifdbijcaaGreatDoorTie.lean); close each card by the builder's one call (the guide's Derived/Test/ToyasCard.lean, 'card_holds'). Laid BY PROGRAM, IN A SANDBOX (cutbox-door.mjs). By AI agents, Wed Nov 11 2026. No macro, syntax, notation, axiom, sorry.
-/
import Derived.Test.YtgadoeifdbijcaaGreatDoorRows
import GoSem.ClaimSeven
namespace Go.Proofs.YtgadoeifdbijcaaGreatDoor
namespace Rows

/-- THE TIED CARD OF 'laws.FnBramble'. -/
def fnBrambleCard : Claim7 := { stood := { row := fnBrambleRow, standIns := [], harness := (true, "7bfa3f4aa540c10e0f0eb9a17bc1a90596888939b539e6381f8652512aec6a84"), looks := false }, kinds := [], alts := [], laidByText := true, laidKinds := [.data], laidTests := true, laidLooks := .later }
def FnBrambleCardSaid : Prop := Claim7.holds Tryz.pinned (.plain (OpenSpec.ofChange fnBrambleSpec)) fnBrambleCard

/-- THE TIED CARD OF 'laws.FnTablesToo'. -/
def fnTablesTooCard : Claim7 := { stood := { row := fnTablesTooRow, standIns := [], harness := (true, "7bfa3f4aa540c10e0f0eb9a17bc1a90596888939b539e6381f8652512aec6a84"), looks := false }, kinds := [], alts := [], laidByText := true, laidKinds := [.data], laidTests := true, laidLooks := .later }
def FnTablesTooCardSaid : Prop := Claim7.holds Tryz.pinned (.plain (OpenSpec.ofChange fnTablesTooSpec)) fnTablesTooCard

/-- THE TIED CARD OF 'laws.FnTables'. -/
def fnTablesCard : Claim7 := { stood := { row := fnTablesRow, standIns := [], harness := (true, "7bfa3f4aa540c10e0f0eb9a17bc1a90596888939b539e6381f8652512aec6a84"), looks := false }, kinds := [], alts := [], laidByText := true, laidKinds := [.data], laidTests := true, laidLooks := .later }
def FnTablesCardSaid : Prop := Claim7.holds Tryz.pinned (.plain (OpenSpec.ofChange fnTablesSpec)) fnTablesCard

/-- THE TIED CARD OF 'laws.FnModularTrees'. -/
def fnModularTreesCard : Claim7 := { stood := { row := fnModularTreesRow, standIns := [], harness := (true, "7bfa3f4aa540c10e0f0eb9a17bc1a90596888939b539e6381f8652512aec6a84"), looks := false }, kinds := [], alts := [], laidByText := true, laidKinds := [.data], laidTests := true, laidLooks := .later }
def FnModularTreesCardSaid : Prop := Claim7.holds Tryz.pinned (.plain (OpenSpec.ofChange fnModularTreesSpec)) fnModularTreesCard

/-- THE SECOND FORM's CARD OF 'laws.FnBramble'. -/
def fnBrambleUptoCard : Claim7 := { stood := { row := fnBrambleUptoRow, standIns := [], harness := (true, "7bfa3f4aa540c10e0f0eb9a17bc1a90596888939b539e6381f8652512aec6a84"), looks := false }, kinds := [], alts := [], laidByText := true, laidKinds := [.data], laidTests := true, laidLooks := .later }
def FnBrambleUptoCardSaid : Prop := Claim7.holds Tryz.pinned (.plain (OpenSpec.upto fnBrambleSpec)) fnBrambleUptoCard

/-- THE SECOND FORM's CARD OF 'laws.FnTablesToo'. -/
def fnTablesTooUptoCard : Claim7 := { stood := { row := fnTablesTooUptoRow, standIns := [], harness := (true, "7bfa3f4aa540c10e0f0eb9a17bc1a90596888939b539e6381f8652512aec6a84"), looks := false }, kinds := [], alts := [], laidByText := true, laidKinds := [.data], laidTests := true, laidLooks := .later }
def FnTablesTooUptoCardSaid : Prop := Claim7.holds Tryz.pinned (.plain (OpenSpec.upto fnTablesTooSpec)) fnTablesTooUptoCard

/-- THE SECOND FORM's CARD OF 'laws.FnTables'. -/
def fnTablesUptoCard : Claim7 := { stood := { row := fnTablesUptoRow, standIns := [], harness := (true, "7bfa3f4aa540c10e0f0eb9a17bc1a90596888939b539e6381f8652512aec6a84"), looks := false }, kinds := [], alts := [], laidByText := true, laidKinds := [.data], laidTests := true, laidLooks := .later }
def FnTablesUptoCardSaid : Prop := Claim7.holds Tryz.pinned (.plain (OpenSpec.upto fnTablesSpec)) fnTablesUptoCard

/-- THE SECOND FORM's CARD OF 'laws.FnModularTrees'. -/
def fnModularTreesUptoCard : Claim7 := { stood := { row := fnModularTreesUptoRow, standIns := [], harness := (true, "7bfa3f4aa540c10e0f0eb9a17bc1a90596888939b539e6381f8652512aec6a84"), looks := false }, kinds := [], alts := [], laidByText := true, laidKinds := [.data], laidTests := true, laidLooks := .later }
def FnModularTreesUptoCardSaid : Prop := Claim7.holds Tryz.pinned (.plain (OpenSpec.upto fnModularTreesSpec)) fnModularTreesUptoCard
end Rows
end Go.Proofs.YtgadoeifdbijcaaGreatDoor
