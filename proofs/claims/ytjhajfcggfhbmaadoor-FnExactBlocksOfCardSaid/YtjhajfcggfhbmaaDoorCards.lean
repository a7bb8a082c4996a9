/-
  DERIVED. GIVEN WITH THE SEED: THE CARDS: each row of YtjhajfcggfhbmaaDoorRows.lean that lists a variable, with what it lists TIED to the program's text (the seventh form; the later family's looks); each row that meets fmt, with fmt's text TOLD by the authors' own Lean function (tested against real Go, not proved from fmt's source: count such statements apart). THE CARD IS WHAT COUNTS. Prove the row's statement (the work); the ties are given (YtjhajfcggfhbmaaDoorTie.lean); close each card by the builder's one call (the guide's Derived/Test/ToyasCard.lean, 'card_holds'). Laid BY PROGRAM, IN A SANDBOX (cutbox-door.mjs). By AI agents, Wed Nov 11 2026. No macro, syntax, notation, axiom, sorry.
-/
import Derived.Test.YtjhajfcggfhbmaaDoorRows
import GoSem.ClaimSeven
namespace Go.Proofs.YtjhajfcggfhbmaaDoor
namespace Rows

/-- THE TIED CARD OF 'laws.FnExactBlocksOf'. -/
def fnExactBlocksOfCard : Claim7 := { stood := { row := fnExactBlocksOfRow, standIns := [], harness := (true, "9d7240ca16db27bb62855312d7609f5252e0e90c0c26e0be1dc7cd1cab954057"), looks := false }, kinds := [], alts := [], laidByText := true, laidKinds := [.data], laidTests := true, laidLooks := .later }
def FnExactBlocksOfCardSaid : Prop := Claim7.holds Tryd.pinned (.plain (OpenSpec.ofChange fnExactBlocksOfSpec)) fnExactBlocksOfCard

/-- THE TIED CARD OF 'laws.FnIntervals'. -/
def fnIntervalsCard : Claim7 := { stood := { row := fnIntervalsRow, standIns := [], harness := (true, "9d7240ca16db27bb62855312d7609f5252e0e90c0c26e0be1dc7cd1cab954057"), looks := false }, kinds := [], alts := [], laidByText := true, laidKinds := [.data], laidTests := true, laidLooks := .later }
def FnIntervalsCardSaid : Prop := Claim7.holds Tryd.pinned (.plain (OpenSpec.ofChange fnIntervalsSpec)) fnIntervalsCard

/-- THE TIED CARD OF 'laws.FnExactProperIn'. -/
def fnExactProperInCard : Claim7 := { stood := { row := fnExactProperInRow, standIns := [], harness := (true, "9d7240ca16db27bb62855312d7609f5252e0e90c0c26e0be1dc7cd1cab954057"), looks := false }, kinds := [], alts := [], laidByText := true, laidKinds := [.data], laidTests := true, laidLooks := .later }
def FnExactProperInCardSaid : Prop := Claim7.holds Tryd.pinned (.plain (OpenSpec.ofChange fnExactProperInSpec)) fnExactProperInCard

/-- THE SECOND FORM's CARD OF 'laws.FnExactBlocksOf'. -/
def fnExactBlocksOfUptoCard : Claim7 := { stood := { row := fnExactBlocksOfUptoRow, standIns := [], harness := (true, "9d7240ca16db27bb62855312d7609f5252e0e90c0c26e0be1dc7cd1cab954057"), looks := false }, kinds := [], alts := [], laidByText := true, laidKinds := [.data], laidTests := true, laidLooks := .later }
def FnExactBlocksOfUptoCardSaid : Prop := Claim7.holds Tryd.pinned (.plain (OpenSpec.upto fnExactBlocksOfSpec)) fnExactBlocksOfUptoCard

/-- THE SECOND FORM's CARD OF 'laws.FnIntervals'. -/
def fnIntervalsUptoCard : Claim7 := { stood := { row := fnIntervalsUptoRow, standIns := [], harness := (true, "9d7240ca16db27bb62855312d7609f5252e0e90c0c26e0be1dc7cd1cab954057"), looks := false }, kinds := [], alts := [], laidByText := true, laidKinds := [.data], laidTests := true, laidLooks := .later }
def FnIntervalsUptoCardSaid : Prop := Claim7.holds Tryd.pinned (.plain (OpenSpec.upto fnIntervalsSpec)) fnIntervalsUptoCard

/-- THE SECOND FORM's CARD OF 'laws.FnExactProperIn'. -/
def fnExactProperInUptoCard : Claim7 := { stood := { row := fnExactProperInUptoRow, standIns := [], harness := (true, "9d7240ca16db27bb62855312d7609f5252e0e90c0c26e0be1dc7cd1cab954057"), looks := false }, kinds := [], alts := [], laidByText := true, laidKinds := [.data], laidTests := true, laidLooks := .later }
def FnExactProperInUptoCardSaid : Prop := Claim7.holds Tryd.pinned (.plain (OpenSpec.upto fnExactProperInSpec)) fnExactProperInUptoCard
end Rows
end Go.Proofs.YtjhajfcggfhbmaaDoor
