/-
  DERIVED. GIVEN WITH THE SEED: THE CARDS: each row of YtfmaahgchbfbiaaDoorRows.lean that lists a variable, with what it lists TIED to the program's text (the seventh form; the later family's looks); each row that meets fmt, with fmt's text TOLD by the authors' own Lean function (tested against real Go, not proved from fmt's source: count such statements apart). THE CARD IS WHAT COUNTS. Prove the row's statement (the work); the ties are given (YtfmaahgchbfbiaaDoorTie.lean); close each card by the builder's one call (the guide's Derived/Test/ToyasCard.lean, 'card_holds'). Laid BY PROGRAM, IN A SANDBOX (cutbox-door.mjs). By AI agents, Wed Nov 11 2026. No macro, syntax, notation, axiom, sorry.
-/
import Derived.Test.YtfmaahgchbfbiaaDoorRows
import GoSem.ClaimSeven
namespace Go.Proofs.YtfmaahgchbfbiaaDoor
namespace Rows

/-- THE TIED CARD OF 'laws.FnExactOriented'. -/
def fnExactOrientedCard : Claim7 := { stood := { row := fnExactOrientedRow, standIns := [], harness := (true, "492fa89a0886640d62b18ea09476edb2ec1bfd3b67129f19bcd2213a63709610"), looks := false }, kinds := [], alts := [], laidByText := true, laidKinds := [.data], laidTests := true, laidLooks := .later }
def FnExactOrientedCardSaid : Prop := Claim7.holds Tryd.pinned (.plain (OpenSpec.ofChange fnExactOrientedSpec)) fnExactOrientedCard

/-- THE TIED CARD OF 'laws.FnOriented'. -/
def fnOrientedCard : Claim7 := { stood := { row := fnOrientedRow, standIns := [], harness := (true, "492fa89a0886640d62b18ea09476edb2ec1bfd3b67129f19bcd2213a63709610"), looks := false }, kinds := [], alts := [], laidByText := true, laidKinds := [.data], laidTests := true, laidLooks := .later }
def FnOrientedCardSaid : Prop := Claim7.holds Tryd.pinned (.plain (OpenSpec.ofChange fnOrientedSpec)) fnOrientedCard

/-- THE TIED CARD OF 'laws.FnNoIntervals'. -/
def fnNoIntervalsCard : Claim7 := { stood := { row := fnNoIntervalsRow, standIns := [], harness := (true, "492fa89a0886640d62b18ea09476edb2ec1bfd3b67129f19bcd2213a63709610"), looks := false }, kinds := [], alts := [], laidByText := true, laidKinds := [.data], laidTests := true, laidLooks := .later }
def FnNoIntervalsCardSaid : Prop := Claim7.holds Tryd.pinned (.plain (OpenSpec.ofChange fnNoIntervalsSpec)) fnNoIntervalsCard

/-- THE TIED CARD OF 'laws.FnRounds'. -/
def fnRoundsCard : Claim7 := { stood := { row := fnRoundsRow, standIns := [], harness := (true, "492fa89a0886640d62b18ea09476edb2ec1bfd3b67129f19bcd2213a63709610"), looks := false }, kinds := [], alts := [], laidByText := true, laidKinds := [.data], laidTests := true, laidLooks := .later }
def FnRoundsCardSaid : Prop := Claim7.holds Tryd.pinned (.plain (OpenSpec.ofChange fnRoundsSpec)) fnRoundsCard

/-- THE SECOND FORM's CARD OF 'laws.FnExactOriented'. -/
def fnExactOrientedUptoCard : Claim7 := { stood := { row := fnExactOrientedUptoRow, standIns := [], harness := (true, "492fa89a0886640d62b18ea09476edb2ec1bfd3b67129f19bcd2213a63709610"), looks := false }, kinds := [], alts := [], laidByText := true, laidKinds := [.data], laidTests := true, laidLooks := .later }
def FnExactOrientedUptoCardSaid : Prop := Claim7.holds Tryd.pinned (.plain (OpenSpec.upto fnExactOrientedSpec)) fnExactOrientedUptoCard

/-- THE SECOND FORM's CARD OF 'laws.FnOriented'. -/
def fnOrientedUptoCard : Claim7 := { stood := { row := fnOrientedUptoRow, standIns := [], harness := (true, "492fa89a0886640d62b18ea09476edb2ec1bfd3b67129f19bcd2213a63709610"), looks := false }, kinds := [], alts := [], laidByText := true, laidKinds := [.data], laidTests := true, laidLooks := .later }
def FnOrientedUptoCardSaid : Prop := Claim7.holds Tryd.pinned (.plain (OpenSpec.upto fnOrientedSpec)) fnOrientedUptoCard

/-- THE SECOND FORM's CARD OF 'laws.FnNoIntervals'. -/
def fnNoIntervalsUptoCard : Claim7 := { stood := { row := fnNoIntervalsUptoRow, standIns := [], harness := (true, "492fa89a0886640d62b18ea09476edb2ec1bfd3b67129f19bcd2213a63709610"), looks := false }, kinds := [], alts := [], laidByText := true, laidKinds := [.data], laidTests := true, laidLooks := .later }
def FnNoIntervalsUptoCardSaid : Prop := Claim7.holds Tryd.pinned (.plain (OpenSpec.upto fnNoIntervalsSpec)) fnNoIntervalsUptoCard

/-- THE SECOND FORM's CARD OF 'laws.FnRounds'. -/
def fnRoundsUptoCard : Claim7 := { stood := { row := fnRoundsUptoRow, standIns := [], harness := (true, "492fa89a0886640d62b18ea09476edb2ec1bfd3b67129f19bcd2213a63709610"), looks := false }, kinds := [], alts := [], laidByText := true, laidKinds := [.data], laidTests := true, laidLooks := .later }
def FnRoundsUptoCardSaid : Prop := Claim7.holds Tryd.pinned (.plain (OpenSpec.upto fnRoundsSpec)) fnRoundsUptoCard
end Rows
end Go.Proofs.YtfmaahgchbfbiaaDoor
