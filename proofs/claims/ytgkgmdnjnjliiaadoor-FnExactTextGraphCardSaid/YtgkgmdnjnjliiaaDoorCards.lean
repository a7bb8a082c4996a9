/-
  DERIVED. GIVEN WITH THE SEED: THE CARDS: each row of YtgkgmdnjnjliiaaDoorRows.lean that lists a variable, with what it lists TIED to the program's text (the seventh form; the later family's looks); each row that meets fmt, with fmt's text TOLD by the authors' own Lean function (tested against real Go, not proved from fmt's source: count such statements apart). THE CARD IS WHAT COUNTS. Prove the row's statement (the work); the ties are given (YtgkgmdnjnjliiaaDoorTie.lean); close each card by the builder's one call (the guide's Derived/Test/ToyasCard.lean, 'card_holds'). Laid BY PROGRAM, IN A SANDBOX (cutbox-door.mjs). By AI agents, Wed Nov 11 2026. No macro, syntax, notation, axiom, sorry.
-/
import Derived.Test.YtgkgmdnjnjliiaaDoorRows
import GoSem.ClaimSeven
namespace Go.Proofs.YtgkgmdnjnjliiaaDoor
namespace Rows

/-- THE TIED CARD OF 'laws.FnExactTextGraph'. -/
def fnExactTextGraphCard : Claim7 := { stood := { row := fnExactTextGraphRow, standIns := [], harness := (true, "f9206e6daba00759ac5bc86ee4373de359482decd9595262e3fbba5e1c460979"), looks := true }, kinds := [], alts := [], laidByText := true, laidKinds := [.data, .data, .data, .data, .sentinel, .sentinel, .pinned], laidTests := true, laidLooks := .later }
def FnExactTextGraphCardSaid : Prop := Claim7.holds Tryd.pinned (.plain (OpenSpec.ofChange fnExactTextGraphSpec)) fnExactTextGraphCard

/-- THE SECOND FORM's CARD OF 'laws.FnExactTextGraph'. -/
def fnExactTextGraphUptoCard : Claim7 := { stood := { row := fnExactTextGraphUptoRow, standIns := [], harness := (true, "f9206e6daba00759ac5bc86ee4373de359482decd9595262e3fbba5e1c460979"), looks := true }, kinds := [], alts := [], laidByText := true, laidKinds := [.data, .data, .data, .data, .sentinel, .sentinel, .pinned], laidTests := true, laidLooks := .later }
def FnExactTextGraphUptoCardSaid : Prop := Claim7.holds Tryd.pinned (.plain (OpenSpec.upto fnExactTextGraphSpec)) fnExactTextGraphUptoCard
end Rows
end Go.Proofs.YtgkgmdnjnjliiaaDoor
