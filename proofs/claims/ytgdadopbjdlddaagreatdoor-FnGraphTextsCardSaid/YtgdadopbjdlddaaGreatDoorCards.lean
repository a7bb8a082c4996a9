/-
  DERIVED. GIVEN WITH THE SEED: THE CARDS: each row of YtgdadopbjdlddaaGreatDoorRows.lean that lists a variable, with what it lists TIED to the program's text (the seventh form; the later family's looks); each row that meets fmt, with fmt's text TOLD by the authors' own Lean function (tested against real Go, not proved from fmt's source: count such statements apart). THE CARD IS WHAT COUNTS. Prove the row's statement (the work); the ties are given (YtgdadopbjdlddaaGreatDoorTie.lean); close each card by the builder's one call (the guide's Derived/Test/ToyasCard.lean, 'card_holds'). Laid BY PROGRAM, IN A SANDBOX (cutbox-door.mjs). By AI agents, Wed Nov 11 2026. No macro, syntax, notation, axiom, sorry.
-/
import Derived.Test.YtgdadopbjdlddaaGreatDoorRows
import GoSem.ClaimSeven
namespace Go.Proofs.YtgdadopbjdlddaaGreatDoor
namespace Rows

/-- THE TIED CARD OF 'laws.FnGraphTexts'. -/
def fnGraphTextsCard : Claim7 := { stood := { row := fnGraphTextsRow, standIns := [], harness := (true, "da01cd830f100796c5f1bd1329e69dfcba669bc6e23aa88a886e10285bc7b0c4"), looks := true }, kinds := [], alts := [], laidByText := true, laidKinds := [.data, .data, .data, .data, .sentinel, .sentinel, .pinned], laidTests := true, laidLooks := .later }
def FnGraphTextsCardSaid : Prop := Claim7.holds Tryz.pinned (.plain (OpenSpec.ofChange fnGraphTextsSpec)) fnGraphTextsCard

/-- THE SECOND FORM's CARD OF 'laws.FnGraphTexts'. -/
def fnGraphTextsUptoCard : Claim7 := { stood := { row := fnGraphTextsUptoRow, standIns := [], harness := (true, "da01cd830f100796c5f1bd1329e69dfcba669bc6e23aa88a886e10285bc7b0c4"), looks := true }, kinds := [], alts := [], laidByText := true, laidKinds := [.data, .data, .data, .data, .sentinel, .sentinel, .pinned], laidTests := true, laidLooks := .later }
def FnGraphTextsUptoCardSaid : Prop := Claim7.holds Tryz.pinned (.plain (OpenSpec.upto fnGraphTextsSpec)) fnGraphTextsUptoCard
end Rows
end Go.Proofs.YtgdadopbjdlddaaGreatDoor
