/-
  DERIVED. GIVEN WITH THE SEED: THE CARDS: each row of YtkoehcencogjpaaGreatDoorRows.lean that lists a variable, with what it lists TIED to the program's text (the seventh form; the later family's looks); each row that meets fmt, with fmt's text TOLD by the authors' own Lean function (tested against real Go, not proved from fmt's source: count such statements apart). THE CARD IS WHAT COUNTS. Prove the row's statement (the work); the ties are given (YtkoehcencogjpaaGreatDoorTie.lean); close each card by the builder's one call (the guide's Derived/Test/ToyasCard.lean, 'card_holds'). Laid BY PROGRAM, IN A SANDBOX (cutbox-door.mjs). By AI agents, Wed Nov 11 2026. No macro, syntax, notation, axiom, sorry.
-/
import Derived.Test.YtkoehcencogjpaaGreatDoorRows
import GoSem.ClaimSeven
namespace Go.Proofs.YtkoehcencogjpaaGreatDoor
namespace Rows

/-- THE TIED CARD OF 'laws.FnExactWidthCerts'. -/
def fnExactWidthCertsCard : Claim7 := { stood := { row := fnExactWidthCertsRow, standIns := [], harness := (true, "2f4092ab1065f733fb6eadf2008ecfc906660a46bcbe43fa6abdff9b7649a997"), looks := false }, kinds := [], alts := [], laidByText := true, laidKinds := [.data], laidTests := true, laidLooks := .later }
def FnExactWidthCertsCardSaid : Prop := Claim7.holds Tryz.pinned (.plain (OpenSpec.ofChange fnExactWidthCertsSpec)) fnExactWidthCertsCard

/-- THE SECOND FORM's CARD OF 'laws.FnExactWidthCerts'. -/
def fnExactWidthCertsUptoCard : Claim7 := { stood := { row := fnExactWidthCertsUptoRow, standIns := [], harness := (true, "2f4092ab1065f733fb6eadf2008ecfc906660a46bcbe43fa6abdff9b7649a997"), looks := false }, kinds := [], alts := [], laidByText := true, laidKinds := [.data], laidTests := true, laidLooks := .later }
def FnExactWidthCertsUptoCardSaid : Prop := Claim7.holds Tryz.pinned (.plain (OpenSpec.upto fnExactWidthCertsSpec)) fnExactWidthCertsUptoCard
end Rows
end Go.Proofs.YtkoehcencogjpaaGreatDoor
