/-
  DERIVED. GIVEN WITH THE SEED: THE CARDS: each row of YtblebdlmoffmjaaDoorRows.lean that lists a variable, with what it lists TIED to the program's text (the seventh form; the later family's looks); each row that meets fmt, with fmt's text TOLD by the authors' own Lean function (tested against real Go, not proved from fmt's source: count such statements apart). THE CARD IS WHAT COUNTS. Prove the row's statement (the work); the ties are given (YtblebdlmoffmjaaDoorTie.lean); close each card by the builder's one call (the guide's Derived/Test/ToyasCard.lean, 'card_holds'). Laid BY PROGRAM, IN A SANDBOX (cutbox-door.mjs). By AI agents, Wed Nov 11 2026. No macro, syntax, notation, axiom, sorry.
-/
import Derived.Test.YtblebdlmoffmjaaDoorRows
import GoSem.ClaimSeven
namespace Go.Proofs.YtblebdlmoffmjaaDoor
namespace Rows

/-- THE TIED CARD OF 'laws.FnNegated'. -/
def fnNegatedCard : Claim7 := { stood := { row := fnNegatedRow, standIns := [], harness := (true, "51f9c47759f91921889974c2f1bbe5395064d48ae1eb9162e7269ffdf8f5fd14"), looks := false }, kinds := [], alts := [], laidByText := true, laidKinds := [.data], laidTests := true, laidLooks := .later }
def FnNegatedCardSaid : Prop := Claim7.holds Tryd.pinned (.plain (OpenSpec.ofChange fnNegatedSpec)) fnNegatedCard

/-- THE SECOND FORM's CARD OF 'laws.FnNegated'. -/
def fnNegatedUptoCard : Claim7 := { stood := { row := fnNegatedUptoRow, standIns := [], harness := (true, "51f9c47759f91921889974c2f1bbe5395064d48ae1eb9162e7269ffdf8f5fd14"), looks := false }, kinds := [], alts := [], laidByText := true, laidKinds := [.data], laidTests := true, laidLooks := .later }
def FnNegatedUptoCardSaid : Prop := Claim7.holds Tryd.pinned (.plain (OpenSpec.upto fnNegatedSpec)) fnNegatedUptoCard
end Rows
end Go.Proofs.YtblebdlmoffmjaaDoor
