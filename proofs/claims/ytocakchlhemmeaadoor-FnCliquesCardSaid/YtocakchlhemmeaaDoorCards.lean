/-
  DERIVED. GIVEN WITH THE SEED: THE CARDS: each row of YtocakchlhemmeaaDoorRows.lean that lists a variable, with what it lists TIED to the program's text (the seventh form; the later family's looks); each row that meets fmt, with fmt's text TOLD by the authors' own Lean function (tested against real Go, not proved from fmt's source: count such statements apart). THE CARD IS WHAT COUNTS. Prove the row's statement (the work); the ties are given (YtocakchlhemmeaaDoorTie.lean); close each card by the builder's one call (the guide's Derived/Test/ToyasCard.lean, 'card_holds'). Laid BY PROGRAM, IN A SANDBOX (cutbox-door.mjs). By AI agents, Wed Nov 11 2026. No macro, syntax, notation, axiom, sorry.
-/
import Derived.Test.YtocakchlhemmeaaDoorRows
import GoSem.ClaimSeven
namespace Go.Proofs.YtocakchlhemmeaaDoor
namespace Rows

/-- THE TIED CARD OF 'laws.FnExactLastingStables'. -/
def fnExactLastingStablesCard : Claim7 := { stood := { row := fnExactLastingStablesRow, standIns := [], harness := (true, "7d6d5f9a0426867e3cc3edeb8cf572b151a8f239b2f970aad58b7dec32a5b17c"), looks := false }, kinds := [], alts := [], laidByText := true, laidKinds := [.data], laidTests := true, laidLooks := .later }
def FnExactLastingStablesCardSaid : Prop := Claim7.holds Tryd.pinned (.plain (OpenSpec.ofChange fnExactLastingStablesSpec)) fnExactLastingStablesCard

/-- THE TIED CARD OF 'laws.FnSetsOk'. -/
def fnSetsOkCard : Claim7 := { stood := { row := fnSetsOkRow, standIns := [], harness := (true, "7d6d5f9a0426867e3cc3edeb8cf572b151a8f239b2f970aad58b7dec32a5b17c"), looks := false }, kinds := [], alts := [], laidByText := true, laidKinds := [.data], laidTests := true, laidLooks := .later }
def FnSetsOkCardSaid : Prop := Claim7.holds Tryd.pinned (.plain (OpenSpec.ofChange fnSetsOkSpec)) fnSetsOkCard

/-- THE TIED CARD OF 'laws.FnCliques'. -/
def fnCliquesCard : Claim7 := { stood := { row := fnCliquesRow, standIns := [], harness := (true, "7d6d5f9a0426867e3cc3edeb8cf572b151a8f239b2f970aad58b7dec32a5b17c"), looks := false }, kinds := [], alts := [], laidByText := true, laidKinds := [.data], laidTests := true, laidLooks := .later }
def FnCliquesCardSaid : Prop := Claim7.holds Tryd.pinned (.plain (OpenSpec.ofChange fnCliquesSpec)) fnCliquesCard

/-- THE SECOND FORM's CARD OF 'laws.FnExactLastingStables'. -/
def fnExactLastingStablesUptoCard : Claim7 := { stood := { row := fnExactLastingStablesUptoRow, standIns := [], harness := (true, "7d6d5f9a0426867e3cc3edeb8cf572b151a8f239b2f970aad58b7dec32a5b17c"), looks := false }, kinds := [], alts := [], laidByText := true, laidKinds := [.data], laidTests := true, laidLooks := .later }
def FnExactLastingStablesUptoCardSaid : Prop := Claim7.holds Tryd.pinned (.plain (OpenSpec.upto fnExactLastingStablesSpec)) fnExactLastingStablesUptoCard

/-- THE SECOND FORM's CARD OF 'laws.FnSetsOk'. -/
def fnSetsOkUptoCard : Claim7 := { stood := { row := fnSetsOkUptoRow, standIns := [], harness := (true, "7d6d5f9a0426867e3cc3edeb8cf572b151a8f239b2f970aad58b7dec32a5b17c"), looks := false }, kinds := [], alts := [], laidByText := true, laidKinds := [.data], laidTests := true, laidLooks := .later }
def FnSetsOkUptoCardSaid : Prop := Claim7.holds Tryd.pinned (.plain (OpenSpec.upto fnSetsOkSpec)) fnSetsOkUptoCard

/-- THE SECOND FORM's CARD OF 'laws.FnCliques'. -/
def fnCliquesUptoCard : Claim7 := { stood := { row := fnCliquesUptoRow, standIns := [], harness := (true, "7d6d5f9a0426867e3cc3edeb8cf572b151a8f239b2f970aad58b7dec32a5b17c"), looks := false }, kinds := [], alts := [], laidByText := true, laidKinds := [.data], laidTests := true, laidLooks := .later }
def FnCliquesUptoCardSaid : Prop := Claim7.holds Tryd.pinned (.plain (OpenSpec.upto fnCliquesSpec)) fnCliquesUptoCard
end Rows
end Go.Proofs.YtocakchlhemmeaaDoor
