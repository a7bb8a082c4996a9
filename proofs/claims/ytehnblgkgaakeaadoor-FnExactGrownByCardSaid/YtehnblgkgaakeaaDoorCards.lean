/-
  DERIVED. GIVEN WITH THE SEED: THE CARDS: each row of YtehnblgkgaakeaaDoorRows.lean that lists a variable, with what it lists TIED to the program's text (the seventh form; the later family's looks); each row that meets fmt, with fmt's text TOLD by the authors' own Lean function (tested against real Go, not proved from fmt's source: count such statements apart). THE CARD IS WHAT COUNTS. Prove the row's statement (the work); the ties are given (YtehnblgkgaakeaaDoorTie.lean); close each card by the builder's one call (the guide's Derived/Test/ToyasCard.lean, 'card_holds'). Laid BY PROGRAM, IN A SANDBOX (cutbox-door.mjs). By AI agents, Wed Nov 11 2026. No macro, syntax, notation, axiom, sorry.
-/
import Derived.Test.YtehnblgkgaakeaaDoorRows
import GoSem.ClaimSeven
namespace Go.Proofs.YtehnblgkgaakeaaDoor
namespace Rows

/-- THE TIED CARD OF 'laws.FnPathBags'. -/
def fnPathBagsCard : Claim7 := { stood := { row := fnPathBagsRow, standIns := [], harness := (true, "1630508bf958e27f685723c416f2cfdb01d995e1279d0e18ad61cd6181d4cc43"), looks := false }, kinds := [], alts := [], laidByText := true, laidKinds := [.data], laidTests := true, laidLooks := .later }
def FnPathBagsCardSaid : Prop := Claim7.holds Tryd.pinned (.plain (OpenSpec.ofChange fnPathBagsSpec)) fnPathBagsCard

/-- THE TIED CARD OF 'laws.FnExactGrownBy'. -/
def fnExactGrownByCard : Claim7 := { stood := { row := fnExactGrownByRow, standIns := [], harness := (true, "1630508bf958e27f685723c416f2cfdb01d995e1279d0e18ad61cd6181d4cc43"), looks := false }, kinds := [], alts := [], laidByText := true, laidKinds := [.data], laidTests := true, laidLooks := .later }
def FnExactGrownByCardSaid : Prop := Claim7.holds Tryd.pinned (.plain (OpenSpec.ofChange fnExactGrownBySpec)) fnExactGrownByCard

/-- THE TIED CARD OF 'laws.FnOrders'. -/
def fnOrdersCard : Claim7 := { stood := { row := fnOrdersRow, standIns := [], harness := (true, "1630508bf958e27f685723c416f2cfdb01d995e1279d0e18ad61cd6181d4cc43"), looks := false }, kinds := [], alts := [], laidByText := true, laidKinds := [.data], laidTests := true, laidLooks := .later }
def FnOrdersCardSaid : Prop := Claim7.holds Tryd.pinned (.plain (OpenSpec.ofChange fnOrdersSpec)) fnOrdersCard

/-- THE SECOND FORM's CARD OF 'laws.FnPathBags'. -/
def fnPathBagsUptoCard : Claim7 := { stood := { row := fnPathBagsUptoRow, standIns := [], harness := (true, "1630508bf958e27f685723c416f2cfdb01d995e1279d0e18ad61cd6181d4cc43"), looks := false }, kinds := [], alts := [], laidByText := true, laidKinds := [.data], laidTests := true, laidLooks := .later }
def FnPathBagsUptoCardSaid : Prop := Claim7.holds Tryd.pinned (.plain (OpenSpec.upto fnPathBagsSpec)) fnPathBagsUptoCard

/-- THE SECOND FORM's CARD OF 'laws.FnExactGrownBy'. -/
def fnExactGrownByUptoCard : Claim7 := { stood := { row := fnExactGrownByUptoRow, standIns := [], harness := (true, "1630508bf958e27f685723c416f2cfdb01d995e1279d0e18ad61cd6181d4cc43"), looks := false }, kinds := [], alts := [], laidByText := true, laidKinds := [.data], laidTests := true, laidLooks := .later }
def FnExactGrownByUptoCardSaid : Prop := Claim7.holds Tryd.pinned (.plain (OpenSpec.upto fnExactGrownBySpec)) fnExactGrownByUptoCard

/-- THE SECOND FORM's CARD OF 'laws.FnOrders'. -/
def fnOrdersUptoCard : Claim7 := { stood := { row := fnOrdersUptoRow, standIns := [], harness := (true, "1630508bf958e27f685723c416f2cfdb01d995e1279d0e18ad61cd6181d4cc43"), looks := false }, kinds := [], alts := [], laidByText := true, laidKinds := [.data], laidTests := true, laidLooks := .later }
def FnOrdersUptoCardSaid : Prop := Claim7.holds Tryd.pinned (.plain (OpenSpec.upto fnOrdersSpec)) fnOrdersUptoCard
end Rows
end Go.Proofs.YtehnblgkgaakeaaDoor
