/-
  DERIVED. GIVEN WITH THE SEED: THE CARDS: each row of YtebbefpdncgoiaaGreatDoorRows.lean that lists a variable, with what it lists TIED to the program's text (the seventh form; the later family's looks); each row that meets fmt, with fmt's text TOLD by the authors' own Lean function (tested against real Go, not proved from fmt's source: count such statements apart). THE CARD IS WHAT COUNTS. Prove the row's statement (the work); the ties are given (YtebbefpdncgoiaaGreatDoorTie.lean); close each card by the builder's one call (the guide's Derived/Test/ToyasCard.lean, 'card_holds'). Laid BY PROGRAM, IN A SANDBOX (cutbox-door.mjs). By AI agents, Wed Nov 11 2026. No macro, syntax, notation, axiom, sorry.
-/
import Derived.Test.YtebbefpdncgoiaaGreatDoorRows
import GoSem.ClaimSeven
namespace Go.Proofs.YtebbefpdncgoiaaGreatDoor
namespace Rows

/-- THE TIED CARD OF 'laws.FnExactCliqueTree'. -/
def fnExactCliqueTreeCard : Claim7 := { stood := { row := fnExactCliqueTreeRow, standIns := [], harness := (true, "13f97607a22dbc660bee19d7f8bed624501c32a13d1ce54b28a8fcb00e55cc9e"), looks := false }, kinds := [], alts := [], laidByText := true, laidKinds := [.data], laidTests := true, laidLooks := .later }
def FnExactCliqueTreeCardSaid : Prop := Claim7.holds Tryz.pinned (.plain (OpenSpec.ofChange fnExactCliqueTreeSpec)) fnExactCliqueTreeCard

/-- THE TIED CARD OF 'laws.FnExactTidiedDecomp'. -/
def fnExactTidiedDecompCard : Claim7 := { stood := { row := fnExactTidiedDecompRow, standIns := [], harness := (true, "13f97607a22dbc660bee19d7f8bed624501c32a13d1ce54b28a8fcb00e55cc9e"), looks := false }, kinds := [], alts := [], laidByText := true, laidKinds := [.data], laidTests := true, laidLooks := .later }
def FnExactTidiedDecompCardSaid : Prop := Claim7.holds Tryz.pinned (.plain (OpenSpec.ofChange fnExactTidiedDecompSpec)) fnExactTidiedDecompCard

/-- THE TIED CARD OF 'laws.FnExactDecompBy'. -/
def fnExactDecompByCard : Claim7 := { stood := { row := fnExactDecompByRow, standIns := [], harness := (true, "13f97607a22dbc660bee19d7f8bed624501c32a13d1ce54b28a8fcb00e55cc9e"), looks := false }, kinds := [], alts := [], laidByText := true, laidKinds := [.data], laidTests := true, laidLooks := .later }
def FnExactDecompByCardSaid : Prop := Claim7.holds Tryz.pinned (.plain (OpenSpec.ofChange fnExactDecompBySpec)) fnExactDecompByCard

/-- THE TIED CARD OF 'laws.FnCliqueTree'. -/
def fnCliqueTreeCard : Claim7 := { stood := { row := fnCliqueTreeRow, standIns := [], harness := (true, "13f97607a22dbc660bee19d7f8bed624501c32a13d1ce54b28a8fcb00e55cc9e"), looks := false }, kinds := [], alts := [], laidByText := true, laidKinds := [.data], laidTests := true, laidLooks := .later }
def FnCliqueTreeCardSaid : Prop := Claim7.holds Tryz.pinned (.plain (OpenSpec.ofChange fnCliqueTreeSpec)) fnCliqueTreeCard

/-- THE TIED CARD OF 'laws.FnBags'. -/
def fnBagsCard : Claim7 := { stood := { row := fnBagsRow, standIns := [], harness := (true, "13f97607a22dbc660bee19d7f8bed624501c32a13d1ce54b28a8fcb00e55cc9e"), looks := false }, kinds := [], alts := [], laidByText := true, laidKinds := [.data], laidTests := true, laidLooks := .later }
def FnBagsCardSaid : Prop := Claim7.holds Tryz.pinned (.plain (OpenSpec.ofChange fnBagsSpec)) fnBagsCard

/-- THE SECOND FORM's CARD OF 'laws.FnExactCliqueTree'. -/
def fnExactCliqueTreeUptoCard : Claim7 := { stood := { row := fnExactCliqueTreeUptoRow, standIns := [], harness := (true, "13f97607a22dbc660bee19d7f8bed624501c32a13d1ce54b28a8fcb00e55cc9e"), looks := false }, kinds := [], alts := [], laidByText := true, laidKinds := [.data], laidTests := true, laidLooks := .later }
def FnExactCliqueTreeUptoCardSaid : Prop := Claim7.holds Tryz.pinned (.plain (OpenSpec.upto fnExactCliqueTreeSpec)) fnExactCliqueTreeUptoCard

/-- THE SECOND FORM's CARD OF 'laws.FnExactTidiedDecomp'. -/
def fnExactTidiedDecompUptoCard : Claim7 := { stood := { row := fnExactTidiedDecompUptoRow, standIns := [], harness := (true, "13f97607a22dbc660bee19d7f8bed624501c32a13d1ce54b28a8fcb00e55cc9e"), looks := false }, kinds := [], alts := [], laidByText := true, laidKinds := [.data], laidTests := true, laidLooks := .later }
def FnExactTidiedDecompUptoCardSaid : Prop := Claim7.holds Tryz.pinned (.plain (OpenSpec.upto fnExactTidiedDecompSpec)) fnExactTidiedDecompUptoCard

/-- THE SECOND FORM's CARD OF 'laws.FnExactDecompBy'. -/
def fnExactDecompByUptoCard : Claim7 := { stood := { row := fnExactDecompByUptoRow, standIns := [], harness := (true, "13f97607a22dbc660bee19d7f8bed624501c32a13d1ce54b28a8fcb00e55cc9e"), looks := false }, kinds := [], alts := [], laidByText := true, laidKinds := [.data], laidTests := true, laidLooks := .later }
def FnExactDecompByUptoCardSaid : Prop := Claim7.holds Tryz.pinned (.plain (OpenSpec.upto fnExactDecompBySpec)) fnExactDecompByUptoCard

/-- THE SECOND FORM's CARD OF 'laws.FnCliqueTree'. -/
def fnCliqueTreeUptoCard : Claim7 := { stood := { row := fnCliqueTreeUptoRow, standIns := [], harness := (true, "13f97607a22dbc660bee19d7f8bed624501c32a13d1ce54b28a8fcb00e55cc9e"), looks := false }, kinds := [], alts := [], laidByText := true, laidKinds := [.data], laidTests := true, laidLooks := .later }
def FnCliqueTreeUptoCardSaid : Prop := Claim7.holds Tryz.pinned (.plain (OpenSpec.upto fnCliqueTreeSpec)) fnCliqueTreeUptoCard

/-- THE SECOND FORM's CARD OF 'laws.FnBags'. -/
def fnBagsUptoCard : Claim7 := { stood := { row := fnBagsUptoRow, standIns := [], harness := (true, "13f97607a22dbc660bee19d7f8bed624501c32a13d1ce54b28a8fcb00e55cc9e"), looks := false }, kinds := [], alts := [], laidByText := true, laidKinds := [.data], laidTests := true, laidLooks := .later }
def FnBagsUptoCardSaid : Prop := Claim7.holds Tryz.pinned (.plain (OpenSpec.upto fnBagsSpec)) fnBagsUptoCard
end Rows
end Go.Proofs.YtebbefpdncgoiaaGreatDoor
