/-
  NARROWER THAN 'FOR EVERY INPUT', by the rows' own cells (each row's printed sentence says how): FnExactCliqueTree: laid · FnExactTidiedDecomp: laid · FnExactDecompBy: laid · FnCliqueTree: laid · FnBags: laid.
  DERIVED. THE GIVEN ROWS OF THIS SEAT. 5 by the template 'for every input the law returns true; each argument reads behind the call as it read before'; 0 by the template 'total and deterministic' (their statements: YtebbefpdncgoiaaGreatDoorTotals.lean).
  GIVEN WITH THE SEED: the statements are not yours to turn. If you find one false, say at which input.
  Laid BY PROGRAM, IN A SANDBOX (cutbox-rows.mjs): the forced cells as the released guide's own fill.sh prints them over the translation 6437c36677152679… (all of the seat's roots in one cut). By AI agents, Wed Nov 11 2026. No macro, syntax, notation, axiom, sorry.
-/
import Derived.Test.YtebbefpdncgoiaaGreatDoorChecked
import GoSem.Claim
import GoSem.ClaimJoined
import GoSem.ClaimMapViews
import Derived.JoinedTies
import Derived.KernelRfl
namespace Go.Proofs.YtebbefpdncgoiaaGreatDoor
/- THE CELL 'sum', in the pinned program and in every row, IS THE sha256 OF THE DUMP (.gsa) THAT YtebbefpdncgoiaaGreatDoorProg.lean LOADS. Nothing in Lean hashes anything: it is a label: what it is worth is what the hold of that sum in a sandbox is worth. -/
noncomputable def Tryz.pinned : Pinned := { name := "ytebbefpdncgoiaagreatdoor", sum := "6437c366771526795efef279744f224d93c4d5b33d289609e71996600525ead8", checked := Tryz.checked }
namespace Rows
def none {H : Type} : Left H := { results := [], args := [] }

/- WHAT THE LISTED PACKAGE-LEVEL VARIABLES READ AS WHEN THE CALL BEGINS. Each datum BY PROGRAM (the guide's laid-datum.mjs) off the statement by which the dump's own 'gosem.cut.vars' lays the variable. In a bare row this is a premise. The card (YtebbefpdncgoiaaGreatDoorCards.lean) ties it to the program's text. -/
def laid_math_bits_deBruijn32tab {H : Type} : DataW H := .agg [.lit (.int .u8 0), .lit (.int .u8 1), .lit (.int .u8 28), .lit (.int .u8 2), .lit (.int .u8 29), .lit (.int .u8 14), .lit (.int .u8 24), .lit (.int .u8 3), .lit (.int .u8 30), .lit (.int .u8 22), .lit (.int .u8 20), .lit (.int .u8 15), .lit (.int .u8 25), .lit (.int .u8 17), .lit (.int .u8 4), .lit (.int .u8 8), .lit (.int .u8 31), .lit (.int .u8 27), .lit (.int .u8 13), .lit (.int .u8 23), .lit (.int .u8 21), .lit (.int .u8 19), .lit (.int .u8 16), .lit (.int .u8 7), .lit (.int .u8 26), .lit (.int .u8 12), .lit (.int .u8 18), .lit (.int .u8 6), .lit (.int .u8 11), .lit (.int .u8 5), .lit (.int .u8 10), .lit (.int .u8 9)]

/-- 'laws.FnExactCliqueTree': WHATEVER THE INPUT: true; the input reads as it did. -/
def fnExactCliqueTreeSpec : ChangeSpec := { name := "fnExactCliqueTree", fn := fun _ => fun
  | [d] => { results := [.lit (.bool true)], args := [d] }
  | _ => none }
def fnExactCliqueTreeRow : OpenClaim := { program := "ytebbefpdncgoiaagreatdoor", sum := "6437c366771526795efef279744f224d93c4d5b33d289609e71996600525ead8", func := "loop.example/g00871/laws.FnExactCliqueTree", spec := "fnExactCliqueTree", unfollowed := true, recurses := true, named := ["math/bits.deBruijn32tab"], apart := false, laid := [("math/bits.deBruijn32tab", laid_math_bits_deBruijn32tab)] }
def FnExactCliqueTreeSaid : Prop := fnExactCliqueTreeRow.holds Tryz.pinned (OpenSpec.ofChange fnExactCliqueTreeSpec)

/-- ITS FALSE NEIGHBOUR: 'it returns false'. Refute it at one input. -/
def fnExactCliqueTreeWrong : ChangeSpec := { name := "fnExactCliqueTree", fn := fun _ => fun
  | [d] => { results := [.lit (.bool false)], args := [d] }
  | _ => none }
def FnExactCliqueTreeWrongFalsely : Prop := fnExactCliqueTreeRow.holds Tryz.pinned (OpenSpec.ofChange fnExactCliqueTreeWrong)

/-- 'laws.FnExactTidiedDecomp': WHATEVER THE INPUT: true; the input reads as it did. -/
def fnExactTidiedDecompSpec : ChangeSpec := { name := "fnExactTidiedDecomp", fn := fun _ => fun
  | [d1, d2] => { results := [.lit (.bool true)], args := [d1, d2] }
  | _ => none }
def fnExactTidiedDecompRow : OpenClaim := { program := "ytebbefpdncgoiaagreatdoor", sum := "6437c366771526795efef279744f224d93c4d5b33d289609e71996600525ead8", func := "loop.example/g00871/laws.FnExactTidiedDecomp", spec := "fnExactTidiedDecomp", unfollowed := true, recurses := true, named := ["math/bits.deBruijn32tab"], apart := false, laid := [("math/bits.deBruijn32tab", laid_math_bits_deBruijn32tab)] }
def FnExactTidiedDecompSaid : Prop := fnExactTidiedDecompRow.holds Tryz.pinned (OpenSpec.ofChange fnExactTidiedDecompSpec)

/-- ITS FALSE NEIGHBOUR: 'it returns false'. Refute it at one input. -/
def fnExactTidiedDecompWrong : ChangeSpec := { name := "fnExactTidiedDecomp", fn := fun _ => fun
  | [d1, d2] => { results := [.lit (.bool false)], args := [d1, d2] }
  | _ => none }
def FnExactTidiedDecompWrongFalsely : Prop := fnExactTidiedDecompRow.holds Tryz.pinned (OpenSpec.ofChange fnExactTidiedDecompWrong)

/-- 'laws.FnExactDecompBy': WHATEVER THE INPUT: true; the input reads as it did. -/
def fnExactDecompBySpec : ChangeSpec := { name := "fnExactDecompBy", fn := fun _ => fun
  | [d1, d2] => { results := [.lit (.bool true)], args := [d1, d2] }
  | _ => none }
def fnExactDecompByRow : OpenClaim := { program := "ytebbefpdncgoiaagreatdoor", sum := "6437c366771526795efef279744f224d93c4d5b33d289609e71996600525ead8", func := "loop.example/g00871/laws.FnExactDecompBy", spec := "fnExactDecompBy", unfollowed := true, recurses := true, named := ["math/bits.deBruijn32tab"], apart := false, laid := [("math/bits.deBruijn32tab", laid_math_bits_deBruijn32tab)] }
def FnExactDecompBySaid : Prop := fnExactDecompByRow.holds Tryz.pinned (OpenSpec.ofChange fnExactDecompBySpec)

/-- ITS FALSE NEIGHBOUR: 'it returns false'. Refute it at one input. -/
def fnExactDecompByWrong : ChangeSpec := { name := "fnExactDecompBy", fn := fun _ => fun
  | [d1, d2] => { results := [.lit (.bool false)], args := [d1, d2] }
  | _ => none }
def FnExactDecompByWrongFalsely : Prop := fnExactDecompByRow.holds Tryz.pinned (OpenSpec.ofChange fnExactDecompByWrong)

/-- 'laws.FnCliqueTree': WHATEVER THE INPUT: true; the input reads as it did. -/
def fnCliqueTreeSpec : ChangeSpec := { name := "fnCliqueTree", fn := fun _ => fun
  | [d] => { results := [.lit (.bool true)], args := [d] }
  | _ => none }
def fnCliqueTreeRow : OpenClaim := { program := "ytebbefpdncgoiaagreatdoor", sum := "6437c366771526795efef279744f224d93c4d5b33d289609e71996600525ead8", func := "loop.example/g00871/laws.FnCliqueTree", spec := "fnCliqueTree", unfollowed := true, recurses := true, named := ["math/bits.deBruijn32tab"], apart := false, laid := [("math/bits.deBruijn32tab", laid_math_bits_deBruijn32tab)] }
def FnCliqueTreeSaid : Prop := fnCliqueTreeRow.holds Tryz.pinned (OpenSpec.ofChange fnCliqueTreeSpec)

/-- ITS FALSE NEIGHBOUR: 'it returns false'. Refute it at one input. -/
def fnCliqueTreeWrong : ChangeSpec := { name := "fnCliqueTree", fn := fun _ => fun
  | [d] => { results := [.lit (.bool false)], args := [d] }
  | _ => none }
def FnCliqueTreeWrongFalsely : Prop := fnCliqueTreeRow.holds Tryz.pinned (OpenSpec.ofChange fnCliqueTreeWrong)

/-- 'laws.FnBags': WHATEVER THE INPUT: true; the input reads as it did. -/
def fnBagsSpec : ChangeSpec := { name := "fnBags", fn := fun _ => fun
  | [d] => { results := [.lit (.bool true)], args := [d] }
  | _ => none }
def fnBagsRow : OpenClaim := { program := "ytebbefpdncgoiaagreatdoor", sum := "6437c366771526795efef279744f224d93c4d5b33d289609e71996600525ead8", func := "loop.example/g00871/laws.FnBags", spec := "fnBags", unfollowed := true, recurses := true, named := ["math/bits.deBruijn32tab"], apart := false, laid := [("math/bits.deBruijn32tab", laid_math_bits_deBruijn32tab)] }
def FnBagsSaid : Prop := fnBagsRow.holds Tryz.pinned (OpenSpec.ofChange fnBagsSpec)

/-- ITS FALSE NEIGHBOUR: 'it returns false'. Refute it at one input. -/
def fnBagsWrong : ChangeSpec := { name := "fnBags", fn := fun _ => fun
  | [d] => { results := [.lit (.bool false)], args := [d] }
  | _ => none }
def FnBagsWrongFalsely : Prop := fnBagsRow.holds Tryz.pinned (OpenSpec.ofChange fnBagsWrong)

/- THE SECOND FORM. 'bulk': how many values and letters a reading holds, each counted each time it is reached (what is shared counts as often as it is met; a slice's spare places count too). A statement '..UptoSaid' is the law's where the arguments, and the package variables that the reading takes, are together of bulk at most 1048576: NARROWER than '..Said'. Prove '..Said' where nothing that the law and all that it calls make is longer than what came in: it says more and counts as full. Else prove '..UptoSaid'. A law counts once. -/
mutual
def uptoBulk {H : Type} : DataW H → Nat
  | .lit (.string bytes) => bytes.length + 1
  | .lit _ => 1
  | .nil => 1
  | .ptr d => uptoBulk d + 1
  | .slice elems spare => uptoBulkAll elems + uptoBulkAll spare + 1
  | .agg parts => uptoBulkAll parts + 1
  | .iface _ d => uptoBulk d + 1
  | .map entries => uptoBulkEntries entries + 1
  | .held _ => 1
def uptoBulkAll {H : Type} : List (DataW H) → Nat
  | [] => 0
  | d :: r => uptoBulk d + uptoBulkAll r
def uptoBulkEntries {H : Type} : List (Lit × DataW H) → Nat
  | [] => 0
  | x :: r => uptoBulkEntry x + uptoBulkEntries r
def uptoBulkEntry {H : Type} : Lit × DataW H → Nat
  | (.string bytes, d) => bytes.length + uptoBulk d + 1
  | (_, d) => uptoBulk d + 1
 end
def uptoSmall : (H : Type) → List (DataW H) → Bool := fun _ ds => decide (uptoBulkAll ds ≤ 1048576)
def OpenSpec.upto (s : _root_.Go.ChangeSpec) : _root_.Go.OpenSpec := { _root_.Go.OpenSpec.ofChange s with cond := some uptoSmall }

/-- 'laws.FnExactCliqueTree', WHERE WHAT IT READS IS OF BULK AT MOST 1048576: true; the input reads as it did. -/
def fnExactCliqueTreeUptoRow : OpenClaim := { program := "ytebbefpdncgoiaagreatdoor", sum := "6437c366771526795efef279744f224d93c4d5b33d289609e71996600525ead8", func := "loop.example/g00871/laws.FnExactCliqueTree", spec := "fnExactCliqueTree", unfollowed := true, recurses := true, named := ["math/bits.deBruijn32tab"], apart := false, laid := [("math/bits.deBruijn32tab", laid_math_bits_deBruijn32tab)], narrowed := true }
def FnExactCliqueTreeUptoSaid : Prop := fnExactCliqueTreeUptoRow.holds Tryz.pinned (OpenSpec.upto fnExactCliqueTreeSpec)

/-- 'laws.FnExactTidiedDecomp', WHERE WHAT IT READS IS OF BULK AT MOST 1048576: true; the input reads as it did. -/
def fnExactTidiedDecompUptoRow : OpenClaim := { program := "ytebbefpdncgoiaagreatdoor", sum := "6437c366771526795efef279744f224d93c4d5b33d289609e71996600525ead8", func := "loop.example/g00871/laws.FnExactTidiedDecomp", spec := "fnExactTidiedDecomp", unfollowed := true, recurses := true, named := ["math/bits.deBruijn32tab"], apart := false, laid := [("math/bits.deBruijn32tab", laid_math_bits_deBruijn32tab)], narrowed := true }
def FnExactTidiedDecompUptoSaid : Prop := fnExactTidiedDecompUptoRow.holds Tryz.pinned (OpenSpec.upto fnExactTidiedDecompSpec)

/-- 'laws.FnExactDecompBy', WHERE WHAT IT READS IS OF BULK AT MOST 1048576: true; the input reads as it did. -/
def fnExactDecompByUptoRow : OpenClaim := { program := "ytebbefpdncgoiaagreatdoor", sum := "6437c366771526795efef279744f224d93c4d5b33d289609e71996600525ead8", func := "loop.example/g00871/laws.FnExactDecompBy", spec := "fnExactDecompBy", unfollowed := true, recurses := true, named := ["math/bits.deBruijn32tab"], apart := false, laid := [("math/bits.deBruijn32tab", laid_math_bits_deBruijn32tab)], narrowed := true }
def FnExactDecompByUptoSaid : Prop := fnExactDecompByUptoRow.holds Tryz.pinned (OpenSpec.upto fnExactDecompBySpec)

/-- 'laws.FnCliqueTree', WHERE WHAT IT READS IS OF BULK AT MOST 1048576: true; the input reads as it did. -/
def fnCliqueTreeUptoRow : OpenClaim := { program := "ytebbefpdncgoiaagreatdoor", sum := "6437c366771526795efef279744f224d93c4d5b33d289609e71996600525ead8", func := "loop.example/g00871/laws.FnCliqueTree", spec := "fnCliqueTree", unfollowed := true, recurses := true, named := ["math/bits.deBruijn32tab"], apart := false, laid := [("math/bits.deBruijn32tab", laid_math_bits_deBruijn32tab)], narrowed := true }
def FnCliqueTreeUptoSaid : Prop := fnCliqueTreeUptoRow.holds Tryz.pinned (OpenSpec.upto fnCliqueTreeSpec)

/-- 'laws.FnBags', WHERE WHAT IT READS IS OF BULK AT MOST 1048576: true; the input reads as it did. -/
def fnBagsUptoRow : OpenClaim := { program := "ytebbefpdncgoiaagreatdoor", sum := "6437c366771526795efef279744f224d93c4d5b33d289609e71996600525ead8", func := "loop.example/g00871/laws.FnBags", spec := "fnBags", unfollowed := true, recurses := true, named := ["math/bits.deBruijn32tab"], apart := false, laid := [("math/bits.deBruijn32tab", laid_math_bits_deBruijn32tab)], narrowed := true }
def FnBagsUptoSaid : Prop := fnBagsUptoRow.holds Tryz.pinned (OpenSpec.upto fnBagsSpec)

end Rows
end Go.Proofs.YtebbefpdncgoiaaGreatDoor
