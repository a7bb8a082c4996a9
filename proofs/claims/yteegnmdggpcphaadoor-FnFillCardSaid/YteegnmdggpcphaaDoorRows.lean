/-
  NARROWER THAN 'FOR EVERY INPUT', by the rows' own cells (each row's printed sentence says how): FnExactPathDecomp: laid · FnExactLastingStables: laid · FnFill: laid · FnSubs: laid · FnSetsOk: laid · FnExactOriented: laid · FnCrossLongest: laid · FnPathDecomp: laid · FnExactBlocksOf: laid · FnNegated: laid.
  DERIVED. THE GIVEN ROWS OF THIS SEAT. 10 by the template 'for every input the law returns true; each argument reads behind the call as it read before'; 0 by the template 'total and deterministic' (their statements: YteegnmdggpcphaaDoorTotals.lean).
  GIVEN WITH THE SEED: the statements are not yours to turn. If you find one false, say at which input.
  Laid BY PROGRAM, IN A SANDBOX (cutbox-rows.mjs): the forced cells as the released guide's own fill.sh prints them over the translation c380aecd8d026af6… (all of the seat's roots in one cut). By AI agents, Wed Nov 11 2026. No macro, syntax, notation, axiom, sorry.
-/
import Derived.Test.YteegnmdggpcphaaDoorChecked
import GoSem.Claim
import GoSem.ClaimJoined
import GoSem.ClaimMapViews
import Derived.JoinedTies
import Derived.KernelRfl
namespace Go.Proofs.YteegnmdggpcphaaDoor
/- THE CELL 'sum', in the pinned program and in every row, IS THE sha256 OF THE DUMP (.gsa) THAT YteegnmdggpcphaaDoorProg.lean LOADS. Nothing in Lean hashes anything: it is a label: what it is worth is what the hold of that sum in a sandbox is worth. -/
noncomputable def Tryd.pinned : Pinned := { name := "yteegnmdggpcphaadoor", sum := "c380aecd8d026af6a459e510020e1aaf87e4d09445dea1f8c0588a739bd46754", checked := Tryd.checked }
namespace Rows
def none {H : Type} : Left H := { results := [], args := [] }

/- WHAT THE LISTED PACKAGE-LEVEL VARIABLES READ AS WHEN THE CALL BEGINS. Each datum BY PROGRAM (the guide's laid-datum.mjs) off the statement by which the dump's own 'gosem.cut.vars' lays the variable. In a bare row this is a premise. The card (YteegnmdggpcphaaDoorCards.lean) ties it to the program's text. -/
def laid_math_bits_deBruijn32tab {H : Type} : DataW H := .agg [.lit (.int .u8 0), .lit (.int .u8 1), .lit (.int .u8 28), .lit (.int .u8 2), .lit (.int .u8 29), .lit (.int .u8 14), .lit (.int .u8 24), .lit (.int .u8 3), .lit (.int .u8 30), .lit (.int .u8 22), .lit (.int .u8 20), .lit (.int .u8 15), .lit (.int .u8 25), .lit (.int .u8 17), .lit (.int .u8 4), .lit (.int .u8 8), .lit (.int .u8 31), .lit (.int .u8 27), .lit (.int .u8 13), .lit (.int .u8 23), .lit (.int .u8 21), .lit (.int .u8 19), .lit (.int .u8 16), .lit (.int .u8 7), .lit (.int .u8 26), .lit (.int .u8 12), .lit (.int .u8 18), .lit (.int .u8 6), .lit (.int .u8 11), .lit (.int .u8 5), .lit (.int .u8 10), .lit (.int .u8 9)]

/-- 'laws.FnExactPathDecomp': WHATEVER THE INPUT: true; the input reads as it did. -/
def fnExactPathDecompSpec : ChangeSpec := { name := "fnExactPathDecomp", fn := fun _ => fun
  | [d1, d2] => { results := [.lit (.bool true)], args := [d1, d2] }
  | _ => none }
def fnExactPathDecompRow : OpenClaim := { program := "yteegnmdggpcphaadoor", sum := "c380aecd8d026af6a459e510020e1aaf87e4d09445dea1f8c0588a739bd46754", func := "loop.example/g00871/laws.FnExactPathDecomp", spec := "fnExactPathDecomp", unfollowed := true, recurses := true, named := ["math/bits.deBruijn32tab"], plainKeys := false, apart := false, laid := [("math/bits.deBruijn32tab", laid_math_bits_deBruijn32tab)] }
def FnExactPathDecompSaid : Prop := fnExactPathDecompRow.holds Tryd.pinned (OpenSpec.ofChange fnExactPathDecompSpec)

/-- ITS FALSE NEIGHBOUR: 'it returns false'. Refute it at one input. -/
def fnExactPathDecompWrong : ChangeSpec := { name := "fnExactPathDecomp", fn := fun _ => fun
  | [d1, d2] => { results := [.lit (.bool false)], args := [d1, d2] }
  | _ => none }
def FnExactPathDecompWrongFalsely : Prop := fnExactPathDecompRow.holds Tryd.pinned (OpenSpec.ofChange fnExactPathDecompWrong)

/-- 'laws.FnExactLastingStables': WHATEVER THE INPUT: true; the input reads as it did. -/
def fnExactLastingStablesSpec : ChangeSpec := { name := "fnExactLastingStables", fn := fun _ => fun
  | [d] => { results := [.lit (.bool true)], args := [d] }
  | _ => none }
def fnExactLastingStablesRow : OpenClaim := { program := "yteegnmdggpcphaadoor", sum := "c380aecd8d026af6a459e510020e1aaf87e4d09445dea1f8c0588a739bd46754", func := "loop.example/g00871/laws.FnExactLastingStables", spec := "fnExactLastingStables", unfollowed := true, recurses := true, named := ["math/bits.deBruijn32tab"], plainKeys := false, apart := false, laid := [("math/bits.deBruijn32tab", laid_math_bits_deBruijn32tab)] }
def FnExactLastingStablesSaid : Prop := fnExactLastingStablesRow.holds Tryd.pinned (OpenSpec.ofChange fnExactLastingStablesSpec)

/-- ITS FALSE NEIGHBOUR: 'it returns false'. Refute it at one input. -/
def fnExactLastingStablesWrong : ChangeSpec := { name := "fnExactLastingStables", fn := fun _ => fun
  | [d] => { results := [.lit (.bool false)], args := [d] }
  | _ => none }
def FnExactLastingStablesWrongFalsely : Prop := fnExactLastingStablesRow.holds Tryd.pinned (OpenSpec.ofChange fnExactLastingStablesWrong)

/-- 'laws.FnFill': WHATEVER THE INPUT: true; the input reads as it did. -/
def fnFillSpec : ChangeSpec := { name := "fnFill", fn := fun _ => fun
  | [d] => { results := [.lit (.bool true)], args := [d] }
  | _ => none }
def fnFillRow : OpenClaim := { program := "yteegnmdggpcphaadoor", sum := "c380aecd8d026af6a459e510020e1aaf87e4d09445dea1f8c0588a739bd46754", func := "loop.example/g00871/laws.FnFill", spec := "fnFill", unfollowed := true, recurses := true, named := ["math/bits.deBruijn32tab"], plainKeys := false, apart := false, laid := [("math/bits.deBruijn32tab", laid_math_bits_deBruijn32tab)] }
def FnFillSaid : Prop := fnFillRow.holds Tryd.pinned (OpenSpec.ofChange fnFillSpec)

/-- ITS FALSE NEIGHBOUR: 'it returns false'. Refute it at one input. -/
def fnFillWrong : ChangeSpec := { name := "fnFill", fn := fun _ => fun
  | [d] => { results := [.lit (.bool false)], args := [d] }
  | _ => none }
def FnFillWrongFalsely : Prop := fnFillRow.holds Tryd.pinned (OpenSpec.ofChange fnFillWrong)

/-- 'laws.FnSubs': WHATEVER THE INPUT: true; the input reads as it did. -/
def fnSubsSpec : ChangeSpec := { name := "fnSubs", fn := fun _ => fun
  | [d] => { results := [.lit (.bool true)], args := [d] }
  | _ => none }
def fnSubsRow : OpenClaim := { program := "yteegnmdggpcphaadoor", sum := "c380aecd8d026af6a459e510020e1aaf87e4d09445dea1f8c0588a739bd46754", func := "loop.example/g00871/laws.FnSubs", spec := "fnSubs", unfollowed := true, recurses := true, named := ["math/bits.deBruijn32tab"], plainKeys := false, apart := false, laid := [("math/bits.deBruijn32tab", laid_math_bits_deBruijn32tab)] }
def FnSubsSaid : Prop := fnSubsRow.holds Tryd.pinned (OpenSpec.ofChange fnSubsSpec)

/-- ITS FALSE NEIGHBOUR: 'it returns false'. Refute it at one input. -/
def fnSubsWrong : ChangeSpec := { name := "fnSubs", fn := fun _ => fun
  | [d] => { results := [.lit (.bool false)], args := [d] }
  | _ => none }
def FnSubsWrongFalsely : Prop := fnSubsRow.holds Tryd.pinned (OpenSpec.ofChange fnSubsWrong)

/-- 'laws.FnSetsOk': WHATEVER THE INPUT: true; the input reads as it did. -/
def fnSetsOkSpec : ChangeSpec := { name := "fnSetsOk", fn := fun _ => fun
  | [d] => { results := [.lit (.bool true)], args := [d] }
  | _ => none }
def fnSetsOkRow : OpenClaim := { program := "yteegnmdggpcphaadoor", sum := "c380aecd8d026af6a459e510020e1aaf87e4d09445dea1f8c0588a739bd46754", func := "loop.example/g00871/laws.FnSetsOk", spec := "fnSetsOk", unfollowed := true, recurses := true, named := ["math/bits.deBruijn32tab"], plainKeys := false, apart := false, laid := [("math/bits.deBruijn32tab", laid_math_bits_deBruijn32tab)] }
def FnSetsOkSaid : Prop := fnSetsOkRow.holds Tryd.pinned (OpenSpec.ofChange fnSetsOkSpec)

/-- ITS FALSE NEIGHBOUR: 'it returns false'. Refute it at one input. -/
def fnSetsOkWrong : ChangeSpec := { name := "fnSetsOk", fn := fun _ => fun
  | [d] => { results := [.lit (.bool false)], args := [d] }
  | _ => none }
def FnSetsOkWrongFalsely : Prop := fnSetsOkRow.holds Tryd.pinned (OpenSpec.ofChange fnSetsOkWrong)

/-- 'laws.FnExactOriented': WHATEVER THE INPUT: true; the input reads as it did. -/
def fnExactOrientedSpec : ChangeSpec := { name := "fnExactOriented", fn := fun _ => fun
  | [d] => { results := [.lit (.bool true)], args := [d] }
  | _ => none }
def fnExactOrientedRow : OpenClaim := { program := "yteegnmdggpcphaadoor", sum := "c380aecd8d026af6a459e510020e1aaf87e4d09445dea1f8c0588a739bd46754", func := "loop.example/g00871/laws.FnExactOriented", spec := "fnExactOriented", unfollowed := true, recurses := true, named := ["math/bits.deBruijn32tab"], plainKeys := false, apart := false, laid := [("math/bits.deBruijn32tab", laid_math_bits_deBruijn32tab)] }
def FnExactOrientedSaid : Prop := fnExactOrientedRow.holds Tryd.pinned (OpenSpec.ofChange fnExactOrientedSpec)

/-- ITS FALSE NEIGHBOUR: 'it returns false'. Refute it at one input. -/
def fnExactOrientedWrong : ChangeSpec := { name := "fnExactOriented", fn := fun _ => fun
  | [d] => { results := [.lit (.bool false)], args := [d] }
  | _ => none }
def FnExactOrientedWrongFalsely : Prop := fnExactOrientedRow.holds Tryd.pinned (OpenSpec.ofChange fnExactOrientedWrong)

/-- 'laws.FnCrossLongest': WHATEVER THE INPUT: true; the input reads as it did. -/
def fnCrossLongestSpec : ChangeSpec := { name := "fnCrossLongest", fn := fun _ => fun
  | [d] => { results := [.lit (.bool true)], args := [d] }
  | _ => none }
def fnCrossLongestRow : OpenClaim := { program := "yteegnmdggpcphaadoor", sum := "c380aecd8d026af6a459e510020e1aaf87e4d09445dea1f8c0588a739bd46754", func := "loop.example/g00871/laws.FnCrossLongest", spec := "fnCrossLongest", unfollowed := true, recurses := true, named := ["math/bits.deBruijn32tab"], plainKeys := false, apart := false, laid := [("math/bits.deBruijn32tab", laid_math_bits_deBruijn32tab)] }
def FnCrossLongestSaid : Prop := fnCrossLongestRow.holds Tryd.pinned (OpenSpec.ofChange fnCrossLongestSpec)

/-- ITS FALSE NEIGHBOUR: 'it returns false'. Refute it at one input. -/
def fnCrossLongestWrong : ChangeSpec := { name := "fnCrossLongest", fn := fun _ => fun
  | [d] => { results := [.lit (.bool false)], args := [d] }
  | _ => none }
def FnCrossLongestWrongFalsely : Prop := fnCrossLongestRow.holds Tryd.pinned (OpenSpec.ofChange fnCrossLongestWrong)

/-- 'laws.FnPathDecomp': WHATEVER THE INPUT: true; the input reads as it did. -/
def fnPathDecompSpec : ChangeSpec := { name := "fnPathDecomp", fn := fun _ => fun
  | [d] => { results := [.lit (.bool true)], args := [d] }
  | _ => none }
def fnPathDecompRow : OpenClaim := { program := "yteegnmdggpcphaadoor", sum := "c380aecd8d026af6a459e510020e1aaf87e4d09445dea1f8c0588a739bd46754", func := "loop.example/g00871/laws.FnPathDecomp", spec := "fnPathDecomp", unfollowed := true, recurses := true, named := ["math/bits.deBruijn32tab"], plainKeys := false, apart := false, laid := [("math/bits.deBruijn32tab", laid_math_bits_deBruijn32tab)] }
def FnPathDecompSaid : Prop := fnPathDecompRow.holds Tryd.pinned (OpenSpec.ofChange fnPathDecompSpec)

/-- ITS FALSE NEIGHBOUR: 'it returns false'. Refute it at one input. -/
def fnPathDecompWrong : ChangeSpec := { name := "fnPathDecomp", fn := fun _ => fun
  | [d] => { results := [.lit (.bool false)], args := [d] }
  | _ => none }
def FnPathDecompWrongFalsely : Prop := fnPathDecompRow.holds Tryd.pinned (OpenSpec.ofChange fnPathDecompWrong)

/-- 'laws.FnExactBlocksOf': WHATEVER THE INPUT: true; the input reads as it did. -/
def fnExactBlocksOfSpec : ChangeSpec := { name := "fnExactBlocksOf", fn := fun _ => fun
  | [d] => { results := [.lit (.bool true)], args := [d] }
  | _ => none }
def fnExactBlocksOfRow : OpenClaim := { program := "yteegnmdggpcphaadoor", sum := "c380aecd8d026af6a459e510020e1aaf87e4d09445dea1f8c0588a739bd46754", func := "loop.example/g00871/laws.FnExactBlocksOf", spec := "fnExactBlocksOf", unfollowed := true, recurses := true, named := ["math/bits.deBruijn32tab"], plainKeys := false, apart := false, laid := [("math/bits.deBruijn32tab", laid_math_bits_deBruijn32tab)] }
def FnExactBlocksOfSaid : Prop := fnExactBlocksOfRow.holds Tryd.pinned (OpenSpec.ofChange fnExactBlocksOfSpec)

/-- ITS FALSE NEIGHBOUR: 'it returns false'. Refute it at one input. -/
def fnExactBlocksOfWrong : ChangeSpec := { name := "fnExactBlocksOf", fn := fun _ => fun
  | [d] => { results := [.lit (.bool false)], args := [d] }
  | _ => none }
def FnExactBlocksOfWrongFalsely : Prop := fnExactBlocksOfRow.holds Tryd.pinned (OpenSpec.ofChange fnExactBlocksOfWrong)

/-- 'laws.FnNegated': WHATEVER THE INPUT: true; the input reads as it did. -/
def fnNegatedSpec : ChangeSpec := { name := "fnNegated", fn := fun _ => fun
  | [d] => { results := [.lit (.bool true)], args := [d] }
  | _ => none }
def fnNegatedRow : OpenClaim := { program := "yteegnmdggpcphaadoor", sum := "c380aecd8d026af6a459e510020e1aaf87e4d09445dea1f8c0588a739bd46754", func := "loop.example/g00871/laws.FnNegated", spec := "fnNegated", unfollowed := true, recurses := true, named := ["math/bits.deBruijn32tab"], plainKeys := false, apart := false, laid := [("math/bits.deBruijn32tab", laid_math_bits_deBruijn32tab)] }
def FnNegatedSaid : Prop := fnNegatedRow.holds Tryd.pinned (OpenSpec.ofChange fnNegatedSpec)

/-- ITS FALSE NEIGHBOUR: 'it returns false'. Refute it at one input. -/
def fnNegatedWrong : ChangeSpec := { name := "fnNegated", fn := fun _ => fun
  | [d] => { results := [.lit (.bool false)], args := [d] }
  | _ => none }
def FnNegatedWrongFalsely : Prop := fnNegatedRow.holds Tryd.pinned (OpenSpec.ofChange fnNegatedWrong)

/- THE SECOND FORM. 'bulk': how many values and letters a reading holds, each counted each time it is reached (what is shared counts as often as it is met; a slice's spare places count too). A statement '..UptoSaid' is the law's where the arguments, and the package variables that the reading takes, are together of bulk at most 1048576: NARROWER than '..Said'. Prove '..Said' where nothing that the law and all that it calls make is longer than what came in: it says more and counts as full. Else prove '..UptoSaid'. A law counts once. -/
mutual
def uptoBulk {H : Type} : DataW H → Nat
  | .lit (.string bytes) => bytes.length + 1
  | .lit _ => 1
  | .nil => 1
  | .ptr d => uptoBulk d + 1
  | .slice elems spare => uptoBulkAll elems + uptoBulkAll spare + 1
  | .agg parts => uptoBulkAll parts + 1
  | .iface _ d => uptoBulk d + 1
  | .map entries => uptoBulkEntries entries + 1
  | .held _ => 1
def uptoBulkAll {H : Type} : List (DataW H) → Nat
  | [] => 0
  | d :: r => uptoBulk d + uptoBulkAll r
def uptoBulkEntries {H : Type} : List (Lit × DataW H) → Nat
  | [] => 0
  | x :: r => uptoBulkEntry x + uptoBulkEntries r
def uptoBulkEntry {H : Type} : Lit × DataW H → Nat
  | (.string bytes, d) => bytes.length + uptoBulk d + 1
  | (_, d) => uptoBulk d + 1
 end
def uptoSmall : (H : Type) → List (DataW H) → Bool := fun _ ds => decide (uptoBulkAll ds ≤ 1048576)
def OpenSpec.upto (s : _root_.Go.ChangeSpec) : _root_.Go.OpenSpec := { _root_.Go.OpenSpec.ofChange s with cond := some uptoSmall }

/-- 'laws.FnExactPathDecomp', WHERE WHAT IT READS IS OF BULK AT MOST 1048576: true; the input reads as it did. -/
def fnExactPathDecompUptoRow : OpenClaim := { program := "yteegnmdggpcphaadoor", sum := "c380aecd8d026af6a459e510020e1aaf87e4d09445dea1f8c0588a739bd46754", func := "loop.example/g00871/laws.FnExactPathDecomp", spec := "fnExactPathDecomp", unfollowed := true, recurses := true, named := ["math/bits.deBruijn32tab"], plainKeys := false, apart := false, laid := [("math/bits.deBruijn32tab", laid_math_bits_deBruijn32tab)], narrowed := true }
def FnExactPathDecompUptoSaid : Prop := fnExactPathDecompUptoRow.holds Tryd.pinned (OpenSpec.upto fnExactPathDecompSpec)

/-- 'laws.FnExactLastingStables', WHERE WHAT IT READS IS OF BULK AT MOST 1048576: true; the input reads as it did. -/
def fnExactLastingStablesUptoRow : OpenClaim := { program := "yteegnmdggpcphaadoor", sum := "c380aecd8d026af6a459e510020e1aaf87e4d09445dea1f8c0588a739bd46754", func := "loop.example/g00871/laws.FnExactLastingStables", spec := "fnExactLastingStables", unfollowed := true, recurses := true, named := ["math/bits.deBruijn32tab"], plainKeys := false, apart := false, laid := [("math/bits.deBruijn32tab", laid_math_bits_deBruijn32tab)], narrowed := true }
def FnExactLastingStablesUptoSaid : Prop := fnExactLastingStablesUptoRow.holds Tryd.pinned (OpenSpec.upto fnExactLastingStablesSpec)

/-- 'laws.FnFill', WHERE WHAT IT READS IS OF BULK AT MOST 1048576: true; the input reads as it did. -/
def fnFillUptoRow : OpenClaim := { program := "yteegnmdggpcphaadoor", sum := "c380aecd8d026af6a459e510020e1aaf87e4d09445dea1f8c0588a739bd46754", func := "loop.example/g00871/laws.FnFill", spec := "fnFill", unfollowed := true, recurses := true, named := ["math/bits.deBruijn32tab"], plainKeys := false, apart := false, laid := [("math/bits.deBruijn32tab", laid_math_bits_deBruijn32tab)], narrowed := true }
def FnFillUptoSaid : Prop := fnFillUptoRow.holds Tryd.pinned (OpenSpec.upto fnFillSpec)

/-- 'laws.FnSubs', WHERE WHAT IT READS IS OF BULK AT MOST 1048576: true; the input reads as it did. -/
def fnSubsUptoRow : OpenClaim := { program := "yteegnmdggpcphaadoor", sum := "c380aecd8d026af6a459e510020e1aaf87e4d09445dea1f8c0588a739bd46754", func := "loop.example/g00871/laws.FnSubs", spec := "fnSubs", unfollowed := true, recurses := true, named := ["math/bits.deBruijn32tab"], plainKeys := false, apart := false, laid := [("math/bits.deBruijn32tab", laid_math_bits_deBruijn32tab)], narrowed := true }
def FnSubsUptoSaid : Prop := fnSubsUptoRow.holds Tryd.pinned (OpenSpec.upto fnSubsSpec)

/-- 'laws.FnSetsOk', WHERE WHAT IT READS IS OF BULK AT MOST 1048576: true; the input reads as it did. -/
def fnSetsOkUptoRow : OpenClaim := { program := "yteegnmdggpcphaadoor", sum := "c380aecd8d026af6a459e510020e1aaf87e4d09445dea1f8c0588a739bd46754", func := "loop.example/g00871/laws.FnSetsOk", spec := "fnSetsOk", unfollowed := true, recurses := true, named := ["math/bits.deBruijn32tab"], plainKeys := false, apart := false, laid := [("math/bits.deBruijn32tab", laid_math_bits_deBruijn32tab)], narrowed := true }
def FnSetsOkUptoSaid : Prop := fnSetsOkUptoRow.holds Tryd.pinned (OpenSpec.upto fnSetsOkSpec)

/-- 'laws.FnExactOriented', WHERE WHAT IT READS IS OF BULK AT MOST 1048576: true; the input reads as it did. -/
def fnExactOrientedUptoRow : OpenClaim := { program := "yteegnmdggpcphaadoor", sum := "c380aecd8d026af6a459e510020e1aaf87e4d09445dea1f8c0588a739bd46754", func := "loop.example/g00871/laws.FnExactOriented", spec := "fnExactOriented", unfollowed := true, recurses := true, named := ["math/bits.deBruijn32tab"], plainKeys := false, apart := false, laid := [("math/bits.deBruijn32tab", laid_math_bits_deBruijn32tab)], narrowed := true }
def FnExactOrientedUptoSaid : Prop := fnExactOrientedUptoRow.holds Tryd.pinned (OpenSpec.upto fnExactOrientedSpec)

/-- 'laws.FnCrossLongest', WHERE WHAT IT READS IS OF BULK AT MOST 1048576: true; the input reads as it did. -/
def fnCrossLongestUptoRow : OpenClaim := { program := "yteegnmdggpcphaadoor", sum := "c380aecd8d026af6a459e510020e1aaf87e4d09445dea1f8c0588a739bd46754", func := "loop.example/g00871/laws.FnCrossLongest", spec := "fnCrossLongest", unfollowed := true, recurses := true, named := ["math/bits.deBruijn32tab"], plainKeys := false, apart := false, laid := [("math/bits.deBruijn32tab", laid_math_bits_deBruijn32tab)], narrowed := true }
def FnCrossLongestUptoSaid : Prop := fnCrossLongestUptoRow.holds Tryd.pinned (OpenSpec.upto fnCrossLongestSpec)

/-- 'laws.FnPathDecomp', WHERE WHAT IT READS IS OF BULK AT MOST 1048576: true; the input reads as it did. -/
def fnPathDecompUptoRow : OpenClaim := { program := "yteegnmdggpcphaadoor", sum := "c380aecd8d026af6a459e510020e1aaf87e4d09445dea1f8c0588a739bd46754", func := "loop.example/g00871/laws.FnPathDecomp", spec := "fnPathDecomp", unfollowed := true, recurses := true, named := ["math/bits.deBruijn32tab"], plainKeys := false, apart := false, laid := [("math/bits.deBruijn32tab", laid_math_bits_deBruijn32tab)], narrowed := true }
def FnPathDecompUptoSaid : Prop := fnPathDecompUptoRow.holds Tryd.pinned (OpenSpec.upto fnPathDecompSpec)

/-- 'laws.FnExactBlocksOf', WHERE WHAT IT READS IS OF BULK AT MOST 1048576: true; the input reads as it did. -/
def fnExactBlocksOfUptoRow : OpenClaim := { program := "yteegnmdggpcphaadoor", sum := "c380aecd8d026af6a459e510020e1aaf87e4d09445dea1f8c0588a739bd46754", func := "loop.example/g00871/laws.FnExactBlocksOf", spec := "fnExactBlocksOf", unfollowed := true, recurses := true, named := ["math/bits.deBruijn32tab"], plainKeys := false, apart := false, laid := [("math/bits.deBruijn32tab", laid_math_bits_deBruijn32tab)], narrowed := true }
def FnExactBlocksOfUptoSaid : Prop := fnExactBlocksOfUptoRow.holds Tryd.pinned (OpenSpec.upto fnExactBlocksOfSpec)

/-- 'laws.FnNegated', WHERE WHAT IT READS IS OF BULK AT MOST 1048576: true; the input reads as it did. -/
def fnNegatedUptoRow : OpenClaim := { program := "yteegnmdggpcphaadoor", sum := "c380aecd8d026af6a459e510020e1aaf87e4d09445dea1f8c0588a739bd46754", func := "loop.example/g00871/laws.FnNegated", spec := "fnNegated", unfollowed := true, recurses := true, named := ["math/bits.deBruijn32tab"], plainKeys := false, apart := false, laid := [("math/bits.deBruijn32tab", laid_math_bits_deBruijn32tab)], narrowed := true }
def FnNegatedUptoSaid : Prop := fnNegatedUptoRow.holds Tryd.pinned (OpenSpec.upto fnNegatedSpec)

end Rows
end Go.Proofs.YteegnmdggpcphaaDoor
