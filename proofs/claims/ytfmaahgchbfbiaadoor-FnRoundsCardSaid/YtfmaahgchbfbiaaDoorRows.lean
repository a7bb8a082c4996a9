/-
  NARROWER THAN 'FOR EVERY INPUT', by the rows' own cells (each row's printed sentence says how): FnExactOriented: laid · FnOriented: laid · FnNoIntervals: laid · FnRounds: laid.
  DERIVED. THE GIVEN ROWS OF THIS SEAT. 4 by the template 'for every input the law returns true; each argument reads behind the call as it read before'; 0 by the template 'total and deterministic' (their statements: YtfmaahgchbfbiaaDoorTotals.lean).
  GIVEN WITH THE SEED: the statements are not yours to turn. If you find one false, say at which input.
  Laid BY PROGRAM, IN A SANDBOX (cutbox-rows.mjs): the forced cells as the released guide's own fill.sh prints them over the translation c8bf0c0a3fe64960… (all of the seat's roots in one cut). By AI agents, Wed Nov 11 2026. No macro, syntax, notation, axiom, sorry.
-/
import Derived.Test.YtfmaahgchbfbiaaDoorChecked
import GoSem.Claim
import GoSem.ClaimJoined
import GoSem.ClaimMapViews
import Derived.JoinedTies
import Derived.KernelRfl
namespace Go.Proofs.YtfmaahgchbfbiaaDoor
/- THE CELL 'sum', in the pinned program and in every row, IS THE sha256 OF THE DUMP (.gsa) THAT YtfmaahgchbfbiaaDoorProg.lean LOADS. Nothing in Lean hashes anything: it is a label: what it is worth is what the hold of that sum in a sandbox is worth. -/
noncomputable def Tryd.pinned : Pinned := { name := "ytfmaahgchbfbiaadoor", sum := "c8bf0c0a3fe64960813f67890254e7fda0d8bae283aad485aebd611ba32895e5", checked := Tryd.checked }
namespace Rows
def none {H : Type} : Left H := { results := [], args := [] }

/- WHAT THE LISTED PACKAGE-LEVEL VARIABLES READ AS WHEN THE CALL BEGINS. Each datum BY PROGRAM (the guide's laid-datum.mjs) off the statement by which the dump's own 'gosem.cut.vars' lays the variable. In a bare row this is a premise. The card (YtfmaahgchbfbiaaDoorCards.lean) ties it to the program's text. -/
def laid_math_bits_deBruijn32tab {H : Type} : DataW H := .agg [.lit (.int .u8 0), .lit (.int .u8 1), .lit (.int .u8 28), .lit (.int .u8 2), .lit (.int .u8 29), .lit (.int .u8 14), .lit (.int .u8 24), .lit (.int .u8 3), .lit (.int .u8 30), .lit (.int .u8 22), .lit (.int .u8 20), .lit (.int .u8 15), .lit (.int .u8 25), .lit (.int .u8 17), .lit (.int .u8 4), .lit (.int .u8 8), .lit (.int .u8 31), .lit (.int .u8 27), .lit (.int .u8 13), .lit (.int .u8 23), .lit (.int .u8 21), .lit (.int .u8 19), .lit (.int .u8 16), .lit (.int .u8 7), .lit (.int .u8 26), .lit (.int .u8 12), .lit (.int .u8 18), .lit (.int .u8 6), .lit (.int .u8 11), .lit (.int .u8 5), .lit (.int .u8 10), .lit (.int .u8 9)]

/-- 'laws.FnExactOriented': WHATEVER THE INPUT: true; the input reads as it did. -/
def fnExactOrientedSpec : ChangeSpec := { name := "fnExactOriented", fn := fun _ => fun
  | [d] => { results := [.lit (.bool true)], args := [d] }
  | _ => none }
def fnExactOrientedRow : OpenClaim := { program := "ytfmaahgchbfbiaadoor", sum := "c8bf0c0a3fe64960813f67890254e7fda0d8bae283aad485aebd611ba32895e5", func := "loop.example/g00871/laws.FnExactOriented", spec := "fnExactOriented", unfollowed := true, recurses := true, named := ["math/bits.deBruijn32tab"], plainKeys := false, apart := false, laid := [("math/bits.deBruijn32tab", laid_math_bits_deBruijn32tab)] }
def FnExactOrientedSaid : Prop := fnExactOrientedRow.holds Tryd.pinned (OpenSpec.ofChange fnExactOrientedSpec)

/-- ITS FALSE NEIGHBOUR: 'it returns false'. Refute it at one input. -/
def fnExactOrientedWrong : ChangeSpec := { name := "fnExactOriented", fn := fun _ => fun
  | [d] => { results := [.lit (.bool false)], args := [d] }
  | _ => none }
def FnExactOrientedWrongFalsely : Prop := fnExactOrientedRow.holds Tryd.pinned (OpenSpec.ofChange fnExactOrientedWrong)

/-- 'laws.FnOriented': WHATEVER THE INPUT: true; the input reads as it did. -/
def fnOrientedSpec : ChangeSpec := { name := "fnOriented", fn := fun _ => fun
  | [d] => { results := [.lit (.bool true)], args := [d] }
  | _ => none }
def fnOrientedRow : OpenClaim := { program := "ytfmaahgchbfbiaadoor", sum := "c8bf0c0a3fe64960813f67890254e7fda0d8bae283aad485aebd611ba32895e5", func := "loop.example/g00871/laws.FnOriented", spec := "fnOriented", unfollowed := true, recurses := true, named := ["math/bits.deBruijn32tab"], plainKeys := false, apart := false, laid := [("math/bits.deBruijn32tab", laid_math_bits_deBruijn32tab)] }
def FnOrientedSaid : Prop := fnOrientedRow.holds Tryd.pinned (OpenSpec.ofChange fnOrientedSpec)

/-- ITS FALSE NEIGHBOUR: 'it returns false'. Refute it at one input. -/
def fnOrientedWrong : ChangeSpec := { name := "fnOriented", fn := fun _ => fun
  | [d] => { results := [.lit (.bool false)], args := [d] }
  | _ => none }
def FnOrientedWrongFalsely : Prop := fnOrientedRow.holds Tryd.pinned (OpenSpec.ofChange fnOrientedWrong)

/-- 'laws.FnNoIntervals': WHATEVER THE INPUT: true; the input reads as it did. -/
def fnNoIntervalsSpec : ChangeSpec := { name := "fnNoIntervals", fn := fun _ => fun
  | [d] => { results := [.lit (.bool true)], args := [d] }
  | _ => none }
def fnNoIntervalsRow : OpenClaim := { program := "ytfmaahgchbfbiaadoor", sum := "c8bf0c0a3fe64960813f67890254e7fda0d8bae283aad485aebd611ba32895e5", func := "loop.example/g00871/laws.FnNoIntervals", spec := "fnNoIntervals", unfollowed := true, recurses := true, named := ["math/bits.deBruijn32tab"], plainKeys := false, apart := false, laid := [("math/bits.deBruijn32tab", laid_math_bits_deBruijn32tab)] }
def FnNoIntervalsSaid : Prop := fnNoIntervalsRow.holds Tryd.pinned (OpenSpec.ofChange fnNoIntervalsSpec)

/-- ITS FALSE NEIGHBOUR: 'it returns false'. Refute it at one input. -/
def fnNoIntervalsWrong : ChangeSpec := { name := "fnNoIntervals", fn := fun _ => fun
  | [d] => { results := [.lit (.bool false)], args := [d] }
  | _ => none }
def FnNoIntervalsWrongFalsely : Prop := fnNoIntervalsRow.holds Tryd.pinned (OpenSpec.ofChange fnNoIntervalsWrong)

/-- 'laws.FnRounds': WHATEVER THE INPUT: true; the input reads as it did. -/
def fnRoundsSpec : ChangeSpec := { name := "fnRounds", fn := fun _ => fun
  | [d] => { results := [.lit (.bool true)], args := [d] }
  | _ => none }
def fnRoundsRow : OpenClaim := { program := "ytfmaahgchbfbiaadoor", sum := "c8bf0c0a3fe64960813f67890254e7fda0d8bae283aad485aebd611ba32895e5", func := "loop.example/g00871/laws.FnRounds", spec := "fnRounds", unfollowed := true, recurses := true, named := ["math/bits.deBruijn32tab"], plainKeys := false, apart := false, laid := [("math/bits.deBruijn32tab", laid_math_bits_deBruijn32tab)] }
def FnRoundsSaid : Prop := fnRoundsRow.holds Tryd.pinned (OpenSpec.ofChange fnRoundsSpec)

/-- ITS FALSE NEIGHBOUR: 'it returns false'. Refute it at one input. -/
def fnRoundsWrong : ChangeSpec := { name := "fnRounds", fn := fun _ => fun
  | [d] => { results := [.lit (.bool false)], args := [d] }
  | _ => none }
def FnRoundsWrongFalsely : Prop := fnRoundsRow.holds Tryd.pinned (OpenSpec.ofChange fnRoundsWrong)

/- THE SECOND FORM. 'bulk': how many values and letters a reading holds, each counted each time it is reached (what is shared counts as often as it is met; a slice's spare places count too). A statement '..UptoSaid' is the law's where the arguments, and the package variables that the reading takes, are together of bulk at most 1048576: NARROWER than '..Said'. Prove '..Said' where nothing that the law and all that it calls make is longer than what came in: it says more and counts as full. Else prove '..UptoSaid'. A law counts once. -/
mutual
def uptoBulk {H : Type} : DataW H → Nat
  | .lit (.string bytes) => bytes.length + 1
  | .lit _ => 1
  | .nil => 1
  | .ptr d => uptoBulk d + 1
  | .slice elems spare => uptoBulkAll elems + uptoBulkAll spare + 1
  | .agg parts => uptoBulkAll parts + 1
  | .iface _ d => uptoBulk d + 1
  | .map entries => uptoBulkEntries entries + 1
  | .held _ => 1
def uptoBulkAll {H : Type} : List (DataW H) → Nat
  | [] => 0
  | d :: r => uptoBulk d + uptoBulkAll r
def uptoBulkEntries {H : Type} : List (Lit × DataW H) → Nat
  | [] => 0
  | x :: r => uptoBulkEntry x + uptoBulkEntries r
def uptoBulkEntry {H : Type} : Lit × DataW H → Nat
  | (.string bytes, d) => bytes.length + uptoBulk d + 1
  | (_, d) => uptoBulk d + 1
 end
def uptoSmall : (H : Type) → List (DataW H) → Bool := fun _ ds => decide (uptoBulkAll ds ≤ 1048576)
def OpenSpec.upto (s : _root_.Go.ChangeSpec) : _root_.Go.OpenSpec := { _root_.Go.OpenSpec.ofChange s with cond := some uptoSmall }

/-- 'laws.FnExactOriented', WHERE WHAT IT READS IS OF BULK AT MOST 1048576: true; the input reads as it did. -/
def fnExactOrientedUptoRow : OpenClaim := { program := "ytfmaahgchbfbiaadoor", sum := "c8bf0c0a3fe64960813f67890254e7fda0d8bae283aad485aebd611ba32895e5", func := "loop.example/g00871/laws.FnExactOriented", spec := "fnExactOriented", unfollowed := true, recurses := true, named := ["math/bits.deBruijn32tab"], plainKeys := false, apart := false, laid := [("math/bits.deBruijn32tab", laid_math_bits_deBruijn32tab)], narrowed := true }
def FnExactOrientedUptoSaid : Prop := fnExactOrientedUptoRow.holds Tryd.pinned (OpenSpec.upto fnExactOrientedSpec)

/-- 'laws.FnOriented', WHERE WHAT IT READS IS OF BULK AT MOST 1048576: true; the input reads as it did. -/
def fnOrientedUptoRow : OpenClaim := { program := "ytfmaahgchbfbiaadoor", sum := "c8bf0c0a3fe64960813f67890254e7fda0d8bae283aad485aebd611ba32895e5", func := "loop.example/g00871/laws.FnOriented", spec := "fnOriented", unfollowed := true, recurses := true, named := ["math/bits.deBruijn32tab"], plainKeys := false, apart := false, laid := [("math/bits.deBruijn32tab", laid_math_bits_deBruijn32tab)], narrowed := true }
def FnOrientedUptoSaid : Prop := fnOrientedUptoRow.holds Tryd.pinned (OpenSpec.upto fnOrientedSpec)

/-- 'laws.FnNoIntervals', WHERE WHAT IT READS IS OF BULK AT MOST 1048576: true; the input reads as it did. -/
def fnNoIntervalsUptoRow : OpenClaim := { program := "ytfmaahgchbfbiaadoor", sum := "c8bf0c0a3fe64960813f67890254e7fda0d8bae283aad485aebd611ba32895e5", func := "loop.example/g00871/laws.FnNoIntervals", spec := "fnNoIntervals", unfollowed := true, recurses := true, named := ["math/bits.deBruijn32tab"], plainKeys := false, apart := false, laid := [("math/bits.deBruijn32tab", laid_math_bits_deBruijn32tab)], narrowed := true }
def FnNoIntervalsUptoSaid : Prop := fnNoIntervalsUptoRow.holds Tryd.pinned (OpenSpec.upto fnNoIntervalsSpec)

/-- 'laws.FnRounds', WHERE WHAT IT READS IS OF BULK AT MOST 1048576: true; the input reads as it did. -/
def fnRoundsUptoRow : OpenClaim := { program := "ytfmaahgchbfbiaadoor", sum := "c8bf0c0a3fe64960813f67890254e7fda0d8bae283aad485aebd611ba32895e5", func := "loop.example/g00871/laws.FnRounds", spec := "fnRounds", unfollowed := true, recurses := true, named := ["math/bits.deBruijn32tab"], plainKeys := false, apart := false, laid := [("math/bits.deBruijn32tab", laid_math_bits_deBruijn32tab)], narrowed := true }
def FnRoundsUptoSaid : Prop := fnRoundsUptoRow.holds Tryd.pinned (OpenSpec.upto fnRoundsSpec)

end Rows
end Go.Proofs.YtfmaahgchbfbiaaDoor
