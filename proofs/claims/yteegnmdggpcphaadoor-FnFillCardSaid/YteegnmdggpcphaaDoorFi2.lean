/- Parts of the proof: F1D, HandA, HandB. -/
import Derived.Test.YteegnmdggpcphaaDoorFi1
import Derived.Shelf.Small.Bits
import Derived.Test.YteegnmdggpcphaaDoorProg
import Derived.RangeFuncBox
import Derived.RangeFuncLeaves
import Derived.Shelf.Abstract
import Derived.WalkKit
import Derived.OwnWalkIn
import Derived.TacticsInMore
import Derived.LoopNIn
import Derived.LoopIn
import Derived.Maps.AppendAt
set_option linter.unusedVariables false
set_option linter.unusedSimpArgs false
set_option linter.unusedSectionVars false
namespace Go.Sx

noncomputable def D.laws_w5Graph (x0_0 : (List Int)) (x0_1 : Int) (x0_2 : Int) (x1 : Int) : Option (((List (List Int))) × ((List Int)) × Int × Int) :=
  (D.laws_dice_below x0_0 x0_1 x0_2 x1).bind fun y_3 => (D.laws_dice_below y_3.2.1 y_3.2.2.1 y_3.2.2.2 3).bind fun y_12 => (loopF (σ := (List (List Int)) × Int × (List Int) × Int × Int) (ρ := ((List (List Int)) × (List Int) × Int × Int)) (fun (s_353 : (List (List Int)) × Int × (List Int) × Int × Int) => match s_353 with | (l_356, x_361, l_362, x_365, x_366) => cond (decide (x_361 < (IntKind.i64.wrap (1 + y_3.1)))) ((loopF (σ := (List (List Int)) × Int × (List Int) × Int × Int) (ρ := ((List (List Int)) × (List Int) × Int × Int)) (fun (s_609 : (List (List Int)) × Int × (List Int) × Int × Int) => match s_609 with | (l_612, x_617, l_618, x_621, x_622) => cond (decide (x_617 < x_361)) ((D.laws_dice_below l_618 x_621 x_622 4).bind fun y_665 => cond (decide (y_665.1 < (IntKind.i64.wrap (1 + y_12.1)))) ((appendD l_612 ([([x_617, x_361] : List Int)] : List (List Int))).bind fun l_686 => some (.inl (l_686, (IntKind.i64.wrap (x_617 + 1)), y_665.2.1, y_665.2.2.1, y_665.2.2.2))) (some (.inl (l_612, (IntKind.i64.wrap (x_617 + 1)), y_665.2.1, y_665.2.2.1, y_665.2.2.2)))) (some (.inr (l_612, l_618, x_621, x_622)))) (l_356, 0, l_362, x_365, x_366)).bind fun (l_653, l_658, x_661, x_662) => some (.inl (l_653, (IntKind.i64.wrap (x_361 + 1)), l_658, x_661, x_662))) (some (.inr (l_356, l_362, x_365, x_366)))) (([] : List (List Int)), 1, y_12.2.1, y_12.2.2.1, y_12.2.2.2)).bind fun (l_525, l_530, x_533, x_534) => (D.spec_GraphOf (IntKind.i64.wrap (1 + y_3.1)) l_525).bind fun y_695 => some (y_695.1, l_530, x_533, x_534)

noncomputable def D.laws_w5Order (x0_0 : (List Int)) (x0_1 : Int) (x0_2 : Int) (x1 : Int) : Option (((List Int)) × ((List Int)) × Int × Int) :=
  (loopF (σ := (List Int) × Int × (List Int) × Int × Int) (ρ := ((List Int) × (List Int) × Int × Int)) (fun (s_221 : (List Int) × Int × (List Int) × Int × Int) => match s_221 with | (l_224, x_229, l_230, x_233, x_234) => cond (decide (x_229 < x1)) ((D.laws_dice_below l_230 x_233 x_234 (IntKind.i64.wrap ((l_224.length : Int) + 1))).bind fun y_349 => (appendD l_224 ([0] : List Int)).bind fun l_362 => (loopF (σ := (List Int) × Int) (ρ := ((List Int))) (fun (s_403 : (List Int) × Int) => match s_403 with | (l_406, x_409) => cond (decide (y_349.1 < x_409)) ((idx l_406 (IntKind.i64.wrap (x_409 - 1))).bind fun e_430 => (idx l_406 x_409).bind fun e_436 => some (.inl ((l_406.set (Int.toNat x_409) e_430), (IntKind.i64.wrap (x_409 - 1))))) (some (.inr l_406))) (l_362, (IntKind.i64.wrap ((l_362.length : Int) - 1)))).bind fun l_425 => (idx l_425 y_349.1).bind fun e_442 => some (.inl ((l_425.set (Int.toNat y_349.1) x_229), (IntKind.i64.wrap (x_229 + 1)), y_349.2.1, y_349.2.2.1, y_349.2.2.2))) (some (.inr (l_224, l_230, x_233, x_234)))) (([] : List Int), 0, x0_0, x0_1, x0_2)).bind fun (l_337, l_342, x_345, x_346) => some (l_337, l_342, x_345, x_346)

noncomputable def D.impl_firstOf (x0 : Int) : Option (Int) :=
  cond (decide (x0 < 0)) none (some (IntKind.u32.wrap ((ishl .u32 1 x0) - 1)))

noncomputable def D.impl_nets_all (x0 : (List Int)) : Option (Int) :=
  (D.impl_firstOf (x0.length : Int)).bind fun y_1 => some y_1

noncomputable def D.impl_elimination (x0 : (List Int)) (x1 : (List Int)) : Option (((List Int)) × ((List Int))) :=
  (((appendD ([] : List Int) x0).bind fun l_56 => (D.impl_nets_all x0).bind fun y_62 => (makeD (0 : Int) (x0.length : Int) (x0.length : Int)).bind fun l_68 => some (l_56, l_68, y_62) : Option ((List Int) × (List Int) × Int))).bind fun (l_34, l_39, x_44) => (loopF (σ := (List Int) × (List Int) × Int × Int) (ρ := ((List Int) × (List Int))) (fun (s_459 : (List Int) × (List Int) × Int × Int) => match s_459 with | (l_462, l_465, x_468, x_469) => cond (decide (x_469 < (x1.length : Int))) ((idx x1 x_469).bind fun e_665 => (D.impl_one e_665).bind fun y_671 => (idx l_462 e_665).bind fun e_678 => (idx l_465 e_665).bind fun e_684 => (idx (l_465.set (Int.toNat e_665) (iand .u32 e_678 (iandNot .u32 x_468 y_671))) e_665).bind fun e_690 => (D.impl_vset_list e_690).bind fun y_696 => (loopF (σ := (List Int) × Int) (ρ := ((List Int))) (fun (s_776 : (List Int) × Int) => match s_776 with | (l_779, x_782) => cond (decide (x_782 < (y_696.length : Int))) ((idx y_696 x_782).bind fun e_820 => (idx l_779 e_820).bind fun e_826 => (idx (l_465.set (Int.toNat e_665) (iand .u32 e_678 (iandNot .u32 x_468 y_671))) e_665).bind fun e_832 => (D.impl_one e_820).bind fun y_838 => (idx l_779 e_820).bind fun e_841 => some (.inl ((l_779.set (Int.toNat e_820) (ior .u32 e_826 (iandNot .u32 e_832 y_838))), (IntKind.i64.wrap (x_782 + 1))))) (some (.inr l_779))) (l_462, 0)).bind fun l_815 => some (.inl (l_815, (l_465.set (Int.toNat e_665) (iand .u32 e_678 (iandNot .u32 x_468 y_671))), (iandNot .u32 x_468 y_671), (IntKind.i64.wrap (x_469 + 1))))) (some (.inr (l_462, l_465)))) (l_34, l_39, x_44, 0)).bind fun (l_657, l_660) => some (l_657, l_660)

noncomputable def D.impl_nets_graph (x0 : (List Int)) : Option (((List (List Int)))) :=
  (loopF (σ := Int × (List (List Int))) (ρ := ((List (List Int)))) (fun (s_98 : Int × (List (List Int))) => match s_98 with | (x_104, l_105) => cond (decide (x_104 < (x0.length : Int))) ((idx x0 x_104).bind fun e_158 => (D.impl_vset_numbers e_158).bind fun y_167 => (appendD l_105 ([y_167] : List (List Int))).bind fun l_190 => some (.inl ((IntKind.i64.wrap (x_104 + 1)), l_190))) (some (.inr l_105))) (0, ([] : List (List Int)))).bind fun l_151 => some l_151

noncomputable def D.impl_FillOf (x0_0 : (List (List Int))) (x1 : (List Int)) : Option (((List (List Int))) × Bool) :=
  (D.impl_OrderOk x0_0 x1).bind fun y_5 => cond (!y_5) (some (([] : List (List Int)), false)) ((D.impl_netsOf x0_0).bind fun y_18 => (D.impl_narrow x1).bind fun y_29 => (D.impl_elimination y_18 y_29).bind fun y_40 => (D.impl_nets_graph y_40.1).bind fun y_64 => some (y_64, true))

noncomputable def D.impl_edgesOf (x0_0 : (List (List Int))) : Option (((List (List Int)))) :=
  (loopF (σ := (List (List Int)) × Int) (ρ := ((List (List Int)))) (fun (s_288 : (List (List Int)) × Int) => match s_288 with | (l_291, x_296) => cond (decide (x_296 < (x0_0.length : Int))) ((idx x0_0 x_296).bind fun e_441 => (loopF (σ := (List (List Int)) × Int) (ρ := ((List (List Int)))) (fun (s_508 : (List (List Int)) × Int) => match s_508 with | (l_511, x_516) => cond (decide (x_516 < (e_441.length : Int))) ((idx e_441 x_516).bind fun e_551 => cond (decide (x_296 < e_551)) ((appendD l_511 ([([x_296, e_551] : List Int)] : List (List Int))).bind fun l_569 => some (.inl (l_569, (IntKind.i64.wrap (x_516 + 1))))) (some (.inl (l_511, (IntKind.i64.wrap (x_516 + 1)))))) (some (.inr l_511))) (l_291, 0)).bind fun l_544 => some (.inl (l_544, (IntKind.i64.wrap (x_296 + 1))))) (some (.inr l_291))) (([] : List (List Int)), 0)).bind fun l_434 => some l_434

noncomputable def D.impl_EdgesOf (x0_0 : (List (List Int))) : Option (((List (List Int)))) :=
  (D.impl_GraphOk x0_0).bind fun y_3 => cond (!y_3) (some ([] : List (List Int))) ((D.impl_edgesOf x0_0).bind fun y_14 => some y_14)

noncomputable def D.impl_ManyEdges (x0_0 : (List (List Int))) : Option (Int) :=
  (D.impl_EdgesOf x0_0).bind fun y_3 => some (y_3.length : Int)

noncomputable def D.impl_FillMany (x0_0 : (List (List Int))) (x1 : (List Int)) : Option (Int) :=
  (D.impl_FillOf x0_0 x1).bind fun y_3 => cond (!y_3.2) (some (-1)) ((D.impl_ManyEdges y_3.1).bind fun y_17 => (D.impl_ManyEdges x0_0).bind fun y_23 => some (IntKind.i64.wrap (y_17 - y_23)))

noncomputable def D.impl_PerfectIn (x0_0 : (List (List Int))) (x1 : (List Int)) : Option (Bool) :=
  (D.impl_FillMany x0_0 x1).bind fun y_3 => some (y_3 == 0)

noncomputable def D.spec_l7Left (x0_0 : (List (List Int))) (x1 : Int) (x2 : (List Bool)) : Option (((List Int))) :=
  (loopF (σ := (List Int) × Int) (ρ := ((List Int))) (fun (s_114 : (List Int) × Int) => match s_114 with | (l_117, x_122) => (idx x0_0 x1).bind fun e_179 => cond (decide (x_122 < (e_179.length : Int))) ((idx x0_0 x1).bind fun e_186 => (idx e_186 x_122).bind fun e_192 => (idx x2 e_192).bind fun e_198 => cond (!e_198) ((idx x0_0 x1).bind fun e_205 => (idx e_205 x_122).bind fun e_211 => (appendD l_117 ([e_211] : List Int)).bind fun l_221 => some (.inl (l_221, (IntKind.i64.wrap (x_122 + 1))))) (some (.inl (l_117, (IntKind.i64.wrap (x_122 + 1)))))) (some (.inr l_117))) (([] : List Int), 0)).bind fun l_173 => some l_173

noncomputable def D.spec_l1Edge (x0_0 : (List (List Int))) (x1 : Int) (x2 : Int) : Option (Bool) :=
  (idx x0_0 x1).bind fun e_3 => (D.spec_l1Has e_3 x2).bind fun y_9 => some y_9

noncomputable def D.spec_l7Missing (x0_0 : (List (List Int))) (x1 : (List Int)) : Option (Int) :=
  (loopF (σ := Int × Int) (ρ := (Int)) (fun (s_196 : Int × Int) => match s_196 with | (x_199, x_200) => cond (decide (x_200 < (x1.length : Int))) ((loopF (σ := Int × Int) (ρ := (Int)) (fun (s_344 : Int × Int) => match s_344 with | (x_347, x_348) => cond (decide (x_348 < x_200)) ((idx x1 x_348).bind fun e_373 => (idx x1 x_200).bind fun e_379 => (D.spec_l1Edge x0_0 e_373 e_379).bind fun y_385 => cond (!y_385) (some (.inl ((IntKind.i64.wrap (x_347 + 1)), (IntKind.i64.wrap (x_348 + 1))))) (some (.inl (x_347, (IntKind.i64.wrap (x_348 + 1)))))) (some (.inr x_347))) (x_199, 0)).bind fun x_370 => some (.inl (x_370, (IntKind.i64.wrap (x_200 + 1))))) (some (.inr x_199))) (0, 0)).bind fun x_296 => some x_296

noncomputable def D.spec_l8Clique (x0_0 : (List (List Int))) (x1 : (List Int)) : Option (Bool) :=
  (D.spec_l7Missing x0_0 x1).bind fun y_3 => some (y_3 == 0)

noncomputable def D.spec_PerfectOrder (x0_0 : (List (List Int))) : Option (((List Int)) × Bool) :=
  (D.spec_GraphOk x0_0).bind fun y_3 => cond (!y_3) (some (([] : List Int), false)) ((D.spec_l1Size x0_0).bind fun y_15 => (makeD (false : Bool) y_15 y_15).bind fun l_22 => (loopF (σ := (List Bool) × (List Int)) (ρ := ((List Int)) ⊕ (((List Int)) × Bool)) (fun (s_529 : (List Bool) × (List Int)) => match s_529 with | (l_532, l_535) => (D.spec_l1Size x0_0).bind fun y_790 => cond (decide ((l_535.length : Int) < y_790)) ((loopF (σ := Int) (ρ := (Int)) (fun (x_903 : Int) => (D.spec_l1Size x0_0).bind fun y_956 => cond (decide (x_903 < y_956)) ((idx l_532 x_903).bind fun e_960 => cond e_960 (some (.inl (IntKind.i64.wrap (x_903 + 1)))) ((D.spec_l7Left x0_0 x_903 l_532).bind fun y_970 => (D.spec_l8Clique x0_0 y_970).bind fun y_987 => cond (!y_987) (some (.inl (IntKind.i64.wrap (x_903 + 1)))) (some (.inr x_903)))) (some (.inr x_903))) 0).bind fun x_954 => (D.spec_l1Size x0_0).bind fun y_1004 => cond (x_954 == y_1004) (some (.inr (.inr (([] : List Int), false)))) ((idx l_532 x_954).bind fun e_1016 => (appendD l_535 ([x_954] : List Int)).bind fun l_1026 => some (.inl ((l_532.set (Int.toNat x_954) true), l_1026)))) (some (.inr (.inl l_535)))) (l_22, ([] : List Int))).bind fun zz => match zz with | .inl l_784 => (some (l_784, true)) | .inr z => (some z))

noncomputable def D.spec_ChordalIn (x0_0 : (List (List Int))) : Option (Bool) :=
  (D.spec_PerfectOrder x0_0).bind fun y_3 => some y_3.2

noncomputable def D.spec_EdgesOf (x0_0 : (List (List Int))) : Option (((List (List Int)))) :=
  (D.spec_GraphOk x0_0).bind fun y_3 => cond (!y_3) (some ([] : List (List Int))) ((D.spec_l1Edges x0_0).bind fun y_15 => some y_15)

noncomputable def D.spec_EdgeIn (x0_0 : (List (List Int))) (x1 : Int) (x2 : Int) : Option (Bool) :=
  (D.spec_GraphOk x0_0).bind fun y_3 => (cond y_3 ((D.spec_l1There x0_0 x1).bind fun y_29 => some y_29) (some false)).bind fun b_27 => (cond b_27 ((D.spec_l1There x0_0 x2).bind fun y_55 => some y_55) (some false)).bind fun b_53 => (cond b_53 ((D.spec_l1Edge x0_0 x1 x2).bind fun y_81 => some y_81) (some false)).bind fun b_79 => some b_79

noncomputable def D.slices_Equal_int64_int64 (x0 : (List Int)) (x1 : (List Int)) : Option (Bool) :=
  cond ((x0.length : Int) != (x1.length : Int)) (some false) ((loopF (σ := Int) (ρ := (Unit) ⊕ (Bool)) (fun (x_43 : Int) => cond (decide (x_43 < (x0.length : Int))) ((idx x0 x_43).bind fun e_64 => (idx x1 x_43).bind fun e_70 => cond (e_64 != e_70) (some (.inr (.inr false))) (some (.inl (IntKind.i64.wrap (x_43 + 1))))) (some (.inr (.inl ())))) 0).bind fun zz => match zz with | .inl _ => (some true) | .inr z => (some z))

noncomputable def D.slices_EqualFunc_int64_int64_int64_int64__slices_Equal_int64_int64 (x0 : (List (List Int))) (x1 : (List (List Int))) : Option (Bool) :=
  cond ((x0.length : Int) != (x1.length : Int)) (some false) ((loopF (σ := Int) (ρ := (Unit) ⊕ (Bool)) (fun (x_53 : Int) => cond (decide (x_53 < (x0.length : Int))) ((idx x0 x_53).bind fun e_79 => (idx x1 x_53).bind fun e_85 => (D.slices_Equal_int64_int64 e_79 e_85).bind fun y_91 => cond (!y_91) (some (.inr (.inr false))) (some (.inl (IntKind.i64.wrap (x_53 + 1))))) (some (.inr (.inl ())))) 0).bind fun zz => match zz with | .inl _ => (some true) | .inr z => (some z))

noncomputable def D.impl_SameGraph (x0_0 : (List (List Int))) (x1_0 : (List (List Int))) : Option (Bool) :=
  (D.impl_GraphOk x0_0).bind fun y_5 => (cond y_5 ((D.impl_GraphOk x1_0).bind fun y_31 => some y_31) (some false)).bind fun b_29 => (cond b_29 ((D.slices_EqualFunc_int64_int64_int64_int64__slices_Equal_int64_int64 x0_0 x1_0).bind fun y_57 => some y_57) (some false)).bind fun b_55 => some b_55

noncomputable def D.spec_ManyEdges (x0_0 : (List (List Int))) : Option (Int) :=
  (D.spec_GraphOk x0_0).bind fun y_3 => cond (!y_3) (some 0) ((D.spec_l1Edges x0_0).bind fun y_11 => some (y_11.length : Int))

noncomputable def D.math_bits_OnesCount32 (x0 : Int) : Option (Int) :=
  (strAt popTab (ishr .u32 x0 24)).bind fun e_2 => (strAt popTab (iand .u32 (ishr .u32 x0 16) 255)).bind fun e_5 => (strAt popTab (iand .u32 (ishr .u32 x0 8) 255)).bind fun e_8 => (strAt popTab (iand .u32 x0 255)).bind fun e_10 => some (IntKind.i64.wrap (IntKind.u8.wrap ((IntKind.u8.wrap ((IntKind.u8.wrap (e_2 + e_5)) + e_8)) + e_10)))

noncomputable def D.impl_vset_size (x0 : Int) : Option (Int) :=
  (D.math_bits_OnesCount32 x0).bind fun y_1 => some y_1

noncomputable def D.impl_widthOf (x0 : (List Int)) (x1 : (List Int)) : Option (Int) :=
  (D.impl_elimination x0 x1).bind fun y_1 => (loopF (σ := Int × Int) (ρ := (Int)) (fun (s_51 : Int × Int) => match s_51 with | (x_54, x_55) => cond (decide (x_55 < (y_1.2.length : Int))) ((idx y_1.2 x_55).bind fun e_75 => (D.impl_vset_size e_75).bind fun y_81 => some (.inl ((if x_54 < y_81 then y_81 else x_54), (IntKind.i64.wrap (x_55 + 1))))) (some (.inr x_54))) (0, 0)).bind fun x_72 => some x_72

noncomputable def D.impl_OrderWidth (x0_0 : (List (List Int))) (x1 : (List Int)) : Option (Int) :=
  (D.impl_OrderOk x0_0 x1).bind fun y_3 => cond (!y_3) (some (-1)) ((D.impl_netsOf x0_0).bind fun y_11 => (D.impl_narrow x1).bind fun y_22 => (D.impl_widthOf y_11 y_22).bind fun y_33 => some y_33)

noncomputable def D.laws_FnFill (x0 : (List Int)) : Option (Bool) :=
  (D.laws_big x0).bind fun y_1 => cond y_1 (some true) ((D.laws_roll x0 806).bind fun y_9 => (D.laws_w5Graph y_9.1 y_9.2.1 y_9.2.2 8).bind fun y_20 => (D.laws_w5Order y_20.2.1 y_20.2.2.1 y_20.2.2.2 (y_20.1.length : Int)).bind fun y_35 => (D.impl_FillOf y_20.1 y_35.1).bind fun y_54 => (cond (!y_54.2) (some true) ((D.spec_GraphOk y_54.1).bind fun y_92 => some (!y_92))).bind fun b_90 => (cond b_90 (some true) ((D.impl_PerfectIn y_54.1 y_35.1).bind fun y_127 => some (!y_127))).bind fun b_125 => (cond b_125 (some true) ((D.spec_ChordalIn y_54.1).bind fun y_162 => some (!y_162))).bind fun b_160 => cond b_160 (some false) ((D.impl_FillOf y_54.1 y_35.1).bind fun y_176 => (D.spec_EdgesOf y_20.1).bind fun y_189 => (loopF (σ := Int) (ρ := (Unit) ⊕ (Bool)) (fun (x_271 : Int) => cond (decide (x_271 < (y_189.length : Int))) ((idx y_189 x_271).bind fun e_307 => (idx e_307 0).bind fun e_313 => (idx y_189 x_271).bind fun e_319 => (idx e_319 1).bind fun e_325 => (D.spec_EdgeIn y_54.1 e_313 e_325).bind fun y_331 => cond (!y_331) (some (.inr (.inr false))) (some (.inl (IntKind.i64.wrap (x_271 + 1))))) (some (.inr (.inl ())))) 0).bind fun zz => match zz with | .inl _ => ((cond y_176.2 ((D.impl_SameGraph y_176.1 y_54.1).bind fun y_347 => some y_347) (some false)).bind fun b_345 => (cond b_345 ((D.impl_FillMany y_20.1 y_35.1).bind fun y_366 => (D.spec_ManyEdges y_54.1).bind fun y_369 => (D.spec_ManyEdges y_20.1).bind fun y_372 => some (y_366 == (IntKind.i64.wrap (y_369 - y_372)))) (some false)).bind fun b_364 => (cond b_364 ((D.impl_OrderWidth y_20.1 y_35.1).bind fun y_385 => (D.impl_OrderWidth y_54.1 y_35.1).bind fun y_388 => some (y_385 == y_388)) (some false)).bind fun b_383 => some b_383) | .inr z => (some z)))
end Go.Sx

namespace Go.Proofs
open Go.Shelf
def Tryd.lays125_ren : Go.Shelf.Ren := ⟨fun | 125 => 194 | 128 => 264 | 129 => 265 | n => n, fun | 46 => 96 | 3 => 3 | 51 => 105 | 53 => 49 | 4 => 4 | 5 => 5 | 9 => 9 | n => n, fun | n => n⟩
theorem Tryd.lays125 : Go.Proofs.Lays.n125 Tryd.prog Tryd.lays125_ren := {
  mixed := by kernel_rfl
  f125 := Tryd.func194.trans (congrArg some (by kernel_rfl))
  f128 := Tryd.func264.trans (congrArg some (by kernel_rfl))
  f129 := Tryd.func265.trans (congrArg some (by kernel_rfl))
  t3 := Tryd.underlying3
  a3 := Tryd.isAgg3
  z3 := Tryd.sizeOf3
  v3 := Tryd.zeroValue3
  t4 := Tryd.underlying4
  a4 := Tryd.isAgg4
  z4 := Tryd.sizeOf4
  v4 := Tryd.zeroValue4
  t5 := Tryd.underlying5
  a5 := Tryd.isAgg5
  z5 := Tryd.sizeOf5
  v5 := Tryd.zeroValue5
  t9 := Tryd.underlying9
  a9 := Tryd.isAgg9
  z9 := Tryd.sizeOf9
  v9 := Tryd.zeroValue9
  t46 := Tryd.underlying96
  a46 := Tryd.isAgg96
  z46 := Tryd.sizeOf96
  v46 := Tryd.zeroValue96
  t51 := Tryd.underlying105
  a51 := Tryd.isAgg105
  z51 := Tryd.sizeOf105
  v51 := Tryd.zeroValue105
  t53 := Tryd.underlying49
  a53 := Tryd.isAgg49
  z53 := Tryd.sizeOf49
  v53 := Tryd.zeroValue49 }
theorem Tryd.bits_Len (x : Int) (w : World) (h0 : 0 ≤ x) (h1 : x ≤ 18446744073709551615) :
    Calls Tryd.prog 194 #[.int .u64 x] w fun e w' => e = .returned (.int .i64 (Lib.bitLen x.toNat)) ∧ w' = w := Any.bits_Len Tryd.lays125 x w h0 h1
end Go.Proofs
namespace Go.Proofs.YteegnmdggpcphaaDoor
open Go Go.Sx
theorem Wk.math_bits_Len {W w : World} {G : GH} {H : List Itm} {x0 : Int} (m : Mem W G w H) {y : Int} (hd : D.math_bits_Len x0 = some y) :
    Calls Tryd.prog 194 #[(.int .u64 x0)] w (Res W G H (fun _ Ho v => Ho = [] ∧ v = (.int .i64 y))) := by
  unfold D.math_bits_Len at hd
  split at hd
  · rename_i h
    obtain rfl := Option.some.inj hd
    exact (Tryd.bits_Len x0 w h.1 h.2).mono (fun e w' ⟨he, hw⟩ => by subst hw; exact ⟨_, he, G, [], GLe.refl G, m, rfl, rfl⟩)
  · cases hd
end Go.Proofs.YteegnmdggpcphaaDoor

namespace Go.Proofs
open Go.RowKit Go.Shelf
attribute [local go_sem] Oper.semAt_some
namespace YteegnmdggpcphaaDoor

def upto {α : Type} (f : Nat → α) (k : Nat) : List α := (List.range k).map f
theorem upto_succ {α : Type} (f : Nat → α) (k : Nat) : upto f (k + 1) = upto f k ++ [f k] := by simp [upto, List.range_succ]
theorem upto_length {α : Type} (f : Nat → α) (k : Nat) : (upto f k).length = k := by simp [upto]
theorem upto_all (zs : List Int) : upto (fun j => zs[j]?.getD 0) zs.length = zs := by
  apply List.ext_getElem
  · simp [upto]
  · intro i h1 h2
    simp [upto, h2]
theorem upto_take (zs : List Int) {k : Nat} (hk : k ≤ zs.length) : upto (fun j => zs[j]?.getD 0) k = zs.take k := by
  apply List.ext_getElem
  · simp [upto, hk]
  · intro i h1 h2
    have : i < zs.length := by simp [upto] at h1; omega
    simp [upto, this]

set_option maxRecDepth 100000 in
set_option maxHeartbeats 2000000 in
theorem values1_in (F : Fence) (n : Nat) (h7 : F.fn 219) (hro : F.round = none) (hn : 1 ≤ n) (l Bs n₀ b off len cap : Nat) (zs : List Int) (hreach : len * 8 ≤ 140737488351232) (hb : len = 0 ∨ b < n₀) (J Jx : List Int → World → Prop)
    (hY : ∀ pre x W, J pre W → pre.length < len → YieldAt F (n - 1) Tryd.prog l #[.int .i64 x] W fun e W' =>
      (e = .returned (.bool true) ∧ J (pre ++ [x]) W' ∧ Below n₀ W W') ∨ (e = .returned (.bool false) ∧ Jx (pre ++ [x]) W'))
    (W : World) (hBs : W.cell? ⟨Bs, 0, none⟩ = some (.slice (some ⟨b, off, none⟩) len cap)) (hc : ∀ j, j < len → W.cell? ⟨b, off + j, none⟩ = some (.int .i64 (zs[j]?.getD 0))) (h0 : J [] W) :
    CallsIn F n Tryd.prog 219 #[.func (.yield l) #[] #[], .pointer (some ⟨Bs, 0, none⟩)] W fun e W' => (∃ v, e = .returned v) ∧
      ((∃ ys, ys = upto (fun j => zs[j]?.getD 0) len ∧ J ys W') ∨ (∃ pre, (∃ k, k ≤ len ∧ pre = upto (fun j => zs[j]?.getD 0) k) ∧ Jx pre W')) := by
  refine callsIn_of_wp Tryd.func219 rfl h7 ?_ hro
  simp only [Tryd.ntmps219, List.size_toArray, List.length_cons, List.length_nil, Nat.reduceAdd, Nat.reduceSub, Array.replicate_succ, Array.replicate_zero, List.push_toArray, List.append_toArray, List.nil_append, List.cons_append]
  gi_wp2
  gi_loopw [7] (fun i wr => ∃ k : Nat, k ≤ len ∧ i = .int .i64 k ∧ J (upto (fun j => zs[j]?.getD 0) k) wr ∧ Below n₀ W wr)
    (fun i _ => len - (intOf i).toNat)
  case atStart => exact ⟨0, Nat.zero_le _, rfl, h0, Below.refl _ _⟩
  case round =>
    obtain ⟨k, hk, rfl, hJs, hnx⟩ := hrel
    have hcx : k < len → wr.cell? ⟨b, off + k, none⟩ = some (.int .i64 (zs[k]?.getD 0)) := fun h => (hnx.cell (p := ⟨b, off + k, none⟩) (hb.resolve_left (by omega))).trans (hc k h)
    by_cases hlt : k < len
    · obtain ⟨fn, tmps, assign, body, hy, hR⟩ := hY _ (zs[k]?.getD 0) wr hJs (by rw [upto_length]; exact hlt)
      have hcx' := hcx hlt
      gi_wp2
      refine hR.mono ?_
      rintro e W3 (⟨rfl, hJ3, hk3⟩ | ⟨rfl, hJx3⟩)
      · gi_wp2
        go_roundw
        case rel => exact ⟨k + 1, by omega, by simp, by rw [upto_succ]; exact hJ3, hnx.trans hk3⟩
        case measure => simp [intOf]; omega
      · gi_wp2
        refine bodyPost_ret (results_none rfl _ _ _) rfl ?_
        exact ⟨⟨_, rfl⟩, .inr ⟨_, ⟨k + 1, by omega, (upto_succ _ _).symm⟩, hJx3⟩⟩
    · obtain rfl : k = len := by omega
      gi_wp2
      go_end0
      exact ⟨⟨_, rfl⟩, .inl ⟨_, rfl, hJs⟩⟩

def Ints (n₀ : Nat) (W : World) (sv : Value) (zs : List Int) : Prop :=
  ((∃ a c, sv = .slice a 0 c) ∧ zs = []) ∨ ∃ b off cap, sv = .slice (some ⟨b, off, none⟩) zs.length cap ∧ (zs.length = 0 ∨ b < n₀) ∧ ∀ j, j < zs.length → W.cell? ⟨b, off + j, none⟩ = some (.int .i64 (zs[j]?.getD 0))
theorem Ints.below {n₀ : Nat} {A B : World} (h : Below n₀ A B) {sv : Value} {zs : List Int} : Ints n₀ A sv zs → Ints n₀ B sv zs
  | .inl e => .inl e
  | .inr ⟨b, off, cap, e, hb, hc⟩ => .inr ⟨b, off, cap, e, hb, fun j hj => (h.cell (p := ⟨b, off + j, none⟩) (hb.resolve_left (by omega))).trans (hc j hj)⟩

set_option maxRecDepth 100000 in
set_option maxHeartbeats 1000000 in
theorem values1_nil_in (F : Fence) (n : Nat) (h7 : F.fn 219) (hro : F.round = none) (l Bs : Nat) (J : List Int → World → Prop) (W : World) (a : Option Addr) (c : Nat) (hBs : W.cell? ⟨Bs, 0, none⟩ = some (.slice a 0 c)) (h0 : J [] W) :
    CallsIn F n Tryd.prog 219 #[.func (.yield l) #[] #[], .pointer (some ⟨Bs, 0, none⟩)] W fun e W' => (∃ v, e = .returned v) ∧ J [] W' := by
  refine callsIn_of_wp Tryd.func219 rfl h7 ?_ hro
  simp only [Tryd.ntmps219, List.size_toArray, List.length_cons, List.length_nil, Nat.reduceAdd, Nat.reduceSub, Array.replicate_succ, Array.replicate_zero, List.push_toArray, List.append_toArray, List.nil_append, List.cons_append]
  gi_wp2
  gi_loopw [7] (fun i wr => i = .int .i64 0 ∧ J [] wr) (fun _ _ => 0)
  case atStart => exact ⟨rfl, h0⟩
  case round =>
    obtain ⟨rfl, hJs⟩ := hrel
    gi_wp2
    go_end0
    exact ⟨⟨_, rfl⟩, hJs⟩

theorem values_stops (F : Fence) (n : Nat) (h7 : F.fn 219) (hro : F.round = none) (hn : 1 ≤ n) (Bs n₀ : Nat) (sv : Value) (zs : List Int) (hreach : zs.length * 8 ≤ 140737488351232) (w : World) (hBs : Bs < w.heap.size) (hn₀ : n₀ ≤ w.heap.size)
    (hc : w.cell? ⟨Bs, 0, none⟩ = some sv) (hI : Ints n₀ w sv zs) :
    SeqStopsK F n Tryd.prog 219 #[.pointer (some ⟨Bs, 0, none⟩)] (fun x : Int => #[Value.int .i64 x]) (Below n₀) (fun ys => ys = zs) (fun pre => pre <+: zs) zs.length w := fun l J Jx W hW _ _ hY h0 => by
  have hc' := (hW.cell (p := ⟨Bs, 0, none⟩) hBs).trans hc
  rcases hI.below (hW.mono hn₀) with ⟨⟨a, c, rfl⟩, rfl⟩ | ⟨b, off, cap, rfl, hb, hcs⟩
  · exact (values1_nil_in F n h7 hro l Bs J W a c hc' h0).mono fun e W' ⟨he, hj⟩ => ⟨he, .inl ⟨_, rfl, hj⟩⟩
  · refine (values1_in F n h7 hro hn l Bs n₀ b off zs.length cap zs hreach hb J Jx hY W hc' hcs h0).mono ?_
    rintro e W' ⟨he, ⟨ys, rfl, hj⟩ | ⟨pre, ⟨k, hk, rfl⟩, hj⟩⟩
    · exact ⟨he, .inl ⟨_, upto_all zs, hj⟩⟩
    · exact ⟨he, .inr ⟨_, by rw [upto_take zs hk]; exact List.take_prefix _ _, hj⟩⟩

theorem info2 : (Tryd.prog.info? 2).map (fun i => (i.zero, i.size, i.bytes)) = some (some (.int .i64 0), 1, 8) := by kernel_rfl

set_option maxRecDepth 100000 in
set_option maxHeartbeats 4000000 in
theorem AppendSeq_in (F : Fence) (n : Nat) (h3 : F.fn 279) (h5 : F.fn 219) (hro : F.round = none) (hn : 3 ≤ n) (Bs : Nat) (sv : Value) (xs : List Int) (hlen : xs.length ≤ maxLen) (hbytes : xs.length * 8 ≤ 140737488351232) (w : World) (hBs : Bs < w.heap.size) (hc : w.cell? ⟨Bs, 0, none⟩ = some sv) (hL : Ints w.heap.size w sv xs) :
    CallsIn F n Tryd.prog 279 #[.slice none 0 0, .func (.func 219) #[] #[.pointer (some ⟨Bs, 0, none⟩)]] w fun e W' => ∃ v, e = .returned v ∧ W'.ownsRow w.heap.size 2 1 v xs.length (xs.map (Value.int .i64)) ∧ Below w.heap.size w W' := by
  have h1 : 1 ≤ n := by omega
  obtain ⟨i0, hi, hz0, hz1, hz2⟩ := info_parts info2
  refine callsIn_of_wp_marks Tryd.func279 rfl h3 ?_ hro
  simp only [Tryd.ntmps279, List.size_toArray, List.length_cons, List.length_nil, Nat.reduceAdd, Nat.reduceSub, Array.replicate_succ, Array.replicate_zero, List.push_toArray, List.append_toArray, List.nil_append, List.cons_append]
  gi_wp2
  have bO := Boxed.new w 25 (.slice none 0 0)
  have hB0 : Below w.heap.size w (w.alloc (.cells #[.slice none 0 0] 25)) := (Below.refl _ w).alloc (Nat.le_refl _) _
  refine wpIn_rangeFunc_ownG hro h1 (gf := 219) (lb := #[.pointer (some ⟨Bs, 0, none⟩)]) rfl h5 (enters_of Tryd.func219 (by kernel_rfl) rfl)
    (values_stops F (n - 1) h5 hro (by omega) Bs w.heap.size sv xs hbytes _ (by simp; omega) (by simp) ((hB0.cell (p := ⟨Bs, 0, none⟩) hBs).trans hc) (hL.below hB0)) belowK_t (belowK_b (by simp)) (Below.refl _ _) (fun _ => rfl)
    (fun pre W => (∃ v, Boxed W w.heap.size 25 v ∧ W.ownsRow w.heap.size 2 1 v pre.length (pre.map (Value.int .i64)) ∧ (v = .slice none 0 0 ↔ pre = [])) ∧ Below w.heap.size w W)
    (fun _ _ _ => False)
    (OwnFrom.and (Own.from (holdsRow_own w.heap.size w.heap.size 25 2 1 (fun pre => pre.length) (fun pre => pre.map (Value.int .i64)) (fun pre v => v = .slice none 0 0 ↔ pre = [])) _) (ownFrom_below (Nat.le_refl _) (by simp)))
    (fun _ _ _ _ _ hs _ _ => hs)
    ⟨⟨_, bO, World.ownsRow_nil _ _ _ _, by simp⟩, hB0⟩
    (fun x => { tmps := #[.slice none 0 0, .func (.func 219) #[] #[.pointer (some ⟨Bs, 0, none⟩)], .pointer (some ⟨w.heap.size, 0, none⟩), undef, .slice none 0 0, .int .i64 x, .func (.func 219) #[] #[.pointer (some ⟨Bs, 0, none⟩)], .int .i64 x, undef, undef, undef, undef, undef], defers := [] }) ?assign ?body ?done ?stop
  case assign =>
    intro l x W K hK
    gi_wp2
    exact hK
  case body =>
    rintro l pre x W ⟨⟨v, hv, hrow, hnil⟩, hB⟩ hlt
    have hc := hv.cell
    gi_wp2_with (gi_at_builtin; refine wpListIn_append_own _ rfl _ _ 25 rfl w.heap.size 2 i0 (.int .i64 0) 1 8 Tryd.underlying25 hi hz0 hz1 hz2 rfl (by decide) _ _ _ rfl (hrow.alloc _) ⟨W.heap.size, 0, none⟩ 1 1 [.int .i64 x] rfl rfl (cell_one_new _ _ _) (by simp [Value.oneCell']) (by omega) (by omega) (by have := hB.size; simp; omega) ?_; intro v' w1 hown' hgrow _; obtain ⟨g', cap', rfl⟩ := ownsRow_succ hown'; obtain ⟨hv1, hv2, hr2, hk2, hb2⟩ := hv.appended (by decide) hrow hB.size (Nat.le_refl _) hown' hgrow; have hc1 := hv1.cell; have hf1 := hv1.frozen)
    exact ⟨hk2.from _, hb2, ⟨_, hv2, by simpa using hr2, by simp⟩, hB.trans hb2⟩
  case done =>
    rintro D ys W hD rfl ⟨⟨v, hv, hrow, hnil⟩, hB⟩ hK
    have hc := hv.cell
    gi_wp2
    refine ⟨by simp, .inl ⟨_, _, rfl, run_takeDeferred hK, ?_⟩⟩
    exact ⟨_, results_tmp rfl _ _ _, v, rfl, ownsRow_putObj hrow _ hK rfl, hB.trans (belowK_b (w := w) (Nat.le_refl _) W D _ _ (by simp at hD; omega) hK rfl rfl)⟩
  case stop =>
    rintro D c pre W _ _ h _
    exact h.elim

set_option maxHeartbeats 1000000 in
theorem values_in (F : Fence) (n : Nat) (h5 : F.fn 141) (hro : F.round = none) (a : Option Addr) (len cap : Nat) (w : World) :
    CallsIn F n Tryd.prog 141 #[.slice a len cap] w fun e w' => e = .returned (.func (.func 219) #[] #[.pointer (some ⟨w.heap.size, 0, none⟩)]) ∧ w' = w.alloc (.cells #[.slice a len cap] 25) := by
  refine callsIn_of_wp Tryd.func141 rfl h5 ?_ hro
  simp only [Tryd.ntmps141, List.size_toArray, List.length_cons, List.length_nil, Nat.reduceAdd, Nat.reduceSub, Array.replicate_succ, Array.replicate_zero, List.push_toArray, List.append_toArray, List.nil_append, List.cons_append]
  gi_wp2
  go_ret
  exact ⟨rfl, rfl⟩

open Go.Sx in
theorem Wk.slices_Values_int64_int64 {W w : World} {G : GH} {H : List Itm} {v : Value} {x : List Int} (m : Mem W G w H) (h : RSl (RI .i64) G v x) :
    Calls Tryd.prog 141 #[v] w (Res W G H (fun _ Ho r => ∃ b, Ho = [Itm.box b 25 [v]] ∧ .func (.func 219) #[] #[.pointer (some ⟨b, 0, none⟩)] = r)) := by
  obtain ⟨a, c, rfl, _, _⟩ := h.len
  refine (callsIn_wide (n := 3)).1 ((values_in Fence.wide 3 trivial rfl a x.length c w).mono ?_)
  rintro e w' ⟨rfl, rfl⟩
  exact ⟨_, rfl, G, [.box w.heap.size 25 [.slice a x.length c]], GLe.refl G, m.alloc 25 [.slice a x.length c], _, rfl, rfl⟩

open Go.Sx in
theorem Wk.slices_AppendSeq_int64_int64 {W w : World} {G : GH} {H : List Itm} {b0 : Nat} {v : Value} {x y : List Int} (m : Mem W G w (Itm.box b0 25 [v] :: H)) (h : RSl (RI .i64) G v x) (hy : D.slices_AppendSeq_int64_int64 x = some y) :
    Calls Tryd.prog 279 #[.slice none 0 0, .func (.func 219) #[] #[.pointer (some ⟨b0, 0, none⟩)]] w (Res W G H (fun G' Ho r => ∃ r' it, Ho = [it] ∧ r' = r ∧ Go.Sx.Ow (RI .i64) 2 G' it r' y)) := by
  unfold D.slices_AppendSeq_int64_int64 at hy
  split at hy
  · rename_i hx
    obtain rfl := Option.some.inj hy
    have hb0 : w.heap[b0]? = some (.cells #[v] 25 (0, 0)) := m.items 0 (.box b0 25 [v]) rfl
    have hc : w.cell? ⟨b0, 0, none⟩ = some v := by simp [World.cell?, hb0]
    have hl : b0 < w.heap.size := (Array.getElem?_eq_some_iff.1 hb0).1
    have hI : Ints w.heap.size w v x := by
      obtain ⟨vs, hA, h⟩ := h
      rcases h with ⟨rfl, rfl⟩ | ⟨⟨b, off, sp⟩, cap, rfl, h1, h2, h3⟩
      · exact .inl ⟨⟨_, _, rfl⟩, rfl⟩
      · rcases Nat.eq_zero_or_pos x.length with h0 | h0
        · refine .inl ⟨⟨_, _, by rw [h0]⟩, List.eq_nil_of_length_eq_zero h0⟩
        · obtain ⟨c, hc, _⟩ := hA.get (i := 0) (x := x[0]) (by simp [h0])
          obtain ⟨rfl, cs, t, f, k1, _⟩ := h3 0 c hc
          refine .inr ⟨b, off, cap, rfl, .inr (m.glt k1), fun j hj => ?_⟩
          obtain ⟨c, hc, hR⟩ := hA.get (i := j) (x := x[j]) (by simp [hj])
          have := (h3 j c hc).2.get m
          rw [this, show c = .int .i64 x[j] from hR]
          simp [hj]
    refine (callsIn_wide (n := 3)).1 ((AppendSeq_in Fence.wide 3 trivial trivial rfl (by omega) b0 v x (by unfold maxLen; omega) (by omega) w hl hc hI).mono ?_)
    rintro e w' ⟨r, rfl, hrow, hB⟩
    refine ⟨_, rfl, G, [.row r 2 1 x.length (x.map (Value.int .i64))], GLe.refl G, ?_, r, _, rfl, rfl, x.map (Value.int .i64), rfl, by simp, fun i c z h1 h2 => ?_⟩
    · refine m.tail.add hB.os hB.tape hB.output (fun z hz => hB.block z hz) ?_ ?_
      · refine ⟨hrow.1, ?_⟩
        rcases hrow.2 with hn | ⟨g, cap, cur, e1, _, e3⟩
        · exact .inl hn
        · exact .inr ⟨g, cap, cur, e1, Nat.zero_le _, e3⟩
      · intro z hz
        rcases hrow.2 with ⟨rfl, _⟩ | ⟨g, cap, cur, rfl, e2, e3⟩
        · simp [Itm.foot, Value.ownBlock] at hz
        · simp [Itm.foot, Value.ownBlock] at hz; omega
    · rw [List.getElem?_map, h2] at h1
      exact (Option.some.inj h1).symm
  · cases hy
end YteegnmdggpcphaaDoor
end Go.Proofs
