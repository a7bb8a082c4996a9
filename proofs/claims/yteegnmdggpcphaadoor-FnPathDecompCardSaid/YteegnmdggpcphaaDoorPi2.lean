/- Parts of the proof: V1D, HandA, HandB. -/
import Derived.Test.YteegnmdggpcphaaDoorPi1
import Derived.Shelf.Small.Bits
import Derived.Test.YteegnmdggpcphaaDoorProg
import Derived.RangeFuncBox
import Derived.RangeFuncLeaves
import Derived.Shelf.Abstract
import Derived.WalkKit
import Derived.OwnWalkIn
import Derived.TacticsInMore
import Derived.LoopNIn
import Derived.LoopIn
import Derived.Maps.AppendAt
set_option linter.unusedVariables false
set_option linter.unusedSimpArgs false
set_option linter.unusedSectionVars false
namespace Go.Sx

noncomputable def D.laws_big (x0 : (List Int)) : Option (Bool) :=
  some (decide ((4096 : Int) < (x0.length : Int)))

noncomputable def D.laws_roll (x0 : (List Int)) (x1 : Int) : Option (((List Int)) × Int × Int) :=
  (loopF (σ := Int × Int) (ρ := (Int)) (fun (s_29 : Int × Int) => match s_29 with | (x_32, x_33) => cond (decide (x_32 < (x0.length : Int))) ((idx x0 x_32).bind fun e_48 => some (.inl ((IntKind.i64.wrap (x_32 + 1)), (IntKind.u64.wrap ((IntKind.u64.wrap ((IntKind.u64.wrap (x_33 * 1099511628211)) + (IntKind.u64.wrap e_48))) + 3))))) (some (.inr x_33))) (0, (IntKind.u64.wrap ((IntKind.u64.wrap (x1 * 7919)) + (IntKind.u64.wrap (x0.length : Int)))))).bind fun x_45 => some (x0, 0, x_45)

noncomputable def D.laws_dice_below (x0_0 : (List Int)) (x0_1 : Int) (x0_2 : Int) (x1 : Int) : Option (Int × ((List Int)) × Int × Int) :=
  cond (decide (x0_1 < (x0_0.length : Int))) ((idx x0_0 x0_1).bind fun e_5 => cond (x1 == 0) none (some ((Int.tmod (IntKind.i64.wrap ((IntKind.i64.wrap (iand .u64 (ishr .u64 (IntKind.u64.wrap ((IntKind.u64.wrap (x0_2 * 6364136223846793005)) + 1442695040888963407)) 33) 16777215)) + (IntKind.i64.wrap e_5))) x1), x0_0, (IntKind.i64.wrap (x0_1 + 1)), (IntKind.u64.wrap ((IntKind.u64.wrap (x0_2 * 6364136223846793005)) + 1442695040888963407))))) (cond (x1 == 0) none (some ((Int.tmod (IntKind.i64.wrap (iand .u64 (ishr .u64 (IntKind.u64.wrap ((IntKind.u64.wrap (x0_2 * 6364136223846793005)) + 1442695040888963407)) 33) 16777215)) x1), x0_0, x0_1, (IntKind.u64.wrap ((IntKind.u64.wrap (x0_2 * 6364136223846793005)) + 1442695040888963407)))))

noncomputable def D.spec_l1Empty (x0 : Int) : Option (((List (List Int)))) :=
  (loopF (σ := Int × (List (List Int))) (ρ := ((List (List Int)))) (fun (s_56 : Int × (List (List Int))) => match s_56 with | (x_62, l_63) => cond (decide (x_62 < x0)) ((appendD l_63 ([([] : List Int)] : List (List Int))).bind fun l_106 => some (.inl ((IntKind.i64.wrap (x_62 + 1)), l_106))) (some (.inr l_63))) (0, ([] : List (List Int)))).bind fun l_88 => some l_88

noncomputable def D.spec_l1Link (x0_0 : (List (List Int))) (x1 : Int) (x2 : Int) : Option (((List (List Int)))) :=
  (idx x0_0 x1).bind fun e_5 => (D.spec_l1Into e_5 x2).bind fun y_14 => (idx x0_0 x1).bind fun e_23 => (idx (x0_0.set (Int.toNat x1) y_14) x2).bind fun e_31 => (D.spec_l1Into e_31 x1).bind fun y_40 => (idx (x0_0.set (Int.toNat x1) y_14) x2).bind fun e_49 => some ((x0_0.set (Int.toNat x1) y_14).set (Int.toNat x2) y_40)

noncomputable def D.spec_GraphOf (x0 : Int) (x1 : (List (List Int))) : Option (((List (List Int))) × Bool) :=
  (D.spec_l1In x0 1 16).bind fun y_3 => cond ((!y_3) || (decide ((120 : Int) < (x1.length : Int)))) (some (([] : List (List Int)), false)) ((D.spec_l1Empty x0).bind fun y_19 => (loopF (σ := Int × (List (List Int))) (ρ := ((List (List Int))) ⊕ (((List (List Int))) × Bool)) (fun (s_217 : Int × (List (List Int))) => match s_217 with | (x_220, l_221) => cond (decide (x_220 < (x1.length : Int))) ((idx x1 x_220).bind fun e_319 => (cond ((e_319.length : Int) != 2) (some true) ((idx x1 x_220).bind fun e_356 => (D.spec_l1Set e_356 x0).bind fun y_362 => some (!y_362))).bind fun b_354 => cond b_354 (some (.inr (.inr (([] : List (List Int)), false)))) ((idx x1 x_220).bind fun e_375 => (idx e_375 0).bind fun e_381 => (idx x1 x_220).bind fun e_387 => (idx e_387 1).bind fun e_393 => (D.spec_l1Link l_221 e_381 e_393).bind fun y_401 => some (.inl ((IntKind.i64.wrap (x_220 + 1)), y_401)))) (some (.inr (.inl l_221)))) (0, y_19)).bind fun zz => match zz with | .inl l_314 => (some (l_314, true)) | .inr z => (some z))

noncomputable def D.laws_w9Graph (x0_0 : (List Int)) (x0_1 : Int) (x0_2 : Int) (x1 : Int) : Option (((List (List Int))) × ((List Int)) × Int × Int) :=
  (D.laws_dice_below x0_0 x0_1 x0_2 x1).bind fun y_3 => (D.laws_dice_below y_3.2.1 y_3.2.2.1 y_3.2.2.2 3).bind fun y_12 => (loopF (σ := (List (List Int)) × Int × (List Int) × Int × Int) (ρ := ((List (List Int)) × (List Int) × Int × Int)) (fun (s_353 : (List (List Int)) × Int × (List Int) × Int × Int) => match s_353 with | (l_356, x_361, l_362, x_365, x_366) => cond (decide (x_361 < (IntKind.i64.wrap (1 + y_3.1)))) ((loopF (σ := (List (List Int)) × Int × (List Int) × Int × Int) (ρ := ((List (List Int)) × (List Int) × Int × Int)) (fun (s_609 : (List (List Int)) × Int × (List Int) × Int × Int) => match s_609 with | (l_612, x_617, l_618, x_621, x_622) => cond (decide (x_617 < x_361)) ((D.laws_dice_below l_618 x_621 x_622 4).bind fun y_665 => cond (decide (y_665.1 < (IntKind.i64.wrap (1 + y_12.1)))) ((appendD l_612 ([([x_617, x_361] : List Int)] : List (List Int))).bind fun l_686 => some (.inl (l_686, (IntKind.i64.wrap (x_617 + 1)), y_665.2.1, y_665.2.2.1, y_665.2.2.2))) (some (.inl (l_612, (IntKind.i64.wrap (x_617 + 1)), y_665.2.1, y_665.2.2.1, y_665.2.2.2)))) (some (.inr (l_612, l_618, x_621, x_622)))) (l_356, 0, l_362, x_365, x_366)).bind fun (l_653, l_658, x_661, x_662) => some (.inl (l_653, (IntKind.i64.wrap (x_361 + 1)), l_658, x_661, x_662))) (some (.inr (l_356, l_362, x_365, x_366)))) (([] : List (List Int)), 1, y_12.2.1, y_12.2.2.1, y_12.2.2.2)).bind fun (l_525, l_530, x_533, x_534) => (D.spec_GraphOf (IntKind.i64.wrap (1 + y_3.1)) l_525).bind fun y_695 => some (y_695.1, l_530, x_533, x_534)

noncomputable def D.laws_w9Order (x0_0 : (List Int)) (x0_1 : Int) (x0_2 : Int) (x1 : Int) : Option (((List Int)) × ((List Int)) × Int × Int) :=
  (loopF (σ := (List Int) × Int × (List Int) × Int × Int) (ρ := ((List Int) × (List Int) × Int × Int)) (fun (s_115 : (List Int) × Int × (List Int) × Int × Int) => match s_115 with | (l_118, x_123, l_124, x_127, x_128) => cond (decide (x_123 < x1)) ((D.laws_dice_below l_124 x_127 x_128 (IntKind.i64.wrap ((l_118.length : Int) + 1))).bind fun y_190 => (sliceD l_118 0 y_190.1).bind fun l_206 => (appendD ([] : List Int) l_206).bind fun l_210 => (appendD l_210 ([x_123] : List Int)).bind fun l_220 => (sliceD l_118 y_190.1 (l_118.length : Int)).bind fun l_226 => (appendD l_220 l_226).bind fun l_230 => some (.inl (l_230, (IntKind.i64.wrap (x_123 + 1)), y_190.2.1, y_190.2.2.1, y_190.2.2.2))) (some (.inr (l_118, l_124, x_127, x_128)))) (([] : List Int), 0, x0_0, x0_1, x0_2)).bind fun (l_178, l_183, x_186, x_187) => some (l_178, l_183, x_186, x_187)

noncomputable def D.spec_l9Form (x0_0 : (List (List Int))) (x0_1 : (List (List Int))) : Option (Bool) :=
  (D.spec_l1In (x0_0.length : Int) 1 16).bind fun y_3 => cond ((!y_3) || (decide ((16 : Int) < (x0_1.length : Int)))) (some false) ((loopF (σ := Int) (ρ := (Unit) ⊕ (Bool)) (fun (x_127 : Int) => cond (decide (x_127 < (x0_1.length : Int))) ((idx x0_1 x_127).bind fun e_184 => (cond ((e_184.length : Int) != 2) (some true) ((idx x0_1 x_127).bind fun e_221 => (D.spec_l1Set e_221 (x0_0.length : Int)).bind fun y_227 => some (!y_227))).bind fun b_219 => cond b_219 (some (.inr (.inr false))) (some (.inl (IntKind.i64.wrap (x_127 + 1))))) (some (.inr (.inl ())))) 0).bind fun zz => match zz with | .inl _ => (some true) | .inr z => (some z))

noncomputable def D.spec_l1All (x0 : Int) : Option (((List Int))) :=
  (loopF (σ := (List Int) × Int) (ρ := ((List Int))) (fun (s_38 : (List Int) × Int) => match s_38 with | (l_41, x_46) => cond (decide (x_46 < x0)) ((appendD l_41 ([x_46] : List Int)).bind fun l_71 => some (.inl (l_71, (IntKind.i64.wrap (x_46 + 1))))) (some (.inr l_41))) (([] : List Int), 0)).bind fun l_60 => some l_60

noncomputable def D.spec_l9Near (x0_0 : (List (List Int))) (x0_1 : (List (List Int))) (x1 : Int) : Option (((List Int))) :=
  (loopF (σ := (List Int) × Int) (ρ := ((List Int))) (fun (s_221 : (List Int) × Int) => match s_221 with | (l_227, x_230) => cond (decide (x_230 < (x0_1.length : Int))) ((idx x0_1 x_230).bind fun e_336 => (idx e_336 0).bind fun e_342 => ((cond (e_342 == x1) ((idx x0_1 x_230).bind fun e_378 => (idx e_378 1).bind fun e_384 => (D.spec_l1Into l_227 e_384).bind fun y_390 => some y_390) (some l_227) : Option ((List Int)))).bind fun l_373 => (idx x0_1 x_230).bind fun e_399 => (idx e_399 1).bind fun e_405 => cond (e_405 == x1) ((idx x0_1 x_230).bind fun e_412 => (idx e_412 0).bind fun e_418 => (D.spec_l1Into l_373 e_418).bind fun y_424 => some (.inl (y_424, (IntKind.i64.wrap (x_230 + 1))))) (some (.inl (l_373, (IntKind.i64.wrap (x_230 + 1)))))) (some (.inr l_227))) (([] : List Int), 0)).bind fun l_331 => some l_331

noncomputable def D.spec_l9Reached (x0_0 : (List (List Int))) (x0_1 : (List (List Int))) (x1 : (List Int)) : Option (Int) :=
  cond ((x1.length : Int) == 0) (some 0) ((idx x1 0).bind fun e_4 => (loopF (σ := (List Int) × Int) (ρ := ((List Int))) (fun (s_795 : (List Int) × Int) => match s_795 with | (l_798, x_803) => cond (decide (x_803 < (l_798.length : Int))) ((idx l_798 x_803).bind fun e_1198 => (D.spec_l9Near x0_0 x0_1 e_1198).bind fun y_1207 => (loopF (σ := (List Int) × Int) (ρ := ((List Int))) (fun (s_1397 : (List Int) × Int) => match s_1397 with | (l_1400, x_1405) => cond (decide (x_1405 < (y_1207.length : Int))) ((idx y_1207 x_1405).bind fun e_1499 => (D.spec_l1Has x1 e_1499).bind fun y_1505 => (cond y_1505 ((idx y_1207 x_1405).bind fun e_1549 => (D.spec_l1Has l_1400 e_1549).bind fun y_1555 => some (!y_1555)) (some false)).bind fun b_1547 => cond b_1547 ((idx y_1207 x_1405).bind fun e_1566 => (appendD l_1400 ([e_1566] : List Int)).bind fun l_1576 => some (.inl (l_1576, (IntKind.i64.wrap (x_1405 + 1))))) (some (.inl (l_1400, (IntKind.i64.wrap (x_1405 + 1)))))) (some (.inr l_1400))) (l_798, 0)).bind fun l_1492 => some (.inl (l_1492, (IntKind.i64.wrap (x_803 + 1))))) (some (.inr l_798))) (([e_4] : List Int), 0)).bind fun l_1191 => some (l_1191.length : Int))

noncomputable def D.spec_l9Tree (x0_0 : (List (List Int))) (x0_1 : (List (List Int))) : Option (Bool) :=
  (D.spec_l9Form x0_0 x0_1).bind fun y_3 => cond (y_3 && ((x0_1.length : Int) == (IntKind.i64.wrap ((x0_0.length : Int) - 1)))) ((D.spec_l1All (x0_0.length : Int)).bind fun y_12 => (D.spec_l9Reached x0_0 x0_1 y_12).bind fun y_26 => some (y_26 == (x0_0.length : Int))) (some false)

noncomputable def D.spec_l1Edges (x0_0 : (List (List Int))) : Option (((List (List Int)))) :=
  (loopF (σ := (List (List Int)) × Int) (ρ := ((List (List Int)))) (fun (s_482 : (List (List Int)) × Int) => match s_482 with | (l_485, x_490) => (D.spec_l1Size x0_0).bind fun y_731 => cond (decide (x_490 < y_731)) ((loopF (σ := (List (List Int)) × Int) (ρ := ((List (List Int)))) (fun (s_848 : (List (List Int)) × Int) => match s_848 with | (l_851, x_856) => (idx x0_0 x_490).bind fun e_914 => cond (decide (x_856 < (e_914.length : Int))) ((idx x0_0 x_490).bind fun e_921 => (idx e_921 x_856).bind fun e_927 => cond (decide (x_490 < e_927)) ((idx x0_0 x_490).bind fun e_934 => (idx e_934 x_856).bind fun e_940 => (appendD l_851 ([([x_490, e_940] : List Int)] : List (List Int))).bind fun l_957 => some (.inl (l_957, (IntKind.i64.wrap (x_856 + 1))))) (some (.inl (l_851, (IntKind.i64.wrap (x_856 + 1)))))) (some (.inr l_851))) (l_485, 0)).bind fun l_908 => some (.inl (l_908, (IntKind.i64.wrap (x_490 + 1))))) (some (.inr l_485))) (([] : List (List Int)), 0)).bind fun l_725 => some l_725

noncomputable def D.spec_l8Meet (x0 : (List Int)) (x1 : (List Int)) : Option (((List Int))) :=
  (loopF (σ := (List Int) × Int) (ρ := ((List Int))) (fun (s_78 : (List Int) × Int) => match s_78 with | (l_81, x_86) => cond (decide (x_86 < (x0.length : Int))) ((idx x0 x_86).bind fun e_127 => (D.spec_l1Has x1 e_127).bind fun y_133 => cond y_133 ((idx x0 x_86).bind fun e_141 => (appendD l_81 ([e_141] : List Int)).bind fun l_151 => some (.inl (l_151, (IntKind.i64.wrap (x_86 + 1))))) (some (.inl (l_81, (IntKind.i64.wrap (x_86 + 1)))))) (some (.inr l_81))) (([] : List Int), 0)).bind fun l_120 => some l_120

noncomputable def D.spec_l9Part (x0 : (List Int)) (x1 : (List Int)) : Option (Bool) :=
  (D.spec_l8Meet x0 x1).bind fun y_1 => some ((y_1.length : Int) == (x0.length : Int))

noncomputable def D.spec_l9In (x0_0 : (List (List Int))) (x0_1 : (List (List Int))) (x1 : (List Int)) : Option (Bool) :=
  (loopF (σ := Int) (ρ := (Unit) ⊕ (Bool)) (fun (x_42 : Int) => cond (decide (x_42 < (x0_0.length : Int))) ((idx x0_0 x_42).bind fun e_62 => (D.spec_l9Part x1 e_62).bind fun y_68 => cond y_68 (some (.inr (.inr true))) (some (.inl (IntKind.i64.wrap (x_42 + 1))))) (some (.inr (.inl ())))) 0).bind fun zz => match zz with | .inl _ => (some false) | .inr z => (some z)

noncomputable def D.spec_l9With (x0_0 : (List (List Int))) (x0_1 : (List (List Int))) (x1 : Int) : Option (((List Int))) :=
  (loopF (σ := (List Int) × Int) (ρ := ((List Int))) (fun (s_68 : (List Int) × Int) => match s_68 with | (l_71, x_76) => cond (decide (x_76 < (x0_0.length : Int))) ((idx x0_0 x_76).bind fun e_111 => (D.spec_l1Has e_111 x1).bind fun y_117 => cond y_117 ((appendD l_71 ([x_76] : List Int)).bind fun l_129 => some (.inl (l_129, (IntKind.i64.wrap (x_76 + 1))))) (some (.inl (l_71, (IntKind.i64.wrap (x_76 + 1)))))) (some (.inr l_71))) (([] : List Int), 0)).bind fun l_104 => some l_104

noncomputable def D.spec_DecompOk (x0_0 : (List (List Int))) (x1_0 : (List (List Int))) (x1_1 : (List (List Int))) : Option (Bool) :=
  (D.spec_GraphOk x0_0).bind fun y_5 => (cond (!y_5) (some true) ((D.spec_l9Tree x1_0 x1_1).bind fun y_31 => some (!y_31))).bind fun b_29 => cond b_29 (some false) ((loopF (σ := Int) (ρ := (Unit) ⊕ (Bool)) (fun (x_80 : Int) => cond (decide (x_80 < (x1_0.length : Int))) ((idx x1_0 x_80).bind fun e_101 => (D.spec_l1Size x0_0).bind fun y_107 => (D.spec_l1Set e_101 y_107).bind fun y_110 => cond (!y_110) (some (.inr (.inr false))) (some (.inl (IntKind.i64.wrap (x_80 + 1))))) (some (.inr (.inl ())))) 0).bind fun zz => match zz with | .inl _ => ((D.spec_l1Edges x0_0).bind fun y_116 => (loopF (σ := Int) (ρ := (Unit) ⊕ (Bool)) (fun (x_162 : Int) => cond (decide (x_162 < (y_116.length : Int))) ((idx y_116 x_162).bind fun e_180 => (D.spec_l9In x1_0 x1_1 e_180).bind fun y_186 => cond (!y_186) (some (.inr (.inr false))) (some (.inl (IntKind.i64.wrap (x_162 + 1))))) (some (.inr (.inl ())))) 0).bind fun zz => match zz with | .inl _ => ((loopF (σ := Int) (ρ := (Unit) ⊕ (Bool)) (fun (x_311 : Int) => (D.spec_l1Size x0_0).bind fun y_370 => cond (decide (x_311 < y_370)) ((D.spec_l9With x1_0 x1_1 x_311).bind fun y_378 => (cond ((y_378.length : Int) == 0) (some true) ((D.spec_l9Reached x1_0 x1_1 y_378).bind fun y_414 => some (y_414 != (y_378.length : Int)))).bind fun b_412 => cond b_412 (some (.inr (.inr false))) (some (.inl (IntKind.i64.wrap (x_311 + 1))))) (some (.inr (.inl ())))) 0).bind fun zz => match zz with | .inl _ => (some true) | .inr z => (some z)) | .inr z => (some z)) | .inr z => (some z))

noncomputable def D.spec_l1Max (x0 : Int) (x1 : Int) : Option (Int) :=
  cond (decide (x1 < x0)) (some x0) (some x1)

noncomputable def D.spec_WidthOf (x0_0 : (List (List Int))) (x0_1 : (List (List Int))) : Option (Int) :=
  (loopF (σ := Int × Int) (ρ := (Int)) (fun (s_44 : Int × Int) => match s_44 with | (x_47, x_48) => cond ((decide (x_48 < (x0_0.length : Int))) && (decide ((x0_0.length : Int) ≤ 16))) ((idx x0_0 x_48).bind fun e_74 => (D.spec_l1Max x_47 (IntKind.i64.wrap ((e_74.length : Int) - 1))).bind fun y_80 => some (.inl (y_80, (IntKind.i64.wrap (x_48 + 1))))) (some (.inr x_47))) ((-1), 0)).bind fun x_68 => some x_68

noncomputable def D.spec_Separation (x0_0 : (List (List Int))) (x1 : (List Int)) : Option (Int) :=
  (D.spec_GraphOk x0_0).bind fun y_3 => (cond (!y_3) (some true) ((D.spec_OrderOk x0_0 x1).bind fun y_29 => some (!y_29))).bind fun b_27 => cond b_27 (some (-1)) ((loopF (σ := Int × Int) (ρ := (Int)) (fun (s_88 : Int × Int) => match s_88 with | (x_91, x_92) => cond (decide (x_92 ≤ (x1.length : Int))) ((sliceD x1 0 x_92).bind fun l_120 => (D.spec_l12Open x0_0 l_120).bind fun y_127 => (D.spec_l1Max x_91 (y_127.length : Int)).bind fun y_136 => some (.inl (y_136, (IntKind.i64.wrap (x_92 + 1))))) (some (.inr x_91))) (0, 0)).bind fun x_117 => some x_117)

noncomputable def D.laws_FnPathDecomp (x0 : (List Int)) : Option (Bool) :=
  (D.laws_big x0).bind fun y_1 => cond y_1 (some true) ((D.laws_roll x0 1003).bind fun y_9 => (D.laws_w9Graph y_9.1 y_9.2.1 y_9.2.2 7).bind fun y_20 => (D.laws_w9Order y_20.2.1 y_20.2.2.1 y_20.2.2.2 (y_20.1.length : Int)).bind fun y_35 => (D.impl_PathDecomp y_20.1 y_35.1).bind fun y_48 => (cond y_48.2.2 ((D.spec_DecompOk y_20.1 y_48.1 y_48.2.1).bind fun y_87 => some y_87) (some false)).bind fun b_85 => (cond b_85 ((D.spec_WidthOf y_48.1 y_48.2.1).bind fun y_121 => (D.spec_Separation y_20.1 y_35.1).bind fun y_130 => some (y_121 == y_130)) (some false)).bind fun b_119 => some b_119)
end Go.Sx

namespace Go.Proofs
open Go.Shelf
def Tryd.lays125_ren : Go.Shelf.Ren := ⟨fun | 125 => 194 | 128 => 264 | 129 => 265 | n => n, fun | 46 => 96 | 3 => 3 | 51 => 105 | 53 => 49 | 4 => 4 | 5 => 5 | 9 => 9 | n => n, fun | n => n⟩
theorem Tryd.lays125 : Go.Proofs.Lays.n125 Tryd.prog Tryd.lays125_ren := {
  mixed := by kernel_rfl
  f125 := Tryd.func194.trans (congrArg some (by kernel_rfl))
  f128 := Tryd.func264.trans (congrArg some (by kernel_rfl))
  f129 := Tryd.func265.trans (congrArg some (by kernel_rfl))
  t3 := Tryd.underlying3
  a3 := Tryd.isAgg3
  z3 := Tryd.sizeOf3
  v3 := Tryd.zeroValue3
  t4 := Tryd.underlying4
  a4 := Tryd.isAgg4
  z4 := Tryd.sizeOf4
  v4 := Tryd.zeroValue4
  t5 := Tryd.underlying5
  a5 := Tryd.isAgg5
  z5 := Tryd.sizeOf5
  v5 := Tryd.zeroValue5
  t9 := Tryd.underlying9
  a9 := Tryd.isAgg9
  z9 := Tryd.sizeOf9
  v9 := Tryd.zeroValue9
  t46 := Tryd.underlying96
  a46 := Tryd.isAgg96
  z46 := Tryd.sizeOf96
  v46 := Tryd.zeroValue96
  t51 := Tryd.underlying105
  a51 := Tryd.isAgg105
  z51 := Tryd.sizeOf105
  v51 := Tryd.zeroValue105
  t53 := Tryd.underlying49
  a53 := Tryd.isAgg49
  z53 := Tryd.sizeOf49
  v53 := Tryd.zeroValue49 }
theorem Tryd.bits_Len (x : Int) (w : World) (h0 : 0 ≤ x) (h1 : x ≤ 18446744073709551615) :
    Calls Tryd.prog 194 #[.int .u64 x] w fun e w' => e = .returned (.int .i64 (Lib.bitLen x.toNat)) ∧ w' = w := Any.bits_Len Tryd.lays125 x w h0 h1
end Go.Proofs
namespace Go.Proofs.YteegnmdggpcphaaDoor
open Go Go.Sx
theorem Wk.math_bits_Len {W w : World} {G : GH} {H : List Itm} {x0 : Int} (m : Mem W G w H) {y : Int} (hd : D.math_bits_Len x0 = some y) :
    Calls Tryd.prog 194 #[(.int .u64 x0)] w (Res W G H (fun _ Ho v => Ho = [] ∧ v = (.int .i64 y))) := by
  unfold D.math_bits_Len at hd
  split at hd
  · rename_i h
    obtain rfl := Option.some.inj hd
    exact (Tryd.bits_Len x0 w h.1 h.2).mono (fun e w' ⟨he, hw⟩ => by subst hw; exact ⟨_, he, G, [], GLe.refl G, m, rfl, rfl⟩)
  · cases hd
end Go.Proofs.YteegnmdggpcphaaDoor

namespace Go.Proofs
open Go.RowKit Go.Shelf
attribute [local go_sem] Oper.semAt_some
namespace YteegnmdggpcphaaDoor

def upto {α : Type} (f : Nat → α) (k : Nat) : List α := (List.range k).map f
theorem upto_succ {α : Type} (f : Nat → α) (k : Nat) : upto f (k + 1) = upto f k ++ [f k] := by simp [upto, List.range_succ]
theorem upto_length {α : Type} (f : Nat → α) (k : Nat) : (upto f k).length = k := by simp [upto]
theorem upto_all (zs : List Int) : upto (fun j => zs[j]?.getD 0) zs.length = zs := by
  apply List.ext_getElem
  · simp [upto]
  · intro i h1 h2
    simp [upto, h2]
theorem upto_take (zs : List Int) {k : Nat} (hk : k ≤ zs.length) : upto (fun j => zs[j]?.getD 0) k = zs.take k := by
  apply List.ext_getElem
  · simp [upto, hk]
  · intro i h1 h2
    have : i < zs.length := by simp [upto] at h1; omega
    simp [upto, this]

set_option maxRecDepth 100000 in
set_option maxHeartbeats 2000000 in
theorem values1_in (F : Fence) (n : Nat) (h7 : F.fn 219) (hro : F.round = none) (hn : 1 ≤ n) (l Bs n₀ b off len cap : Nat) (zs : List Int) (hreach : len * 8 ≤ 140737488351232) (hb : len = 0 ∨ b < n₀) (J Jx : List Int → World → Prop)
    (hY : ∀ pre x W, J pre W → pre.length < len → YieldAt F (n - 1) Tryd.prog l #[.int .i64 x] W fun e W' =>
      (e = .returned (.bool true) ∧ J (pre ++ [x]) W' ∧ Below n₀ W W') ∨ (e = .returned (.bool false) ∧ Jx (pre ++ [x]) W'))
    (W : World) (hBs : W.cell? ⟨Bs, 0, none⟩ = some (.slice (some ⟨b, off, none⟩) len cap)) (hc : ∀ j, j < len → W.cell? ⟨b, off + j, none⟩ = some (.int .i64 (zs[j]?.getD 0))) (h0 : J [] W) :
    CallsIn F n Tryd.prog 219 #[.func (.yield l) #[] #[], .pointer (some ⟨Bs, 0, none⟩)] W fun e W' => (∃ v, e = .returned v) ∧
      ((∃ ys, ys = upto (fun j => zs[j]?.getD 0) len ∧ J ys W') ∨ (∃ pre, (∃ k, k ≤ len ∧ pre = upto (fun j => zs[j]?.getD 0) k) ∧ Jx pre W')) := by
  refine callsIn_of_wp Tryd.func219 rfl h7 ?_ hro
  simp only [Tryd.ntmps219, List.size_toArray, List.length_cons, List.length_nil, Nat.reduceAdd, Nat.reduceSub, Array.replicate_succ, Array.replicate_zero, List.push_toArray, List.append_toArray, List.nil_append, List.cons_append]
  gi_wp2
  gi_loopw [7] (fun i wr => ∃ k : Nat, k ≤ len ∧ i = .int .i64 k ∧ J (upto (fun j => zs[j]?.getD 0) k) wr ∧ Below n₀ W wr)
    (fun i _ => len - (intOf i).toNat)
  case atStart => exact ⟨0, Nat.zero_le _, rfl, h0, Below.refl _ _⟩
  case round =>
    obtain ⟨k, hk, rfl, hJs, hnx⟩ := hrel
    have hcx : k < len → wr.cell? ⟨b, off + k, none⟩ = some (.int .i64 (zs[k]?.getD 0)) := fun h => (hnx.cell (p := ⟨b, off + k, none⟩) (hb.resolve_left (by omega))).trans (hc k h)
    by_cases hlt : k < len
    · obtain ⟨fn, tmps, assign, body, hy, hR⟩ := hY _ (zs[k]?.getD 0) wr hJs (by rw [upto_length]; exact hlt)
      have hcx' := hcx hlt
      gi_wp2
      refine hR.mono ?_
      rintro e W3 (⟨rfl, hJ3, hk3⟩ | ⟨rfl, hJx3⟩)
      · gi_wp2
        go_roundw
        case rel => exact ⟨k + 1, by omega, by simp, by rw [upto_succ]; exact hJ3, hnx.trans hk3⟩
        case measure => simp [intOf]; omega
      · gi_wp2
        refine bodyPost_ret (results_none rfl _ _ _) rfl ?_
        exact ⟨⟨_, rfl⟩, .inr ⟨_, ⟨k + 1, by omega, (upto_succ _ _).symm⟩, hJx3⟩⟩
    · obtain rfl : k = len := by omega
      gi_wp2
      go_end0
      exact ⟨⟨_, rfl⟩, .inl ⟨_, rfl, hJs⟩⟩

def Ints (n₀ : Nat) (W : World) (sv : Value) (zs : List Int) : Prop :=
  ((∃ a c, sv = .slice a 0 c) ∧ zs = []) ∨ ∃ b off cap, sv = .slice (some ⟨b, off, none⟩) zs.length cap ∧ (zs.length = 0 ∨ b < n₀) ∧ ∀ j, j < zs.length → W.cell? ⟨b, off + j, none⟩ = some (.int .i64 (zs[j]?.getD 0))
theorem Ints.below {n₀ : Nat} {A B : World} (h : Below n₀ A B) {sv : Value} {zs : List Int} : Ints n₀ A sv zs → Ints n₀ B sv zs
  | .inl e => .inl e
  | .inr ⟨b, off, cap, e, hb, hc⟩ => .inr ⟨b, off, cap, e, hb, fun j hj => (h.cell (p := ⟨b, off + j, none⟩) (hb.resolve_left (by omega))).trans (hc j hj)⟩

set_option maxRecDepth 100000 in
set_option maxHeartbeats 1000000 in
theorem values1_nil_in (F : Fence) (n : Nat) (h7 : F.fn 219) (hro : F.round = none) (l Bs : Nat) (J : List Int → World → Prop) (W : World) (a : Option Addr) (c : Nat) (hBs : W.cell? ⟨Bs, 0, none⟩ = some (.slice a 0 c)) (h0 : J [] W) :
    CallsIn F n Tryd.prog 219 #[.func (.yield l) #[] #[], .pointer (some ⟨Bs, 0, none⟩)] W fun e W' => (∃ v, e = .returned v) ∧ J [] W' := by
  refine callsIn_of_wp Tryd.func219 rfl h7 ?_ hro
  simp only [Tryd.ntmps219, List.size_toArray, List.length_cons, List.length_nil, Nat.reduceAdd, Nat.reduceSub, Array.replicate_succ, Array.replicate_zero, List.push_toArray, List.append_toArray, List.nil_append, List.cons_append]
  gi_wp2
  gi_loopw [7] (fun i wr => i = .int .i64 0 ∧ J [] wr) (fun _ _ => 0)
  case atStart => exact ⟨rfl, h0⟩
  case round =>
    obtain ⟨rfl, hJs⟩ := hrel
    gi_wp2
    go_end0
    exact ⟨⟨_, rfl⟩, hJs⟩

theorem values_stops (F : Fence) (n : Nat) (h7 : F.fn 219) (hro : F.round = none) (hn : 1 ≤ n) (Bs n₀ : Nat) (sv : Value) (zs : List Int) (hreach : zs.length * 8 ≤ 140737488351232) (w : World) (hBs : Bs < w.heap.size) (hn₀ : n₀ ≤ w.heap.size)
    (hc : w.cell? ⟨Bs, 0, none⟩ = some sv) (hI : Ints n₀ w sv zs) :
    SeqStopsK F n Tryd.prog 219 #[.pointer (some ⟨Bs, 0, none⟩)] (fun x : Int => #[Value.int .i64 x]) (Below n₀) (fun ys => ys = zs) (fun pre => pre <+: zs) zs.length w := fun l J Jx W hW _ _ hY h0 => by
  have hc' := (hW.cell (p := ⟨Bs, 0, none⟩) hBs).trans hc
  rcases hI.below (hW.mono hn₀) with ⟨⟨a, c, rfl⟩, rfl⟩ | ⟨b, off, cap, rfl, hb, hcs⟩
  · exact (values1_nil_in F n h7 hro l Bs J W a c hc' h0).mono fun e W' ⟨he, hj⟩ => ⟨he, .inl ⟨_, rfl, hj⟩⟩
  · refine (values1_in F n h7 hro hn l Bs n₀ b off zs.length cap zs hreach hb J Jx hY W hc' hcs h0).mono ?_
    rintro e W' ⟨he, ⟨ys, rfl, hj⟩ | ⟨pre, ⟨k, hk, rfl⟩, hj⟩⟩
    · exact ⟨he, .inl ⟨_, upto_all zs, hj⟩⟩
    · exact ⟨he, .inr ⟨_, by rw [upto_take zs hk]; exact List.take_prefix _ _, hj⟩⟩

theorem info2 : (Tryd.prog.info? 2).map (fun i => (i.zero, i.size, i.bytes)) = some (some (.int .i64 0), 1, 8) := by kernel_rfl

set_option maxRecDepth 100000 in
set_option maxHeartbeats 4000000 in
theorem AppendSeq_in (F : Fence) (n : Nat) (h3 : F.fn 279) (h5 : F.fn 219) (hro : F.round = none) (hn : 3 ≤ n) (Bs : Nat) (sv : Value) (xs : List Int) (hlen : xs.length ≤ maxLen) (hbytes : xs.length * 8 ≤ 140737488351232) (w : World) (hBs : Bs < w.heap.size) (hc : w.cell? ⟨Bs, 0, none⟩ = some sv) (hL : Ints w.heap.size w sv xs) :
    CallsIn F n Tryd.prog 279 #[.slice none 0 0, .func (.func 219) #[] #[.pointer (some ⟨Bs, 0, none⟩)]] w fun e W' => ∃ v, e = .returned v ∧ W'.ownsRow w.heap.size 2 1 v xs.length (xs.map (Value.int .i64)) ∧ Below w.heap.size w W' := by
  have h1 : 1 ≤ n := by omega
  obtain ⟨i0, hi, hz0, hz1, hz2⟩ := info_parts info2
  refine callsIn_of_wp_marks Tryd.func279 rfl h3 ?_ hro
  simp only [Tryd.ntmps279, List.size_toArray, List.length_cons, List.length_nil, Nat.reduceAdd, Nat.reduceSub, Array.replicate_succ, Array.replicate_zero, List.push_toArray, List.append_toArray, List.nil_append, List.cons_append]
  gi_wp2
  have bO := Boxed.new w 25 (.slice none 0 0)
  have hB0 : Below w.heap.size w (w.alloc (.cells #[.slice none 0 0] 25)) := (Below.refl _ w).alloc (Nat.le_refl _) _
  refine wpIn_rangeFunc_ownG hro h1 (gf := 219) (lb := #[.pointer (some ⟨Bs, 0, none⟩)]) rfl h5 (enters_of Tryd.func219 (by kernel_rfl) rfl)
    (values_stops F (n - 1) h5 hro (by omega) Bs w.heap.size sv xs hbytes _ (by simp; omega) (by simp) ((hB0.cell (p := ⟨Bs, 0, none⟩) hBs).trans hc) (hL.below hB0)) belowK_t (belowK_b (by simp)) (Below.refl _ _) (fun _ => rfl)
    (fun pre W => (∃ v, Boxed W w.heap.size 25 v ∧ W.ownsRow w.heap.size 2 1 v pre.length (pre.map (Value.int .i64)) ∧ (v = .slice none 0 0 ↔ pre = [])) ∧ Below w.heap.size w W)
    (fun _ _ _ => False)
    (OwnFrom.and (Own.from (holdsRow_own w.heap.size w.heap.size 25 2 1 (fun pre => pre.length) (fun pre => pre.map (Value.int .i64)) (fun pre v => v = .slice none 0 0 ↔ pre = [])) _) (ownFrom_below (Nat.le_refl _) (by simp)))
    (fun _ _ _ _ _ hs _ _ => hs)
    ⟨⟨_, bO, World.ownsRow_nil _ _ _ _, by simp⟩, hB0⟩
    (fun x => { tmps := #[.slice none 0 0, .func (.func 219) #[] #[.pointer (some ⟨Bs, 0, none⟩)], .pointer (some ⟨w.heap.size, 0, none⟩), undef, .slice none 0 0, .int .i64 x, .func (.func 219) #[] #[.pointer (some ⟨Bs, 0, none⟩)], .int .i64 x, undef, undef, undef, undef, undef], defers := [] }) ?assign ?body ?done ?stop
  case assign =>
    intro l x W K hK
    gi_wp2
    exact hK
  case body =>
    rintro l pre x W ⟨⟨v, hv, hrow, hnil⟩, hB⟩ hlt
    have hc := hv.cell
    gi_wp2_with (gi_at_builtin; refine wpListIn_append_own _ rfl _ _ 25 rfl w.heap.size 2 i0 (.int .i64 0) 1 8 Tryd.underlying25 hi hz0 hz1 hz2 rfl (by decide) _ _ _ rfl (hrow.alloc _) ⟨W.heap.size, 0, none⟩ 1 1 [.int .i64 x] rfl rfl (cell_one_new _ _ _) (by simp [Value.oneCell']) (by omega) (by omega) (by have := hB.size; simp; omega) ?_; intro v' w1 hown' hgrow _; obtain ⟨g', cap', rfl⟩ := ownsRow_succ hown'; obtain ⟨hv1, hv2, hr2, hk2, hb2⟩ := hv.appended (by decide) hrow hB.size (Nat.le_refl _) hown' hgrow; have hc1 := hv1.cell; have hf1 := hv1.frozen)
    exact ⟨hk2.from _, hb2, ⟨_, hv2, by simpa using hr2, by simp⟩, hB.trans hb2⟩
  case done =>
    rintro D ys W hD rfl ⟨⟨v, hv, hrow, hnil⟩, hB⟩ hK
    have hc := hv.cell
    gi_wp2
    refine ⟨by simp, .inl ⟨_, _, rfl, run_takeDeferred hK, ?_⟩⟩
    exact ⟨_, results_tmp rfl _ _ _, v, rfl, ownsRow_putObj hrow _ hK rfl, hB.trans (belowK_b (w := w) (Nat.le_refl _) W D _ _ (by simp at hD; omega) hK rfl rfl)⟩
  case stop =>
    rintro D c pre W _ _ h _
    exact h.elim

set_option maxHeartbeats 1000000 in
theorem values_in (F : Fence) (n : Nat) (h5 : F.fn 141) (hro : F.round = none) (a : Option Addr) (len cap : Nat) (w : World) :
    CallsIn F n Tryd.prog 141 #[.slice a len cap] w fun e w' => e = .returned (.func (.func 219) #[] #[.pointer (some ⟨w.heap.size, 0, none⟩)]) ∧ w' = w.alloc (.cells #[.slice a len cap] 25) := by
  refine callsIn_of_wp Tryd.func141 rfl h5 ?_ hro
  simp only [Tryd.ntmps141, List.size_toArray, List.length_cons, List.length_nil, Nat.reduceAdd, Nat.reduceSub, Array.replicate_succ, Array.replicate_zero, List.push_toArray, List.append_toArray, List.nil_append, List.cons_append]
  gi_wp2
  go_ret
  exact ⟨rfl, rfl⟩

open Go.Sx in
theorem Wk.slices_Values_int64_int64 {W w : World} {G : GH} {H : List Itm} {v : Value} {x : List Int} (m : Mem W G w H) (h : RSl (RI .i64) G v x) :
    Calls Tryd.prog 141 #[v] w (Res W G H (fun _ Ho r => ∃ b, Ho = [Itm.box b 25 [v]] ∧ .func (.func 219) #[] #[.pointer (some ⟨b, 0, none⟩)] = r)) := by
  obtain ⟨a, c, rfl, _, _⟩ := h.len
  refine (callsIn_wide (n := 3)).1 ((values_in Fence.wide 3 trivial rfl a x.length c w).mono ?_)
  rintro e w' ⟨rfl, rfl⟩
  exact ⟨_, rfl, G, [.box w.heap.size 25 [.slice a x.length c]], GLe.refl G, m.alloc 25 [.slice a x.length c], _, rfl, rfl⟩

open Go.Sx in
theorem Wk.slices_AppendSeq_int64_int64 {W w : World} {G : GH} {H : List Itm} {b0 : Nat} {v : Value} {x y : List Int} (m : Mem W G w (Itm.box b0 25 [v] :: H)) (h : RSl (RI .i64) G v x) (hy : D.slices_AppendSeq_int64_int64 x = some y) :
    Calls Tryd.prog 279 #[.slice none 0 0, .func (.func 219) #[] #[.pointer (some ⟨b0, 0, none⟩)]] w (Res W G H (fun G' Ho r => ∃ r' it, Ho = [it] ∧ r' = r ∧ Go.Sx.Ow (RI .i64) 2 G' it r' y)) := by
  unfold D.slices_AppendSeq_int64_int64 at hy
  split at hy
  · rename_i hx
    obtain rfl := Option.some.inj hy
    have hb0 : w.heap[b0]? = some (.cells #[v] 25 (0, 0)) := m.items 0 (.box b0 25 [v]) rfl
    have hc : w.cell? ⟨b0, 0, none⟩ = some v := by simp [World.cell?, hb0]
    have hl : b0 < w.heap.size := (Array.getElem?_eq_some_iff.1 hb0).1
    have hI : Ints w.heap.size w v x := by
      obtain ⟨vs, hA, h⟩ := h
      rcases h with ⟨rfl, rfl⟩ | ⟨⟨b, off, sp⟩, cap, rfl, h1, h2, h3⟩
      · exact .inl ⟨⟨_, _, rfl⟩, rfl⟩
      · rcases Nat.eq_zero_or_pos x.length with h0 | h0
        · refine .inl ⟨⟨_, _, by rw [h0]⟩, List.eq_nil_of_length_eq_zero h0⟩
        · obtain ⟨c, hc, _⟩ := hA.get (i := 0) (x := x[0]) (by simp [h0])
          obtain ⟨rfl, cs, t, f, k1, _⟩ := h3 0 c hc
          refine .inr ⟨b, off, cap, rfl, .inr (m.glt k1), fun j hj => ?_⟩
          obtain ⟨c, hc, hR⟩ := hA.get (i := j) (x := x[j]) (by simp [hj])
          have := (h3 j c hc).2.get m
          rw [this, show c = .int .i64 x[j] from hR]
          simp [hj]
    refine (callsIn_wide (n := 3)).1 ((AppendSeq_in Fence.wide 3 trivial trivial rfl (by omega) b0 v x (by unfold maxLen; omega) (by omega) w hl hc hI).mono ?_)
    rintro e w' ⟨r, rfl, hrow, hB⟩
    refine ⟨_, rfl, G, [.row r 2 1 x.length (x.map (Value.int .i64))], GLe.refl G, ?_, r, _, rfl, rfl, x.map (Value.int .i64), rfl, by simp, fun i c z h1 h2 => ?_⟩
    · refine m.tail.add hB.os hB.tape hB.output (fun z hz => hB.block z hz) ?_ ?_
      · refine ⟨hrow.1, ?_⟩
        rcases hrow.2 with hn | ⟨g, cap, cur, e1, _, e3⟩
        · exact .inl hn
        · exact .inr ⟨g, cap, cur, e1, Nat.zero_le _, e3⟩
      · intro z hz
        rcases hrow.2 with ⟨rfl, _⟩ | ⟨g, cap, cur, rfl, e2, e3⟩
        · simp [Itm.foot, Value.ownBlock] at hz
        · simp [Itm.foot, Value.ownBlock] at hz; omega
    · rw [List.getElem?_map, h2] at h1
      exact (Option.some.inj h1).symm
  · cases hy
end YteegnmdggpcphaaDoor
end Go.Proofs
