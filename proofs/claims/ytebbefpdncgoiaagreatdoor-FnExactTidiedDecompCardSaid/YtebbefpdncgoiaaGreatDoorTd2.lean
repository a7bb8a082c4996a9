/- Parts of the proof: DBase, DE1, DE2, DC1, DC2, DC3, DC4, SxH, SxP, SxG, Sr, DF1, SxN, SxDel, DF2, MAD, MBD, MCD, MDD, MED, MFD, MHandA, MHandB, Qa, S1D, Ga, Gb, Gc, Gd, Ge, Pa, Pb. -/
import Derived.Test.YtebbefpdncgoiaaGreatDoorTd1
import Derived.Shelf.Small.Bits
import Derived.Test.YtebbefpdncgoiaaGreatDoorProg
import Derived.RangeFuncBox
import Derived.RangeFuncLeaves
import Derived.Shelf.Abstract
import Derived.WalkKit
import Derived.OwnWalkIn
import Derived.TacticsInMore
import Derived.LoopNIn
import Derived.LoopIn
import Derived.Maps.AppendAt
set_option linter.unusedVariables false
set_option linter.unusedSimpArgs false
set_option linter.unusedSectionVars false
namespace Go.Sx

noncomputable def D.cmp_isNaN_int64 (x0 : Int) : Option (Bool) :=
  some (x0 != x0)

noncomputable def D.cmp_Less_int64 (x0 : Int) (x1 : Int) : Option (Bool) :=
  (D.cmp_isNaN_int64 x0).bind fun y_1 => (cond y_1 ((D.cmp_isNaN_int64 x1).bind fun y_27 => some (!y_27)) (some false)).bind fun b_25 => some (b_25 || (decide (x0 < x1)))

noncomputable def D.slices_order2Ordered_int64 (x0 : (List Int)) (x1 : Int) (x2 : Int) (x3_0 : Int) : Option (Int × Int × ((List Int)) × Int) :=
  (idx x0 x2).bind fun e_1 => (idx x0 x1).bind fun e_7 => (D.cmp_Less_int64 e_1 e_7).bind fun y_13 => cond y_13 (some (x2, x1, x0, (IntKind.i64.wrap (x3_0 + 1)))) (some (x1, x2, x0, x3_0))

noncomputable def D.slices_medianOrdered_int64 (x0 : (List Int)) (x1 : Int) (x2 : Int) (x3 : Int) (x4_0 : Int) : Option (Int × ((List Int)) × Int) :=
  (D.slices_order2Ordered_int64 x0 x1 x2 x4_0).bind fun y_1 => (D.slices_order2Ordered_int64 y_1.2.2.1 y_1.2.1 x3 y_1.2.2.2).bind fun y_10 => (D.slices_order2Ordered_int64 y_10.2.2.1 y_1.1 y_10.1 y_10.2.2.2).bind fun y_19 => some (y_19.2.1, y_19.2.2.1, y_19.2.2.2)

noncomputable def D.slices_medianAdjacentOrdered_int64 (x0 : (List Int)) (x1 : Int) (x2_0 : Int) : Option (Int × ((List Int)) × Int) :=
  (D.slices_medianOrdered_int64 x0 (IntKind.i64.wrap (x1 - 1)) x1 (IntKind.i64.wrap (x1 + 1)) x2_0).bind fun y_1 => some (y_1.1, y_1.2.1, y_1.2.2)

noncomputable def D.slices_siftDownOrdered_int64 (x0 : (List Int)) (x1 : Int) (x2 : Int) (x3 : Int) : Option (((List Int))) :=
  (loopF (σ := (List Int) × Int) (ρ := ((List Int)) ⊕ (((List Int)))) (fun (s_186 : (List Int) × Int) => match s_186 with | (l_189, x_192) => cond (decide (x2 ≤ (IntKind.i64.wrap ((IntKind.i64.wrap (2 * x_192)) + 1)))) (some (.inr (.inl l_189))) ((cond (decide ((IntKind.i64.wrap ((IntKind.i64.wrap ((IntKind.i64.wrap (2 * x_192)) + 1)) + 1)) < x2)) ((idx l_189 (IntKind.i64.wrap (x3 + (IntKind.i64.wrap ((IntKind.i64.wrap (2 * x_192)) + 1))))).bind fun e_307 => (idx l_189 (IntKind.i64.wrap ((IntKind.i64.wrap (x3 + (IntKind.i64.wrap ((IntKind.i64.wrap (2 * x_192)) + 1)))) + 1))).bind fun e_313 => (D.cmp_Less_int64 e_307 e_313).bind fun y_319 => some y_319) (some false)).bind fun b_305 => ((cond b_305 (some (IntKind.i64.wrap ((IntKind.i64.wrap ((IntKind.i64.wrap (2 * x_192)) + 1)) + 1))) (some (IntKind.i64.wrap ((IntKind.i64.wrap (2 * x_192)) + 1))) : Option (Int))).bind fun x_328 => (idx l_189 (IntKind.i64.wrap (x3 + x_192))).bind fun e_331 => (idx l_189 (IntKind.i64.wrap (x3 + x_328))).bind fun e_337 => (D.cmp_Less_int64 e_331 e_337).bind fun y_343 => cond (!y_343) (some (.inr (.inr l_189))) ((idx l_189 (IntKind.i64.wrap (x3 + x_328))).bind fun e_349 => (idx l_189 (IntKind.i64.wrap (x3 + x_192))).bind fun e_355 => (idx l_189 (IntKind.i64.wrap (x3 + x_192))).bind fun e_361 => (idx (l_189.set (Int.toNat (IntKind.i64.wrap (x3 + x_192))) e_349) (IntKind.i64.wrap (x3 + x_328))).bind fun e_369 => some (.inl (((l_189.set (Int.toNat (IntKind.i64.wrap (x3 + x_192))) e_349).set (Int.toNat (IntKind.i64.wrap (x3 + x_328))) e_355), x_328))))) (x0, x1)).bind fun zz => match zz with | .inl l_283 => (some l_283) | .inr z => (some z)

noncomputable def D.slices_heapSortOrdered_int64 (x0 : (List Int)) (x1 : Int) (x2 : Int) : Option (((List Int))) :=
  (loopF (σ := (List Int) × Int) (ρ := ((List Int))) (fun (s_30 : (List Int) × Int) => match s_30 with | (l_33, x_36) => cond (decide ((0 : Int) ≤ x_36)) ((D.slices_siftDownOrdered_int64 l_33 x_36 (IntKind.i64.wrap (x2 - x1)) x1).bind fun y_54 => some (.inl (y_54, (IntKind.i64.wrap (x_36 - 1))))) (some (.inr l_33))) (x0, (IntKind.i64.wrap (Int.tdiv (IntKind.i64.wrap ((IntKind.i64.wrap (x2 - x1)) - 1)) 2)))).bind fun l_49 => (loopF (σ := (List Int) × Int) (ρ := ((List Int))) (fun (s_144 : (List Int) × Int) => match s_144 with | (l_147, x_150) => cond (decide ((0 : Int) ≤ x_150)) ((idx l_147 (IntKind.i64.wrap (x1 + x_150))).bind fun e_194 => (idx l_147 x1).bind fun e_200 => (idx l_147 x1).bind fun e_206 => (idx (l_147.set (Int.toNat x1) e_194) (IntKind.i64.wrap (x1 + x_150))).bind fun e_214 => (D.slices_siftDownOrdered_int64 ((l_147.set (Int.toNat x1) e_194).set (Int.toNat (IntKind.i64.wrap (x1 + x_150))) e_200) 0 x_150 x1).bind fun y_220 => some (.inl (y_220, (IntKind.i64.wrap (x_150 - 1))))) (some (.inr l_147))) (l_49, (IntKind.i64.wrap ((IntKind.i64.wrap (x2 - x1)) - 1)))).bind fun l_189 => some l_189

noncomputable def D.slices_insertionSortOrdered_int64 (x0 : (List Int)) (x1 : Int) (x2 : Int) : Option (((List Int))) :=
  (loopF (σ := (List Int) × Int) (ρ := ((List Int))) (fun (s_560 : (List Int) × Int) => match s_560 with | (l_563, x_566) => cond (decide (x_566 < x2)) ((loopF (σ := (List Int) × Int) (ρ := ((List Int))) (fun (s_984 : (List Int) × Int) => match s_984 with | (l_987, x_990) => (cond (decide (x1 < x_990)) ((idx l_987 x_990).bind fun e_1079 => (idx l_987 (IntKind.i64.wrap (x_990 - 1))).bind fun e_1085 => (D.cmp_Less_int64 e_1079 e_1085).bind fun y_1091 => some y_1091) (some false)).bind fun b_1077 => cond b_1077 ((idx l_987 (IntKind.i64.wrap (x_990 - 1))).bind fun e_1097 => (idx l_987 x_990).bind fun e_1103 => (idx l_987 x_990).bind fun e_1109 => (idx (l_987.set (Int.toNat x_990) e_1097) (IntKind.i64.wrap (x_990 - 1))).bind fun e_1117 => some (.inl (((l_987.set (Int.toNat x_990) e_1097).set (Int.toNat (IntKind.i64.wrap (x_990 - 1))) e_1103), (IntKind.i64.wrap (x_990 - 1))))) (some (.inr l_987))) (l_563, x_566)).bind fun l_1056 => some (.inl (l_1056, (IntKind.i64.wrap (x_566 + 1))))) (some (.inr l_563))) (x0, (IntKind.i64.wrap (x1 + 1)))).bind fun l_844 => some l_844

noncomputable def D.slices_reverseRangeOrdered_int64 (x0 : (List Int)) (x1 : Int) (x2 : Int) : Option (((List Int))) :=
  (loopF (σ := (List Int) × Int × Int) (ρ := ((List Int))) (fun (s_65 : (List Int) × Int × Int) => match s_65 with | (l_68, x_71, x_72) => cond (decide (x_71 < x_72)) ((idx l_68 x_72).bind fun e_107 => (idx l_68 x_71).bind fun e_113 => (idx l_68 x_71).bind fun e_119 => (idx (l_68.set (Int.toNat x_71) e_107) x_72).bind fun e_127 => some (.inl (((l_68.set (Int.toNat x_71) e_107).set (Int.toNat x_72) e_113), (IntKind.i64.wrap (x_71 + 1)), (IntKind.i64.wrap (x_72 - 1))))) (some (.inr l_68))) (x0, x1, (IntKind.i64.wrap (x2 - 1)))).bind fun l_102 => some l_102

noncomputable def D.slices_partialInsertionSortOrdered_int64 (x0 : (List Int)) (x1 : Int) (x2 : Int) : Option (Bool × ((List Int))) :=
  (loopF (σ := (List Int) × Int × Int) (ρ := ((List Int)) ⊕ (Bool × ((List Int)))) (fun (s_1625 : (List Int) × Int × Int) => match s_1625 with | (l_1628, x_1631, x_1632) => cond (decide (x_1632 < 5)) ((loopF (σ := Int) (ρ := (Int)) (fun (x_2530 : Int) => (cond (decide (x_2530 < x2)) ((idx l_1628 x_2530).bind fun e_2591 => (idx l_1628 (IntKind.i64.wrap (x_2530 - 1))).bind fun e_2597 => (D.cmp_Less_int64 e_2591 e_2597).bind fun y_2603 => some (!y_2603)) (some false)).bind fun b_2589 => cond b_2589 (some (.inl (IntKind.i64.wrap (x_2530 + 1)))) (some (.inr x_2530))) x_1631).bind fun x_2570 => cond (x_2570 == x2) (some (.inr (.inr (true, l_1628)))) (cond (decide ((IntKind.i64.wrap (x2 - x1)) < 50)) (some (.inr (.inr (false, l_1628)))) ((idx l_1628 (IntKind.i64.wrap (x_2570 - 1))).bind fun e_2611 => (idx l_1628 x_2570).bind fun e_2617 => (idx l_1628 x_2570).bind fun e_2623 => (idx (l_1628.set (Int.toNat x_2570) e_2611) (IntKind.i64.wrap (x_2570 - 1))).bind fun e_2631 => ((cond (decide ((2 : Int) ≤ (IntKind.i64.wrap (x_2570 - x1)))) ((loopF (σ := (List Int) × Int) (ρ := ((List Int))) (fun (s_2947 : (List Int) × Int) => match s_2947 with | (l_2950, x_2953) => cond (decide ((1 : Int) ≤ x_2953)) ((idx l_2950 x_2953).bind fun e_3006 => (idx l_2950 (IntKind.i64.wrap (x_2953 - 1))).bind fun e_3012 => (D.cmp_Less_int64 e_3006 e_3012).bind fun y_3018 => cond (!y_3018) (some (.inr l_2950)) ((idx l_2950 (IntKind.i64.wrap (x_2953 - 1))).bind fun e_3024 => (idx l_2950 x_2953).bind fun e_3030 => (idx l_2950 x_2953).bind fun e_3036 => (idx (l_2950.set (Int.toNat x_2953) e_3024) (IntKind.i64.wrap (x_2953 - 1))).bind fun e_3044 => some (.inl (((l_2950.set (Int.toNat x_2953) e_3024).set (Int.toNat (IntKind.i64.wrap (x_2953 - 1))) e_3030), (IntKind.i64.wrap (x_2953 - 1)))))) (some (.inr l_2950))) (((l_1628.set (Int.toNat x_2570) e_2611).set (Int.toNat (IntKind.i64.wrap (x_2570 - 1))) e_2617), (IntKind.i64.wrap (x_2570 - 1)))).bind fun l_3001 => some l_3001) (some ((l_1628.set (Int.toNat x_2570) e_2611).set (Int.toNat (IntKind.i64.wrap (x_2570 - 1))) e_2617)) : Option ((List Int)))).bind fun l_2843 => cond (decide ((2 : Int) ≤ (IntKind.i64.wrap (x2 - x_2570)))) ((loopF (σ := (List Int) × Int) (ρ := ((List Int))) (fun (s_3150 : (List Int) × Int) => match s_3150 with | (l_3153, x_3156) => cond (decide (x_3156 < x2)) ((idx l_3153 x_3156).bind fun e_3209 => (idx l_3153 (IntKind.i64.wrap (x_3156 - 1))).bind fun e_3215 => (D.cmp_Less_int64 e_3209 e_3215).bind fun y_3221 => cond (!y_3221) (some (.inr l_3153)) ((idx l_3153 (IntKind.i64.wrap (x_3156 - 1))).bind fun e_3227 => (idx l_3153 x_3156).bind fun e_3233 => (idx l_3153 x_3156).bind fun e_3239 => (idx (l_3153.set (Int.toNat x_3156) e_3227) (IntKind.i64.wrap (x_3156 - 1))).bind fun e_3247 => some (.inl (((l_3153.set (Int.toNat x_3156) e_3227).set (Int.toNat (IntKind.i64.wrap (x_3156 - 1))) e_3233), (IntKind.i64.wrap (x_3156 + 1)))))) (some (.inr l_3153))) (l_2843, (IntKind.i64.wrap (x_2570 + 1)))).bind fun l_3204 => some (.inl (l_3204, x_2570, (IntKind.i64.wrap (x_1632 + 1))))) (some (.inl (l_2843, x_2570, (IntKind.i64.wrap (x_1632 + 1)))))))) (some (.inr (.inl l_1628)))) (x0, (IntKind.i64.wrap (x1 + 1)), 0)).bind fun zz => match zz with | .inl l_2442 => (some (false, l_2442)) | .inr z => (some z)

noncomputable def D.slices_partitionEqualOrdered_int64 (x0 : (List Int)) (x1 : Int) (x2 : Int) (x3 : Int) : Option (Int × ((List Int))) :=
  (idx x0 x3).bind fun e_1 => (idx x0 x1).bind fun e_7 => (idx x0 x1).bind fun e_13 => (idx (x0.set (Int.toNat x1) e_1) x3).bind fun e_21 => (loopF (σ := (List Int) × Int × Int) (ρ := ((List Int) × Int)) (fun (s_739 : (List Int) × Int × Int) => match s_739 with | (l_742, x_745, x_746) => (loopF (σ := Int) (ρ := (Int)) (fun (x_1188 : Int) => (cond (decide (x_1188 ≤ x_746)) ((idx l_742 x1).bind fun e_1249 => (idx l_742 x_1188).bind fun e_1255 => (D.cmp_Less_int64 e_1249 e_1255).bind fun y_1261 => some (!y_1261)) (some false)).bind fun b_1247 => cond b_1247 (some (.inl (IntKind.i64.wrap (x_1188 + 1)))) (some (.inr x_1188))) x_745).bind fun x_1228 => (loopF (σ := Int) (ρ := (Int)) (fun (x_1350 : Int) => (cond (decide (x_1228 ≤ x_1350)) ((idx l_742 x1).bind fun e_1411 => (idx l_742 x_1350).bind fun e_1417 => (D.cmp_Less_int64 e_1411 e_1417).bind fun y_1423 => some y_1423) (some false)).bind fun b_1409 => cond b_1409 (some (.inl (IntKind.i64.wrap (x_1350 - 1)))) (some (.inr x_1350))) x_746).bind fun x_1390 => cond (decide (x_1390 < x_1228)) (some (.inr (l_742, x_1228))) ((idx l_742 x_1390).bind fun e_1430 => (idx l_742 x_1228).bind fun e_1436 => (idx l_742 x_1228).bind fun e_1442 => (idx (l_742.set (Int.toNat x_1228) e_1430) x_1390).bind fun e_1450 => some (.inl (((l_742.set (Int.toNat x_1228) e_1430).set (Int.toNat x_1390) e_1436), (IntKind.i64.wrap (x_1228 + 1)), (IntKind.i64.wrap (x_1390 - 1)))))) (((x0.set (Int.toNat x1) e_1).set (Int.toNat x3) e_7), (IntKind.i64.wrap (x1 + 1)), (IntKind.i64.wrap (x2 - 1)))).bind fun (l_1100, x_1103) => some (x_1103, l_1100)

noncomputable def D.slices_partitionOrdered_int64 (x0 : (List Int)) (x1 : Int) (x2 : Int) (x3 : Int) : Option (Int × Bool × ((List Int))) :=
  (idx x0 x3).bind fun e_1 => (idx x0 x1).bind fun e_7 => (idx x0 x1).bind fun e_13 => (idx (x0.set (Int.toNat x1) e_1) x3).bind fun e_21 => (loopF (σ := Int) (ρ := (Int)) (fun (x_110 : Int) => (cond (decide (x_110 ≤ (IntKind.i64.wrap (x2 - 1)))) ((idx ((x0.set (Int.toNat x1) e_1).set (Int.toNat x3) e_7) x_110).bind fun e_171 => (idx ((x0.set (Int.toNat x1) e_1).set (Int.toNat x3) e_7) x1).bind fun e_177 => (D.cmp_Less_int64 e_171 e_177).bind fun y_183 => some y_183) (some false)).bind fun b_169 => cond b_169 (some (.inl (IntKind.i64.wrap (x_110 + 1)))) (some (.inr x_110))) (IntKind.i64.wrap (x1 + 1))).bind fun x_150 => (loopF (σ := Int) (ρ := (Int)) (fun (x_272 : Int) => (cond (decide (x_150 ≤ x_272)) ((idx ((x0.set (Int.toNat x1) e_1).set (Int.toNat x3) e_7) x_272).bind fun e_333 => (idx ((x0.set (Int.toNat x1) e_1).set (Int.toNat x3) e_7) x1).bind fun e_339 => (D.cmp_Less_int64 e_333 e_339).bind fun y_345 => some (!y_345)) (some false)).bind fun b_331 => cond b_331 (some (.inl (IntKind.i64.wrap (x_272 - 1)))) (some (.inr x_272))) (IntKind.i64.wrap (x2 - 1))).bind fun x_312 => cond (decide (x_312 < x_150)) ((idx ((x0.set (Int.toNat x1) e_1).set (Int.toNat x3) e_7) x1).bind fun e_352 => (idx ((x0.set (Int.toNat x1) e_1).set (Int.toNat x3) e_7) x_312).bind fun e_358 => (idx ((x0.set (Int.toNat x1) e_1).set (Int.toNat x3) e_7) x_312).bind fun e_364 => (idx (((x0.set (Int.toNat x1) e_1).set (Int.toNat x3) e_7).set (Int.toNat x_312) e_352) x1).bind fun e_372 => some (x_312, true, ((((x0.set (Int.toNat x1) e_1).set (Int.toNat x3) e_7).set (Int.toNat x_312) e_352).set (Int.toNat x1) e_358))) ((idx ((x0.set (Int.toNat x1) e_1).set (Int.toNat x3) e_7) x_312).bind fun e_378 => (idx ((x0.set (Int.toNat x1) e_1).set (Int.toNat x3) e_7) x_150).bind fun e_384 => (idx ((x0.set (Int.toNat x1) e_1).set (Int.toNat x3) e_7) x_150).bind fun e_390 => (idx (((x0.set (Int.toNat x1) e_1).set (Int.toNat x3) e_7).set (Int.toNat x_150) e_378) x_312).bind fun e_398 => (loopF (σ := (List Int) × Int × Int) (ρ := ((List Int) × Int)) (fun (s_1116 : (List Int) × Int × Int) => match s_1116 with | (l_1119, x_1122, x_1123) => (loopF (σ := Int) (ρ := (Int)) (fun (x_1565 : Int) => (cond (decide (x_1565 ≤ x_1123)) ((idx l_1119 x_1565).bind fun e_1626 => (idx l_1119 x1).bind fun e_1632 => (D.cmp_Less_int64 e_1626 e_1632).bind fun y_1638 => some y_1638) (some false)).bind fun b_1624 => cond b_1624 (some (.inl (IntKind.i64.wrap (x_1565 + 1)))) (some (.inr x_1565))) x_1122).bind fun x_1605 => (loopF (σ := Int) (ρ := (Int)) (fun (x_1727 : Int) => (cond (decide (x_1605 ≤ x_1727)) ((idx l_1119 x_1727).bind fun e_1788 => (idx l_1119 x1).bind fun e_1794 => (D.cmp_Less_int64 e_1788 e_1794).bind fun y_1800 => some (!y_1800)) (some false)).bind fun b_1786 => cond b_1786 (some (.inl (IntKind.i64.wrap (x_1727 - 1)))) (some (.inr x_1727))) x_1123).bind fun x_1767 => cond (decide (x_1767 < x_1605)) (some (.inr (l_1119, x_1767))) ((idx l_1119 x_1767).bind fun e_1807 => (idx l_1119 x_1605).bind fun e_1813 => (idx l_1119 x_1605).bind fun e_1819 => (idx (l_1119.set (Int.toNat x_1605) e_1807) x_1767).bind fun e_1827 => some (.inl (((l_1119.set (Int.toNat x_1605) e_1807).set (Int.toNat x_1767) e_1813), (IntKind.i64.wrap (x_1605 + 1)), (IntKind.i64.wrap (x_1767 - 1)))))) (((((x0.set (Int.toNat x1) e_1).set (Int.toNat x3) e_7).set (Int.toNat x_150) e_378).set (Int.toNat x_312) e_384), (IntKind.i64.wrap (x_150 + 1)), (IntKind.i64.wrap (x_312 - 1)))).bind fun (l_1477, x_1480) => (idx l_1477 x1).bind fun e_1833 => (idx l_1477 x_1480).bind fun e_1839 => (idx l_1477 x_1480).bind fun e_1845 => (idx (l_1477.set (Int.toNat x_1480) e_1833) x1).bind fun e_1853 => some (x_1480, false, ((l_1477.set (Int.toNat x_1480) e_1833).set (Int.toNat x1) e_1839)))

noncomputable def D.slices_nextPowerOfTwo (x0 : Int) : Option (Int) :=
  (D.math_bits_Len (IntKind.u64.wrap x0)).bind fun y_1 => cond (decide (y_1 < 0)) none (some (ishl .u64 1 y_1))

noncomputable def D.slices_xorshift_Next (x0_0 : Int) : Option (Int × Int) :=
  some ((ixor .u64 (ixor .u64 (ixor .u64 x0_0 (ishl .u64 x0_0 13)) (ishr .u64 (ixor .u64 x0_0 (ishl .u64 x0_0 13)) 7)) (ishl .u64 (ixor .u64 (ixor .u64 x0_0 (ishl .u64 x0_0 13)) (ishr .u64 (ixor .u64 x0_0 (ishl .u64 x0_0 13)) 7)) 17)), (ixor .u64 (ixor .u64 (ixor .u64 x0_0 (ishl .u64 x0_0 13)) (ishr .u64 (ixor .u64 x0_0 (ishl .u64 x0_0 13)) 7)) (ishl .u64 (ixor .u64 (ixor .u64 x0_0 (ishl .u64 x0_0 13)) (ishr .u64 (ixor .u64 x0_0 (ishl .u64 x0_0 13)) 7)) 17)))

noncomputable def D.slices_breakPatternsOrdered_int64 (x0 : (List Int)) (x1 : Int) (x2 : Int) : Option (((List Int))) :=
  cond (decide ((8 : Int) ≤ (IntKind.i64.wrap (x2 - x1)))) ((D.slices_nextPowerOfTwo (IntKind.i64.wrap (x2 - x1))).bind fun y_4 => (loopF (σ := (List Int) × Int × Int) (ρ := ((List Int))) (fun (s_103 : (List Int) × Int × Int) => match s_103 with | (l_106, x_109, x_110) => cond (decide (x_109 ≤ (IntKind.i64.wrap ((IntKind.i64.wrap (x1 + (IntKind.i64.wrap ((IntKind.i64.wrap (Int.tdiv (IntKind.i64.wrap (x2 - x1)) 4)) * 2)))) + 1)))) ((D.slices_xorshift_Next x_110).bind fun y_159 => ((cond (decide ((IntKind.i64.wrap (x2 - x1)) ≤ (IntKind.i64.wrap (iand .u64 y_159.1 (IntKind.u64.wrap (y_4 - 1)))))) (some (IntKind.i64.wrap ((IntKind.i64.wrap (iand .u64 y_159.1 (IntKind.u64.wrap (y_4 - 1)))) - (IntKind.i64.wrap (x2 - x1))))) (some (IntKind.i64.wrap (iand .u64 y_159.1 (IntKind.u64.wrap (y_4 - 1))))) : Option (Int))).bind fun x_170 => (idx l_106 (IntKind.i64.wrap (x1 + x_170))).bind fun e_173 => (idx l_106 x_109).bind fun e_179 => (idx l_106 x_109).bind fun e_185 => (idx (l_106.set (Int.toNat x_109) e_173) (IntKind.i64.wrap (x1 + x_170))).bind fun e_193 => some (.inl (((l_106.set (Int.toNat x_109) e_173).set (Int.toNat (IntKind.i64.wrap (x1 + x_170))) e_179), (IntKind.i64.wrap (x_109 + 1)), y_159.2))) (some (.inr l_106))) (x0, (IntKind.i64.wrap ((IntKind.i64.wrap (x1 + (IntKind.i64.wrap ((IntKind.i64.wrap (Int.tdiv (IntKind.i64.wrap (x2 - x1)) 4)) * 2)))) - 1)), (IntKind.u64.wrap (IntKind.i64.wrap (x2 - x1))))).bind fun l_154 => some l_154) (some x0)

noncomputable def D.slices_choosePivotOrdered_int64 (x0 : (List Int)) (x1 : Int) (x2 : Int) : Option (Int × Int × ((List Int))) :=
  cond (decide ((8 : Int) ≤ (IntKind.i64.wrap (x2 - x1)))) (((cond (decide ((50 : Int) ≤ (IntKind.i64.wrap (x2 - x1)))) ((D.slices_medianAdjacentOrdered_int64 x0 (IntKind.i64.wrap (x1 + (IntKind.i64.wrap ((IntKind.i64.wrap (Int.tdiv (IntKind.i64.wrap (x2 - x1)) 4)) * 1)))) 0).bind fun y_44 => (D.slices_medianAdjacentOrdered_int64 y_44.2.1 (IntKind.i64.wrap (x1 + (IntKind.i64.wrap ((IntKind.i64.wrap (Int.tdiv (IntKind.i64.wrap (x2 - x1)) 4)) * 2)))) y_44.2.2).bind fun y_53 => (D.slices_medianAdjacentOrdered_int64 y_53.2.1 (IntKind.i64.wrap (x1 + (IntKind.i64.wrap ((IntKind.i64.wrap (Int.tdiv (IntKind.i64.wrap (x2 - x1)) 4)) * 3)))) y_53.2.2).bind fun y_62 => some (y_62.2.1, y_44.1, y_53.1, y_62.1, y_62.2.2)) (some (x0, (IntKind.i64.wrap (x1 + (IntKind.i64.wrap ((IntKind.i64.wrap (Int.tdiv (IntKind.i64.wrap (x2 - x1)) 4)) * 1)))), (IntKind.i64.wrap (x1 + (IntKind.i64.wrap ((IntKind.i64.wrap (Int.tdiv (IntKind.i64.wrap (x2 - x1)) 4)) * 2)))), (IntKind.i64.wrap (x1 + (IntKind.i64.wrap ((IntKind.i64.wrap (Int.tdiv (IntKind.i64.wrap (x2 - x1)) 4)) * 3)))), 0)) : Option ((List Int) × Int × Int × Int × Int))).bind fun (l_35, x_38, x_39, x_40, x_41) => (D.slices_medianOrdered_int64 l_35 x_38 x_39 x_40 x_41).bind fun y_71 => cond (y_71.2.2 == 0) (some (y_71.1, 1, y_71.2.1)) (cond (y_71.2.2 == 12) (some (y_71.1, 2, y_71.2.1)) (some (y_71.1, 0, y_71.2.1)))) (cond ((0 : Int) == 0) (some ((IntKind.i64.wrap (x1 + (IntKind.i64.wrap ((IntKind.i64.wrap (Int.tdiv (IntKind.i64.wrap (x2 - x1)) 4)) * 2)))), 1, x0)) (cond ((0 : Int) == 12) (some ((IntKind.i64.wrap (x1 + (IntKind.i64.wrap ((IntKind.i64.wrap (Int.tdiv (IntKind.i64.wrap (x2 - x1)) 4)) * 2)))), 2, x0)) (some ((IntKind.i64.wrap (x1 + (IntKind.i64.wrap ((IntKind.i64.wrap (Int.tdiv (IntKind.i64.wrap (x2 - x1)) 4)) * 2)))), 0, x0))))

noncomputable def D.slices_pdqsortOrdered_int64R : Nat → ((List Int)) → Int → Int → Int → Option (((List Int)))
  | 0, _, _, _, _ => none
  | fuel + 1, x0, x1, x2, x3 => (loopF (σ := (List Int) × Int × Int × Int × Bool × Bool) (ρ := (((List Int)))) (fun (s_398 : (List Int) × Int × Int × Int × Bool × Bool) => match s_398 with | (l_401, x_404, x_405, x_406, b_407, b_408) => cond (decide ((IntKind.i64.wrap (x_405 - x_404)) ≤ 12)) ((D.slices_insertionSortOrdered_int64 l_401 x_404 x_405).bind fun y_411 => some (.inr y_411)) (cond (x_406 == 0) ((D.slices_heapSortOrdered_int64 l_401 x_404 x_405).bind fun y_421 => some (.inr y_421)) (((cond (!b_407) ((D.slices_breakPatternsOrdered_int64 l_401 x_404 x_405).bind fun y_449 => some (y_449, (IntKind.i64.wrap (x_406 - 1)))) (some (l_401, x_406)) : Option ((List Int) × Int))).bind fun (l_443, x_446) => (D.slices_choosePivotOrdered_int64 l_443 x_404 x_405).bind fun y_458 => ((cond (y_458.2.1 == 2) ((D.slices_reverseRangeOrdered_int64 y_458.2.2 x_404 x_405).bind fun y_487 => some (y_487, (IntKind.i64.wrap ((IntKind.i64.wrap (x_405 - 1)) - (IntKind.i64.wrap (y_458.1 - x_404)))), 1)) (some (y_458.2.2, y_458.1, y_458.2.1)) : Option ((List Int) × Int × Int))).bind fun (l_480, x_483, x_484) => ((cond ((b_407 && b_408) && (x_484 == 1)) ((D.slices_partialInsertionSortOrdered_int64 l_480 x_404 x_405).bind fun y_521 => cond y_521.1 (some (.inr y_521.2)) (some (.inl y_521.2))) (some (.inl l_480)) : Option (((List Int)) ⊕ (((List Int)))))).bind fun q => match q with | .inl l_516 => ((cond (decide ((0 : Int) < x_404)) ((idx l_516 (IntKind.i64.wrap (x_404 - 1))).bind fun e_550 => (idx l_516 x_483).bind fun e_556 => (D.cmp_Less_int64 e_550 e_556).bind fun y_562 => some (!y_562)) (some false)).bind fun b_548 => cond b_548 ((D.slices_partitionEqualOrdered_int64 l_516 x_404 x_405 x_483).bind fun y_568 => some (.inl (y_568.2, y_568.1, x_405, x_446, b_407, b_408))) ((D.slices_partitionOrdered_int64 l_516 x_404 x_405 x_483).bind fun y_577 => cond (decide ((IntKind.i64.wrap (y_577.1 - x_404)) < (IntKind.i64.wrap (x_405 - y_577.1)))) ((D.slices_pdqsortOrdered_int64R fuel y_577.2.2 x_404 y_577.1 x_446).bind fun y_587 => some (.inl (y_587, (IntKind.i64.wrap (y_577.1 + 1)), x_405, x_446, (decide ((IntKind.i64.wrap (Int.tdiv (IntKind.i64.wrap (x_405 - x_404)) 8)) ≤ (IntKind.i64.wrap (y_577.1 - x_404)))), y_577.2.1))) ((D.slices_pdqsortOrdered_int64R fuel y_577.2.2 (IntKind.i64.wrap (y_577.1 + 1)) x_405 x_446).bind fun y_596 => some (.inl (y_596, x_404, y_577.1, x_446, (decide ((IntKind.i64.wrap (Int.tdiv (IntKind.i64.wrap (x_405 - x_404)) 8)) ≤ (IntKind.i64.wrap (x_405 - y_577.1)))), y_577.2.1))))) | .inr q => (some (.inr q))))) (x0, x1, x2, x3, true, true)).bind fun z => some z

noncomputable def D.slices_pdqsortOrdered_int64 (x0 : (List Int)) (x1 : Int) (x2 : Int) (x3 : Int) : Option (((List Int))) := D.slices_pdqsortOrdered_int64R recFuel x0 x1 x2 x3

noncomputable def D.slices_Sort_int64_int64 (x0 : (List Int)) : Option (((List Int))) :=
  (D.math_bits_Len (IntKind.u64.wrap (x0.length : Int))).bind fun y_1 => (D.slices_pdqsortOrdered_int64 x0 0 (x0.length : Int) y_1).bind fun y_8 => some y_8

noncomputable def D.slices_Collect_int64 (x0 : (List Int)) : Option (((List Int))) :=
  (D.slices_AppendSeq_int64_int64 x0).bind fun y_1 => some y_1

noncomputable def D.slices_Sorted_int64 (x0 : (List Int)) : Option (((List Int))) :=
  (D.slices_Collect_int64 x0).bind fun y_1 => (D.slices_Sort_int64_int64 y_1).bind fun y_12 => some y_12

noncomputable def D.spec_l1In (x0 : Int) (x1 : Int) (x2 : Int) : Option (Bool) :=
  some ((decide (x1 ≤ x0)) && (decide (x0 ≤ x2)))

noncomputable def D.spec_l1Has (x0 : (List Int)) (x1 : Int) : Option (Bool) :=
  (loopF (σ := Int) (ρ := (Unit) ⊕ (Bool)) (fun (x_26 : Int) => cond (decide (x_26 < (x0.length : Int))) ((idx x0 x_26).bind fun e_39 => cond (e_39 == x1) (some (.inr (.inr true))) (some (.inl (IntKind.i64.wrap (x_26 + 1))))) (some (.inr (.inl ())))) 0).bind fun zz => match zz with | .inl _ => (some false) | .inr z => (some z)

noncomputable def D.spec_l1Size (x0_0 : (List (List Int))) : Option (Int) :=
  some (x0_0.length : Int)

noncomputable def D.spec_l1Copy (x0 : (List Int)) : Option (((List Int))) :=
  (appendD ([] : List Int) x0).bind fun l_5 => some l_5

noncomputable def D.spec_l1Set (x0 : (List Int)) (x1 : Int) : Option (Bool) :=
  cond (decide (x1 < (x0.length : Int))) (some false) ((loopF (σ := Int) (ρ := (Unit) ⊕ (Bool)) (fun (x_157 : Int) => cond (decide (x_157 < (x0.length : Int))) ((idx x0 x_157).bind fun e_235 => (D.spec_l1In e_235 0 (IntKind.i64.wrap (x1 - 1))).bind fun y_241 => (cond (!y_241) (some true) ((cond (decide ((0 : Int) < x_157)) ((idx x0 x_157).bind fun e_292 => (idx x0 (IntKind.i64.wrap (x_157 - 1))).bind fun e_298 => some (decide (e_292 ≤ e_298))) (some false)).bind fun b_290 => some b_290)).bind fun b_274 => cond b_274 (some (.inr (.inr false))) (some (.inl (IntKind.i64.wrap (x_157 + 1))))) (some (.inr (.inl ())))) 0).bind fun zz => match zz with | .inl _ => (some true) | .inr z => (some z))

noncomputable def D.spec_GraphOk (x0_0 : (List (List Int))) : Option (Bool) :=
  (D.spec_l1Size x0_0).bind fun y_3 => (D.spec_l1In y_3 1 16).bind fun y_10 => cond (!y_10) (some false) ((loopF (σ := Int) (ρ := (Unit) ⊕ (Bool)) (fun (x_145 : Int) => cond (decide (x_145 < y_3)) ((idx x0_0 x_145).bind fun e_209 => (D.spec_l1Set e_209 y_3).bind fun y_215 => (cond (!y_215) (some true) ((idx x0_0 x_145).bind fun e_253 => (D.spec_l1Has e_253 x_145).bind fun y_259 => some y_259)).bind fun b_251 => cond b_251 (some (.inr (.inr false))) (some (.inl (IntKind.i64.wrap (x_145 + 1))))) (some (.inr (.inl ())))) 0).bind fun zz => match zz with | .inl _ => ((loopF (σ := Int) (ρ := (Unit) ⊕ (Bool)) (fun (x_552 : Int) => cond (decide (x_552 < y_3)) ((loopF (σ := Int) (ρ := (Unit) ⊕ (Bool)) (fun (x_766 : Int) => (idx x0_0 x_552).bind fun e_801 => cond (decide (x_766 < (e_801.length : Int))) ((idx x0_0 x_552).bind fun e_808 => (idx e_808 x_766).bind fun e_814 => (idx x0_0 e_814).bind fun e_820 => (D.spec_l1Has e_820 x_552).bind fun y_826 => cond (!y_826) (some (.inr (.inr false))) (some (.inl (IntKind.i64.wrap (x_766 + 1))))) (some (.inr (.inl ())))) 0).bind fun zz => match zz with | .inl _ => (some (.inl (IntKind.i64.wrap (x_552 + 1)))) | .inr z => (some (.inr (.inr z)))) (some (.inr (.inl ())))) 0).bind fun zz => match zz with | .inl _ => (some true) | .inr z => (some z)) | .inr z => (some z))

noncomputable def D.spec_l1Into (x0 : (List Int)) (x1 : Int) : Option (((List Int))) :=
  (loopF (σ := Int) (ρ := (Int)) (fun (x_58 : Int) => (cond (decide (x_58 < (x0.length : Int))) ((idx x0 x_58).bind fun e_104 => some (decide (e_104 < x1))) (some false)).bind fun b_102 => cond b_102 (some (.inl (IntKind.i64.wrap (x_58 + 1)))) (some (.inr x_58))) 0).bind fun x_85 => (cond (decide (x_85 < (x0.length : Int))) ((idx x0 x_85).bind fun e_128 => some (e_128 == x1)) (some false)).bind fun b_126 => cond b_126 (some x0) ((sliceD x0 0 x_85).bind fun l_135 => (D.spec_l1Copy l_135).bind fun y_139 => (appendD y_139 ([x1] : List Int)).bind fun l_154 => (sliceD x0 x_85 (x0.length : Int)).bind fun l_160 => (appendD l_154 l_160).bind fun l_164 => some l_164)

noncomputable def D.impl_inRange (x0 : Int) (x1 : Int) (x2 : Int) : Option (Bool) :=
  some ((decide (x1 ≤ x0)) && (decide (x0 ≤ x2)))

noncomputable def D.impl_increasing (x0 : (List Int)) (x1 : Int) : Option (Bool) :=
  (loopF (σ := Int) (ρ := (Unit) ⊕ (Bool)) (fun (x_188 : Int) => cond (decide (x_188 < (x0.length : Int))) ((idx x0 x_188).bind fun e_282 => (D.impl_inRange e_282 0 (IntKind.i64.wrap (x1 - 1))).bind fun y_288 => (cond (!y_288) (some true) ((cond (decide ((0 : Int) < x_188)) ((idx x0 (IntKind.i64.wrap (x_188 - 1))).bind fun e_363 => some (decide (e_282 ≤ e_363))) (some false)).bind fun b_361 => some b_361)).bind fun b_344 => cond b_344 (some (.inr (.inr false))) (some (.inl (IntKind.i64.wrap (x_188 + 1))))) (some (.inr (.inl ())))) 0).bind fun zz => match zz with | .inl _ => (some true) | .inr z => (some z)

noncomputable def D.slices_Index_int64_int64 (x0 : (List Int)) (x1 : Int) : Option (Int) :=
  (loopF (σ := Int) (ρ := (Unit) ⊕ (Int)) (fun (x_26 : Int) => cond (decide (x_26 < (x0.length : Int))) ((idx x0 x_26).bind fun e_39 => cond (x1 == e_39) (some (.inr (.inr x_26))) (some (.inl (IntKind.i64.wrap (x_26 + 1))))) (some (.inr (.inl ())))) 0).bind fun zz => match zz with | .inl _ => (some (-1)) | .inr z => (some z)

noncomputable def D.slices_Contains_int64_int64 (x0 : (List Int)) (x1 : Int) : Option (Bool) :=
  (D.slices_Index_int64_int64 x0 x1).bind fun y_1 => some (decide ((0 : Int) ≤ y_1))

noncomputable def D.impl_GraphOk (x0_0 : (List (List Int))) : Option (Bool) :=
  cond ((decide ((x0_0.length : Int) < 1)) || (decide ((16 : Int) < (x0_0.length : Int)))) (some false) ((loopF (σ := Int) (ρ := (Unit) ⊕ (Bool)) (fun (x_98 : Int) => cond (decide (x_98 < (x0_0.length : Int))) ((idx x0_0 x_98).bind fun e_144 => (D.impl_increasing e_144 (x0_0.length : Int)).bind fun y_150 => (cond (!y_150) (some true) ((D.slices_Contains_int64_int64 e_144 x_98).bind fun y_176 => some y_176)).bind fun b_174 => cond b_174 (some (.inr (.inr false))) (some (.inl (IntKind.i64.wrap (x_98 + 1))))) (some (.inr (.inl ())))) 0).bind fun zz => match zz with | .inl _ => ((loopF (σ := Int) (ρ := (Unit) ⊕ (Bool)) (fun (x_401 : Int) => cond (decide (x_401 < (x0_0.length : Int))) ((idx x0_0 x_401).bind fun e_510 => (loopF (σ := Int) (ρ := (Unit) ⊕ (Bool)) (fun (x_567 : Int) => cond (decide (x_567 < (e_510.length : Int))) ((idx e_510 x_567).bind fun e_593 => (idx x0_0 e_593).bind fun e_599 => (D.slices_Contains_int64_int64 e_599 x_401).bind fun y_605 => cond (!y_605) (some (.inr (.inr false))) (some (.inl (IntKind.i64.wrap (x_567 + 1))))) (some (.inr (.inl ())))) 0).bind fun zz => match zz with | .inl _ => (some (.inl (IntKind.i64.wrap (x_401 + 1)))) | .inr z => (some (.inr (.inr z)))) (some (.inr (.inl ())))) 0).bind fun zz => match zz with | .inl _ => (some true) | .inr z => (some z)) | .inr z => (some z))

noncomputable def D.impl_one (x0 : Int) : Option (Int) :=
  cond (decide (x0 < 0)) none (some (ishl .u32 1 x0))

noncomputable def D.impl_maskOf (x0 : (List Int)) : Option (Int) :=
  (loopF (σ := Int × Int) (ρ := (Int)) (fun (s_36 : Int × Int) => match s_36 with | (x_39, x_40) => cond (decide (x_40 < (x0.length : Int))) ((idx x0 x_40).bind fun e_60 => (D.impl_one e_60).bind fun y_66 => some (.inl ((ior .u32 x_39 y_66), (IntKind.i64.wrap (x_40 + 1))))) (some (.inr x_39))) (0, 0)).bind fun x_57 => some x_57

noncomputable def D.impl_netsOf (x0_0 : (List (List Int))) : Option (((List Int))) :=
  (loopF (σ := (List Int) × Int) (ρ := ((List Int))) (fun (s_66 : (List Int) × Int) => match s_66 with | (l_69, x_74) => cond (decide (x_74 < (x0_0.length : Int))) ((idx x0_0 x_74).bind fun e_108 => (D.impl_maskOf e_108).bind fun y_114 => (appendD l_69 ([y_114] : List Int)).bind fun l_125 => some (.inl (l_125, (IntKind.i64.wrap (x_74 + 1))))) (some (.inr l_69))) (([] : List Int), 0)).bind fun l_101 => some l_101

noncomputable def D.impl_narrow (x0 : (List Int)) : Option (((List Int))) :=
  (makeD (0 : Int) 0 (x0.length : Int)).bind fun l_1 => (loopF (σ := (List Int) × Int) (ρ := ((List Int))) (fun (s_52 : (List Int) × Int) => match s_52 with | (l_55, x_60) => cond (decide (x_60 < (x0.length : Int))) ((idx x0 x_60).bind fun e_87 => (appendD l_55 ([e_87] : List Int)).bind fun l_97 => some (.inl (l_97, (IntKind.i64.wrap (x_60 + 1))))) (some (.inr l_55))) (l_1, 0)).bind fun l_80 => some l_80

noncomputable def D.math_bits_TrailingZeros32 (x0 : Int) : Option (Int) :=
  cond (x0 == 0) (some 32) ((idx tab32 (ishr .u32 (IntKind.u32.wrap ((iand .u32 x0 (IntKind.u32.wrap (0 - x0))) * 125613361)) 27)).bind fun e_3 => some (IntKind.i64.wrap e_3))

noncomputable def D.impl_vset_least (x0 : Int) : Option (Int) :=
  (D.math_bits_TrailingZeros32 x0).bind fun y_1 => some y_1

noncomputable def D.impl_vset_list (x0 : Int) : Option (((List Int))) :=
  (loopF (σ := Int × (List Int)) (ρ := ((List Int))) (fun (s_52 : Int × (List Int)) => match s_52 with | (x_55, l_56) => cond (x_55 != 0) ((D.impl_vset_least x_55).bind fun y_88 => (appendD l_56 ([y_88] : List Int)).bind fun l_99 => some (.inl ((iand .u32 x_55 (IntKind.u32.wrap (x_55 - 1))), l_99))) (some (.inr l_56))) (x0, ([] : List Int))).bind fun l_81 => some l_81

noncomputable def D.impl_wide (x0 : (List Int)) : Option (((List Int))) :=
  (makeD (0 : Int) 0 (x0.length : Int)).bind fun l_1 => (loopF (σ := (List Int) × Int) (ρ := ((List Int))) (fun (s_52 : (List Int) × Int) => match s_52 with | (l_55, x_60) => cond (decide (x_60 < (x0.length : Int))) ((idx x0 x_60).bind fun e_87 => (appendD l_55 ([e_87] : List Int)).bind fun l_97 => some (.inl (l_97, (IntKind.i64.wrap (x_60 + 1))))) (some (.inr l_55))) (l_1, 0)).bind fun l_80 => some l_80

noncomputable def D.impl_vset_numbers (x0 : Int) : Option (((List Int))) :=
  (D.impl_vset_list x0).bind fun y_1 => (D.impl_wide y_1).bind fun y_12 => some y_12

noncomputable def D.impl_results (x0 : (List Int)) : Option (((List (List Int)))) :=
  (loopF (σ := (List (List Int)) × Int) (ρ := ((List (List Int)))) (fun (s_74 : (List (List Int)) × Int) => match s_74 with | (l_77, x_82) => cond (decide (x_82 < (x0.length : Int))) ((idx x0 x_82).bind fun e_120 => (D.impl_vset_numbers e_120).bind fun y_126 => (appendD l_77 [y_126]).bind fun l_141 => some (.inl (l_141, (IntKind.i64.wrap (x_82 + 1))))) (some (.inr l_77))) (([] : List (List Int)), 0)).bind fun l_113 => some l_113

noncomputable def D.impl_sortedLink (x0 : Int) (x1 : Int) : Option (((List Int))) :=
  some ([(if x1 < x0 then x1 else x0), (if x0 < x1 then x1 else x0)] : List Int)

noncomputable def D.laws_eqInt64S (x0 : (List Int)) (x1 : (List Int)) : Option (Bool) :=
  cond ((x0.length : Int) != (x1.length : Int)) (some false) ((loopF (σ := Int) (ρ := (Unit) ⊕ (Bool)) (fun (x_43 : Int) => cond (decide (x_43 < (x0.length : Int))) ((idx x0 x_43).bind fun e_64 => (idx x1 x_43).bind fun e_70 => cond (e_64 != e_70) (some (.inr (.inr false))) (some (.inl (IntKind.i64.wrap (x_43 + 1))))) (some (.inr (.inl ())))) 0).bind fun zz => match zz with | .inl _ => (some true) | .inr z => (some z))

noncomputable def D.laws_eqInt64SS (x0 : (List (List Int))) (x1 : (List (List Int))) : Option (Bool) :=
  cond ((x0.length : Int) != (x1.length : Int)) (some false) ((loopF (σ := Int) (ρ := (Unit) ⊕ (Bool)) (fun (x_49 : Int) => cond (decide (x_49 < (x0.length : Int))) ((idx x0 x_49).bind fun e_73 => (idx x1 x_49).bind fun e_79 => (D.laws_eqInt64S e_73 e_79).bind fun y_85 => cond (!y_85) (some (.inr (.inr false))) (some (.inl (IntKind.i64.wrap (x_49 + 1))))) (some (.inr (.inl ())))) 0).bind fun zz => match zz with | .inl _ => (some true) | .inr z => (some z))

noncomputable def D.laws_eqDecomp (x0_0 : (List (List Int))) (x0_1 : (List (List Int))) (x1_0 : (List (List Int))) (x1_1 : (List (List Int))) : Option (Bool) :=
  (D.laws_eqInt64SS x0_0 x1_0).bind fun y_5 => cond (!y_5) (some false) ((D.laws_eqInt64SS x0_1 x1_1).bind fun y_13 => cond (!y_13) (some false) (some true))

noncomputable def D.laws_eqGraph (x0_0 : (List (List Int))) (x1_0 : (List (List Int))) : Option (Bool) :=
  (D.laws_eqInt64SS x0_0 x1_0).bind fun y_5 => cond (!y_5) (some false) (some true)

noncomputable def D.laws_szInt64S (x0 : (List Int)) (x1 : Int) : Option (Int) :=
  cond (decide ((IntKind.i64.wrap (x1 - (x0.length : Int))) < 0)) (some (-1)) (some (IntKind.i64.wrap (x1 - (x0.length : Int))))

noncomputable def D.laws_szInt64SS (x0 : (List (List Int))) (x1 : Int) : Option (Int) :=
  cond (decide ((IntKind.i64.wrap (x1 - (x0.length : Int))) < 0)) (some (-1)) ((loopF (σ := Int × Int) (ρ := (Int) ⊕ (Int)) (fun (s_39 : Int × Int) => match s_39 with | (x_42, x_43) => cond (decide (x_43 < (x0.length : Int))) ((idx x0 x_43).bind fun e_64 => (D.laws_szInt64S e_64 x_42).bind fun y_70 => cond (decide (y_70 < 0)) (some (.inr (.inr (-1)))) (some (.inl (y_70, (IntKind.i64.wrap (x_43 + 1)))))) (some (.inr (.inl x_42)))) ((IntKind.i64.wrap (x1 - (x0.length : Int))), 0)).bind fun zz => match zz with | .inl x_61 => (some x_61) | .inr z => (some z))

noncomputable def D.laws_szGraph (x0_0 : (List (List Int))) (x1 : Int) : Option (Int) :=
  (D.laws_szInt64SS x0_0 x1).bind fun y_3 => cond (decide (y_3 < 0)) (some (-1)) (some y_3)

noncomputable def D.laws_heldInt64S (x0 : (List Int)) (x1 : Int) : Option (Int) :=
  (loopF (σ := Int × Int) (ρ := (Int) ⊕ (Int)) (fun (s_24 : Int × Int) => match s_24 with | (x_27, x_28) => cond (decide (x_28 < (x0.length : Int))) ((idx x0 x_28).bind fun e_42 => cond (e_42 != x_27) (some (.inr (.inr (-1)))) (some (.inl ((IntKind.i64.wrap (x_27 + 1)), (IntKind.i64.wrap (x_28 + 1)))))) (some (.inr (.inl x_27)))) (x1, 0)).bind fun zz => match zz with | .inl x_39 => (some x_39) | .inr z => (some z)

noncomputable def D.laws_heldInt64SS (x0 : (List (List Int))) (x1 : Int) : Option (Int) :=
  (loopF (σ := Int × Int) (ρ := (Int) ⊕ (Int)) (fun (s_38 : Int × Int) => match s_38 with | (x_41, x_42) => cond (decide (x_42 < (x0.length : Int))) ((idx x0 x_42).bind fun e_63 => (D.laws_heldInt64S e_63 x_41).bind fun y_69 => cond (decide (y_69 < 0)) (some (.inr (.inr (-1)))) (some (.inl (y_69, (IntKind.i64.wrap (x_42 + 1)))))) (some (.inr (.inl x_41)))) (x1, 0)).bind fun zz => match zz with | .inl x_60 => (some x_60) | .inr z => (some z)

noncomputable def D.laws_heldDecomp (x0_0 : (List (List Int))) (x0_1 : (List (List Int))) (x1 : Int) : Option (Int) :=
  (D.laws_heldInt64SS x0_0 x1).bind fun y_3 => cond (decide (y_3 < 0)) (some (-1)) ((D.laws_heldInt64SS x0_1 y_3).bind fun y_11 => cond (decide (y_11 < 0)) (some (-1)) (some y_11))

noncomputable def D.laws_toInt64S (x0 : (List Int)) : Option (((List Int))) :=
  (makeD (0 : Int) (x0.length : Int) (x0.length : Int)).bind fun l_1 => (loopF (σ := (List Int) × Int) (ρ := ((List Int))) (fun (s_42 : (List Int) × Int) => match s_42 with | (l_45, x_48) => cond (decide (x_48 < (x0.length : Int))) ((idx x0 x_48).bind fun e_69 => (idx l_45 x_48).bind fun e_75 => some (.inl ((l_45.set (Int.toNat x_48) e_69), (IntKind.i64.wrap (x_48 + 1))))) (some (.inr l_45))) (l_1, 0)).bind fun l_64 => some l_64

noncomputable def D.impl_OrderOk (x0_0 : (List (List Int))) (x1 : (List Int)) : Option (Bool) :=
  (D.impl_GraphOk x0_0).bind fun y_3 => cond ((!y_3) || ((x1.length : Int) != (x0_0.length : Int))) (some false) ((D.slices_Sorted_int64 x1).bind fun y_21 => (D.impl_increasing y_21 (x0_0.length : Int)).bind fun y_32 => some y_32)

noncomputable def D.laws_toInt64SS (x0 : (List (List Int))) : Option (((List (List Int)))) :=
  (makeD (([] : (List Int)) : (List Int)) (x0.length : Int) (x0.length : Int)).bind fun l_1 => (loopF (σ := (List (List Int)) × Int) (ρ := ((List (List Int)))) (fun (s_64 : (List (List Int)) × Int) => match s_64 with | (l_67, x_70) => cond (decide (x_70 < (x0.length : Int))) ((idx x0 x_70).bind fun e_102 => (D.laws_toInt64S e_102).bind fun y_108 => (idx l_67 x_70).bind fun e_119 => some (.inl ((l_67.set (Int.toNat x_70) y_108), (IntKind.i64.wrap (x_70 + 1))))) (some (.inr l_67))) (l_1, 0)).bind fun l_97 => some l_97

noncomputable def D.laws_toGraph (x0_0 : (List (List Int))) : Option (((List (List Int)))) :=
  (D.laws_toInt64SS x0_0).bind fun y_7 => some y_7

noncomputable def D.laws_markInt64S (x0 : (List Int)) (x1 : Int) : Option (Int × ((List Int))) :=
  (loopF (σ := (List Int) × Int × Int) (ρ := ((List Int) × Int)) (fun (s_25 : (List Int) × Int × Int) => match s_25 with | (l_28, x_31, x_32) => cond (decide (x_32 < (l_28.length : Int))) ((idx l_28 x_32).bind fun e_48 => some (.inl ((l_28.set (Int.toNat x_32) x_31), (IntKind.i64.wrap (x_31 + 1)), (IntKind.i64.wrap (x_32 + 1))))) (some (.inr (l_28, x_31)))) (x0, x1, 0)).bind fun (l_42, x_45) => some (x_45, l_42)

noncomputable def D.laws_markInt64SS (x0 : (List (List Int))) (x1 : Int) : Option (Int × ((List (List Int)))) :=
  (loopF (σ := (List (List Int)) × Int × Int) (ρ := ((List (List Int)) × Int)) (fun (s_43 : (List (List Int)) × Int × Int) => match s_43 with | (l_46, x_49, x_50) => cond (decide (x_50 < (l_46.length : Int))) ((idx l_46 x_50).bind fun e_75 => (D.laws_markInt64S e_75 x_49).bind fun y_81 => some (.inl ((l_46.set (Int.toNat x_50) y_81.2), y_81.1, (IntKind.i64.wrap (x_50 + 1))))) (some (.inr (l_46, x_49)))) (x0, x1, 0)).bind fun (l_69, x_72) => some (x_72, l_69)

noncomputable def D.laws_markGraph (x0_0 : (List (List Int))) (x1 : Int) : Option (Int × ((List (List Int)))) :=
  (D.laws_markInt64SS x0_0 x1).bind fun y_3 => some (y_3.1, y_3.2)

noncomputable def D.laws_markDecomp (x0_0 : (List (List Int))) (x0_1 : (List (List Int))) (x1 : Int) : Option (Int × ((List (List Int))) × ((List (List Int)))) :=
  (D.laws_markInt64SS x0_0 x1).bind fun y_3 => (D.laws_markInt64SS x0_1 y_3.1).bind fun y_12 => some (y_12.1, y_3.2, y_12.2)

noncomputable def D.spec_l1Edges (x0_0 : (List (List Int))) : Option (((List (List Int)))) :=
  (loopF (σ := (List (List Int)) × Int) (ρ := ((List (List Int)))) (fun (s_482 : (List (List Int)) × Int) => match s_482 with | (l_485, x_490) => (D.spec_l1Size x0_0).bind fun y_731 => cond (decide (x_490 < y_731)) ((loopF (σ := (List (List Int)) × Int) (ρ := ((List (List Int)))) (fun (s_848 : (List (List Int)) × Int) => match s_848 with | (l_851, x_856) => (idx x0_0 x_490).bind fun e_914 => cond (decide (x_856 < (e_914.length : Int))) ((idx x0_0 x_490).bind fun e_921 => (idx e_921 x_856).bind fun e_927 => cond (decide (x_490 < e_927)) ((idx x0_0 x_490).bind fun e_934 => (idx e_934 x_856).bind fun e_940 => (appendD l_851 ([([x_490, e_940] : List Int)] : List (List Int))).bind fun l_957 => some (.inl (l_957, (IntKind.i64.wrap (x_856 + 1))))) (some (.inl (l_851, (IntKind.i64.wrap (x_856 + 1)))))) (some (.inr l_851))) (l_485, 0)).bind fun l_908 => some (.inl (l_908, (IntKind.i64.wrap (x_490 + 1))))) (some (.inr l_485))) (([] : List (List Int)), 0)).bind fun l_725 => some l_725

noncomputable def D.impl_firstOf (x0 : Int) : Option (Int) :=
  cond (decide (x0 < 0)) none (some (IntKind.u32.wrap ((ishl .u32 1 x0) - 1)))

noncomputable def D.impl_nets_all (x0 : (List Int)) : Option (Int) :=
  (D.impl_firstOf (x0.length : Int)).bind fun y_1 => some y_1

noncomputable def D.impl_elimination (x0 : (List Int)) (x1 : (List Int)) : Option (((List Int)) × ((List Int))) :=
  (((appendD ([] : List Int) x0).bind fun l_56 => (D.impl_nets_all x0).bind fun y_62 => (makeD (0 : Int) (x0.length : Int) (x0.length : Int)).bind fun l_68 => some (l_56, l_68, y_62) : Option ((List Int) × (List Int) × Int))).bind fun (l_34, l_39, x_44) => (loopF (σ := (List Int) × (List Int) × Int × Int) (ρ := ((List Int) × (List Int))) (fun (s_459 : (List Int) × (List Int) × Int × Int) => match s_459 with | (l_462, l_465, x_468, x_469) => cond (decide (x_469 < (x1.length : Int))) ((idx x1 x_469).bind fun e_665 => (D.impl_one e_665).bind fun y_671 => (idx l_462 e_665).bind fun e_678 => (idx l_465 e_665).bind fun e_684 => (idx (l_465.set (Int.toNat e_665) (iand .u32 e_678 (iandNot .u32 x_468 y_671))) e_665).bind fun e_690 => (D.impl_vset_list e_690).bind fun y_696 => (loopF (σ := (List Int) × Int) (ρ := ((List Int))) (fun (s_776 : (List Int) × Int) => match s_776 with | (l_779, x_782) => cond (decide (x_782 < (y_696.length : Int))) ((idx y_696 x_782).bind fun e_820 => (idx l_779 e_820).bind fun e_826 => (idx (l_465.set (Int.toNat e_665) (iand .u32 e_678 (iandNot .u32 x_468 y_671))) e_665).bind fun e_832 => (D.impl_one e_820).bind fun y_838 => (idx l_779 e_820).bind fun e_841 => some (.inl ((l_779.set (Int.toNat e_820) (ior .u32 e_826 (iandNot .u32 e_832 y_838))), (IntKind.i64.wrap (x_782 + 1))))) (some (.inr l_779))) (l_462, 0)).bind fun l_815 => some (.inl (l_815, (l_465.set (Int.toNat e_665) (iand .u32 e_678 (iandNot .u32 x_468 y_671))), (iandNot .u32 x_468 y_671), (IntKind.i64.wrap (x_469 + 1))))) (some (.inr (l_462, l_465)))) (l_34, l_39, x_44, 0)).bind fun (l_657, l_660) => some (l_657, l_660)

noncomputable def D.impl_nets_graph (x0 : (List Int)) : Option (((List (List Int)))) :=
  (loopF (σ := Int × (List (List Int))) (ρ := ((List (List Int)))) (fun (s_98 : Int × (List (List Int))) => match s_98 with | (x_104, l_105) => cond (decide (x_104 < (x0.length : Int))) ((idx x0 x_104).bind fun e_158 => (D.impl_vset_numbers e_158).bind fun y_167 => (appendD l_105 ([y_167] : List (List Int))).bind fun l_190 => some (.inl ((IntKind.i64.wrap (x_104 + 1)), l_190))) (some (.inr l_105))) (0, ([] : List (List Int)))).bind fun l_151 => some l_151

noncomputable def D.impl_FillOf (x0_0 : (List (List Int))) (x1 : (List Int)) : Option (((List (List Int))) × Bool) :=
  (D.impl_OrderOk x0_0 x1).bind fun y_5 => cond (!y_5) (some (([] : List (List Int)), false)) ((D.impl_netsOf x0_0).bind fun y_18 => (D.impl_narrow x1).bind fun y_29 => (D.impl_elimination y_18 y_29).bind fun y_40 => (D.impl_nets_graph y_40.1).bind fun y_64 => some (y_64, true))

noncomputable def D.impl_edgesOf (x0_0 : (List (List Int))) : Option (((List (List Int)))) :=
  (loopF (σ := (List (List Int)) × Int) (ρ := ((List (List Int)))) (fun (s_288 : (List (List Int)) × Int) => match s_288 with | (l_291, x_296) => cond (decide (x_296 < (x0_0.length : Int))) ((idx x0_0 x_296).bind fun e_441 => (loopF (σ := (List (List Int)) × Int) (ρ := ((List (List Int)))) (fun (s_508 : (List (List Int)) × Int) => match s_508 with | (l_511, x_516) => cond (decide (x_516 < (e_441.length : Int))) ((idx e_441 x_516).bind fun e_551 => cond (decide (x_296 < e_551)) ((appendD l_511 ([([x_296, e_551] : List Int)] : List (List Int))).bind fun l_569 => some (.inl (l_569, (IntKind.i64.wrap (x_516 + 1))))) (some (.inl (l_511, (IntKind.i64.wrap (x_516 + 1)))))) (some (.inr l_511))) (l_291, 0)).bind fun l_544 => some (.inl (l_544, (IntKind.i64.wrap (x_296 + 1))))) (some (.inr l_291))) (([] : List (List Int)), 0)).bind fun l_434 => some l_434

noncomputable def D.impl_EdgesOf (x0_0 : (List (List Int))) : Option (((List (List Int)))) :=
  (D.impl_GraphOk x0_0).bind fun y_3 => cond (!y_3) (some ([] : List (List Int))) ((D.impl_edgesOf x0_0).bind fun y_14 => some y_14)

noncomputable def D.impl_ManyEdges (x0_0 : (List (List Int))) : Option (Int) :=
  (D.impl_EdgesOf x0_0).bind fun y_3 => some (y_3.length : Int)

noncomputable def D.impl_FillMany (x0_0 : (List (List Int))) (x1 : (List Int)) : Option (Int) :=
  (D.impl_FillOf x0_0 x1).bind fun y_3 => cond (!y_3.2) (some (-1)) ((D.impl_ManyEdges y_3.1).bind fun y_17 => (D.impl_ManyEdges x0_0).bind fun y_23 => some (IntKind.i64.wrap (y_17 - y_23)))

noncomputable def D.spec_l9Form (x0_0 : (List (List Int))) (x0_1 : (List (List Int))) : Option (Bool) :=
  (D.spec_l1In (x0_0.length : Int) 1 16).bind fun y_3 => cond ((!y_3) || (decide ((16 : Int) < (x0_1.length : Int)))) (some false) ((loopF (σ := Int) (ρ := (Unit) ⊕ (Bool)) (fun (x_127 : Int) => cond (decide (x_127 < (x0_1.length : Int))) ((idx x0_1 x_127).bind fun e_184 => (cond ((e_184.length : Int) != 2) (some true) ((idx x0_1 x_127).bind fun e_221 => (D.spec_l1Set e_221 (x0_0.length : Int)).bind fun y_227 => some (!y_227))).bind fun b_219 => cond b_219 (some (.inr (.inr false))) (some (.inl (IntKind.i64.wrap (x_127 + 1))))) (some (.inr (.inl ())))) 0).bind fun zz => match zz with | .inl _ => (some true) | .inr z => (some z))

noncomputable def D.spec_l1All (x0 : Int) : Option (((List Int))) :=
  (loopF (σ := (List Int) × Int) (ρ := ((List Int))) (fun (s_38 : (List Int) × Int) => match s_38 with | (l_41, x_46) => cond (decide (x_46 < x0)) ((appendD l_41 ([x_46] : List Int)).bind fun l_71 => some (.inl (l_71, (IntKind.i64.wrap (x_46 + 1))))) (some (.inr l_41))) (([] : List Int), 0)).bind fun l_60 => some l_60

noncomputable def D.spec_l9Near (x0_0 : (List (List Int))) (x0_1 : (List (List Int))) (x1 : Int) : Option (((List Int))) :=
  (loopF (σ := (List Int) × Int) (ρ := ((List Int))) (fun (s_221 : (List Int) × Int) => match s_221 with | (l_227, x_230) => cond (decide (x_230 < (x0_1.length : Int))) ((idx x0_1 x_230).bind fun e_336 => (idx e_336 0).bind fun e_342 => ((cond (e_342 == x1) ((idx x0_1 x_230).bind fun e_378 => (idx e_378 1).bind fun e_384 => (D.spec_l1Into l_227 e_384).bind fun y_390 => some y_390) (some l_227) : Option ((List Int)))).bind fun l_373 => (idx x0_1 x_230).bind fun e_399 => (idx e_399 1).bind fun e_405 => cond (e_405 == x1) ((idx x0_1 x_230).bind fun e_412 => (idx e_412 0).bind fun e_418 => (D.spec_l1Into l_373 e_418).bind fun y_424 => some (.inl (y_424, (IntKind.i64.wrap (x_230 + 1))))) (some (.inl (l_373, (IntKind.i64.wrap (x_230 + 1)))))) (some (.inr l_227))) (([] : List Int), 0)).bind fun l_331 => some l_331

noncomputable def D.spec_l9Reached (x0_0 : (List (List Int))) (x0_1 : (List (List Int))) (x1 : (List Int)) : Option (Int) :=
  cond ((x1.length : Int) == 0) (some 0) ((idx x1 0).bind fun e_4 => (loopF (σ := (List Int) × Int) (ρ := ((List Int))) (fun (s_795 : (List Int) × Int) => match s_795 with | (l_798, x_803) => cond (decide (x_803 < (l_798.length : Int))) ((idx l_798 x_803).bind fun e_1198 => (D.spec_l9Near x0_0 x0_1 e_1198).bind fun y_1207 => (loopF (σ := (List Int) × Int) (ρ := ((List Int))) (fun (s_1397 : (List Int) × Int) => match s_1397 with | (l_1400, x_1405) => cond (decide (x_1405 < (y_1207.length : Int))) ((idx y_1207 x_1405).bind fun e_1499 => (D.spec_l1Has x1 e_1499).bind fun y_1505 => (cond y_1505 ((idx y_1207 x_1405).bind fun e_1549 => (D.spec_l1Has l_1400 e_1549).bind fun y_1555 => some (!y_1555)) (some false)).bind fun b_1547 => cond b_1547 ((idx y_1207 x_1405).bind fun e_1566 => (appendD l_1400 ([e_1566] : List Int)).bind fun l_1576 => some (.inl (l_1576, (IntKind.i64.wrap (x_1405 + 1))))) (some (.inl (l_1400, (IntKind.i64.wrap (x_1405 + 1)))))) (some (.inr l_1400))) (l_798, 0)).bind fun l_1492 => some (.inl (l_1492, (IntKind.i64.wrap (x_803 + 1))))) (some (.inr l_798))) (([e_4] : List Int), 0)).bind fun l_1191 => some (l_1191.length : Int))

noncomputable def D.spec_l9Tree (x0_0 : (List (List Int))) (x0_1 : (List (List Int))) : Option (Bool) :=
  (D.spec_l9Form x0_0 x0_1).bind fun y_3 => cond (y_3 && ((x0_1.length : Int) == (IntKind.i64.wrap ((x0_0.length : Int) - 1)))) ((D.spec_l1All (x0_0.length : Int)).bind fun y_12 => (D.spec_l9Reached x0_0 x0_1 y_12).bind fun y_26 => some (y_26 == (x0_0.length : Int))) (some false)

noncomputable def D.spec_l8Meet (x0 : (List Int)) (x1 : (List Int)) : Option (((List Int))) :=
  (loopF (σ := (List Int) × Int) (ρ := ((List Int))) (fun (s_78 : (List Int) × Int) => match s_78 with | (l_81, x_86) => cond (decide (x_86 < (x0.length : Int))) ((idx x0 x_86).bind fun e_127 => (D.spec_l1Has x1 e_127).bind fun y_133 => cond y_133 ((idx x0 x_86).bind fun e_141 => (appendD l_81 ([e_141] : List Int)).bind fun l_151 => some (.inl (l_151, (IntKind.i64.wrap (x_86 + 1))))) (some (.inl (l_81, (IntKind.i64.wrap (x_86 + 1)))))) (some (.inr l_81))) (([] : List Int), 0)).bind fun l_120 => some l_120

noncomputable def D.spec_l9Part (x0 : (List Int)) (x1 : (List Int)) : Option (Bool) :=
  (D.spec_l8Meet x0 x1).bind fun y_1 => some ((y_1.length : Int) == (x0.length : Int))

noncomputable def D.spec_l9In (x0_0 : (List (List Int))) (x0_1 : (List (List Int))) (x1 : (List Int)) : Option (Bool) :=
  (loopF (σ := Int) (ρ := (Unit) ⊕ (Bool)) (fun (x_42 : Int) => cond (decide (x_42 < (x0_0.length : Int))) ((idx x0_0 x_42).bind fun e_62 => (D.spec_l9Part x1 e_62).bind fun y_68 => cond y_68 (some (.inr (.inr true))) (some (.inl (IntKind.i64.wrap (x_42 + 1))))) (some (.inr (.inl ())))) 0).bind fun zz => match zz with | .inl _ => (some false) | .inr z => (some z)

noncomputable def D.spec_l9With (x0_0 : (List (List Int))) (x0_1 : (List (List Int))) (x1 : Int) : Option (((List Int))) :=
  (loopF (σ := (List Int) × Int) (ρ := ((List Int))) (fun (s_68 : (List Int) × Int) => match s_68 with | (l_71, x_76) => cond (decide (x_76 < (x0_0.length : Int))) ((idx x0_0 x_76).bind fun e_111 => (D.spec_l1Has e_111 x1).bind fun y_117 => cond y_117 ((appendD l_71 ([x_76] : List Int)).bind fun l_129 => some (.inl (l_129, (IntKind.i64.wrap (x_76 + 1))))) (some (.inl (l_71, (IntKind.i64.wrap (x_76 + 1)))))) (some (.inr l_71))) (([] : List Int), 0)).bind fun l_104 => some l_104

noncomputable def D.spec_DecompOk (x0_0 : (List (List Int))) (x1_0 : (List (List Int))) (x1_1 : (List (List Int))) : Option (Bool) :=
  (D.spec_GraphOk x0_0).bind fun y_5 => (cond (!y_5) (some true) ((D.spec_l9Tree x1_0 x1_1).bind fun y_31 => some (!y_31))).bind fun b_29 => cond b_29 (some false) ((loopF (σ := Int) (ρ := (Unit) ⊕ (Bool)) (fun (x_80 : Int) => cond (decide (x_80 < (x1_0.length : Int))) ((idx x1_0 x_80).bind fun e_101 => (D.spec_l1Size x0_0).bind fun y_107 => (D.spec_l1Set e_101 y_107).bind fun y_110 => cond (!y_110) (some (.inr (.inr false))) (some (.inl (IntKind.i64.wrap (x_80 + 1))))) (some (.inr (.inl ())))) 0).bind fun zz => match zz with | .inl _ => ((D.spec_l1Edges x0_0).bind fun y_116 => (loopF (σ := Int) (ρ := (Unit) ⊕ (Bool)) (fun (x_162 : Int) => cond (decide (x_162 < (y_116.length : Int))) ((idx y_116 x_162).bind fun e_180 => (D.spec_l9In x1_0 x1_1 e_180).bind fun y_186 => cond (!y_186) (some (.inr (.inr false))) (some (.inl (IntKind.i64.wrap (x_162 + 1))))) (some (.inr (.inl ())))) 0).bind fun zz => match zz with | .inl _ => ((loopF (σ := Int) (ρ := (Unit) ⊕ (Bool)) (fun (x_311 : Int) => (D.spec_l1Size x0_0).bind fun y_370 => cond (decide (x_311 < y_370)) ((D.spec_l9With x1_0 x1_1 x_311).bind fun y_378 => (cond ((y_378.length : Int) == 0) (some true) ((D.spec_l9Reached x1_0 x1_1 y_378).bind fun y_414 => some (y_414 != (y_378.length : Int)))).bind fun b_412 => cond b_412 (some (.inr (.inr false))) (some (.inl (IntKind.i64.wrap (x_311 + 1))))) (some (.inr (.inl ())))) 0).bind fun zz => match zz with | .inl _ => (some true) | .inr z => (some z)) | .inr z => (some z)) | .inr z => (some z))

noncomputable def D.spec_l1Max (x0 : Int) (x1 : Int) : Option (Int) :=
  cond (decide (x1 < x0)) (some x0) (some x1)

end Go.Sx

namespace Go.Sx

noncomputable def D.impl_bagMasks (x0 : (List (List Int))) : Option (((List Int))) :=
  (loopF (σ := (List Int) × Int) (ρ := ((List Int))) (fun (s_64 : (List Int) × Int) => match s_64 with | (l_67, x_72) => cond (decide (x_72 < (x0.length : Int))) ((idx x0 x_72).bind fun e_106 => (D.impl_maskOf e_106).bind fun y_112 => (appendD l_67 ([y_112] : List Int)).bind fun l_123 => some (.inl (l_123, (IntKind.i64.wrap (x_72 + 1))))) (some (.inr l_67))) (([] : List Int), 0)).bind fun l_99 => some l_99

noncomputable def D.impl_vset_has (x0 : Int) (x1 : Int) : Option (Bool) :=
  cond (decide (x1 < 0)) none (some ((iand .u32 (ishr .u32 x0 x1) 1) == 1))

noncomputable def D.impl_coversEdges (x0 : (List Int)) (x1 : (List Int)) : Option (Bool) :=
  (loopF (σ := Int) (ρ := (Unit) ⊕ (Bool)) (fun (x_198 : Int) => cond (decide (x_198 < (x0.length : Int))) ((idx x0 x_198).bind fun e_297 => (loopF (σ := Int × Int) (ρ := (Int)) (fun (s_340 : Int × Int) => match s_340 with | (x_343, x_344) => cond (decide (x_344 < (x1.length : Int))) ((idx x1 x_344).bind fun e_365 => (D.impl_vset_has e_365 x_198).bind fun y_371 => cond y_371 (some (.inl ((ior .u32 x_343 e_365), (IntKind.i64.wrap (x_344 + 1))))) (some (.inl (x_343, (IntKind.i64.wrap (x_344 + 1)))))) (some (.inr x_343))) (0, 0)).bind fun x_362 => (D.impl_vset_has x_362 x_198).bind fun y_379 => cond ((!y_379) || ((iandNot .u32 e_297 x_362) != 0)) (some (.inr (.inr false))) (some (.inl (IntKind.i64.wrap (x_198 + 1))))) (some (.inr (.inl ())))) 0).bind fun zz => match zz with | .inl _ => (some true) | .inr z => (some z)

end Go.Sx

namespace Go.Sx

noncomputable def D.impl_eliminate (x0 : (List Int)) (x1 : Int) (x2 : Int) : Option (((List Int))) :=
  (idx x0 x2).bind fun e_1 => (D.impl_one x2).bind fun y_7 => (D.impl_vset_list (iandNot .u32 (iand .u32 e_1 x1) y_7)).bind fun y_12 => (loopF (σ := (List Int) × Int) (ρ := ((List Int))) (fun (s_80 : (List Int) × Int) => match s_80 with | (l_83, x_86) => cond (decide (x_86 < (y_12.length : Int))) ((idx y_12 x_86).bind fun e_118 => (idx l_83 e_118).bind fun e_124 => (D.impl_one e_118).bind fun y_130 => (idx l_83 e_118).bind fun e_133 => some (.inl ((l_83.set (Int.toNat e_118) (ior .u32 e_124 (iandNot .u32 (iandNot .u32 (iand .u32 e_1 x1) y_7) y_130))), (IntKind.i64.wrap (x_86 + 1))))) (some (.inr l_83))) (x0, 0)).bind fun l_113 => some l_113

end Go.Sx

namespace Go.Sx

end Go.Sx

namespace Go.Sx

noncomputable def D.spec_l1Min (x0 : Int) (x1 : Int) : Option (Int) :=
  cond (decide (x0 < x1)) (some x0) (some x1)

end Go.Sx

namespace Go.Sx

end Go.Sx

namespace Go.Sx

noncomputable def D.impl_nets_join (x0 : (List Int)) (x1 : Int) (x2 : Int) : Option (((List Int))) :=
  (idx x0 x1).bind fun e_1 => (D.impl_one x2).bind fun y_7 => (idx x0 x1).bind fun e_10 => (idx (x0.set (Int.toNat x1) (ior .u32 e_1 y_7)) x2).bind fun e_18 => (D.impl_one x1).bind fun y_24 => (idx (x0.set (Int.toNat x1) (ior .u32 e_1 y_7)) x2).bind fun e_27 => some ((x0.set (Int.toNat x1) (ior .u32 e_1 y_7)).set (Int.toNat x2) (ior .u32 e_18 y_24))

end Go.Sx

/- A row of own rows of which one is out of it, and comes back. Regions whose order is drawn, beside what they write. -/
namespace Go.Sx
section
variable {W w : World} {G : GH} {H : List Itm}
theorem hole_atom {v : Value} {t1 t2 : TypeId} {rows : List (Value × List Value)} {k i : Nat} {h : Itm} (hi : ((parts v t1 t2 rows).eraseIdx k)[i]? = some h) : h.foot = h.foot0 ∧ ∀ w, h.ok w ↔ h.ok0 w := by
  rw [List.getElem?_eraseIdx] at hi
  split at hi
  · exact parts_atom hi
  · exact parts_atom hi
theorem Mem.hole {v : Value} {t1 t2 : TypeId} {rows : List (Value × List Value)} {k : Nat} : Mem W G w (.hole v t1 t2 rows k :: H) ↔ Mem W G w ((parts v t1 t2 rows).eraseIdx (k + 1) ++ H) := by
  refine Mem.group (fun x => ?_) ?_
  · show x ∈ ((parts v t1 t2 rows).eraseIdx (k + 1)).flatMap Itm.foot0 ↔ _
    rw [List.mem_flatMap]
    constructor
    · rintro ⟨h, hh, hx⟩
      obtain ⟨i, hi, he⟩ := List.getElem_of_mem hh
      have hi' : ((parts v t1 t2 rows).eraseIdx (k + 1))[i]? = some h := by rw [List.getElem?_eq_getElem hi, he]
      exact ⟨i, h, hi', by rw [(hole_atom hi').1]; exact hx⟩
    · rintro ⟨i, h, hi, hx⟩
      exact ⟨h, List.mem_of_getElem? hi, by rw [← (hole_atom hi).1]; exact hx⟩
  · constructor
    · rintro ⟨h1, h2⟩
      exact ⟨fun i h hi => ((hole_atom hi).2 w).2 (h1 i h hi), fun i j a b hij ha hb => by rw [(hole_atom ha).1, (hole_atom hb).1]; exact h2 i j a b hij ha hb⟩
    · rintro ⟨h1, h2⟩
      exact ⟨fun i h hi => ((hole_atom hi).2 w).1 (h1 i h hi), fun i j a b hij ha hb => by rw [← (hole_atom ha).1, ← (hole_atom hb).1]; exact h2 i j a b hij ha hb⟩
end

/-- own rows, of which the one at i is elsewhere -/
def OwH {α : Type} (R : Rep α) (t1 t2 : TypeId) (i : Int) (G : GH) (it : Itm) (v : Value) (xs : List (List α)) : Prop :=
  ∃ rows : List (Value × List Value), it = .hole v t1 t2 rows i.toNat ∧ 0 ≤ i ∧ i.toNat < xs.length ∧ rows.length = xs.length ∧ ∀ (k : Nat) (r : Value × List Value) (x : List α), k ≠ i.toNat → rows[k]? = some r → xs[k]? = some x → All2 (R G) r.2 x

section
variable {α : Type} {R : Rep α} {t1 t2 : TypeId} {W w : World} {G : GH} {it : Itm} {H : List Itm} {v c : Value} {xs : List (List α)} {e : List α} {i : Int}
theorem OwH.mono (hR : Mono R) {G' : GH} (hG : GLe G G') (h : OwH R t1 t2 i G it v xs) : OwH R t1 t2 i G' it v xs := by
  obtain ⟨rows, h1, h2, h3, h4, h5⟩ := h
  exact ⟨rows, h1, h2, h3, h4, fun k r x hk hr hx => (h5 k r x hk hr hx).mono (fun v x => hR G G' v x hG)⟩
/-- one of the rows goes out -/
theorem Ow2.out (h : Ow2 R t1 t2 G it v xs) (m : Mem W G w (it :: H)) (hi : idx xs i = some e) (hc : Head it i c) :
    ∃ it' inn, Mem W G w (it' :: inn :: H) ∧ OwH R t1 t2 i G it' v xs ∧ Ow R t2 G inn c e := by
  obtain ⟨rows, rfl, hl, hA⟩ := h
  obtain ⟨v0, s1, s2, rows0, r, e0, hr, rfl⟩ := hc
  cases e0
  obtain ⟨g0, g1, g2⟩ := idx_some hi
  have hlt : i.toNat < rows.length := by omega
  have m2 := Mem.deep.1 m
  have hpl : i.toNat + 1 < (parts v t1 t2 rows).length := by simp [parts]; omega
  have hp : (parts v t1 t2 rows ++ H)[i.toNat + 1]? = some (inner t2 r) := by
    rw [List.getElem?_append_left hpl]; simp [parts, hr]
  have m3 := m2.front (i.toNat + 1) hp
  rw [eraseIdx_append_left' hpl] at m3
  have m4 : Mem W G w ((parts v t1 t2 rows).eraseIdx (i.toNat + 1) ++ (inner t2 r :: H)) := by
    have hll : (((parts v t1 t2 rows).eraseIdx (i.toNat + 1))).length ≤ ((parts v t1 t2 rows).eraseIdx (i.toNat + 1) ++ H).length := by simp
    have := m3.back _ hll
    rwa [List.take_left, List.drop_left] at this
  have hAr := hA _ r e hr g2
  exact ⟨_, _, Mem.hole.2 m4, ⟨rows, rfl, g0, by omega, hl, fun k r x _ hr hx => hA k r x hr hx⟩, ⟨r.2, by simp [inner, hAr.1], hAr⟩⟩
end

section
variable {P : Program} {ops : Array Oper} {rest : List Oper} {n r : Assn} {x : List (Nat × Assn)} {a : Act} {w W : World} {G : GH} {H : List Itm} {N : Nat} {L : Slots}
variable {d : Nat} {t : TypeId} {pos : String} {af : Array Edge} {α : Type} {R : Rep α} {t1 t2 : TypeId} {xs : List (List α)} {v : Value}

end

end Go.Sx

/- Rows of records: each thing takes some cells, and there is no memory in them. -/
namespace Go.Sx
structure Rec (α : Type) where
  m : Nat
  enc : α → List Value
  len : ∀ x, (enc x).length = m
  pos : 0 < m
  one : ∀ x c, c ∈ enc x → c.oneCell' = true
section
variable {α : Type} (E : Rec α)
theorem Rec.size (xs : List α) : (xs.flatMap E.enc).length = xs.length * E.m := by
  induction xs with
  | nil => simp
  | cons x xs ih => rw [List.flatMap_cons, List.length_append, ih, E.len, List.length_cons, Nat.succ_mul]; omega
theorem Rec.get : ∀ (xs : List α) (i : Nat) (x : α) (j : Nat) (c : Value), xs[i]? = some x → (E.enc x)[j]? = some c → (xs.flatMap E.enc)[i * E.m + j]? = some c
  | [], i, x, j, c, hx, _ => by simp at hx
  | y :: xs, 0, x, j, c, hx, hc => by
    simp at hx; subst hx
    have hj := (List.getElem?_eq_some_iff.1 hc).1
    rw [List.flatMap_cons, Nat.zero_mul, Nat.zero_add, List.getElem?_append_left hj]; exact hc
  | y :: xs, i + 1, x, j, c, hx, hc => by
    simp at hx
    have ih := Rec.get xs i x j c hx hc
    rw [List.flatMap_cons, List.getElem?_append_right (by rw [E.len, Nat.succ_mul]; omega), E.len, Nat.succ_mul]
    rwa [show i * E.m + E.m + j - E.m = i * E.m + j by omega]
theorem Rec.put : ∀ (xs : List α) (i : Nat) (x y : α) (f : Nat) (ds : List Value), xs[i]? = some x → f + ds.length ≤ E.m → E.enc y = (E.enc x).take f ++ ds ++ (E.enc x).drop (f + ds.length) →
    (xs.flatMap E.enc).take (i * E.m + f) ++ ds ++ (xs.flatMap E.enc).drop (i * E.m + f + ds.length) = (xs.set i y).flatMap E.enc
  | [], i, x, y, f, ds, hx, _, _ => by simp at hx
  | z :: xs, 0, x, y, f, ds, hx, hf, hE => by
    simp at hx; subst hx
    have hl := E.len z
    rw [List.flatMap_cons, Nat.zero_mul, Nat.zero_add, List.set_cons_zero, List.flatMap_cons, hE, List.take_append_of_le_length (by omega), List.drop_append_of_le_length (by omega)]
    simp
  | z :: xs, i + 1, x, y, f, ds, hx, hf, hE => by
    simp at hx
    have ih := Rec.put xs i x y f ds hx hf hE
    have hl := E.len z
    rw [List.flatMap_cons, List.set_cons_succ, List.flatMap_cons, ← ih, Nat.succ_mul]
    have e1 : i * E.m + E.m + f = (E.enc z).length + (i * E.m + f) := by omega
    have e2 : i * E.m + E.m + f + ds.length = (E.enc z).length + (i * E.m + f + ds.length) := by omega
    rw [e1, List.take_length_add_append, ← e1, e2, List.drop_length_add_append]
    simp
end

/-- a slice of records in the sealed part -/
def RSr {α : Type} (E : Rec α) : Rep (List α) := fun G v xs =>
  (v = .slice none 0 0 ∧ xs = []) ∨ ∃ a cap, v = .slice (some a) xs.length cap ∧ xs.length ≤ cap ∧ cap ≤ maxLen ∧
    ∀ (k : Nat) (c : Value), (xs.flatMap E.enc)[k]? = some c → a.spot = Option.none ∧ Cell G a.block (a.off + k) c
section
variable {α : Type} {E : Rec α}
theorem RSr.mono (_ : True) : Mono (RSr E) := by
  rintro G G' v xs hG (h | ⟨a, cap, h1, h2, h3, h4⟩)
  · exact .inl h
  · exact .inr ⟨a, cap, h1, h2, h3, fun k c hc => ⟨(h4 k c hc).1, (h4 k c hc).2.mono hG⟩⟩
theorem RSr.nil (E : Rec α) (G : GH) : RSr E G (.slice none 0 0) [] := .inl ⟨rfl, rfl⟩
theorem RSr.len {G : GH} {v : Value} {xs : List α} (h : RSr E G v xs) : ∃ a c, v = .slice a xs.length c ∧ xs.length ≤ c ∧ c ≤ maxLen := by
  rcases h with ⟨rfl, rfl⟩ | ⟨a, cap, rfl, h1, h2, _⟩
  · exact ⟨none, 0, rfl, by simp, by simp [maxLen]⟩
  · exact ⟨_, cap, rfl, h1, h2⟩
theorem RSr.le {G : GH} {v : Value} {xs : List α} (h : RSr E G v xs) : (xs.length : Int) ≤ 9223372036854775807 := by
  obtain ⟨a, c, _, h1, h2⟩ := h.len
  have : maxLen ≤ 9223372036854775807 := by unfold maxLen; omega
  omega
theorem RSr.cells {G : GH} {v : Value} {xs : List α} (h : RSr E G v xs) : v.cells = #[v] := by obtain ⟨a, c, rfl, _⟩ := h.len; rfl
theorem RSr.one1 {G : GH} {v : Value} {xs : List α} (h : RSr E G v xs) : v.oneCell' = true := by obtain ⟨a, c, rfl, _⟩ := h.len; rfl

/-- the place of a record that is read -/
def AtR (E : Rec α) (G : GH) (p : Value) (x : α) : Prop := ∃ b o, p = .pointer (some ⟨b, o, none⟩) ∧ ∀ (j : Nat) (c : Value), (E.enc x)[j]? = some c → Cell G b (o + j) c
theorem AtR.mono {G G' : GH} (h : GLe G G') {p : Value} {x : α} (k : AtR E G p x) : AtR E G' p x := by
  obtain ⟨b, o, e, hc⟩ := k
  exact ⟨b, o, e, fun j c hj => (hc j c hj).mono h⟩
theorem RSr.at {G : GH} {v : Value} {xs : List α} (h : RSr E G v xs) {i : Int} {x : α} (he : idx xs i = some x) :
    ∃ b off n c, v = .slice (some ⟨b, off, none⟩) n c ∧ 0 ≤ i ∧ i < n ∧ ∀ (j : Nat) (c : Value), (E.enc x)[j]? = some c → Cell G b (off + i.toNat * E.m + j) c := by
  obtain ⟨h0, h1, h2⟩ := idx_some he
  rcases h with ⟨_, rfl⟩ | ⟨⟨b, off, sp⟩, cap, rfl, _, _, h4⟩
  · simp at h2
  · have hl0 : 0 < (E.enc x).length := by rw [E.len]; exact E.pos
    have hs := (h4 _ _ (E.get xs _ x 0 (E.enc x)[0] h2 (by simp [hl0]))).1
    dsimp only at hs h4
    subst hs
    refine ⟨b, off, _, cap, rfl, h0, h1, fun j c hc => ?_⟩
    rw [Nat.add_assoc]
    exact (h4 _ c (E.get xs _ x j c h2 hc)).2

/-- an owned slice of records -/
def OwR (E : Rec α) (t : TypeId) (_ : GH) (it : Itm) (v : Value) (xs : List α) : Prop := it = .row v t E.m xs.length (xs.flatMap E.enc)
theorem OwR.mono (_ : True) {t : TypeId} {G G' : GH} {it : Itm} {v : Value} {xs : List α} (_ : GLe G G') (h : OwR E t G it v xs) : OwR E t G' it v xs := h
theorem OwR.free (_ : True) {t : TypeId} {G : GH} (G' : GH) {it : Itm} {v : Value} {xs : List α} (h : OwR E t G it v xs) : OwR E t G' it v xs := h
theorem OwR.has {t : TypeId} {W w : World} {G G' : GH} {it : Itm} {H : List Itm} {v : Value} {xs : List α} (h : OwR E t G it v xs) (m : Mem W G' w H) {j : Nat} (hj : H[j]? = some it) : w.ownsRow 0 t E.m v xs.length (xs.flatMap E.enc) := by
  subst h; exact m.items j _ hj
theorem OwR.len {t : TypeId} {W w : World} {G G' : GH} {it : Itm} {H : List Itm} {v : Value} {xs : List α} (h : OwR E t G it v xs) (m : Mem W G' w H) {j : Nat} (hj : H[j]? = some it) :
    ∃ a c, v = .slice a xs.length c ∧ xs.length ≤ c ∧ c ≤ maxLen := by
  rcases (h.has m hj).2 with ⟨h1, h2⟩ | ⟨g, cap, cur, h1, _, _, h2, h3, _⟩
  · exact ⟨none, 0, by rw [h1, h2], by omega, by simp [maxLen]⟩
  · exact ⟨_, cap, h1, h2, h3⟩
theorem OwR.cells {t : TypeId} {W w : World} {G : GH} {it : Itm} {H : List Itm} {v : Value} {xs : List α} (j : Nat) (m : Mem W G w H) (h : OwR E t G it v xs) (hj : H[j]? = some it) : v.cells = #[v] := by
  obtain ⟨a, c, rfl, _⟩ := h.len m hj; rfl
theorem OwR.one1 {t : TypeId} {W w : World} {G : GH} {it : Itm} {H : List Itm} {v : Value} {xs : List α} (j : Nat) (m : Mem W G w H) (h : OwR E t G it v xs) (hj : H[j]? = some it) : v.oneCell' = true := by
  obtain ⟨a, c, rfl, _⟩ := h.len m hj; rfl
theorem OwR.nil (E : Rec α) (t : TypeId) {W w : World} {G : GH} {H : List Itm} (m : Mem W G w H) : ∃ it, Mem W G w (it :: H) ∧ OwR E t G it (.slice none 0 0) [] :=
  ⟨_, m.nilrow t E.m, by simp [OwR]⟩
/-- what is owned reads, once it is sealed -/
theorem OwR.reads {t : TypeId} {w : World} {G' : GH} {it : Itm} {v : Value} {xs : List α} (h : it = .row v t E.m xs.length (xs.flatMap E.enc)) (hok : it.ok w) (hG : ∀ x ∈ it.foot, G' x = w.heap[x]?) : RSr E G' v xs := by
  subst h
  have this : w.ownsRow 0 t E.m v xs.length (xs.flatMap E.enc) := hok
  rcases this.2 with ⟨e1, e2⟩ | ⟨g, cap, cur, e1, _, eh, e2, e3, e4, e5⟩
  · exact .inl ⟨e1, List.eq_nil_of_length_eq_zero e2⟩
  · refine .inr ⟨⟨g, 0, none⟩, cap, e1, e2, e3, fun k c hc => ⟨rfl, cur, t, (0, 0), ?_, ?_⟩⟩
    · rw [hG g (by rw [e1]; simp [Itm.foot, Value.ownBlock]), eh]
    · rw [← e5, List.getElem?_take] at hc
      split at hc
      · simpa using hc
      · cases hc
theorem OwR.stamp (_ : True) {t : TypeId} {W w : World} {G : GH} {it : Itm} {H : List Itm} {v : Value} {xs : List α} (h : OwR E t G it v xs) (m : Mem W G w (it :: H)) :
    ∃ G', GLe G G' ∧ Mem W G' w H ∧ RSr E G' v xs := by
  obtain ⟨G', h1, h2, h3, _⟩ := m.stamp
  exact ⟨G', h1, h2, OwR.reads h (m.items 0 it (by simp)) h3⟩
theorem OwR.lend {t : TypeId} {W w : World} {G : GH} {it : Itm} {H : List Itm} {v : Value} {xs : List α} (h : OwR E t G it v xs) (m : Mem W G w (it :: H)) :
    ∃ G', GLe G G' ∧ Mem W G' w H ∧ RSr E G' v xs ∧
      ∀ G'' w' H', GLe G' G'' → Mem W G'' w' H' → ∃ G₃, GLe G G₃ ∧ Mem W G₃ w' (it :: H') ∧ OwR E t G₃ it v xs := by
  obtain ⟨G', h1, h2, h3, h4⟩ := m.stamp
  have hok : it.ok w := m.items 0 it (by simp)
  have hap : ∀ x ∈ it.foot, G x = none := m.apart 0 it (by simp)
  have hlt := Itm.lt hok
  refine ⟨G', h1, h2, OwR.reads h hok h3, fun G'' w' H' hle m' => ?_⟩
  have hx : ∀ x ∈ it.foot, G'' x = w.heap[x]? := fun x hx => by
    have hl := hlt x hx
    have : G' x = some w.heap[x] := by rw [h3 x hx]; simp [hl]
    rw [hle x _ this]; simp [hl]
  refine ⟨_, fun b o k => ?_, m'.unstamp hx hok (fun i z hz x hxz hxi => ?_) (fun x hxi => ?_), h⟩
  · have : b ∉ it.foot := fun hx => by rw [hap b hx] at k; cases k
    simp [this, hle b o (h1 b o k)]
  · have h5 := m'.apart i z hz x hxz
    have hl := hlt x hxi
    rw [hx x hxi] at h5
    simp [hl] at h5
  · cases hg : W.heap[x]? with
    | none => rfl
    | some o => have h5 := m.base x o hg; rw [hap x hxi] at h5; cases h5
theorem OwR.lendCall {P : Program} {g : FuncId} {args : Array Value} (_ : True) {t : TypeId} {W w : World} {G : GH} {it : Itm} {H : List Itm} {v : Value} {xs : List α} {Q : GH → List Itm → Value → Prop} (j : Nat)
    (h : OwR E t G it v xs) (m : Mem W G w H) (hj : H[j]? = some it)
    (hc : ∀ G₁, GLe G G₁ → Mem W G₁ w (H.eraseIdx j) → RSr E G₁ v xs → Calls P g args w (Res W G₁ (H.eraseIdx j) Q)) (hQ : ∀ G G' Ho v, Q G Ho v → Q G' Ho v) : Calls P g args w (Res W G H Q) := by
  obtain ⟨G₁, h1, m1, h2, back⟩ := h.lend (m.front j hj)
  refine (hc G₁ h1 m1 h2).mono fun e w' ⟨r, he, G₂, Ho, h3, m2, hq⟩ => ?_
  obtain ⟨G₃, h4, m3, _⟩ := back G₂ w' _ h3 m2
  refine ⟨r, he, G₃, Ho, h4, ?_, hQ _ _ _ _ hq⟩
  have hl : j < H.length := (List.getElem?_eq_some_iff.1 hj).1
  have m4 := m3.back (Ho.length + j) (by simp [List.length_eraseIdx, hl]; omega)
  have e : (Ho ++ H.eraseIdx j).take (Ho.length + j) ++ it :: (Ho ++ H.eraseIdx j).drop (Ho.length + j) = Ho ++ H := by
    rw [List.take_length_add_append, List.drop_length_add_append, List.append_assoc]
    congr 1
    rw [set_eq_erase H j it hl]
    apply List.ext_getElem?
    intro k
    rw [List.getElem?_set]
    split
    · rename_i e; subst e; simp [hl] at hj ⊢; exact hj.symm
    · rfl
  rwa [e] at m4
end

section
variable {P : Program} {ops : Array Oper} {rest : List Oper} {n r : Assn} {x : List (Nat × Assn)} {a : Act} {w : World} {N : Nat} {L : Slots}
variable {d : Nat} {t : TypeId} {pos : String} {af : Array Edge} {W : World} {G : GH} {H : List Itm} {α : Type} {E : Rec α}

theorem AtR.cell {p : Value} {y : α} (h : AtR E G p y) {fo : Nat} {c : Value} (hc : (E.enc y)[fo]? = some c) : ∃ b o, p = .pointer (some ⟨b, o, none⟩) ∧ Cell G b (o + fo) c := by
  obtain ⟨b, o, e, hh⟩ := h
  exact ⟨b, o, e, hh fo c hc⟩
end

section
variable {P : Program} {ops : Array Oper} {nn r : Assn} {x : List (Nat × Assn)} {T : Act → World → Prop} {W : World} {G : GH} {E H : List Itm} {N : Nat} {L : Slots} {a : Act} {fuel : Nat} {listed listed' : Array Bool}
variable {t : TypeId} {pos : String} {af : Array Edge} {gd : Option (Nat × Bool)} {d i : Nat} {α : Type} {C : Rec α}

end
end Go.Sx

/- Rows of own rows are sorted: while they are moved, what lies behind them is sealed, and each carries its header. Over any program. -/
namespace Go.Sx

/-- an element that is a header, and how what lies behind it reads -/
def RTg {α : Type} (R : Rep α) : Rep (Value × List α) := fun G v x => v = x.1 ∧ RSl R G v x.2
theorem RTg.mono {α : Type} {R : Rep α} (hR : Mono R) : Mono (RTg R) := fun _ _ _ _ hG h => ⟨h.1, RSl.mono hR _ _ _ _ hG h.2⟩
theorem RTg.one {α : Type} (R : Rep α) : One (RTg R) := fun _ _ _ h => RSl.one R _ _ _ h.2
theorem RTg.cells {α : Type} {R : Rep α} {G : GH} {v : Value} {x : Value × List α} (h : RTg R G v x) : v.cells = #[v] := h.2.cells
theorem RTg.one1 {α : Type} {R : Rep α} {G : GH} {v : Value} {x : Value × List α} (h : RTg R G v x) : v.oneCell' = true := h.2.one1

section
variable {W w : World} {G : GH} {H : List Itm}

theorem Mem.flip {A : List Itm} {x y : Itm} (m : Mem W G w (A ++ x :: y :: H)) : Mem W G w (A ++ y :: x :: H) := by
  refine m.inj (fun k => if k = A.length then A.length + 1 else if k = A.length + 1 then A.length else k) (by intro a b; split <;> split <;> (repeat' split) <;> omega) ?_
  intro k z hz
  by_cases h1 : k = A.length
  · subst h1; simp at hz ⊢; exact hz
  · by_cases h2 : k = A.length + 1
    · subst h2
      simp only [Nat.succ_ne_self, if_false, if_true]
      rw [List.getElem?_append_right (by omega)] at hz
      simp at hz ⊢; exact hz
    · simp only [h1, h2, if_false]
      by_cases h3 : k < A.length
      · rw [List.getElem?_append_left h3] at hz ⊢; exact hz
      · rw [List.getElem?_append_right (by omega)] at hz ⊢
        obtain ⟨q, hq⟩ : ∃ q, k - A.length = q + 2 := ⟨k - A.length - 2, by omega⟩
        rw [hq] at hz ⊢; exact hz

theorem Mem.perm {L L' : List Itm} (p : L.Perm L') : ∀ (A H : List Itm), Mem W G w (A ++ L ++ H) → Mem W G w (A ++ L' ++ H) := by
  induction p with
  | nil => exact fun _ _ m => m
  | cons x _ ih => intro A H m; have := ih (A ++ [x]) H (by simpa using m); simpa using this
  | swap x y l => intro A H m; have := Mem.flip (A := A) (H := l ++ H) (x := y) (y := x) (by simpa using m); simpa using this
  | trans _ _ i1 i2 => exact fun A H m => i2 A H (i1 A H m)

theorem Mem.stamps : ∀ (L : List Itm) {G : GH}, Mem W G w (L ++ H) → ∃ G', GLe G G' ∧ Mem W G' w H ∧ (∀ it ∈ L, ∀ x ∈ it.foot, G' x = w.heap[x]?) ∧ ∀ x, (∀ it ∈ L, x ∉ it.foot) → G' x = G x
  | [], G, m => ⟨G, GLe.refl G, m, by simp, fun _ _ => rfl⟩
  | it :: L, G, m => by
    obtain ⟨G1, h1, m1, h2, h3⟩ := Mem.stamp (h := it) m
    obtain ⟨G2, k1, m2, k2, k3⟩ := Mem.stamps L m1
    refine ⟨G2, h1.trans k1, m2, fun z hz x hx => ?_, fun x hx => ?_⟩
    · rcases List.mem_cons.1 hz with rfl | hz
      · have e1 := h2 x hx
        have hlt := Itm.lt (m.items 0 _ rfl) x hx
        have e : w.heap[x]? = some w.heap[x] := by simp [hlt]
        rw [e] at e1 ⊢; exact k1 x _ e1
      · exact k2 z hz x hx
    · rw [k3 x (fun z hz => hx z (List.mem_cons_of_mem _ hz)), h3 x (hx it (by simp))]

theorem Mem.unstamps {w0 : World} : ∀ (L : List Itm) {G : GH}, Mem W G w H → (∀ it ∈ L, ∀ x ∈ it.foot, G x = w0.heap[x]?) → (∀ it ∈ L, it.ok w0) → (∀ it ∈ L, ∀ x ∈ it.foot, W.heap[x]? = none) →
    L.Pairwise (fun a b => ∀ x ∈ a.foot, x ∉ b.foot) → ∃ G', Mem W G' w (L ++ H) ∧ ∀ x, (∀ it ∈ L, x ∉ it.foot) → G' x = G x
  | [], G, m, _, _, _, _ => ⟨G, m, fun _ _ => rfl⟩
  | it :: L, G, m, hx, hok, hW, hp => by
    obtain ⟨p1, p2⟩ := List.pairwise_cons.1 hp
    obtain ⟨G1, m1, k⟩ := Mem.unstamps L m (fun z hz => hx z (List.mem_cons_of_mem _ hz)) (fun z hz => hok z (List.mem_cons_of_mem _ hz)) (fun z hz => hW z (List.mem_cons_of_mem _ hz)) p2
    have hx1 : ∀ x ∈ it.foot, G1 x = w0.heap[x]? := fun x hxi => by
      rw [k x (fun z hz hxz => p1 z hz x hxi hxz), hx it (by simp) x hxi]
    refine ⟨_, m1.unstamp hx1 (hok it (by simp)) (fun i z hz x hxz hxi => ?_) (hW it (by simp)), fun x hxl => ?_⟩
    · have e1 := m1.apart i z hz x hxz
      rw [hx1 x hxi] at e1
      have hlt := Itm.lt (hok it (by simp)) x hxi
      simp [hlt] at e1
    · simp only [hxl it (by simp), if_false]
      exact k x (fun z hz => hxl z (List.mem_cons_of_mem _ hz))
end

theorem perm_of_map {α β : Type} (f : α → β) {zs ws : List β} (p : zs.Perm ws) : ∀ l : List α, l.map f = ws → ∃ l' : List α, l'.Perm l ∧ l'.map f = zs := by
  induction p with
  | nil => intro l h; exact ⟨l, List.Perm.refl _, h⟩
  | cons x _ ih =>
    intro l h
    match l, h with
    | a :: l, h =>
      simp at h
      obtain ⟨l', p', e⟩ := ih l h.2
      exact ⟨a :: l', p'.cons a, by simp [e, h.1]⟩
  | swap x y s =>
    intro l h
    match l, h with
    | a :: b :: l, h =>
      simp at h
      exact ⟨b :: a :: l, List.Perm.swap a b l, by simp [h.1, h.2.1, h.2.2]⟩
  | trans _ _ i1 i2 =>
    intro l h
    obtain ⟨l1, p1, e1⟩ := i2 l h
    obtain ⟨l2, p2, e2⟩ := i1 l1 e1
    exact ⟨l2, p2.trans p1, e2⟩

section
variable {P : Program} {g : FuncId} {args : Array Value} {α : Type} {R : Rep α} {t1 t2 : TypeId} {W w : World} {G : GH} {it : Itm} {H : List Itm} {v : Value} {xs ys : List (List α)}

/-- a sort of rows that are owned whole -/
theorem Ow2.sortCall (hF : Free R) (h : Ow2 R t1 t2 G it v xs) (m : Mem W G w (it :: H))
    (k : ∀ Z : List (Value × List α), Z.map (·.2) = xs → ∃ zs : List (Value × List α), zs.Perm Z ∧ zs.map (·.2) = ys ∧ ∀ G₁ it₁, Mem W G₁ w (it₁ :: H) → Ow (RTg R) t1 G₁ it₁ v Z →
      Calls P g args w (Res W G₁ H (fun G' Ho _ => ∃ it', Ho = [it'] ∧ Ow (RTg R) t1 G' it' v zs))) :
    Calls P g args w (Res W G H (fun G' Ho _ => ∃ it', Ho = [it'] ∧ Ow2 R t1 t2 G' it' v ys)) := by
  obtain ⟨rows, rfl, hl, hA⟩ := h
  have m2 : Mem W G w (Itm.row v t1 1 rows.length (rows.map (·.1)) :: (rows.map (inner t2) ++ H)) := by simpa [parts] using Mem.deep.1 m
  have m3 : Mem W G w (rows.map (inner t2) ++ (Itm.row v t1 1 rows.length (rows.map (·.1)) :: H)) := by
    have := m2.back (rows.map (inner t2)).length (by simp)
    simpa using this
  obtain ⟨G1, h1, m4, h2, h3⟩ := Mem.stamps _ m3
  let T := rows.zip xs
  let f : (Value × List Value) × List α → Value × List α := fun p => (p.1.1, p.2)
  have hT1 : T.map (·.1) = rows := List.map_fst_zip (by omega)
  have hT2 : T.map (·.2) = xs := List.map_snd_zip (by omega)
  have hZ : (T.map f).map (·.2) = xs := by rw [List.map_map]; exact hT2
  obtain ⟨zs, hp, he, kk⟩ := k (T.map f) hZ
  have hTl : T.length = rows.length := by rw [← hT1]; simp
  have hok : ∀ z ∈ rows.map (inner t2), z.ok w := fun z hz => by
    obtain ⟨i, hi, e⟩ := List.getElem_of_mem hz
    exact m3.items i z (by rw [List.getElem?_append_left hi, List.getElem?_eq_getElem hi, e])
  have o1 : Ow (RTg R) t1 G1 (.row v t1 1 rows.length (rows.map (·.1))) v (T.map f) := by
    refine ⟨rows.map (·.1), by simp [hTl], by simp [hTl], fun i c x hc hx => ?_⟩
    rw [List.getElem?_map] at hc hx
    cases hr : rows[i]? with
    | none => simp [hr] at hc
    | some r =>
      simp [hr] at hc; subst hc
      cases hx0 : xs[i]? with
      | none =>
        have := (List.getElem?_eq_some_iff.1 hr).1
        simp at hx0; omega
      | some x0 =>
        have e : T[i]? = some (r, x0) := by simp [T, List.getElem?_zip_eq_some, hr, hx0]
        rw [e] at hx; simp at hx; subst hx
        have hA' := hA i r x0 hr hx0
        have hm : inner t2 r ∈ rows.map (inner t2) := List.mem_map.2 ⟨r, List.mem_of_getElem? hr, rfl⟩
        refine ⟨rfl, rsl_of_row hA'.1 (hok _ hm) (fun y hy => h2 _ hm y hy) (hA'.mono fun v x => hF G G1 v x)⟩
  refine (kk G1 _ m4 o1).mono fun e w' ⟨r, hr, G2, Ho, h5, m5, it', e1, o2⟩ => ?_
  subst e1
  have hap : ∀ z ∈ rows.map (inner t2), ∀ x ∈ z.foot, G x = none := fun z hz => by
    obtain ⟨i, hi, e⟩ := List.getElem_of_mem hz
    exact m3.apart i z (by rw [List.getElem?_append_left hi, List.getElem?_eq_getElem hi, e])
  obtain ⟨G3, m6, h6⟩ := Mem.unstamps (w0 := w) (rows.map (inner t2)) m5
    (fun z hz x hx => by
      have e1 := h2 z hz x hx
      have hlt := Itm.lt (hok z hz) x hx
      have e : w.heap[x]? = some w.heap[x] := by simp [hlt]
      rw [e] at e1 ⊢; exact h5 x _ e1)
    hok
    (fun z hz x hx => by
      cases hg : W.heap[x]? with
      | none => rfl
      | some o => have := m3.base x o hg; rw [hap z hz x hx] at this; cases this)
    (by
      rw [List.pairwise_iff_getElem]
      intro i j hi hj hij x hx
      exact m3.disj i j _ _ (by omega) (by rw [List.getElem?_append_left hi, List.getElem?_eq_getElem hi]) (by rw [List.getElem?_append_left hj, List.getElem?_eq_getElem hj]) x hx)
  obtain ⟨T', hT, rfl⟩ := perm_of_map f hp T rfl
  obtain ⟨vs, rfl, hvs⟩ := o2
  have hv : vs = (T'.map (·.1)).map (·.1) := by
    apply List.ext_getElem
    · rw [hvs.1]; simp
    · intro i h7 h8
      have := (hvs.2 i vs[i] ((T'.map f)[i]'(by simpa using h8)) (by simp [h7]) (by simp at h8; simp [h8])).1
      rw [this]; simp [f]
  subst hv
  have hperm : (rows.map (inner t2)).Perm ((T'.map (·.1)).map (inner t2)) := by
    have := ((hT.map (·.1)).map (inner t2)).symm
    rwa [hT1] at this
  have m7 := Mem.perm hperm [] _ (by simpa using m6)
  have m8 := Mem.front m7 ((T'.map (·.1)).map (inner t2)).length (by simp only [List.nil_append]; rw [List.getElem?_append_right (by omega)]; simp; rfl)
  refine ⟨r, hr, G3, [.deep v t1 t2 (T'.map (·.1))], fun b o hb => ?_, Mem.deep.2 ?_, _, rfl, T'.map (·.1), rfl, by rw [← he]; simp, fun i r0 x0 hr0 hx0 => ?_⟩
  · rw [h6 b (fun z hz hbz => by rw [hap z hz b hbz] at hb; cases hb)]
    exact h5 b o (h1 b o hb)
  · rw [List.nil_append, List.eraseIdx_append_of_length_le (by omega), Nat.sub_self] at m8
    simpa [parts] using m8
  · rw [← he] at hx0
    rw [List.getElem?_map] at hr0
    cases ht : T'[i]? with
    | none => simp [ht] at hr0
    | some p =>
      simp [ht] at hr0 hx0
      subst hr0
      have hm : p ∈ T := hT.mem_iff.1 (List.mem_of_getElem? ht)
      obtain ⟨q, hq, e⟩ := List.getElem_of_mem hm
      have e2 : T[q]? = some p := by simp [hq, e]
      have e3 := List.getElem?_zip_eq_some.1 e2
      have hx1 : x0 = p.2 := by simpa [f] using hx0.symm
      rw [hx1]
      exact (hA q p.1 p.2 e3.1 e3.2).mono fun v x => hF G G3 v x

/-- a sort of rows that are sealed -/
theorem Ow.sortCall (h : Ow (RSl R) t1 G it v xs) (m : Mem W G w (it :: H))
    (k : ∀ Z : List (Value × List α), Z.map (·.2) = xs → ∃ zs : List (Value × List α), zs.Perm Z ∧ zs.map (·.2) = ys ∧ ∀ G₁ it₁, Mem W G₁ w (it₁ :: H) → Ow (RTg R) t1 G₁ it₁ v Z →
      Calls P g args w (Res W G₁ H (fun G' Ho _ => ∃ it', Ho = [it'] ∧ Ow (RTg R) t1 G' it' v zs))) :
    Calls P g args w (Res W G H (fun G' Ho _ => ∃ it', Ho = [it'] ∧ Ow (RSl R) t1 G' it' v ys)) := by
  obtain ⟨vs, rfl, hA⟩ := h
  have hl := hA.1
  obtain ⟨zs, hp, he, kk⟩ := k (vs.zip xs) (List.map_snd_zip (by omega))
  have o1 : Ow (RTg R) t1 G (.row v t1 1 xs.length vs) v (vs.zip xs) := by
    refine ⟨vs, by simp [hl], by simp [hl], fun i c x hc hx => ?_⟩
    obtain ⟨e1, e2⟩ := List.getElem?_zip_eq_some.1 hx
    rw [hc] at e1; cases e1
    exact ⟨rfl, hA.2 i _ _ hc e2⟩
  refine (kk G _ m o1).mono fun e w' ⟨r, hr, G2, Ho, h5, m5, it', e1, o2⟩ => ?_
  obtain ⟨us, rfl, hB⟩ := o2
  refine ⟨r, hr, G2, Ho, h5, m5, _, e1, us, by rw [← he]; simp, by rw [← he, hB.1]; simp, fun i c x hc hx => ?_⟩
  rw [← he, List.getElem?_map] at hx
  cases hz : zs[i]? with
  | none => simp [hz] at hx
  | some z => simp [hz] at hx; subst hx; exact (hB.2 i c z hc hz).2
end
end Go.Sx

/- Links, sorted: by their first numbers, then by their second ones. Plain. -/
namespace Go.Sx
def rowKey (l : List Int) : Int := l.getD 0 0 * 1048576 + l.getD 1 0
def rowGood (l : List Int) : Prop := l.length = 2 ∧ 0 ≤ l.getD 0 0 ∧ l.getD 0 0 < 1048576 ∧ 0 ≤ l.getD 1 0 ∧ l.getD 1 0 < 1048576
def keyLe (a b : List Int) : Bool := decide (rowKey a ≤ rowKey b)
open Classical in
noncomputable def sortRows (xs : List (List Int)) : Option (List (List Int)) := if xs.length ≤ 1000000 ∧ ∀ x ∈ xs, rowGood x then some (xs.mergeSort keyLe) else none
end Go.Sx

namespace Go.Sx

noncomputable def D.cmp_Compare_int64 (x0 : Int) (x1 : Int) : Option (Int) :=
  (D.cmp_isNaN_int64 x0).bind fun y_1 => (D.cmp_isNaN_int64 x1).bind fun y_8 => cond y_1 (cond y_8 (some 0) (some (-1))) (cond y_8 (some 1) (cond (decide (x0 < x1)) (some (-1)) (cond (decide (x1 < x0)) (some 1) (some 0))))

noncomputable def D.slices_Compare_int64_int64 (x0 : (List Int)) (x1 : (List Int)) : Option (Int) :=
  (loopF (σ := Int) (ρ := (Unit) ⊕ (Int)) (fun (x_54 : Int) => cond (decide (x_54 < (x0.length : Int))) ((idx x0 x_54).bind fun e_81 => cond (decide ((x1.length : Int) ≤ x_54)) (some (.inr (.inr 1))) ((idx x1 x_54).bind fun e_88 => (D.cmp_Compare_int64 e_81 e_88).bind fun y_94 => cond (y_94 != 0) (some (.inr (.inr y_94))) (some (.inl (IntKind.i64.wrap (x_54 + 1)))))) (some (.inr (.inl ())))) 0).bind fun zz => match zz with | .inl _ => (cond (decide ((x0.length : Int) < (x1.length : Int))) (some (-1)) (some 0)) | .inr z => (some z)

noncomputable def D.spec_l1Less (x0 : (List Int)) (x1 : (List Int)) : Option (Bool) :=
  cond ((x0.length : Int) != (x1.length : Int)) (some (decide ((x0.length : Int) < (x1.length : Int)))) ((loopF (σ := Int) (ρ := (Unit) ⊕ (Bool)) (fun (x_71 : Int) => cond (decide (x_71 < (x0.length : Int))) ((idx x0 x_71).bind fun e_106 => (idx x1 x_71).bind fun e_112 => cond (e_106 != e_112) ((idx x0 x_71).bind fun e_121 => (idx x1 x_71).bind fun e_127 => some (.inr (.inr (decide (e_121 < e_127))))) (some (.inl (IntKind.i64.wrap (x_71 + 1))))) (some (.inr (.inl ())))) 0).bind fun zz => match zz with | .inl _ => (some false) | .inr z => (some z))

noncomputable def D.spec_l9Link (x0 : (List (List Int))) (x1 : Int) (x2 : Int) : Option (((List (List Int)))) :=
  (D.spec_l1Min x1 x2).bind fun y_1 => (D.spec_l1Max x1 x2).bind fun y_8 => (loopF (σ := (List Int) × (List (List Int)) × Bool × Int) (ρ := ((List Int) × (List (List Int)) × Bool)) (fun (s_226 : (List Int) × (List (List Int)) × Bool × Int) => match s_226 with | (l_232, l_235, b_240, x_241) => cond (decide (x_241 < (x0.length : Int))) ((cond (!b_240) ((idx x0 x_241).bind fun e_374 => (D.spec_l1Less l_232 e_374).bind fun y_380 => some y_380) (some false)).bind fun b_372 => cond b_372 ((appendD l_235 ([l_232] : List (List Int))).bind fun l_392 => (idx x0 x_241).bind fun e_398 => (appendD l_392 ([e_398] : List (List Int))).bind fun l_408 => some (.inl (l_232, l_408, true, (IntKind.i64.wrap (x_241 + 1))))) ((idx x0 x_241).bind fun e_414 => (appendD l_235 ([e_414] : List (List Int))).bind fun l_424 => some (.inl (l_232, l_424, b_240, (IntKind.i64.wrap (x_241 + 1)))))) (some (.inr (l_232, l_235, b_240)))) (([y_1, y_8] : List Int), ([] : List (List Int)), false, 0)).bind fun (l_332, l_335, b_340) => cond (!b_340) ((appendD l_335 ([l_332] : List (List Int))).bind fun l_435 => some l_435) (some l_335)

noncomputable def D.slices_insertionSortCmpFunc_int64__slices_Compare_int64_int64 (x0 : (List (Value × List Int))) (x1 : Int) (x2 : Int) : Option (((List (Value × List Int)))) :=
  (loopF (σ := (List (Value × List Int)) × Int) (ρ := ((List (Value × List Int)))) (fun (s_560 : (List (Value × List Int)) × Int) => match s_560 with | (l_563, x_566) => cond (decide (x_566 < x2)) ((loopF (σ := (List (Value × List Int)) × Int) (ρ := ((List (Value × List Int)))) (fun (s_984 : (List (Value × List Int)) × Int) => match s_984 with | (l_987, x_990) => (cond (decide (x1 < x_990)) ((idx l_987 x_990).bind fun e_1079 => (idx l_987 (IntKind.i64.wrap (x_990 - 1))).bind fun e_1085 => (D.slices_Compare_int64_int64 e_1079.2 e_1085.2).bind fun y_1091 => some (decide (y_1091 < 0))) (some false)).bind fun b_1077 => cond b_1077 ((idx l_987 (IntKind.i64.wrap (x_990 - 1))).bind fun e_1097 => (idx l_987 x_990).bind fun e_1103 => (idx l_987 x_990).bind fun e_1109 => (idx (l_987.set (Int.toNat x_990) e_1097) (IntKind.i64.wrap (x_990 - 1))).bind fun e_1117 => some (.inl (((l_987.set (Int.toNat x_990) e_1097).set (Int.toNat (IntKind.i64.wrap (x_990 - 1))) e_1103), (IntKind.i64.wrap (x_990 - 1))))) (some (.inr l_987))) (l_563, x_566)).bind fun l_1056 => some (.inl (l_1056, (IntKind.i64.wrap (x_566 + 1))))) (some (.inr l_563))) (x0, (IntKind.i64.wrap (x1 + 1)))).bind fun l_844 => some l_844

noncomputable def D.slices_siftDownCmpFunc_int64__slices_Compare_int64_int64 (x0 : (List (Value × List Int))) (x1 : Int) (x2 : Int) (x3 : Int) : Option (((List (Value × List Int)))) :=
  (loopF (σ := (List (Value × List Int)) × Int) (ρ := ((List (Value × List Int))) ⊕ (((List (Value × List Int))))) (fun (s_186 : (List (Value × List Int)) × Int) => match s_186 with | (l_189, x_192) => cond (decide (x2 ≤ (IntKind.i64.wrap ((IntKind.i64.wrap (2 * x_192)) + 1)))) (some (.inr (.inl l_189))) ((cond (decide ((IntKind.i64.wrap ((IntKind.i64.wrap ((IntKind.i64.wrap (2 * x_192)) + 1)) + 1)) < x2)) ((idx l_189 (IntKind.i64.wrap (x3 + (IntKind.i64.wrap ((IntKind.i64.wrap (2 * x_192)) + 1))))).bind fun e_307 => (idx l_189 (IntKind.i64.wrap ((IntKind.i64.wrap (x3 + (IntKind.i64.wrap ((IntKind.i64.wrap (2 * x_192)) + 1)))) + 1))).bind fun e_313 => (D.slices_Compare_int64_int64 e_307.2 e_313.2).bind fun y_319 => some (decide (y_319 < 0))) (some false)).bind fun b_305 => ((cond b_305 (some (IntKind.i64.wrap ((IntKind.i64.wrap ((IntKind.i64.wrap (2 * x_192)) + 1)) + 1))) (some (IntKind.i64.wrap ((IntKind.i64.wrap (2 * x_192)) + 1))) : Option (Int))).bind fun x_328 => (idx l_189 (IntKind.i64.wrap (x3 + x_192))).bind fun e_331 => (idx l_189 (IntKind.i64.wrap (x3 + x_328))).bind fun e_337 => (D.slices_Compare_int64_int64 e_331.2 e_337.2).bind fun y_343 => cond (!(decide (y_343 < 0))) (some (.inr (.inr l_189))) ((idx l_189 (IntKind.i64.wrap (x3 + x_328))).bind fun e_349 => (idx l_189 (IntKind.i64.wrap (x3 + x_192))).bind fun e_355 => (idx l_189 (IntKind.i64.wrap (x3 + x_192))).bind fun e_361 => (idx (l_189.set (Int.toNat (IntKind.i64.wrap (x3 + x_192))) e_349) (IntKind.i64.wrap (x3 + x_328))).bind fun e_369 => some (.inl (((l_189.set (Int.toNat (IntKind.i64.wrap (x3 + x_192))) e_349).set (Int.toNat (IntKind.i64.wrap (x3 + x_328))) e_355), x_328))))) (x0, x1)).bind fun zz => match zz with | .inl l_283 => (some l_283) | .inr z => (some z)

noncomputable def D.slices_heapSortCmpFunc_int64__slices_Compare_int64_int64 (x0 : (List (Value × List Int))) (x1 : Int) (x2 : Int) : Option (((List (Value × List Int)))) :=
  (loopF (σ := (List (Value × List Int)) × Int) (ρ := ((List (Value × List Int)))) (fun (s_30 : (List (Value × List Int)) × Int) => match s_30 with | (l_33, x_36) => cond (decide ((0 : Int) ≤ x_36)) ((D.slices_siftDownCmpFunc_int64__slices_Compare_int64_int64 l_33 x_36 (IntKind.i64.wrap (x2 - x1)) x1).bind fun y_54 => some (.inl (y_54, (IntKind.i64.wrap (x_36 - 1))))) (some (.inr l_33))) (x0, (IntKind.i64.wrap (Int.tdiv (IntKind.i64.wrap ((IntKind.i64.wrap (x2 - x1)) - 1)) 2)))).bind fun l_49 => (loopF (σ := (List (Value × List Int)) × Int) (ρ := ((List (Value × List Int)))) (fun (s_144 : (List (Value × List Int)) × Int) => match s_144 with | (l_147, x_150) => cond (decide ((0 : Int) ≤ x_150)) ((idx l_147 (IntKind.i64.wrap (x1 + x_150))).bind fun e_194 => (idx l_147 x1).bind fun e_200 => (idx l_147 x1).bind fun e_206 => (idx (l_147.set (Int.toNat x1) e_194) (IntKind.i64.wrap (x1 + x_150))).bind fun e_214 => (D.slices_siftDownCmpFunc_int64__slices_Compare_int64_int64 ((l_147.set (Int.toNat x1) e_194).set (Int.toNat (IntKind.i64.wrap (x1 + x_150))) e_200) 0 x_150 x1).bind fun y_220 => some (.inl (y_220, (IntKind.i64.wrap (x_150 - 1))))) (some (.inr l_147))) (l_49, (IntKind.i64.wrap ((IntKind.i64.wrap (x2 - x1)) - 1)))).bind fun l_189 => some l_189

noncomputable def D.slices_breakPatternsCmpFunc_int64__slices_Compare_int64_int64 (x0 : (List (Value × List Int))) (x1 : Int) (x2 : Int) : Option (((List (Value × List Int)))) :=
  cond (decide ((8 : Int) ≤ (IntKind.i64.wrap (x2 - x1)))) ((D.slices_nextPowerOfTwo (IntKind.i64.wrap (x2 - x1))).bind fun y_4 => (loopF (σ := (List (Value × List Int)) × Int × Int) (ρ := ((List (Value × List Int)))) (fun (s_103 : (List (Value × List Int)) × Int × Int) => match s_103 with | (l_106, x_109, x_110) => cond (decide (x_109 ≤ (IntKind.i64.wrap ((IntKind.i64.wrap (x1 + (IntKind.i64.wrap ((IntKind.i64.wrap (Int.tdiv (IntKind.i64.wrap (x2 - x1)) 4)) * 2)))) + 1)))) ((D.slices_xorshift_Next x_110).bind fun y_159 => ((cond (decide ((IntKind.i64.wrap (x2 - x1)) ≤ (IntKind.i64.wrap (iand .u64 y_159.1 (IntKind.u64.wrap (y_4 - 1)))))) (some (IntKind.i64.wrap ((IntKind.i64.wrap (iand .u64 y_159.1 (IntKind.u64.wrap (y_4 - 1)))) - (IntKind.i64.wrap (x2 - x1))))) (some (IntKind.i64.wrap (iand .u64 y_159.1 (IntKind.u64.wrap (y_4 - 1))))) : Option (Int))).bind fun x_170 => (idx l_106 (IntKind.i64.wrap (x1 + x_170))).bind fun e_173 => (idx l_106 x_109).bind fun e_179 => (idx l_106 x_109).bind fun e_185 => (idx (l_106.set (Int.toNat x_109) e_173) (IntKind.i64.wrap (x1 + x_170))).bind fun e_193 => some (.inl (((l_106.set (Int.toNat x_109) e_173).set (Int.toNat (IntKind.i64.wrap (x1 + x_170))) e_179), (IntKind.i64.wrap (x_109 + 1)), y_159.2))) (some (.inr l_106))) (x0, (IntKind.i64.wrap ((IntKind.i64.wrap (x1 + (IntKind.i64.wrap ((IntKind.i64.wrap (Int.tdiv (IntKind.i64.wrap (x2 - x1)) 4)) * 2)))) - 1)), (IntKind.u64.wrap (IntKind.i64.wrap (x2 - x1))))).bind fun l_154 => some l_154) (some x0)

noncomputable def D.slices_order2CmpFunc_int64__slices_Compare_int64_int64 (x0 : (List (Value × List Int))) (x1 : Int) (x2 : Int) (x3_0 : Int) : Option (Int × Int × ((List (Value × List Int))) × Int) :=
  (idx x0 x2).bind fun e_1 => (idx x0 x1).bind fun e_7 => (D.slices_Compare_int64_int64 e_1.2 e_7.2).bind fun y_13 => cond (decide (y_13 < 0)) (some (x2, x1, x0, (IntKind.i64.wrap (x3_0 + 1)))) (some (x1, x2, x0, x3_0))

noncomputable def D.slices_medianCmpFunc_int64__slices_Compare_int64_int64 (x0 : (List (Value × List Int))) (x1 : Int) (x2 : Int) (x3 : Int) (x4_0 : Int) : Option (Int × ((List (Value × List Int))) × Int) :=
  (D.slices_order2CmpFunc_int64__slices_Compare_int64_int64 x0 x1 x2 x4_0).bind fun y_1 => (D.slices_order2CmpFunc_int64__slices_Compare_int64_int64 y_1.2.2.1 y_1.2.1 x3 y_1.2.2.2).bind fun y_10 => (D.slices_order2CmpFunc_int64__slices_Compare_int64_int64 y_10.2.2.1 y_1.1 y_10.1 y_10.2.2.2).bind fun y_19 => some (y_19.2.1, y_19.2.2.1, y_19.2.2.2)

noncomputable def D.slices_medianAdjacentCmpFunc_int64__slices_Compare_int64_int64 (x0 : (List (Value × List Int))) (x1 : Int) (x2_0 : Int) : Option (Int × ((List (Value × List Int))) × Int) :=
  (D.slices_medianCmpFunc_int64__slices_Compare_int64_int64 x0 (IntKind.i64.wrap (x1 - 1)) x1 (IntKind.i64.wrap (x1 + 1)) x2_0).bind fun y_1 => some (y_1.1, y_1.2.1, y_1.2.2)

noncomputable def D.slices_choosePivotCmpFunc_int64__slices_Compare_int64_int64 (x0 : (List (Value × List Int))) (x1 : Int) (x2 : Int) : Option (Int × Int × ((List (Value × List Int)))) :=
  cond (decide ((8 : Int) ≤ (IntKind.i64.wrap (x2 - x1)))) (((cond (decide ((50 : Int) ≤ (IntKind.i64.wrap (x2 - x1)))) ((D.slices_medianAdjacentCmpFunc_int64__slices_Compare_int64_int64 x0 (IntKind.i64.wrap (x1 + (IntKind.i64.wrap ((IntKind.i64.wrap (Int.tdiv (IntKind.i64.wrap (x2 - x1)) 4)) * 1)))) 0).bind fun y_44 => (D.slices_medianAdjacentCmpFunc_int64__slices_Compare_int64_int64 y_44.2.1 (IntKind.i64.wrap (x1 + (IntKind.i64.wrap ((IntKind.i64.wrap (Int.tdiv (IntKind.i64.wrap (x2 - x1)) 4)) * 2)))) y_44.2.2).bind fun y_53 => (D.slices_medianAdjacentCmpFunc_int64__slices_Compare_int64_int64 y_53.2.1 (IntKind.i64.wrap (x1 + (IntKind.i64.wrap ((IntKind.i64.wrap (Int.tdiv (IntKind.i64.wrap (x2 - x1)) 4)) * 3)))) y_53.2.2).bind fun y_62 => some (y_62.2.1, y_44.1, y_53.1, y_62.1, y_62.2.2)) (some (x0, (IntKind.i64.wrap (x1 + (IntKind.i64.wrap ((IntKind.i64.wrap (Int.tdiv (IntKind.i64.wrap (x2 - x1)) 4)) * 1)))), (IntKind.i64.wrap (x1 + (IntKind.i64.wrap ((IntKind.i64.wrap (Int.tdiv (IntKind.i64.wrap (x2 - x1)) 4)) * 2)))), (IntKind.i64.wrap (x1 + (IntKind.i64.wrap ((IntKind.i64.wrap (Int.tdiv (IntKind.i64.wrap (x2 - x1)) 4)) * 3)))), 0)) : Option ((List (Value × List Int)) × Int × Int × Int × Int))).bind fun (l_35, x_38, x_39, x_40, x_41) => (D.slices_medianCmpFunc_int64__slices_Compare_int64_int64 l_35 x_38 x_39 x_40 x_41).bind fun y_71 => cond (y_71.2.2 == 0) (some (y_71.1, 1, y_71.2.1)) (cond (y_71.2.2 == 12) (some (y_71.1, 2, y_71.2.1)) (some (y_71.1, 0, y_71.2.1)))) (cond ((0 : Int) == 0) (some ((IntKind.i64.wrap (x1 + (IntKind.i64.wrap ((IntKind.i64.wrap (Int.tdiv (IntKind.i64.wrap (x2 - x1)) 4)) * 2)))), 1, x0)) (cond ((0 : Int) == 12) (some ((IntKind.i64.wrap (x1 + (IntKind.i64.wrap ((IntKind.i64.wrap (Int.tdiv (IntKind.i64.wrap (x2 - x1)) 4)) * 2)))), 2, x0)) (some ((IntKind.i64.wrap (x1 + (IntKind.i64.wrap ((IntKind.i64.wrap (Int.tdiv (IntKind.i64.wrap (x2 - x1)) 4)) * 2)))), 0, x0))))

noncomputable def D.slices_reverseRangeCmpFunc_int64__slices_Compare_int64_int64 (x0 : (List (Value × List Int))) (x1 : Int) (x2 : Int) : Option (((List (Value × List Int)))) :=
  (loopF (σ := (List (Value × List Int)) × Int × Int) (ρ := ((List (Value × List Int)))) (fun (s_65 : (List (Value × List Int)) × Int × Int) => match s_65 with | (l_68, x_71, x_72) => cond (decide (x_71 < x_72)) ((idx l_68 x_72).bind fun e_107 => (idx l_68 x_71).bind fun e_113 => (idx l_68 x_71).bind fun e_119 => (idx (l_68.set (Int.toNat x_71) e_107) x_72).bind fun e_127 => some (.inl (((l_68.set (Int.toNat x_71) e_107).set (Int.toNat x_72) e_113), (IntKind.i64.wrap (x_71 + 1)), (IntKind.i64.wrap (x_72 - 1))))) (some (.inr l_68))) (x0, x1, (IntKind.i64.wrap (x2 - 1)))).bind fun l_102 => some l_102

noncomputable def D.slices_partialInsertionSortCmpFunc_int64__slices_Compare_int64_int64 (x0 : (List (Value × List Int))) (x1 : Int) (x2 : Int) : Option (Bool × ((List (Value × List Int)))) :=
  (loopF (σ := (List (Value × List Int)) × Int × Int) (ρ := ((List (Value × List Int))) ⊕ (Bool × ((List (Value × List Int))))) (fun (s_1625 : (List (Value × List Int)) × Int × Int) => match s_1625 with | (l_1628, x_1631, x_1632) => cond (decide (x_1632 < 5)) ((loopF (σ := Int) (ρ := (Int)) (fun (x_2530 : Int) => (cond (decide (x_2530 < x2)) ((idx l_1628 x_2530).bind fun e_2591 => (idx l_1628 (IntKind.i64.wrap (x_2530 - 1))).bind fun e_2597 => (D.slices_Compare_int64_int64 e_2591.2 e_2597.2).bind fun y_2603 => some (!(decide (y_2603 < 0)))) (some false)).bind fun b_2589 => cond b_2589 (some (.inl (IntKind.i64.wrap (x_2530 + 1)))) (some (.inr x_2530))) x_1631).bind fun x_2570 => cond (x_2570 == x2) (some (.inr (.inr (true, l_1628)))) (cond (decide ((IntKind.i64.wrap (x2 - x1)) < 50)) (some (.inr (.inr (false, l_1628)))) ((idx l_1628 (IntKind.i64.wrap (x_2570 - 1))).bind fun e_2611 => (idx l_1628 x_2570).bind fun e_2617 => (idx l_1628 x_2570).bind fun e_2623 => (idx (l_1628.set (Int.toNat x_2570) e_2611) (IntKind.i64.wrap (x_2570 - 1))).bind fun e_2631 => ((cond (decide ((2 : Int) ≤ (IntKind.i64.wrap (x_2570 - x1)))) ((loopF (σ := (List (Value × List Int)) × Int) (ρ := ((List (Value × List Int)))) (fun (s_2947 : (List (Value × List Int)) × Int) => match s_2947 with | (l_2950, x_2953) => cond (decide ((1 : Int) ≤ x_2953)) ((idx l_2950 x_2953).bind fun e_3006 => (idx l_2950 (IntKind.i64.wrap (x_2953 - 1))).bind fun e_3012 => (D.slices_Compare_int64_int64 e_3006.2 e_3012.2).bind fun y_3018 => cond (!(decide (y_3018 < 0))) (some (.inr l_2950)) ((idx l_2950 (IntKind.i64.wrap (x_2953 - 1))).bind fun e_3024 => (idx l_2950 x_2953).bind fun e_3030 => (idx l_2950 x_2953).bind fun e_3036 => (idx (l_2950.set (Int.toNat x_2953) e_3024) (IntKind.i64.wrap (x_2953 - 1))).bind fun e_3044 => some (.inl (((l_2950.set (Int.toNat x_2953) e_3024).set (Int.toNat (IntKind.i64.wrap (x_2953 - 1))) e_3030), (IntKind.i64.wrap (x_2953 - 1)))))) (some (.inr l_2950))) (((l_1628.set (Int.toNat x_2570) e_2611).set (Int.toNat (IntKind.i64.wrap (x_2570 - 1))) e_2617), (IntKind.i64.wrap (x_2570 - 1)))).bind fun l_3001 => some l_3001) (some ((l_1628.set (Int.toNat x_2570) e_2611).set (Int.toNat (IntKind.i64.wrap (x_2570 - 1))) e_2617)) : Option ((List (Value × List Int))))).bind fun l_2843 => cond (decide ((2 : Int) ≤ (IntKind.i64.wrap (x2 - x_2570)))) ((loopF (σ := (List (Value × List Int)) × Int) (ρ := ((List (Value × List Int)))) (fun (s_3150 : (List (Value × List Int)) × Int) => match s_3150 with | (l_3153, x_3156) => cond (decide (x_3156 < x2)) ((idx l_3153 x_3156).bind fun e_3209 => (idx l_3153 (IntKind.i64.wrap (x_3156 - 1))).bind fun e_3215 => (D.slices_Compare_int64_int64 e_3209.2 e_3215.2).bind fun y_3221 => cond (!(decide (y_3221 < 0))) (some (.inr l_3153)) ((idx l_3153 (IntKind.i64.wrap (x_3156 - 1))).bind fun e_3227 => (idx l_3153 x_3156).bind fun e_3233 => (idx l_3153 x_3156).bind fun e_3239 => (idx (l_3153.set (Int.toNat x_3156) e_3227) (IntKind.i64.wrap (x_3156 - 1))).bind fun e_3247 => some (.inl (((l_3153.set (Int.toNat x_3156) e_3227).set (Int.toNat (IntKind.i64.wrap (x_3156 - 1))) e_3233), (IntKind.i64.wrap (x_3156 + 1)))))) (some (.inr l_3153))) (l_2843, (IntKind.i64.wrap (x_2570 + 1)))).bind fun l_3204 => some (.inl (l_3204, x_2570, (IntKind.i64.wrap (x_1632 + 1))))) (some (.inl (l_2843, x_2570, (IntKind.i64.wrap (x_1632 + 1)))))))) (some (.inr (.inl l_1628)))) (x0, (IntKind.i64.wrap (x1 + 1)), 0)).bind fun zz => match zz with | .inl l_2442 => (some (false, l_2442)) | .inr z => (some z)

noncomputable def D.slices_partitionEqualCmpFunc_int64__slices_Compare_int64_int64 (x0 : (List (Value × List Int))) (x1 : Int) (x2 : Int) (x3 : Int) : Option (Int × ((List (Value × List Int)))) :=
  (idx x0 x3).bind fun e_1 => (idx x0 x1).bind fun e_7 => (idx x0 x1).bind fun e_13 => (idx (x0.set (Int.toNat x1) e_1) x3).bind fun e_21 => (loopF (σ := (List (Value × List Int)) × Int × Int) (ρ := ((List (Value × List Int)) × Int)) (fun (s_739 : (List (Value × List Int)) × Int × Int) => match s_739 with | (l_742, x_745, x_746) => (loopF (σ := Int) (ρ := (Int)) (fun (x_1188 : Int) => (cond (decide (x_1188 ≤ x_746)) ((idx l_742 x1).bind fun e_1249 => (idx l_742 x_1188).bind fun e_1255 => (D.slices_Compare_int64_int64 e_1249.2 e_1255.2).bind fun y_1261 => some (!(decide (y_1261 < 0)))) (some false)).bind fun b_1247 => cond b_1247 (some (.inl (IntKind.i64.wrap (x_1188 + 1)))) (some (.inr x_1188))) x_745).bind fun x_1228 => (loopF (σ := Int) (ρ := (Int)) (fun (x_1350 : Int) => (cond (decide (x_1228 ≤ x_1350)) ((idx l_742 x1).bind fun e_1411 => (idx l_742 x_1350).bind fun e_1417 => (D.slices_Compare_int64_int64 e_1411.2 e_1417.2).bind fun y_1423 => some (decide (y_1423 < 0))) (some false)).bind fun b_1409 => cond b_1409 (some (.inl (IntKind.i64.wrap (x_1350 - 1)))) (some (.inr x_1350))) x_746).bind fun x_1390 => cond (decide (x_1390 < x_1228)) (some (.inr (l_742, x_1228))) ((idx l_742 x_1390).bind fun e_1430 => (idx l_742 x_1228).bind fun e_1436 => (idx l_742 x_1228).bind fun e_1442 => (idx (l_742.set (Int.toNat x_1228) e_1430) x_1390).bind fun e_1450 => some (.inl (((l_742.set (Int.toNat x_1228) e_1430).set (Int.toNat x_1390) e_1436), (IntKind.i64.wrap (x_1228 + 1)), (IntKind.i64.wrap (x_1390 - 1)))))) (((x0.set (Int.toNat x1) e_1).set (Int.toNat x3) e_7), (IntKind.i64.wrap (x1 + 1)), (IntKind.i64.wrap (x2 - 1)))).bind fun (l_1100, x_1103) => some (x_1103, l_1100)

noncomputable def D.slices_partitionCmpFunc_int64__slices_Compare_int64_int64 (x0 : (List (Value × List Int))) (x1 : Int) (x2 : Int) (x3 : Int) : Option (Int × Bool × ((List (Value × List Int)))) :=
  (idx x0 x3).bind fun e_1 => (idx x0 x1).bind fun e_7 => (idx x0 x1).bind fun e_13 => (idx (x0.set (Int.toNat x1) e_1) x3).bind fun e_21 => (loopF (σ := Int) (ρ := (Int)) (fun (x_110 : Int) => (cond (decide (x_110 ≤ (IntKind.i64.wrap (x2 - 1)))) ((idx ((x0.set (Int.toNat x1) e_1).set (Int.toNat x3) e_7) x_110).bind fun e_171 => (idx ((x0.set (Int.toNat x1) e_1).set (Int.toNat x3) e_7) x1).bind fun e_177 => (D.slices_Compare_int64_int64 e_171.2 e_177.2).bind fun y_183 => some (decide (y_183 < 0))) (some false)).bind fun b_169 => cond b_169 (some (.inl (IntKind.i64.wrap (x_110 + 1)))) (some (.inr x_110))) (IntKind.i64.wrap (x1 + 1))).bind fun x_150 => (loopF (σ := Int) (ρ := (Int)) (fun (x_272 : Int) => (cond (decide (x_150 ≤ x_272)) ((idx ((x0.set (Int.toNat x1) e_1).set (Int.toNat x3) e_7) x_272).bind fun e_333 => (idx ((x0.set (Int.toNat x1) e_1).set (Int.toNat x3) e_7) x1).bind fun e_339 => (D.slices_Compare_int64_int64 e_333.2 e_339.2).bind fun y_345 => some (!(decide (y_345 < 0)))) (some false)).bind fun b_331 => cond b_331 (some (.inl (IntKind.i64.wrap (x_272 - 1)))) (some (.inr x_272))) (IntKind.i64.wrap (x2 - 1))).bind fun x_312 => cond (decide (x_312 < x_150)) ((idx ((x0.set (Int.toNat x1) e_1).set (Int.toNat x3) e_7) x1).bind fun e_352 => (idx ((x0.set (Int.toNat x1) e_1).set (Int.toNat x3) e_7) x_312).bind fun e_358 => (idx ((x0.set (Int.toNat x1) e_1).set (Int.toNat x3) e_7) x_312).bind fun e_364 => (idx (((x0.set (Int.toNat x1) e_1).set (Int.toNat x3) e_7).set (Int.toNat x_312) e_352) x1).bind fun e_372 => some (x_312, true, ((((x0.set (Int.toNat x1) e_1).set (Int.toNat x3) e_7).set (Int.toNat x_312) e_352).set (Int.toNat x1) e_358))) ((idx ((x0.set (Int.toNat x1) e_1).set (Int.toNat x3) e_7) x_312).bind fun e_378 => (idx ((x0.set (Int.toNat x1) e_1).set (Int.toNat x3) e_7) x_150).bind fun e_384 => (idx ((x0.set (Int.toNat x1) e_1).set (Int.toNat x3) e_7) x_150).bind fun e_390 => (idx (((x0.set (Int.toNat x1) e_1).set (Int.toNat x3) e_7).set (Int.toNat x_150) e_378) x_312).bind fun e_398 => (loopF (σ := (List (Value × List Int)) × Int × Int) (ρ := ((List (Value × List Int)) × Int)) (fun (s_1116 : (List (Value × List Int)) × Int × Int) => match s_1116 with | (l_1119, x_1122, x_1123) => (loopF (σ := Int) (ρ := (Int)) (fun (x_1565 : Int) => (cond (decide (x_1565 ≤ x_1123)) ((idx l_1119 x_1565).bind fun e_1626 => (idx l_1119 x1).bind fun e_1632 => (D.slices_Compare_int64_int64 e_1626.2 e_1632.2).bind fun y_1638 => some (decide (y_1638 < 0))) (some false)).bind fun b_1624 => cond b_1624 (some (.inl (IntKind.i64.wrap (x_1565 + 1)))) (some (.inr x_1565))) x_1122).bind fun x_1605 => (loopF (σ := Int) (ρ := (Int)) (fun (x_1727 : Int) => (cond (decide (x_1605 ≤ x_1727)) ((idx l_1119 x_1727).bind fun e_1788 => (idx l_1119 x1).bind fun e_1794 => (D.slices_Compare_int64_int64 e_1788.2 e_1794.2).bind fun y_1800 => some (!(decide (y_1800 < 0)))) (some false)).bind fun b_1786 => cond b_1786 (some (.inl (IntKind.i64.wrap (x_1727 - 1)))) (some (.inr x_1727))) x_1123).bind fun x_1767 => cond (decide (x_1767 < x_1605)) (some (.inr (l_1119, x_1767))) ((idx l_1119 x_1767).bind fun e_1807 => (idx l_1119 x_1605).bind fun e_1813 => (idx l_1119 x_1605).bind fun e_1819 => (idx (l_1119.set (Int.toNat x_1605) e_1807) x_1767).bind fun e_1827 => some (.inl (((l_1119.set (Int.toNat x_1605) e_1807).set (Int.toNat x_1767) e_1813), (IntKind.i64.wrap (x_1605 + 1)), (IntKind.i64.wrap (x_1767 - 1)))))) (((((x0.set (Int.toNat x1) e_1).set (Int.toNat x3) e_7).set (Int.toNat x_150) e_378).set (Int.toNat x_312) e_384), (IntKind.i64.wrap (x_150 + 1)), (IntKind.i64.wrap (x_312 - 1)))).bind fun (l_1477, x_1480) => (idx l_1477 x1).bind fun e_1833 => (idx l_1477 x_1480).bind fun e_1839 => (idx l_1477 x_1480).bind fun e_1845 => (idx (l_1477.set (Int.toNat x_1480) e_1833) x1).bind fun e_1853 => some (x_1480, false, ((l_1477.set (Int.toNat x_1480) e_1833).set (Int.toNat x1) e_1839)))

noncomputable def D.slices_pdqsortCmpFunc_int64__slices_Compare_int64_int64R : Nat → ((List (Value × List Int))) → Int → Int → Int → Option (((List (Value × List Int))))
  | 0, _, _, _, _ => none
  | fuel + 1, x0, x1, x2, x3 => (loopF (σ := (List (Value × List Int)) × Int × Int × Int × Bool × Bool) (ρ := (((List (Value × List Int))))) (fun (s_398 : (List (Value × List Int)) × Int × Int × Int × Bool × Bool) => match s_398 with | (l_401, x_404, x_405, x_406, b_407, b_408) => cond (decide ((IntKind.i64.wrap (x_405 - x_404)) ≤ 12)) ((D.slices_insertionSortCmpFunc_int64__slices_Compare_int64_int64 l_401 x_404 x_405).bind fun y_411 => some (.inr y_411)) (cond (x_406 == 0) ((D.slices_heapSortCmpFunc_int64__slices_Compare_int64_int64 l_401 x_404 x_405).bind fun y_421 => some (.inr y_421)) (((cond (!b_407) ((D.slices_breakPatternsCmpFunc_int64__slices_Compare_int64_int64 l_401 x_404 x_405).bind fun y_449 => some (y_449, (IntKind.i64.wrap (x_406 - 1)))) (some (l_401, x_406)) : Option ((List (Value × List Int)) × Int))).bind fun (l_443, x_446) => (D.slices_choosePivotCmpFunc_int64__slices_Compare_int64_int64 l_443 x_404 x_405).bind fun y_458 => ((cond (y_458.2.1 == 2) ((D.slices_reverseRangeCmpFunc_int64__slices_Compare_int64_int64 y_458.2.2 x_404 x_405).bind fun y_487 => some (y_487, (IntKind.i64.wrap ((IntKind.i64.wrap (x_405 - 1)) - (IntKind.i64.wrap (y_458.1 - x_404)))), 1)) (some (y_458.2.2, y_458.1, y_458.2.1)) : Option ((List (Value × List Int)) × Int × Int))).bind fun (l_480, x_483, x_484) => ((cond ((b_407 && b_408) && (x_484 == 1)) ((D.slices_partialInsertionSortCmpFunc_int64__slices_Compare_int64_int64 l_480 x_404 x_405).bind fun y_521 => cond y_521.1 (some (.inr y_521.2)) (some (.inl y_521.2))) (some (.inl l_480)) : Option (((List (Value × List Int))) ⊕ (((List (Value × List Int))))))).bind fun q => match q with | .inl l_516 => ((cond (decide ((0 : Int) < x_404)) ((idx l_516 (IntKind.i64.wrap (x_404 - 1))).bind fun e_550 => (idx l_516 x_483).bind fun e_556 => (D.slices_Compare_int64_int64 e_550.2 e_556.2).bind fun y_562 => some (!(decide (y_562 < 0)))) (some false)).bind fun b_548 => cond b_548 ((D.slices_partitionEqualCmpFunc_int64__slices_Compare_int64_int64 l_516 x_404 x_405 x_483).bind fun y_568 => some (.inl (y_568.2, y_568.1, x_405, x_446, b_407, b_408))) ((D.slices_partitionCmpFunc_int64__slices_Compare_int64_int64 l_516 x_404 x_405 x_483).bind fun y_577 => cond (decide ((IntKind.i64.wrap (y_577.1 - x_404)) < (IntKind.i64.wrap (x_405 - y_577.1)))) ((D.slices_pdqsortCmpFunc_int64__slices_Compare_int64_int64R fuel y_577.2.2 x_404 y_577.1 x_446).bind fun y_587 => some (.inl (y_587, (IntKind.i64.wrap (y_577.1 + 1)), x_405, x_446, (decide ((IntKind.i64.wrap (Int.tdiv (IntKind.i64.wrap (x_405 - x_404)) 8)) ≤ (IntKind.i64.wrap (y_577.1 - x_404)))), y_577.2.1))) ((D.slices_pdqsortCmpFunc_int64__slices_Compare_int64_int64R fuel y_577.2.2 (IntKind.i64.wrap (y_577.1 + 1)) x_405 x_446).bind fun y_596 => some (.inl (y_596, x_404, y_577.1, x_446, (decide ((IntKind.i64.wrap (Int.tdiv (IntKind.i64.wrap (x_405 - x_404)) 8)) ≤ (IntKind.i64.wrap (x_405 - y_577.1)))), y_577.2.1))))) | .inr q => (some (.inr q))))) (x0, x1, x2, x3, true, true)).bind fun z => some z

noncomputable def D.slices_pdqsortCmpFunc_int64__slices_Compare_int64_int64 (x0 : (List (Value × List Int))) (x1 : Int) (x2 : Int) (x3 : Int) : Option (((List (Value × List Int)))) := D.slices_pdqsortCmpFunc_int64__slices_Compare_int64_int64R recFuel x0 x1 x2 x3

noncomputable def D.slices_SortFunc_int64_int64__slices_Compare_int64_int64 (x0 : (List (Value × List Int))) : Option (((List (Value × List Int)))) :=
  (D.math_bits_Len (IntKind.u64.wrap (x0.length : Int))).bind fun y_1 => (D.slices_pdqsortCmpFunc_int64__slices_Compare_int64_int64 x0 0 (x0.length : Int) y_1).bind fun y_8 => some y_8

end Go.Sx

/- A slice held against nil. Over any program. -/
namespace Go.Sx
def isNil : Value → Bool
  | .slice none _ _ => true
  | _ => false
section
variable {P : Program} {ρ : Operand → Value} {w : World} {d : Option Tmp} {t : TypeId} {pos : String} {af : Array Edge} {gd : Option (Nat × Bool)}
theorem run_eq_nil_aux (dd : Nat) {u e : TypeId} {v : Value} (hu : P.underlying u = some (.slice e)) (hv : ∃ a l c, v = .slice a l c) : (Op.equalIn (dd + 1) u v (.slice none 0 0)).run P w = .ok (isNil v) w := by
  obtain ⟨a, l, c, rfl⟩ := hv
  cases a <;> simp [Op.equalIn, run_underlying hu, isNil]
theorem run_eq_nil {u e : TypeId} {v : Value} (hu : P.underlying u = some (.slice e)) (hv : ∃ a l c, v = .slice a l c) : (Op.equal u v (.slice none 0 0)).run P w = .ok (isNil v) w := run_eq_nil_aux 9999 hu hv
theorem r_nil_eql {u u' e : TypeId} {x y : Operand} {v : Value} {b : Bool} (hx : ρ x = v) (hy : ρ y = .slice none 0 0) (hv : ∃ a l c, v = .slice a l c) (hu : P.underlying u = some (.slice e)) (hb : isNil v = b) :
    (execOp ρ ⟨d, .binOp .eql u x y u', t, pos, af, gd⟩).run P w = .ok (.value (.bool b)) w := by
  have hg : (eqGuard .eql u x y v (.slice none 0 0)).run P w = .ok () w := by
    obtain ⟨a, l, c, rfl⟩ := hv
    unfold eqGuard; rfl
  have e1 : (binOp .eql u v (.slice none 0 0)).run P w = .ok (.bool b) w := by
    rw [← hb]
    have := run_eq_nil (w := w) hu hv
    obtain ⟨a, l, c, rfl⟩ := hv
    simp [binOp, this]
  simp [execOp, hx, hy, hg, e1]
end
theorem RSl.hdr {α : Type} {R : Rep α} {G : GH} {v : Value} {xs : List α} (h : RSl R G v xs) : ∃ a l c, v = .slice a l c := by
  obtain ⟨a, c, rfl, _⟩ := h.len; exact ⟨_, _, _, rfl⟩
theorem RSl.nil_inv {α : Type} {R : Rep α} {G : GH} {v : Value} {xs : List α} (h : RSl R G v xs) (hn : isNil v = true) : xs = [] := by
  obtain ⟨vs, hA, h⟩ := h
  rcases h with ⟨rfl, h⟩ | ⟨a, c, rfl, h1, h2, h3⟩
  · exact h
  · simp [isNil] at hn
theorem Ow.hdr {α : Type} {R : Rep α} {t : TypeId} {W w : World} {G : GH} {it : Itm} {H : List Itm} {v : Value} {xs : List α} (j : Nat) (m : Mem W G w H) (h : Ow R t G it v xs) (hj : H[j]? = some it) : ∃ a l c, v = .slice a l c := by
  obtain ⟨a, c, rfl, _⟩ := h.len (m.front j hj); exact ⟨_, _, _, rfl⟩
section
variable {P : Program} {ops : Array Oper} {rest : List Oper} {n r : Assn} {x : List (Nat × Assn)} {a : Act} {w : World} {N : Nat} {L : Slots} {d : Nat} {t : TypeId} {pos : String} {af : Array Edge}
theorem l_makeFunc {fn : Fn} {fs cs : List Operand} {vs us : List Value} (f : Fr a N L) (hN : Nat.blt d N = true) (hf : evalAll L fs = some vs) (hc : evalAll L cs = some us)
    (k : ∀ a', Fr a' N ((d, .func fn vs.toArray us.toArray) :: L) → wpList P ops (Qk n x r) rest a' w) :
    wpList P ops (Qk n x r) (⟨some d, .makeFunc fn fs.toArray cs.toArray, t, pos, af, none⟩ :: rest) a w := by
  refine l_op f rfl rfl hN (r_makeFunc (v := .func fn vs.toArray us.toArray) ?_) k
  rw [List.map_toArray, List.map_toArray, f.evalAll hf, f.evalAll hc]
  rfl
end
end Go.Sx

/- Elements go out of an owned slice in place, and what stays behind them is wiped. Over any program. -/
namespace Go.Sx
def delD {α : Type} (xs : List α) (i j : Int) : Option (List α) := if 0 ≤ i ∧ i < j ∧ j ≤ xs.length then some (xs.take i.toNat ++ xs.drop j.toNat) else none

section
variable {P : Program} {ops : Array Oper} {rest : List Oper} {n r : Assn} {x : List (Nat × Assn)} {a : Act} {w w' W : World} {G : GH} {H : List Itm} {N : Nat} {L : Slots}
variable {d : Nat} {t : TypeId} {pos : String} {af : Array Edge}
theorem l_op0 {o : Oper} {v : Value} (hg : o.guard = none) (hd : o.dst = none) (hr : (execOp a.eval o).run P w = .ok (.value v) w') (k : wpList P ops (Qk n x r) rest a w') :
    wpList P ops (Qk n x r) (o :: rest) a w := by
  refine wpList_plain hg fun K hK => ?_
  unfold Oper.wp
  rw [hr]
  simp only [Oper.upon, hd]
  exact hK _ _ k

theorem r_slice3 {ρ : Operand → Value} {u e sz bytes : Nat} {z : Value} {xo o1 o2 o3 : Operand} {av : Option Addr} {nn c : Nat} {i j q : Int} {k1 k2 k3 : IntKind} {dd : Option Tmp} {gd : Option (Nat × Bool)} (hu : SlT P u e sz bytes z)
    (hx : ρ xo = .slice av nn c) (h1 : ρ o1 = .int k1 i) (h2 : ρ o2 = .int k2 j) (h3 : ρ o3 = .int k3 q) (g0 : 0 ≤ i) (g1 : i ≤ j) (g2 : j ≤ q) (g3 : q ≤ c) :
    ∃ v, (execOp ρ ⟨dd, .slice u xo (some o1) (some o2) (some o3), t, pos, af, gd⟩).run P w = .ok (.value v) w := by
  obtain ⟨ti, hi1, hi2, hi3, hi4⟩ := hu.info
  have hj0 : 0 ≤ j := by omega
  have hq0 : 0 ≤ q := by omega
  have ej : (j.toNat : Int) = j := by omega
  have eq : (q.toNat : Int) = q := by omega
  simp [execOp, hx, h1, h2, h3, Instr.sliceAt, Instr.slice, run_underlying hu.und, Instr.sliceBounds, Instr.sliceBound, asIntOf, g0, g1, g2, g3, hj0, hq0, ej, eq, sizeOf, typeInfo, hi1, hi2]

theorem l_slice3 {u e sz bytes : Nat} {z : Value} {xo o1 o2 o3 : Operand} {av : Option Addr} {nn c : Nat} {i j q : Int} {k1 k2 k3 : IntKind} (hu : SlT P u e sz bytes z) (f : Fr a N L) (hN : Nat.blt d N = true)
    (hx : evalL L xo = some (.slice av nn c)) (h1 : evalL L o1 = some (.int k1 i)) (h2 : evalL L o2 = some (.int k2 j)) (h3 : evalL L o3 = some (.int k3 q)) (g0 : 0 ≤ i) (g1 : i ≤ j) (g2 : j ≤ q) (g3 : q ≤ c)
    (k : ∀ v a', Fr a' N ((d, v) :: L) → wpList P ops (Qk n x r) rest a' w) :
    wpList P ops (Qk n x r) (⟨some d, .slice u xo (some o1) (some o2) (some o3), t, pos, af, none⟩ :: rest) a w := by
  obtain ⟨v, hv⟩ := r_slice3 (P := P) (w := w) (t := t) (pos := pos) (af := af) (dd := some d) (gd := none) hu (f.eval hx) (f.eval h1) (f.eval h2) (f.eval h3) g0 g1 g2 g3
  exact l_op f rfl rfl hN hv (fun a' f' => k v a' f')

theorem Ow.block {α : Type} {R : Rep α} {tt : TypeId} {it : Itm} {v : Value} {xs : List α} (m : Mem W G w (it :: H)) (o : Ow R tt G it v xs) (hx : 0 < xs.length) : ∃ b c, v = .slice (some ⟨b, 0, none⟩) xs.length c ∧ xs.length ≤ c := by
  obtain ⟨vs, rfl, hA⟩ := o
  have ok := m.items 0 _ rfl
  rcases ok.2 with ⟨rfl, e⟩ | ⟨g, cap, cur, rfl, _, _, e2, _⟩
  · omega
  · exact ⟨g, cap, rfl, e2⟩

theorem r_slice_lo {ρ : Operand → Value} {u e bytes : Nat} {z : Value} {xo o2 : Operand} {b nn c : Nat} {j : Int} {k2 : IntKind} {dd : Option Tmp} {gd : Option (Nat × Bool)} (hu : SlT P u e 1 bytes z)
    (hx : ρ xo = .slice (some ⟨b, 0, none⟩) nn c) (h2 : ρ o2 = .int k2 j) (g0 : 0 ≤ j) (g1 : j ≤ c) :
    (execOp ρ ⟨dd, .slice u xo none (some o2) none, t, pos, af, gd⟩).run P w = .ok (.value (.slice (some ⟨b, 0, none⟩) j.toNat c)) w := by
  have := r_slice (P := P) (w := w) (t := t) (pos := pos) (af := af) (dd := dd) (gd := gd) (lo := none) (hi := some o2) (i := 0) (j := j) hu hx (.inl ⟨rfl, rfl⟩) (.inr ⟨o2, k2, rfl, h2⟩) (by omega) g0 g1
  rw [this]
  have e : (if c = (0 : Int).toNat then some (⟨b, 0, none⟩ : Addr) else (some ⟨b, 0, none⟩ : Option Addr).map (·.add ((0 : Int).toNat * 1))) = some ⟨b, 0, none⟩ := by
    split
    · rfl
    · simp [Addr.add]
  rw [e]; simp
theorem r_slice_hi {ρ : Operand → Value} {u e bytes : Nat} {z : Value} {xo o1 : Operand} {b nn c : Nat} {i : Int} {k1 : IntKind} {dd : Option Tmp} {gd : Option (Nat × Bool)} (hu : SlT P u e 1 bytes z)
    (hx : ρ xo = .slice (some ⟨b, 0, none⟩) nn c) (h1 : ρ o1 = .int k1 i) (g0 : 0 ≤ i) (g1 : i ≤ nn) (g2 : nn ≤ c) :
    (execOp ρ ⟨dd, .slice u xo (some o1) none none, t, pos, af, gd⟩).run P w = .ok (.value (.slice (some ⟨b, (if c = i.toNat then 0 else i.toNat), none⟩) (nn - i.toNat) (c - i.toNat))) w := by
  have := r_slice (P := P) (w := w) (t := t) (pos := pos) (af := af) (dd := dd) (gd := gd) (lo := some o1) (hi := none) (i := i) (j := nn) hu hx (.inr ⟨o1, k1, rfl, h1⟩) (.inl ⟨rfl, rfl⟩) g0 g1 (by omega)
  rw [this]
  have e : (if c = i.toNat then some (⟨b, 0, none⟩ : Addr) else (some ⟨b, 0, none⟩ : Option Addr).map (·.add (i.toNat * 1))) = some ⟨b, (if c = i.toNat then 0 else i.toNat), none⟩ := by
    split
    · rfl
    · show some ((⟨b, 0, none⟩ : Addr).add (i.toNat * 1)) = _
      rw [addr_add]; simp
  rw [e]; simp
theorem r_slice_mid {ρ : Operand → Value} {u e bytes : Nat} {z : Value} {xo o1 o2 : Operand} {b nn c l h : Nat} {k1 k2 : IntKind} {dd : Option Tmp} {gd : Option (Nat × Bool)} (hu : SlT P u e 1 bytes z)
    (hx : ρ xo = .slice (some ⟨b, 0, none⟩) nn c) (h1 : ρ o1 = .int k1 (l : Int)) (h2 : ρ o2 = .int k2 (h : Int)) (g1 : l < h) (g2 : h ≤ c) :
    (execOp ρ ⟨dd, .slice u xo (some o1) (some o2) none, t, pos, af, gd⟩).run P w = .ok (.value (.slice (some ⟨b, l, none⟩) (h - l) (c - l))) w := by
  have := r_slice (P := P) (w := w) (t := t) (pos := pos) (af := af) (dd := dd) (gd := gd) (lo := some o1) (hi := some o2) (i := (l : Int)) (j := (h : Int)) hu hx (.inr ⟨o1, k1, rfl, h1⟩) (.inr ⟨o2, k2, rfl, h2⟩) (by omega) (by omega) (by omega)
  rw [this]
  have e : (if c = ((l : Int)).toNat then some (⟨b, 0, none⟩ : Addr) else (some ⟨b, 0, none⟩ : Option Addr).map (·.add (((l : Int)).toNat * 1))) = some ⟨b, l, none⟩ := by
    rw [if_neg (by omega)]
    show some ((⟨b, 0, none⟩ : Addr).add (((l : Int)).toNat * 1)) = _
    rw [addr_add]; simp
  rw [e]; simp

/-- the elements behind the gap move down -/
theorem l_del {α : Type} {R : Rep α} (hO : One R) {tt u bytes : Nat} {z : Value} {it : Itm} {b c q mm c2 : Nat} {i j : Int} {xs : List α} {s xo : Operand} (m : Mem W G w (it :: H)) (h : Ow R tt G it (.slice (some ⟨b, 0, none⟩) xs.length c) xs)
    (hu : SlT P u tt 1 bytes z) (f : Fr a N L) (hN : Nat.blt d N = true) (g0 : 0 ≤ i) (g1 : i < j) (g2 : j ≤ xs.length)
    (hs : evalL L s = some (.slice (some ⟨b, 0, none⟩) i.toNat c)) (hx : evalL L xo = some (.slice (some ⟨b, q, none⟩) mm c2)) (hm : mm = xs.length - j.toNat) (hq : 0 < mm → q = j.toNat)
    (k : ∀ it' w' a', Mem W G w' (it' :: H) → Ow R tt G it' (.slice (some ⟨b, 0, none⟩) (xs.take i.toNat ++ xs.drop j.toNat).length c) (xs.take i.toNat ++ xs.drop j.toNat) → Fr a' N ((d, .slice (some ⟨b, 0, none⟩) (xs.take i.toNat ++ xs.drop j.toNat).length c) :: L) → wpList P ops (Qk n x r) rest a' w') :
    wpList P ops (Qk n x r) (⟨some d, .call { callee := .builtin .append, args := #[s, xo], argTypes := #[u, u] }, t, pos, af, none⟩ :: rest) a w := by
  have hlen' : (xs.take i.toNat ++ xs.drop j.toNat).length = i.toNat + mm := by
    rw [List.length_append, List.length_take, List.length_drop]; omega
  rw [hlen'] at k
  obtain ⟨vs, rfl, hA⟩ := h
  obtain ⟨ti, hi1, hi2, hi3, hi4⟩ := hu.info
  have ok : w.ownsRow 0 tt 1 (.slice (some ⟨b, 0, none⟩) xs.length c) xs.length vs := m.items 0 _ rfl
  have hl0 : vs.length = xs.length := hA.1
  have hcells := World.ownsRow.cells ok (g := b) rfl
  rcases ok.2 with ⟨e, _⟩ | ⟨g, cap, cur, e1, _, eh, e2, e3, e4, e5⟩
  · cases e
  · cases e1
    simp only [Nat.mul_one] at e4 e5
    have hnews : ∀ (jj : Nat) v, (vs.drop j.toNat)[jj]? = some v → w.cell? ((⟨b, q, none⟩ : Addr).add jj) = some v := fun jj v hv => by
      have hpos : 0 < mm := by
        have := (List.getElem?_eq_some_iff.1 hv).1
        simp at this; omega
      rw [hq hpos]
      rw [List.getElem?_drop] at hv
      have := hcells _ _ hv
      rw [addr_add] at this ⊢
      rwa [Nat.zero_add] at this
    have h1 : ∀ v ∈ vs.drop j.toNat, v.oneCell' = true := fun v hv => hA.ones hO v (List.mem_of_mem_drop hv)
    have hr := run_append_room (P := P) w u t tt ti hu.und hi1 b i.toNat c cur eh ⟨b, q, none⟩ mm c2 (vs.drop j.toNat) (by rw [hi2, List.length_drop]; omega) hnews h1 (by omega) (by rw [hi2, List.length_drop]; omega)
    refine l_op f rfl rfl hN (r_append (f.eval hs) (f.eval hx) hr) (fun a' f' => k (.row (.slice (some ⟨b, 0, none⟩) (i.toNat + mm) c) tt 1 (xs.take i.toNat ++ xs.drop j.toNat).length (vs.take i.toNat ++ vs.drop j.toNat)) _ a' ?_ ⟨_, rfl, (hA.take _).append (hA.drop _)⟩ f')
    have hlen : (xs.take i.toNat ++ xs.drop j.toNat).length = i.toNat + mm := by
      rw [List.length_append, List.length_take, List.length_drop]; omega
    have hcur : cur.toList.take i.toNat = vs.take i.toNat := by
      rw [← e5, List.take_take]; congr 1; omega
    refine m.changeAt 0 rfl rfl rfl rfl (fun y _ hy => setRow_other w b y _ (fun e => hy (by simp [Itm.foot, Value.ownBlock, e])))
      ⟨by rw [hlen, List.length_append, List.length_take, List.length_drop]; omega, .inr ⟨b, c, _, by rw [hlen], Nat.zero_le _, setRow_heap w b cur _ tt _ eh, by omega, e3, ?_, ?_⟩⟩ (fun y hy => .inl (by simpa [Itm.foot, Value.ownBlock] using hy))
    · simp only [List.size_toArray, List.length_append, List.length_take, List.length_drop, Array.length_toList, hi2]
      omega
    · simp only [hi2, Nat.mul_one]
      rw [hcur, hlen]
      have : (vs.take i.toNat ++ vs.drop j.toNat).length = i.toNat + mm := by
        rw [List.length_append, List.length_take, List.length_drop]; omega
      rw [← this]
      exact List.take_left

/-- what lies behind the last element is wiped -/
theorem l_wipe {α : Type} {R : Rep α} {tt u bytes : Nat} {z : Value} {it : Itm} {b c q mm c2 : Nat} {xs : List α} {xo : Operand} (m : Mem W G w (it :: H)) (h : Ow R tt G it (.slice (some ⟨b, 0, none⟩) xs.length c) xs)
    (hu : SlT P u tt 1 bytes z) (hz : z.cells = #[z]) (hz1 : z.oneCell' = true) (f : Fr a N L) (hx : evalL L xo = some (.slice (some ⟨b, q, none⟩) mm c2)) (hq : xs.length ≤ q) (hmm : q + mm ≤ c)
    (k : ∀ w', Mem W G w' (it :: H) → wpList P ops (Qk n x r) rest a w') :
    wpList P ops (Qk n x r) (⟨none, .call { callee := .builtin .clear, args := #[xo], argTypes := #[u] }, t, pos, af, none⟩ :: rest) a w := by
  obtain ⟨vs, rfl, hA⟩ := h
  obtain ⟨ti, hi1, hi2, hi3, hi4⟩ := hu.info
  have ok : w.ownsRow 0 tt 1 (.slice (some ⟨b, 0, none⟩) xs.length c) xs.length vs := m.items 0 _ rfl
  have hl0 : vs.length = xs.length := hA.1
  rcases ok.2 with ⟨e, _⟩ | ⟨g, cap, cur, e1, _, eh, e2, e3, e4, e5⟩
  · cases e
  · cases e1
    simp only [Nat.mul_one] at e4 e5
    have hz0 : (zeroValue tt).run P w = .ok z w := by simp [zeroValue, typeInfo, hi1, hi4]
    by_cases hm : mm = 0
    · subst hm
      refine l_op0 (v := .tuple #[]) (w' := w) rfl rfl ?_ (k w m)
      simp [execOp, resolve, invoke, builtin, Builtin.clear_, run_underlying hu.und, f.eval hx]
    · have hmem : ∀ v ∈ (Builtin.zeroCells z.cells mm).toList, v.oneCell' = true := fun v hv => by
        rw [hz] at hv
        simp [Builtin.zeroCells] at hv
        obtain ⟨_, _, rfl⟩ := hv
        rw [Nat.mod_one]; simpa using hz1
      have hsz : (Builtin.zeroCells z.cells mm).toList.length = mm := by
        rw [Array.length_toList, size_zeroCells, hz]; simp
      have hst := run_storeCells_at P b q tt (Builtin.zeroCells z.cells mm).toList 0 cur w eh (by rw [hsz]; omega) hmem
      refine l_op0 (v := .tuple #[]) (w' := w.setRow b (cur.toList.take (q + 0) ++ (Builtin.zeroCells z.cells mm).toList ++ cur.toList.drop (q + 0 + (Builtin.zeroCells z.cells mm).toList.length)).toArray) rfl rfl ?_ (k _ ?_)
      · obtain ⟨m', rfl⟩ : ∃ m', mm = m' + 1 := ⟨mm - 1, by omega⟩
        simp [execOp, resolve, invoke, builtin, Builtin.clear_, run_underlying hu.und, f.eval hx, hz0, hst]
      · have hm2 := m.changeAt (w' := w.setRow b (cur.toList.take (q + 0) ++ (Builtin.zeroCells z.cells mm).toList ++ cur.toList.drop (q + 0 + (Builtin.zeroCells z.cells mm).toList.length)).toArray) (h' := .row (.slice (some ⟨b, 0, none⟩) xs.length c) tt 1 xs.length vs) 0 rfl rfl rfl rfl (fun y _ hy => setRow_other w b y _ (fun e => hy (by simp [Itm.foot, Value.ownBlock, e])))
          ⟨ok.1, .inr ⟨b, c, _, rfl, Nat.zero_le _, setRow_heap w b cur _ tt _ eh, e2, e3, ?_, ?_⟩⟩ (fun y hy => .inl hy)
        · exact hm2
        · simp only [List.size_toArray, List.length_append, List.length_take, List.length_drop, Array.length_toList, size_zeroCells, hz]
          simp
          omega
        · simp only [Nat.mul_one, Nat.add_zero]
          rw [List.append_assoc, List.take_append_of_le_length (by simp; omega), List.take_take, show min xs.length q = xs.length by omega]
          exact e5
end
end Go.Sx

namespace Go.Sx
noncomputable def D.slices_Clone2_int64_int64 (x0 : (List (List Int))) : Option (((List (List Int)))) :=
  (appendD ([] : List (List Int)) x0).bind fun l_9 => some l_9

noncomputable def D.slices_Clone_impl_vset_impl_vset (x0 : (List Int)) : Option (((List Int))) :=
  (appendD ([] : List Int) x0).bind fun l_9 => some l_9

noncomputable def D.slices_Delete_impl_vset_impl_vset (x0 : (List Int)) (x1 : Int) (x2 : Int) : Option ((List Int)) :=
  delD x0 x1 x2

noncomputable def D.slices_Clone_int64_int64 (x0 : (List Int)) : Option (((List Int))) :=
  (appendD ([] : List Int) x0).bind fun l_9 => some l_9

noncomputable def D.laws_szDecomp (x0_0 : (List (List Int))) (x0_1 : (List (List Int))) (x1 : Int) : Option (Int) :=
  (D.laws_szInt64SS x0_0 x1).bind fun y_3 => cond (decide (y_3 < 0)) (some (-1)) ((D.laws_szInt64SS x0_1 y_3).bind fun y_11 => cond (decide (y_11 < 0)) (some (-1)) (some y_11))

noncomputable def D.laws_toDecomp (x0_0 : (List (List Int))) (x0_1 : (List (List Int))) : Option (((List (List Int))) × ((List (List Int)))) :=
  (D.laws_toInt64SS x0_0).bind fun y_7 => (D.laws_toInt64SS x0_1).bind fun y_18 => some (y_7, y_18)

noncomputable def D.spec_l9Sorted (x0_0 : (List (List Int))) (x0_1 : (List (List Int))) : Option (((List (List Int))) × ((List (List Int)))) :=
  (loopF (σ := Int × (List (List Int))) (ρ := ((List (List Int)))) (fun (s_100 : Int × (List (List Int))) => match s_100 with | (x_106, l_107) => cond (decide (x_106 < (x0_0.length : Int))) ((idx x0_0 x_106).bind fun e_160 => (D.spec_l1Copy e_160).bind fun y_169 => (appendD l_107 ([y_169] : List (List Int))).bind fun l_192 => some (.inl ((IntKind.i64.wrap (x_106 + 1)), l_192))) (some (.inr l_107))) (0, ([] : List (List Int)))).bind fun l_153 => (loopF (σ := Int × (List (List Int))) (ρ := ((List (List Int)))) (fun (s_336 : Int × (List (List Int))) => match s_336 with | (x_342, l_343) => cond (decide (x_342 < (x0_1.length : Int))) ((idx x0_1 x_342).bind fun e_486 => (idx e_486 0).bind fun e_492 => (idx x0_1 x_342).bind fun e_498 => (idx e_498 1).bind fun e_504 => (D.spec_l9Link l_343 e_492 e_504).bind fun y_513 => some (.inl ((IntKind.i64.wrap (x_342 + 1)), y_513))) (some (.inr l_343))) (0, ([] : List (List Int)))).bind fun l_435 => some (l_153, l_435)

noncomputable def D.spec_l9Spare (x0_0 : (List (List Int))) (x0_1 : (List (List Int))) : Option (Int × Int) :=
  (loopF (σ := Int) (ρ := (Unit) ⊕ (Int × Int)) (fun (x_134 : Int) => cond (decide (x_134 < (x0_1.length : Int))) ((idx x0_1 x_134).bind fun e_200 => (idx e_200 0).bind fun e_206 => (idx x0_1 x_134).bind fun e_212 => (idx e_212 1).bind fun e_218 => (idx x0_0 e_218).bind fun e_224 => (idx x0_0 e_206).bind fun e_230 => (D.spec_l9Part e_224 e_230).bind fun y_236 => cond y_236 (some (.inr (.inr (e_218, e_206)))) ((idx x0_0 e_206).bind fun e_242 => (idx x0_0 e_218).bind fun e_248 => (D.spec_l9Part e_242 e_248).bind fun y_254 => cond y_254 (some (.inr (.inr (e_206, e_218)))) (some (.inl (IntKind.i64.wrap (x_134 + 1)))))) (some (.inr (.inl ())))) 0).bind fun zz => match zz with | .inl _ => (some ((-1), (-1))) | .inr z => (some z)

noncomputable def D.spec_l1Flag (x0 : Bool) : Option (Int) :=
  cond x0 (some 1) (some 0)

noncomputable def D.spec_l9Merge (x0_0 : (List (List Int))) (x0_1 : (List (List Int))) (x1 : Int) (x2 : Int) : Option (((List (List Int))) × ((List (List Int)))) :=
  (loopF (σ := Int × (List (List Int))) (ρ := ((List (List Int)))) (fun (s_102 : Int × (List (List Int))) => match s_102 with | (x_108, l_109) => cond (decide (x_108 < (x0_0.length : Int))) (cond (x_108 != x1) ((idx x0_0 x_108).bind fun e_164 => (D.spec_l1Copy e_164).bind fun y_173 => (appendD l_109 ([y_173] : List (List Int))).bind fun l_196 => some (.inl ((IntKind.i64.wrap (x_108 + 1)), l_196))) (some (.inl ((IntKind.i64.wrap (x_108 + 1)), l_109)))) (some (.inr l_109))) (0, ([] : List (List Int)))).bind fun l_156 => (loopF (σ := Int × (List (List Int))) (ρ := ((List (List Int)))) (fun (s_364 : Int × (List (List Int))) => match s_364 with | (x_370, l_371) => cond (decide (x_370 < (x0_1.length : Int))) ((idx x0_1 x_370).bind fun e_473 => (idx e_473 0).bind fun e_479 => (idx x0_1 x_370).bind fun e_485 => (idx e_485 1).bind fun e_491 => ((cond (e_479 == x1) (some x2) (some e_479) : Option (Int))).bind fun x_501 => ((cond (e_491 == x1) (some x2) (some e_491) : Option (Int))).bind fun x_508 => cond (x_501 != x_508) ((D.spec_l1Flag (decide (x1 < x_501))).bind fun y_538 => (D.spec_l1Flag (decide (x1 < x_508))).bind fun y_541 => (D.spec_l9Link l_371 (IntKind.i64.wrap (x_501 - y_538)) (IntKind.i64.wrap (x_508 - y_541))).bind fun y_547 => some (.inl ((IntKind.i64.wrap (x_370 + 1)), y_547))) (some (.inl ((IntKind.i64.wrap (x_370 + 1)), l_371)))) (some (.inr l_371))) (0, ([] : List (List Int)))).bind fun l_466 => some (l_156, l_466)

noncomputable def D.spec_TidiedDecomp (x0_0 : (List (List Int))) (x1_0 : (List (List Int))) (x1_1 : (List (List Int))) : Option (((List (List Int))) × ((List (List Int))) × Bool) :=
  (D.spec_DecompOk x0_0 x1_0 x1_1).bind fun y_7 => cond (!y_7) (some (([] : List (List Int)), ([] : List (List Int)), false)) ((D.spec_l9Sorted x1_0 x1_1).bind fun y_23 => (loopF (σ := (List (List Int)) × (List (List Int))) (ρ := (((List (List Int))) × ((List (List Int))) × Bool)) (fun (s_125 : (List (List Int)) × (List (List Int))) => match s_125 with | (l_128, l_133) => (D.spec_l9Spare l_128 l_133).bind fun y_139 => cond (decide (y_139.1 < 0)) (some (.inr (l_128, l_133, true))) ((D.spec_l9Merge l_128 l_133 y_139.1 y_139.2).bind fun y_160 => some (.inl (y_160.1, y_160.2)))) (y_23.1, y_23.2)).bind fun z => some z)

noncomputable def D.impl_goodLinks_1 (x0 : (List Int)) (x1_0 : Int) : Option (Bool) :=
  (cond ((x0.length : Int) != 2) (some true) ((D.impl_increasing x0 x1_0).bind fun y_20 => some (!y_20))).bind fun b_18 => some b_18

noncomputable def D.slices_IndexFunc_int64_int64__impl_goodLinks_1 (x0 : (List (List Int))) (x1c0_0 : Int) : Option (Int) :=
  (loopF (σ := Int) (ρ := (Unit) ⊕ (Int)) (fun (x_40 : Int) => cond (decide (x_40 < (x0.length : Int))) ((idx x0 x_40).bind fun e_60 => (D.impl_goodLinks_1 e_60 x1c0_0).bind fun y_66 => cond y_66 (some (.inr (.inr x_40))) (some (.inl (IntKind.i64.wrap (x_40 + 1))))) (some (.inr (.inl ())))) 0).bind fun zz => match zz with | .inl _ => (some (-1)) | .inr z => (some z)

noncomputable def D.slices_ContainsFunc_int64_int64__impl_goodLinks_1 (x0 : (List (List Int))) (x1c0_0 : Int) : Option (Bool) :=
  (D.slices_IndexFunc_int64_int64__impl_goodLinks_1 x0 x1c0_0).bind fun y_1 => some (decide ((0 : Int) ≤ y_1))

noncomputable def D.impl_goodLinks (x0 : (List (List Int))) (x1 : Int) : Option (Bool) :=
  (D.slices_ContainsFunc_int64_int64__impl_goodLinks_1 x0 x1).bind fun y_3 => some (!y_3)

noncomputable def D.impl_linkNets (x0_0 : (List (List Int))) (x0_1 : (List (List Int))) : Option (((List Int))) :=
  (makeD (0 : Int) (x0_0.length : Int) (x0_0.length : Int)).bind fun l_3 => (loopF (σ := (List Int) × Int) (ρ := ((List Int))) (fun (s_78 : (List Int) × Int) => match s_78 with | (l_81, x_84) => cond (decide (x_84 < (x0_1.length : Int))) ((idx x0_1 x_84).bind fun e_122 => (idx e_122 0).bind fun e_128 => (idx e_122 1).bind fun e_134 => (D.impl_nets_join l_81 e_128 e_134).bind fun y_142 => some (.inl (y_142, (IntKind.i64.wrap (x_84 + 1))))) (some (.inr l_81))) (l_3, 0)).bind fun l_117 => some l_117

noncomputable def D.impl_reach (x0 : (List Int)) (x1 : Int) (x2 : Int) : Option (Int) :=
  (D.impl_one x1).bind fun y_1 => (loopF (σ := Int) (ρ := (Int)) (fun (x_177 : Int) => (D.impl_vset_list x_177).bind fun y_179 => (loopF (σ := Int × Int) (ρ := (Int)) (fun (s_223 : Int × Int) => match s_223 with | (x_226, x_227) => cond (decide (x_227 < (y_179.length : Int))) ((idx y_179 x_227).bind fun e_246 => (idx x0 e_246).bind fun e_252 => some (.inl ((ior .u32 x_226 (iand .u32 e_252 x2)), (IntKind.i64.wrap (x_227 + 1))))) (some (.inr x_226))) (x_177, 0)).bind fun x_243 => cond (x_243 == x_177) (some (.inr x_177)) (some (.inl x_243))) y_1).bind fun z => some z

noncomputable def D.impl_connected (x0 : (List Int)) (x1 : Int) : Option (Bool) :=
  (cond (x1 != 0) ((D.impl_vset_least x1).bind fun y_34 => (D.impl_reach x0 y_34 x1).bind fun y_41 => some (y_41 == x1)) (some false)).bind fun b_32 => some b_32

noncomputable def D.impl_DecompOk (x0_0 : (List (List Int))) (x1_0 : (List (List Int))) (x1_1 : (List (List Int))) : Option (Bool) :=
  (D.impl_GraphOk x0_0).bind fun y_5 => (cond ((((!y_5) || (decide ((x1_0.length : Int) < 1))) || (decide ((16 : Int) < (x1_0.length : Int)))) || ((x1_1.length : Int) != (IntKind.i64.wrap ((x1_0.length : Int) - 1)))) (some true) ((D.impl_goodLinks x1_1 (x1_0.length : Int)).bind fun y_40 => some (!y_40))).bind fun b_38 => cond b_38 (some false) ((loopF (σ := Int) (ρ := (Unit) ⊕ (Bool)) (fun (x_87 : Int) => cond (decide (x_87 < (x1_0.length : Int))) ((idx x1_0 x_87).bind fun e_107 => (D.impl_increasing e_107 (x0_0.length : Int)).bind fun y_113 => cond (!y_113) (some (.inr (.inr false))) (some (.inl (IntKind.i64.wrap (x_87 + 1))))) (some (.inr (.inl ())))) 0).bind fun zz => match zz with | .inl _ => ((D.impl_linkNets x1_0 x1_1).bind fun y_124 => (D.impl_bagMasks x1_0).bind fun y_138 => (D.impl_nets_all y_124).bind fun y_151 => (D.impl_connected y_124 y_151).bind fun y_161 => (cond (!y_161) (some true) ((D.impl_netsOf x0_0).bind fun y_224 => (D.impl_coversEdges y_224 y_138).bind fun y_235 => some (!y_235))).bind fun b_222 => cond b_222 (some false) ((loopF (σ := Int) (ρ := (Unit) ⊕ (Bool)) (fun (x_490 : Int) => cond (decide (x_490 < (x0_0.length : Int))) ((loopF (σ := Int × Int) (ρ := (Int)) (fun (s_662 : Int × Int) => match s_662 with | (x_665, x_666) => cond (decide (x_666 < (y_138.length : Int))) ((idx y_138 x_666).bind fun e_694 => (D.impl_vset_has e_694 x_490).bind fun y_700 => cond y_700 ((D.impl_one x_666).bind fun y_708 => some (.inl ((ior .u32 x_665 y_708), (IntKind.i64.wrap (x_666 + 1))))) (some (.inl (x_665, (IntKind.i64.wrap (x_666 + 1)))))) (some (.inr x_665))) (0, 0)).bind fun x_691 => (D.impl_connected y_124 x_691).bind fun y_715 => cond (!y_715) (some (.inr (.inr false))) (some (.inl (IntKind.i64.wrap (x_490 + 1))))) (some (.inr (.inl ())))) 0).bind fun zz => match zz with | .inl _ => (some true) | .inr z => (some z))) | .inr z => (some z))

noncomputable def D.impl_mergedBags_1 (x0 : Int) (x1_0 : Int) (x2_0 : Int) : Option (Int) :=
  cond (x0 == x1_0) (cond (decide (x1_0 < x2_0)) (some (IntKind.i64.wrap (x2_0 - 1))) (some x2_0)) (cond (decide (x1_0 < x0)) (some (IntKind.i64.wrap (x0 - 1))) (some x0))

noncomputable def D.impl_mergedBags (x0 : (List Int)) (x1 : (List (List Int))) (x2 : Int) (x3 : Int) : Option (((List Int)) × ((List (List Int)))) :=
  (loopF (σ := (List (List Int)) × Int) (ρ := ((List (List Int)))) (fun (s_152 : (List (List Int)) × Int) => match s_152 with | (l_155, x_160) => cond (decide (x_160 < (x1.length : Int))) ((idx x1 x_160).bind fun e_236 => (idx e_236 0).bind fun e_242 => (idx e_236 1).bind fun e_248 => (D.impl_mergedBags_1 e_242 x2 x3).bind fun y_257 => (D.impl_mergedBags_1 e_248 x2 x3).bind fun y_267 => cond (y_257 != y_267) ((D.impl_sortedLink y_257 y_267).bind fun y_277 => (appendD l_155 ([y_277] : List (List Int))).bind fun l_295 => some (.inl (l_295, (IntKind.i64.wrap (x_160 + 1))))) (some (.inl (l_155, (IntKind.i64.wrap (x_160 + 1)))))) (some (.inr l_155))) (([] : List (List Int)), 0)).bind fun l_229 => (sortRows l_229).bind fun y_301 => (D.slices_Clone_impl_vset_impl_vset x0).bind fun y_313 => (D.slices_Delete_impl_vset_impl_vset y_313 x2 (IntKind.i64.wrap (x2 + 1))).bind fun y_327 => some (y_327, y_301)

noncomputable def D.impl_tidied (x0_0 : (List (List Int))) (x0_1 : (List (List Int))) : Option (((List (List Int))) × ((List (List Int)))) :=
  (D.impl_bagMasks x0_0).bind fun y_8 => (D.slices_Clone2_int64_int64 x0_1).bind fun y_22 => (sortRows y_22).bind fun y_35 => (loopF (σ := (List Int) × (List (List Int)) × Bool) (ρ := ((List Int) × (List (List Int)))) (fun (s_853 : (List Int) × (List (List Int)) × Bool) => match s_853 with | (l_856, l_861, b_866) => cond b_866 ((loopF (σ := Int) (ρ := ((List Int) × (List (List Int)) × Bool)) (fun (x_1473 : Int) => cond (decide (x_1473 < (l_861.length : Int))) ((idx l_861 x_1473).bind fun e_1582 => (idx e_1582 0).bind fun e_1588 => (idx e_1582 1).bind fun e_1594 => (idx l_856 e_1594).bind fun e_1602 => (idx l_856 e_1588).bind fun e_1608 => cond ((iandNot .u32 e_1602 e_1608) == 0) ((D.impl_mergedBags l_856 l_861 e_1594 e_1588).bind fun y_1623 => some (.inr (y_1623.1, y_1623.2, true))) ((idx l_856 e_1588).bind fun e_1638 => (idx l_856 e_1594).bind fun e_1644 => cond ((iandNot .u32 e_1638 e_1644) == 0) ((D.impl_mergedBags l_856 l_861 e_1588 e_1594).bind fun y_1659 => some (.inr (y_1659.1, y_1659.2, true))) (some (.inl (IntKind.i64.wrap (x_1473 + 1)))))) (some (.inr (l_856, l_861, false)))) 0).bind fun (l_1569, l_1574, b_1579) => some (.inl (l_1569, l_1574, b_1579))) (some (.inr (l_856, l_861)))) (y_8, y_35, true)).bind fun (l_1266, l_1271) => (D.impl_results l_1266).bind fun y_1674 => (loopF (σ := Int × (List (List Int))) (ρ := ((List (List Int)))) (fun (s_1777 : Int × (List (List Int))) => match s_1777 with | (x_1783, l_1784) => cond (decide (x_1783 < (l_1271.length : Int))) ((idx l_1271 x_1783).bind fun e_1834 => (D.slices_Clone_int64_int64 e_1834).bind fun y_1843 => (appendD l_1784 [y_1843]).bind fun l_1863 => some (.inl ((IntKind.i64.wrap (x_1783 + 1)), l_1863))) (some (.inr l_1784))) (0, ([] : List (List Int)))).bind fun l_1827 => some (y_1674, l_1827)

noncomputable def D.impl_TidiedDecomp (x0_0 : (List (List Int))) (x1_0 : (List (List Int))) (x1_1 : (List (List Int))) : Option (((List (List Int))) × ((List (List Int))) × Bool) :=
  (D.impl_DecompOk x0_0 x1_0 x1_1).bind fun y_7 => cond (!y_7) (some (([] : List (List Int)), ([] : List (List Int)), false)) ((D.impl_tidied x1_0 x1_1).bind fun y_23 => some (y_23.1, y_23.2, true))

noncomputable def D.laws_FnExactTidiedDecomp (x0_0 : (List (List Int))) (x1_0 : (List (List Int))) (x1_1 : (List (List Int))) : Option (Bool) :=
  (D.laws_szGraph x0_0 1048576).bind fun y_5 => cond (decide (y_5 < 0)) (some true) ((D.laws_szDecomp x1_0 x1_1 y_5).bind fun y_13 => cond (decide (y_13 < 0)) (some true) ((((D.laws_toGraph x0_0).bind fun y_110 => (D.laws_toDecomp x1_0 x1_1).bind fun y_124 => (D.spec_TidiedDecomp y_110 y_124.1 y_124.2).bind fun y_151 => some (y_151.1, y_151.2.1, y_151.2.2) : Option ((List (List Int)) × (List (List Int)) × Bool))).bind fun (l_95, l_100, b_105) => (D.laws_toGraph x0_0).bind fun y_176 => (D.laws_toDecomp x1_0 x1_1).bind fun y_189 => (D.impl_TidiedDecomp y_176 y_189.1 y_189.2).bind fun y_206 => (D.laws_eqDecomp y_206.1 y_206.2.1 l_95 l_100).bind fun y_232 => cond ((!y_232) || (y_206.2.2 != b_105)) (some false) ((D.laws_toGraph x0_0).bind fun y_258 => (D.laws_eqGraph y_176 y_258).bind fun y_272 => cond (!y_272) (some false) ((D.laws_toDecomp x1_0 x1_1).bind fun y_291 => (D.laws_eqDecomp y_189.1 y_189.2 y_291.1 y_291.2).bind fun y_309 => cond (!y_309) (some false) ((D.laws_markGraph y_176 1).bind fun y_331 => (D.laws_markDecomp y_189.1 y_189.2 y_331.1).bind fun y_340 => (cond (decide (y_340.1 < 0)) (some true) ((D.laws_eqDecomp y_206.1 y_206.2.1 l_95 l_100).bind fun y_394 => some (!y_394))).bind fun b_392 => cond (b_392 || (y_206.2.2 != b_105)) (some false) ((D.laws_markDecomp y_206.1 y_206.2.1 1).bind fun y_417 => (D.laws_heldDecomp y_417.2.1 y_417.2.2 1).bind fun y_428 => cond (decide (y_428 < 0)) (some false) (cond (y_428 != y_417.1) (some false) ((((D.laws_toGraph x0_0).bind fun y_532 => (D.laws_toDecomp x1_0 x1_1).bind fun y_546 => (D.impl_TidiedDecomp y_532 y_546.1 y_546.2).bind fun y_564 => some (y_564.1, y_564.2.1, y_564.2.2) : Option ((List (List Int)) × (List (List Int)) × Bool))).bind fun (l_517, l_522, b_527) => (D.laws_eqDecomp l_517 l_522 l_95 l_100).bind fun y_598 => cond ((!y_598) || (b_527 != b_105)) (some false) ((D.laws_heldDecomp y_417.2.1 y_417.2.2 1).bind fun y_621 => cond (decide (y_621 < 0)) (some false) (cond (y_621 != y_417.1) (some false) (some true)))))))))))

end Go.Sx

namespace Go.Sx


end Go.Sx

namespace Go.Sx


end Go.Sx

namespace Go.Sx


end Go.Sx

namespace Go.Sx


end Go.Sx

namespace Go.Sx


end Go.Sx

namespace Go.Sx


end Go.Sx

namespace Go.Proofs
open Go.Shelf
def Tryz.lays125_ren : Go.Shelf.Ren := ⟨fun | 125 => 122 | 128 => 162 | 129 => 163 | n => n, fun | 46 => 135 | 3 => 3 | 51 => 75 | 53 => 58 | 4 => 4 | 5 => 5 | 9 => 9 | n => n, fun | n => n⟩
theorem Tryz.lays125 : Go.Proofs.Lays.n125 Tryz.prog Tryz.lays125_ren := {
  mixed := by kernel_rfl
  f125 := Tryz.func122.trans (congrArg some (by kernel_rfl))
  f128 := Tryz.func162.trans (congrArg some (by kernel_rfl))
  f129 := Tryz.func163.trans (congrArg some (by kernel_rfl))
  t3 := Tryz.underlying3
  a3 := Tryz.isAgg3
  z3 := Tryz.sizeOf3
  v3 := Tryz.zeroValue3
  t4 := Tryz.underlying4
  a4 := Tryz.isAgg4
  z4 := Tryz.sizeOf4
  v4 := Tryz.zeroValue4
  t5 := Tryz.underlying5
  a5 := Tryz.isAgg5
  z5 := Tryz.sizeOf5
  v5 := Tryz.zeroValue5
  t9 := Tryz.underlying9
  a9 := Tryz.isAgg9
  z9 := Tryz.sizeOf9
  v9 := Tryz.zeroValue9
  t46 := Tryz.underlying135
  a46 := Tryz.isAgg135
  z46 := Tryz.sizeOf135
  v46 := Tryz.zeroValue135
  t51 := Tryz.underlying75
  a51 := Tryz.isAgg75
  z51 := Tryz.sizeOf75
  v51 := Tryz.zeroValue75
  t53 := Tryz.underlying58
  a53 := Tryz.isAgg58
  z53 := Tryz.sizeOf58
  v53 := Tryz.zeroValue58 }
theorem Tryz.bits_Len (x : Int) (w : World) (h0 : 0 ≤ x) (h1 : x ≤ 18446744073709551615) :
    Calls Tryz.prog 122 #[.int .u64 x] w fun e w' => e = .returned (.int .i64 (Lib.bitLen x.toNat)) ∧ w' = w := Any.bits_Len Tryz.lays125 x w h0 h1
end Go.Proofs
namespace Go.Proofs.YtebbefpdncgoiaaGreatDoor
open Go Go.Sx
theorem Wk.math_bits_Len {W w : World} {G : GH} {H : List Itm} {x0 : Int} (m : Mem W G w H) {y : Int} (hd : D.math_bits_Len x0 = some y) :
    Calls Tryz.prog 122 #[(.int .u64 x0)] w (Res W G H (fun _ Ho v => Ho = [] ∧ v = (.int .i64 y))) := by
  unfold D.math_bits_Len at hd
  split at hd
  · rename_i h
    obtain rfl := Option.some.inj hd
    exact (Tryz.bits_Len x0 w h.1 h.2).mono (fun e w' ⟨he, hw⟩ => by subst hw; exact ⟨_, he, G, [], GLe.refl G, m, rfl, rfl⟩)
  · cases hd
end Go.Proofs.YtebbefpdncgoiaaGreatDoor

namespace Go.Proofs
open Go.RowKit Go.Shelf
attribute [local go_sem] Oper.semAt_some
namespace YtebbefpdncgoiaaGreatDoor

def Ints (n₀ : Nat) (W : World) (sv : Value) (zs : List Int) : Prop :=
  ((∃ a c, sv = .slice a 0 c) ∧ zs = []) ∨ ∃ b off cap, sv = .slice (some ⟨b, off, none⟩) zs.length cap ∧ (zs.length = 0 ∨ b < n₀) ∧ ∀ j, j < zs.length → W.cell? ⟨b, off + j, none⟩ = some (.int .i64 (zs[j]?.getD 0))
theorem Ints.below {n₀ : Nat} {A B : World} (h : Below n₀ A B) {sv : Value} {zs : List Int} : Ints n₀ A sv zs → Ints n₀ B sv zs
  | .inl e => .inl e
  | .inr ⟨b, off, cap, e, hb, hc⟩ => .inr ⟨b, off, cap, e, hb, fun j hj => (h.cell (p := ⟨b, off + j, none⟩) (hb.resolve_left (by omega))).trans (hc j hj)⟩

end YtebbefpdncgoiaaGreatDoor
end Go.Proofs

/- Loops in closed form: over the elements of a list, over the numbers below one, with a way out. Plain facts, no program in sight. -/
namespace Go.Sx
theorem w64 {x : Int} (h1 : -9223372036854775808 ≤ x) (h2 : x < 9223372036854775808) : IntKind.i64.wrap x = x := by
  simp only [IntKind.wrap, IntKind.bits, IntKind.signed]
  have e : (2 : Int) ^ 64 = 18446744073709551616 := by decide
  have e' : (2 : Int) ^ (64 - 1) = 9223372036854775808 := by decide
  simp
  omega

theorem dlt {i n : Nat} (h : i < n) : decide ((i : Int) < (n : Int)) = true := by simp; omega
theorem dnlt {n : Nat} : decide ((n : Int) < (n : Int)) = false := by simp
theorem idx_nat {α : Type} {xs : List α} {i : Nat} (h : i < xs.length) : idx xs (i : Int) = some xs[i] := by
  unfold idx; rw [if_pos (by omega)]; simp [h]
theorem wi {i : Nat} (h : i < 4611686018427387904) : IntKind.i64.wrap ((i : Int) + 1) = ((i + 1 : Nat) : Int) := by
  rw [w64 (by omega) (by omega)]; rfl
theorem wi' {i n : Nat} (h : i < n) (hn : n ≤ 4611686018427387904) : IntKind.i64.wrap ((i : Int) + 1) = ((i + 1 : Nat) : Int) := wi (by omega)
theorem getD_lt {α : Type} {xs : List α} {i : Nat} (h : i < xs.length) (d : α) : xs.getD i d = xs[i] := by simp [h]
theorem appendD_ok {α : Type} {xs ys : List α} (h : xs.length + ys.length ≤ 4294967296) : appendD xs ys = some (xs ++ ys) := by
  unfold appendD; rw [if_pos h]
theorem sliceD_pre {α : Type} {xs : List α} {i : Nat} (h : i ≤ xs.length) : sliceD xs 0 (i : Int) = some (xs.take i) := by
  unfold sliceD; rw [if_pos ⟨by omega, by omega, by omega⟩]; simp
theorem sliceD_post {α : Type} {xs : List α} {i : Nat} (h : i ≤ xs.length) : sliceD xs (i : Int) (xs.length : Int) = some (xs.drop i) := by
  unfold sliceD; rw [if_pos ⟨by omega, by omega, by omega⟩]; simp
theorem makeD_ok {α : Type} {z : α} {n : Nat} {c : Int} (h : (n : Int) ≤ c) (h2 : c ≤ 4294967296) : makeD z (n : Int) c = some (List.replicate n z) := by
  unfold makeD; rw [if_pos ⟨by omega, h, h2⟩]; simp
theorem makeD_zero {α : Type} {z : α} {c : Int} (h : 0 ≤ c) (h2 : c ≤ 4294967296) : makeD z 0 c = some [] := by
  unfold makeD; rw [if_pos ⟨by omega, h, h2⟩]; simp

/-- a round either goes on, nearer to the end, or leaves with what was promised -/
def Stp {σ ρ : Type} (I : σ → Prop) (μ : σ → Nat) (Post : ρ → Prop) (s : σ) : σ ⊕ ρ → Prop
  | .inl s' => I s' ∧ μ s' < μ s
  | .inr r => Post r

theorem loop_then {σ ρ β : Type} {step : σ → Option (σ ⊕ ρ)} {s : σ} {k : ρ → Option β} {Q : β → Prop} (I : σ → Prop) (μ : σ → Nat) (Post : ρ → Prop)
    (hstep : ∀ s, I s → ∃ y, step s = some y ∧ Stp I μ Post s y) (h0 : I s) (hk : ∀ r, Post r → ∃ y, k r = some y ∧ Q y) : ∃ y, (loopF step s).bind k = some y ∧ Q y := by
  obtain ⟨r, hr, hp⟩ := loopF_inv (step := step) I μ Post (fun s hs => by
    obtain ⟨y, hy, hq⟩ := hstep s hs
    cases y with
    | inl s' => exact .inl ⟨s', hy, hq.1, hq.2⟩
    | inr r => exact .inr ⟨r, hy, hq⟩) s h0
  rw [hr]
  exact hk r hp
theorem bind_then {α β : Type} {e : Option α} {k : α → Option β} {Q : β → Prop} (R : α → Prop) (h : ∃ x, e = some x ∧ R x) (hk : ∀ x, R x → ∃ y, k x = some y ∧ Q y) : ∃ y, e.bind k = some y ∧ Q y := by
  obtain ⟨x, rfl, hx⟩ := h
  exact hk x hx

/-- from state a to state b in so many rounds -/
theorem loop_steps {S ρ : Type} {step : S → Option (S ⊕ ρ)} (st : Nat → S) (n : Nat) (h : ∀ i, i < n → step (st i) = some (.inl (st (i + 1)))) : loopF step (st 0) = loopF step (st n) := by
  have key : ∀ k, k ≤ n → loopF step (st 0) = loopF step (st k) := by
    intro k
    induction k with
    | zero => intro _; rfl
    | succ k ih => intro hk; rw [ih (by omega), loopF_more (h k (by omega))]
  exact key n (Nat.le_refl n)

/-- and out of it -/
theorem loop_to {S ρ β : Type} {step : S → Option (S ⊕ ρ)} {k : ρ → Option β} {s0 : S} (st : Nat → S) (n : Nat) (r : ρ) (h0 : st 0 = s0) (h : ∀ i, i < n → step (st i) = some (.inl (st (i + 1)))) (he : step (st n) = some (.inr r)) :
    (loopF step s0).bind k = k r := by
  rw [← h0, loop_steps st n h, loopF_done he]; rfl

/-- a loop over the elements of a list, that goes to its end -/
theorem loop_list {α σ S ρ : Type} {step : S → Option (S ⊕ ρ)} (xs : List α) (enc : σ → Int → S) (f : σ → α → σ) (fin : σ → ρ) (I : σ → Prop) (s0 : σ)
    (h0 : I s0) (hstep : ∀ s (i : Nat) (h : i < xs.length), I s → step (enc s i) = some (.inl (enc (f s xs[i]) ((i + 1 : Nat) : Int))) ∧ I (f s xs[i]))
    (hend : ∀ s, I s → step (enc s xs.length) = some (.inr (fin s))) : loopF step (enc s0 0) = some (fin (xs.foldl f s0)) ∧ I (xs.foldl f s0) := by
  have key : ∀ (k i : Nat) (s : σ), i + k = xs.length → I s → loopF step (enc s i) = some (fin ((xs.drop i).foldl f s)) ∧ I ((xs.drop i).foldl f s) := by
    intro k
    induction k with
    | zero =>
      intro i s hk hs
      obtain rfl : i = xs.length := by omega
      simp only [List.drop_length, List.foldl_nil]
      exact ⟨loopF_done (hend s hs), hs⟩
    | succ k ih =>
      intro i s hk hs
      have hi : i < xs.length := by omega
      obtain ⟨h1, h2⟩ := hstep s i hi hs
      rw [loopF_more h1, List.drop_eq_getElem_cons hi, List.foldl_cons]
      exact ih (i + 1) _ (by omega) h2
  have := key xs.length 0 s0 (by omega) h0
  simpa using this

/-- and what comes behind -/
theorem loop_listb {α σ S ρ β : Type} {step : S → Option (S ⊕ ρ)} {k : ρ → Option β} (xs : List α) (enc : σ → Int → S) (f : σ → α → σ) (fin : σ → ρ) (I : σ → Prop) (s0 : σ)
    (h0 : I s0) (hstep : ∀ s (i : Nat) (h : i < xs.length), I s → step (enc s i) = some (.inl (enc (f s xs[i]) ((i + 1 : Nat) : Int))) ∧ I (f s xs[i]))
    (hend : ∀ s, I s → step (enc s xs.length) = some (.inr (fin s))) : (loopF step (enc s0 0)).bind k = k (fin (xs.foldl f s0)) := by
  rw [(loop_list xs enc f fin I s0 h0 hstep hend).1]; rfl

/-- a loop that makes one element for each element -/
theorem loop_map {α β γ S : Type} {step : S → Option (S ⊕ List β)} {k : List β → Option γ} (xs : List α) (enc : List β → Int → S) (f : α → β) (hx : xs.length ≤ 4294967296)
    (hstep : ∀ s (i : Nat) (h : i < xs.length), s.length = i → step (enc s i) = (appendD s [f xs[i]]).bind fun l => some (.inl (enc l ((i + 1 : Nat) : Int))))
    (hend : ∀ s, step (enc s xs.length) = some (.inr s)) : (loopF step (enc [] 0)).bind k = k (xs.map f) := by
  have key : ∀ i, i ≤ xs.length → loopF step (enc [] 0) = loopF step (enc ((xs.take i).map f) i) := by
    intro i
    induction i with
    | zero => intro _; simp
    | succ i ih =>
      intro hi
      rw [ih (by omega)]
      have h1 := hstep ((xs.take i).map f) i (by omega) (by simp; omega)
      have h2 : appendD ((xs.take i).map f) [f xs[i]] = some ((xs.take (i + 1)).map f) := by
        unfold appendD
        rw [if_pos (by simp; omega)]
        rw [List.take_succ_eq_append_getElem (show i < xs.length by omega), List.map_append]; rfl
      rw [h2] at h1
      rw [loopF_more h1]
  rw [key xs.length (Nat.le_refl _), List.take_length, loopF_done (hend _)]; rfl

/-- as above, where the round's effect depends on the place -/
theorem loop_nat {σ S ρ : Type} {step : S → Option (S ⊕ ρ)} (n : Nat) (enc : σ → Int → S) (f : σ → Nat → σ) (fin : σ → ρ) (I : Nat → σ → Prop) (s0 : σ)
    (h0 : I 0 s0) (hstep : ∀ s (i : Nat), i < n → I i s → step (enc s i) = some (.inl (enc (f s i) ((i + 1 : Nat) : Int))) ∧ I (i + 1) (f s i))
    (hend : ∀ s, I n s → step (enc s n) = some (.inr (fin s))) : loopF step (enc s0 0) = some (fin ((List.range n).foldl f s0)) ∧ I n ((List.range n).foldl f s0) := by
  have key : ∀ k, k ≤ n → loopF step (enc s0 0) = loopF step (enc ((List.range k).foldl f s0) k) ∧ I k ((List.range k).foldl f s0) := by
    intro k
    induction k with
    | zero => intro _; exact ⟨rfl, h0⟩
    | succ k ih =>
      intro hk
      obtain ⟨h1, h2⟩ := ih (by omega)
      obtain ⟨h3, h4⟩ := hstep _ k (by omega) h2
      rw [List.range_succ, List.foldl_append, List.foldl_cons, List.foldl_nil]
      exact ⟨by rw [h1, loopF_more h3], h4⟩
  obtain ⟨h1, h2⟩ := key n (Nat.le_refl n)
  exact ⟨by rw [h1, loopF_done (hend _ h2)], h2⟩

/-- a loop that looks for the first place where something is so -/
theorem loop_find {ρ : Type} {step : Int → Option (Int ⊕ ρ)} (n : Nat) (c : Nat → Option ρ) (fin : ρ)
    (hstep : ∀ i, i < n → step (i : Int) = match c i with | some r => some (.inr r) | none => some (.inl ((i + 1 : Nat) : Int)))
    (hend : step (n : Int) = some (.inr fin)) : loopF step 0 = some (((List.range n).findSome? c).getD fin) := by
  have key : ∀ (k i : Nat), i + k = n → loopF step (i : Int) = some (((List.range' i k).findSome? c).getD fin) := by
    intro k
    induction k with
    | zero => intro i h; obtain rfl : i = n := by omega
              simpa using loopF_done hend
    | succ k ih =>
      intro i h
      have h1 := hstep i (by omega)
      rw [List.range'_succ, List.findSome?_cons]
      cases hc : c i with
      | some r => rw [hc] at h1; simpa using loopF_done h1
      | none => rw [hc] at h1; rw [loopF_more h1]; exact ih (i + 1) (by omega)
  have := key n 0 (by omega)
  simpa [List.range_eq_range'] using this

/-- all places are good, or the first bad one ends it -/
theorem loop_allb {β : Type} {step : Int → Option (Int ⊕ (Unit ⊕ β))} {k : Unit ⊕ β → Option Bool} (n : Nat) (c : Nat → Bool) (bad : β)
    (hstep : ∀ i, i < n → step (i : Int) = if c i then some (.inl ((i + 1 : Nat) : Int)) else some (.inr (.inr bad)))
    (hend : step (n : Int) = some (.inr (.inl ()))) (hk1 : k (.inl ()) = some true) (hk2 : k (.inr bad) = some false) :
    (loopF step 0).bind k = some ((List.range n).all c) := by
  rw [loop_find n (fun i => if c i then none else some (.inr bad)) (.inl ()) (fun i hi => by rw [hstep i hi]; cases c i <;> rfl) hend]
  simp only [Option.bind_some]
  cases h : (List.range n).all c with
  | true =>
    rw [List.findSome?_eq_none_iff.2 (fun x hx => by rw [if_pos (List.all_eq_true.1 h x hx)])]
    exact hk1
  | false =>
    cases h2 : (List.range n).findSome? (fun i => if c i then none else some (Sum.inr bad)) with
    | none =>
      rw [List.findSome?_eq_none_iff] at h2
      have : (List.range n).all c = true := List.all_eq_true.2 fun x hx => by
        have := h2 x hx
        cases hc : c x
        · rw [hc] at this; cases this
        · rfl
      rw [this] at h; cases h
    | some r =>
      obtain ⟨x, _, hx⟩ := List.exists_of_findSome?_eq_some h2
      cases hc : c x
      · rw [hc] at hx; simp at hx; subst hx; exact hk2
      · rw [hc] at hx; simp at hx

/-- all places are good, or the first bad one ends it: what comes behind -/
theorem loop_ck {ρ β : Type} {step : Int → Option (Int ⊕ ρ)} {k : ρ → Option β} (n : Nat) (c : Nat → Bool) (fine bad : ρ)
    (hstep : ∀ i, i < n → step (i : Int) = if c i then some (.inl ((i + 1 : Nat) : Int)) else some (.inr bad))
    (hend : step (n : Int) = some (.inr fine)) : (loopF step 0).bind k = cond ((List.range n).all c) (k fine) (k bad) := by
  rw [loop_find n (fun i => if c i then none else some bad) fine (fun i hi => by rw [hstep i hi]; cases c i <;> rfl) hend]
  simp only [Option.bind_some]
  cases h : (List.range n).all c with
  | true =>
    rw [List.findSome?_eq_none_iff.2 (fun x hx => by rw [if_pos (List.all_eq_true.1 h x hx)])]
    rfl
  | false =>
    cases h2 : (List.range n).findSome? (fun i => if c i then none else some bad) with
    | none =>
      rw [List.findSome?_eq_none_iff] at h2
      have : (List.range n).all c = true := List.all_eq_true.2 fun x hx => by
        have := h2 x hx
        cases hc : c x
        · rw [hc] at this; cases this
        · rfl
      rw [this] at h; cases h
    | some r =>
      obtain ⟨x, _, hx⟩ := List.exists_of_findSome?_eq_some h2
      cases hc : c x
      · rw [hc] at hx; simp at hx; subst hx; rfl
      · rw [hc] at hx; simp at hx

/-- some place is so -/
theorem loop_anyb {β : Type} {step : Int → Option (Int ⊕ (Unit ⊕ β))} {k : Unit ⊕ β → Option Bool} (n : Nat) (c : Nat → Bool) (good : β)
    (hstep : ∀ i, i < n → step (i : Int) = if c i then some (.inr (.inr good)) else some (.inl ((i + 1 : Nat) : Int)))
    (hend : step (n : Int) = some (.inr (.inl ()))) (hk1 : k (.inl ()) = some false) (hk2 : k (.inr good) = some true) :
    (loopF step 0).bind k = some ((List.range n).any c) := by
  rw [loop_find n (fun i => if c i then some (.inr good) else none) (.inl ()) (fun i hi => by rw [hstep i hi]; cases c i <;> rfl) hend]
  simp only [Option.bind_some]
  cases h : (List.range n).any c with
  | false =>
    rw [List.findSome?_eq_none_iff.2 (fun x hx => by
      have : c x = false := by
        cases hc : c x
        · rfl
        · rw [List.any_eq_true.2 ⟨x, hx, hc⟩] at h; cases h
      rw [this]; rfl)]
    exact hk1
  | true =>
    obtain ⟨x, hx, hc⟩ := List.any_eq_true.1 h
    cases h2 : (List.range n).findSome? (fun i => if c i then some (Sum.inr good) else none) with
    | none =>
      rw [List.findSome?_eq_none_iff] at h2
      have := h2 x hx
      rw [hc] at this; cases this
    | some r =>
      obtain ⟨y, _, hy⟩ := List.exists_of_findSome?_eq_some h2
      cases hc : c y
      · rw [hc] at hy; simp at hy
      · rw [hc] at hy; simp at hy; subst hy; exact hk2

theorem range_all_list {α : Type} (xs : List α) (p : α → Bool) (c : Nat → Bool) (h : ∀ i (hi : i < xs.length), c i = p xs[i]) : (List.range xs.length).all c = xs.all p := by
  rw [Bool.eq_iff_iff, List.all_eq_true, List.all_eq_true]
  constructor
  · intro hh x hx
    obtain ⟨i, hi, rfl⟩ := List.getElem_of_mem hx
    rw [← h i hi]; exact hh i (List.mem_range.2 hi)
  · intro hh i hi
    have hi' := List.mem_range.1 hi
    rw [h i hi']; exact hh _ (List.getElem_mem _)
theorem range_any_list {α : Type} (xs : List α) (p : α → Bool) (c : Nat → Bool) (h : ∀ i (hi : i < xs.length), c i = p xs[i]) : (List.range xs.length).any c = xs.any p := by
  rw [Bool.eq_iff_iff, List.any_eq_true, List.any_eq_true]
  constructor
  · rintro ⟨i, hi, hc⟩
    have hi' := List.mem_range.1 hi
    exact ⟨_, List.getElem_mem hi', by rw [← h i hi']; exact hc⟩
  · rintro ⟨x, hx, hc⟩
    obtain ⟨i, hi, rfl⟩ := List.getElem_of_mem hx
    exact ⟨i, List.mem_range.2 hi, by rw [h i hi]; exact hc⟩
theorem all_forall (n : Nat) (c : Nat → Bool) : (List.range n).all c = true ↔ ∀ i, i < n → c i = true := by
  rw [List.all_eq_true]
  exact ⟨fun h i hi => h i (List.mem_range.2 hi), fun h i hi => h i (List.mem_range.1 hi)⟩

end Go.Sx



/- Go's sort by a comparison (slices.SortFunc), whatever is sorted: its parts as plain functions, made by program out of one instance. -/
namespace Go.Sx

noncomputable def DG.insertionSort {α : Type} (cmp : α → α → Option Int) (x0 : (List α)) (x1 : Int) (x2 : Int) : Option (((List α))) :=
  (loopF (σ := (List α) × Int) (ρ := ((List α))) (fun (s_560 : (List α) × Int) => match s_560 with | (l_563, x_566) => cond (decide (x_566 < x2)) ((loopF (σ := (List α) × Int) (ρ := ((List α))) (fun (s_984 : (List α) × Int) => match s_984 with | (l_987, x_990) => (cond (decide (x1 < x_990)) ((idx l_987 x_990).bind fun e_1079 => (idx l_987 (IntKind.i64.wrap (x_990 - 1))).bind fun e_1085 => (cmp e_1079 e_1085).bind fun y_1091 => some (decide (y_1091 < 0))) (some false)).bind fun b_1077 => cond b_1077 ((idx l_987 (IntKind.i64.wrap (x_990 - 1))).bind fun e_1097 => (idx l_987 x_990).bind fun e_1103 => (idx l_987 x_990).bind fun e_1109 => (idx (l_987.set (Int.toNat x_990) e_1097) (IntKind.i64.wrap (x_990 - 1))).bind fun e_1117 => some (.inl (((l_987.set (Int.toNat x_990) e_1097).set (Int.toNat (IntKind.i64.wrap (x_990 - 1))) e_1103), (IntKind.i64.wrap (x_990 - 1))))) (some (.inr l_987))) (l_563, x_566)).bind fun l_1056 => some (.inl (l_1056, (IntKind.i64.wrap (x_566 + 1))))) (some (.inr l_563))) (x0, (IntKind.i64.wrap (x1 + 1)))).bind fun l_844 => some l_844

noncomputable def DG.siftDown {α : Type} (cmp : α → α → Option Int) (x0 : (List α)) (x1 : Int) (x2 : Int) (x3 : Int) : Option (((List α))) :=
  (loopF (σ := (List α) × Int) (ρ := ((List α)) ⊕ (((List α)))) (fun (s_186 : (List α) × Int) => match s_186 with | (l_189, x_192) => cond (decide (x2 ≤ (IntKind.i64.wrap ((IntKind.i64.wrap (2 * x_192)) + 1)))) (some (.inr (.inl l_189))) ((cond (decide ((IntKind.i64.wrap ((IntKind.i64.wrap ((IntKind.i64.wrap (2 * x_192)) + 1)) + 1)) < x2)) ((idx l_189 (IntKind.i64.wrap (x3 + (IntKind.i64.wrap ((IntKind.i64.wrap (2 * x_192)) + 1))))).bind fun e_307 => (idx l_189 (IntKind.i64.wrap ((IntKind.i64.wrap (x3 + (IntKind.i64.wrap ((IntKind.i64.wrap (2 * x_192)) + 1)))) + 1))).bind fun e_313 => (cmp e_307 e_313).bind fun y_319 => some (decide (y_319 < 0))) (some false)).bind fun b_305 => ((cond b_305 (some (IntKind.i64.wrap ((IntKind.i64.wrap ((IntKind.i64.wrap (2 * x_192)) + 1)) + 1))) (some (IntKind.i64.wrap ((IntKind.i64.wrap (2 * x_192)) + 1))) : Option (Int))).bind fun x_328 => (idx l_189 (IntKind.i64.wrap (x3 + x_192))).bind fun e_331 => (idx l_189 (IntKind.i64.wrap (x3 + x_328))).bind fun e_337 => (cmp e_331 e_337).bind fun y_343 => cond (!(decide (y_343 < 0))) (some (.inr (.inr l_189))) ((idx l_189 (IntKind.i64.wrap (x3 + x_328))).bind fun e_349 => (idx l_189 (IntKind.i64.wrap (x3 + x_192))).bind fun e_355 => (idx l_189 (IntKind.i64.wrap (x3 + x_192))).bind fun e_361 => (idx (l_189.set (Int.toNat (IntKind.i64.wrap (x3 + x_192))) e_349) (IntKind.i64.wrap (x3 + x_328))).bind fun e_369 => some (.inl (((l_189.set (Int.toNat (IntKind.i64.wrap (x3 + x_192))) e_349).set (Int.toNat (IntKind.i64.wrap (x3 + x_328))) e_355), x_328))))) (x0, x1)).bind fun zz => match zz with | .inl l_283 => (some l_283) | .inr z => (some z)

noncomputable def DG.heapSort {α : Type} (cmp : α → α → Option Int) (x0 : (List α)) (x1 : Int) (x2 : Int) : Option (((List α))) :=
  (loopF (σ := (List α) × Int) (ρ := ((List α))) (fun (s_30 : (List α) × Int) => match s_30 with | (l_33, x_36) => cond (decide ((0 : Int) ≤ x_36)) ((DG.siftDown cmp l_33 x_36 (IntKind.i64.wrap (x2 - x1)) x1).bind fun y_54 => some (.inl (y_54, (IntKind.i64.wrap (x_36 - 1))))) (some (.inr l_33))) (x0, (IntKind.i64.wrap (Int.tdiv (IntKind.i64.wrap ((IntKind.i64.wrap (x2 - x1)) - 1)) 2)))).bind fun l_49 => (loopF (σ := (List α) × Int) (ρ := ((List α))) (fun (s_144 : (List α) × Int) => match s_144 with | (l_147, x_150) => cond (decide ((0 : Int) ≤ x_150)) ((idx l_147 (IntKind.i64.wrap (x1 + x_150))).bind fun e_194 => (idx l_147 x1).bind fun e_200 => (idx l_147 x1).bind fun e_206 => (idx (l_147.set (Int.toNat x1) e_194) (IntKind.i64.wrap (x1 + x_150))).bind fun e_214 => (DG.siftDown cmp ((l_147.set (Int.toNat x1) e_194).set (Int.toNat (IntKind.i64.wrap (x1 + x_150))) e_200) 0 x_150 x1).bind fun y_220 => some (.inl (y_220, (IntKind.i64.wrap (x_150 - 1))))) (some (.inr l_147))) (l_49, (IntKind.i64.wrap ((IntKind.i64.wrap (x2 - x1)) - 1)))).bind fun l_189 => some l_189

noncomputable def DG.breakPatterns {α : Type} (cmp : α → α → Option Int) (x0 : (List α)) (x1 : Int) (x2 : Int) : Option (((List α))) :=
  cond (decide ((8 : Int) ≤ (IntKind.i64.wrap (x2 - x1)))) ((D.slices_nextPowerOfTwo (IntKind.i64.wrap (x2 - x1))).bind fun y_4 => (loopF (σ := (List α) × Int × Int) (ρ := ((List α))) (fun (s_103 : (List α) × Int × Int) => match s_103 with | (l_106, x_109, x_110) => cond (decide (x_109 ≤ (IntKind.i64.wrap ((IntKind.i64.wrap (x1 + (IntKind.i64.wrap ((IntKind.i64.wrap (Int.tdiv (IntKind.i64.wrap (x2 - x1)) 4)) * 2)))) + 1)))) ((D.slices_xorshift_Next x_110).bind fun y_159 => ((cond (decide ((IntKind.i64.wrap (x2 - x1)) ≤ (IntKind.i64.wrap (iand .u64 y_159.1 (IntKind.u64.wrap (y_4 - 1)))))) (some (IntKind.i64.wrap ((IntKind.i64.wrap (iand .u64 y_159.1 (IntKind.u64.wrap (y_4 - 1)))) - (IntKind.i64.wrap (x2 - x1))))) (some (IntKind.i64.wrap (iand .u64 y_159.1 (IntKind.u64.wrap (y_4 - 1))))) : Option (Int))).bind fun x_170 => (idx l_106 (IntKind.i64.wrap (x1 + x_170))).bind fun e_173 => (idx l_106 x_109).bind fun e_179 => (idx l_106 x_109).bind fun e_185 => (idx (l_106.set (Int.toNat x_109) e_173) (IntKind.i64.wrap (x1 + x_170))).bind fun e_193 => some (.inl (((l_106.set (Int.toNat x_109) e_173).set (Int.toNat (IntKind.i64.wrap (x1 + x_170))) e_179), (IntKind.i64.wrap (x_109 + 1)), y_159.2))) (some (.inr l_106))) (x0, (IntKind.i64.wrap ((IntKind.i64.wrap (x1 + (IntKind.i64.wrap ((IntKind.i64.wrap (Int.tdiv (IntKind.i64.wrap (x2 - x1)) 4)) * 2)))) - 1)), (IntKind.u64.wrap (IntKind.i64.wrap (x2 - x1))))).bind fun l_154 => some l_154) (some x0)

noncomputable def DG.order2 {α : Type} (cmp : α → α → Option Int) (x0 : (List α)) (x1 : Int) (x2 : Int) (x3_0 : Int) : Option (Int × Int × ((List α)) × Int) :=
  (idx x0 x2).bind fun e_1 => (idx x0 x1).bind fun e_7 => (cmp e_1 e_7).bind fun y_13 => cond (decide (y_13 < 0)) (some (x2, x1, x0, (IntKind.i64.wrap (x3_0 + 1)))) (some (x1, x2, x0, x3_0))

noncomputable def DG.median {α : Type} (cmp : α → α → Option Int) (x0 : (List α)) (x1 : Int) (x2 : Int) (x3 : Int) (x4_0 : Int) : Option (Int × ((List α)) × Int) :=
  (DG.order2 cmp x0 x1 x2 x4_0).bind fun y_1 => (DG.order2 cmp y_1.2.2.1 y_1.2.1 x3 y_1.2.2.2).bind fun y_10 => (DG.order2 cmp y_10.2.2.1 y_1.1 y_10.1 y_10.2.2.2).bind fun y_19 => some (y_19.2.1, y_19.2.2.1, y_19.2.2.2)

noncomputable def DG.medianAdjacent {α : Type} (cmp : α → α → Option Int) (x0 : (List α)) (x1 : Int) (x2_0 : Int) : Option (Int × ((List α)) × Int) :=
  (DG.median cmp x0 (IntKind.i64.wrap (x1 - 1)) x1 (IntKind.i64.wrap (x1 + 1)) x2_0).bind fun y_1 => some (y_1.1, y_1.2.1, y_1.2.2)

noncomputable def DG.choosePivot {α : Type} (cmp : α → α → Option Int) (x0 : (List α)) (x1 : Int) (x2 : Int) : Option (Int × Int × ((List α))) :=
  cond (decide ((8 : Int) ≤ (IntKind.i64.wrap (x2 - x1)))) (((cond (decide ((50 : Int) ≤ (IntKind.i64.wrap (x2 - x1)))) ((DG.medianAdjacent cmp x0 (IntKind.i64.wrap (x1 + (IntKind.i64.wrap ((IntKind.i64.wrap (Int.tdiv (IntKind.i64.wrap (x2 - x1)) 4)) * 1)))) 0).bind fun y_44 => (DG.medianAdjacent cmp y_44.2.1 (IntKind.i64.wrap (x1 + (IntKind.i64.wrap ((IntKind.i64.wrap (Int.tdiv (IntKind.i64.wrap (x2 - x1)) 4)) * 2)))) y_44.2.2).bind fun y_53 => (DG.medianAdjacent cmp y_53.2.1 (IntKind.i64.wrap (x1 + (IntKind.i64.wrap ((IntKind.i64.wrap (Int.tdiv (IntKind.i64.wrap (x2 - x1)) 4)) * 3)))) y_53.2.2).bind fun y_62 => some (y_62.2.1, y_44.1, y_53.1, y_62.1, y_62.2.2)) (some (x0, (IntKind.i64.wrap (x1 + (IntKind.i64.wrap ((IntKind.i64.wrap (Int.tdiv (IntKind.i64.wrap (x2 - x1)) 4)) * 1)))), (IntKind.i64.wrap (x1 + (IntKind.i64.wrap ((IntKind.i64.wrap (Int.tdiv (IntKind.i64.wrap (x2 - x1)) 4)) * 2)))), (IntKind.i64.wrap (x1 + (IntKind.i64.wrap ((IntKind.i64.wrap (Int.tdiv (IntKind.i64.wrap (x2 - x1)) 4)) * 3)))), 0)) : Option ((List α) × Int × Int × Int × Int))).bind fun (l_35, x_38, x_39, x_40, x_41) => (DG.median cmp l_35 x_38 x_39 x_40 x_41).bind fun y_71 => cond (y_71.2.2 == 0) (some (y_71.1, 1, y_71.2.1)) (cond (y_71.2.2 == 12) (some (y_71.1, 2, y_71.2.1)) (some (y_71.1, 0, y_71.2.1)))) (cond ((0 : Int) == 0) (some ((IntKind.i64.wrap (x1 + (IntKind.i64.wrap ((IntKind.i64.wrap (Int.tdiv (IntKind.i64.wrap (x2 - x1)) 4)) * 2)))), 1, x0)) (cond ((0 : Int) == 12) (some ((IntKind.i64.wrap (x1 + (IntKind.i64.wrap ((IntKind.i64.wrap (Int.tdiv (IntKind.i64.wrap (x2 - x1)) 4)) * 2)))), 2, x0)) (some ((IntKind.i64.wrap (x1 + (IntKind.i64.wrap ((IntKind.i64.wrap (Int.tdiv (IntKind.i64.wrap (x2 - x1)) 4)) * 2)))), 0, x0))))

noncomputable def DG.reverseRange {α : Type} (cmp : α → α → Option Int) (x0 : (List α)) (x1 : Int) (x2 : Int) : Option (((List α))) :=
  (loopF (σ := (List α) × Int × Int) (ρ := ((List α))) (fun (s_65 : (List α) × Int × Int) => match s_65 with | (l_68, x_71, x_72) => cond (decide (x_71 < x_72)) ((idx l_68 x_72).bind fun e_107 => (idx l_68 x_71).bind fun e_113 => (idx l_68 x_71).bind fun e_119 => (idx (l_68.set (Int.toNat x_71) e_107) x_72).bind fun e_127 => some (.inl (((l_68.set (Int.toNat x_71) e_107).set (Int.toNat x_72) e_113), (IntKind.i64.wrap (x_71 + 1)), (IntKind.i64.wrap (x_72 - 1))))) (some (.inr l_68))) (x0, x1, (IntKind.i64.wrap (x2 - 1)))).bind fun l_102 => some l_102

noncomputable def DG.partialInsertionSort {α : Type} (cmp : α → α → Option Int) (x0 : (List α)) (x1 : Int) (x2 : Int) : Option (Bool × ((List α))) :=
  (loopF (σ := (List α) × Int × Int) (ρ := ((List α)) ⊕ (Bool × ((List α)))) (fun (s_1625 : (List α) × Int × Int) => match s_1625 with | (l_1628, x_1631, x_1632) => cond (decide (x_1632 < 5)) ((loopF (σ := Int) (ρ := (Int)) (fun (x_2530 : Int) => (cond (decide (x_2530 < x2)) ((idx l_1628 x_2530).bind fun e_2591 => (idx l_1628 (IntKind.i64.wrap (x_2530 - 1))).bind fun e_2597 => (cmp e_2591 e_2597).bind fun y_2603 => some (!(decide (y_2603 < 0)))) (some false)).bind fun b_2589 => cond b_2589 (some (.inl (IntKind.i64.wrap (x_2530 + 1)))) (some (.inr x_2530))) x_1631).bind fun x_2570 => cond (x_2570 == x2) (some (.inr (.inr (true, l_1628)))) (cond (decide ((IntKind.i64.wrap (x2 - x1)) < 50)) (some (.inr (.inr (false, l_1628)))) ((idx l_1628 (IntKind.i64.wrap (x_2570 - 1))).bind fun e_2611 => (idx l_1628 x_2570).bind fun e_2617 => (idx l_1628 x_2570).bind fun e_2623 => (idx (l_1628.set (Int.toNat x_2570) e_2611) (IntKind.i64.wrap (x_2570 - 1))).bind fun e_2631 => ((cond (decide ((2 : Int) ≤ (IntKind.i64.wrap (x_2570 - x1)))) ((loopF (σ := (List α) × Int) (ρ := ((List α))) (fun (s_2947 : (List α) × Int) => match s_2947 with | (l_2950, x_2953) => cond (decide ((1 : Int) ≤ x_2953)) ((idx l_2950 x_2953).bind fun e_3006 => (idx l_2950 (IntKind.i64.wrap (x_2953 - 1))).bind fun e_3012 => (cmp e_3006 e_3012).bind fun y_3018 => cond (!(decide (y_3018 < 0))) (some (.inr l_2950)) ((idx l_2950 (IntKind.i64.wrap (x_2953 - 1))).bind fun e_3024 => (idx l_2950 x_2953).bind fun e_3030 => (idx l_2950 x_2953).bind fun e_3036 => (idx (l_2950.set (Int.toNat x_2953) e_3024) (IntKind.i64.wrap (x_2953 - 1))).bind fun e_3044 => some (.inl (((l_2950.set (Int.toNat x_2953) e_3024).set (Int.toNat (IntKind.i64.wrap (x_2953 - 1))) e_3030), (IntKind.i64.wrap (x_2953 - 1)))))) (some (.inr l_2950))) (((l_1628.set (Int.toNat x_2570) e_2611).set (Int.toNat (IntKind.i64.wrap (x_2570 - 1))) e_2617), (IntKind.i64.wrap (x_2570 - 1)))).bind fun l_3001 => some l_3001) (some ((l_1628.set (Int.toNat x_2570) e_2611).set (Int.toNat (IntKind.i64.wrap (x_2570 - 1))) e_2617)) : Option ((List α)))).bind fun l_2843 => cond (decide ((2 : Int) ≤ (IntKind.i64.wrap (x2 - x_2570)))) ((loopF (σ := (List α) × Int) (ρ := ((List α))) (fun (s_3150 : (List α) × Int) => match s_3150 with | (l_3153, x_3156) => cond (decide (x_3156 < x2)) ((idx l_3153 x_3156).bind fun e_3209 => (idx l_3153 (IntKind.i64.wrap (x_3156 - 1))).bind fun e_3215 => (cmp e_3209 e_3215).bind fun y_3221 => cond (!(decide (y_3221 < 0))) (some (.inr l_3153)) ((idx l_3153 (IntKind.i64.wrap (x_3156 - 1))).bind fun e_3227 => (idx l_3153 x_3156).bind fun e_3233 => (idx l_3153 x_3156).bind fun e_3239 => (idx (l_3153.set (Int.toNat x_3156) e_3227) (IntKind.i64.wrap (x_3156 - 1))).bind fun e_3247 => some (.inl (((l_3153.set (Int.toNat x_3156) e_3227).set (Int.toNat (IntKind.i64.wrap (x_3156 - 1))) e_3233), (IntKind.i64.wrap (x_3156 + 1)))))) (some (.inr l_3153))) (l_2843, (IntKind.i64.wrap (x_2570 + 1)))).bind fun l_3204 => some (.inl (l_3204, x_2570, (IntKind.i64.wrap (x_1632 + 1))))) (some (.inl (l_2843, x_2570, (IntKind.i64.wrap (x_1632 + 1)))))))) (some (.inr (.inl l_1628)))) (x0, (IntKind.i64.wrap (x1 + 1)), 0)).bind fun zz => match zz with | .inl l_2442 => (some (false, l_2442)) | .inr z => (some z)

noncomputable def DG.partitionEqual {α : Type} (cmp : α → α → Option Int) (x0 : (List α)) (x1 : Int) (x2 : Int) (x3 : Int) : Option (Int × ((List α))) :=
  (idx x0 x3).bind fun e_1 => (idx x0 x1).bind fun e_7 => (idx x0 x1).bind fun e_13 => (idx (x0.set (Int.toNat x1) e_1) x3).bind fun e_21 => (loopF (σ := (List α) × Int × Int) (ρ := ((List α) × Int)) (fun (s_739 : (List α) × Int × Int) => match s_739 with | (l_742, x_745, x_746) => (loopF (σ := Int) (ρ := (Int)) (fun (x_1188 : Int) => (cond (decide (x_1188 ≤ x_746)) ((idx l_742 x1).bind fun e_1249 => (idx l_742 x_1188).bind fun e_1255 => (cmp e_1249 e_1255).bind fun y_1261 => some (!(decide (y_1261 < 0)))) (some false)).bind fun b_1247 => cond b_1247 (some (.inl (IntKind.i64.wrap (x_1188 + 1)))) (some (.inr x_1188))) x_745).bind fun x_1228 => (loopF (σ := Int) (ρ := (Int)) (fun (x_1350 : Int) => (cond (decide (x_1228 ≤ x_1350)) ((idx l_742 x1).bind fun e_1411 => (idx l_742 x_1350).bind fun e_1417 => (cmp e_1411 e_1417).bind fun y_1423 => some (decide (y_1423 < 0))) (some false)).bind fun b_1409 => cond b_1409 (some (.inl (IntKind.i64.wrap (x_1350 - 1)))) (some (.inr x_1350))) x_746).bind fun x_1390 => cond (decide (x_1390 < x_1228)) (some (.inr (l_742, x_1228))) ((idx l_742 x_1390).bind fun e_1430 => (idx l_742 x_1228).bind fun e_1436 => (idx l_742 x_1228).bind fun e_1442 => (idx (l_742.set (Int.toNat x_1228) e_1430) x_1390).bind fun e_1450 => some (.inl (((l_742.set (Int.toNat x_1228) e_1430).set (Int.toNat x_1390) e_1436), (IntKind.i64.wrap (x_1228 + 1)), (IntKind.i64.wrap (x_1390 - 1)))))) (((x0.set (Int.toNat x1) e_1).set (Int.toNat x3) e_7), (IntKind.i64.wrap (x1 + 1)), (IntKind.i64.wrap (x2 - 1)))).bind fun (l_1100, x_1103) => some (x_1103, l_1100)

noncomputable def DG.partition {α : Type} (cmp : α → α → Option Int) (x0 : (List α)) (x1 : Int) (x2 : Int) (x3 : Int) : Option (Int × Bool × ((List α))) :=
  (idx x0 x3).bind fun e_1 => (idx x0 x1).bind fun e_7 => (idx x0 x1).bind fun e_13 => (idx (x0.set (Int.toNat x1) e_1) x3).bind fun e_21 => (loopF (σ := Int) (ρ := (Int)) (fun (x_110 : Int) => (cond (decide (x_110 ≤ (IntKind.i64.wrap (x2 - 1)))) ((idx ((x0.set (Int.toNat x1) e_1).set (Int.toNat x3) e_7) x_110).bind fun e_171 => (idx ((x0.set (Int.toNat x1) e_1).set (Int.toNat x3) e_7) x1).bind fun e_177 => (cmp e_171 e_177).bind fun y_183 => some (decide (y_183 < 0))) (some false)).bind fun b_169 => cond b_169 (some (.inl (IntKind.i64.wrap (x_110 + 1)))) (some (.inr x_110))) (IntKind.i64.wrap (x1 + 1))).bind fun x_150 => (loopF (σ := Int) (ρ := (Int)) (fun (x_272 : Int) => (cond (decide (x_150 ≤ x_272)) ((idx ((x0.set (Int.toNat x1) e_1).set (Int.toNat x3) e_7) x_272).bind fun e_333 => (idx ((x0.set (Int.toNat x1) e_1).set (Int.toNat x3) e_7) x1).bind fun e_339 => (cmp e_333 e_339).bind fun y_345 => some (!(decide (y_345 < 0)))) (some false)).bind fun b_331 => cond b_331 (some (.inl (IntKind.i64.wrap (x_272 - 1)))) (some (.inr x_272))) (IntKind.i64.wrap (x2 - 1))).bind fun x_312 => cond (decide (x_312 < x_150)) ((idx ((x0.set (Int.toNat x1) e_1).set (Int.toNat x3) e_7) x1).bind fun e_352 => (idx ((x0.set (Int.toNat x1) e_1).set (Int.toNat x3) e_7) x_312).bind fun e_358 => (idx ((x0.set (Int.toNat x1) e_1).set (Int.toNat x3) e_7) x_312).bind fun e_364 => (idx (((x0.set (Int.toNat x1) e_1).set (Int.toNat x3) e_7).set (Int.toNat x_312) e_352) x1).bind fun e_372 => some (x_312, true, ((((x0.set (Int.toNat x1) e_1).set (Int.toNat x3) e_7).set (Int.toNat x_312) e_352).set (Int.toNat x1) e_358))) ((idx ((x0.set (Int.toNat x1) e_1).set (Int.toNat x3) e_7) x_312).bind fun e_378 => (idx ((x0.set (Int.toNat x1) e_1).set (Int.toNat x3) e_7) x_150).bind fun e_384 => (idx ((x0.set (Int.toNat x1) e_1).set (Int.toNat x3) e_7) x_150).bind fun e_390 => (idx (((x0.set (Int.toNat x1) e_1).set (Int.toNat x3) e_7).set (Int.toNat x_150) e_378) x_312).bind fun e_398 => (loopF (σ := (List α) × Int × Int) (ρ := ((List α) × Int)) (fun (s_1116 : (List α) × Int × Int) => match s_1116 with | (l_1119, x_1122, x_1123) => (loopF (σ := Int) (ρ := (Int)) (fun (x_1565 : Int) => (cond (decide (x_1565 ≤ x_1123)) ((idx l_1119 x_1565).bind fun e_1626 => (idx l_1119 x1).bind fun e_1632 => (cmp e_1626 e_1632).bind fun y_1638 => some (decide (y_1638 < 0))) (some false)).bind fun b_1624 => cond b_1624 (some (.inl (IntKind.i64.wrap (x_1565 + 1)))) (some (.inr x_1565))) x_1122).bind fun x_1605 => (loopF (σ := Int) (ρ := (Int)) (fun (x_1727 : Int) => (cond (decide (x_1605 ≤ x_1727)) ((idx l_1119 x_1727).bind fun e_1788 => (idx l_1119 x1).bind fun e_1794 => (cmp e_1788 e_1794).bind fun y_1800 => some (!(decide (y_1800 < 0)))) (some false)).bind fun b_1786 => cond b_1786 (some (.inl (IntKind.i64.wrap (x_1727 - 1)))) (some (.inr x_1727))) x_1123).bind fun x_1767 => cond (decide (x_1767 < x_1605)) (some (.inr (l_1119, x_1767))) ((idx l_1119 x_1767).bind fun e_1807 => (idx l_1119 x_1605).bind fun e_1813 => (idx l_1119 x_1605).bind fun e_1819 => (idx (l_1119.set (Int.toNat x_1605) e_1807) x_1767).bind fun e_1827 => some (.inl (((l_1119.set (Int.toNat x_1605) e_1807).set (Int.toNat x_1767) e_1813), (IntKind.i64.wrap (x_1605 + 1)), (IntKind.i64.wrap (x_1767 - 1)))))) (((((x0.set (Int.toNat x1) e_1).set (Int.toNat x3) e_7).set (Int.toNat x_150) e_378).set (Int.toNat x_312) e_384), (IntKind.i64.wrap (x_150 + 1)), (IntKind.i64.wrap (x_312 - 1)))).bind fun (l_1477, x_1480) => (idx l_1477 x1).bind fun e_1833 => (idx l_1477 x_1480).bind fun e_1839 => (idx l_1477 x_1480).bind fun e_1845 => (idx (l_1477.set (Int.toNat x_1480) e_1833) x1).bind fun e_1853 => some (x_1480, false, ((l_1477.set (Int.toNat x_1480) e_1833).set (Int.toNat x1) e_1839)))

noncomputable def DG.pdqsortR {α : Type} (cmp : α → α → Option Int) : Nat → ((List α)) → Int → Int → Int → Option (((List α)))
  | 0, _, _, _, _ => none
  | fuel + 1, x0, x1, x2, x3 => (loopF (σ := (List α) × Int × Int × Int × Bool × Bool) (ρ := (((List α)))) (fun (s_398 : (List α) × Int × Int × Int × Bool × Bool) => match s_398 with | (l_401, x_404, x_405, x_406, b_407, b_408) => cond (decide ((IntKind.i64.wrap (x_405 - x_404)) ≤ 12)) ((DG.insertionSort cmp l_401 x_404 x_405).bind fun y_411 => some (.inr y_411)) (cond (x_406 == 0) ((DG.heapSort cmp l_401 x_404 x_405).bind fun y_421 => some (.inr y_421)) (((cond (!b_407) ((DG.breakPatterns cmp l_401 x_404 x_405).bind fun y_449 => some (y_449, (IntKind.i64.wrap (x_406 - 1)))) (some (l_401, x_406)) : Option ((List α) × Int))).bind fun (l_443, x_446) => (DG.choosePivot cmp l_443 x_404 x_405).bind fun y_458 => ((cond (y_458.2.1 == 2) ((DG.reverseRange cmp y_458.2.2 x_404 x_405).bind fun y_487 => some (y_487, (IntKind.i64.wrap ((IntKind.i64.wrap (x_405 - 1)) - (IntKind.i64.wrap (y_458.1 - x_404)))), 1)) (some (y_458.2.2, y_458.1, y_458.2.1)) : Option ((List α) × Int × Int))).bind fun (l_480, x_483, x_484) => ((cond ((b_407 && b_408) && (x_484 == 1)) ((DG.partialInsertionSort cmp l_480 x_404 x_405).bind fun y_521 => cond y_521.1 (some (.inr y_521.2)) (some (.inl y_521.2))) (some (.inl l_480)) : Option (((List α)) ⊕ (((List α)))))).bind fun q => match q with | .inl l_516 => ((cond (decide ((0 : Int) < x_404)) ((idx l_516 (IntKind.i64.wrap (x_404 - 1))).bind fun e_550 => (idx l_516 x_483).bind fun e_556 => (cmp e_550 e_556).bind fun y_562 => some (!(decide (y_562 < 0)))) (some false)).bind fun b_548 => cond b_548 ((DG.partitionEqual cmp l_516 x_404 x_405 x_483).bind fun y_568 => some (.inl (y_568.2, y_568.1, x_405, x_446, b_407, b_408))) ((DG.partition cmp l_516 x_404 x_405 x_483).bind fun y_577 => cond (decide ((IntKind.i64.wrap (y_577.1 - x_404)) < (IntKind.i64.wrap (x_405 - y_577.1)))) ((DG.pdqsortR cmp fuel y_577.2.2 x_404 y_577.1 x_446).bind fun y_587 => some (.inl (y_587, (IntKind.i64.wrap (y_577.1 + 1)), x_405, x_446, (decide ((IntKind.i64.wrap (Int.tdiv (IntKind.i64.wrap (x_405 - x_404)) 8)) ≤ (IntKind.i64.wrap (y_577.1 - x_404)))), y_577.2.1))) ((DG.pdqsortR cmp fuel y_577.2.2 (IntKind.i64.wrap (y_577.1 + 1)) x_405 x_446).bind fun y_596 => some (.inl (y_596, x_404, y_577.1, x_446, (decide ((IntKind.i64.wrap (Int.tdiv (IntKind.i64.wrap (x_405 - x_404)) 8)) ≤ (IntKind.i64.wrap (x_405 - y_577.1)))), y_577.2.1))))) | .inr q => (some (.inr q))))) (x0, x1, x2, x3, true, true)).bind fun z => some z

noncomputable def DG.pdqsort {α : Type} (cmp : α → α → Option Int) (x0 : (List α)) (x1 : Int) (x2 : Int) (x3 : Int) : Option (((List α))) := DG.pdqsortR cmp recFuel x0 x1 x2 x3

noncomputable def DG.Sort {α : Type} (cmp : α → α → Option Int) (x0 : (List α)) : Option (((List α))) :=
  (D.math_bits_Len (IntKind.u64.wrap (x0.length : Int))).bind fun y_1 => (DG.pdqsort cmp x0 0 (x0.length : Int) y_1).bind fun y_8 => some y_8
end Go.Sx

/- Lists of things that have a key: reading, swapping, what a sort may do. Plain. -/
namespace Go.Sx.Gs
/-- what is sorted: things with a key, of which some are good, and a comparison that tells of good things which key is less -/
class Srtd (α : Type) where
  dflt : α
  key : α → Int
  good : α → Prop
  cmp : α → α → Option Int
  law : ∀ x y, good x → good y → ∃ v, cmp x y = some v ∧ decide (v < 0) = decide (key x < key y)
variable {α : Type} [Srtd α]
def el (l : List α) (i : Int) : α := l.getD i.toNat Srtd.dflt
def at' (l : List α) (i : Int) : Int := Srtd.key (el l i)
theorem idx_at {l : List α} {i : Int} (h0 : 0 ≤ i) (h1 : i < l.length) : idx l i = some (el l i) := by
  unfold idx el
  rw [if_pos h0]
  have : i.toNat < l.length := by omega
  simp [this]
theorem el_set {l : List α} {i k : Int} {x : α} (h0 : 0 ≤ i) (h1 : i < l.length) (hk : 0 ≤ k) : el (l.set i.toNat x) k = if k = i then x else el l k := by
  unfold el
  by_cases h : k = i
  · subst h
    have : k.toNat < l.length := by omega
    simp [this]
  · rw [if_neg h]
    have : i.toNat ≠ k.toNat := by omega
    simp [List.getD_eq_getElem?_getD, List.getElem?_set_ne this]

def sw (l : List α) (i j : Int) : List α := (l.set i.toNat (el l j)).set j.toNat (el l i)
theorem sw_len (l : List α) (i j : Int) : (sw l i j).length = l.length := by simp [sw]
theorem sw_at {l : List α} {i j k : Int} (hi : 0 ≤ i) (hi' : i < l.length) (hj : 0 ≤ j) (hj' : j < l.length) (hk : 0 ≤ k) :
    at' (sw l i j) k = if k = j then at' l i else if k = i then at' l j else at' l k := by
  unfold sw at'
  rw [el_set hj (by simpa using hj') hk]
  split
  · rfl
  · rw [el_set hi hi' hk]
    split <;> rfl

omit [Srtd α] in
theorem set_perm_erase (z : α) : ∀ (l : List α) (j : Nat), j < l.length → List.Perm (l.set j z) (z :: l.eraseIdx j)
  | [], j, h => by simp at h
  | x :: l, 0, _ => by simp
  | x :: l, j + 1, h => by
    simp only [List.set_cons_succ, List.eraseIdx_cons_succ]
    exact ((set_perm_erase z l j (by simpa using h)).cons x).trans (List.Perm.swap _ _ _)
omit [Srtd α] in
theorem perm_erase (l : List α) (j : Nat) (h : j < l.length) : List.Perm l (l[j] :: l.eraseIdx j) := by
  have := set_perm_erase l[j] l j h
  rwa [List.set_getElem_self] at this

omit [Srtd α] in
theorem set_perm : ∀ (l : List α) (i j : Nat) (x y : α), l[i]? = some x → l[j]? = some y → List.Perm ((l.set i y).set j x) l
  | [], i, j, x, y, h, _ => by simp at h
  | z :: l, 0, 0, x, y, h, h' => by simp at h h'; subst h; simp
  | z :: l, 0, j + 1, x, y, h, h' => by
    simp at h h'
    subst h
    simp only [List.set_cons_zero, List.set_cons_succ]
    obtain ⟨hj, rfl⟩ := List.getElem?_eq_some_iff.1 h'
    have h1 := set_perm_erase z l j hj
    have h2 := perm_erase l j hj
    exact ((h1.cons _).trans (List.Perm.swap _ _ _)).trans (h2.symm.cons z)
  | z :: l, i + 1, 0, x, y, h, h' => by
    simp at h h'
    subst h'
    simp only [List.set_cons_zero, List.set_cons_succ]
    obtain ⟨hj, rfl⟩ := List.getElem?_eq_some_iff.1 h
    have h1 := set_perm_erase z l i hj
    have h2 := perm_erase l i hj
    exact ((h1.cons _).trans (List.Perm.swap _ _ _)).trans (h2.symm.cons z)
  | z :: l, i + 1, j + 1, x, y, h, h' => by
    simp at h h'
    simp only [List.set_cons_succ]
    exact (set_perm l i j x y h h').cons z

theorem sw_perm {l : List α} {i j : Int} (hi : 0 ≤ i) (hi' : i < l.length) (hj : 0 ≤ j) (hj' : j < l.length) : List.Perm (sw l i j) l := by
  have h1 : i.toNat < l.length := by omega
  have h2 : j.toNat < l.length := by omega
  exact set_perm l i.toNat j.toNat _ _ (by simp [el, h1]) (by simp [el, h2])

/-- what a sort may do to the places from a to b -/
structure Rg (a b : Int) (l l' : List α) : Prop where
  len : l'.length = l.length
  perm : List.Perm l' l
  out : ∀ k, 0 ≤ k → (k < a ∨ b ≤ k) → at' l' k = at' l k
  all : ∀ Q : Int → Prop, (∀ k, a ≤ k → k < b → Q (at' l k)) → ∀ k, a ≤ k → k < b → Q (at' l' k)

theorem Rg.refl (a b : Int) (l : List α) : Rg a b l l := ⟨rfl, List.Perm.refl _, fun _ _ _ => rfl, fun _ h => h⟩
theorem Rg.trans {a b : Int} {l l' l'' : List α} (h : Rg a b l l') (h' : Rg a b l' l'') : Rg a b l l'' :=
  ⟨h'.len.trans h.len, h'.perm.trans h.perm, fun k h0 hk => (h'.out k h0 hk).trans (h.out k h0 hk), fun Q hQ => h'.all Q (h.all Q hQ)⟩
theorem Rg.swap {a b i j : Int} {l : List α} (ha : 0 ≤ a) (hb : b ≤ l.length) (hi : a ≤ i) (hi' : i < b) (hj : a ≤ j) (hj' : j < b) : Rg a b l (sw l i j) := by
  refine ⟨sw_len _ _ _, sw_perm (by omega) (by omega) (by omega) (by omega), fun k h0 hk => ?_, fun Q hQ k h1 h2 => ?_⟩
  · rw [sw_at (by omega) (by omega) (by omega) (by omega) h0, if_neg (by omega), if_neg (by omega)]
  · rw [sw_at (by omega) (by omega) (by omega) (by omega) (by omega)]
    split
    · exact hQ i hi hi'
    · split
      · exact hQ j hj hj'
      · exact hQ k h1 h2
theorem Rg.widen {a b a' b' : Int} {l l' : List α} (h : Rg a b l l') (ha : a' ≤ a) (hb : b ≤ b') (h0 : 0 ≤ a') : Rg a' b' l l' := by
  refine ⟨h.len, h.perm, fun k h0 hk => h.out k h0 (by omega), fun Q hQ k h1 h2 => ?_⟩
  by_cases hk : a ≤ k ∧ k < b
  · exact h.all Q (fun k h3 h4 => hQ k (by omega) (by omega)) k hk.1 hk.2
  · rw [h.out k (by omega) (by omega)]; exact hQ k h1 h2

/-- sorted from a to b -/
def Srt (l : List α) (a b : Int) : Prop := ∀ i j, a ≤ i → i < j → j < b → at' l i ≤ at' l j

/-- all good -/
def Good (l : List α) : Prop := ∀ x ∈ l, Srtd.good x
theorem Rg.good {a b : Int} {l l' : List α} (h : Rg a b l l') (hg : Good l) : Good l' := fun x hx => hg x (h.perm.mem_iff.1 hx)
theorem Good.el {l : List α} (h : Good l) {i : Int} (h0 : 0 ≤ i) (h1 : i < l.length) : Srtd.good (el l i) := by
  unfold Gs.el
  have : i.toNat < l.length := by omega
  rw [getD_lt this]
  exact h _ (List.getElem_mem this)
theorem cmp_at {l : List α} (h : Good l) {i j : Int} (h0 : 0 ≤ i) (h1 : i < l.length) (h2 : 0 ≤ j) (h3 : j < l.length) : ∃ v, Srtd.cmp (el l i) (el l j) = some v ∧ decide (v < 0) = decide (at' l i < at' l j) :=
  Srtd.law _ _ (h.el h0 h1) (h.el h2 h3)
theorem idx_set_at {l : List α} {i j : Int} {x : α} (h0 : 0 ≤ i) (h1 : i < l.length) : idx (l.set j.toNat x) i = some (el (l.set j.toNat x) i) := idx_at h0 (by simpa using h1)
end Go.Sx.Gs

/- insertion sort. Plain. -/
namespace Go.Sx.Gs
variable {α : Type} [Srtd α]
theorem insertionSort_spec (l0 : List α) (a b : Int) (ha : 0 ≤ a) (hab : a ≤ b) (hb : b ≤ l0.length) (hlen : l0.length ≤ 1000000) (hG : Good l0) :
    ∃ l', DG.insertionSort Srtd.cmp l0 a b = some l' ∧ Rg a b l0 l' ∧ Srt l' a b := by
  unfold DG.insertionSort
  rw [w64 (show -9223372036854775808 ≤ a + 1 by omega) (by omega)]
  refine loop_then (fun s => Rg a b l0 s.1 ∧ Srt s.1 a s.2 ∧ a + 1 ≤ s.2 ∧ s.2 ≤ b + 1) (fun s => (b - s.2).toNat) (fun r => Rg a b l0 r ∧ Srt r a b) ?_ ?_ ?_
  · rintro ⟨l, i⟩ ⟨hR, hS, h1, h2⟩
    dsimp only at hR hS h1 h2 ⊢
    have hll := hR.len
    by_cases hi : i < b
    · simp only [hi, decide_true, cond_true]
      rw [w64 (show -9223372036854775808 ≤ i + 1 by omega) (by omega)]
      refine loop_then (fun s => Rg a b l0 s.1 ∧ a ≤ s.2 ∧ s.2 ≤ i ∧ ∀ p q, a ≤ p → p < q → q ≤ i → q ≠ s.2 → at' s.1 p ≤ at' s.1 q) (fun s => (s.2 - a).toNat) (fun r => Rg a b l0 r ∧ Srt r a (i + 1)) ?_ ?_ ?_
      · rintro ⟨m, j⟩ ⟨hR', g1, g2, hS'⟩
        dsimp only at hR' g1 g2 hS' ⊢
        have hml := hR'.len
        rw [w64 (show -9223372036854775808 ≤ j - 1 by omega) (by omega)]
        by_cases hj : a < j
        · have r1 : idx m j = some (el m j) := idx_at (by omega) (by omega)
          have r2 : idx m (j - 1) = some (el m (j - 1)) := idx_at (by omega) (by omega)
          have r3 : ∀ x, idx (m.set j.toNat x) (j - 1) = some (el (m.set j.toNat x) (j - 1)) := fun x => idx_set_at (by omega) (by omega)
          obtain ⟨v, cv, hv⟩ := cmp_at (hR'.good hG) (i := j) (j := j - 1) (by omega) (by omega) (by omega) (by omega)
          by_cases hlt : at' m j < at' m (j - 1)
          · refine ⟨.inl (sw m j (j - 1), j - 1), ?_, ⟨hR'.trans (Rg.swap ha (by omega) (by omega) (by omega) (by omega) (by omega)), by dsimp only; omega, by dsimp only; omega, ?_⟩, by dsimp only; omega⟩
            · simp only [r1, r2, r3, hj, cv, hv, hlt, decide_true, cond_true, Option.bind_some]
              rfl
            · intro p q k1 k2 k3 k4
              dsimp only at k4 ⊢
              rw [sw_at (by omega) (by omega) (by omega) (by omega) (by omega), sw_at (by omega) (by omega) (by omega) (by omega) (by omega)]
              by_cases c1 : q = j
              · subst c1
                rw [if_neg (show ¬ q = q - 1 by omega), if_pos rfl]
                by_cases c2 : p = q - 1
                · rw [if_pos c2]; omega
                · rw [if_neg c2, if_neg (by omega)]
                  exact hS' p (q - 1) k1 (by omega) (by omega) (by omega)
              · rw [if_neg (show ¬ q = j - 1 by omega), if_neg c1]
                by_cases c2 : p = j - 1
                · rw [if_pos c2]
                  exact hS' j q (by omega) (by omega) k3 c1
                · rw [if_neg c2]
                  by_cases c3 : p = j
                  · rw [if_pos c3]
                    exact hS' (j - 1) q (by omega) (by omega) k3 c1
                  · rw [if_neg c3]
                    exact hS' p q k1 k2 k3 c1
          · refine ⟨.inr m, ?_, hR', ?_⟩
            · simp only [r1, r2, hj, cv, hv, hlt, decide_true, decide_false, cond_true, cond_false, Option.bind_some]
            · intro p q k1 k2 k3
              by_cases c1 : q = j
              · subst c1
                by_cases c2 : p = q - 1
                · subst c2; omega
                · have := hS' p (q - 1) k1 (by omega) (by omega) (by omega)
                  omega
              · exact hS' p q k1 k2 (by omega) c1
        · refine ⟨.inr m, ?_, hR', ?_⟩
          · simp only [hj, decide_false, cond_false, Option.bind_some]
          · intro p q k1 k2 k3
            exact hS' p q k1 k2 (by omega) (by omega)
      · exact ⟨hR, by dsimp only; omega, Int.le_refl _, fun p q k1 k2 k3 k4 => hS p q k1 k2 (by dsimp only at k4 ⊢; omega)⟩
      · rintro r ⟨hR', hS'⟩
        exact ⟨.inl (r, i + 1), rfl, ⟨hR', hS', by dsimp only; omega, by dsimp only; omega⟩, by dsimp only; omega⟩
    · refine ⟨.inr l, by simp only [hi, decide_false, cond_false], hR, ?_⟩
      intro p q k1 k2 k3
      exact hS p q k1 k2 (by omega)
  · exact ⟨Rg.refl _ _ _, fun p q k1 k2 k3 => by dsimp only at k3; omega, by dsimp only; omega, by dsimp only; omega⟩
  · rintro r hr
    exact ⟨r, rfl, hr⟩
end Go.Sx.Gs

/- reversal, scans, partition. Plain. -/
namespace Go.Sx.Gs
variable {α : Type} [Srtd α]
theorem reverseRange_spec (l0 : List α) (a b : Int) (ha : 0 ≤ a) (hab : a ≤ b) (hb : b ≤ l0.length) (hlen : l0.length ≤ 1000000) :
    ∃ l', DG.reverseRange Srtd.cmp l0 a b = some l' ∧ Rg a b l0 l' := by
  unfold DG.reverseRange
  rw [w64 (show -9223372036854775808 ≤ b - 1 by omega) (by omega)]
  refine loop_then (fun s => Rg a b l0 s.1 ∧ a ≤ s.2.1 ∧ s.2.1 ≤ b ∧ s.2.2 < b ∧ a - 1 ≤ s.2.2) (fun s => (s.2.2 - s.2.1).toNat) (fun r => Rg a b l0 r) ?_ ?_ ?_
  · rintro ⟨l, i, j⟩ ⟨hR, h1, h2, h3, h4⟩
    dsimp only at hR h1 h2 h3 h4 ⊢
    have hll := hR.len
    by_cases hi : i < j
    · have r1 : idx l i = some (el l i) := idx_at (by omega) (by omega)
      have r2 : idx l j = some (el l j) := idx_at (by omega) (by omega)
      have r3 : ∀ x, idx (l.set i.toNat x) j = some (el (l.set i.toNat x) j) := fun x => idx_set_at (by omega) (by omega)
      rw [w64 (show -9223372036854775808 ≤ i + 1 by omega) (by omega), w64 (show -9223372036854775808 ≤ j - 1 by omega) (by omega)]
      refine ⟨.inl (sw l i j, i + 1, j - 1), ?_, ⟨hR.trans (Rg.swap ha (by omega) (by omega) (by omega) (by omega) (by omega)), by dsimp only; omega, by dsimp only; omega, by dsimp only; omega, by dsimp only; omega⟩, by dsimp only; omega⟩
      simp only [r1, r2, r3, hi, decide_true, cond_true, Option.bind_some]
      rfl
    · exact ⟨.inr l, by simp only [hi, decide_false, cond_false], hR⟩
  · exact ⟨Rg.refl _ _ _, by dsimp only; omega, by dsimp only; omega, by dsimp only; omega, by dsimp only; omega⟩
  · rintro r hr
    exact ⟨r, rfl, hr⟩

/-- up, while what is read is less than the pivot -/
theorem scanUp {β : Type} {k : Int → Option β} {Q : β → Prop} (l : List α) (hG : Good l) (a hi i0 : Int) (ha : 0 ≤ a) (ha' : a < l.length) (h0 : 0 ≤ i0) (h1 : i0 ≤ hi + 1) (h2 : hi < l.length) (hlen : l.length ≤ 1000000)
    (hk : ∀ i, i0 ≤ i → i ≤ hi + 1 → (∀ q, i0 ≤ q → q < i → at' l q < at' l a) → (i ≤ hi → ¬ at' l i < at' l a) → ∃ y, k i = some y ∧ Q y) :
    ∃ y, (loopF (σ := Int) (ρ := (Int)) (fun (x : Int) => (cond (decide (x ≤ hi)) ((idx l x).bind fun e => (idx l a).bind fun e' => (Srtd.cmp e e').bind fun y => some (decide (y < 0))) (some false)).bind fun b => cond b (some (.inl (IntKind.i64.wrap (x + 1)))) (some (.inr x))) i0).bind k = some y ∧ Q y := by
  refine loop_then (fun i => i0 ≤ i ∧ i ≤ hi + 1 ∧ ∀ q, i0 ≤ q → q < i → at' l q < at' l a) (fun i => (hi + 1 - i).toNat) (fun i => i0 ≤ i ∧ i ≤ hi + 1 ∧ (∀ q, i0 ≤ q → q < i → at' l q < at' l a) ∧ (i ≤ hi → ¬ at' l i < at' l a)) ?_ ?_ ?_
  · rintro i ⟨g1, g2, g3⟩
    by_cases hi' : i ≤ hi
    · have r1 : idx l i = some (el l i) := idx_at (by omega) (by omega)
      have r2 : idx l a = some (el l a) := idx_at (by omega) (by omega)
      obtain ⟨v, cv, hv⟩ := cmp_at hG (i := i) (j := a) (by omega) (by omega) (by omega) (by omega)
      by_cases hlt : at' l i < at' l a
      · refine ⟨.inl (i + 1), ?_, ⟨by omega, by omega, fun q q1 q2 => ?_⟩, by dsimp only; omega⟩
        · simp only [r1, r2, hi', cv, hv, hlt, decide_true, cond_true, Option.bind_some]
          rw [w64 (by omega) (by omega)]
        · by_cases e : q = i
          · rw [e]; exact hlt
          · exact g3 q q1 (by omega)
      · exact ⟨.inr i, by simp only [r1, r2, hi', cv, hv, hlt, decide_true, decide_false, cond_true, cond_false, Option.bind_some], g1, g2, g3, fun _ => hlt⟩
    · exact ⟨.inr i, by simp only [hi', decide_false, cond_false, Option.bind_some], g1, g2, g3, fun h => absurd h hi'⟩
  · exact ⟨Int.le_refl _, h1, fun q q1 q2 => by omega⟩
  · rintro i ⟨g1, g2, g3, g4⟩
    exact hk i g1 g2 g3 g4

/-- down, while what is read is not less than the pivot -/
theorem scanDown {β : Type} {k : Int → Option β} {Q : β → Prop} (l : List α) (hG : Good l) (a lo j0 : Int) (ha : 0 ≤ a) (ha' : a < l.length) (h0 : 0 ≤ lo) (h1 : lo ≤ j0 + 1) (h2 : j0 < l.length) (hlen : l.length ≤ 1000000)
    (hk : ∀ j, lo ≤ j + 1 → j ≤ j0 → (∀ q, j < q → q ≤ j0 → ¬ at' l q < at' l a) → (lo ≤ j → at' l j < at' l a) → ∃ y, k j = some y ∧ Q y) :
    ∃ y, (loopF (σ := Int) (ρ := (Int)) (fun (x : Int) => (cond (decide (lo ≤ x)) ((idx l x).bind fun e => (idx l a).bind fun e' => (Srtd.cmp e e').bind fun y => some (!(decide (y < 0)))) (some false)).bind fun b => cond b (some (.inl (IntKind.i64.wrap (x - 1)))) (some (.inr x))) j0).bind k = some y ∧ Q y := by
  refine loop_then (fun j => lo ≤ j + 1 ∧ j ≤ j0 ∧ ∀ q, j < q → q ≤ j0 → ¬ at' l q < at' l a) (fun j => (j + 1 - lo).toNat) (fun j => lo ≤ j + 1 ∧ j ≤ j0 ∧ (∀ q, j < q → q ≤ j0 → ¬ at' l q < at' l a) ∧ (lo ≤ j → at' l j < at' l a)) ?_ ?_ ?_
  · rintro j ⟨g1, g2, g3⟩
    by_cases hi' : lo ≤ j
    · have r1 : idx l j = some (el l j) := idx_at (by omega) (by omega)
      have r2 : idx l a = some (el l a) := idx_at (by omega) (by omega)
      obtain ⟨v, cv, hv⟩ := cmp_at hG (i := j) (j := a) (by omega) (by omega) (by omega) (by omega)
      by_cases hlt : at' l j < at' l a
      · exact ⟨.inr j, by simp only [r1, r2, hi', cv, hv, hlt, decide_true, Bool.not_true, cond_true, cond_false, Option.bind_some], g1, g2, g3, fun _ => hlt⟩
      · refine ⟨.inl (j - 1), ?_, ⟨by omega, by omega, fun q q1 q2 => ?_⟩, by dsimp only; omega⟩
        · simp only [r1, r2, hi', cv, hv, hlt, decide_true, decide_false, Bool.not_false, cond_true, Option.bind_some]
          rw [w64 (by omega) (by omega)]
        · by_cases e : q = j
          · rw [e]; exact hlt
          · exact g3 q (by omega) q2
    · exact ⟨.inr j, by simp only [hi', decide_false, cond_false, Option.bind_some], g1, g2, g3, fun h => absurd h hi'⟩
  · exact ⟨h1, Int.le_refl _, fun q q1 q2 => by omega⟩
  · rintro j ⟨g1, g2, g3, g4⟩
    exact hk j g1 g2 g3 g4

/-- what a partition comes to -/
structure Parted (l0 l' : List α) (a b mid : Int) : Prop where
  rg : Rg a b l0 l'
  lo : a ≤ mid
  hi : mid < b
  left : ∀ k, a ≤ k → k < mid → at' l' k ≤ at' l' mid
  right : ∀ k, mid < k → k < b → at' l' mid ≤ at' l' k

theorem partition_spec (l0 : List α) (a b p : Int) (ha : 0 ≤ a) (hb : b ≤ l0.length) (hlen : l0.length ≤ 1000000) (hG : Good l0) (hp : a ≤ p) (hp' : p < b) :
    ∃ y, DG.partition Srtd.cmp l0 a b p = some y ∧ Parted l0 y.2.2 a b y.1 := by
  unfold DG.partition
  have r1 : idx l0 p = some (el l0 p) := idx_at (by omega) (by omega)
  have r2 : idx l0 a = some (el l0 a) := idx_at (by omega) (by omega)
  have r3 : ∀ x, idx (l0.set a.toNat x) p = some (el (l0.set a.toNat x) p) := fun x => idx_set_at (by omega) (by omega)
  simp only [r1, r2, r3, Option.bind_some]
  rw [show (l0.set a.toNat (el l0 p)).set p.toNat (el l0 a) = sw l0 a p from rfl]
  have hR0 : Rg a b l0 (sw l0 a p) := Rg.swap ha hb (by omega) (by omega) hp hp'
  generalize sw l0 a p = m0 at hR0 ⊢
  have hm0 := hR0.len
  rw [w64 (show -9223372036854775808 ≤ b - 1 by omega) (by omega), w64 (show -9223372036854775808 ≤ a + 1 by omega) (by omega)]
  refine scanUp m0 (hR0.good hG) a (b - 1) (a + 1) ha (by omega) (by omega) (by omega) (by omega) (by omega) (fun i i1 i2 i3 i4 => ?_)
  refine scanDown m0 (hR0.good hG) a i (b - 1) ha (by omega) (by omega) (by omega) (by omega) (by omega) (fun j j1 j2 j3 j4 => ?_)
  have q1 : idx m0 a = some (el m0 a) := idx_at (by omega) (by omega)
  have q2 : idx m0 j = some (el m0 j) := idx_at (by omega) (by omega)
  by_cases hij : j < i
  · have q3 : ∀ x, idx (m0.set j.toNat x) a = some (el (m0.set j.toNat x) a) := fun x => idx_set_at (by omega) (by omega)
    refine ⟨(j, true, sw m0 j a), ?_, ⟨hR0.trans (Rg.swap ha (by omega) (by omega) (by omega) (by omega) (by omega)), by dsimp only; omega, by dsimp only; omega, fun k k1 k2 => ?_, fun k k1 k2 => ?_⟩⟩
    · simp only [q1, q2, q3, hij, decide_true, cond_true, Option.bind_some]
      rfl
    · dsimp only at k1 k2 ⊢
      rw [sw_at (by omega) (by omega) (by omega) (by omega) (by omega), sw_at (by omega) (by omega) (by omega) (by omega) (by omega)]
      rw [if_neg (show ¬ j = a by omega), if_pos rfl]
      by_cases e : k = a
      · rw [if_pos e]
        have := i3 j (by omega) (by omega); omega
      · rw [if_neg e, if_neg (by omega)]
        have := i3 k (by omega) (by omega); omega
    · dsimp only at k1 k2 ⊢
      rw [sw_at (by omega) (by omega) (by omega) (by omega) (by omega), sw_at (by omega) (by omega) (by omega) (by omega) (by omega)]
      rw [if_neg (show ¬ k = a by omega), if_neg (show ¬ k = j by omega)]
      have hk := j3 k (by omega) (by omega)
      by_cases e : j = a
      · rw [if_pos e]; subst e; omega
      · rw [if_neg e, if_pos rfl]; omega
  · have q4 : idx m0 i = some (el m0 i) := idx_at (by omega) (by omega)
    have q5 : ∀ x, idx (m0.set i.toNat x) j = some (el (m0.set i.toNat x) j) := fun x => idx_set_at (by omega) (by omega)
    simp only [q1, q2, q4, q5, hij, decide_false, cond_false, Option.bind_some]
    rw [show (m0.set i.toNat (el m0 j)).set j.toNat (el m0 i) = sw m0 i j from rfl]
    have hia := i4 (by omega)
    have hja := j4 (by omega)
    have hne : i < j := by
      rcases Int.lt_or_eq_of_le (show i ≤ j by omega) with h | h
      · exact h
      · subst h; exact absurd hja hia
    have hR1 : Rg a b l0 (sw m0 i j) := hR0.trans (Rg.swap ha (by omega) (by omega) (by omega) (by omega) (by omega))
    have ea : at' (sw m0 i j) a = at' m0 a := by rw [sw_at (by omega) (by omega) (by omega) (by omega) (by omega), if_neg (by omega), if_neg (by omega)]
    have hlo : ∀ q, a + 1 ≤ q → q < i + 1 → at' (sw m0 i j) q < at' (sw m0 i j) a := fun q h1 h2 => by
      rw [ea, sw_at (by omega) (by omega) (by omega) (by omega) (by omega), if_neg (by omega)]
      by_cases e : q = i
      · rw [if_pos e]; exact hja
      · rw [if_neg e]; exact i3 q h1 (by omega)
    have hhi : ∀ q, j - 1 < q → q < b → ¬ at' (sw m0 i j) q < at' (sw m0 i j) a := fun q h1 h2 => by
      rw [ea, sw_at (by omega) (by omega) (by omega) (by omega) (by omega)]
      by_cases e : q = j
      · rw [if_pos e]; exact hia
      · rw [if_neg e, if_neg (by omega)]; exact j3 q (by omega) (by omega)
    rw [w64 (show -9223372036854775808 ≤ i + 1 by omega) (by omega), w64 (show -9223372036854775808 ≤ j - 1 by omega) (by omega)]
    generalize sw m0 i j = m1 at hR1 hlo hhi ⊢
    refine loop_then (fun s => Rg a b l0 s.1 ∧ a + 1 ≤ s.2.1 ∧ s.2.1 ≤ s.2.2 + 1 ∧ s.2.2 < b ∧ (∀ q, a + 1 ≤ q → q < s.2.1 → at' s.1 q < at' s.1 a) ∧ (∀ q, s.2.2 < q → q < b → ¬ at' s.1 q < at' s.1 a)) (fun s => (s.2.2 + 1 - s.2.1).toNat)
      (fun s => Rg a b l0 s.1 ∧ a ≤ s.2 ∧ s.2 < b ∧ (∀ q, a + 1 ≤ q → q ≤ s.2 → at' s.1 q < at' s.1 a) ∧ (∀ q, s.2 < q → q < b → ¬ at' s.1 q < at' s.1 a)) ?_ ?_ ?_
    · rintro ⟨m, u, v⟩ ⟨hR, g1, g2, g3, g4, g5⟩
      dsimp only at hR g1 g2 g3 g4 g5 ⊢
      have hml := hR.len
      refine scanUp m (hR.good hG) a v u ha (by omega) (by omega) (by omega) (by omega) (by omega) (fun i i1 i2 i3 i4 => ?_)
      refine scanDown m (hR.good hG) a i v ha (by omega) (by omega) (by omega) (by omega) (by omega) (fun j j1 j2 j3 j4 => ?_)
      have f1 : ∀ q, a + 1 ≤ q → q < i → at' m q < at' m a := fun q h1 h2 => by
        by_cases h : q < u
        · exact g4 q h1 h
        · exact i3 q (by omega) h2
      have f2 : ∀ q, j < q → q < b → ¬ at' m q < at' m a := fun q h1 h2 => by
        by_cases h : q ≤ v
        · exact j3 q h1 h
        · exact g5 q (by omega) h2
      by_cases hij : j < i
      · exact ⟨.inr (m, j), by simp only [hij, decide_true, cond_true], hR, by dsimp only; omega, by dsimp only; omega, fun q h1 h2 => f1 q h1 (by dsimp only at h2; omega), f2⟩
      · have t1 : idx m i = some (el m i) := idx_at (by omega) (by omega)
        have t2 : idx m j = some (el m j) := idx_at (by omega) (by omega)
        have t3 : ∀ x, idx (m.set i.toNat x) j = some (el (m.set i.toNat x) j) := fun x => idx_set_at (by omega) (by omega)
        have hia := i4 (by omega)
        have hja := j4 (by omega)
        have hne : i < j := by
          rcases Int.lt_or_eq_of_le (show i ≤ j by omega) with h | h
          · exact h
          · subst h; exact absurd hja hia
        have ea : at' (sw m i j) a = at' m a := by rw [sw_at (by omega) (by omega) (by omega) (by omega) (by omega), if_neg (by omega), if_neg (by omega)]
        rw [w64 (show -9223372036854775808 ≤ i + 1 by omega) (by omega), w64 (show -9223372036854775808 ≤ j - 1 by omega) (by omega)]
        refine ⟨.inl (sw m i j, i + 1, j - 1), ?_, ⟨hR.trans (Rg.swap ha (by omega) (by omega) (by omega) (by omega) (by omega)), by dsimp only; omega, by dsimp only; omega, by dsimp only; omega, fun q h1 h2 => ?_, fun q h1 h2 => ?_⟩, by dsimp only; omega⟩
        · simp only [t1, t2, t3, hij, decide_false, cond_false, Option.bind_some]
          rfl
        · dsimp only at h2 ⊢
          rw [ea, sw_at (by omega) (by omega) (by omega) (by omega) (by omega), if_neg (by omega)]
          by_cases e : q = i
          · rw [if_pos e]; exact hja
          · rw [if_neg e]; exact f1 q h1 (by omega)
        · dsimp only at h1 ⊢
          rw [ea, sw_at (by omega) (by omega) (by omega) (by omega) (by omega)]
          by_cases e : q = j
          · rw [if_pos e]; exact hia
          · rw [if_neg e, if_neg (by omega)]; exact f2 q (by omega) h2
    · exact ⟨hR1, by dsimp only; omega, by dsimp only; omega, by dsimp only; omega, hlo, hhi⟩
    · rintro ⟨m, v⟩ ⟨hR, g1, g2, g3, g4⟩
      dsimp only at hR g1 g2 g3 g4 ⊢
      have hml := hR.len
      have t1 : idx m a = some (el m a) := idx_at (by omega) (by omega)
      have t2 : idx m v = some (el m v) := idx_at (by omega) (by omega)
      have t3 : ∀ x, idx (m.set v.toNat x) a = some (el (m.set v.toNat x) a) := fun x => idx_set_at (by omega) (by omega)
      refine ⟨(v, false, sw m v a), ?_, ⟨hR.trans (Rg.swap ha (by omega) (by omega) (by omega) (by omega) (by omega)), g1, g2, fun k k1 k2 => ?_, fun k k1 k2 => ?_⟩⟩
      · simp only [t1, t2, t3, Option.bind_some]
        rfl
      · dsimp only at k1 k2 ⊢
        rw [sw_at (by omega) (by omega) (by omega) (by omega) (by omega), sw_at (by omega) (by omega) (by omega) (by omega) (by omega)]
        rw [if_neg (show ¬ v = a by omega), if_pos rfl]
        by_cases e : k = a
        · rw [if_pos e]
          have := g3 v (by omega) (by omega); omega
        · rw [if_neg e, if_neg (by omega)]
          have := g3 k (by omega) (by omega); omega
      · dsimp only at k1 k2 ⊢
        rw [sw_at (by omega) (by omega) (by omega) (by omega) (by omega), sw_at (by omega) (by omega) (by omega) (by omega) (by omega)]
        rw [if_neg (show ¬ k = a by omega), if_neg (show ¬ k = v by omega)]
        have hk := g4 k (by omega) (by omega)
        by_cases e : v = a
        · rw [if_pos e]; subst e; omega
        · rw [if_neg e, if_pos rfl]; omega
end Go.Sx.Gs

/- partition by what is equal; medians; the pivot; partial insertion. Plain. -/
namespace Go.Sx.Gs
variable {α : Type} [Srtd α]
/-- up, while the pivot is not less than what is read -/
theorem scanUp2 {β : Type} {k : Int → Option β} {Q : β → Prop} (l : List α) (hG : Good l) (a hi i0 : Int) (ha : 0 ≤ a) (ha' : a < l.length) (h0 : 0 ≤ i0) (h1 : i0 ≤ hi + 1) (h2 : hi < l.length) (hlen : l.length ≤ 1000000)
    (hk : ∀ i, i0 ≤ i → i ≤ hi + 1 → (∀ q, i0 ≤ q → q < i → ¬ at' l a < at' l q) → (i ≤ hi → at' l a < at' l i) → ∃ y, k i = some y ∧ Q y) :
    ∃ y, (loopF (σ := Int) (ρ := (Int)) (fun (x : Int) => (cond (decide (x ≤ hi)) ((idx l a).bind fun e => (idx l x).bind fun e' => (Srtd.cmp e e').bind fun y => some (!(decide (y < 0)))) (some false)).bind fun b => cond b (some (.inl (IntKind.i64.wrap (x + 1)))) (some (.inr x))) i0).bind k = some y ∧ Q y := by
  refine loop_then (fun i => i0 ≤ i ∧ i ≤ hi + 1 ∧ ∀ q, i0 ≤ q → q < i → ¬ at' l a < at' l q) (fun i => (hi + 1 - i).toNat) (fun i => i0 ≤ i ∧ i ≤ hi + 1 ∧ (∀ q, i0 ≤ q → q < i → ¬ at' l a < at' l q) ∧ (i ≤ hi → at' l a < at' l i)) ?_ ?_ ?_
  · rintro i ⟨g1, g2, g3⟩
    by_cases hi' : i ≤ hi
    · have r1 : idx l i = some (el l i) := idx_at (by omega) (by omega)
      have r2 : idx l a = some (el l a) := idx_at (by omega) (by omega)
      obtain ⟨v, cv, hv⟩ := cmp_at hG (i := a) (j := i) (by omega) (by omega) (by omega) (by omega)
      by_cases hlt : at' l a < at' l i
      · exact ⟨.inr i, by simp only [r1, r2, hi', cv, hv, hlt, decide_true, Bool.not_true, cond_true, cond_false, Option.bind_some], g1, g2, g3, fun _ => hlt⟩
      · refine ⟨.inl (i + 1), ?_, ⟨by omega, by omega, fun q q1 q2 => ?_⟩, by dsimp only; omega⟩
        · simp only [r1, r2, hi', cv, hv, hlt, decide_true, decide_false, Bool.not_false, cond_true, Option.bind_some]
          rw [w64 (by omega) (by omega)]
        · by_cases e : q = i
          · rw [e]; exact hlt
          · exact g3 q q1 (by omega)
    · exact ⟨.inr i, by simp only [hi', decide_false, cond_false, Option.bind_some], g1, g2, g3, fun h => absurd h hi'⟩
  · exact ⟨Int.le_refl _, h1, fun q q1 q2 => by omega⟩
  · rintro i ⟨g1, g2, g3, g4⟩
    exact hk i g1 g2 g3 g4

/-- down, while the pivot is less than what is read -/
theorem scanDown2 {β : Type} {k : Int → Option β} {Q : β → Prop} (l : List α) (hG : Good l) (a lo j0 : Int) (ha : 0 ≤ a) (ha' : a < l.length) (h0 : 0 ≤ lo) (h1 : lo ≤ j0 + 1) (h2 : j0 < l.length) (hlen : l.length ≤ 1000000)
    (hk : ∀ j, lo ≤ j + 1 → j ≤ j0 → (∀ q, j < q → q ≤ j0 → at' l a < at' l q) → (lo ≤ j → ¬ at' l a < at' l j) → ∃ y, k j = some y ∧ Q y) :
    ∃ y, (loopF (σ := Int) (ρ := (Int)) (fun (x : Int) => (cond (decide (lo ≤ x)) ((idx l a).bind fun e => (idx l x).bind fun e' => (Srtd.cmp e e').bind fun y => some (decide (y < 0))) (some false)).bind fun b => cond b (some (.inl (IntKind.i64.wrap (x - 1)))) (some (.inr x))) j0).bind k = some y ∧ Q y := by
  refine loop_then (fun j => lo ≤ j + 1 ∧ j ≤ j0 ∧ ∀ q, j < q → q ≤ j0 → at' l a < at' l q) (fun j => (j + 1 - lo).toNat) (fun j => lo ≤ j + 1 ∧ j ≤ j0 ∧ (∀ q, j < q → q ≤ j0 → at' l a < at' l q) ∧ (lo ≤ j → ¬ at' l a < at' l j)) ?_ ?_ ?_
  · rintro j ⟨g1, g2, g3⟩
    by_cases hi' : lo ≤ j
    · have r1 : idx l j = some (el l j) := idx_at (by omega) (by omega)
      have r2 : idx l a = some (el l a) := idx_at (by omega) (by omega)
      obtain ⟨v, cv, hv⟩ := cmp_at hG (i := a) (j := j) (by omega) (by omega) (by omega) (by omega)
      by_cases hlt : at' l a < at' l j
      · refine ⟨.inl (j - 1), ?_, ⟨by omega, by omega, fun q q1 q2 => ?_⟩, by dsimp only; omega⟩
        · simp only [r1, r2, hi', cv, hv, hlt, decide_true, cond_true, Option.bind_some]
          rw [w64 (by omega) (by omega)]
        · by_cases e : q = j
          · rw [e]; exact hlt
          · exact g3 q (by omega) q2
      · exact ⟨.inr j, by simp only [r1, r2, hi', cv, hv, hlt, decide_true, decide_false, cond_true, cond_false, Option.bind_some], g1, g2, g3, fun _ => hlt⟩
    · exact ⟨.inr j, by simp only [hi', decide_false, cond_false, Option.bind_some], g1, g2, g3, fun h => absurd h hi'⟩
  · exact ⟨h1, Int.le_refl _, fun q q1 q2 => by omega⟩
  · rintro j ⟨g1, g2, g3, g4⟩
    exact hk j g1 g2 g3 g4

theorem partitionEqual_spec (l0 : List α) (a b p : Int) (ha : 0 ≤ a) (hb : b ≤ l0.length) (hlen : l0.length ≤ 1000000) (hG : Good l0) (hp : a ≤ p) (hp' : p < b) :
    ∃ y, DG.partitionEqual Srtd.cmp l0 a b p = some y ∧ Rg a b l0 y.2 ∧ a < y.1 ∧ y.1 ≤ b ∧ (∀ k, a ≤ k → k < y.1 → at' y.2 k ≤ at' l0 p) ∧ (∀ k, y.1 ≤ k → k < b → at' l0 p < at' y.2 k) := by
  unfold DG.partitionEqual
  have r1 : idx l0 p = some (el l0 p) := idx_at (by omega) (by omega)
  have r2 : idx l0 a = some (el l0 a) := idx_at (by omega) (by omega)
  have r3 : ∀ x, idx (l0.set a.toNat x) p = some (el (l0.set a.toNat x) p) := fun x => idx_set_at (by omega) (by omega)
  simp only [r1, r2, r3, Option.bind_some]
  rw [show (l0.set a.toNat (el l0 p)).set p.toNat (el l0 a) = sw l0 a p from rfl]
  have hR0 : Rg a b l0 (sw l0 a p) := Rg.swap ha hb (by omega) (by omega) hp hp'
  have ep : at' (sw l0 a p) a = at' l0 p := by
    rw [sw_at (by omega) (by omega) (by omega) (by omega) (by omega)]
    by_cases e : a = p
    · rw [if_pos e, e]
    · rw [if_neg e, if_pos rfl]
  generalize sw l0 a p = m0 at hR0 ep ⊢
  rw [w64 (show -9223372036854775808 ≤ b - 1 by omega) (by omega), w64 (show -9223372036854775808 ≤ a + 1 by omega) (by omega)]
  refine loop_then (fun s => Rg a b l0 s.1 ∧ a + 1 ≤ s.2.1 ∧ s.2.1 ≤ s.2.2 + 1 ∧ s.2.2 < b ∧ at' s.1 a = at' l0 p ∧ (∀ q, a + 1 ≤ q → q < s.2.1 → ¬ at' s.1 a < at' s.1 q) ∧ (∀ q, s.2.2 < q → q < b → at' s.1 a < at' s.1 q)) (fun s => (s.2.2 + 1 - s.2.1).toNat)
    (fun s => Rg a b l0 s.1 ∧ a + 1 ≤ s.2 ∧ s.2 ≤ b ∧ at' s.1 a = at' l0 p ∧ (∀ q, a + 1 ≤ q → q < s.2 → ¬ at' s.1 a < at' s.1 q) ∧ (∀ q, s.2 ≤ q → q < b → at' s.1 a < at' s.1 q)) ?_ ?_ ?_
  · rintro ⟨m, u, v⟩ ⟨hR, g1, g2, g3, g6, g4, g5⟩
    dsimp only at hR g1 g2 g3 g4 g5 g6 ⊢
    have hml := hR.len
    refine scanUp2 m (hR.good hG) a v u ha (by omega) (by omega) (by omega) (by omega) (by omega) (fun i i1 i2 i3 i4 => ?_)
    refine scanDown2 m (hR.good hG) a i v ha (by omega) (by omega) (by omega) (by omega) (by omega) (fun j j1 j2 j3 j4 => ?_)
    have f1 : ∀ q, a + 1 ≤ q → q < i → ¬ at' m a < at' m q := fun q h1 h2 => by
      by_cases h : q < u
      · exact g4 q h1 h
      · exact i3 q (by omega) h2
    have f2 : ∀ q, j < q → q < b → at' m a < at' m q := fun q h1 h2 => by
      by_cases h : q ≤ v
      · exact j3 q h1 h
      · exact g5 q (by omega) h2
    by_cases hij : j < i
    · exact ⟨.inr (m, i), by simp only [hij, decide_true, cond_true], hR, by dsimp only; omega, by dsimp only; omega, g6, f1, fun q h1 h2 => f2 q (by dsimp only at h1; omega) h2⟩
    · have t1 : idx m i = some (el m i) := idx_at (by omega) (by omega)
      have t2 : idx m j = some (el m j) := idx_at (by omega) (by omega)
      have t3 : ∀ x, idx (m.set i.toNat x) j = some (el (m.set i.toNat x) j) := fun x => idx_set_at (by omega) (by omega)
      have hia := i4 (by omega)
      have hja := j4 (by omega)
      have hne : i < j := by
        rcases Int.lt_or_eq_of_le (show i ≤ j by omega) with h | h
        · exact h
        · subst h; exact absurd hia hja
      have ea : at' (sw m i j) a = at' m a := by rw [sw_at (by omega) (by omega) (by omega) (by omega) (by omega), if_neg (by omega), if_neg (by omega)]
      rw [w64 (show -9223372036854775808 ≤ i + 1 by omega) (by omega), w64 (show -9223372036854775808 ≤ j - 1 by omega) (by omega)]
      refine ⟨.inl (sw m i j, i + 1, j - 1), ?_, ⟨hR.trans (Rg.swap ha (by omega) (by omega) (by omega) (by omega) (by omega)), by dsimp only; omega, by dsimp only; omega, by dsimp only; omega, by dsimp only; rw [ea]; exact g6, fun q h1 h2 => ?_, fun q h1 h2 => ?_⟩, by dsimp only; omega⟩
      · simp only [t1, t2, t3, hij, decide_false, cond_false, Option.bind_some]
        rfl
      · dsimp only at h2 ⊢
        rw [ea, sw_at (by omega) (by omega) (by omega) (by omega) (by omega), if_neg (by omega)]
        by_cases e : q = i
        · rw [if_pos e]; exact hja
        · rw [if_neg e]; exact f1 q h1 (by omega)
      · dsimp only at h1 ⊢
        rw [ea, sw_at (by omega) (by omega) (by omega) (by omega) (by omega)]
        by_cases e : q = j
        · rw [if_pos e]; exact hia
        · rw [if_neg e, if_neg (by omega)]; exact f2 q (by omega) h2
  · exact ⟨hR0, by dsimp only; omega, by dsimp only; omega, by dsimp only; omega, ep, fun q h1 h2 => by dsimp only at h2; omega, fun q h1 h2 => by dsimp only at h1; omega⟩
  · rintro ⟨m, v⟩ ⟨hR, g1, g2, g3, g4, g5⟩
    refine ⟨(v, m), rfl, hR, by dsimp only at *; omega, g2, fun k k1 k2 => ?_, fun k k1 k2 => ?_⟩
    · dsimp only at *
      by_cases e : k = a
      · rw [e, g3]; exact Int.le_refl _
      · have := g4 k (by omega) k2; omega
    · dsimp only at *
      have := g5 k k1 k2; omega

theorem order2_spec (l : List α) (hG : Good l) (a b s : Int) (ha : 0 ≤ a) (ha' : a < l.length) (hb : 0 ≤ b) (hb' : b < l.length) :
    ∃ y, DG.order2 Srtd.cmp l a b s = some y ∧ y.2.2.1 = l ∧ ((y.1 = a ∧ y.2.1 = b) ∨ (y.1 = b ∧ y.2.1 = a)) := by
  have r1 : idx l a = some (el l a) := idx_at ha ha'
  have r2 : idx l b = some (el l b) := idx_at hb hb'
  unfold DG.order2
  obtain ⟨v, cv, hv⟩ := cmp_at hG (i := b) (j := a) hb hb' ha ha'
  simp only [r1, r2, cv, hv, Option.bind_some]
  by_cases h : at' l b < at' l a
  · simp only [h, decide_true, cond_true]; exact ⟨_, rfl, rfl, .inr ⟨rfl, rfl⟩⟩
  · simp only [h, decide_false, cond_false]; exact ⟨_, rfl, rfl, .inl ⟨rfl, rfl⟩⟩

theorem median_spec (l : List α) (hG : Good l) (a b c s : Int) (ha : 0 ≤ a) (ha' : a < l.length) (hb : 0 ≤ b) (hb' : b < l.length) (hc : 0 ≤ c) (hc' : c < l.length) :
    ∃ y, DG.median Srtd.cmp l a b c s = some y ∧ y.2.1 = l ∧ (y.1 = a ∨ y.1 = b ∨ y.1 = c) := by
  unfold DG.median
  obtain ⟨y1, h1, e1, c1⟩ := order2_spec l hG a b s ha ha' hb hb'
  rw [h1, Option.bind_some, e1]
  have b1 : 0 ≤ y1.2.1 ∧ y1.2.1 < l.length ∧ 0 ≤ y1.1 ∧ y1.1 < l.length := by rcases c1 with ⟨c, d⟩ | ⟨c, d⟩ <;> rw [c, d] <;> exact ⟨by assumption, by assumption, by assumption, by assumption⟩
  obtain ⟨y2, h2, e2, c2⟩ := order2_spec l hG y1.2.1 c y1.2.2.2 b1.1 b1.2.1 hc hc'
  rw [h2, Option.bind_some, e2]
  have b2 : 0 ≤ y2.1 ∧ y2.1 < l.length := by rcases c2 with ⟨c, d⟩ | ⟨c, d⟩ <;> rw [c] <;> exact ⟨by omega, by omega⟩
  obtain ⟨y3, h3, e3, c3⟩ := order2_spec l hG y1.1 y2.1 y2.2.2.2 b1.2.2.1 b1.2.2.2 b2.1 b2.2
  rw [h3, Option.bind_some]
  refine ⟨_, rfl, e3, ?_⟩
  dsimp only
  omega

theorem medianAdj_spec (l : List α) (hG : Good l) (p s : Int) (h0 : 1 ≤ p) (h1 : p + 1 < l.length) (hlen : l.length ≤ 1000000) :
    ∃ y, DG.medianAdjacent Srtd.cmp l p s = some y ∧ y.2.1 = l ∧ p - 1 ≤ y.1 ∧ y.1 ≤ p + 1 := by
  unfold DG.medianAdjacent
  rw [w64 (show -9223372036854775808 ≤ p - 1 by omega) (by omega), w64 (show -9223372036854775808 ≤ p + 1 by omega) (by omega)]
  obtain ⟨y, h, e, c⟩ := median_spec l hG (p - 1) p (p + 1) s (by omega) (by omega) (by omega) (by omega) (by omega) (by omega)
  rw [h, Option.bind_some]
  exact ⟨_, rfl, e, by dsimp only; omega, by dsimp only; omega⟩

theorem choosePivot_spec (l : List α) (hG : Good l) (a b : Int) (ha : 0 ≤ a) (hb : b ≤ l.length) (h8 : 8 ≤ b - a) (hlen : l.length ≤ 1000000) :
    ∃ y, DG.choosePivot Srtd.cmp l a b = some y ∧ y.2.2 = l ∧ a ≤ y.1 ∧ y.1 < b := by
  unfold DG.choosePivot
  rw [w64 (show -9223372036854775808 ≤ b - a by omega) (by omega)]
  have e4 : (b - a).tdiv 4 = (b - a) / 4 := Int.tdiv_eq_ediv_of_nonneg (by omega)
  rw [e4, w64 (show -9223372036854775808 ≤ (b - a) / 4 by omega) (by omega)]
  rw [w64 (show -9223372036854775808 ≤ (b - a) / 4 * 1 by omega) (by omega), w64 (show -9223372036854775808 ≤ (b - a) / 4 * 2 by omega) (by omega), w64 (show -9223372036854775808 ≤ (b - a) / 4 * 3 by omega) (by omega)]
  rw [w64 (show -9223372036854775808 ≤ a + (b - a) / 4 * 1 by omega) (by omega), w64 (show -9223372036854775808 ≤ a + (b - a) / 4 * 2 by omega) (by omega), w64 (show -9223372036854775808 ≤ a + (b - a) / 4 * 3 by omega) (by omega)]
  simp only [h8, decide_true, cond_true]
  refine bind_then (fun q : List α × Int × Int × Int × Int => q.1 = l ∧ (a ≤ q.2.1 ∧ q.2.1 < b) ∧ (a ≤ q.2.2.1 ∧ q.2.2.1 < b) ∧ (a ≤ q.2.2.2.1 ∧ q.2.2.2.1 < b)) ?_ ?_
  · by_cases h50 : 50 ≤ b - a
    · simp only [h50, decide_true, cond_true]
      obtain ⟨y1, h1, e1, c1⟩ := medianAdj_spec l hG (a + (b - a) / 4 * 1) 0 (by omega) (by omega) hlen
      rw [h1, Option.bind_some, e1]
      obtain ⟨y2, h2, e2, c2⟩ := medianAdj_spec l hG (a + (b - a) / 4 * 2) y1.2.2 (by omega) (by omega) hlen
      rw [h2, Option.bind_some, e2]
      obtain ⟨y3, h3, e3, c3⟩ := medianAdj_spec l hG (a + (b - a) / 4 * 3) y2.2.2 (by omega) (by omega) hlen
      rw [h3, Option.bind_some]
      exact ⟨_, rfl, e3, ⟨by dsimp only; omega, by dsimp only; omega⟩, ⟨by dsimp only; omega, by dsimp only; omega⟩, ⟨by dsimp only; omega, by dsimp only; omega⟩⟩
    · simp only [h50, decide_false, cond_false]
      exact ⟨_, rfl, rfl, ⟨by dsimp only; omega, by dsimp only; omega⟩, ⟨by dsimp only; omega, by dsimp only; omega⟩, ⟨by dsimp only; omega, by dsimp only; omega⟩⟩
  · rintro ⟨q, i, j, k, sw⟩ ⟨rfl, g1, g2, g3⟩
    dsimp only at g1 g2 g3 hb hlen ⊢
    obtain ⟨y, h1, e1, c1⟩ := median_spec q hG i j k sw (by omega) (by omega) (by omega) (by omega) (by omega) (by omega)
    rw [h1, Option.bind_some, e1]
    have hy : a ≤ y.1 ∧ y.1 < b := by omega
    cases (y.2.2 == 0)
    · cases (y.2.2 == 12)
      · exact ⟨_, rfl, rfl, hy⟩
      · exact ⟨_, rfl, rfl, hy⟩
    · exact ⟨_, rfl, rfl, hy⟩
end Go.Sx.Gs

/- Plain facts on lists of numbers: reading, swapping, what a sort may do. No program in sight. -/
namespace Go.Sx
def at' (l : List Int) (i : Int) : Int := l.getD i.toNat 0
theorem idx_at {l : List Int} {i : Int} (h0 : 0 ≤ i) (h1 : i < l.length) : idx l i = some (at' l i) := by
  unfold idx at'
  rw [if_pos h0]
  have : i.toNat < l.length := by omega
  simp [this]
theorem at_set {l : List Int} {i k x : Int} (h0 : 0 ≤ i) (h1 : i < l.length) (hk : 0 ≤ k) : at' (l.set i.toNat x) k = if k = i then x else at' l k := by
  unfold at'
  by_cases h : k = i
  · subst h
    have : k.toNat < l.length := by omega
    simp [this]
  · rw [if_neg h]
    have : i.toNat ≠ k.toNat := by omega
    simp [List.getD_eq_getElem?_getD, List.getElem?_set_ne this]

def sw (l : List Int) (i j : Int) : List Int := (l.set i.toNat (at' l j)).set j.toNat (at' l i)
theorem sw_len (l : List Int) (i j : Int) : (sw l i j).length = l.length := by simp [sw]
theorem sw_at {l : List Int} {i j k : Int} (hi : 0 ≤ i) (hi' : i < l.length) (hj : 0 ≤ j) (hj' : j < l.length) (hk : 0 ≤ k) :
    at' (sw l i j) k = if k = j then at' l i else if k = i then at' l j else at' l k := by
  unfold sw
  rw [at_set hj (by simpa using hj') hk]
  split
  · rfl
  · rw [at_set hi hi' hk]

theorem set_perm_erase (z : Int) : ∀ (l : List Int) (j : Nat), j < l.length → List.Perm (l.set j z) (z :: l.eraseIdx j)
  | [], j, h => by simp at h
  | x :: l, 0, _ => by simp
  | x :: l, j + 1, h => by
    simp only [List.set_cons_succ, List.eraseIdx_cons_succ]
    exact ((set_perm_erase z l j (by simpa using h)).cons x).trans (List.Perm.swap _ _ _)
theorem perm_erase (l : List Int) (j : Nat) (h : j < l.length) : List.Perm l (l[j] :: l.eraseIdx j) := by
  have := set_perm_erase l[j] l j h
  rwa [List.set_getElem_self] at this

theorem set_perm : ∀ (l : List Int) (i j : Nat) (x y : Int), l[i]? = some x → l[j]? = some y → List.Perm ((l.set i y).set j x) l
  | [], i, j, x, y, h, _ => by simp at h
  | z :: l, 0, 0, x, y, h, h' => by simp at h h'; subst h; simp
  | z :: l, 0, j + 1, x, y, h, h' => by
    simp at h h'
    subst h
    simp only [List.set_cons_zero, List.set_cons_succ]
    obtain ⟨hj, rfl⟩ := List.getElem?_eq_some_iff.1 h'
    have h1 := set_perm_erase z l j hj
    have h2 := perm_erase l j hj
    exact ((h1.cons _).trans (List.Perm.swap _ _ _)).trans (h2.symm.cons z)
  | z :: l, i + 1, 0, x, y, h, h' => by
    simp at h h'
    subst h'
    simp only [List.set_cons_zero, List.set_cons_succ]
    obtain ⟨hj, rfl⟩ := List.getElem?_eq_some_iff.1 h
    have h1 := set_perm_erase z l i hj
    have h2 := perm_erase l i hj
    exact ((h1.cons _).trans (List.Perm.swap _ _ _)).trans (h2.symm.cons z)
  | z :: l, i + 1, j + 1, x, y, h, h' => by
    simp at h h'
    simp only [List.set_cons_succ]
    exact (set_perm l i j x y h h').cons z

theorem sw_perm {l : List Int} {i j : Int} (hi : 0 ≤ i) (hi' : i < l.length) (hj : 0 ≤ j) (hj' : j < l.length) : List.Perm (sw l i j) l := by
  have h1 : i.toNat < l.length := by omega
  have h2 : j.toNat < l.length := by omega
  exact set_perm l i.toNat j.toNat _ _ (by simp [at', h1]) (by simp [at', h2])

/-- what a sort may do to the places from a to b -/
structure Rg (a b : Int) (l l' : List Int) : Prop where
  len : l'.length = l.length
  perm : List.Perm l' l
  out : ∀ k, 0 ≤ k → (k < a ∨ b ≤ k) → at' l' k = at' l k
  all : ∀ Q : Int → Prop, (∀ k, a ≤ k → k < b → Q (at' l k)) → ∀ k, a ≤ k → k < b → Q (at' l' k)

theorem Rg.refl (a b : Int) (l : List Int) : Rg a b l l := ⟨rfl, List.Perm.refl _, fun _ _ _ => rfl, fun _ h => h⟩
theorem Rg.trans {a b : Int} {l l' l'' : List Int} (h : Rg a b l l') (h' : Rg a b l' l'') : Rg a b l l'' :=
  ⟨h'.len.trans h.len, h'.perm.trans h.perm, fun k h0 hk => (h'.out k h0 hk).trans (h.out k h0 hk), fun Q hQ => h'.all Q (h.all Q hQ)⟩
theorem Rg.swap {a b i j : Int} {l : List Int} (ha : 0 ≤ a) (hb : b ≤ l.length) (hi : a ≤ i) (hi' : i < b) (hj : a ≤ j) (hj' : j < b) : Rg a b l (sw l i j) := by
  refine ⟨sw_len _ _ _, sw_perm (by omega) (by omega) (by omega) (by omega), fun k h0 hk => ?_, fun Q hQ k h1 h2 => ?_⟩
  · rw [sw_at (by omega) (by omega) (by omega) (by omega) h0, if_neg (by omega), if_neg (by omega)]
  · rw [sw_at (by omega) (by omega) (by omega) (by omega) (by omega)]
    split
    · exact hQ i hi hi'
    · split
      · exact hQ j hj hj'
      · exact hQ k h1 h2
theorem Rg.widen {a b a' b' : Int} {l l' : List Int} (h : Rg a b l l') (ha : a' ≤ a) (hb : b ≤ b') (h0 : 0 ≤ a') : Rg a' b' l l' := by
  refine ⟨h.len, h.perm, fun k h0 hk => h.out k h0 (by omega), fun Q hQ k h1 h2 => ?_⟩
  by_cases hk : a ≤ k ∧ k < b
  · exact h.all Q (fun k h3 h4 => hQ k (by omega) (by omega)) k hk.1 hk.2
  · rw [h.out k (by omega) (by omega)]; exact hQ k h1 h2

/-- sorted from a to b -/
def Srt (l : List Int) (a b : Int) : Prop := ∀ i j, a ≤ i → i < j → j < b → at' l i ≤ at' l j

end Go.Sx

/- What Go's sort at []int64 comes to. Plain. -/
namespace Go.Sx
theorem less_eq (x y : Int) : D.cmp_Less_int64 x y = some (decide (x < y)) := by
  simp [D.cmp_Less_int64, D.cmp_isNaN_int64]

theorem idx_set_at {l : List Int} {i j x : Int} (h0 : 0 ≤ i) (h1 : i < l.length) : idx (l.set j.toNat x) i = some (at' (l.set j.toNat x) i) := idx_at h0 (by simpa using h1)

theorem insertionSort_spec (l0 : List Int) (a b : Int) (ha : 0 ≤ a) (hab : a ≤ b) (hb : b ≤ l0.length) (hlen : l0.length ≤ 1000000) :
    ∃ l', D.slices_insertionSortOrdered_int64 l0 a b = some l' ∧ Rg a b l0 l' ∧ Srt l' a b := by
  unfold D.slices_insertionSortOrdered_int64
  rw [w64 (show -9223372036854775808 ≤ a + 1 by omega) (by omega)]
  refine loop_then (fun s => Rg a b l0 s.1 ∧ Srt s.1 a s.2 ∧ a + 1 ≤ s.2 ∧ s.2 ≤ b + 1) (fun s => (b - s.2).toNat) (fun r => Rg a b l0 r ∧ Srt r a b) ?_ ?_ ?_
  · rintro ⟨l, i⟩ ⟨hR, hS, h1, h2⟩
    dsimp only at hR hS h1 h2 ⊢
    have hll := hR.len
    by_cases hi : i < b
    · simp only [hi, decide_true, cond_true]
      rw [w64 (show -9223372036854775808 ≤ i + 1 by omega) (by omega)]
      refine loop_then (fun s => Rg a b l0 s.1 ∧ a ≤ s.2 ∧ s.2 ≤ i ∧ ∀ p q, a ≤ p → p < q → q ≤ i → q ≠ s.2 → at' s.1 p ≤ at' s.1 q) (fun s => (s.2 - a).toNat) (fun r => Rg a b l0 r ∧ Srt r a (i + 1)) ?_ ?_ ?_
      · rintro ⟨m, j⟩ ⟨hR', g1, g2, hS'⟩
        dsimp only at hR' g1 g2 hS' ⊢
        have hml := hR'.len
        rw [w64 (show -9223372036854775808 ≤ j - 1 by omega) (by omega)]
        by_cases hj : a < j
        · have r1 : idx m j = some (at' m j) := idx_at (by omega) (by omega)
          have r2 : idx m (j - 1) = some (at' m (j - 1)) := idx_at (by omega) (by omega)
          have r3 : ∀ x, idx (m.set j.toNat x) (j - 1) = some (at' (m.set j.toNat x) (j - 1)) := fun x => idx_set_at (by omega) (by omega)
          by_cases hlt : at' m j < at' m (j - 1)
          · refine ⟨.inl (sw m j (j - 1), j - 1), ?_, ⟨hR'.trans (Rg.swap ha (by omega) (by omega) (by omega) (by omega) (by omega)), by dsimp only; omega, by dsimp only; omega, ?_⟩, by dsimp only; omega⟩
            · simp only [r1, r2, r3, hj, less_eq, hlt, decide_true, cond_true, Option.bind_some]
              rfl
            · intro p q k1 k2 k3 k4
              dsimp only at k4 ⊢
              rw [sw_at (by omega) (by omega) (by omega) (by omega) (by omega), sw_at (by omega) (by omega) (by omega) (by omega) (by omega)]
              by_cases c1 : q = j
              · subst c1
                rw [if_neg (show ¬ q = q - 1 by omega), if_pos rfl]
                by_cases c2 : p = q - 1
                · rw [if_pos c2]; omega
                · rw [if_neg c2, if_neg (by omega)]
                  exact hS' p (q - 1) k1 (by omega) (by omega) (by omega)
              · rw [if_neg (show ¬ q = j - 1 by omega), if_neg c1]
                by_cases c2 : p = j - 1
                · rw [if_pos c2]
                  exact hS' j q (by omega) (by omega) k3 c1
                · rw [if_neg c2]
                  by_cases c3 : p = j
                  · rw [if_pos c3]
                    exact hS' (j - 1) q (by omega) (by omega) k3 c1
                  · rw [if_neg c3]
                    exact hS' p q k1 k2 k3 c1
          · refine ⟨.inr m, ?_, hR', ?_⟩
            · simp only [r1, r2, hj, less_eq, hlt, decide_true, decide_false, cond_true, cond_false, Option.bind_some]
            · intro p q k1 k2 k3
              by_cases c1 : q = j
              · subst c1
                by_cases c2 : p = q - 1
                · subst c2; omega
                · have := hS' p (q - 1) k1 (by omega) (by omega) (by omega)
                  omega
              · exact hS' p q k1 k2 (by omega) c1
        · refine ⟨.inr m, ?_, hR', ?_⟩
          · simp only [hj, decide_false, cond_false, Option.bind_some]
          · intro p q k1 k2 k3
            exact hS' p q k1 k2 (by omega) (by omega)
      · exact ⟨hR, by dsimp only; omega, Int.le_refl _, fun p q k1 k2 k3 k4 => hS p q k1 k2 (by dsimp only at k4 ⊢; omega)⟩
      · rintro r ⟨hR', hS'⟩
        exact ⟨.inl (r, i + 1), rfl, ⟨hR', hS', by dsimp only; omega, by dsimp only; omega⟩, by dsimp only; omega⟩
    · refine ⟨.inr l, by simp only [hi, decide_false, cond_false], hR, ?_⟩
      intro p q k1 k2 k3
      exact hS p q k1 k2 (by omega)
  · exact ⟨Rg.refl _ _ _, fun p q k1 k2 k3 => by dsimp only at k3; omega, by dsimp only; omega, by dsimp only; omega⟩
  · rintro r hr
    exact ⟨r, rfl, hr⟩
end Go.Sx
