/- Parts of the proof: DBase, EAD, EBD, ECD, EDD, EED, EFD, EHandA, EHandB. -/
import Derived.Test.YtehnblgkgaakeaaDoorOr1
import Derived.Shelf.Small.Bits
import Derived.Test.YtehnblgkgaakeaaDoorProg
import Derived.RangeFuncBox
import Derived.RangeFuncLeaves
import Derived.Shelf.Abstract
import Derived.WalkKit
import Derived.OwnWalkIn
import Derived.TacticsInMore
import Derived.LoopNIn
import Derived.LoopIn
import Derived.Maps.AppendAt
set_option linter.unusedVariables false
set_option linter.unusedSimpArgs false
set_option linter.unusedSectionVars false
namespace Go.Sx

noncomputable def D.cmp_isNaN_int64 (x0 : Int) : Option (Bool) :=
  some (x0 != x0)

noncomputable def D.cmp_Less_int64 (x0 : Int) (x1 : Int) : Option (Bool) :=
  (D.cmp_isNaN_int64 x0).bind fun y_1 => (cond y_1 ((D.cmp_isNaN_int64 x1).bind fun y_27 => some (!y_27)) (some false)).bind fun b_25 => some (b_25 || (decide (x0 < x1)))

noncomputable def D.slices_order2Ordered_int64 (x0 : (List Int)) (x1 : Int) (x2 : Int) (x3_0 : Int) : Option (Int × Int × ((List Int)) × Int) :=
  (idx x0 x2).bind fun e_1 => (idx x0 x1).bind fun e_7 => (D.cmp_Less_int64 e_1 e_7).bind fun y_13 => cond y_13 (some (x2, x1, x0, (IntKind.i64.wrap (x3_0 + 1)))) (some (x1, x2, x0, x3_0))

noncomputable def D.slices_medianOrdered_int64 (x0 : (List Int)) (x1 : Int) (x2 : Int) (x3 : Int) (x4_0 : Int) : Option (Int × ((List Int)) × Int) :=
  (D.slices_order2Ordered_int64 x0 x1 x2 x4_0).bind fun y_1 => (D.slices_order2Ordered_int64 y_1.2.2.1 y_1.2.1 x3 y_1.2.2.2).bind fun y_10 => (D.slices_order2Ordered_int64 y_10.2.2.1 y_1.1 y_10.1 y_10.2.2.2).bind fun y_19 => some (y_19.2.1, y_19.2.2.1, y_19.2.2.2)

noncomputable def D.slices_medianAdjacentOrdered_int64 (x0 : (List Int)) (x1 : Int) (x2_0 : Int) : Option (Int × ((List Int)) × Int) :=
  (D.slices_medianOrdered_int64 x0 (IntKind.i64.wrap (x1 - 1)) x1 (IntKind.i64.wrap (x1 + 1)) x2_0).bind fun y_1 => some (y_1.1, y_1.2.1, y_1.2.2)

noncomputable def D.slices_siftDownOrdered_int64 (x0 : (List Int)) (x1 : Int) (x2 : Int) (x3 : Int) : Option (((List Int))) :=
  (loopF (σ := (List Int) × Int) (ρ := ((List Int)) ⊕ (((List Int)))) (fun (s_186 : (List Int) × Int) => match s_186 with | (l_189, x_192) => cond (decide (x2 ≤ (IntKind.i64.wrap ((IntKind.i64.wrap (2 * x_192)) + 1)))) (some (.inr (.inl l_189))) ((cond (decide ((IntKind.i64.wrap ((IntKind.i64.wrap ((IntKind.i64.wrap (2 * x_192)) + 1)) + 1)) < x2)) ((idx l_189 (IntKind.i64.wrap (x3 + (IntKind.i64.wrap ((IntKind.i64.wrap (2 * x_192)) + 1))))).bind fun e_307 => (idx l_189 (IntKind.i64.wrap ((IntKind.i64.wrap (x3 + (IntKind.i64.wrap ((IntKind.i64.wrap (2 * x_192)) + 1)))) + 1))).bind fun e_313 => (D.cmp_Less_int64 e_307 e_313).bind fun y_319 => some y_319) (some false)).bind fun b_305 => ((cond b_305 (some (IntKind.i64.wrap ((IntKind.i64.wrap ((IntKind.i64.wrap (2 * x_192)) + 1)) + 1))) (some (IntKind.i64.wrap ((IntKind.i64.wrap (2 * x_192)) + 1))) : Option (Int))).bind fun x_328 => (idx l_189 (IntKind.i64.wrap (x3 + x_192))).bind fun e_331 => (idx l_189 (IntKind.i64.wrap (x3 + x_328))).bind fun e_337 => (D.cmp_Less_int64 e_331 e_337).bind fun y_343 => cond (!y_343) (some (.inr (.inr l_189))) ((idx l_189 (IntKind.i64.wrap (x3 + x_328))).bind fun e_349 => (idx l_189 (IntKind.i64.wrap (x3 + x_192))).bind fun e_355 => (idx l_189 (IntKind.i64.wrap (x3 + x_192))).bind fun e_361 => (idx (l_189.set (Int.toNat (IntKind.i64.wrap (x3 + x_192))) e_349) (IntKind.i64.wrap (x3 + x_328))).bind fun e_369 => some (.inl (((l_189.set (Int.toNat (IntKind.i64.wrap (x3 + x_192))) e_349).set (Int.toNat (IntKind.i64.wrap (x3 + x_328))) e_355), x_328))))) (x0, x1)).bind fun zz => match zz with | .inl l_283 => (some l_283) | .inr z => (some z)

noncomputable def D.slices_heapSortOrdered_int64 (x0 : (List Int)) (x1 : Int) (x2 : Int) : Option (((List Int))) :=
  (loopF (σ := (List Int) × Int) (ρ := ((List Int))) (fun (s_30 : (List Int) × Int) => match s_30 with | (l_33, x_36) => cond (decide ((0 : Int) ≤ x_36)) ((D.slices_siftDownOrdered_int64 l_33 x_36 (IntKind.i64.wrap (x2 - x1)) x1).bind fun y_54 => some (.inl (y_54, (IntKind.i64.wrap (x_36 - 1))))) (some (.inr l_33))) (x0, (IntKind.i64.wrap (Int.tdiv (IntKind.i64.wrap ((IntKind.i64.wrap (x2 - x1)) - 1)) 2)))).bind fun l_49 => (loopF (σ := (List Int) × Int) (ρ := ((List Int))) (fun (s_144 : (List Int) × Int) => match s_144 with | (l_147, x_150) => cond (decide ((0 : Int) ≤ x_150)) ((idx l_147 (IntKind.i64.wrap (x1 + x_150))).bind fun e_194 => (idx l_147 x1).bind fun e_200 => (idx l_147 x1).bind fun e_206 => (idx (l_147.set (Int.toNat x1) e_194) (IntKind.i64.wrap (x1 + x_150))).bind fun e_214 => (D.slices_siftDownOrdered_int64 ((l_147.set (Int.toNat x1) e_194).set (Int.toNat (IntKind.i64.wrap (x1 + x_150))) e_200) 0 x_150 x1).bind fun y_220 => some (.inl (y_220, (IntKind.i64.wrap (x_150 - 1))))) (some (.inr l_147))) (l_49, (IntKind.i64.wrap ((IntKind.i64.wrap (x2 - x1)) - 1)))).bind fun l_189 => some l_189

noncomputable def D.slices_insertionSortOrdered_int64 (x0 : (List Int)) (x1 : Int) (x2 : Int) : Option (((List Int))) :=
  (loopF (σ := (List Int) × Int) (ρ := ((List Int))) (fun (s_560 : (List Int) × Int) => match s_560 with | (l_563, x_566) => cond (decide (x_566 < x2)) ((loopF (σ := (List Int) × Int) (ρ := ((List Int))) (fun (s_984 : (List Int) × Int) => match s_984 with | (l_987, x_990) => (cond (decide (x1 < x_990)) ((idx l_987 x_990).bind fun e_1079 => (idx l_987 (IntKind.i64.wrap (x_990 - 1))).bind fun e_1085 => (D.cmp_Less_int64 e_1079 e_1085).bind fun y_1091 => some y_1091) (some false)).bind fun b_1077 => cond b_1077 ((idx l_987 (IntKind.i64.wrap (x_990 - 1))).bind fun e_1097 => (idx l_987 x_990).bind fun e_1103 => (idx l_987 x_990).bind fun e_1109 => (idx (l_987.set (Int.toNat x_990) e_1097) (IntKind.i64.wrap (x_990 - 1))).bind fun e_1117 => some (.inl (((l_987.set (Int.toNat x_990) e_1097).set (Int.toNat (IntKind.i64.wrap (x_990 - 1))) e_1103), (IntKind.i64.wrap (x_990 - 1))))) (some (.inr l_987))) (l_563, x_566)).bind fun l_1056 => some (.inl (l_1056, (IntKind.i64.wrap (x_566 + 1))))) (some (.inr l_563))) (x0, (IntKind.i64.wrap (x1 + 1)))).bind fun l_844 => some l_844

noncomputable def D.slices_reverseRangeOrdered_int64 (x0 : (List Int)) (x1 : Int) (x2 : Int) : Option (((List Int))) :=
  (loopF (σ := (List Int) × Int × Int) (ρ := ((List Int))) (fun (s_65 : (List Int) × Int × Int) => match s_65 with | (l_68, x_71, x_72) => cond (decide (x_71 < x_72)) ((idx l_68 x_72).bind fun e_107 => (idx l_68 x_71).bind fun e_113 => (idx l_68 x_71).bind fun e_119 => (idx (l_68.set (Int.toNat x_71) e_107) x_72).bind fun e_127 => some (.inl (((l_68.set (Int.toNat x_71) e_107).set (Int.toNat x_72) e_113), (IntKind.i64.wrap (x_71 + 1)), (IntKind.i64.wrap (x_72 - 1))))) (some (.inr l_68))) (x0, x1, (IntKind.i64.wrap (x2 - 1)))).bind fun l_102 => some l_102

noncomputable def D.slices_partialInsertionSortOrdered_int64 (x0 : (List Int)) (x1 : Int) (x2 : Int) : Option (Bool × ((List Int))) :=
  (loopF (σ := (List Int) × Int × Int) (ρ := ((List Int)) ⊕ (Bool × ((List Int)))) (fun (s_1625 : (List Int) × Int × Int) => match s_1625 with | (l_1628, x_1631, x_1632) => cond (decide (x_1632 < 5)) ((loopF (σ := Int) (ρ := (Int)) (fun (x_2530 : Int) => (cond (decide (x_2530 < x2)) ((idx l_1628 x_2530).bind fun e_2591 => (idx l_1628 (IntKind.i64.wrap (x_2530 - 1))).bind fun e_2597 => (D.cmp_Less_int64 e_2591 e_2597).bind fun y_2603 => some (!y_2603)) (some false)).bind fun b_2589 => cond b_2589 (some (.inl (IntKind.i64.wrap (x_2530 + 1)))) (some (.inr x_2530))) x_1631).bind fun x_2570 => cond (x_2570 == x2) (some (.inr (.inr (true, l_1628)))) (cond (decide ((IntKind.i64.wrap (x2 - x1)) < 50)) (some (.inr (.inr (false, l_1628)))) ((idx l_1628 (IntKind.i64.wrap (x_2570 - 1))).bind fun e_2611 => (idx l_1628 x_2570).bind fun e_2617 => (idx l_1628 x_2570).bind fun e_2623 => (idx (l_1628.set (Int.toNat x_2570) e_2611) (IntKind.i64.wrap (x_2570 - 1))).bind fun e_2631 => ((cond (decide ((2 : Int) ≤ (IntKind.i64.wrap (x_2570 - x1)))) ((loopF (σ := (List Int) × Int) (ρ := ((List Int))) (fun (s_2947 : (List Int) × Int) => match s_2947 with | (l_2950, x_2953) => cond (decide ((1 : Int) ≤ x_2953)) ((idx l_2950 x_2953).bind fun e_3006 => (idx l_2950 (IntKind.i64.wrap (x_2953 - 1))).bind fun e_3012 => (D.cmp_Less_int64 e_3006 e_3012).bind fun y_3018 => cond (!y_3018) (some (.inr l_2950)) ((idx l_2950 (IntKind.i64.wrap (x_2953 - 1))).bind fun e_3024 => (idx l_2950 x_2953).bind fun e_3030 => (idx l_2950 x_2953).bind fun e_3036 => (idx (l_2950.set (Int.toNat x_2953) e_3024) (IntKind.i64.wrap (x_2953 - 1))).bind fun e_3044 => some (.inl (((l_2950.set (Int.toNat x_2953) e_3024).set (Int.toNat (IntKind.i64.wrap (x_2953 - 1))) e_3030), (IntKind.i64.wrap (x_2953 - 1)))))) (some (.inr l_2950))) (((l_1628.set (Int.toNat x_2570) e_2611).set (Int.toNat (IntKind.i64.wrap (x_2570 - 1))) e_2617), (IntKind.i64.wrap (x_2570 - 1)))).bind fun l_3001 => some l_3001) (some ((l_1628.set (Int.toNat x_2570) e_2611).set (Int.toNat (IntKind.i64.wrap (x_2570 - 1))) e_2617)) : Option ((List Int)))).bind fun l_2843 => cond (decide ((2 : Int) ≤ (IntKind.i64.wrap (x2 - x_2570)))) ((loopF (σ := (List Int) × Int) (ρ := ((List Int))) (fun (s_3150 : (List Int) × Int) => match s_3150 with | (l_3153, x_3156) => cond (decide (x_3156 < x2)) ((idx l_3153 x_3156).bind fun e_3209 => (idx l_3153 (IntKind.i64.wrap (x_3156 - 1))).bind fun e_3215 => (D.cmp_Less_int64 e_3209 e_3215).bind fun y_3221 => cond (!y_3221) (some (.inr l_3153)) ((idx l_3153 (IntKind.i64.wrap (x_3156 - 1))).bind fun e_3227 => (idx l_3153 x_3156).bind fun e_3233 => (idx l_3153 x_3156).bind fun e_3239 => (idx (l_3153.set (Int.toNat x_3156) e_3227) (IntKind.i64.wrap (x_3156 - 1))).bind fun e_3247 => some (.inl (((l_3153.set (Int.toNat x_3156) e_3227).set (Int.toNat (IntKind.i64.wrap (x_3156 - 1))) e_3233), (IntKind.i64.wrap (x_3156 + 1)))))) (some (.inr l_3153))) (l_2843, (IntKind.i64.wrap (x_2570 + 1)))).bind fun l_3204 => some (.inl (l_3204, x_2570, (IntKind.i64.wrap (x_1632 + 1))))) (some (.inl (l_2843, x_2570, (IntKind.i64.wrap (x_1632 + 1)))))))) (some (.inr (.inl l_1628)))) (x0, (IntKind.i64.wrap (x1 + 1)), 0)).bind fun zz => match zz with | .inl l_2442 => (some (false, l_2442)) | .inr z => (some z)

noncomputable def D.slices_partitionEqualOrdered_int64 (x0 : (List Int)) (x1 : Int) (x2 : Int) (x3 : Int) : Option (Int × ((List Int))) :=
  (idx x0 x3).bind fun e_1 => (idx x0 x1).bind fun e_7 => (idx x0 x1).bind fun e_13 => (idx (x0.set (Int.toNat x1) e_1) x3).bind fun e_21 => (loopF (σ := (List Int) × Int × Int) (ρ := ((List Int) × Int)) (fun (s_739 : (List Int) × Int × Int) => match s_739 with | (l_742, x_745, x_746) => (loopF (σ := Int) (ρ := (Int)) (fun (x_1188 : Int) => (cond (decide (x_1188 ≤ x_746)) ((idx l_742 x1).bind fun e_1249 => (idx l_742 x_1188).bind fun e_1255 => (D.cmp_Less_int64 e_1249 e_1255).bind fun y_1261 => some (!y_1261)) (some false)).bind fun b_1247 => cond b_1247 (some (.inl (IntKind.i64.wrap (x_1188 + 1)))) (some (.inr x_1188))) x_745).bind fun x_1228 => (loopF (σ := Int) (ρ := (Int)) (fun (x_1350 : Int) => (cond (decide (x_1228 ≤ x_1350)) ((idx l_742 x1).bind fun e_1411 => (idx l_742 x_1350).bind fun e_1417 => (D.cmp_Less_int64 e_1411 e_1417).bind fun y_1423 => some y_1423) (some false)).bind fun b_1409 => cond b_1409 (some (.inl (IntKind.i64.wrap (x_1350 - 1)))) (some (.inr x_1350))) x_746).bind fun x_1390 => cond (decide (x_1390 < x_1228)) (some (.inr (l_742, x_1228))) ((idx l_742 x_1390).bind fun e_1430 => (idx l_742 x_1228).bind fun e_1436 => (idx l_742 x_1228).bind fun e_1442 => (idx (l_742.set (Int.toNat x_1228) e_1430) x_1390).bind fun e_1450 => some (.inl (((l_742.set (Int.toNat x_1228) e_1430).set (Int.toNat x_1390) e_1436), (IntKind.i64.wrap (x_1228 + 1)), (IntKind.i64.wrap (x_1390 - 1)))))) (((x0.set (Int.toNat x1) e_1).set (Int.toNat x3) e_7), (IntKind.i64.wrap (x1 + 1)), (IntKind.i64.wrap (x2 - 1)))).bind fun (l_1100, x_1103) => some (x_1103, l_1100)

noncomputable def D.slices_partitionOrdered_int64 (x0 : (List Int)) (x1 : Int) (x2 : Int) (x3 : Int) : Option (Int × Bool × ((List Int))) :=
  (idx x0 x3).bind fun e_1 => (idx x0 x1).bind fun e_7 => (idx x0 x1).bind fun e_13 => (idx (x0.set (Int.toNat x1) e_1) x3).bind fun e_21 => (loopF (σ := Int) (ρ := (Int)) (fun (x_110 : Int) => (cond (decide (x_110 ≤ (IntKind.i64.wrap (x2 - 1)))) ((idx ((x0.set (Int.toNat x1) e_1).set (Int.toNat x3) e_7) x_110).bind fun e_171 => (idx ((x0.set (Int.toNat x1) e_1).set (Int.toNat x3) e_7) x1).bind fun e_177 => (D.cmp_Less_int64 e_171 e_177).bind fun y_183 => some y_183) (some false)).bind fun b_169 => cond b_169 (some (.inl (IntKind.i64.wrap (x_110 + 1)))) (some (.inr x_110))) (IntKind.i64.wrap (x1 + 1))).bind fun x_150 => (loopF (σ := Int) (ρ := (Int)) (fun (x_272 : Int) => (cond (decide (x_150 ≤ x_272)) ((idx ((x0.set (Int.toNat x1) e_1).set (Int.toNat x3) e_7) x_272).bind fun e_333 => (idx ((x0.set (Int.toNat x1) e_1).set (Int.toNat x3) e_7) x1).bind fun e_339 => (D.cmp_Less_int64 e_333 e_339).bind fun y_345 => some (!y_345)) (some false)).bind fun b_331 => cond b_331 (some (.inl (IntKind.i64.wrap (x_272 - 1)))) (some (.inr x_272))) (IntKind.i64.wrap (x2 - 1))).bind fun x_312 => cond (decide (x_312 < x_150)) ((idx ((x0.set (Int.toNat x1) e_1).set (Int.toNat x3) e_7) x1).bind fun e_352 => (idx ((x0.set (Int.toNat x1) e_1).set (Int.toNat x3) e_7) x_312).bind fun e_358 => (idx ((x0.set (Int.toNat x1) e_1).set (Int.toNat x3) e_7) x_312).bind fun e_364 => (idx (((x0.set (Int.toNat x1) e_1).set (Int.toNat x3) e_7).set (Int.toNat x_312) e_352) x1).bind fun e_372 => some (x_312, true, ((((x0.set (Int.toNat x1) e_1).set (Int.toNat x3) e_7).set (Int.toNat x_312) e_352).set (Int.toNat x1) e_358))) ((idx ((x0.set (Int.toNat x1) e_1).set (Int.toNat x3) e_7) x_312).bind fun e_378 => (idx ((x0.set (Int.toNat x1) e_1).set (Int.toNat x3) e_7) x_150).bind fun e_384 => (idx ((x0.set (Int.toNat x1) e_1).set (Int.toNat x3) e_7) x_150).bind fun e_390 => (idx (((x0.set (Int.toNat x1) e_1).set (Int.toNat x3) e_7).set (Int.toNat x_150) e_378) x_312).bind fun e_398 => (loopF (σ := (List Int) × Int × Int) (ρ := ((List Int) × Int)) (fun (s_1116 : (List Int) × Int × Int) => match s_1116 with | (l_1119, x_1122, x_1123) => (loopF (σ := Int) (ρ := (Int)) (fun (x_1565 : Int) => (cond (decide (x_1565 ≤ x_1123)) ((idx l_1119 x_1565).bind fun e_1626 => (idx l_1119 x1).bind fun e_1632 => (D.cmp_Less_int64 e_1626 e_1632).bind fun y_1638 => some y_1638) (some false)).bind fun b_1624 => cond b_1624 (some (.inl (IntKind.i64.wrap (x_1565 + 1)))) (some (.inr x_1565))) x_1122).bind fun x_1605 => (loopF (σ := Int) (ρ := (Int)) (fun (x_1727 : Int) => (cond (decide (x_1605 ≤ x_1727)) ((idx l_1119 x_1727).bind fun e_1788 => (idx l_1119 x1).bind fun e_1794 => (D.cmp_Less_int64 e_1788 e_1794).bind fun y_1800 => some (!y_1800)) (some false)).bind fun b_1786 => cond b_1786 (some (.inl (IntKind.i64.wrap (x_1727 - 1)))) (some (.inr x_1727))) x_1123).bind fun x_1767 => cond (decide (x_1767 < x_1605)) (some (.inr (l_1119, x_1767))) ((idx l_1119 x_1767).bind fun e_1807 => (idx l_1119 x_1605).bind fun e_1813 => (idx l_1119 x_1605).bind fun e_1819 => (idx (l_1119.set (Int.toNat x_1605) e_1807) x_1767).bind fun e_1827 => some (.inl (((l_1119.set (Int.toNat x_1605) e_1807).set (Int.toNat x_1767) e_1813), (IntKind.i64.wrap (x_1605 + 1)), (IntKind.i64.wrap (x_1767 - 1)))))) (((((x0.set (Int.toNat x1) e_1).set (Int.toNat x3) e_7).set (Int.toNat x_150) e_378).set (Int.toNat x_312) e_384), (IntKind.i64.wrap (x_150 + 1)), (IntKind.i64.wrap (x_312 - 1)))).bind fun (l_1477, x_1480) => (idx l_1477 x1).bind fun e_1833 => (idx l_1477 x_1480).bind fun e_1839 => (idx l_1477 x_1480).bind fun e_1845 => (idx (l_1477.set (Int.toNat x_1480) e_1833) x1).bind fun e_1853 => some (x_1480, false, ((l_1477.set (Int.toNat x_1480) e_1833).set (Int.toNat x1) e_1839)))

noncomputable def D.slices_nextPowerOfTwo (x0 : Int) : Option (Int) :=
  (D.math_bits_Len (IntKind.u64.wrap x0)).bind fun y_1 => cond (decide (y_1 < 0)) none (some (ishl .u64 1 y_1))

noncomputable def D.slices_xorshift_Next (x0_0 : Int) : Option (Int × Int) :=
  some ((ixor .u64 (ixor .u64 (ixor .u64 x0_0 (ishl .u64 x0_0 13)) (ishr .u64 (ixor .u64 x0_0 (ishl .u64 x0_0 13)) 7)) (ishl .u64 (ixor .u64 (ixor .u64 x0_0 (ishl .u64 x0_0 13)) (ishr .u64 (ixor .u64 x0_0 (ishl .u64 x0_0 13)) 7)) 17)), (ixor .u64 (ixor .u64 (ixor .u64 x0_0 (ishl .u64 x0_0 13)) (ishr .u64 (ixor .u64 x0_0 (ishl .u64 x0_0 13)) 7)) (ishl .u64 (ixor .u64 (ixor .u64 x0_0 (ishl .u64 x0_0 13)) (ishr .u64 (ixor .u64 x0_0 (ishl .u64 x0_0 13)) 7)) 17)))

noncomputable def D.slices_breakPatternsOrdered_int64 (x0 : (List Int)) (x1 : Int) (x2 : Int) : Option (((List Int))) :=
  cond (decide ((8 : Int) ≤ (IntKind.i64.wrap (x2 - x1)))) ((D.slices_nextPowerOfTwo (IntKind.i64.wrap (x2 - x1))).bind fun y_4 => (loopF (σ := (List Int) × Int × Int) (ρ := ((List Int))) (fun (s_103 : (List Int) × Int × Int) => match s_103 with | (l_106, x_109, x_110) => cond (decide (x_109 ≤ (IntKind.i64.wrap ((IntKind.i64.wrap (x1 + (IntKind.i64.wrap ((IntKind.i64.wrap (Int.tdiv (IntKind.i64.wrap (x2 - x1)) 4)) * 2)))) + 1)))) ((D.slices_xorshift_Next x_110).bind fun y_159 => ((cond (decide ((IntKind.i64.wrap (x2 - x1)) ≤ (IntKind.i64.wrap (iand .u64 y_159.1 (IntKind.u64.wrap (y_4 - 1)))))) (some (IntKind.i64.wrap ((IntKind.i64.wrap (iand .u64 y_159.1 (IntKind.u64.wrap (y_4 - 1)))) - (IntKind.i64.wrap (x2 - x1))))) (some (IntKind.i64.wrap (iand .u64 y_159.1 (IntKind.u64.wrap (y_4 - 1))))) : Option (Int))).bind fun x_170 => (idx l_106 (IntKind.i64.wrap (x1 + x_170))).bind fun e_173 => (idx l_106 x_109).bind fun e_179 => (idx l_106 x_109).bind fun e_185 => (idx (l_106.set (Int.toNat x_109) e_173) (IntKind.i64.wrap (x1 + x_170))).bind fun e_193 => some (.inl (((l_106.set (Int.toNat x_109) e_173).set (Int.toNat (IntKind.i64.wrap (x1 + x_170))) e_179), (IntKind.i64.wrap (x_109 + 1)), y_159.2))) (some (.inr l_106))) (x0, (IntKind.i64.wrap ((IntKind.i64.wrap (x1 + (IntKind.i64.wrap ((IntKind.i64.wrap (Int.tdiv (IntKind.i64.wrap (x2 - x1)) 4)) * 2)))) - 1)), (IntKind.u64.wrap (IntKind.i64.wrap (x2 - x1))))).bind fun l_154 => some l_154) (some x0)

noncomputable def D.slices_choosePivotOrdered_int64 (x0 : (List Int)) (x1 : Int) (x2 : Int) : Option (Int × Int × ((List Int))) :=
  cond (decide ((8 : Int) ≤ (IntKind.i64.wrap (x2 - x1)))) (((cond (decide ((50 : Int) ≤ (IntKind.i64.wrap (x2 - x1)))) ((D.slices_medianAdjacentOrdered_int64 x0 (IntKind.i64.wrap (x1 + (IntKind.i64.wrap ((IntKind.i64.wrap (Int.tdiv (IntKind.i64.wrap (x2 - x1)) 4)) * 1)))) 0).bind fun y_44 => (D.slices_medianAdjacentOrdered_int64 y_44.2.1 (IntKind.i64.wrap (x1 + (IntKind.i64.wrap ((IntKind.i64.wrap (Int.tdiv (IntKind.i64.wrap (x2 - x1)) 4)) * 2)))) y_44.2.2).bind fun y_53 => (D.slices_medianAdjacentOrdered_int64 y_53.2.1 (IntKind.i64.wrap (x1 + (IntKind.i64.wrap ((IntKind.i64.wrap (Int.tdiv (IntKind.i64.wrap (x2 - x1)) 4)) * 3)))) y_53.2.2).bind fun y_62 => some (y_62.2.1, y_44.1, y_53.1, y_62.1, y_62.2.2)) (some (x0, (IntKind.i64.wrap (x1 + (IntKind.i64.wrap ((IntKind.i64.wrap (Int.tdiv (IntKind.i64.wrap (x2 - x1)) 4)) * 1)))), (IntKind.i64.wrap (x1 + (IntKind.i64.wrap ((IntKind.i64.wrap (Int.tdiv (IntKind.i64.wrap (x2 - x1)) 4)) * 2)))), (IntKind.i64.wrap (x1 + (IntKind.i64.wrap ((IntKind.i64.wrap (Int.tdiv (IntKind.i64.wrap (x2 - x1)) 4)) * 3)))), 0)) : Option ((List Int) × Int × Int × Int × Int))).bind fun (l_35, x_38, x_39, x_40, x_41) => (D.slices_medianOrdered_int64 l_35 x_38 x_39 x_40 x_41).bind fun y_71 => cond (y_71.2.2 == 0) (some (y_71.1, 1, y_71.2.1)) (cond (y_71.2.2 == 12) (some (y_71.1, 2, y_71.2.1)) (some (y_71.1, 0, y_71.2.1)))) (cond ((0 : Int) == 0) (some ((IntKind.i64.wrap (x1 + (IntKind.i64.wrap ((IntKind.i64.wrap (Int.tdiv (IntKind.i64.wrap (x2 - x1)) 4)) * 2)))), 1, x0)) (cond ((0 : Int) == 12) (some ((IntKind.i64.wrap (x1 + (IntKind.i64.wrap ((IntKind.i64.wrap (Int.tdiv (IntKind.i64.wrap (x2 - x1)) 4)) * 2)))), 2, x0)) (some ((IntKind.i64.wrap (x1 + (IntKind.i64.wrap ((IntKind.i64.wrap (Int.tdiv (IntKind.i64.wrap (x2 - x1)) 4)) * 2)))), 0, x0))))

noncomputable def D.slices_pdqsortOrdered_int64R : Nat → ((List Int)) → Int → Int → Int → Option (((List Int)))
  | 0, _, _, _, _ => none
  | fuel + 1, x0, x1, x2, x3 => (loopF (σ := (List Int) × Int × Int × Int × Bool × Bool) (ρ := (((List Int)))) (fun (s_398 : (List Int) × Int × Int × Int × Bool × Bool) => match s_398 with | (l_401, x_404, x_405, x_406, b_407, b_408) => cond (decide ((IntKind.i64.wrap (x_405 - x_404)) ≤ 12)) ((D.slices_insertionSortOrdered_int64 l_401 x_404 x_405).bind fun y_411 => some (.inr y_411)) (cond (x_406 == 0) ((D.slices_heapSortOrdered_int64 l_401 x_404 x_405).bind fun y_421 => some (.inr y_421)) (((cond (!b_407) ((D.slices_breakPatternsOrdered_int64 l_401 x_404 x_405).bind fun y_449 => some (y_449, (IntKind.i64.wrap (x_406 - 1)))) (some (l_401, x_406)) : Option ((List Int) × Int))).bind fun (l_443, x_446) => (D.slices_choosePivotOrdered_int64 l_443 x_404 x_405).bind fun y_458 => ((cond (y_458.2.1 == 2) ((D.slices_reverseRangeOrdered_int64 y_458.2.2 x_404 x_405).bind fun y_487 => some (y_487, (IntKind.i64.wrap ((IntKind.i64.wrap (x_405 - 1)) - (IntKind.i64.wrap (y_458.1 - x_404)))), 1)) (some (y_458.2.2, y_458.1, y_458.2.1)) : Option ((List Int) × Int × Int))).bind fun (l_480, x_483, x_484) => ((cond ((b_407 && b_408) && (x_484 == 1)) ((D.slices_partialInsertionSortOrdered_int64 l_480 x_404 x_405).bind fun y_521 => cond y_521.1 (some (.inr y_521.2)) (some (.inl y_521.2))) (some (.inl l_480)) : Option (((List Int)) ⊕ (((List Int)))))).bind fun q => match q with | .inl l_516 => ((cond (decide ((0 : Int) < x_404)) ((idx l_516 (IntKind.i64.wrap (x_404 - 1))).bind fun e_550 => (idx l_516 x_483).bind fun e_556 => (D.cmp_Less_int64 e_550 e_556).bind fun y_562 => some (!y_562)) (some false)).bind fun b_548 => cond b_548 ((D.slices_partitionEqualOrdered_int64 l_516 x_404 x_405 x_483).bind fun y_568 => some (.inl (y_568.2, y_568.1, x_405, x_446, b_407, b_408))) ((D.slices_partitionOrdered_int64 l_516 x_404 x_405 x_483).bind fun y_577 => cond (decide ((IntKind.i64.wrap (y_577.1 - x_404)) < (IntKind.i64.wrap (x_405 - y_577.1)))) ((D.slices_pdqsortOrdered_int64R fuel y_577.2.2 x_404 y_577.1 x_446).bind fun y_587 => some (.inl (y_587, (IntKind.i64.wrap (y_577.1 + 1)), x_405, x_446, (decide ((IntKind.i64.wrap (Int.tdiv (IntKind.i64.wrap (x_405 - x_404)) 8)) ≤ (IntKind.i64.wrap (y_577.1 - x_404)))), y_577.2.1))) ((D.slices_pdqsortOrdered_int64R fuel y_577.2.2 (IntKind.i64.wrap (y_577.1 + 1)) x_405 x_446).bind fun y_596 => some (.inl (y_596, x_404, y_577.1, x_446, (decide ((IntKind.i64.wrap (Int.tdiv (IntKind.i64.wrap (x_405 - x_404)) 8)) ≤ (IntKind.i64.wrap (x_405 - y_577.1)))), y_577.2.1))))) | .inr q => (some (.inr q))))) (x0, x1, x2, x3, true, true)).bind fun z => some z

noncomputable def D.slices_pdqsortOrdered_int64 (x0 : (List Int)) (x1 : Int) (x2 : Int) (x3 : Int) : Option (((List Int))) := D.slices_pdqsortOrdered_int64R recFuel x0 x1 x2 x3

noncomputable def D.slices_Sort_int64_int64 (x0 : (List Int)) : Option (((List Int))) :=
  (D.math_bits_Len (IntKind.u64.wrap (x0.length : Int))).bind fun y_1 => (D.slices_pdqsortOrdered_int64 x0 0 (x0.length : Int) y_1).bind fun y_8 => some y_8

noncomputable def D.slices_Collect_int64 (x0 : (List Int)) : Option (((List Int))) :=
  (D.slices_AppendSeq_int64_int64 x0).bind fun y_1 => some y_1

noncomputable def D.slices_Sorted_int64 (x0 : (List Int)) : Option (((List Int))) :=
  (D.slices_Collect_int64 x0).bind fun y_1 => (D.slices_Sort_int64_int64 y_1).bind fun y_12 => some y_12

noncomputable def D.spec_l1In (x0 : Int) (x1 : Int) (x2 : Int) : Option (Bool) :=
  some ((decide (x1 ≤ x0)) && (decide (x0 ≤ x2)))

noncomputable def D.spec_l1Has (x0 : (List Int)) (x1 : Int) : Option (Bool) :=
  (loopF (σ := Int) (ρ := (Unit) ⊕ (Bool)) (fun (x_26 : Int) => cond (decide (x_26 < (x0.length : Int))) ((idx x0 x_26).bind fun e_39 => cond (e_39 == x1) (some (.inr (.inr true))) (some (.inl (IntKind.i64.wrap (x_26 + 1))))) (some (.inr (.inl ())))) 0).bind fun zz => match zz with | .inl _ => (some false) | .inr z => (some z)

noncomputable def D.spec_l1Size (x0_0 : (List (List Int))) : Option (Int) :=
  some (x0_0.length : Int)

noncomputable def D.spec_l1Copy (x0 : (List Int)) : Option (((List Int))) :=
  (appendD ([] : List Int) x0).bind fun l_5 => some l_5

noncomputable def D.spec_l1Set (x0 : (List Int)) (x1 : Int) : Option (Bool) :=
  cond (decide (x1 < (x0.length : Int))) (some false) ((loopF (σ := Int) (ρ := (Unit) ⊕ (Bool)) (fun (x_157 : Int) => cond (decide (x_157 < (x0.length : Int))) ((idx x0 x_157).bind fun e_235 => (D.spec_l1In e_235 0 (IntKind.i64.wrap (x1 - 1))).bind fun y_241 => (cond (!y_241) (some true) ((cond (decide ((0 : Int) < x_157)) ((idx x0 x_157).bind fun e_292 => (idx x0 (IntKind.i64.wrap (x_157 - 1))).bind fun e_298 => some (decide (e_292 ≤ e_298))) (some false)).bind fun b_290 => some b_290)).bind fun b_274 => cond b_274 (some (.inr (.inr false))) (some (.inl (IntKind.i64.wrap (x_157 + 1))))) (some (.inr (.inl ())))) 0).bind fun zz => match zz with | .inl _ => (some true) | .inr z => (some z))

noncomputable def D.spec_GraphOk (x0_0 : (List (List Int))) : Option (Bool) :=
  (D.spec_l1Size x0_0).bind fun y_3 => (D.spec_l1In y_3 1 16).bind fun y_10 => cond (!y_10) (some false) ((loopF (σ := Int) (ρ := (Unit) ⊕ (Bool)) (fun (x_145 : Int) => cond (decide (x_145 < y_3)) ((idx x0_0 x_145).bind fun e_209 => (D.spec_l1Set e_209 y_3).bind fun y_215 => (cond (!y_215) (some true) ((idx x0_0 x_145).bind fun e_253 => (D.spec_l1Has e_253 x_145).bind fun y_259 => some y_259)).bind fun b_251 => cond b_251 (some (.inr (.inr false))) (some (.inl (IntKind.i64.wrap (x_145 + 1))))) (some (.inr (.inl ())))) 0).bind fun zz => match zz with | .inl _ => ((loopF (σ := Int) (ρ := (Unit) ⊕ (Bool)) (fun (x_552 : Int) => cond (decide (x_552 < y_3)) ((loopF (σ := Int) (ρ := (Unit) ⊕ (Bool)) (fun (x_766 : Int) => (idx x0_0 x_552).bind fun e_801 => cond (decide (x_766 < (e_801.length : Int))) ((idx x0_0 x_552).bind fun e_808 => (idx e_808 x_766).bind fun e_814 => (idx x0_0 e_814).bind fun e_820 => (D.spec_l1Has e_820 x_552).bind fun y_826 => cond (!y_826) (some (.inr (.inr false))) (some (.inl (IntKind.i64.wrap (x_766 + 1))))) (some (.inr (.inl ())))) 0).bind fun zz => match zz with | .inl _ => (some (.inl (IntKind.i64.wrap (x_552 + 1)))) | .inr z => (some (.inr (.inr z)))) (some (.inr (.inl ())))) 0).bind fun zz => match zz with | .inl _ => (some true) | .inr z => (some z)) | .inr z => (some z))

noncomputable def D.spec_l1There (x0_0 : (List (List Int))) (x1 : Int) : Option (Bool) :=
  (D.spec_l1Size x0_0).bind fun y_3 => (D.spec_l1In x1 0 (IntKind.i64.wrap (y_3 - 1))).bind fun y_10 => some y_10

noncomputable def D.spec_l1Order (x0_0 : (List (List Int))) (x1 : (List Int)) : Option (Bool) :=
  (D.spec_l1Size x0_0).bind fun y_3 => cond ((x1.length : Int) != y_3) (some false) ((loopF (σ := Int) (ρ := (Unit) ⊕ (Bool)) (fun (x_106 : Int) => cond (decide (x_106 < (x1.length : Int))) ((idx x1 x_106).bind fun e_154 => (D.spec_l1There x0_0 e_154).bind fun y_160 => (cond (!y_160) (some true) ((sliceD x1 0 x_106).bind fun l_180 => (idx x1 x_106).bind fun e_184 => (D.spec_l1Has l_180 e_184).bind fun y_190 => some y_190)).bind fun b_178 => cond b_178 (some (.inr (.inr false))) (some (.inl (IntKind.i64.wrap (x_106 + 1))))) (some (.inr (.inl ())))) 0).bind fun zz => match zz with | .inl _ => (some true) | .inr z => (some z))

noncomputable def D.spec_OrderOk (x0_0 : (List (List Int))) (x1 : (List Int)) : Option (Bool) :=
  (D.spec_GraphOk x0_0).bind fun y_3 => (cond y_3 ((D.spec_l1Order x0_0 x1).bind fun y_29 => some y_29) (some false)).bind fun b_27 => some b_27

noncomputable def D.spec_l1Into (x0 : (List Int)) (x1 : Int) : Option (((List Int))) :=
  (loopF (σ := Int) (ρ := (Int)) (fun (x_58 : Int) => (cond (decide (x_58 < (x0.length : Int))) ((idx x0 x_58).bind fun e_104 => some (decide (e_104 < x1))) (some false)).bind fun b_102 => cond b_102 (some (.inl (IntKind.i64.wrap (x_58 + 1)))) (some (.inr x_58))) 0).bind fun x_85 => (cond (decide (x_85 < (x0.length : Int))) ((idx x0 x_85).bind fun e_128 => some (e_128 == x1)) (some false)).bind fun b_126 => cond b_126 (some x0) ((sliceD x0 0 x_85).bind fun l_135 => (D.spec_l1Copy l_135).bind fun y_139 => (appendD y_139 ([x1] : List Int)).bind fun l_154 => (sliceD x0 x_85 (x0.length : Int)).bind fun l_160 => (appendD l_154 l_160).bind fun l_164 => some l_164)

noncomputable def D.impl_inRange (x0 : Int) (x1 : Int) (x2 : Int) : Option (Bool) :=
  some ((decide (x1 ≤ x0)) && (decide (x0 ≤ x2)))

noncomputable def D.impl_increasing (x0 : (List Int)) (x1 : Int) : Option (Bool) :=
  (loopF (σ := Int) (ρ := (Unit) ⊕ (Bool)) (fun (x_188 : Int) => cond (decide (x_188 < (x0.length : Int))) ((idx x0 x_188).bind fun e_282 => (D.impl_inRange e_282 0 (IntKind.i64.wrap (x1 - 1))).bind fun y_288 => (cond (!y_288) (some true) ((cond (decide ((0 : Int) < x_188)) ((idx x0 (IntKind.i64.wrap (x_188 - 1))).bind fun e_363 => some (decide (e_282 ≤ e_363))) (some false)).bind fun b_361 => some b_361)).bind fun b_344 => cond b_344 (some (.inr (.inr false))) (some (.inl (IntKind.i64.wrap (x_188 + 1))))) (some (.inr (.inl ())))) 0).bind fun zz => match zz with | .inl _ => (some true) | .inr z => (some z)

noncomputable def D.slices_Index_int64_int64 (x0 : (List Int)) (x1 : Int) : Option (Int) :=
  (loopF (σ := Int) (ρ := (Unit) ⊕ (Int)) (fun (x_26 : Int) => cond (decide (x_26 < (x0.length : Int))) ((idx x0 x_26).bind fun e_39 => cond (x1 == e_39) (some (.inr (.inr x_26))) (some (.inl (IntKind.i64.wrap (x_26 + 1))))) (some (.inr (.inl ())))) 0).bind fun zz => match zz with | .inl _ => (some (-1)) | .inr z => (some z)

noncomputable def D.slices_Contains_int64_int64 (x0 : (List Int)) (x1 : Int) : Option (Bool) :=
  (D.slices_Index_int64_int64 x0 x1).bind fun y_1 => some (decide ((0 : Int) ≤ y_1))

noncomputable def D.impl_GraphOk (x0_0 : (List (List Int))) : Option (Bool) :=
  cond ((decide ((x0_0.length : Int) < 1)) || (decide ((16 : Int) < (x0_0.length : Int)))) (some false) ((loopF (σ := Int) (ρ := (Unit) ⊕ (Bool)) (fun (x_98 : Int) => cond (decide (x_98 < (x0_0.length : Int))) ((idx x0_0 x_98).bind fun e_144 => (D.impl_increasing e_144 (x0_0.length : Int)).bind fun y_150 => (cond (!y_150) (some true) ((D.slices_Contains_int64_int64 e_144 x_98).bind fun y_176 => some y_176)).bind fun b_174 => cond b_174 (some (.inr (.inr false))) (some (.inl (IntKind.i64.wrap (x_98 + 1))))) (some (.inr (.inl ())))) 0).bind fun zz => match zz with | .inl _ => ((loopF (σ := Int) (ρ := (Unit) ⊕ (Bool)) (fun (x_401 : Int) => cond (decide (x_401 < (x0_0.length : Int))) ((idx x0_0 x_401).bind fun e_510 => (loopF (σ := Int) (ρ := (Unit) ⊕ (Bool)) (fun (x_567 : Int) => cond (decide (x_567 < (e_510.length : Int))) ((idx e_510 x_567).bind fun e_593 => (idx x0_0 e_593).bind fun e_599 => (D.slices_Contains_int64_int64 e_599 x_401).bind fun y_605 => cond (!y_605) (some (.inr (.inr false))) (some (.inl (IntKind.i64.wrap (x_567 + 1))))) (some (.inr (.inl ())))) 0).bind fun zz => match zz with | .inl _ => (some (.inl (IntKind.i64.wrap (x_401 + 1)))) | .inr z => (some (.inr (.inr z)))) (some (.inr (.inl ())))) 0).bind fun zz => match zz with | .inl _ => (some true) | .inr z => (some z)) | .inr z => (some z))

noncomputable def D.impl_one (x0 : Int) : Option (Int) :=
  cond (decide (x0 < 0)) none (some (ishl .u32 1 x0))

noncomputable def D.impl_maskOf (x0 : (List Int)) : Option (Int) :=
  (loopF (σ := Int × Int) (ρ := (Int)) (fun (s_36 : Int × Int) => match s_36 with | (x_39, x_40) => cond (decide (x_40 < (x0.length : Int))) ((idx x0 x_40).bind fun e_60 => (D.impl_one e_60).bind fun y_66 => some (.inl ((ior .u32 x_39 y_66), (IntKind.i64.wrap (x_40 + 1))))) (some (.inr x_39))) (0, 0)).bind fun x_57 => some x_57

noncomputable def D.impl_netsOf (x0_0 : (List (List Int))) : Option (((List Int))) :=
  (loopF (σ := (List Int) × Int) (ρ := ((List Int))) (fun (s_66 : (List Int) × Int) => match s_66 with | (l_69, x_74) => cond (decide (x_74 < (x0_0.length : Int))) ((idx x0_0 x_74).bind fun e_108 => (D.impl_maskOf e_108).bind fun y_114 => (appendD l_69 ([y_114] : List Int)).bind fun l_125 => some (.inl (l_125, (IntKind.i64.wrap (x_74 + 1))))) (some (.inr l_69))) (([] : List Int), 0)).bind fun l_101 => some l_101

noncomputable def D.impl_narrow (x0 : (List Int)) : Option (((List Int))) :=
  (makeD (0 : Int) 0 (x0.length : Int)).bind fun l_1 => (loopF (σ := (List Int) × Int) (ρ := ((List Int))) (fun (s_52 : (List Int) × Int) => match s_52 with | (l_55, x_60) => cond (decide (x_60 < (x0.length : Int))) ((idx x0 x_60).bind fun e_87 => (appendD l_55 ([e_87] : List Int)).bind fun l_97 => some (.inl (l_97, (IntKind.i64.wrap (x_60 + 1))))) (some (.inr l_55))) (l_1, 0)).bind fun l_80 => some l_80

noncomputable def D.math_bits_TrailingZeros32 (x0 : Int) : Option (Int) :=
  cond (x0 == 0) (some 32) ((idx tab32 (ishr .u32 (IntKind.u32.wrap ((iand .u32 x0 (IntKind.u32.wrap (0 - x0))) * 125613361)) 27)).bind fun e_3 => some (IntKind.i64.wrap e_3))

noncomputable def D.impl_vset_least (x0 : Int) : Option (Int) :=
  (D.math_bits_TrailingZeros32 x0).bind fun y_1 => some y_1

noncomputable def D.impl_vset_list (x0 : Int) : Option (((List Int))) :=
  (loopF (σ := Int × (List Int)) (ρ := ((List Int))) (fun (s_52 : Int × (List Int)) => match s_52 with | (x_55, l_56) => cond (x_55 != 0) ((D.impl_vset_least x_55).bind fun y_88 => (appendD l_56 ([y_88] : List Int)).bind fun l_99 => some (.inl ((iand .u32 x_55 (IntKind.u32.wrap (x_55 - 1))), l_99))) (some (.inr l_56))) (x0, ([] : List Int))).bind fun l_81 => some l_81

noncomputable def D.impl_wide (x0 : (List Int)) : Option (((List Int))) :=
  (makeD (0 : Int) 0 (x0.length : Int)).bind fun l_1 => (loopF (σ := (List Int) × Int) (ρ := ((List Int))) (fun (s_52 : (List Int) × Int) => match s_52 with | (l_55, x_60) => cond (decide (x_60 < (x0.length : Int))) ((idx x0 x_60).bind fun e_87 => (appendD l_55 ([e_87] : List Int)).bind fun l_97 => some (.inl (l_97, (IntKind.i64.wrap (x_60 + 1))))) (some (.inr l_55))) (l_1, 0)).bind fun l_80 => some l_80

noncomputable def D.impl_vset_numbers (x0 : Int) : Option (((List Int))) :=
  (D.impl_vset_list x0).bind fun y_1 => (D.impl_wide y_1).bind fun y_12 => some y_12

noncomputable def D.impl_results (x0 : (List Int)) : Option (((List (List Int)))) :=
  (loopF (σ := (List (List Int)) × Int) (ρ := ((List (List Int)))) (fun (s_74 : (List (List Int)) × Int) => match s_74 with | (l_77, x_82) => cond (decide (x_82 < (x0.length : Int))) ((idx x0 x_82).bind fun e_120 => (D.impl_vset_numbers e_120).bind fun y_126 => (appendD l_77 [y_126]).bind fun l_141 => some (.inl (l_141, (IntKind.i64.wrap (x_82 + 1))))) (some (.inr l_77))) (([] : List (List Int)), 0)).bind fun l_113 => some l_113

noncomputable def D.impl_OrderOk (x0_0 : (List (List Int))) (x1 : (List Int)) : Option (Bool) :=
  (D.impl_GraphOk x0_0).bind fun y_3 => cond ((!y_3) || ((x1.length : Int) != (x0_0.length : Int))) (some false) ((D.slices_Sorted_int64 x1).bind fun y_21 => (D.impl_increasing y_21 (x0_0.length : Int)).bind fun y_32 => some y_32)

noncomputable def D.laws_big (x0 : (List Int)) : Option (Bool) :=
  some (decide ((4096 : Int) < (x0.length : Int)))

noncomputable def D.laws_roll (x0 : (List Int)) (x1 : Int) : Option (((List Int)) × Int × Int) :=
  (loopF (σ := Int × Int) (ρ := (Int)) (fun (s_29 : Int × Int) => match s_29 with | (x_32, x_33) => cond (decide (x_32 < (x0.length : Int))) ((idx x0 x_32).bind fun e_48 => some (.inl ((IntKind.i64.wrap (x_32 + 1)), (IntKind.u64.wrap ((IntKind.u64.wrap ((IntKind.u64.wrap (x_33 * 1099511628211)) + (IntKind.u64.wrap e_48))) + 3))))) (some (.inr x_33))) (0, (IntKind.u64.wrap ((IntKind.u64.wrap (x1 * 7919)) + (IntKind.u64.wrap (x0.length : Int)))))).bind fun x_45 => some (x0, 0, x_45)

noncomputable def D.laws_dice_below (x0_0 : (List Int)) (x0_1 : Int) (x0_2 : Int) (x1 : Int) : Option (Int × ((List Int)) × Int × Int) :=
  cond (decide (x0_1 < (x0_0.length : Int))) ((idx x0_0 x0_1).bind fun e_5 => cond (x1 == 0) none (some ((Int.tmod (IntKind.i64.wrap ((IntKind.i64.wrap (iand .u64 (ishr .u64 (IntKind.u64.wrap ((IntKind.u64.wrap (x0_2 * 6364136223846793005)) + 1442695040888963407)) 33) 16777215)) + (IntKind.i64.wrap e_5))) x1), x0_0, (IntKind.i64.wrap (x0_1 + 1)), (IntKind.u64.wrap ((IntKind.u64.wrap (x0_2 * 6364136223846793005)) + 1442695040888963407))))) (cond (x1 == 0) none (some ((Int.tmod (IntKind.i64.wrap (iand .u64 (ishr .u64 (IntKind.u64.wrap ((IntKind.u64.wrap (x0_2 * 6364136223846793005)) + 1442695040888963407)) 33) 16777215)) x1), x0_0, x0_1, (IntKind.u64.wrap ((IntKind.u64.wrap (x0_2 * 6364136223846793005)) + 1442695040888963407)))))

noncomputable def D.spec_l1Empty (x0 : Int) : Option (((List (List Int)))) :=
  (loopF (σ := Int × (List (List Int))) (ρ := ((List (List Int)))) (fun (s_56 : Int × (List (List Int))) => match s_56 with | (x_62, l_63) => cond (decide (x_62 < x0)) ((appendD l_63 ([([] : List Int)] : List (List Int))).bind fun l_106 => some (.inl ((IntKind.i64.wrap (x_62 + 1)), l_106))) (some (.inr l_63))) (0, ([] : List (List Int)))).bind fun l_88 => some l_88

noncomputable def D.spec_l1Link (x0_0 : (List (List Int))) (x1 : Int) (x2 : Int) : Option (((List (List Int)))) :=
  (idx x0_0 x1).bind fun e_5 => (D.spec_l1Into e_5 x2).bind fun y_14 => (idx x0_0 x1).bind fun e_23 => (idx (x0_0.set (Int.toNat x1) y_14) x2).bind fun e_31 => (D.spec_l1Into e_31 x1).bind fun y_40 => (idx (x0_0.set (Int.toNat x1) y_14) x2).bind fun e_49 => some ((x0_0.set (Int.toNat x1) y_14).set (Int.toNat x2) y_40)

noncomputable def D.spec_GraphOf (x0 : Int) (x1 : (List (List Int))) : Option (((List (List Int))) × Bool) :=
  (D.spec_l1In x0 1 16).bind fun y_3 => cond ((!y_3) || (decide ((120 : Int) < (x1.length : Int)))) (some (([] : List (List Int)), false)) ((D.spec_l1Empty x0).bind fun y_19 => (loopF (σ := Int × (List (List Int))) (ρ := ((List (List Int))) ⊕ (((List (List Int))) × Bool)) (fun (s_217 : Int × (List (List Int))) => match s_217 with | (x_220, l_221) => cond (decide (x_220 < (x1.length : Int))) ((idx x1 x_220).bind fun e_319 => (cond ((e_319.length : Int) != 2) (some true) ((idx x1 x_220).bind fun e_356 => (D.spec_l1Set e_356 x0).bind fun y_362 => some (!y_362))).bind fun b_354 => cond b_354 (some (.inr (.inr (([] : List (List Int)), false)))) ((idx x1 x_220).bind fun e_375 => (idx e_375 0).bind fun e_381 => (idx x1 x_220).bind fun e_387 => (idx e_387 1).bind fun e_393 => (D.spec_l1Link l_221 e_381 e_393).bind fun y_401 => some (.inl ((IntKind.i64.wrap (x_220 + 1)), y_401)))) (some (.inr (.inl l_221)))) (0, y_19)).bind fun zz => match zz with | .inl l_314 => (some (l_314, true)) | .inr z => (some z))

noncomputable def D.laws_w9Graph (x0_0 : (List Int)) (x0_1 : Int) (x0_2 : Int) (x1 : Int) : Option (((List (List Int))) × ((List Int)) × Int × Int) :=
  (D.laws_dice_below x0_0 x0_1 x0_2 x1).bind fun y_3 => (D.laws_dice_below y_3.2.1 y_3.2.2.1 y_3.2.2.2 3).bind fun y_12 => (loopF (σ := (List (List Int)) × Int × (List Int) × Int × Int) (ρ := ((List (List Int)) × (List Int) × Int × Int)) (fun (s_353 : (List (List Int)) × Int × (List Int) × Int × Int) => match s_353 with | (l_356, x_361, l_362, x_365, x_366) => cond (decide (x_361 < (IntKind.i64.wrap (1 + y_3.1)))) ((loopF (σ := (List (List Int)) × Int × (List Int) × Int × Int) (ρ := ((List (List Int)) × (List Int) × Int × Int)) (fun (s_609 : (List (List Int)) × Int × (List Int) × Int × Int) => match s_609 with | (l_612, x_617, l_618, x_621, x_622) => cond (decide (x_617 < x_361)) ((D.laws_dice_below l_618 x_621 x_622 4).bind fun y_665 => cond (decide (y_665.1 < (IntKind.i64.wrap (1 + y_12.1)))) ((appendD l_612 ([([x_617, x_361] : List Int)] : List (List Int))).bind fun l_686 => some (.inl (l_686, (IntKind.i64.wrap (x_617 + 1)), y_665.2.1, y_665.2.2.1, y_665.2.2.2))) (some (.inl (l_612, (IntKind.i64.wrap (x_617 + 1)), y_665.2.1, y_665.2.2.1, y_665.2.2.2)))) (some (.inr (l_612, l_618, x_621, x_622)))) (l_356, 0, l_362, x_365, x_366)).bind fun (l_653, l_658, x_661, x_662) => some (.inl (l_653, (IntKind.i64.wrap (x_361 + 1)), l_658, x_661, x_662))) (some (.inr (l_356, l_362, x_365, x_366)))) (([] : List (List Int)), 1, y_12.2.1, y_12.2.2.1, y_12.2.2.2)).bind fun (l_525, l_530, x_533, x_534) => (D.spec_GraphOf (IntKind.i64.wrap (1 + y_3.1)) l_525).bind fun y_695 => some (y_695.1, l_530, x_533, x_534)

noncomputable def D.spec_l1Edges (x0_0 : (List (List Int))) : Option (((List (List Int)))) :=
  (loopF (σ := (List (List Int)) × Int) (ρ := ((List (List Int)))) (fun (s_482 : (List (List Int)) × Int) => match s_482 with | (l_485, x_490) => (D.spec_l1Size x0_0).bind fun y_731 => cond (decide (x_490 < y_731)) ((loopF (σ := (List (List Int)) × Int) (ρ := ((List (List Int)))) (fun (s_848 : (List (List Int)) × Int) => match s_848 with | (l_851, x_856) => (idx x0_0 x_490).bind fun e_914 => cond (decide (x_856 < (e_914.length : Int))) ((idx x0_0 x_490).bind fun e_921 => (idx e_921 x_856).bind fun e_927 => cond (decide (x_490 < e_927)) ((idx x0_0 x_490).bind fun e_934 => (idx e_934 x_856).bind fun e_940 => (appendD l_851 ([([x_490, e_940] : List Int)] : List (List Int))).bind fun l_957 => some (.inl (l_957, (IntKind.i64.wrap (x_856 + 1))))) (some (.inl (l_851, (IntKind.i64.wrap (x_856 + 1)))))) (some (.inr l_851))) (l_485, 0)).bind fun l_908 => some (.inl (l_908, (IntKind.i64.wrap (x_490 + 1))))) (some (.inr l_485))) (([] : List (List Int)), 0)).bind fun l_725 => some l_725

noncomputable def D.laws_w5Graph (x0_0 : (List Int)) (x0_1 : Int) (x0_2 : Int) (x1 : Int) : Option (((List (List Int))) × ((List Int)) × Int × Int) :=
  (D.laws_dice_below x0_0 x0_1 x0_2 x1).bind fun y_3 => (D.laws_dice_below y_3.2.1 y_3.2.2.1 y_3.2.2.2 3).bind fun y_12 => (loopF (σ := (List (List Int)) × Int × (List Int) × Int × Int) (ρ := ((List (List Int)) × (List Int) × Int × Int)) (fun (s_353 : (List (List Int)) × Int × (List Int) × Int × Int) => match s_353 with | (l_356, x_361, l_362, x_365, x_366) => cond (decide (x_361 < (IntKind.i64.wrap (1 + y_3.1)))) ((loopF (σ := (List (List Int)) × Int × (List Int) × Int × Int) (ρ := ((List (List Int)) × (List Int) × Int × Int)) (fun (s_609 : (List (List Int)) × Int × (List Int) × Int × Int) => match s_609 with | (l_612, x_617, l_618, x_621, x_622) => cond (decide (x_617 < x_361)) ((D.laws_dice_below l_618 x_621 x_622 4).bind fun y_665 => cond (decide (y_665.1 < (IntKind.i64.wrap (1 + y_12.1)))) ((appendD l_612 ([([x_617, x_361] : List Int)] : List (List Int))).bind fun l_686 => some (.inl (l_686, (IntKind.i64.wrap (x_617 + 1)), y_665.2.1, y_665.2.2.1, y_665.2.2.2))) (some (.inl (l_612, (IntKind.i64.wrap (x_617 + 1)), y_665.2.1, y_665.2.2.1, y_665.2.2.2)))) (some (.inr (l_612, l_618, x_621, x_622)))) (l_356, 0, l_362, x_365, x_366)).bind fun (l_653, l_658, x_661, x_662) => some (.inl (l_653, (IntKind.i64.wrap (x_361 + 1)), l_658, x_661, x_662))) (some (.inr (l_356, l_362, x_365, x_366)))) (([] : List (List Int)), 1, y_12.2.1, y_12.2.2.1, y_12.2.2.2)).bind fun (l_525, l_530, x_533, x_534) => (D.spec_GraphOf (IntKind.i64.wrap (1 + y_3.1)) l_525).bind fun y_695 => some (y_695.1, l_530, x_533, x_534)

noncomputable def D.laws_w5Order (x0_0 : (List Int)) (x0_1 : Int) (x0_2 : Int) (x1 : Int) : Option (((List Int)) × ((List Int)) × Int × Int) :=
  (loopF (σ := (List Int) × Int × (List Int) × Int × Int) (ρ := ((List Int) × (List Int) × Int × Int)) (fun (s_221 : (List Int) × Int × (List Int) × Int × Int) => match s_221 with | (l_224, x_229, l_230, x_233, x_234) => cond (decide (x_229 < x1)) ((D.laws_dice_below l_230 x_233 x_234 (IntKind.i64.wrap ((l_224.length : Int) + 1))).bind fun y_349 => (appendD l_224 ([0] : List Int)).bind fun l_362 => (loopF (σ := (List Int) × Int) (ρ := ((List Int))) (fun (s_403 : (List Int) × Int) => match s_403 with | (l_406, x_409) => cond (decide (y_349.1 < x_409)) ((idx l_406 (IntKind.i64.wrap (x_409 - 1))).bind fun e_430 => (idx l_406 x_409).bind fun e_436 => some (.inl ((l_406.set (Int.toNat x_409) e_430), (IntKind.i64.wrap (x_409 - 1))))) (some (.inr l_406))) (l_362, (IntKind.i64.wrap ((l_362.length : Int) - 1)))).bind fun l_425 => (idx l_425 y_349.1).bind fun e_442 => some (.inl ((l_425.set (Int.toNat y_349.1) x_229), (IntKind.i64.wrap (x_229 + 1)), y_349.2.1, y_349.2.2.1, y_349.2.2.2))) (some (.inr (l_224, l_230, x_233, x_234)))) (([] : List Int), 0, x0_0, x0_1, x0_2)).bind fun (l_337, l_342, x_345, x_346) => some (l_337, l_342, x_345, x_346)

noncomputable def D.impl_firstOf (x0 : Int) : Option (Int) :=
  cond (decide (x0 < 0)) none (some (IntKind.u32.wrap ((ishl .u32 1 x0) - 1)))

noncomputable def D.impl_nets_all (x0 : (List Int)) : Option (Int) :=
  (D.impl_firstOf (x0.length : Int)).bind fun y_1 => some y_1

noncomputable def D.impl_elimination (x0 : (List Int)) (x1 : (List Int)) : Option (((List Int)) × ((List Int))) :=
  (((appendD ([] : List Int) x0).bind fun l_56 => (D.impl_nets_all x0).bind fun y_62 => (makeD (0 : Int) (x0.length : Int) (x0.length : Int)).bind fun l_68 => some (l_56, l_68, y_62) : Option ((List Int) × (List Int) × Int))).bind fun (l_34, l_39, x_44) => (loopF (σ := (List Int) × (List Int) × Int × Int) (ρ := ((List Int) × (List Int))) (fun (s_459 : (List Int) × (List Int) × Int × Int) => match s_459 with | (l_462, l_465, x_468, x_469) => cond (decide (x_469 < (x1.length : Int))) ((idx x1 x_469).bind fun e_665 => (D.impl_one e_665).bind fun y_671 => (idx l_462 e_665).bind fun e_678 => (idx l_465 e_665).bind fun e_684 => (idx (l_465.set (Int.toNat e_665) (iand .u32 e_678 (iandNot .u32 x_468 y_671))) e_665).bind fun e_690 => (D.impl_vset_list e_690).bind fun y_696 => (loopF (σ := (List Int) × Int) (ρ := ((List Int))) (fun (s_776 : (List Int) × Int) => match s_776 with | (l_779, x_782) => cond (decide (x_782 < (y_696.length : Int))) ((idx y_696 x_782).bind fun e_820 => (idx l_779 e_820).bind fun e_826 => (idx (l_465.set (Int.toNat e_665) (iand .u32 e_678 (iandNot .u32 x_468 y_671))) e_665).bind fun e_832 => (D.impl_one e_820).bind fun y_838 => (idx l_779 e_820).bind fun e_841 => some (.inl ((l_779.set (Int.toNat e_820) (ior .u32 e_826 (iandNot .u32 e_832 y_838))), (IntKind.i64.wrap (x_782 + 1))))) (some (.inr l_779))) (l_462, 0)).bind fun l_815 => some (.inl (l_815, (l_465.set (Int.toNat e_665) (iand .u32 e_678 (iandNot .u32 x_468 y_671))), (iandNot .u32 x_468 y_671), (IntKind.i64.wrap (x_469 + 1))))) (some (.inr (l_462, l_465)))) (l_34, l_39, x_44, 0)).bind fun (l_657, l_660) => some (l_657, l_660)

noncomputable def D.impl_nets_graph (x0 : (List Int)) : Option (((List (List Int)))) :=
  (loopF (σ := Int × (List (List Int))) (ρ := ((List (List Int)))) (fun (s_98 : Int × (List (List Int))) => match s_98 with | (x_104, l_105) => cond (decide (x_104 < (x0.length : Int))) ((idx x0 x_104).bind fun e_158 => (D.impl_vset_numbers e_158).bind fun y_167 => (appendD l_105 ([y_167] : List (List Int))).bind fun l_190 => some (.inl ((IntKind.i64.wrap (x_104 + 1)), l_190))) (some (.inr l_105))) (0, ([] : List (List Int)))).bind fun l_151 => some l_151

noncomputable def D.impl_FillOf (x0_0 : (List (List Int))) (x1 : (List Int)) : Option (((List (List Int))) × Bool) :=
  (D.impl_OrderOk x0_0 x1).bind fun y_5 => cond (!y_5) (some (([] : List (List Int)), false)) ((D.impl_netsOf x0_0).bind fun y_18 => (D.impl_narrow x1).bind fun y_29 => (D.impl_elimination y_18 y_29).bind fun y_40 => (D.impl_nets_graph y_40.1).bind fun y_64 => some (y_64, true))

noncomputable def D.impl_edgesOf (x0_0 : (List (List Int))) : Option (((List (List Int)))) :=
  (loopF (σ := (List (List Int)) × Int) (ρ := ((List (List Int)))) (fun (s_288 : (List (List Int)) × Int) => match s_288 with | (l_291, x_296) => cond (decide (x_296 < (x0_0.length : Int))) ((idx x0_0 x_296).bind fun e_441 => (loopF (σ := (List (List Int)) × Int) (ρ := ((List (List Int)))) (fun (s_508 : (List (List Int)) × Int) => match s_508 with | (l_511, x_516) => cond (decide (x_516 < (e_441.length : Int))) ((idx e_441 x_516).bind fun e_551 => cond (decide (x_296 < e_551)) ((appendD l_511 ([([x_296, e_551] : List Int)] : List (List Int))).bind fun l_569 => some (.inl (l_569, (IntKind.i64.wrap (x_516 + 1))))) (some (.inl (l_511, (IntKind.i64.wrap (x_516 + 1)))))) (some (.inr l_511))) (l_291, 0)).bind fun l_544 => some (.inl (l_544, (IntKind.i64.wrap (x_296 + 1))))) (some (.inr l_291))) (([] : List (List Int)), 0)).bind fun l_434 => some l_434

noncomputable def D.impl_EdgesOf (x0_0 : (List (List Int))) : Option (((List (List Int)))) :=
  (D.impl_GraphOk x0_0).bind fun y_3 => cond (!y_3) (some ([] : List (List Int))) ((D.impl_edgesOf x0_0).bind fun y_14 => some y_14)

noncomputable def D.impl_ManyEdges (x0_0 : (List (List Int))) : Option (Int) :=
  (D.impl_EdgesOf x0_0).bind fun y_3 => some (y_3.length : Int)

noncomputable def D.impl_FillMany (x0_0 : (List (List Int))) (x1 : (List Int)) : Option (Int) :=
  (D.impl_FillOf x0_0 x1).bind fun y_3 => cond (!y_3.2) (some (-1)) ((D.impl_ManyEdges y_3.1).bind fun y_17 => (D.impl_ManyEdges x0_0).bind fun y_23 => some (IntKind.i64.wrap (y_17 - y_23)))

noncomputable def D.spec_l7Left (x0_0 : (List (List Int))) (x1 : Int) (x2 : (List Bool)) : Option (((List Int))) :=
  (loopF (σ := (List Int) × Int) (ρ := ((List Int))) (fun (s_114 : (List Int) × Int) => match s_114 with | (l_117, x_122) => (idx x0_0 x1).bind fun e_179 => cond (decide (x_122 < (e_179.length : Int))) ((idx x0_0 x1).bind fun e_186 => (idx e_186 x_122).bind fun e_192 => (idx x2 e_192).bind fun e_198 => cond (!e_198) ((idx x0_0 x1).bind fun e_205 => (idx e_205 x_122).bind fun e_211 => (appendD l_117 ([e_211] : List Int)).bind fun l_221 => some (.inl (l_221, (IntKind.i64.wrap (x_122 + 1))))) (some (.inl (l_117, (IntKind.i64.wrap (x_122 + 1)))))) (some (.inr l_117))) (([] : List Int), 0)).bind fun l_173 => some l_173

noncomputable def D.spec_l1Edge (x0_0 : (List (List Int))) (x1 : Int) (x2 : Int) : Option (Bool) :=
  (idx x0_0 x1).bind fun e_3 => (D.spec_l1Has e_3 x2).bind fun y_9 => some y_9

noncomputable def D.spec_l7Missing (x0_0 : (List (List Int))) (x1 : (List Int)) : Option (Int) :=
  (loopF (σ := Int × Int) (ρ := (Int)) (fun (s_196 : Int × Int) => match s_196 with | (x_199, x_200) => cond (decide (x_200 < (x1.length : Int))) ((loopF (σ := Int × Int) (ρ := (Int)) (fun (s_344 : Int × Int) => match s_344 with | (x_347, x_348) => cond (decide (x_348 < x_200)) ((idx x1 x_348).bind fun e_373 => (idx x1 x_200).bind fun e_379 => (D.spec_l1Edge x0_0 e_373 e_379).bind fun y_385 => cond (!y_385) (some (.inl ((IntKind.i64.wrap (x_347 + 1)), (IntKind.i64.wrap (x_348 + 1))))) (some (.inl (x_347, (IntKind.i64.wrap (x_348 + 1)))))) (some (.inr x_347))) (x_199, 0)).bind fun x_370 => some (.inl (x_370, (IntKind.i64.wrap (x_200 + 1))))) (some (.inr x_199))) (0, 0)).bind fun x_296 => some x_296

noncomputable def D.spec_ManyEdges (x0_0 : (List (List Int))) : Option (Int) :=
  (D.spec_GraphOk x0_0).bind fun y_3 => cond (!y_3) (some 0) ((D.spec_l1Edges x0_0).bind fun y_11 => some (y_11.length : Int))

noncomputable def D.math_bits_OnesCount32 (x0 : Int) : Option (Int) :=
  (strAt popTab (ishr .u32 x0 24)).bind fun e_2 => (strAt popTab (iand .u32 (ishr .u32 x0 16) 255)).bind fun e_5 => (strAt popTab (iand .u32 (ishr .u32 x0 8) 255)).bind fun e_8 => (strAt popTab (iand .u32 x0 255)).bind fun e_10 => some (IntKind.i64.wrap (IntKind.u8.wrap ((IntKind.u8.wrap ((IntKind.u8.wrap (e_2 + e_5)) + e_8)) + e_10)))

noncomputable def D.impl_vset_size (x0 : Int) : Option (Int) :=
  (D.math_bits_OnesCount32 x0).bind fun y_1 => some y_1

noncomputable def D.impl_widthOf (x0 : (List Int)) (x1 : (List Int)) : Option (Int) :=
  (D.impl_elimination x0 x1).bind fun y_1 => (loopF (σ := Int × Int) (ρ := (Int)) (fun (s_51 : Int × Int) => match s_51 with | (x_54, x_55) => cond (decide (x_55 < (y_1.2.length : Int))) ((idx y_1.2 x_55).bind fun e_75 => (D.impl_vset_size e_75).bind fun y_81 => some (.inl ((if x_54 < y_81 then y_81 else x_54), (IntKind.i64.wrap (x_55 + 1))))) (some (.inr x_54))) (0, 0)).bind fun x_72 => some x_72

noncomputable def D.impl_OrderWidth (x0_0 : (List (List Int))) (x1 : (List Int)) : Option (Int) :=
  (D.impl_OrderOk x0_0 x1).bind fun y_3 => cond (!y_3) (some (-1)) ((D.impl_netsOf x0_0).bind fun y_11 => (D.impl_narrow x1).bind fun y_22 => (D.impl_widthOf y_11 y_22).bind fun y_33 => some y_33)

noncomputable def D.spec_l1Max (x0 : Int) (x1 : Int) : Option (Int) :=
  cond (decide (x1 < x0)) (some x0) (some x1)

end Go.Sx

namespace Go.Sx


end Go.Sx

namespace Go.Sx


end Go.Sx

namespace Go.Sx


end Go.Sx

namespace Go.Sx


end Go.Sx

namespace Go.Sx

end Go.Sx

namespace Go.Sx

noncomputable def D.impl_DegeneracyOf (x0_0 : (List (List Int))) : Option (Int) :=
  (D.impl_GraphOk x0_0).bind fun y_3 => cond (!y_3) (some (-1)) ((D.impl_netsOf x0_0).bind fun y_11 => (D.impl_nets_all y_11).bind fun y_22 => (loopF (σ := Int × Int) (ρ := (Int)) (fun (s_373 : Int × Int) => match s_373 with | (x_376, x_377) => cond (x_377 != 0) ((D.impl_vset_least x_377).bind fun y_550 => (D.impl_vset_list x_377).bind fun y_557 => (loopF (σ := Int × Int) (ρ := (Int)) (fun (s_631 : Int × Int) => match s_631 with | (x_634, x_635) => cond (decide (x_635 < (y_557.length : Int))) ((idx y_557 x_635).bind fun e_669 => (idx y_11 e_669).bind fun e_675 => (D.impl_vset_size (iand .u32 e_675 x_377)).bind fun y_681 => (idx y_11 x_634).bind fun e_684 => (D.impl_vset_size (iand .u32 e_684 x_377)).bind fun y_690 => cond (decide (y_681 < y_690)) (some (.inl (e_669, (IntKind.i64.wrap (x_635 + 1))))) (some (.inl (x_634, (IntKind.i64.wrap (x_635 + 1)))))) (some (.inr x_634))) (y_550, 0)).bind fun x_666 => (idx y_11 x_666).bind fun e_696 => (D.impl_vset_size (iand .u32 e_696 x_377)).bind fun y_702 => (D.impl_one x_666).bind fun y_709 => some (.inl ((if x_376 < y_702 then y_702 else x_376), (iandNot .u32 x_377 y_709)))) (some (.inr x_376))) (0, y_22)).bind fun x_547 => some x_547)

noncomputable def D.impl_eliminate (x0 : (List Int)) (x1 : Int) (x2 : Int) : Option (((List Int))) :=
  (idx x0 x2).bind fun e_1 => (D.impl_one x2).bind fun y_7 => (D.impl_vset_list (iandNot .u32 (iand .u32 e_1 x1) y_7)).bind fun y_12 => (loopF (σ := (List Int) × Int) (ρ := ((List Int))) (fun (s_80 : (List Int) × Int) => match s_80 with | (l_83, x_86) => cond (decide (x_86 < (y_12.length : Int))) ((idx y_12 x_86).bind fun e_118 => (idx l_83 e_118).bind fun e_124 => (D.impl_one e_118).bind fun y_130 => (idx l_83 e_118).bind fun e_133 => some (.inl ((l_83.set (Int.toNat e_118) (ior .u32 e_124 (iandNot .u32 (iandNot .u32 (iand .u32 e_1 x1) y_7) y_130))), (IntKind.i64.wrap (x_86 + 1))))) (some (.inr l_83))) (x0, 0)).bind fun l_113 => some l_113

noncomputable def D.impl_ByDegree_1 (x0 : (List Int)) (x1 : Int) : Option (Int) :=
  (D.impl_vset_size x1).bind fun y_1 => some y_1

noncomputable def D.impl_orderBy__impl_ByDegree_1 (x0 : (List Int)) : Option (((List Int))) :=
  (appendD ([] : List Int) x0).bind fun l_5 => (D.impl_nets_all l_5).bind fun y_15 => (loopF (σ := (List Int) × (List Int) × Int) (ρ := ((List Int))) (fun (s_367 : (List Int) × (List Int) × Int) => match s_367 with | (l_370, l_373, x_378) => cond (x_378 != 0) ((D.impl_vset_list x_378).bind fun y_552 => (loopF (σ := Int × Int × Int) (ρ := (Int)) (fun (s_625 : Int × Int × Int) => match s_625 with | (x_628, x_629, x_630) => cond (decide (x_630 < (y_552.length : Int))) ((idx y_552 x_630).bind fun e_663 => (idx l_370 e_663).bind fun e_669 => (D.impl_ByDegree_1 l_370 (iand .u32 e_669 x_378)).bind fun y_675 => cond ((decide (x_628 < 0)) || (decide (y_675 < x_629))) (some (.inl (e_663, y_675, (IntKind.i64.wrap (x_630 + 1))))) (some (.inl (x_628, x_629, (IntKind.i64.wrap (x_630 + 1)))))) (some (.inr x_628))) ((-1), 0, 0)).bind fun x_660 => (D.impl_eliminate l_370 x_378 x_660).bind fun y_689 => (D.impl_one x_660).bind fun y_698 => (appendD l_373 ([x_660] : List Int)).bind fun l_709 => some (.inl (y_689, l_709, (iandNot .u32 x_378 y_698)))) (some (.inr l_373))) (l_5, ([] : List Int), y_15)).bind fun l_545 => some l_545

noncomputable def D.impl_ByDegree (x0_0 : (List (List Int))) : Option (((List Int))) :=
  (D.impl_GraphOk x0_0).bind fun y_3 => cond (!y_3) (some ([] : List Int)) ((D.impl_netsOf x0_0).bind fun y_14 => (D.impl_orderBy__impl_ByDegree_1 y_14).bind fun y_25 => (D.impl_wide y_25).bind fun y_39 => some y_39)

noncomputable def D.impl_missing (x0 : (List Int)) (x1 : Int) : Option (Int) :=
  (D.impl_vset_list x1).bind fun y_1 => (loopF (σ := Int × Int) (ρ := (Int)) (fun (s_61 : Int × Int) => match s_61 with | (x_64, x_65) => cond (decide (x_65 < (y_1.length : Int))) ((idx y_1 x_65).bind fun e_92 => (idx x0 e_92).bind fun e_98 => (D.impl_one e_92).bind fun y_104 => (D.impl_vset_size (iandNot .u32 (iandNot .u32 x1 e_98) y_104)).bind fun y_107 => some (.inl ((IntKind.i64.wrap (x_64 + y_107)), (IntKind.i64.wrap (x_65 + 1))))) (some (.inr x_64))) (0, 0)).bind fun x_89 => some (IntKind.i64.wrap (Int.tdiv x_89 2))

noncomputable def D.impl_orderBy__impl_missing (x0 : (List Int)) : Option (((List Int))) :=
  (appendD ([] : List Int) x0).bind fun l_5 => (D.impl_nets_all l_5).bind fun y_15 => (loopF (σ := (List Int) × (List Int) × Int) (ρ := ((List Int))) (fun (s_367 : (List Int) × (List Int) × Int) => match s_367 with | (l_370, l_373, x_378) => cond (x_378 != 0) ((D.impl_vset_list x_378).bind fun y_552 => (loopF (σ := Int × Int × Int) (ρ := (Int)) (fun (s_625 : Int × Int × Int) => match s_625 with | (x_628, x_629, x_630) => cond (decide (x_630 < (y_552.length : Int))) ((idx y_552 x_630).bind fun e_663 => (idx l_370 e_663).bind fun e_669 => (D.impl_missing l_370 (iand .u32 e_669 x_378)).bind fun y_675 => cond ((decide (x_628 < 0)) || (decide (y_675 < x_629))) (some (.inl (e_663, y_675, (IntKind.i64.wrap (x_630 + 1))))) (some (.inl (x_628, x_629, (IntKind.i64.wrap (x_630 + 1)))))) (some (.inr x_628))) ((-1), 0, 0)).bind fun x_660 => (D.impl_eliminate l_370 x_378 x_660).bind fun y_689 => (D.impl_one x_660).bind fun y_698 => (appendD l_373 ([x_660] : List Int)).bind fun l_709 => some (.inl (y_689, l_709, (iandNot .u32 x_378 y_698)))) (some (.inr l_373))) (l_5, ([] : List Int), y_15)).bind fun l_545 => some l_545

noncomputable def D.impl_ByFill (x0_0 : (List (List Int))) : Option (((List Int))) :=
  (D.impl_GraphOk x0_0).bind fun y_3 => cond (!y_3) (some ([] : List Int)) ((D.impl_netsOf x0_0).bind fun y_14 => (D.impl_orderBy__impl_missing y_14).bind fun y_25 => (D.impl_wide y_25).bind fun y_39 => some y_39)

noncomputable def D.spec_DegeneracyOf (x0_0 : (List (List Int))) : Option (Int) :=
  (D.spec_GraphOk x0_0).bind fun y_3 => cond (!y_3) (some (-1)) ((D.spec_l1Size x0_0).bind fun y_11 => (makeD (false : Bool) y_11 y_11).bind fun l_18 => (loopF (σ := (List Bool) × Int × Int) (ρ := (Int)) (fun (s_592 : (List Bool) × Int × Int) => match s_592 with | (l_595, x_598, x_599) => (D.spec_l1Size x0_0).bind fun y_883 => cond (decide (x_599 < y_883)) ((loopF (σ := Int × Int) (ρ := (Int)) (fun (s_1012 : Int × Int) => match s_1012 with | (x_1015, x_1016) => (D.spec_l1Size x0_0).bind fun y_1078 => cond (decide (x_1016 < y_1078)) ((idx l_595 x_1016).bind fun e_1086 => cond (!e_1086) (cond (decide (x_1015 < 0)) (some (.inl (x_1016, (IntKind.i64.wrap (x_1016 + 1))))) ((D.spec_l7Left x0_0 x_1016 l_595).bind fun y_1097 => (D.spec_l7Left x0_0 x_1015 l_595).bind fun y_1114 => cond (decide ((y_1097.length : Int) < (y_1114.length : Int))) (some (.inl (x_1016, (IntKind.i64.wrap (x_1016 + 1))))) (some (.inl (x_1015, (IntKind.i64.wrap (x_1016 + 1))))))) (some (.inl (x_1015, (IntKind.i64.wrap (x_1016 + 1)))))) (some (.inr x_1015))) ((-1), 0)).bind fun x_1076 => (D.spec_l7Left x0_0 x_1076 l_595).bind fun y_1135 => (D.spec_l1Max x_598 (y_1135.length : Int)).bind fun y_1149 => (idx l_595 x_1076).bind fun e_1156 => some (.inl ((l_595.set (Int.toNat x_1076) true), y_1149, (IntKind.i64.wrap (x_599 + 1))))) (some (.inr x_598))) (l_18, 0, 0)).bind fun x_881 => some x_881)

noncomputable def D.spec_l1CopyGraph (x0_0 : (List (List Int))) : Option (((List (List Int)))) :=
  (loopF (σ := Int × (List (List Int))) (ρ := ((List (List Int)))) (fun (s_100 : Int × (List (List Int))) => match s_100 with | (x_106, l_107) => cond (decide (x_106 < (x0_0.length : Int))) ((idx x0_0 x_106).bind fun e_160 => (D.spec_l1Copy e_160).bind fun y_169 => (appendD l_107 ([y_169] : List (List Int))).bind fun l_192 => some (.inl ((IntKind.i64.wrap (x_106 + 1)), l_192))) (some (.inr l_107))) (0, ([] : List (List Int)))).bind fun l_153 => some l_153

noncomputable def D.spec_l7Clique (x0_0 : (List (List Int))) (x1 : (List Int)) : Option (((List (List Int)))) :=
  (loopF (σ := (List (List Int)) × Int) (ρ := ((List (List Int)))) (fun (s_252 : (List (List Int)) × Int) => match s_252 with | (l_255, x_258) => cond (decide (x_258 < (x1.length : Int))) ((loopF (σ := (List (List Int)) × Int) (ρ := ((List (List Int)))) (fun (s_442 : (List (List Int)) × Int) => match s_442 with | (l_445, x_448) => cond (decide (x_448 < x_258)) ((idx x1 x_448).bind fun e_480 => (idx x1 x_258).bind fun e_486 => (D.spec_l1Link l_445 e_480 e_486).bind fun y_494 => some (.inl (y_494, (IntKind.i64.wrap (x_448 + 1))))) (some (.inr l_445))) (l_255, 0)).bind fun l_475 => some (.inl (l_475, (IntKind.i64.wrap (x_258 + 1))))) (some (.inr l_255))) (x0_0, 0)).bind fun l_380 => some l_380

noncomputable def D.spec_l7Greedy (x0_0 : (List (List Int))) (x1 : Bool) : Option (((List Int))) :=
  (D.spec_l1CopyGraph x0_0).bind fun y_3 => (D.spec_l1Size x0_0).bind fun y_16 => (makeD (false : Bool) y_16 y_16).bind fun l_23 => (loopF (σ := (List Bool) × (List Int) × (List (List Int))) (ρ := ((List Int))) (fun (s_633 : (List Bool) × (List Int) × (List (List Int))) => match s_633 with | (l_636, l_639, l_644) => (D.spec_l1Size x0_0).bind fun y_947 => cond (decide ((l_639.length : Int) < y_947)) ((loopF (σ := Int × Int × Int) (ρ := (Int)) (fun (s_1071 : Int × Int × Int) => match s_1071 with | (x_1074, x_1075, x_1076) => (D.spec_l1Size x0_0).bind fun y_1135 => cond (decide (x_1076 < y_1135)) ((idx l_636 x_1076).bind fun e_1143 => cond e_1143 (some (.inl (x_1074, x_1075, (IntKind.i64.wrap (x_1076 + 1))))) ((D.spec_l7Left l_644 x_1076 l_636).bind fun y_1150 => cond x1 ((D.spec_l7Missing l_644 y_1150).bind fun y_1168 => cond ((decide (x_1074 < 0)) || (decide (y_1168 < x_1075))) (some (.inl (x_1076, y_1168, (IntKind.i64.wrap (x_1076 + 1))))) (some (.inl (x_1074, x_1075, (IntKind.i64.wrap (x_1076 + 1)))))) (cond ((decide (x_1074 < 0)) || (decide ((y_1150.length : Int) < x_1075))) (some (.inl (x_1076, (y_1150.length : Int), (IntKind.i64.wrap (x_1076 + 1))))) (some (.inl (x_1074, x_1075, (IntKind.i64.wrap (x_1076 + 1)))))))) (some (.inr x_1074))) ((-1), 0, 0)).bind fun x_1133 => (idx l_636 x_1133).bind fun e_1189 => (D.spec_l7Left l_644 x_1133 (l_636.set (Int.toNat x_1133) true)).bind fun y_1198 => (D.spec_l7Clique l_644 y_1198).bind fun y_1220 => (appendD l_639 ([x_1133] : List Int)).bind fun l_1233 => some (.inl ((l_636.set (Int.toNat x_1133) true), l_1233, y_1220))) (some (.inr l_639))) (l_23, ([] : List Int), y_3)).bind fun l_941 => some l_941

noncomputable def D.spec_ByDegree (x0_0 : (List (List Int))) : Option (((List Int))) :=
  (D.spec_GraphOk x0_0).bind fun y_3 => cond (!y_3) (some ([] : List Int)) ((D.spec_l7Greedy x0_0 false).bind fun y_15 => some y_15)

noncomputable def D.laws_likeInts (x0 : (List Int)) (x1 : (List Int)) : Option (Bool) :=
  cond ((x0.length : Int) != (x1.length : Int)) (some false) ((loopF (σ := Int) (ρ := (Unit) ⊕ (Bool)) (fun (x_43 : Int) => cond (decide (x_43 < (x0.length : Int))) ((idx x0 x_43).bind fun e_64 => (idx x1 x_43).bind fun e_70 => cond (e_64 != e_70) (some (.inr (.inr false))) (some (.inl (IntKind.i64.wrap (x_43 + 1))))) (some (.inr (.inl ())))) 0).bind fun zz => match zz with | .inl _ => (some true) | .inr z => (some z))

noncomputable def D.spec_ByFill (x0_0 : (List (List Int))) : Option (((List Int))) :=
  (D.spec_GraphOk x0_0).bind fun y_3 => cond (!y_3) (some ([] : List Int)) ((D.spec_l7Greedy x0_0 true).bind fun y_15 => some y_15)

noncomputable def D.impl_LaterOf (x0_0 : (List (List Int))) (x1 : (List Int)) : Option (((List (List Int)))) :=
  (D.impl_OrderOk x0_0 x1).bind fun y_3 => cond (!y_3) (some ([] : List (List Int))) ((D.impl_netsOf x0_0).bind fun y_14 => (D.impl_narrow x1).bind fun y_25 => (D.impl_elimination y_14 y_25).bind fun y_36 => (D.impl_results y_36.2).bind fun y_57 => some y_57)

noncomputable def D.laws_FnOrders (x0 : (List Int)) : Option (Bool) :=
  (D.laws_big x0).bind fun y_1 => cond y_1 (some true) ((D.laws_roll x0 807).bind fun y_9 => (D.laws_w5Graph y_9.1 y_9.2.1 y_9.2.2 8).bind fun y_20 => (D.laws_w5Order y_20.2.1 y_20.2.2.1 y_20.2.2.2 (y_20.1.length : Int)).bind fun y_35 => (D.impl_DegeneracyOf y_20.1).bind fun y_48 => (D.impl_ByDegree y_20.1).bind fun y_58 => (D.impl_ByFill y_20.1).bind fun y_72 => (D.spec_DegeneracyOf y_20.1).bind fun y_86 => (cond (y_48 != y_86) (some true) ((D.spec_OrderOk y_20.1 y_58).bind fun y_127 => some (!y_127))).bind fun b_125 => (cond b_125 (some true) ((D.spec_OrderOk y_20.1 y_72).bind fun y_171 => some (!y_171))).bind fun b_169 => (cond b_169 (some true) ((D.spec_ByDegree y_20.1).bind fun y_243 => (D.laws_likeInts y_58 y_243).bind fun y_257 => some (!y_257))).bind fun b_241 => (cond b_241 (some true) ((D.spec_ByFill y_20.1).bind fun y_329 => (D.laws_likeInts y_72 y_329).bind fun y_343 => some (!y_343))).bind fun b_327 => cond b_327 (some false) ((D.impl_LaterOf y_20.1 y_35.1).bind fun y_357 => cond ((y_357.length : Int) != (y_20.1.length : Int)) (some false) ((loopF (σ := (List (List Int)) × Int × Int) (ρ := (Int)) (fun (s_402 : (List (List Int)) × Int × Int) => match s_402 with | (l_408, x_411, x_412) => cond (decide (x_412 < (l_408.length : Int))) ((idx l_408 x_412).bind fun e_425 => some (.inl (l_408, (IntKind.i64.wrap (x_411 + (e_425.length : Int))), (IntKind.i64.wrap (x_412 + 1))))) (some (.inr x_411))) (y_357, 0, 0)).bind fun x_422 => (D.impl_OrderWidth y_20.1 y_35.1).bind fun y_431 => (cond (decide (y_48 ≤ y_431)) ((D.impl_OrderWidth y_20.1 y_58).bind fun y_453 => some (decide (y_48 ≤ y_453))) (some false)).bind fun b_451 => (cond b_451 ((D.impl_OrderWidth y_20.1 y_72).bind fun y_475 => some (decide (y_48 ≤ y_475))) (some false)).bind fun b_473 => (cond b_473 ((D.spec_ManyEdges y_20.1).bind fun y_503 => (D.impl_FillMany y_20.1 y_35.1).bind fun y_509 => some (x_422 == (IntKind.i64.wrap (y_503 + y_509)))) (some false)).bind fun b_501 => some b_501)))
end Go.Sx

namespace Go.Proofs
open Go.Shelf
def Tryd.lays125_ren : Go.Shelf.Ren := ⟨fun | 125 => 129 | 128 => 141 | 129 => 142 | n => n, fun | 46 => 111 | 3 => 3 | 51 => 65 | 53 => 26 | 4 => 4 | 5 => 5 | 9 => 9 | n => n, fun | n => n⟩
theorem Tryd.lays125 : Go.Proofs.Lays.n125 Tryd.prog Tryd.lays125_ren := {
  mixed := by kernel_rfl
  f125 := Tryd.func129.trans (congrArg some (by kernel_rfl))
  f128 := Tryd.func141.trans (congrArg some (by kernel_rfl))
  f129 := Tryd.func142.trans (congrArg some (by kernel_rfl))
  t3 := Tryd.underlying3
  a3 := Tryd.isAgg3
  z3 := Tryd.sizeOf3
  v3 := Tryd.zeroValue3
  t4 := Tryd.underlying4
  a4 := Tryd.isAgg4
  z4 := Tryd.sizeOf4
  v4 := Tryd.zeroValue4
  t5 := Tryd.underlying5
  a5 := Tryd.isAgg5
  z5 := Tryd.sizeOf5
  v5 := Tryd.zeroValue5
  t9 := Tryd.underlying9
  a9 := Tryd.isAgg9
  z9 := Tryd.sizeOf9
  v9 := Tryd.zeroValue9
  t46 := Tryd.underlying111
  a46 := Tryd.isAgg111
  z46 := Tryd.sizeOf111
  v46 := Tryd.zeroValue111
  t51 := Tryd.underlying65
  a51 := Tryd.isAgg65
  z51 := Tryd.sizeOf65
  v51 := Tryd.zeroValue65
  t53 := Tryd.underlying26
  a53 := Tryd.isAgg26
  z53 := Tryd.sizeOf26
  v53 := Tryd.zeroValue26 }
theorem Tryd.bits_Len (x : Int) (w : World) (h0 : 0 ≤ x) (h1 : x ≤ 18446744073709551615) :
    Calls Tryd.prog 129 #[.int .u64 x] w fun e w' => e = .returned (.int .i64 (Lib.bitLen x.toNat)) ∧ w' = w := Any.bits_Len Tryd.lays125 x w h0 h1
end Go.Proofs
namespace Go.Proofs.YtehnblgkgaakeaaDoor
open Go Go.Sx
theorem Wk.math_bits_Len {W w : World} {G : GH} {H : List Itm} {x0 : Int} (m : Mem W G w H) {y : Int} (hd : D.math_bits_Len x0 = some y) :
    Calls Tryd.prog 129 #[(.int .u64 x0)] w (Res W G H (fun _ Ho v => Ho = [] ∧ v = (.int .i64 y))) := by
  unfold D.math_bits_Len at hd
  split at hd
  · rename_i h
    obtain rfl := Option.some.inj hd
    exact (Tryd.bits_Len x0 w h.1 h.2).mono (fun e w' ⟨he, hw⟩ => by subst hw; exact ⟨_, he, G, [], GLe.refl G, m, rfl, rfl⟩)
  · cases hd
end Go.Proofs.YtehnblgkgaakeaaDoor

namespace Go.Proofs
open Go.RowKit Go.Shelf
attribute [local go_sem] Oper.semAt_some
namespace YtehnblgkgaakeaaDoor

def upto {α : Type} (f : Nat → α) (k : Nat) : List α := (List.range k).map f
theorem upto_succ {α : Type} (f : Nat → α) (k : Nat) : upto f (k + 1) = upto f k ++ [f k] := by simp [upto, List.range_succ]
theorem upto_length {α : Type} (f : Nat → α) (k : Nat) : (upto f k).length = k := by simp [upto]
theorem upto_all (zs : List Int) : upto (fun j => zs[j]?.getD 0) zs.length = zs := by
  apply List.ext_getElem
  · simp [upto]
  · intro i h1 h2
    simp [upto, h2]
theorem upto_take (zs : List Int) {k : Nat} (hk : k ≤ zs.length) : upto (fun j => zs[j]?.getD 0) k = zs.take k := by
  apply List.ext_getElem
  · simp [upto, hk]
  · intro i h1 h2
    have : i < zs.length := by simp [upto] at h1; omega
    simp [upto, this]

set_option maxRecDepth 100000 in
set_option maxHeartbeats 2000000 in
theorem values1_in (F : Fence) (n : Nat) (h7 : F.fn 112) (hro : F.round = none) (hn : 1 ≤ n) (l Bs n₀ b off len cap : Nat) (zs : List Int) (hreach : len * 8 ≤ 140737488351232) (hb : len = 0 ∨ b < n₀) (J Jx : List Int → World → Prop)
    (hY : ∀ pre x W, J pre W → pre.length < len → YieldAt F (n - 1) Tryd.prog l #[.int .i64 x] W fun e W' =>
      (e = .returned (.bool true) ∧ J (pre ++ [x]) W' ∧ Below n₀ W W') ∨ (e = .returned (.bool false) ∧ Jx (pre ++ [x]) W'))
    (W : World) (hBs : W.cell? ⟨Bs, 0, none⟩ = some (.slice (some ⟨b, off, none⟩) len cap)) (hc : ∀ j, j < len → W.cell? ⟨b, off + j, none⟩ = some (.int .i64 (zs[j]?.getD 0))) (h0 : J [] W) :
    CallsIn F n Tryd.prog 112 #[.func (.yield l) #[] #[], .pointer (some ⟨Bs, 0, none⟩)] W fun e W' => (∃ v, e = .returned v) ∧
      ((∃ ys, ys = upto (fun j => zs[j]?.getD 0) len ∧ J ys W') ∨ (∃ pre, (∃ k, k ≤ len ∧ pre = upto (fun j => zs[j]?.getD 0) k) ∧ Jx pre W')) := by
  refine callsIn_of_wp Tryd.func112 rfl h7 ?_ hro
  simp only [Tryd.ntmps112, List.size_toArray, List.length_cons, List.length_nil, Nat.reduceAdd, Nat.reduceSub, Array.replicate_succ, Array.replicate_zero, List.push_toArray, List.append_toArray, List.nil_append, List.cons_append]
  gi_wp2
  gi_loopw [7] (fun i wr => ∃ k : Nat, k ≤ len ∧ i = .int .i64 k ∧ J (upto (fun j => zs[j]?.getD 0) k) wr ∧ Below n₀ W wr)
    (fun i _ => len - (intOf i).toNat)
  case atStart => exact ⟨0, Nat.zero_le _, rfl, h0, Below.refl _ _⟩
  case round =>
    obtain ⟨k, hk, rfl, hJs, hnx⟩ := hrel
    have hcx : k < len → wr.cell? ⟨b, off + k, none⟩ = some (.int .i64 (zs[k]?.getD 0)) := fun h => (hnx.cell (p := ⟨b, off + k, none⟩) (hb.resolve_left (by omega))).trans (hc k h)
    by_cases hlt : k < len
    · obtain ⟨fn, tmps, assign, body, hy, hR⟩ := hY _ (zs[k]?.getD 0) wr hJs (by rw [upto_length]; exact hlt)
      have hcx' := hcx hlt
      gi_wp2
      refine hR.mono ?_
      rintro e W3 (⟨rfl, hJ3, hk3⟩ | ⟨rfl, hJx3⟩)
      · gi_wp2
        go_roundw
        case rel => exact ⟨k + 1, by omega, by simp, by rw [upto_succ]; exact hJ3, hnx.trans hk3⟩
        case measure => simp [intOf]; omega
      · gi_wp2
        refine bodyPost_ret (results_none rfl _ _ _) rfl ?_
        exact ⟨⟨_, rfl⟩, .inr ⟨_, ⟨k + 1, by omega, (upto_succ _ _).symm⟩, hJx3⟩⟩
    · obtain rfl : k = len := by omega
      gi_wp2
      go_end0
      exact ⟨⟨_, rfl⟩, .inl ⟨_, rfl, hJs⟩⟩

def Ints (n₀ : Nat) (W : World) (sv : Value) (zs : List Int) : Prop :=
  ((∃ a c, sv = .slice a 0 c) ∧ zs = []) ∨ ∃ b off cap, sv = .slice (some ⟨b, off, none⟩) zs.length cap ∧ (zs.length = 0 ∨ b < n₀) ∧ ∀ j, j < zs.length → W.cell? ⟨b, off + j, none⟩ = some (.int .i64 (zs[j]?.getD 0))
theorem Ints.below {n₀ : Nat} {A B : World} (h : Below n₀ A B) {sv : Value} {zs : List Int} : Ints n₀ A sv zs → Ints n₀ B sv zs
  | .inl e => .inl e
  | .inr ⟨b, off, cap, e, hb, hc⟩ => .inr ⟨b, off, cap, e, hb, fun j hj => (h.cell (p := ⟨b, off + j, none⟩) (hb.resolve_left (by omega))).trans (hc j hj)⟩

set_option maxRecDepth 100000 in
set_option maxHeartbeats 1000000 in
theorem values1_nil_in (F : Fence) (n : Nat) (h7 : F.fn 112) (hro : F.round = none) (l Bs : Nat) (J : List Int → World → Prop) (W : World) (a : Option Addr) (c : Nat) (hBs : W.cell? ⟨Bs, 0, none⟩ = some (.slice a 0 c)) (h0 : J [] W) :
    CallsIn F n Tryd.prog 112 #[.func (.yield l) #[] #[], .pointer (some ⟨Bs, 0, none⟩)] W fun e W' => (∃ v, e = .returned v) ∧ J [] W' := by
  refine callsIn_of_wp Tryd.func112 rfl h7 ?_ hro
  simp only [Tryd.ntmps112, List.size_toArray, List.length_cons, List.length_nil, Nat.reduceAdd, Nat.reduceSub, Array.replicate_succ, Array.replicate_zero, List.push_toArray, List.append_toArray, List.nil_append, List.cons_append]
  gi_wp2
  gi_loopw [7] (fun i wr => i = .int .i64 0 ∧ J [] wr) (fun _ _ => 0)
  case atStart => exact ⟨rfl, h0⟩
  case round =>
    obtain ⟨rfl, hJs⟩ := hrel
    gi_wp2
    go_end0
    exact ⟨⟨_, rfl⟩, hJs⟩

theorem values_stops (F : Fence) (n : Nat) (h7 : F.fn 112) (hro : F.round = none) (hn : 1 ≤ n) (Bs n₀ : Nat) (sv : Value) (zs : List Int) (hreach : zs.length * 8 ≤ 140737488351232) (w : World) (hBs : Bs < w.heap.size) (hn₀ : n₀ ≤ w.heap.size)
    (hc : w.cell? ⟨Bs, 0, none⟩ = some sv) (hI : Ints n₀ w sv zs) :
    SeqStopsK F n Tryd.prog 112 #[.pointer (some ⟨Bs, 0, none⟩)] (fun x : Int => #[Value.int .i64 x]) (Below n₀) (fun ys => ys = zs) (fun pre => pre <+: zs) zs.length w := fun l J Jx W hW _ _ hY h0 => by
  have hc' := (hW.cell (p := ⟨Bs, 0, none⟩) hBs).trans hc
  rcases hI.below (hW.mono hn₀) with ⟨⟨a, c, rfl⟩, rfl⟩ | ⟨b, off, cap, rfl, hb, hcs⟩
  · exact (values1_nil_in F n h7 hro l Bs J W a c hc' h0).mono fun e W' ⟨he, hj⟩ => ⟨he, .inl ⟨_, rfl, hj⟩⟩
  · refine (values1_in F n h7 hro hn l Bs n₀ b off zs.length cap zs hreach hb J Jx hY W hc' hcs h0).mono ?_
    rintro e W' ⟨he, ⟨ys, rfl, hj⟩ | ⟨pre, ⟨k, hk, rfl⟩, hj⟩⟩
    · exact ⟨he, .inl ⟨_, upto_all zs, hj⟩⟩
    · exact ⟨he, .inr ⟨_, by rw [upto_take zs hk]; exact List.take_prefix _ _, hj⟩⟩

theorem info2 : (Tryd.prog.info? 2).map (fun i => (i.zero, i.size, i.bytes)) = some (some (.int .i64 0), 1, 8) := by kernel_rfl

set_option maxRecDepth 100000 in
set_option maxHeartbeats 4000000 in
theorem AppendSeq_in (F : Fence) (n : Nat) (h3 : F.fn 127) (h5 : F.fn 112) (hro : F.round = none) (hn : 3 ≤ n) (Bs : Nat) (sv : Value) (xs : List Int) (hlen : xs.length ≤ maxLen) (hbytes : xs.length * 8 ≤ 140737488351232) (w : World) (hBs : Bs < w.heap.size) (hc : w.cell? ⟨Bs, 0, none⟩ = some sv) (hL : Ints w.heap.size w sv xs) :
    CallsIn F n Tryd.prog 127 #[.slice none 0 0, .func (.func 112) #[] #[.pointer (some ⟨Bs, 0, none⟩)]] w fun e W' => ∃ v, e = .returned v ∧ W'.ownsRow w.heap.size 2 1 v xs.length (xs.map (Value.int .i64)) ∧ Below w.heap.size w W' := by
  have h1 : 1 ≤ n := by omega
  obtain ⟨i0, hi, hz0, hz1, hz2⟩ := info_parts info2
  refine callsIn_of_wp_marks Tryd.func127 rfl h3 ?_ hro
  simp only [Tryd.ntmps127, List.size_toArray, List.length_cons, List.length_nil, Nat.reduceAdd, Nat.reduceSub, Array.replicate_succ, Array.replicate_zero, List.push_toArray, List.append_toArray, List.nil_append, List.cons_append]
  gi_wp2
  have bO := Boxed.new w 31 (.slice none 0 0)
  have hB0 : Below w.heap.size w (w.alloc (.cells #[.slice none 0 0] 31)) := (Below.refl _ w).alloc (Nat.le_refl _) _
  refine wpIn_rangeFunc_ownG hro h1 (gf := 112) (lb := #[.pointer (some ⟨Bs, 0, none⟩)]) rfl h5 (enters_of Tryd.func112 (by kernel_rfl) rfl)
    (values_stops F (n - 1) h5 hro (by omega) Bs w.heap.size sv xs hbytes _ (by simp; omega) (by simp) ((hB0.cell (p := ⟨Bs, 0, none⟩) hBs).trans hc) (hL.below hB0)) belowK_t (belowK_b (by simp)) (Below.refl _ _) (fun _ => rfl)
    (fun pre W => (∃ v, Boxed W w.heap.size 31 v ∧ W.ownsRow w.heap.size 2 1 v pre.length (pre.map (Value.int .i64)) ∧ (v = .slice none 0 0 ↔ pre = [])) ∧ Below w.heap.size w W)
    (fun _ _ _ => False)
    (OwnFrom.and (Own.from (holdsRow_own w.heap.size w.heap.size 31 2 1 (fun pre => pre.length) (fun pre => pre.map (Value.int .i64)) (fun pre v => v = .slice none 0 0 ↔ pre = [])) _) (ownFrom_below (Nat.le_refl _) (by simp)))
    (fun _ _ _ _ _ hs _ _ => hs)
    ⟨⟨_, bO, World.ownsRow_nil _ _ _ _, by simp⟩, hB0⟩
    (fun x => { tmps := #[.slice none 0 0, .func (.func 112) #[] #[.pointer (some ⟨Bs, 0, none⟩)], .pointer (some ⟨w.heap.size, 0, none⟩), undef, .slice none 0 0, .int .i64 x, .func (.func 112) #[] #[.pointer (some ⟨Bs, 0, none⟩)], .int .i64 x, undef, undef, undef, undef, undef], defers := [] }) ?assign ?body ?done ?stop
  case assign =>
    intro l x W K hK
    gi_wp2
    exact hK
  case body =>
    rintro l pre x W ⟨⟨v, hv, hrow, hnil⟩, hB⟩ hlt
    have hc := hv.cell
    gi_wp2_with (gi_at_builtin; refine wpListIn_append_own _ rfl _ _ 31 rfl w.heap.size 2 i0 (.int .i64 0) 1 8 Tryd.underlying31 hi hz0 hz1 hz2 rfl (by decide) _ _ _ rfl (hrow.alloc _) ⟨W.heap.size, 0, none⟩ 1 1 [.int .i64 x] rfl rfl (cell_one_new _ _ _) (by simp [Value.oneCell']) (by omega) (by omega) (by have := hB.size; simp; omega) ?_; intro v' w1 hown' hgrow _; obtain ⟨g', cap', rfl⟩ := ownsRow_succ hown'; obtain ⟨hv1, hv2, hr2, hk2, hb2⟩ := hv.appended (by decide) hrow hB.size (Nat.le_refl _) hown' hgrow; have hc1 := hv1.cell; have hf1 := hv1.frozen)
    exact ⟨hk2.from _, hb2, ⟨_, hv2, by simpa using hr2, by simp⟩, hB.trans hb2⟩
  case done =>
    rintro D ys W hD rfl ⟨⟨v, hv, hrow, hnil⟩, hB⟩ hK
    have hc := hv.cell
    gi_wp2
    refine ⟨by simp, .inl ⟨_, _, rfl, run_takeDeferred hK, ?_⟩⟩
    exact ⟨_, results_tmp rfl _ _ _, v, rfl, ownsRow_putObj hrow _ hK rfl, hB.trans (belowK_b (w := w) (Nat.le_refl _) W D _ _ (by simp at hD; omega) hK rfl rfl)⟩
  case stop =>
    rintro D c pre W _ _ h _
    exact h.elim

set_option maxHeartbeats 1000000 in
theorem values_in (F : Fence) (n : Nat) (h5 : F.fn 74) (hro : F.round = none) (a : Option Addr) (len cap : Nat) (w : World) :
    CallsIn F n Tryd.prog 74 #[.slice a len cap] w fun e w' => e = .returned (.func (.func 112) #[] #[.pointer (some ⟨w.heap.size, 0, none⟩)]) ∧ w' = w.alloc (.cells #[.slice a len cap] 31) := by
  refine callsIn_of_wp Tryd.func74 rfl h5 ?_ hro
  simp only [Tryd.ntmps74, List.size_toArray, List.length_cons, List.length_nil, Nat.reduceAdd, Nat.reduceSub, Array.replicate_succ, Array.replicate_zero, List.push_toArray, List.append_toArray, List.nil_append, List.cons_append]
  gi_wp2
  go_ret
  exact ⟨rfl, rfl⟩

open Go.Sx in
theorem Wk.slices_Values_int64_int64 {W w : World} {G : GH} {H : List Itm} {v : Value} {x : List Int} (m : Mem W G w H) (h : RSl (RI .i64) G v x) :
    Calls Tryd.prog 74 #[v] w (Res W G H (fun _ Ho r => ∃ b, Ho = [Itm.box b 31 [v]] ∧ .func (.func 112) #[] #[.pointer (some ⟨b, 0, none⟩)] = r)) := by
  obtain ⟨a, c, rfl, _, _⟩ := h.len
  refine (callsIn_wide (n := 3)).1 ((values_in Fence.wide 3 trivial rfl a x.length c w).mono ?_)
  rintro e w' ⟨rfl, rfl⟩
  exact ⟨_, rfl, G, [.box w.heap.size 31 [.slice a x.length c]], GLe.refl G, m.alloc 31 [.slice a x.length c], _, rfl, rfl⟩

open Go.Sx in
theorem Wk.slices_AppendSeq_int64_int64 {W w : World} {G : GH} {H : List Itm} {b0 : Nat} {v : Value} {x y : List Int} (m : Mem W G w (Itm.box b0 31 [v] :: H)) (h : RSl (RI .i64) G v x) (hy : D.slices_AppendSeq_int64_int64 x = some y) :
    Calls Tryd.prog 127 #[.slice none 0 0, .func (.func 112) #[] #[.pointer (some ⟨b0, 0, none⟩)]] w (Res W G H (fun G' Ho r => ∃ r' it, Ho = [it] ∧ r' = r ∧ Go.Sx.Ow (RI .i64) 2 G' it r' y)) := by
  unfold D.slices_AppendSeq_int64_int64 at hy
  split at hy
  · rename_i hx
    obtain rfl := Option.some.inj hy
    have hb0 : w.heap[b0]? = some (.cells #[v] 31 (0, 0)) := m.items 0 (.box b0 31 [v]) rfl
    have hc : w.cell? ⟨b0, 0, none⟩ = some v := by simp [World.cell?, hb0]
    have hl : b0 < w.heap.size := (Array.getElem?_eq_some_iff.1 hb0).1
    have hI : Ints w.heap.size w v x := by
      obtain ⟨vs, hA, h⟩ := h
      rcases h with ⟨rfl, rfl⟩ | ⟨⟨b, off, sp⟩, cap, rfl, h1, h2, h3⟩
      · exact .inl ⟨⟨_, _, rfl⟩, rfl⟩
      · rcases Nat.eq_zero_or_pos x.length with h0 | h0
        · refine .inl ⟨⟨_, _, by rw [h0]⟩, List.eq_nil_of_length_eq_zero h0⟩
        · obtain ⟨c, hc, _⟩ := hA.get (i := 0) (x := x[0]) (by simp [h0])
          obtain ⟨rfl, cs, t, f, k1, _⟩ := h3 0 c hc
          refine .inr ⟨b, off, cap, rfl, .inr (m.glt k1), fun j hj => ?_⟩
          obtain ⟨c, hc, hR⟩ := hA.get (i := j) (x := x[j]) (by simp [hj])
          have := (h3 j c hc).2.get m
          rw [this, show c = .int .i64 x[j] from hR]
          simp [hj]
    refine (callsIn_wide (n := 3)).1 ((AppendSeq_in Fence.wide 3 trivial trivial rfl (by omega) b0 v x (by unfold maxLen; omega) (by omega) w hl hc hI).mono ?_)
    rintro e w' ⟨r, rfl, hrow, hB⟩
    refine ⟨_, rfl, G, [.row r 2 1 x.length (x.map (Value.int .i64))], GLe.refl G, ?_, r, _, rfl, rfl, x.map (Value.int .i64), rfl, by simp, fun i c z h1 h2 => ?_⟩
    · refine m.tail.add hB.os hB.tape hB.output (fun z hz => hB.block z hz) ?_ ?_
      · refine ⟨hrow.1, ?_⟩
        rcases hrow.2 with hn | ⟨g, cap, cur, e1, _, e3⟩
        · exact .inl hn
        · exact .inr ⟨g, cap, cur, e1, Nat.zero_le _, e3⟩
      · intro z hz
        rcases hrow.2 with ⟨rfl, _⟩ | ⟨g, cap, cur, rfl, e2, e3⟩
        · simp [Itm.foot, Value.ownBlock] at hz
        · simp [Itm.foot, Value.ownBlock] at hz; omega
    · rw [List.getElem?_map, h2] at h1
      exact (Option.some.inj h1).symm
  · cases hy
end YtehnblgkgaakeaaDoor
end Go.Proofs
