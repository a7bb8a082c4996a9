/- Parts of the proof: DBase, DE1, DE2, DC1, CAD, CBD, CCD, CDD, CHandA, CHandB, CAW. -/
import Derived.Test.YtocakchlhemmeaaDoorLa1
import Derived.Shelf.Small.Bits
import Derived.Test.YtocakchlhemmeaaDoorProg
import Derived.RangeFuncBox
import Derived.RangeFuncLeaves
import Derived.Shelf.Abstract
import Derived.WalkKit
import Derived.OwnWalkIn
import Derived.TacticsInMore
import Derived.LoopNIn
import Derived.LoopIn
import Derived.Maps.AppendAt
import Derived.KernelRfl
set_option linter.unusedVariables false
set_option linter.unusedSimpArgs false
set_option linter.unusedSectionVars false
namespace Go.Sx

noncomputable def D.cmp_isNaN_int64 (x0 : Int) : Option (Bool) :=
  some (x0 != x0)

noncomputable def D.cmp_Less_int64 (x0 : Int) (x1 : Int) : Option (Bool) :=
  (D.cmp_isNaN_int64 x0).bind fun y_1 => (cond y_1 ((D.cmp_isNaN_int64 x1).bind fun y_27 => some (!y_27)) (some false)).bind fun b_25 => some (b_25 || (decide (x0 < x1)))

noncomputable def D.slices_order2Ordered_int64 (x0 : (List Int)) (x1 : Int) (x2 : Int) (x3_0 : Int) : Option (Int × Int × ((List Int)) × Int) :=
  (idx x0 x2).bind fun e_1 => (idx x0 x1).bind fun e_7 => (D.cmp_Less_int64 e_1 e_7).bind fun y_13 => cond y_13 (some (x2, x1, x0, (IntKind.i64.wrap (x3_0 + 1)))) (some (x1, x2, x0, x3_0))

noncomputable def D.slices_medianOrdered_int64 (x0 : (List Int)) (x1 : Int) (x2 : Int) (x3 : Int) (x4_0 : Int) : Option (Int × ((List Int)) × Int) :=
  (D.slices_order2Ordered_int64 x0 x1 x2 x4_0).bind fun y_1 => (D.slices_order2Ordered_int64 y_1.2.2.1 y_1.2.1 x3 y_1.2.2.2).bind fun y_10 => (D.slices_order2Ordered_int64 y_10.2.2.1 y_1.1 y_10.1 y_10.2.2.2).bind fun y_19 => some (y_19.2.1, y_19.2.2.1, y_19.2.2.2)

noncomputable def D.slices_medianAdjacentOrdered_int64 (x0 : (List Int)) (x1 : Int) (x2_0 : Int) : Option (Int × ((List Int)) × Int) :=
  (D.slices_medianOrdered_int64 x0 (IntKind.i64.wrap (x1 - 1)) x1 (IntKind.i64.wrap (x1 + 1)) x2_0).bind fun y_1 => some (y_1.1, y_1.2.1, y_1.2.2)

noncomputable def D.slices_siftDownOrdered_int64 (x0 : (List Int)) (x1 : Int) (x2 : Int) (x3 : Int) : Option (((List Int))) :=
  (loopF (σ := (List Int) × Int) (ρ := ((List Int)) ⊕ (((List Int)))) (fun (s_186 : (List Int) × Int) => match s_186 with | (l_189, x_192) => cond (decide (x2 ≤ (IntKind.i64.wrap ((IntKind.i64.wrap (2 * x_192)) + 1)))) (some (.inr (.inl l_189))) ((cond (decide ((IntKind.i64.wrap ((IntKind.i64.wrap ((IntKind.i64.wrap (2 * x_192)) + 1)) + 1)) < x2)) ((idx l_189 (IntKind.i64.wrap (x3 + (IntKind.i64.wrap ((IntKind.i64.wrap (2 * x_192)) + 1))))).bind fun e_307 => (idx l_189 (IntKind.i64.wrap ((IntKind.i64.wrap (x3 + (IntKind.i64.wrap ((IntKind.i64.wrap (2 * x_192)) + 1)))) + 1))).bind fun e_313 => (D.cmp_Less_int64 e_307 e_313).bind fun y_319 => some y_319) (some false)).bind fun b_305 => ((cond b_305 (some (IntKind.i64.wrap ((IntKind.i64.wrap ((IntKind.i64.wrap (2 * x_192)) + 1)) + 1))) (some (IntKind.i64.wrap ((IntKind.i64.wrap (2 * x_192)) + 1))) : Option (Int))).bind fun x_328 => (idx l_189 (IntKind.i64.wrap (x3 + x_192))).bind fun e_331 => (idx l_189 (IntKind.i64.wrap (x3 + x_328))).bind fun e_337 => (D.cmp_Less_int64 e_331 e_337).bind fun y_343 => cond (!y_343) (some (.inr (.inr l_189))) ((idx l_189 (IntKind.i64.wrap (x3 + x_328))).bind fun e_349 => (idx l_189 (IntKind.i64.wrap (x3 + x_192))).bind fun e_355 => (idx l_189 (IntKind.i64.wrap (x3 + x_192))).bind fun e_361 => (idx (l_189.set (Int.toNat (IntKind.i64.wrap (x3 + x_192))) e_349) (IntKind.i64.wrap (x3 + x_328))).bind fun e_369 => some (.inl (((l_189.set (Int.toNat (IntKind.i64.wrap (x3 + x_192))) e_349).set (Int.toNat (IntKind.i64.wrap (x3 + x_328))) e_355), x_328))))) (x0, x1)).bind fun zz => match zz with | .inl l_283 => (some l_283) | .inr z => (some z)

noncomputable def D.slices_heapSortOrdered_int64 (x0 : (List Int)) (x1 : Int) (x2 : Int) : Option (((List Int))) :=
  (loopF (σ := (List Int) × Int) (ρ := ((List Int))) (fun (s_30 : (List Int) × Int) => match s_30 with | (l_33, x_36) => cond (decide ((0 : Int) ≤ x_36)) ((D.slices_siftDownOrdered_int64 l_33 x_36 (IntKind.i64.wrap (x2 - x1)) x1).bind fun y_54 => some (.inl (y_54, (IntKind.i64.wrap (x_36 - 1))))) (some (.inr l_33))) (x0, (IntKind.i64.wrap (Int.tdiv (IntKind.i64.wrap ((IntKind.i64.wrap (x2 - x1)) - 1)) 2)))).bind fun l_49 => (loopF (σ := (List Int) × Int) (ρ := ((List Int))) (fun (s_144 : (List Int) × Int) => match s_144 with | (l_147, x_150) => cond (decide ((0 : Int) ≤ x_150)) ((idx l_147 (IntKind.i64.wrap (x1 + x_150))).bind fun e_194 => (idx l_147 x1).bind fun e_200 => (idx l_147 x1).bind fun e_206 => (idx (l_147.set (Int.toNat x1) e_194) (IntKind.i64.wrap (x1 + x_150))).bind fun e_214 => (D.slices_siftDownOrdered_int64 ((l_147.set (Int.toNat x1) e_194).set (Int.toNat (IntKind.i64.wrap (x1 + x_150))) e_200) 0 x_150 x1).bind fun y_220 => some (.inl (y_220, (IntKind.i64.wrap (x_150 - 1))))) (some (.inr l_147))) (l_49, (IntKind.i64.wrap ((IntKind.i64.wrap (x2 - x1)) - 1)))).bind fun l_189 => some l_189

noncomputable def D.slices_insertionSortOrdered_int64 (x0 : (List Int)) (x1 : Int) (x2 : Int) : Option (((List Int))) :=
  (loopF (σ := (List Int) × Int) (ρ := ((List Int))) (fun (s_560 : (List Int) × Int) => match s_560 with | (l_563, x_566) => cond (decide (x_566 < x2)) ((loopF (σ := (List Int) × Int) (ρ := ((List Int))) (fun (s_984 : (List Int) × Int) => match s_984 with | (l_987, x_990) => (cond (decide (x1 < x_990)) ((idx l_987 x_990).bind fun e_1079 => (idx l_987 (IntKind.i64.wrap (x_990 - 1))).bind fun e_1085 => (D.cmp_Less_int64 e_1079 e_1085).bind fun y_1091 => some y_1091) (some false)).bind fun b_1077 => cond b_1077 ((idx l_987 (IntKind.i64.wrap (x_990 - 1))).bind fun e_1097 => (idx l_987 x_990).bind fun e_1103 => (idx l_987 x_990).bind fun e_1109 => (idx (l_987.set (Int.toNat x_990) e_1097) (IntKind.i64.wrap (x_990 - 1))).bind fun e_1117 => some (.inl (((l_987.set (Int.toNat x_990) e_1097).set (Int.toNat (IntKind.i64.wrap (x_990 - 1))) e_1103), (IntKind.i64.wrap (x_990 - 1))))) (some (.inr l_987))) (l_563, x_566)).bind fun l_1056 => some (.inl (l_1056, (IntKind.i64.wrap (x_566 + 1))))) (some (.inr l_563))) (x0, (IntKind.i64.wrap (x1 + 1)))).bind fun l_844 => some l_844

noncomputable def D.slices_reverseRangeOrdered_int64 (x0 : (List Int)) (x1 : Int) (x2 : Int) : Option (((List Int))) :=
  (loopF (σ := (List Int) × Int × Int) (ρ := ((List Int))) (fun (s_65 : (List Int) × Int × Int) => match s_65 with | (l_68, x_71, x_72) => cond (decide (x_71 < x_72)) ((idx l_68 x_72).bind fun e_107 => (idx l_68 x_71).bind fun e_113 => (idx l_68 x_71).bind fun e_119 => (idx (l_68.set (Int.toNat x_71) e_107) x_72).bind fun e_127 => some (.inl (((l_68.set (Int.toNat x_71) e_107).set (Int.toNat x_72) e_113), (IntKind.i64.wrap (x_71 + 1)), (IntKind.i64.wrap (x_72 - 1))))) (some (.inr l_68))) (x0, x1, (IntKind.i64.wrap (x2 - 1)))).bind fun l_102 => some l_102

noncomputable def D.slices_partialInsertionSortOrdered_int64 (x0 : (List Int)) (x1 : Int) (x2 : Int) : Option (Bool × ((List Int))) :=
  (loopF (σ := (List Int) × Int × Int) (ρ := ((List Int)) ⊕ (Bool × ((List Int)))) (fun (s_1625 : (List Int) × Int × Int) => match s_1625 with | (l_1628, x_1631, x_1632) => cond (decide (x_1632 < 5)) ((loopF (σ := Int) (ρ := (Int)) (fun (x_2530 : Int) => (cond (decide (x_2530 < x2)) ((idx l_1628 x_2530).bind fun e_2591 => (idx l_1628 (IntKind.i64.wrap (x_2530 - 1))).bind fun e_2597 => (D.cmp_Less_int64 e_2591 e_2597).bind fun y_2603 => some (!y_2603)) (some false)).bind fun b_2589 => cond b_2589 (some (.inl (IntKind.i64.wrap (x_2530 + 1)))) (some (.inr x_2530))) x_1631).bind fun x_2570 => cond (x_2570 == x2) (some (.inr (.inr (true, l_1628)))) (cond (decide ((IntKind.i64.wrap (x2 - x1)) < 50)) (some (.inr (.inr (false, l_1628)))) ((idx l_1628 (IntKind.i64.wrap (x_2570 - 1))).bind fun e_2611 => (idx l_1628 x_2570).bind fun e_2617 => (idx l_1628 x_2570).bind fun e_2623 => (idx (l_1628.set (Int.toNat x_2570) e_2611) (IntKind.i64.wrap (x_2570 - 1))).bind fun e_2631 => ((cond (decide ((2 : Int) ≤ (IntKind.i64.wrap (x_2570 - x1)))) ((loopF (σ := (List Int) × Int) (ρ := ((List Int))) (fun (s_2947 : (List Int) × Int) => match s_2947 with | (l_2950, x_2953) => cond (decide ((1 : Int) ≤ x_2953)) ((idx l_2950 x_2953).bind fun e_3006 => (idx l_2950 (IntKind.i64.wrap (x_2953 - 1))).bind fun e_3012 => (D.cmp_Less_int64 e_3006 e_3012).bind fun y_3018 => cond (!y_3018) (some (.inr l_2950)) ((idx l_2950 (IntKind.i64.wrap (x_2953 - 1))).bind fun e_3024 => (idx l_2950 x_2953).bind fun e_3030 => (idx l_2950 x_2953).bind fun e_3036 => (idx (l_2950.set (Int.toNat x_2953) e_3024) (IntKind.i64.wrap (x_2953 - 1))).bind fun e_3044 => some (.inl (((l_2950.set (Int.toNat x_2953) e_3024).set (Int.toNat (IntKind.i64.wrap (x_2953 - 1))) e_3030), (IntKind.i64.wrap (x_2953 - 1)))))) (some (.inr l_2950))) (((l_1628.set (Int.toNat x_2570) e_2611).set (Int.toNat (IntKind.i64.wrap (x_2570 - 1))) e_2617), (IntKind.i64.wrap (x_2570 - 1)))).bind fun l_3001 => some l_3001) (some ((l_1628.set (Int.toNat x_2570) e_2611).set (Int.toNat (IntKind.i64.wrap (x_2570 - 1))) e_2617)) : Option ((List Int)))).bind fun l_2843 => cond (decide ((2 : Int) ≤ (IntKind.i64.wrap (x2 - x_2570)))) ((loopF (σ := (List Int) × Int) (ρ := ((List Int))) (fun (s_3150 : (List Int) × Int) => match s_3150 with | (l_3153, x_3156) => cond (decide (x_3156 < x2)) ((idx l_3153 x_3156).bind fun e_3209 => (idx l_3153 (IntKind.i64.wrap (x_3156 - 1))).bind fun e_3215 => (D.cmp_Less_int64 e_3209 e_3215).bind fun y_3221 => cond (!y_3221) (some (.inr l_3153)) ((idx l_3153 (IntKind.i64.wrap (x_3156 - 1))).bind fun e_3227 => (idx l_3153 x_3156).bind fun e_3233 => (idx l_3153 x_3156).bind fun e_3239 => (idx (l_3153.set (Int.toNat x_3156) e_3227) (IntKind.i64.wrap (x_3156 - 1))).bind fun e_3247 => some (.inl (((l_3153.set (Int.toNat x_3156) e_3227).set (Int.toNat (IntKind.i64.wrap (x_3156 - 1))) e_3233), (IntKind.i64.wrap (x_3156 + 1)))))) (some (.inr l_3153))) (l_2843, (IntKind.i64.wrap (x_2570 + 1)))).bind fun l_3204 => some (.inl (l_3204, x_2570, (IntKind.i64.wrap (x_1632 + 1))))) (some (.inl (l_2843, x_2570, (IntKind.i64.wrap (x_1632 + 1)))))))) (some (.inr (.inl l_1628)))) (x0, (IntKind.i64.wrap (x1 + 1)), 0)).bind fun zz => match zz with | .inl l_2442 => (some (false, l_2442)) | .inr z => (some z)

noncomputable def D.slices_partitionEqualOrdered_int64 (x0 : (List Int)) (x1 : Int) (x2 : Int) (x3 : Int) : Option (Int × ((List Int))) :=
  (idx x0 x3).bind fun e_1 => (idx x0 x1).bind fun e_7 => (idx x0 x1).bind fun e_13 => (idx (x0.set (Int.toNat x1) e_1) x3).bind fun e_21 => (loopF (σ := (List Int) × Int × Int) (ρ := ((List Int) × Int)) (fun (s_739 : (List Int) × Int × Int) => match s_739 with | (l_742, x_745, x_746) => (loopF (σ := Int) (ρ := (Int)) (fun (x_1188 : Int) => (cond (decide (x_1188 ≤ x_746)) ((idx l_742 x1).bind fun e_1249 => (idx l_742 x_1188).bind fun e_1255 => (D.cmp_Less_int64 e_1249 e_1255).bind fun y_1261 => some (!y_1261)) (some false)).bind fun b_1247 => cond b_1247 (some (.inl (IntKind.i64.wrap (x_1188 + 1)))) (some (.inr x_1188))) x_745).bind fun x_1228 => (loopF (σ := Int) (ρ := (Int)) (fun (x_1350 : Int) => (cond (decide (x_1228 ≤ x_1350)) ((idx l_742 x1).bind fun e_1411 => (idx l_742 x_1350).bind fun e_1417 => (D.cmp_Less_int64 e_1411 e_1417).bind fun y_1423 => some y_1423) (some false)).bind fun b_1409 => cond b_1409 (some (.inl (IntKind.i64.wrap (x_1350 - 1)))) (some (.inr x_1350))) x_746).bind fun x_1390 => cond (decide (x_1390 < x_1228)) (some (.inr (l_742, x_1228))) ((idx l_742 x_1390).bind fun e_1430 => (idx l_742 x_1228).bind fun e_1436 => (idx l_742 x_1228).bind fun e_1442 => (idx (l_742.set (Int.toNat x_1228) e_1430) x_1390).bind fun e_1450 => some (.inl (((l_742.set (Int.toNat x_1228) e_1430).set (Int.toNat x_1390) e_1436), (IntKind.i64.wrap (x_1228 + 1)), (IntKind.i64.wrap (x_1390 - 1)))))) (((x0.set (Int.toNat x1) e_1).set (Int.toNat x3) e_7), (IntKind.i64.wrap (x1 + 1)), (IntKind.i64.wrap (x2 - 1)))).bind fun (l_1100, x_1103) => some (x_1103, l_1100)

noncomputable def D.slices_partitionOrdered_int64 (x0 : (List Int)) (x1 : Int) (x2 : Int) (x3 : Int) : Option (Int × Bool × ((List Int))) :=
  (idx x0 x3).bind fun e_1 => (idx x0 x1).bind fun e_7 => (idx x0 x1).bind fun e_13 => (idx (x0.set (Int.toNat x1) e_1) x3).bind fun e_21 => (loopF (σ := Int) (ρ := (Int)) (fun (x_110 : Int) => (cond (decide (x_110 ≤ (IntKind.i64.wrap (x2 - 1)))) ((idx ((x0.set (Int.toNat x1) e_1).set (Int.toNat x3) e_7) x_110).bind fun e_171 => (idx ((x0.set (Int.toNat x1) e_1).set (Int.toNat x3) e_7) x1).bind fun e_177 => (D.cmp_Less_int64 e_171 e_177).bind fun y_183 => some y_183) (some false)).bind fun b_169 => cond b_169 (some (.inl (IntKind.i64.wrap (x_110 + 1)))) (some (.inr x_110))) (IntKind.i64.wrap (x1 + 1))).bind fun x_150 => (loopF (σ := Int) (ρ := (Int)) (fun (x_272 : Int) => (cond (decide (x_150 ≤ x_272)) ((idx ((x0.set (Int.toNat x1) e_1).set (Int.toNat x3) e_7) x_272).bind fun e_333 => (idx ((x0.set (Int.toNat x1) e_1).set (Int.toNat x3) e_7) x1).bind fun e_339 => (D.cmp_Less_int64 e_333 e_339).bind fun y_345 => some (!y_345)) (some false)).bind fun b_331 => cond b_331 (some (.inl (IntKind.i64.wrap (x_272 - 1)))) (some (.inr x_272))) (IntKind.i64.wrap (x2 - 1))).bind fun x_312 => cond (decide (x_312 < x_150)) ((idx ((x0.set (Int.toNat x1) e_1).set (Int.toNat x3) e_7) x1).bind fun e_352 => (idx ((x0.set (Int.toNat x1) e_1).set (Int.toNat x3) e_7) x_312).bind fun e_358 => (idx ((x0.set (Int.toNat x1) e_1).set (Int.toNat x3) e_7) x_312).bind fun e_364 => (idx (((x0.set (Int.toNat x1) e_1).set (Int.toNat x3) e_7).set (Int.toNat x_312) e_352) x1).bind fun e_372 => some (x_312, true, ((((x0.set (Int.toNat x1) e_1).set (Int.toNat x3) e_7).set (Int.toNat x_312) e_352).set (Int.toNat x1) e_358))) ((idx ((x0.set (Int.toNat x1) e_1).set (Int.toNat x3) e_7) x_312).bind fun e_378 => (idx ((x0.set (Int.toNat x1) e_1).set (Int.toNat x3) e_7) x_150).bind fun e_384 => (idx ((x0.set (Int.toNat x1) e_1).set (Int.toNat x3) e_7) x_150).bind fun e_390 => (idx (((x0.set (Int.toNat x1) e_1).set (Int.toNat x3) e_7).set (Int.toNat x_150) e_378) x_312).bind fun e_398 => (loopF (σ := (List Int) × Int × Int) (ρ := ((List Int) × Int)) (fun (s_1116 : (List Int) × Int × Int) => match s_1116 with | (l_1119, x_1122, x_1123) => (loopF (σ := Int) (ρ := (Int)) (fun (x_1565 : Int) => (cond (decide (x_1565 ≤ x_1123)) ((idx l_1119 x_1565).bind fun e_1626 => (idx l_1119 x1).bind fun e_1632 => (D.cmp_Less_int64 e_1626 e_1632).bind fun y_1638 => some y_1638) (some false)).bind fun b_1624 => cond b_1624 (some (.inl (IntKind.i64.wrap (x_1565 + 1)))) (some (.inr x_1565))) x_1122).bind fun x_1605 => (loopF (σ := Int) (ρ := (Int)) (fun (x_1727 : Int) => (cond (decide (x_1605 ≤ x_1727)) ((idx l_1119 x_1727).bind fun e_1788 => (idx l_1119 x1).bind fun e_1794 => (D.cmp_Less_int64 e_1788 e_1794).bind fun y_1800 => some (!y_1800)) (some false)).bind fun b_1786 => cond b_1786 (some (.inl (IntKind.i64.wrap (x_1727 - 1)))) (some (.inr x_1727))) x_1123).bind fun x_1767 => cond (decide (x_1767 < x_1605)) (some (.inr (l_1119, x_1767))) ((idx l_1119 x_1767).bind fun e_1807 => (idx l_1119 x_1605).bind fun e_1813 => (idx l_1119 x_1605).bind fun e_1819 => (idx (l_1119.set (Int.toNat x_1605) e_1807) x_1767).bind fun e_1827 => some (.inl (((l_1119.set (Int.toNat x_1605) e_1807).set (Int.toNat x_1767) e_1813), (IntKind.i64.wrap (x_1605 + 1)), (IntKind.i64.wrap (x_1767 - 1)))))) (((((x0.set (Int.toNat x1) e_1).set (Int.toNat x3) e_7).set (Int.toNat x_150) e_378).set (Int.toNat x_312) e_384), (IntKind.i64.wrap (x_150 + 1)), (IntKind.i64.wrap (x_312 - 1)))).bind fun (l_1477, x_1480) => (idx l_1477 x1).bind fun e_1833 => (idx l_1477 x_1480).bind fun e_1839 => (idx l_1477 x_1480).bind fun e_1845 => (idx (l_1477.set (Int.toNat x_1480) e_1833) x1).bind fun e_1853 => some (x_1480, false, ((l_1477.set (Int.toNat x_1480) e_1833).set (Int.toNat x1) e_1839)))

noncomputable def D.slices_nextPowerOfTwo (x0 : Int) : Option (Int) :=
  (D.math_bits_Len (IntKind.u64.wrap x0)).bind fun y_1 => cond (decide (y_1 < 0)) none (some (ishl .u64 1 y_1))

noncomputable def D.slices_xorshift_Next (x0_0 : Int) : Option (Int × Int) :=
  some ((ixor .u64 (ixor .u64 (ixor .u64 x0_0 (ishl .u64 x0_0 13)) (ishr .u64 (ixor .u64 x0_0 (ishl .u64 x0_0 13)) 7)) (ishl .u64 (ixor .u64 (ixor .u64 x0_0 (ishl .u64 x0_0 13)) (ishr .u64 (ixor .u64 x0_0 (ishl .u64 x0_0 13)) 7)) 17)), (ixor .u64 (ixor .u64 (ixor .u64 x0_0 (ishl .u64 x0_0 13)) (ishr .u64 (ixor .u64 x0_0 (ishl .u64 x0_0 13)) 7)) (ishl .u64 (ixor .u64 (ixor .u64 x0_0 (ishl .u64 x0_0 13)) (ishr .u64 (ixor .u64 x0_0 (ishl .u64 x0_0 13)) 7)) 17)))

noncomputable def D.slices_breakPatternsOrdered_int64 (x0 : (List Int)) (x1 : Int) (x2 : Int) : Option (((List Int))) :=
  cond (decide ((8 : Int) ≤ (IntKind.i64.wrap (x2 - x1)))) ((D.slices_nextPowerOfTwo (IntKind.i64.wrap (x2 - x1))).bind fun y_4 => (loopF (σ := (List Int) × Int × Int) (ρ := ((List Int))) (fun (s_103 : (List Int) × Int × Int) => match s_103 with | (l_106, x_109, x_110) => cond (decide (x_109 ≤ (IntKind.i64.wrap ((IntKind.i64.wrap (x1 + (IntKind.i64.wrap ((IntKind.i64.wrap (Int.tdiv (IntKind.i64.wrap (x2 - x1)) 4)) * 2)))) + 1)))) ((D.slices_xorshift_Next x_110).bind fun y_159 => ((cond (decide ((IntKind.i64.wrap (x2 - x1)) ≤ (IntKind.i64.wrap (iand .u64 y_159.1 (IntKind.u64.wrap (y_4 - 1)))))) (some (IntKind.i64.wrap ((IntKind.i64.wrap (iand .u64 y_159.1 (IntKind.u64.wrap (y_4 - 1)))) - (IntKind.i64.wrap (x2 - x1))))) (some (IntKind.i64.wrap (iand .u64 y_159.1 (IntKind.u64.wrap (y_4 - 1))))) : Option (Int))).bind fun x_170 => (idx l_106 (IntKind.i64.wrap (x1 + x_170))).bind fun e_173 => (idx l_106 x_109).bind fun e_179 => (idx l_106 x_109).bind fun e_185 => (idx (l_106.set (Int.toNat x_109) e_173) (IntKind.i64.wrap (x1 + x_170))).bind fun e_193 => some (.inl (((l_106.set (Int.toNat x_109) e_173).set (Int.toNat (IntKind.i64.wrap (x1 + x_170))) e_179), (IntKind.i64.wrap (x_109 + 1)), y_159.2))) (some (.inr l_106))) (x0, (IntKind.i64.wrap ((IntKind.i64.wrap (x1 + (IntKind.i64.wrap ((IntKind.i64.wrap (Int.tdiv (IntKind.i64.wrap (x2 - x1)) 4)) * 2)))) - 1)), (IntKind.u64.wrap (IntKind.i64.wrap (x2 - x1))))).bind fun l_154 => some l_154) (some x0)

noncomputable def D.slices_choosePivotOrdered_int64 (x0 : (List Int)) (x1 : Int) (x2 : Int) : Option (Int × Int × ((List Int))) :=
  cond (decide ((8 : Int) ≤ (IntKind.i64.wrap (x2 - x1)))) (((cond (decide ((50 : Int) ≤ (IntKind.i64.wrap (x2 - x1)))) ((D.slices_medianAdjacentOrdered_int64 x0 (IntKind.i64.wrap (x1 + (IntKind.i64.wrap ((IntKind.i64.wrap (Int.tdiv (IntKind.i64.wrap (x2 - x1)) 4)) * 1)))) 0).bind fun y_44 => (D.slices_medianAdjacentOrdered_int64 y_44.2.1 (IntKind.i64.wrap (x1 + (IntKind.i64.wrap ((IntKind.i64.wrap (Int.tdiv (IntKind.i64.wrap (x2 - x1)) 4)) * 2)))) y_44.2.2).bind fun y_53 => (D.slices_medianAdjacentOrdered_int64 y_53.2.1 (IntKind.i64.wrap (x1 + (IntKind.i64.wrap ((IntKind.i64.wrap (Int.tdiv (IntKind.i64.wrap (x2 - x1)) 4)) * 3)))) y_53.2.2).bind fun y_62 => some (y_62.2.1, y_44.1, y_53.1, y_62.1, y_62.2.2)) (some (x0, (IntKind.i64.wrap (x1 + (IntKind.i64.wrap ((IntKind.i64.wrap (Int.tdiv (IntKind.i64.wrap (x2 - x1)) 4)) * 1)))), (IntKind.i64.wrap (x1 + (IntKind.i64.wrap ((IntKind.i64.wrap (Int.tdiv (IntKind.i64.wrap (x2 - x1)) 4)) * 2)))), (IntKind.i64.wrap (x1 + (IntKind.i64.wrap ((IntKind.i64.wrap (Int.tdiv (IntKind.i64.wrap (x2 - x1)) 4)) * 3)))), 0)) : Option ((List Int) × Int × Int × Int × Int))).bind fun (l_35, x_38, x_39, x_40, x_41) => (D.slices_medianOrdered_int64 l_35 x_38 x_39 x_40 x_41).bind fun y_71 => cond (y_71.2.2 == 0) (some (y_71.1, 1, y_71.2.1)) (cond (y_71.2.2 == 12) (some (y_71.1, 2, y_71.2.1)) (some (y_71.1, 0, y_71.2.1)))) (cond ((0 : Int) == 0) (some ((IntKind.i64.wrap (x1 + (IntKind.i64.wrap ((IntKind.i64.wrap (Int.tdiv (IntKind.i64.wrap (x2 - x1)) 4)) * 2)))), 1, x0)) (cond ((0 : Int) == 12) (some ((IntKind.i64.wrap (x1 + (IntKind.i64.wrap ((IntKind.i64.wrap (Int.tdiv (IntKind.i64.wrap (x2 - x1)) 4)) * 2)))), 2, x0)) (some ((IntKind.i64.wrap (x1 + (IntKind.i64.wrap ((IntKind.i64.wrap (Int.tdiv (IntKind.i64.wrap (x2 - x1)) 4)) * 2)))), 0, x0))))

noncomputable def D.slices_pdqsortOrdered_int64R : Nat → ((List Int)) → Int → Int → Int → Option (((List Int)))
  | 0, _, _, _, _ => none
  | fuel + 1, x0, x1, x2, x3 => (loopF (σ := (List Int) × Int × Int × Int × Bool × Bool) (ρ := (((List Int)))) (fun (s_398 : (List Int) × Int × Int × Int × Bool × Bool) => match s_398 with | (l_401, x_404, x_405, x_406, b_407, b_408) => cond (decide ((IntKind.i64.wrap (x_405 - x_404)) ≤ 12)) ((D.slices_insertionSortOrdered_int64 l_401 x_404 x_405).bind fun y_411 => some (.inr y_411)) (cond (x_406 == 0) ((D.slices_heapSortOrdered_int64 l_401 x_404 x_405).bind fun y_421 => some (.inr y_421)) (((cond (!b_407) ((D.slices_breakPatternsOrdered_int64 l_401 x_404 x_405).bind fun y_449 => some (y_449, (IntKind.i64.wrap (x_406 - 1)))) (some (l_401, x_406)) : Option ((List Int) × Int))).bind fun (l_443, x_446) => (D.slices_choosePivotOrdered_int64 l_443 x_404 x_405).bind fun y_458 => ((cond (y_458.2.1 == 2) ((D.slices_reverseRangeOrdered_int64 y_458.2.2 x_404 x_405).bind fun y_487 => some (y_487, (IntKind.i64.wrap ((IntKind.i64.wrap (x_405 - 1)) - (IntKind.i64.wrap (y_458.1 - x_404)))), 1)) (some (y_458.2.2, y_458.1, y_458.2.1)) : Option ((List Int) × Int × Int))).bind fun (l_480, x_483, x_484) => ((cond ((b_407 && b_408) && (x_484 == 1)) ((D.slices_partialInsertionSortOrdered_int64 l_480 x_404 x_405).bind fun y_521 => cond y_521.1 (some (.inr y_521.2)) (some (.inl y_521.2))) (some (.inl l_480)) : Option (((List Int)) ⊕ (((List Int)))))).bind fun q => match q with | .inl l_516 => ((cond (decide ((0 : Int) < x_404)) ((idx l_516 (IntKind.i64.wrap (x_404 - 1))).bind fun e_550 => (idx l_516 x_483).bind fun e_556 => (D.cmp_Less_int64 e_550 e_556).bind fun y_562 => some (!y_562)) (some false)).bind fun b_548 => cond b_548 ((D.slices_partitionEqualOrdered_int64 l_516 x_404 x_405 x_483).bind fun y_568 => some (.inl (y_568.2, y_568.1, x_405, x_446, b_407, b_408))) ((D.slices_partitionOrdered_int64 l_516 x_404 x_405 x_483).bind fun y_577 => cond (decide ((IntKind.i64.wrap (y_577.1 - x_404)) < (IntKind.i64.wrap (x_405 - y_577.1)))) ((D.slices_pdqsortOrdered_int64R fuel y_577.2.2 x_404 y_577.1 x_446).bind fun y_587 => some (.inl (y_587, (IntKind.i64.wrap (y_577.1 + 1)), x_405, x_446, (decide ((IntKind.i64.wrap (Int.tdiv (IntKind.i64.wrap (x_405 - x_404)) 8)) ≤ (IntKind.i64.wrap (y_577.1 - x_404)))), y_577.2.1))) ((D.slices_pdqsortOrdered_int64R fuel y_577.2.2 (IntKind.i64.wrap (y_577.1 + 1)) x_405 x_446).bind fun y_596 => some (.inl (y_596, x_404, y_577.1, x_446, (decide ((IntKind.i64.wrap (Int.tdiv (IntKind.i64.wrap (x_405 - x_404)) 8)) ≤ (IntKind.i64.wrap (x_405 - y_577.1)))), y_577.2.1))))) | .inr q => (some (.inr q))))) (x0, x1, x2, x3, true, true)).bind fun z => some z

noncomputable def D.slices_pdqsortOrdered_int64 (x0 : (List Int)) (x1 : Int) (x2 : Int) (x3 : Int) : Option (((List Int))) := D.slices_pdqsortOrdered_int64R recFuel x0 x1 x2 x3

noncomputable def D.slices_Sort_int64_int64 (x0 : (List Int)) : Option (((List Int))) :=
  (D.math_bits_Len (IntKind.u64.wrap (x0.length : Int))).bind fun y_1 => (D.slices_pdqsortOrdered_int64 x0 0 (x0.length : Int) y_1).bind fun y_8 => some y_8

noncomputable def D.slices_Collect_int64 (x0 : (List Int)) : Option (((List Int))) :=
  (D.slices_AppendSeq_int64_int64 x0).bind fun y_1 => some y_1

noncomputable def D.slices_Sorted_int64 (x0 : (List Int)) : Option (((List Int))) :=
  (D.slices_Collect_int64 x0).bind fun y_1 => (D.slices_Sort_int64_int64 y_1).bind fun y_12 => some y_12

noncomputable def D.spec_l1In (x0 : Int) (x1 : Int) (x2 : Int) : Option (Bool) :=
  some ((decide (x1 ≤ x0)) && (decide (x0 ≤ x2)))

noncomputable def D.spec_l1Has (x0 : (List Int)) (x1 : Int) : Option (Bool) :=
  (loopF (σ := Int) (ρ := (Unit) ⊕ (Bool)) (fun (x_26 : Int) => cond (decide (x_26 < (x0.length : Int))) ((idx x0 x_26).bind fun e_39 => cond (e_39 == x1) (some (.inr (.inr true))) (some (.inl (IntKind.i64.wrap (x_26 + 1))))) (some (.inr (.inl ())))) 0).bind fun zz => match zz with | .inl _ => (some false) | .inr z => (some z)

noncomputable def D.spec_l1Size (x0_0 : (List (List Int))) : Option (Int) :=
  some (x0_0.length : Int)

noncomputable def D.spec_l1Set (x0 : (List Int)) (x1 : Int) : Option (Bool) :=
  cond (decide (x1 < (x0.length : Int))) (some false) ((loopF (σ := Int) (ρ := (Unit) ⊕ (Bool)) (fun (x_157 : Int) => cond (decide (x_157 < (x0.length : Int))) ((idx x0 x_157).bind fun e_235 => (D.spec_l1In e_235 0 (IntKind.i64.wrap (x1 - 1))).bind fun y_241 => (cond (!y_241) (some true) ((cond (decide ((0 : Int) < x_157)) ((idx x0 x_157).bind fun e_292 => (idx x0 (IntKind.i64.wrap (x_157 - 1))).bind fun e_298 => some (decide (e_292 ≤ e_298))) (some false)).bind fun b_290 => some b_290)).bind fun b_274 => cond b_274 (some (.inr (.inr false))) (some (.inl (IntKind.i64.wrap (x_157 + 1))))) (some (.inr (.inl ())))) 0).bind fun zz => match zz with | .inl _ => (some true) | .inr z => (some z))

noncomputable def D.spec_GraphOk (x0_0 : (List (List Int))) : Option (Bool) :=
  (D.spec_l1Size x0_0).bind fun y_3 => (D.spec_l1In y_3 1 16).bind fun y_10 => cond (!y_10) (some false) ((loopF (σ := Int) (ρ := (Unit) ⊕ (Bool)) (fun (x_145 : Int) => cond (decide (x_145 < y_3)) ((idx x0_0 x_145).bind fun e_209 => (D.spec_l1Set e_209 y_3).bind fun y_215 => (cond (!y_215) (some true) ((idx x0_0 x_145).bind fun e_253 => (D.spec_l1Has e_253 x_145).bind fun y_259 => some y_259)).bind fun b_251 => cond b_251 (some (.inr (.inr false))) (some (.inl (IntKind.i64.wrap (x_145 + 1))))) (some (.inr (.inl ())))) 0).bind fun zz => match zz with | .inl _ => ((loopF (σ := Int) (ρ := (Unit) ⊕ (Bool)) (fun (x_552 : Int) => cond (decide (x_552 < y_3)) ((loopF (σ := Int) (ρ := (Unit) ⊕ (Bool)) (fun (x_766 : Int) => (idx x0_0 x_552).bind fun e_801 => cond (decide (x_766 < (e_801.length : Int))) ((idx x0_0 x_552).bind fun e_808 => (idx e_808 x_766).bind fun e_814 => (idx x0_0 e_814).bind fun e_820 => (D.spec_l1Has e_820 x_552).bind fun y_826 => cond (!y_826) (some (.inr (.inr false))) (some (.inl (IntKind.i64.wrap (x_766 + 1))))) (some (.inr (.inl ())))) 0).bind fun zz => match zz with | .inl _ => (some (.inl (IntKind.i64.wrap (x_552 + 1)))) | .inr z => (some (.inr (.inr z)))) (some (.inr (.inl ())))) 0).bind fun zz => match zz with | .inl _ => (some true) | .inr z => (some z)) | .inr z => (some z))

noncomputable def D.impl_inRange (x0 : Int) (x1 : Int) (x2 : Int) : Option (Bool) :=
  some ((decide (x1 ≤ x0)) && (decide (x0 ≤ x2)))

noncomputable def D.impl_increasing (x0 : (List Int)) (x1 : Int) : Option (Bool) :=
  (loopF (σ := Int) (ρ := (Unit) ⊕ (Bool)) (fun (x_188 : Int) => cond (decide (x_188 < (x0.length : Int))) ((idx x0 x_188).bind fun e_282 => (D.impl_inRange e_282 0 (IntKind.i64.wrap (x1 - 1))).bind fun y_288 => (cond (!y_288) (some true) ((cond (decide ((0 : Int) < x_188)) ((idx x0 (IntKind.i64.wrap (x_188 - 1))).bind fun e_363 => some (decide (e_282 ≤ e_363))) (some false)).bind fun b_361 => some b_361)).bind fun b_344 => cond b_344 (some (.inr (.inr false))) (some (.inl (IntKind.i64.wrap (x_188 + 1))))) (some (.inr (.inl ())))) 0).bind fun zz => match zz with | .inl _ => (some true) | .inr z => (some z)

noncomputable def D.slices_Index_int64_int64 (x0 : (List Int)) (x1 : Int) : Option (Int) :=
  (loopF (σ := Int) (ρ := (Unit) ⊕ (Int)) (fun (x_26 : Int) => cond (decide (x_26 < (x0.length : Int))) ((idx x0 x_26).bind fun e_39 => cond (x1 == e_39) (some (.inr (.inr x_26))) (some (.inl (IntKind.i64.wrap (x_26 + 1))))) (some (.inr (.inl ())))) 0).bind fun zz => match zz with | .inl _ => (some (-1)) | .inr z => (some z)

noncomputable def D.slices_Contains_int64_int64 (x0 : (List Int)) (x1 : Int) : Option (Bool) :=
  (D.slices_Index_int64_int64 x0 x1).bind fun y_1 => some (decide ((0 : Int) ≤ y_1))

noncomputable def D.impl_GraphOk (x0_0 : (List (List Int))) : Option (Bool) :=
  cond ((decide ((x0_0.length : Int) < 1)) || (decide ((16 : Int) < (x0_0.length : Int)))) (some false) ((loopF (σ := Int) (ρ := (Unit) ⊕ (Bool)) (fun (x_98 : Int) => cond (decide (x_98 < (x0_0.length : Int))) ((idx x0_0 x_98).bind fun e_144 => (D.impl_increasing e_144 (x0_0.length : Int)).bind fun y_150 => (cond (!y_150) (some true) ((D.slices_Contains_int64_int64 e_144 x_98).bind fun y_176 => some y_176)).bind fun b_174 => cond b_174 (some (.inr (.inr false))) (some (.inl (IntKind.i64.wrap (x_98 + 1))))) (some (.inr (.inl ())))) 0).bind fun zz => match zz with | .inl _ => ((loopF (σ := Int) (ρ := (Unit) ⊕ (Bool)) (fun (x_401 : Int) => cond (decide (x_401 < (x0_0.length : Int))) ((idx x0_0 x_401).bind fun e_510 => (loopF (σ := Int) (ρ := (Unit) ⊕ (Bool)) (fun (x_567 : Int) => cond (decide (x_567 < (e_510.length : Int))) ((idx e_510 x_567).bind fun e_593 => (idx x0_0 e_593).bind fun e_599 => (D.slices_Contains_int64_int64 e_599 x_401).bind fun y_605 => cond (!y_605) (some (.inr (.inr false))) (some (.inl (IntKind.i64.wrap (x_567 + 1))))) (some (.inr (.inl ())))) 0).bind fun zz => match zz with | .inl _ => (some (.inl (IntKind.i64.wrap (x_401 + 1)))) | .inr z => (some (.inr (.inr z)))) (some (.inr (.inl ())))) 0).bind fun zz => match zz with | .inl _ => (some true) | .inr z => (some z)) | .inr z => (some z))

noncomputable def D.impl_one (x0 : Int) : Option (Int) :=
  cond (decide (x0 < 0)) none (some (ishl .u32 1 x0))

noncomputable def D.impl_maskOf (x0 : (List Int)) : Option (Int) :=
  (loopF (σ := Int × Int) (ρ := (Int)) (fun (s_36 : Int × Int) => match s_36 with | (x_39, x_40) => cond (decide (x_40 < (x0.length : Int))) ((idx x0 x_40).bind fun e_60 => (D.impl_one e_60).bind fun y_66 => some (.inl ((ior .u32 x_39 y_66), (IntKind.i64.wrap (x_40 + 1))))) (some (.inr x_39))) (0, 0)).bind fun x_57 => some x_57

noncomputable def D.impl_netsOf (x0_0 : (List (List Int))) : Option (((List Int))) :=
  (loopF (σ := (List Int) × Int) (ρ := ((List Int))) (fun (s_66 : (List Int) × Int) => match s_66 with | (l_69, x_74) => cond (decide (x_74 < (x0_0.length : Int))) ((idx x0_0 x_74).bind fun e_108 => (D.impl_maskOf e_108).bind fun y_114 => (appendD l_69 ([y_114] : List Int)).bind fun l_125 => some (.inl (l_125, (IntKind.i64.wrap (x_74 + 1))))) (some (.inr l_69))) (([] : List Int), 0)).bind fun l_101 => some l_101

noncomputable def D.impl_narrow (x0 : (List Int)) : Option (((List Int))) :=
  (makeD (0 : Int) 0 (x0.length : Int)).bind fun l_1 => (loopF (σ := (List Int) × Int) (ρ := ((List Int))) (fun (s_52 : (List Int) × Int) => match s_52 with | (l_55, x_60) => cond (decide (x_60 < (x0.length : Int))) ((idx x0 x_60).bind fun e_87 => (appendD l_55 ([e_87] : List Int)).bind fun l_97 => some (.inl (l_97, (IntKind.i64.wrap (x_60 + 1))))) (some (.inr l_55))) (l_1, 0)).bind fun l_80 => some l_80

noncomputable def D.math_bits_TrailingZeros32 (x0 : Int) : Option (Int) :=
  cond (x0 == 0) (some 32) ((idx tab32 (ishr .u32 (IntKind.u32.wrap ((iand .u32 x0 (IntKind.u32.wrap (0 - x0))) * 125613361)) 27)).bind fun e_3 => some (IntKind.i64.wrap e_3))

noncomputable def D.impl_vset_least (x0 : Int) : Option (Int) :=
  (D.math_bits_TrailingZeros32 x0).bind fun y_1 => some y_1

noncomputable def D.impl_vset_list (x0 : Int) : Option (((List Int))) :=
  (loopF (σ := Int × (List Int)) (ρ := ((List Int))) (fun (s_52 : Int × (List Int)) => match s_52 with | (x_55, l_56) => cond (x_55 != 0) ((D.impl_vset_least x_55).bind fun y_88 => (appendD l_56 ([y_88] : List Int)).bind fun l_99 => some (.inl ((iand .u32 x_55 (IntKind.u32.wrap (x_55 - 1))), l_99))) (some (.inr l_56))) (x0, ([] : List Int))).bind fun l_81 => some l_81

noncomputable def D.impl_wide (x0 : (List Int)) : Option (((List Int))) :=
  (makeD (0 : Int) 0 (x0.length : Int)).bind fun l_1 => (loopF (σ := (List Int) × Int) (ρ := ((List Int))) (fun (s_52 : (List Int) × Int) => match s_52 with | (l_55, x_60) => cond (decide (x_60 < (x0.length : Int))) ((idx x0 x_60).bind fun e_87 => (appendD l_55 ([e_87] : List Int)).bind fun l_97 => some (.inl (l_97, (IntKind.i64.wrap (x_60 + 1))))) (some (.inr l_55))) (l_1, 0)).bind fun l_80 => some l_80

noncomputable def D.impl_vset_numbers (x0 : Int) : Option (((List Int))) :=
  (D.impl_vset_list x0).bind fun y_1 => (D.impl_wide y_1).bind fun y_12 => some y_12

noncomputable def D.impl_results (x0 : (List Int)) : Option (((List (List Int)))) :=
  (loopF (σ := (List (List Int)) × Int) (ρ := ((List (List Int)))) (fun (s_74 : (List (List Int)) × Int) => match s_74 with | (l_77, x_82) => cond (decide (x_82 < (x0.length : Int))) ((idx x0 x_82).bind fun e_120 => (D.impl_vset_numbers e_120).bind fun y_126 => (appendD l_77 [y_126]).bind fun l_141 => some (.inl (l_141, (IntKind.i64.wrap (x_82 + 1))))) (some (.inr l_77))) (([] : List (List Int)), 0)).bind fun l_113 => some l_113

noncomputable def D.laws_eqInt64S (x0 : (List Int)) (x1 : (List Int)) : Option (Bool) :=
  cond ((x0.length : Int) != (x1.length : Int)) (some false) ((loopF (σ := Int) (ρ := (Unit) ⊕ (Bool)) (fun (x_43 : Int) => cond (decide (x_43 < (x0.length : Int))) ((idx x0 x_43).bind fun e_64 => (idx x1 x_43).bind fun e_70 => cond (e_64 != e_70) (some (.inr (.inr false))) (some (.inl (IntKind.i64.wrap (x_43 + 1))))) (some (.inr (.inl ())))) 0).bind fun zz => match zz with | .inl _ => (some true) | .inr z => (some z))

noncomputable def D.laws_eqInt64SS (x0 : (List (List Int))) (x1 : (List (List Int))) : Option (Bool) :=
  cond ((x0.length : Int) != (x1.length : Int)) (some false) ((loopF (σ := Int) (ρ := (Unit) ⊕ (Bool)) (fun (x_49 : Int) => cond (decide (x_49 < (x0.length : Int))) ((idx x0 x_49).bind fun e_73 => (idx x1 x_49).bind fun e_79 => (D.laws_eqInt64S e_73 e_79).bind fun y_85 => cond (!y_85) (some (.inr (.inr false))) (some (.inl (IntKind.i64.wrap (x_49 + 1))))) (some (.inr (.inl ())))) 0).bind fun zz => match zz with | .inl _ => (some true) | .inr z => (some z))

noncomputable def D.laws_eqGraph (x0_0 : (List (List Int))) (x1_0 : (List (List Int))) : Option (Bool) :=
  (D.laws_eqInt64SS x0_0 x1_0).bind fun y_5 => cond (!y_5) (some false) (some true)

noncomputable def D.laws_szInt64S (x0 : (List Int)) (x1 : Int) : Option (Int) :=
  cond (decide ((IntKind.i64.wrap (x1 - (x0.length : Int))) < 0)) (some (-1)) (some (IntKind.i64.wrap (x1 - (x0.length : Int))))

noncomputable def D.laws_szInt64SS (x0 : (List (List Int))) (x1 : Int) : Option (Int) :=
  cond (decide ((IntKind.i64.wrap (x1 - (x0.length : Int))) < 0)) (some (-1)) ((loopF (σ := Int × Int) (ρ := (Int) ⊕ (Int)) (fun (s_39 : Int × Int) => match s_39 with | (x_42, x_43) => cond (decide (x_43 < (x0.length : Int))) ((idx x0 x_43).bind fun e_64 => (D.laws_szInt64S e_64 x_42).bind fun y_70 => cond (decide (y_70 < 0)) (some (.inr (.inr (-1)))) (some (.inl (y_70, (IntKind.i64.wrap (x_43 + 1)))))) (some (.inr (.inl x_42)))) ((IntKind.i64.wrap (x1 - (x0.length : Int))), 0)).bind fun zz => match zz with | .inl x_61 => (some x_61) | .inr z => (some z))

noncomputable def D.laws_szGraph (x0_0 : (List (List Int))) (x1 : Int) : Option (Int) :=
  (D.laws_szInt64SS x0_0 x1).bind fun y_3 => cond (decide (y_3 < 0)) (some (-1)) (some y_3)

noncomputable def D.laws_heldInt64S (x0 : (List Int)) (x1 : Int) : Option (Int) :=
  (loopF (σ := Int × Int) (ρ := (Int) ⊕ (Int)) (fun (s_24 : Int × Int) => match s_24 with | (x_27, x_28) => cond (decide (x_28 < (x0.length : Int))) ((idx x0 x_28).bind fun e_42 => cond (e_42 != x_27) (some (.inr (.inr (-1)))) (some (.inl ((IntKind.i64.wrap (x_27 + 1)), (IntKind.i64.wrap (x_28 + 1)))))) (some (.inr (.inl x_27)))) (x1, 0)).bind fun zz => match zz with | .inl x_39 => (some x_39) | .inr z => (some z)

noncomputable def D.laws_heldInt64SS (x0 : (List (List Int))) (x1 : Int) : Option (Int) :=
  (loopF (σ := Int × Int) (ρ := (Int) ⊕ (Int)) (fun (s_38 : Int × Int) => match s_38 with | (x_41, x_42) => cond (decide (x_42 < (x0.length : Int))) ((idx x0 x_42).bind fun e_63 => (D.laws_heldInt64S e_63 x_41).bind fun y_69 => cond (decide (y_69 < 0)) (some (.inr (.inr (-1)))) (some (.inl (y_69, (IntKind.i64.wrap (x_42 + 1)))))) (some (.inr (.inl x_41)))) (x1, 0)).bind fun zz => match zz with | .inl x_60 => (some x_60) | .inr z => (some z)

noncomputable def D.laws_toInt64S (x0 : (List Int)) : Option (((List Int))) :=
  (makeD (0 : Int) (x0.length : Int) (x0.length : Int)).bind fun l_1 => (loopF (σ := (List Int) × Int) (ρ := ((List Int))) (fun (s_42 : (List Int) × Int) => match s_42 with | (l_45, x_48) => cond (decide (x_48 < (x0.length : Int))) ((idx x0 x_48).bind fun e_69 => (idx l_45 x_48).bind fun e_75 => some (.inl ((l_45.set (Int.toNat x_48) e_69), (IntKind.i64.wrap (x_48 + 1))))) (some (.inr l_45))) (l_1, 0)).bind fun l_64 => some l_64

noncomputable def D.impl_OrderOk (x0_0 : (List (List Int))) (x1 : (List Int)) : Option (Bool) :=
  (D.impl_GraphOk x0_0).bind fun y_3 => cond ((!y_3) || ((x1.length : Int) != (x0_0.length : Int))) (some false) ((D.slices_Sorted_int64 x1).bind fun y_21 => (D.impl_increasing y_21 (x0_0.length : Int)).bind fun y_32 => some y_32)

noncomputable def D.laws_toInt64SS (x0 : (List (List Int))) : Option (((List (List Int)))) :=
  (makeD (([] : (List Int)) : (List Int)) (x0.length : Int) (x0.length : Int)).bind fun l_1 => (loopF (σ := (List (List Int)) × Int) (ρ := ((List (List Int)))) (fun (s_64 : (List (List Int)) × Int) => match s_64 with | (l_67, x_70) => cond (decide (x_70 < (x0.length : Int))) ((idx x0 x_70).bind fun e_102 => (D.laws_toInt64S e_102).bind fun y_108 => (idx l_67 x_70).bind fun e_119 => some (.inl ((l_67.set (Int.toNat x_70) y_108), (IntKind.i64.wrap (x_70 + 1))))) (some (.inr l_67))) (l_1, 0)).bind fun l_97 => some l_97

noncomputable def D.laws_toGraph (x0_0 : (List (List Int))) : Option (((List (List Int)))) :=
  (D.laws_toInt64SS x0_0).bind fun y_7 => some y_7

noncomputable def D.laws_markInt64S (x0 : (List Int)) (x1 : Int) : Option (Int × ((List Int))) :=
  (loopF (σ := (List Int) × Int × Int) (ρ := ((List Int) × Int)) (fun (s_25 : (List Int) × Int × Int) => match s_25 with | (l_28, x_31, x_32) => cond (decide (x_32 < (l_28.length : Int))) ((idx l_28 x_32).bind fun e_48 => some (.inl ((l_28.set (Int.toNat x_32) x_31), (IntKind.i64.wrap (x_31 + 1)), (IntKind.i64.wrap (x_32 + 1))))) (some (.inr (l_28, x_31)))) (x0, x1, 0)).bind fun (l_42, x_45) => some (x_45, l_42)

noncomputable def D.laws_markInt64SS (x0 : (List (List Int))) (x1 : Int) : Option (Int × ((List (List Int)))) :=
  (loopF (σ := (List (List Int)) × Int × Int) (ρ := ((List (List Int)) × Int)) (fun (s_43 : (List (List Int)) × Int × Int) => match s_43 with | (l_46, x_49, x_50) => cond (decide (x_50 < (l_46.length : Int))) ((idx l_46 x_50).bind fun e_75 => (D.laws_markInt64S e_75 x_49).bind fun y_81 => some (.inl ((l_46.set (Int.toNat x_50) y_81.2), y_81.1, (IntKind.i64.wrap (x_50 + 1))))) (some (.inr (l_46, x_49)))) (x0, x1, 0)).bind fun (l_69, x_72) => some (x_72, l_69)

noncomputable def D.laws_markGraph (x0_0 : (List (List Int))) (x1 : Int) : Option (Int × ((List (List Int)))) :=
  (D.laws_markInt64SS x0_0 x1).bind fun y_3 => some (y_3.1, y_3.2)

noncomputable def D.impl_firstOf (x0 : Int) : Option (Int) :=
  cond (decide (x0 < 0)) none (some (IntKind.u32.wrap ((ishl .u32 1 x0) - 1)))

noncomputable def D.impl_nets_all (x0 : (List Int)) : Option (Int) :=
  (D.impl_firstOf (x0.length : Int)).bind fun y_1 => some y_1

noncomputable def D.impl_elimination (x0 : (List Int)) (x1 : (List Int)) : Option (((List Int)) × ((List Int))) :=
  (((appendD ([] : List Int) x0).bind fun l_56 => (D.impl_nets_all x0).bind fun y_62 => (makeD (0 : Int) (x0.length : Int) (x0.length : Int)).bind fun l_68 => some (l_56, l_68, y_62) : Option ((List Int) × (List Int) × Int))).bind fun (l_34, l_39, x_44) => (loopF (σ := (List Int) × (List Int) × Int × Int) (ρ := ((List Int) × (List Int))) (fun (s_459 : (List Int) × (List Int) × Int × Int) => match s_459 with | (l_462, l_465, x_468, x_469) => cond (decide (x_469 < (x1.length : Int))) ((idx x1 x_469).bind fun e_665 => (D.impl_one e_665).bind fun y_671 => (idx l_462 e_665).bind fun e_678 => (idx l_465 e_665).bind fun e_684 => (idx (l_465.set (Int.toNat e_665) (iand .u32 e_678 (iandNot .u32 x_468 y_671))) e_665).bind fun e_690 => (D.impl_vset_list e_690).bind fun y_696 => (loopF (σ := (List Int) × Int) (ρ := ((List Int))) (fun (s_776 : (List Int) × Int) => match s_776 with | (l_779, x_782) => cond (decide (x_782 < (y_696.length : Int))) ((idx y_696 x_782).bind fun e_820 => (idx l_779 e_820).bind fun e_826 => (idx (l_465.set (Int.toNat e_665) (iand .u32 e_678 (iandNot .u32 x_468 y_671))) e_665).bind fun e_832 => (D.impl_one e_820).bind fun y_838 => (idx l_779 e_820).bind fun e_841 => some (.inl ((l_779.set (Int.toNat e_820) (ior .u32 e_826 (iandNot .u32 e_832 y_838))), (IntKind.i64.wrap (x_782 + 1))))) (some (.inr l_779))) (l_462, 0)).bind fun l_815 => some (.inl (l_815, (l_465.set (Int.toNat e_665) (iand .u32 e_678 (iandNot .u32 x_468 y_671))), (iandNot .u32 x_468 y_671), (IntKind.i64.wrap (x_469 + 1))))) (some (.inr (l_462, l_465)))) (l_34, l_39, x_44, 0)).bind fun (l_657, l_660) => some (l_657, l_660)

noncomputable def D.impl_nets_graph (x0 : (List Int)) : Option (((List (List Int)))) :=
  (loopF (σ := Int × (List (List Int))) (ρ := ((List (List Int)))) (fun (s_98 : Int × (List (List Int))) => match s_98 with | (x_104, l_105) => cond (decide (x_104 < (x0.length : Int))) ((idx x0 x_104).bind fun e_158 => (D.impl_vset_numbers e_158).bind fun y_167 => (appendD l_105 ([y_167] : List (List Int))).bind fun l_190 => some (.inl ((IntKind.i64.wrap (x_104 + 1)), l_190))) (some (.inr l_105))) (0, ([] : List (List Int)))).bind fun l_151 => some l_151

noncomputable def D.impl_FillOf (x0_0 : (List (List Int))) (x1 : (List Int)) : Option (((List (List Int))) × Bool) :=
  (D.impl_OrderOk x0_0 x1).bind fun y_5 => cond (!y_5) (some (([] : List (List Int)), false)) ((D.impl_netsOf x0_0).bind fun y_18 => (D.impl_narrow x1).bind fun y_29 => (D.impl_elimination y_18 y_29).bind fun y_40 => (D.impl_nets_graph y_40.1).bind fun y_64 => some (y_64, true))

noncomputable def D.impl_edgesOf (x0_0 : (List (List Int))) : Option (((List (List Int)))) :=
  (loopF (σ := (List (List Int)) × Int) (ρ := ((List (List Int)))) (fun (s_288 : (List (List Int)) × Int) => match s_288 with | (l_291, x_296) => cond (decide (x_296 < (x0_0.length : Int))) ((idx x0_0 x_296).bind fun e_441 => (loopF (σ := (List (List Int)) × Int) (ρ := ((List (List Int)))) (fun (s_508 : (List (List Int)) × Int) => match s_508 with | (l_511, x_516) => cond (decide (x_516 < (e_441.length : Int))) ((idx e_441 x_516).bind fun e_551 => cond (decide (x_296 < e_551)) ((appendD l_511 ([([x_296, e_551] : List Int)] : List (List Int))).bind fun l_569 => some (.inl (l_569, (IntKind.i64.wrap (x_516 + 1))))) (some (.inl (l_511, (IntKind.i64.wrap (x_516 + 1)))))) (some (.inr l_511))) (l_291, 0)).bind fun l_544 => some (.inl (l_544, (IntKind.i64.wrap (x_296 + 1))))) (some (.inr l_291))) (([] : List (List Int)), 0)).bind fun l_434 => some l_434

noncomputable def D.impl_EdgesOf (x0_0 : (List (List Int))) : Option (((List (List Int)))) :=
  (D.impl_GraphOk x0_0).bind fun y_3 => cond (!y_3) (some ([] : List (List Int))) ((D.impl_edgesOf x0_0).bind fun y_14 => some y_14)

noncomputable def D.impl_ManyEdges (x0_0 : (List (List Int))) : Option (Int) :=
  (D.impl_EdgesOf x0_0).bind fun y_3 => some (y_3.length : Int)

noncomputable def D.impl_FillMany (x0_0 : (List (List Int))) (x1 : (List Int)) : Option (Int) :=
  (D.impl_FillOf x0_0 x1).bind fun y_3 => cond (!y_3.2) (some (-1)) ((D.impl_ManyEdges y_3.1).bind fun y_17 => (D.impl_ManyEdges x0_0).bind fun y_23 => some (IntKind.i64.wrap (y_17 - y_23)))

noncomputable def D.math_bits_OnesCount32 (x0 : Int) : Option (Int) :=
  (strAt popTab (ishr .u32 x0 24)).bind fun e_2 => (strAt popTab (iand .u32 (ishr .u32 x0 16) 255)).bind fun e_5 => (strAt popTab (iand .u32 (ishr .u32 x0 8) 255)).bind fun e_8 => (strAt popTab (iand .u32 x0 255)).bind fun e_10 => some (IntKind.i64.wrap (IntKind.u8.wrap ((IntKind.u8.wrap ((IntKind.u8.wrap (e_2 + e_5)) + e_8)) + e_10)))

noncomputable def D.impl_vset_size (x0 : Int) : Option (Int) :=
  (D.math_bits_OnesCount32 x0).bind fun y_1 => some y_1

end Go.Sx

namespace Go.Sx

end Go.Sx

namespace Go.Sx

end Go.Sx

namespace Go.Sx

noncomputable def D.cmp_isNaN_int (x0 : Int) : Option (Bool) :=
  some (x0 != x0)

noncomputable def D.cmp_Compare_int (x0 : Int) (x1 : Int) : Option (Int) :=
  (D.cmp_isNaN_int x0).bind fun y_1 => (D.cmp_isNaN_int x1).bind fun y_8 => cond y_1 (cond y_8 (some 0) (some (-1))) (cond y_8 (some 1) (cond (decide (x0 < x1)) (some (-1)) (cond (decide (x1 < x0)) (some 1) (some 0))))

noncomputable def D.slices_Compare_int_int (x0 : (List Int)) (x1 : (List Int)) : Option (Int) :=
  (loopF (σ := Int) (ρ := (Unit) ⊕ (Int)) (fun (x_54 : Int) => cond (decide (x_54 < (x0.length : Int))) ((idx x0 x_54).bind fun e_81 => cond (decide ((x1.length : Int) ≤ x_54)) (some (.inr (.inr 1))) ((idx x1 x_54).bind fun e_88 => (D.cmp_Compare_int e_81 e_88).bind fun y_94 => cond (y_94 != 0) (some (.inr (.inr y_94))) (some (.inl (IntKind.i64.wrap (x_54 + 1)))))) (some (.inr (.inl ())))) 0).bind fun zz => match zz with | .inl _ => (cond (decide ((x0.length : Int) < (x1.length : Int))) (some (-1)) (some 0)) | .inr z => (some z)

noncomputable def D.spec_l25Bits (x0_0 : (List (List Int))) : Option (((List Int))) :=
  (loopF (σ := (List Int) × Int) (ρ := ((List Int))) (fun (s_232 : (List Int) × Int) => match s_232 with | (l_235, x_240) => cond (decide (x_240 < (x0_0.length : Int))) ((loopF (σ := Int × Int) (ρ := (Int)) (fun (s_404 : Int × Int) => match s_404 with | (x_407, x_408) => (idx x0_0 x_240).bind fun e_433 => cond (decide (x_408 < (e_433.length : Int))) ((idx x0_0 x_240).bind fun e_440 => (idx e_440 x_408).bind fun e_446 => cond (decide ((IntKind.u64.wrap e_446) < 0)) none (some (.inl ((ior .i64 x_407 (ishl .i64 1 (IntKind.u64.wrap e_446))), (IntKind.i64.wrap (x_408 + 1)))))) (some (.inr x_407))) (0, 0)).bind fun x_431 => (appendD l_235 ([x_431] : List Int)).bind fun l_457 => some (.inl (l_457, (IntKind.i64.wrap (x_240 + 1))))) (some (.inr l_235))) (([] : List Int), 0)).bind fun l_350 => some l_350

noncomputable def D.spec_l25All (x0_0 : (List (List Int))) : Option (Int) :=
  cond (decide ((IntKind.u64.wrap (x0_0.length : Int)) < 0)) none (some (IntKind.i64.wrap ((ishl .i64 1 (IntKind.u64.wrap (x0_0.length : Int))) - 1)))

noncomputable def D.spec_l25Stable (x0 : (List Int)) (x1 : Int) : Option (Bool) :=
  (loopF (σ := Int) (ρ := (Unit) ⊕ (Bool)) (fun (x_62 : Int) => cond (decide (x_62 < (x0.length : Int))) (cond (decide ((IntKind.u64.wrap x_62) < 0)) none ((cond ((iand .i64 (ishr .i64 x1 (IntKind.u64.wrap x_62)) 1) == 1) ((idx x0 x_62).bind fun e_111 => some ((iand .i64 e_111 x1) != 0)) (some false)).bind fun b_109 => cond b_109 (some (.inr (.inr false))) (some (.inl (IntKind.i64.wrap (x_62 + 1)))))) (some (.inr (.inl ())))) 0).bind fun zz => match zz with | .inl _ => (some true) | .inr z => (some z)

noncomputable def D.spec_l25Many (x0 : Int) : Option (Int) :=
  (loopF (σ := Int × Int) (ρ := (Int)) (fun (s_10 : Int × Int) => match s_10 with | (x_13, x_14) => cond (decide ((0 : Int) < x_13)) (some (.inl ((iand .i64 x_13 (IntKind.i64.wrap (x_13 - 1))), (IntKind.i64.wrap (x_14 + 1))))) (some (.inr x_14))) (x0, 0)).bind fun x_18 => some x_18

noncomputable def D.spec_l25Less (x0 : Int) (x1 : Int) : Option (Bool) :=
  some ((iand .i64 x0 (iand .i64 (ixor .i64 x0 x1) (IntKind.i64.wrap (0 - (ixor .i64 x0 x1))))) != 0)

noncomputable def D.spec_l25Insert (x0 : (List Int)) (x1 : Int) : Option (((List Int))) :=
  (loopF (σ := Int) (ρ := (Int)) (fun (x_360 : Int) => (cond (decide ((0 : Int) < x_360)) ((D.spec_l25Many x1).bind fun y_628 => (idx x0 (IntKind.i64.wrap (x_360 - 1))).bind fun e_631 => (D.spec_l25Many e_631).bind fun y_637 => (cond (decide (y_628 < y_637)) (some true) ((D.spec_l25Many x1).bind fun y_678 => (idx x0 (IntKind.i64.wrap (x_360 - 1))).bind fun e_681 => (D.spec_l25Many e_681).bind fun y_687 => (cond (y_678 == y_687) ((idx x0 (IntKind.i64.wrap (x_360 - 1))).bind fun e_703 => (D.spec_l25Less x1 e_703).bind fun y_709 => some y_709) (some false)).bind fun b_701 => some b_701)).bind fun b_676 => some b_676) (some false)).bind fun b_626 => cond b_626 (some (.inl (IntKind.i64.wrap (x_360 - 1)))) (some (.inr x_360))) (x0.length : Int)).bind fun x_538 => (sliceD x0 0 x_538).bind fun l_719 => (appendD ([] : List Int) l_719).bind fun l_723 => (appendD l_723 ([x1] : List Int)).bind fun l_733 => (sliceD x0 x_538 (x0.length : Int)).bind fun l_739 => (appendD l_733 l_739).bind fun l_743 => some l_743

noncomputable def D.spec_l25Set (x0 : Int) : Option (((List Int))) :=
  (loopF (σ := (List Int) × Int) (ρ := ((List Int))) (fun (s_44 : (List Int) × Int) => match s_44 with | (l_47, x_52) => cond (decide ((IntKind.u64.wrap x_52) < 0)) none (cond (decide ((0 : Int) < (ishr .i64 x0 (IntKind.u64.wrap x_52)))) (cond (decide ((IntKind.u64.wrap x_52) < 0)) none (cond ((iand .i64 (ishr .i64 x0 (IntKind.u64.wrap x_52)) 1) == 1) ((appendD l_47 ([x_52] : List Int)).bind fun l_83 => some (.inl (l_83, (IntKind.i64.wrap (x_52 + 1))))) (some (.inl (l_47, (IntKind.i64.wrap (x_52 + 1))))))) (some (.inr l_47)))) (([] : List Int), 0)).bind fun l_69 => some l_69

noncomputable def D.spec_LastingStables (x0_0 : (List (List Int))) : Option (((List (List Int)))) :=
  (D.spec_GraphOk x0_0).bind fun y_7 => cond (!y_7) (some ([] : List (List Int))) ((D.spec_l25Bits x0_0).bind fun y_15 => (loopF (σ := (List Int) × Int) (ρ := ((List Int))) (fun (s_227 : (List Int) × Int) => match s_227 with | (l_230, x_235) => (D.spec_l25All x0_0).bind fun y_337 => cond (decide (x_235 ≤ y_337)) ((D.spec_l25Stable y_15 x_235).bind fun y_345 => cond (!y_345) (some (.inl (l_230, (IntKind.i64.wrap (x_235 + 1))))) ((loopF (σ := Int × Int) (ρ := (Int)) (fun (s_381 : Int × Int) => match s_381 with | (x_384, x_385) => cond (decide (x_385 < (y_15.length : Int))) (cond (decide ((IntKind.u64.wrap x_385) < 0)) none (cond ((iand .i64 (ishr .i64 x_235 (IntKind.u64.wrap x_385)) 1) == 1) ((idx y_15 x_385).bind fun e_402 => some (.inl ((ior .i64 x_384 e_402), (IntKind.i64.wrap (x_385 + 1))))) (some (.inl (x_384, (IntKind.i64.wrap (x_385 + 1))))))) (some (.inr x_384))) (x_235, 0)).bind fun x_397 => (D.spec_l25All x0_0).bind fun y_408 => cond (x_397 == y_408) ((D.spec_l25Insert l_230 x_235).bind fun y_416 => some (.inl (y_416, (IntKind.i64.wrap (x_235 + 1))))) (some (.inl (l_230, (IntKind.i64.wrap (x_235 + 1))))))) (some (.inr l_230))) (([] : List Int), 0)).bind fun l_331 => (loopF (σ := (List (List Int)) × Int) (ρ := ((List (List Int)))) (fun (s_503 : (List (List Int)) × Int) => match s_503 with | (l_506, x_511) => cond (decide (x_511 < (l_331.length : Int))) ((idx l_331 x_511).bind fun e_552 => (D.spec_l25Set e_552).bind fun y_558 => (appendD l_506 ([y_558] : List (List Int))).bind fun l_576 => some (.inl (l_576, (IntKind.i64.wrap (x_511 + 1))))) (some (.inr l_506))) (([] : List (List Int)), 0)).bind fun l_545 => some l_545)

noncomputable def D.impl_complement (x0 : (List Int)) : Option (((List Int))) :=
  (loopF (σ := (List Int) × Int) (ρ := ((List Int))) (fun (s_78 : (List Int) × Int) => match s_78 with | (l_81, x_86) => cond (decide (x_86 < (x0.length : Int))) ((idx x0 x_86).bind fun e_127 => (D.impl_nets_all x0).bind fun y_133 => (D.impl_one x_86).bind fun y_140 => (appendD l_81 ([(iandNot .u32 (iandNot .u32 y_133 e_127) y_140)] : List Int)).bind fun l_151 => some (.inl (l_151, (IntKind.i64.wrap (x_86 + 1))))) (some (.inr l_81))) (([] : List Int), 0)).bind fun l_120 => some l_120

noncomputable def D.impl_growCliquesR : Nat → ((List Int)) → Int → Int → Int → ((List Int)) → Option (((List Int)))
  | 0, _, _, _, _, _ => none
  | fuel + 1, x0, x1, x2, x3, x4 => cond (x2 == 0) (((cond (x3 == 0) ((appendD x4 ([x1] : List Int)).bind fun l_27 => some l_27) (some x4) : Option ((List Int)))).bind fun l_16 => some l_16) ((D.impl_vset_list x2).bind fun y_33 => (loopF (σ := Int × Int × (List Int) × Int) (ρ := ((List Int))) (fun (s_155 : Int × Int × (List Int) × Int) => match s_155 with | (x_158, x_159, l_160, x_165) => cond (decide (x_165 < (y_33.length : Int))) ((idx y_33 x_165).bind fun e_224 => (D.impl_one e_224).bind fun y_230 => (idx x0 e_224).bind fun e_233 => (idx x0 e_224).bind fun e_239 => (D.impl_growCliquesR fuel x0 (ior .u32 x1 y_230) (iand .u32 x_158 e_233) (iand .u32 x_159 e_239) l_160).bind fun y_247 => (D.impl_one e_224).bind fun y_258 => (D.impl_one e_224).bind fun y_265 => some (.inl ((iandNot .u32 x_158 y_258), (ior .u32 x_159 y_265), y_247, (IntKind.i64.wrap (x_165 + 1))))) (some (.inr l_160))) (x2, x3, x4, 0)).bind fun l_217 => some l_217)

noncomputable def D.impl_growCliques (x0 : (List Int)) (x1 : Int) (x2 : Int) (x3 : Int) (x4 : (List Int)) : Option (((List Int))) := D.impl_growCliquesR recFuel x0 x1 x2 x3 x4

noncomputable def D.impl_compareSets (x0 : Int) (x1 : Int) : Option (Int) :=
  (D.impl_vset_list x0).bind fun y_1 => (D.impl_vset_list x1).bind fun y_12 => (D.slices_Compare_int_int y_1 y_12).bind fun y_23 => some y_23

noncomputable def D.slices_insertionSortCmpFunc_impl_vset__impl_compareSets (x0 : (List Int)) (x1 : Int) (x2 : Int) : Option (((List Int))) :=
  (loopF (σ := (List Int) × Int) (ρ := ((List Int))) (fun (s_560 : (List Int) × Int) => match s_560 with | (l_563, x_566) => cond (decide (x_566 < x2)) ((loopF (σ := (List Int) × Int) (ρ := ((List Int))) (fun (s_984 : (List Int) × Int) => match s_984 with | (l_987, x_990) => (cond (decide (x1 < x_990)) ((idx l_987 x_990).bind fun e_1079 => (idx l_987 (IntKind.i64.wrap (x_990 - 1))).bind fun e_1085 => (D.impl_compareSets e_1079 e_1085).bind fun y_1091 => some (decide (y_1091 < 0))) (some false)).bind fun b_1077 => cond b_1077 ((idx l_987 (IntKind.i64.wrap (x_990 - 1))).bind fun e_1097 => (idx l_987 x_990).bind fun e_1103 => (idx l_987 x_990).bind fun e_1109 => (idx (l_987.set (Int.toNat x_990) e_1097) (IntKind.i64.wrap (x_990 - 1))).bind fun e_1117 => some (.inl (((l_987.set (Int.toNat x_990) e_1097).set (Int.toNat (IntKind.i64.wrap (x_990 - 1))) e_1103), (IntKind.i64.wrap (x_990 - 1))))) (some (.inr l_987))) (l_563, x_566)).bind fun l_1056 => some (.inl (l_1056, (IntKind.i64.wrap (x_566 + 1))))) (some (.inr l_563))) (x0, (IntKind.i64.wrap (x1 + 1)))).bind fun l_844 => some l_844

noncomputable def D.slices_siftDownCmpFunc_impl_vset__impl_compareSets (x0 : (List Int)) (x1 : Int) (x2 : Int) (x3 : Int) : Option (((List Int))) :=
  (loopF (σ := (List Int) × Int) (ρ := ((List Int)) ⊕ (((List Int)))) (fun (s_186 : (List Int) × Int) => match s_186 with | (l_189, x_192) => cond (decide (x2 ≤ (IntKind.i64.wrap ((IntKind.i64.wrap (2 * x_192)) + 1)))) (some (.inr (.inl l_189))) ((cond (decide ((IntKind.i64.wrap ((IntKind.i64.wrap ((IntKind.i64.wrap (2 * x_192)) + 1)) + 1)) < x2)) ((idx l_189 (IntKind.i64.wrap (x3 + (IntKind.i64.wrap ((IntKind.i64.wrap (2 * x_192)) + 1))))).bind fun e_307 => (idx l_189 (IntKind.i64.wrap ((IntKind.i64.wrap (x3 + (IntKind.i64.wrap ((IntKind.i64.wrap (2 * x_192)) + 1)))) + 1))).bind fun e_313 => (D.impl_compareSets e_307 e_313).bind fun y_319 => some (decide (y_319 < 0))) (some false)).bind fun b_305 => ((cond b_305 (some (IntKind.i64.wrap ((IntKind.i64.wrap ((IntKind.i64.wrap (2 * x_192)) + 1)) + 1))) (some (IntKind.i64.wrap ((IntKind.i64.wrap (2 * x_192)) + 1))) : Option (Int))).bind fun x_328 => (idx l_189 (IntKind.i64.wrap (x3 + x_192))).bind fun e_331 => (idx l_189 (IntKind.i64.wrap (x3 + x_328))).bind fun e_337 => (D.impl_compareSets e_331 e_337).bind fun y_343 => cond (!(decide (y_343 < 0))) (some (.inr (.inr l_189))) ((idx l_189 (IntKind.i64.wrap (x3 + x_328))).bind fun e_349 => (idx l_189 (IntKind.i64.wrap (x3 + x_192))).bind fun e_355 => (idx l_189 (IntKind.i64.wrap (x3 + x_192))).bind fun e_361 => (idx (l_189.set (Int.toNat (IntKind.i64.wrap (x3 + x_192))) e_349) (IntKind.i64.wrap (x3 + x_328))).bind fun e_369 => some (.inl (((l_189.set (Int.toNat (IntKind.i64.wrap (x3 + x_192))) e_349).set (Int.toNat (IntKind.i64.wrap (x3 + x_328))) e_355), x_328))))) (x0, x1)).bind fun zz => match zz with | .inl l_283 => (some l_283) | .inr z => (some z)

noncomputable def D.slices_heapSortCmpFunc_impl_vset__impl_compareSets (x0 : (List Int)) (x1 : Int) (x2 : Int) : Option (((List Int))) :=
  (loopF (σ := (List Int) × Int) (ρ := ((List Int))) (fun (s_30 : (List Int) × Int) => match s_30 with | (l_33, x_36) => cond (decide ((0 : Int) ≤ x_36)) ((D.slices_siftDownCmpFunc_impl_vset__impl_compareSets l_33 x_36 (IntKind.i64.wrap (x2 - x1)) x1).bind fun y_54 => some (.inl (y_54, (IntKind.i64.wrap (x_36 - 1))))) (some (.inr l_33))) (x0, (IntKind.i64.wrap (Int.tdiv (IntKind.i64.wrap ((IntKind.i64.wrap (x2 - x1)) - 1)) 2)))).bind fun l_49 => (loopF (σ := (List Int) × Int) (ρ := ((List Int))) (fun (s_144 : (List Int) × Int) => match s_144 with | (l_147, x_150) => cond (decide ((0 : Int) ≤ x_150)) ((idx l_147 (IntKind.i64.wrap (x1 + x_150))).bind fun e_194 => (idx l_147 x1).bind fun e_200 => (idx l_147 x1).bind fun e_206 => (idx (l_147.set (Int.toNat x1) e_194) (IntKind.i64.wrap (x1 + x_150))).bind fun e_214 => (D.slices_siftDownCmpFunc_impl_vset__impl_compareSets ((l_147.set (Int.toNat x1) e_194).set (Int.toNat (IntKind.i64.wrap (x1 + x_150))) e_200) 0 x_150 x1).bind fun y_220 => some (.inl (y_220, (IntKind.i64.wrap (x_150 - 1))))) (some (.inr l_147))) (l_49, (IntKind.i64.wrap ((IntKind.i64.wrap (x2 - x1)) - 1)))).bind fun l_189 => some l_189

noncomputable def D.slices_breakPatternsCmpFunc_impl_vset__impl_compareSets (x0 : (List Int)) (x1 : Int) (x2 : Int) : Option (((List Int))) :=
  cond (decide ((8 : Int) ≤ (IntKind.i64.wrap (x2 - x1)))) ((D.slices_nextPowerOfTwo (IntKind.i64.wrap (x2 - x1))).bind fun y_4 => (loopF (σ := (List Int) × Int × Int) (ρ := ((List Int))) (fun (s_103 : (List Int) × Int × Int) => match s_103 with | (l_106, x_109, x_110) => cond (decide (x_109 ≤ (IntKind.i64.wrap ((IntKind.i64.wrap (x1 + (IntKind.i64.wrap ((IntKind.i64.wrap (Int.tdiv (IntKind.i64.wrap (x2 - x1)) 4)) * 2)))) + 1)))) ((D.slices_xorshift_Next x_110).bind fun y_159 => ((cond (decide ((IntKind.i64.wrap (x2 - x1)) ≤ (IntKind.i64.wrap (iand .u64 y_159.1 (IntKind.u64.wrap (y_4 - 1)))))) (some (IntKind.i64.wrap ((IntKind.i64.wrap (iand .u64 y_159.1 (IntKind.u64.wrap (y_4 - 1)))) - (IntKind.i64.wrap (x2 - x1))))) (some (IntKind.i64.wrap (iand .u64 y_159.1 (IntKind.u64.wrap (y_4 - 1))))) : Option (Int))).bind fun x_170 => (idx l_106 (IntKind.i64.wrap (x1 + x_170))).bind fun e_173 => (idx l_106 x_109).bind fun e_179 => (idx l_106 x_109).bind fun e_185 => (idx (l_106.set (Int.toNat x_109) e_173) (IntKind.i64.wrap (x1 + x_170))).bind fun e_193 => some (.inl (((l_106.set (Int.toNat x_109) e_173).set (Int.toNat (IntKind.i64.wrap (x1 + x_170))) e_179), (IntKind.i64.wrap (x_109 + 1)), y_159.2))) (some (.inr l_106))) (x0, (IntKind.i64.wrap ((IntKind.i64.wrap (x1 + (IntKind.i64.wrap ((IntKind.i64.wrap (Int.tdiv (IntKind.i64.wrap (x2 - x1)) 4)) * 2)))) - 1)), (IntKind.u64.wrap (IntKind.i64.wrap (x2 - x1))))).bind fun l_154 => some l_154) (some x0)

noncomputable def D.slices_order2CmpFunc_impl_vset__impl_compareSets (x0 : (List Int)) (x1 : Int) (x2 : Int) (x3_0 : Int) : Option (Int × Int × ((List Int)) × Int) :=
  (idx x0 x2).bind fun e_1 => (idx x0 x1).bind fun e_7 => (D.impl_compareSets e_1 e_7).bind fun y_13 => cond (decide (y_13 < 0)) (some (x2, x1, x0, (IntKind.i64.wrap (x3_0 + 1)))) (some (x1, x2, x0, x3_0))

noncomputable def D.slices_medianCmpFunc_impl_vset__impl_compareSets (x0 : (List Int)) (x1 : Int) (x2 : Int) (x3 : Int) (x4_0 : Int) : Option (Int × ((List Int)) × Int) :=
  (D.slices_order2CmpFunc_impl_vset__impl_compareSets x0 x1 x2 x4_0).bind fun y_1 => (D.slices_order2CmpFunc_impl_vset__impl_compareSets y_1.2.2.1 y_1.2.1 x3 y_1.2.2.2).bind fun y_10 => (D.slices_order2CmpFunc_impl_vset__impl_compareSets y_10.2.2.1 y_1.1 y_10.1 y_10.2.2.2).bind fun y_19 => some (y_19.2.1, y_19.2.2.1, y_19.2.2.2)

noncomputable def D.slices_medianAdjacentCmpFunc_impl_vset__impl_compareSets (x0 : (List Int)) (x1 : Int) (x2_0 : Int) : Option (Int × ((List Int)) × Int) :=
  (D.slices_medianCmpFunc_impl_vset__impl_compareSets x0 (IntKind.i64.wrap (x1 - 1)) x1 (IntKind.i64.wrap (x1 + 1)) x2_0).bind fun y_1 => some (y_1.1, y_1.2.1, y_1.2.2)

noncomputable def D.slices_choosePivotCmpFunc_impl_vset__impl_compareSets (x0 : (List Int)) (x1 : Int) (x2 : Int) : Option (Int × Int × ((List Int))) :=
  cond (decide ((8 : Int) ≤ (IntKind.i64.wrap (x2 - x1)))) (((cond (decide ((50 : Int) ≤ (IntKind.i64.wrap (x2 - x1)))) ((D.slices_medianAdjacentCmpFunc_impl_vset__impl_compareSets x0 (IntKind.i64.wrap (x1 + (IntKind.i64.wrap ((IntKind.i64.wrap (Int.tdiv (IntKind.i64.wrap (x2 - x1)) 4)) * 1)))) 0).bind fun y_44 => (D.slices_medianAdjacentCmpFunc_impl_vset__impl_compareSets y_44.2.1 (IntKind.i64.wrap (x1 + (IntKind.i64.wrap ((IntKind.i64.wrap (Int.tdiv (IntKind.i64.wrap (x2 - x1)) 4)) * 2)))) y_44.2.2).bind fun y_53 => (D.slices_medianAdjacentCmpFunc_impl_vset__impl_compareSets y_53.2.1 (IntKind.i64.wrap (x1 + (IntKind.i64.wrap ((IntKind.i64.wrap (Int.tdiv (IntKind.i64.wrap (x2 - x1)) 4)) * 3)))) y_53.2.2).bind fun y_62 => some (y_62.2.1, y_44.1, y_53.1, y_62.1, y_62.2.2)) (some (x0, (IntKind.i64.wrap (x1 + (IntKind.i64.wrap ((IntKind.i64.wrap (Int.tdiv (IntKind.i64.wrap (x2 - x1)) 4)) * 1)))), (IntKind.i64.wrap (x1 + (IntKind.i64.wrap ((IntKind.i64.wrap (Int.tdiv (IntKind.i64.wrap (x2 - x1)) 4)) * 2)))), (IntKind.i64.wrap (x1 + (IntKind.i64.wrap ((IntKind.i64.wrap (Int.tdiv (IntKind.i64.wrap (x2 - x1)) 4)) * 3)))), 0)) : Option ((List Int) × Int × Int × Int × Int))).bind fun (l_35, x_38, x_39, x_40, x_41) => (D.slices_medianCmpFunc_impl_vset__impl_compareSets l_35 x_38 x_39 x_40 x_41).bind fun y_71 => cond (y_71.2.2 == 0) (some (y_71.1, 1, y_71.2.1)) (cond (y_71.2.2 == 12) (some (y_71.1, 2, y_71.2.1)) (some (y_71.1, 0, y_71.2.1)))) (cond ((0 : Int) == 0) (some ((IntKind.i64.wrap (x1 + (IntKind.i64.wrap ((IntKind.i64.wrap (Int.tdiv (IntKind.i64.wrap (x2 - x1)) 4)) * 2)))), 1, x0)) (cond ((0 : Int) == 12) (some ((IntKind.i64.wrap (x1 + (IntKind.i64.wrap ((IntKind.i64.wrap (Int.tdiv (IntKind.i64.wrap (x2 - x1)) 4)) * 2)))), 2, x0)) (some ((IntKind.i64.wrap (x1 + (IntKind.i64.wrap ((IntKind.i64.wrap (Int.tdiv (IntKind.i64.wrap (x2 - x1)) 4)) * 2)))), 0, x0))))

noncomputable def D.slices_reverseRangeCmpFunc_impl_vset__impl_compareSets (x0 : (List Int)) (x1 : Int) (x2 : Int) : Option (((List Int))) :=
  (loopF (σ := (List Int) × Int × Int) (ρ := ((List Int))) (fun (s_65 : (List Int) × Int × Int) => match s_65 with | (l_68, x_71, x_72) => cond (decide (x_71 < x_72)) ((idx l_68 x_72).bind fun e_107 => (idx l_68 x_71).bind fun e_113 => (idx l_68 x_71).bind fun e_119 => (idx (l_68.set (Int.toNat x_71) e_107) x_72).bind fun e_127 => some (.inl (((l_68.set (Int.toNat x_71) e_107).set (Int.toNat x_72) e_113), (IntKind.i64.wrap (x_71 + 1)), (IntKind.i64.wrap (x_72 - 1))))) (some (.inr l_68))) (x0, x1, (IntKind.i64.wrap (x2 - 1)))).bind fun l_102 => some l_102

noncomputable def D.slices_partialInsertionSortCmpFunc_impl_vset__impl_compareSets (x0 : (List Int)) (x1 : Int) (x2 : Int) : Option (Bool × ((List Int))) :=
  (loopF (σ := (List Int) × Int × Int) (ρ := ((List Int)) ⊕ (Bool × ((List Int)))) (fun (s_1625 : (List Int) × Int × Int) => match s_1625 with | (l_1628, x_1631, x_1632) => cond (decide (x_1632 < 5)) ((loopF (σ := Int) (ρ := (Int)) (fun (x_2530 : Int) => (cond (decide (x_2530 < x2)) ((idx l_1628 x_2530).bind fun e_2591 => (idx l_1628 (IntKind.i64.wrap (x_2530 - 1))).bind fun e_2597 => (D.impl_compareSets e_2591 e_2597).bind fun y_2603 => some (!(decide (y_2603 < 0)))) (some false)).bind fun b_2589 => cond b_2589 (some (.inl (IntKind.i64.wrap (x_2530 + 1)))) (some (.inr x_2530))) x_1631).bind fun x_2570 => cond (x_2570 == x2) (some (.inr (.inr (true, l_1628)))) (cond (decide ((IntKind.i64.wrap (x2 - x1)) < 50)) (some (.inr (.inr (false, l_1628)))) ((idx l_1628 (IntKind.i64.wrap (x_2570 - 1))).bind fun e_2611 => (idx l_1628 x_2570).bind fun e_2617 => (idx l_1628 x_2570).bind fun e_2623 => (idx (l_1628.set (Int.toNat x_2570) e_2611) (IntKind.i64.wrap (x_2570 - 1))).bind fun e_2631 => ((cond (decide ((2 : Int) ≤ (IntKind.i64.wrap (x_2570 - x1)))) ((loopF (σ := (List Int) × Int) (ρ := ((List Int))) (fun (s_2947 : (List Int) × Int) => match s_2947 with | (l_2950, x_2953) => cond (decide ((1 : Int) ≤ x_2953)) ((idx l_2950 x_2953).bind fun e_3006 => (idx l_2950 (IntKind.i64.wrap (x_2953 - 1))).bind fun e_3012 => (D.impl_compareSets e_3006 e_3012).bind fun y_3018 => cond (!(decide (y_3018 < 0))) (some (.inr l_2950)) ((idx l_2950 (IntKind.i64.wrap (x_2953 - 1))).bind fun e_3024 => (idx l_2950 x_2953).bind fun e_3030 => (idx l_2950 x_2953).bind fun e_3036 => (idx (l_2950.set (Int.toNat x_2953) e_3024) (IntKind.i64.wrap (x_2953 - 1))).bind fun e_3044 => some (.inl (((l_2950.set (Int.toNat x_2953) e_3024).set (Int.toNat (IntKind.i64.wrap (x_2953 - 1))) e_3030), (IntKind.i64.wrap (x_2953 - 1)))))) (some (.inr l_2950))) (((l_1628.set (Int.toNat x_2570) e_2611).set (Int.toNat (IntKind.i64.wrap (x_2570 - 1))) e_2617), (IntKind.i64.wrap (x_2570 - 1)))).bind fun l_3001 => some l_3001) (some ((l_1628.set (Int.toNat x_2570) e_2611).set (Int.toNat (IntKind.i64.wrap (x_2570 - 1))) e_2617)) : Option ((List Int)))).bind fun l_2843 => cond (decide ((2 : Int) ≤ (IntKind.i64.wrap (x2 - x_2570)))) ((loopF (σ := (List Int) × Int) (ρ := ((List Int))) (fun (s_3150 : (List Int) × Int) => match s_3150 with | (l_3153, x_3156) => cond (decide (x_3156 < x2)) ((idx l_3153 x_3156).bind fun e_3209 => (idx l_3153 (IntKind.i64.wrap (x_3156 - 1))).bind fun e_3215 => (D.impl_compareSets e_3209 e_3215).bind fun y_3221 => cond (!(decide (y_3221 < 0))) (some (.inr l_3153)) ((idx l_3153 (IntKind.i64.wrap (x_3156 - 1))).bind fun e_3227 => (idx l_3153 x_3156).bind fun e_3233 => (idx l_3153 x_3156).bind fun e_3239 => (idx (l_3153.set (Int.toNat x_3156) e_3227) (IntKind.i64.wrap (x_3156 - 1))).bind fun e_3247 => some (.inl (((l_3153.set (Int.toNat x_3156) e_3227).set (Int.toNat (IntKind.i64.wrap (x_3156 - 1))) e_3233), (IntKind.i64.wrap (x_3156 + 1)))))) (some (.inr l_3153))) (l_2843, (IntKind.i64.wrap (x_2570 + 1)))).bind fun l_3204 => some (.inl (l_3204, x_2570, (IntKind.i64.wrap (x_1632 + 1))))) (some (.inl (l_2843, x_2570, (IntKind.i64.wrap (x_1632 + 1)))))))) (some (.inr (.inl l_1628)))) (x0, (IntKind.i64.wrap (x1 + 1)), 0)).bind fun zz => match zz with | .inl l_2442 => (some (false, l_2442)) | .inr z => (some z)

noncomputable def D.slices_partitionEqualCmpFunc_impl_vset__impl_compareSets (x0 : (List Int)) (x1 : Int) (x2 : Int) (x3 : Int) : Option (Int × ((List Int))) :=
  (idx x0 x3).bind fun e_1 => (idx x0 x1).bind fun e_7 => (idx x0 x1).bind fun e_13 => (idx (x0.set (Int.toNat x1) e_1) x3).bind fun e_21 => (loopF (σ := (List Int) × Int × Int) (ρ := ((List Int) × Int)) (fun (s_739 : (List Int) × Int × Int) => match s_739 with | (l_742, x_745, x_746) => (loopF (σ := Int) (ρ := (Int)) (fun (x_1188 : Int) => (cond (decide (x_1188 ≤ x_746)) ((idx l_742 x1).bind fun e_1249 => (idx l_742 x_1188).bind fun e_1255 => (D.impl_compareSets e_1249 e_1255).bind fun y_1261 => some (!(decide (y_1261 < 0)))) (some false)).bind fun b_1247 => cond b_1247 (some (.inl (IntKind.i64.wrap (x_1188 + 1)))) (some (.inr x_1188))) x_745).bind fun x_1228 => (loopF (σ := Int) (ρ := (Int)) (fun (x_1350 : Int) => (cond (decide (x_1228 ≤ x_1350)) ((idx l_742 x1).bind fun e_1411 => (idx l_742 x_1350).bind fun e_1417 => (D.impl_compareSets e_1411 e_1417).bind fun y_1423 => some (decide (y_1423 < 0))) (some false)).bind fun b_1409 => cond b_1409 (some (.inl (IntKind.i64.wrap (x_1350 - 1)))) (some (.inr x_1350))) x_746).bind fun x_1390 => cond (decide (x_1390 < x_1228)) (some (.inr (l_742, x_1228))) ((idx l_742 x_1390).bind fun e_1430 => (idx l_742 x_1228).bind fun e_1436 => (idx l_742 x_1228).bind fun e_1442 => (idx (l_742.set (Int.toNat x_1228) e_1430) x_1390).bind fun e_1450 => some (.inl (((l_742.set (Int.toNat x_1228) e_1430).set (Int.toNat x_1390) e_1436), (IntKind.i64.wrap (x_1228 + 1)), (IntKind.i64.wrap (x_1390 - 1)))))) (((x0.set (Int.toNat x1) e_1).set (Int.toNat x3) e_7), (IntKind.i64.wrap (x1 + 1)), (IntKind.i64.wrap (x2 - 1)))).bind fun (l_1100, x_1103) => some (x_1103, l_1100)

noncomputable def D.slices_partitionCmpFunc_impl_vset__impl_compareSets (x0 : (List Int)) (x1 : Int) (x2 : Int) (x3 : Int) : Option (Int × Bool × ((List Int))) :=
  (idx x0 x3).bind fun e_1 => (idx x0 x1).bind fun e_7 => (idx x0 x1).bind fun e_13 => (idx (x0.set (Int.toNat x1) e_1) x3).bind fun e_21 => (loopF (σ := Int) (ρ := (Int)) (fun (x_110 : Int) => (cond (decide (x_110 ≤ (IntKind.i64.wrap (x2 - 1)))) ((idx ((x0.set (Int.toNat x1) e_1).set (Int.toNat x3) e_7) x_110).bind fun e_171 => (idx ((x0.set (Int.toNat x1) e_1).set (Int.toNat x3) e_7) x1).bind fun e_177 => (D.impl_compareSets e_171 e_177).bind fun y_183 => some (decide (y_183 < 0))) (some false)).bind fun b_169 => cond b_169 (some (.inl (IntKind.i64.wrap (x_110 + 1)))) (some (.inr x_110))) (IntKind.i64.wrap (x1 + 1))).bind fun x_150 => (loopF (σ := Int) (ρ := (Int)) (fun (x_272 : Int) => (cond (decide (x_150 ≤ x_272)) ((idx ((x0.set (Int.toNat x1) e_1).set (Int.toNat x3) e_7) x_272).bind fun e_333 => (idx ((x0.set (Int.toNat x1) e_1).set (Int.toNat x3) e_7) x1).bind fun e_339 => (D.impl_compareSets e_333 e_339).bind fun y_345 => some (!(decide (y_345 < 0)))) (some false)).bind fun b_331 => cond b_331 (some (.inl (IntKind.i64.wrap (x_272 - 1)))) (some (.inr x_272))) (IntKind.i64.wrap (x2 - 1))).bind fun x_312 => cond (decide (x_312 < x_150)) ((idx ((x0.set (Int.toNat x1) e_1).set (Int.toNat x3) e_7) x1).bind fun e_352 => (idx ((x0.set (Int.toNat x1) e_1).set (Int.toNat x3) e_7) x_312).bind fun e_358 => (idx ((x0.set (Int.toNat x1) e_1).set (Int.toNat x3) e_7) x_312).bind fun e_364 => (idx (((x0.set (Int.toNat x1) e_1).set (Int.toNat x3) e_7).set (Int.toNat x_312) e_352) x1).bind fun e_372 => some (x_312, true, ((((x0.set (Int.toNat x1) e_1).set (Int.toNat x3) e_7).set (Int.toNat x_312) e_352).set (Int.toNat x1) e_358))) ((idx ((x0.set (Int.toNat x1) e_1).set (Int.toNat x3) e_7) x_312).bind fun e_378 => (idx ((x0.set (Int.toNat x1) e_1).set (Int.toNat x3) e_7) x_150).bind fun e_384 => (idx ((x0.set (Int.toNat x1) e_1).set (Int.toNat x3) e_7) x_150).bind fun e_390 => (idx (((x0.set (Int.toNat x1) e_1).set (Int.toNat x3) e_7).set (Int.toNat x_150) e_378) x_312).bind fun e_398 => (loopF (σ := (List Int) × Int × Int) (ρ := ((List Int) × Int)) (fun (s_1116 : (List Int) × Int × Int) => match s_1116 with | (l_1119, x_1122, x_1123) => (loopF (σ := Int) (ρ := (Int)) (fun (x_1565 : Int) => (cond (decide (x_1565 ≤ x_1123)) ((idx l_1119 x_1565).bind fun e_1626 => (idx l_1119 x1).bind fun e_1632 => (D.impl_compareSets e_1626 e_1632).bind fun y_1638 => some (decide (y_1638 < 0))) (some false)).bind fun b_1624 => cond b_1624 (some (.inl (IntKind.i64.wrap (x_1565 + 1)))) (some (.inr x_1565))) x_1122).bind fun x_1605 => (loopF (σ := Int) (ρ := (Int)) (fun (x_1727 : Int) => (cond (decide (x_1605 ≤ x_1727)) ((idx l_1119 x_1727).bind fun e_1788 => (idx l_1119 x1).bind fun e_1794 => (D.impl_compareSets e_1788 e_1794).bind fun y_1800 => some (!(decide (y_1800 < 0)))) (some false)).bind fun b_1786 => cond b_1786 (some (.inl (IntKind.i64.wrap (x_1727 - 1)))) (some (.inr x_1727))) x_1123).bind fun x_1767 => cond (decide (x_1767 < x_1605)) (some (.inr (l_1119, x_1767))) ((idx l_1119 x_1767).bind fun e_1807 => (idx l_1119 x_1605).bind fun e_1813 => (idx l_1119 x_1605).bind fun e_1819 => (idx (l_1119.set (Int.toNat x_1605) e_1807) x_1767).bind fun e_1827 => some (.inl (((l_1119.set (Int.toNat x_1605) e_1807).set (Int.toNat x_1767) e_1813), (IntKind.i64.wrap (x_1605 + 1)), (IntKind.i64.wrap (x_1767 - 1)))))) (((((x0.set (Int.toNat x1) e_1).set (Int.toNat x3) e_7).set (Int.toNat x_150) e_378).set (Int.toNat x_312) e_384), (IntKind.i64.wrap (x_150 + 1)), (IntKind.i64.wrap (x_312 - 1)))).bind fun (l_1477, x_1480) => (idx l_1477 x1).bind fun e_1833 => (idx l_1477 x_1480).bind fun e_1839 => (idx l_1477 x_1480).bind fun e_1845 => (idx (l_1477.set (Int.toNat x_1480) e_1833) x1).bind fun e_1853 => some (x_1480, false, ((l_1477.set (Int.toNat x_1480) e_1833).set (Int.toNat x1) e_1839)))

noncomputable def D.slices_pdqsortCmpFunc_impl_vset__impl_compareSetsR : Nat → ((List Int)) → Int → Int → Int → Option (((List Int)))
  | 0, _, _, _, _ => none
  | fuel + 1, x0, x1, x2, x3 => (loopF (σ := (List Int) × Int × Int × Int × Bool × Bool) (ρ := (((List Int)))) (fun (s_398 : (List Int) × Int × Int × Int × Bool × Bool) => match s_398 with | (l_401, x_404, x_405, x_406, b_407, b_408) => cond (decide ((IntKind.i64.wrap (x_405 - x_404)) ≤ 12)) ((D.slices_insertionSortCmpFunc_impl_vset__impl_compareSets l_401 x_404 x_405).bind fun y_411 => some (.inr y_411)) (cond (x_406 == 0) ((D.slices_heapSortCmpFunc_impl_vset__impl_compareSets l_401 x_404 x_405).bind fun y_421 => some (.inr y_421)) (((cond (!b_407) ((D.slices_breakPatternsCmpFunc_impl_vset__impl_compareSets l_401 x_404 x_405).bind fun y_449 => some (y_449, (IntKind.i64.wrap (x_406 - 1)))) (some (l_401, x_406)) : Option ((List Int) × Int))).bind fun (l_443, x_446) => (D.slices_choosePivotCmpFunc_impl_vset__impl_compareSets l_443 x_404 x_405).bind fun y_458 => ((cond (y_458.2.1 == 2) ((D.slices_reverseRangeCmpFunc_impl_vset__impl_compareSets y_458.2.2 x_404 x_405).bind fun y_487 => some (y_487, (IntKind.i64.wrap ((IntKind.i64.wrap (x_405 - 1)) - (IntKind.i64.wrap (y_458.1 - x_404)))), 1)) (some (y_458.2.2, y_458.1, y_458.2.1)) : Option ((List Int) × Int × Int))).bind fun (l_480, x_483, x_484) => ((cond ((b_407 && b_408) && (x_484 == 1)) ((D.slices_partialInsertionSortCmpFunc_impl_vset__impl_compareSets l_480 x_404 x_405).bind fun y_521 => cond y_521.1 (some (.inr y_521.2)) (some (.inl y_521.2))) (some (.inl l_480)) : Option (((List Int)) ⊕ (((List Int)))))).bind fun q => match q with | .inl l_516 => ((cond (decide ((0 : Int) < x_404)) ((idx l_516 (IntKind.i64.wrap (x_404 - 1))).bind fun e_550 => (idx l_516 x_483).bind fun e_556 => (D.impl_compareSets e_550 e_556).bind fun y_562 => some (!(decide (y_562 < 0)))) (some false)).bind fun b_548 => cond b_548 ((D.slices_partitionEqualCmpFunc_impl_vset__impl_compareSets l_516 x_404 x_405 x_483).bind fun y_568 => some (.inl (y_568.2, y_568.1, x_405, x_446, b_407, b_408))) ((D.slices_partitionCmpFunc_impl_vset__impl_compareSets l_516 x_404 x_405 x_483).bind fun y_577 => cond (decide ((IntKind.i64.wrap (y_577.1 - x_404)) < (IntKind.i64.wrap (x_405 - y_577.1)))) ((D.slices_pdqsortCmpFunc_impl_vset__impl_compareSetsR fuel y_577.2.2 x_404 y_577.1 x_446).bind fun y_587 => some (.inl (y_587, (IntKind.i64.wrap (y_577.1 + 1)), x_405, x_446, (decide ((IntKind.i64.wrap (Int.tdiv (IntKind.i64.wrap (x_405 - x_404)) 8)) ≤ (IntKind.i64.wrap (y_577.1 - x_404)))), y_577.2.1))) ((D.slices_pdqsortCmpFunc_impl_vset__impl_compareSetsR fuel y_577.2.2 (IntKind.i64.wrap (y_577.1 + 1)) x_405 x_446).bind fun y_596 => some (.inl (y_596, x_404, y_577.1, x_446, (decide ((IntKind.i64.wrap (Int.tdiv (IntKind.i64.wrap (x_405 - x_404)) 8)) ≤ (IntKind.i64.wrap (x_405 - y_577.1)))), y_577.2.1))))) | .inr q => (some (.inr q))))) (x0, x1, x2, x3, true, true)).bind fun z => some z

noncomputable def D.slices_pdqsortCmpFunc_impl_vset__impl_compareSets (x0 : (List Int)) (x1 : Int) (x2 : Int) (x3 : Int) : Option (((List Int))) := D.slices_pdqsortCmpFunc_impl_vset__impl_compareSetsR recFuel x0 x1 x2 x3

noncomputable def D.slices_SortFunc_impl_vset_impl_vset__impl_compareSets (x0 : (List Int)) : Option (((List Int))) :=
  (D.math_bits_Len (IntKind.u64.wrap (x0.length : Int))).bind fun y_1 => (D.slices_pdqsortCmpFunc_impl_vset__impl_compareSets x0 0 (x0.length : Int) y_1).bind fun y_8 => some y_8

noncomputable def D.impl_cliquesOf (x0 : (List Int)) : Option (((List Int))) :=
  (D.impl_nets_all x0).bind fun y_1 => (D.impl_growCliques x0 0 y_1 0 ([])).bind fun y_11 => (D.slices_SortFunc_impl_vset_impl_vset__impl_compareSets y_11).bind fun y_22 => some y_22

noncomputable def D.impl_bySize (x0 : Int) (x1 : Int) : Option (Int) :=
  (D.impl_vset_size x0).bind fun y_1 => (D.impl_vset_size x1).bind fun y_8 => cond (y_1 != y_8) ((D.impl_vset_size x0).bind fun y_16 => (D.impl_vset_size x1).bind fun y_23 => some (IntKind.i64.wrap (y_16 - y_23))) ((D.impl_compareSets x0 x1).bind fun y_30 => some y_30)

noncomputable def D.slices_insertionSortCmpFunc_impl_vset__impl_bySize (x0 : (List Int)) (x1 : Int) (x2 : Int) : Option (((List Int))) :=
  (loopF (σ := (List Int) × Int) (ρ := ((List Int))) (fun (s_560 : (List Int) × Int) => match s_560 with | (l_563, x_566) => cond (decide (x_566 < x2)) ((loopF (σ := (List Int) × Int) (ρ := ((List Int))) (fun (s_984 : (List Int) × Int) => match s_984 with | (l_987, x_990) => (cond (decide (x1 < x_990)) ((idx l_987 x_990).bind fun e_1079 => (idx l_987 (IntKind.i64.wrap (x_990 - 1))).bind fun e_1085 => (D.impl_bySize e_1079 e_1085).bind fun y_1091 => some (decide (y_1091 < 0))) (some false)).bind fun b_1077 => cond b_1077 ((idx l_987 (IntKind.i64.wrap (x_990 - 1))).bind fun e_1097 => (idx l_987 x_990).bind fun e_1103 => (idx l_987 x_990).bind fun e_1109 => (idx (l_987.set (Int.toNat x_990) e_1097) (IntKind.i64.wrap (x_990 - 1))).bind fun e_1117 => some (.inl (((l_987.set (Int.toNat x_990) e_1097).set (Int.toNat (IntKind.i64.wrap (x_990 - 1))) e_1103), (IntKind.i64.wrap (x_990 - 1))))) (some (.inr l_987))) (l_563, x_566)).bind fun l_1056 => some (.inl (l_1056, (IntKind.i64.wrap (x_566 + 1))))) (some (.inr l_563))) (x0, (IntKind.i64.wrap (x1 + 1)))).bind fun l_844 => some l_844

noncomputable def D.slices_siftDownCmpFunc_impl_vset__impl_bySize (x0 : (List Int)) (x1 : Int) (x2 : Int) (x3 : Int) : Option (((List Int))) :=
  (loopF (σ := (List Int) × Int) (ρ := ((List Int)) ⊕ (((List Int)))) (fun (s_186 : (List Int) × Int) => match s_186 with | (l_189, x_192) => cond (decide (x2 ≤ (IntKind.i64.wrap ((IntKind.i64.wrap (2 * x_192)) + 1)))) (some (.inr (.inl l_189))) ((cond (decide ((IntKind.i64.wrap ((IntKind.i64.wrap ((IntKind.i64.wrap (2 * x_192)) + 1)) + 1)) < x2)) ((idx l_189 (IntKind.i64.wrap (x3 + (IntKind.i64.wrap ((IntKind.i64.wrap (2 * x_192)) + 1))))).bind fun e_307 => (idx l_189 (IntKind.i64.wrap ((IntKind.i64.wrap (x3 + (IntKind.i64.wrap ((IntKind.i64.wrap (2 * x_192)) + 1)))) + 1))).bind fun e_313 => (D.impl_bySize e_307 e_313).bind fun y_319 => some (decide (y_319 < 0))) (some false)).bind fun b_305 => ((cond b_305 (some (IntKind.i64.wrap ((IntKind.i64.wrap ((IntKind.i64.wrap (2 * x_192)) + 1)) + 1))) (some (IntKind.i64.wrap ((IntKind.i64.wrap (2 * x_192)) + 1))) : Option (Int))).bind fun x_328 => (idx l_189 (IntKind.i64.wrap (x3 + x_192))).bind fun e_331 => (idx l_189 (IntKind.i64.wrap (x3 + x_328))).bind fun e_337 => (D.impl_bySize e_331 e_337).bind fun y_343 => cond (!(decide (y_343 < 0))) (some (.inr (.inr l_189))) ((idx l_189 (IntKind.i64.wrap (x3 + x_328))).bind fun e_349 => (idx l_189 (IntKind.i64.wrap (x3 + x_192))).bind fun e_355 => (idx l_189 (IntKind.i64.wrap (x3 + x_192))).bind fun e_361 => (idx (l_189.set (Int.toNat (IntKind.i64.wrap (x3 + x_192))) e_349) (IntKind.i64.wrap (x3 + x_328))).bind fun e_369 => some (.inl (((l_189.set (Int.toNat (IntKind.i64.wrap (x3 + x_192))) e_349).set (Int.toNat (IntKind.i64.wrap (x3 + x_328))) e_355), x_328))))) (x0, x1)).bind fun zz => match zz with | .inl l_283 => (some l_283) | .inr z => (some z)

noncomputable def D.slices_heapSortCmpFunc_impl_vset__impl_bySize (x0 : (List Int)) (x1 : Int) (x2 : Int) : Option (((List Int))) :=
  (loopF (σ := (List Int) × Int) (ρ := ((List Int))) (fun (s_30 : (List Int) × Int) => match s_30 with | (l_33, x_36) => cond (decide ((0 : Int) ≤ x_36)) ((D.slices_siftDownCmpFunc_impl_vset__impl_bySize l_33 x_36 (IntKind.i64.wrap (x2 - x1)) x1).bind fun y_54 => some (.inl (y_54, (IntKind.i64.wrap (x_36 - 1))))) (some (.inr l_33))) (x0, (IntKind.i64.wrap (Int.tdiv (IntKind.i64.wrap ((IntKind.i64.wrap (x2 - x1)) - 1)) 2)))).bind fun l_49 => (loopF (σ := (List Int) × Int) (ρ := ((List Int))) (fun (s_144 : (List Int) × Int) => match s_144 with | (l_147, x_150) => cond (decide ((0 : Int) ≤ x_150)) ((idx l_147 (IntKind.i64.wrap (x1 + x_150))).bind fun e_194 => (idx l_147 x1).bind fun e_200 => (idx l_147 x1).bind fun e_206 => (idx (l_147.set (Int.toNat x1) e_194) (IntKind.i64.wrap (x1 + x_150))).bind fun e_214 => (D.slices_siftDownCmpFunc_impl_vset__impl_bySize ((l_147.set (Int.toNat x1) e_194).set (Int.toNat (IntKind.i64.wrap (x1 + x_150))) e_200) 0 x_150 x1).bind fun y_220 => some (.inl (y_220, (IntKind.i64.wrap (x_150 - 1))))) (some (.inr l_147))) (l_49, (IntKind.i64.wrap ((IntKind.i64.wrap (x2 - x1)) - 1)))).bind fun l_189 => some l_189

noncomputable def D.slices_breakPatternsCmpFunc_impl_vset__impl_bySize (x0 : (List Int)) (x1 : Int) (x2 : Int) : Option (((List Int))) :=
  cond (decide ((8 : Int) ≤ (IntKind.i64.wrap (x2 - x1)))) ((D.slices_nextPowerOfTwo (IntKind.i64.wrap (x2 - x1))).bind fun y_4 => (loopF (σ := (List Int) × Int × Int) (ρ := ((List Int))) (fun (s_103 : (List Int) × Int × Int) => match s_103 with | (l_106, x_109, x_110) => cond (decide (x_109 ≤ (IntKind.i64.wrap ((IntKind.i64.wrap (x1 + (IntKind.i64.wrap ((IntKind.i64.wrap (Int.tdiv (IntKind.i64.wrap (x2 - x1)) 4)) * 2)))) + 1)))) ((D.slices_xorshift_Next x_110).bind fun y_159 => ((cond (decide ((IntKind.i64.wrap (x2 - x1)) ≤ (IntKind.i64.wrap (iand .u64 y_159.1 (IntKind.u64.wrap (y_4 - 1)))))) (some (IntKind.i64.wrap ((IntKind.i64.wrap (iand .u64 y_159.1 (IntKind.u64.wrap (y_4 - 1)))) - (IntKind.i64.wrap (x2 - x1))))) (some (IntKind.i64.wrap (iand .u64 y_159.1 (IntKind.u64.wrap (y_4 - 1))))) : Option (Int))).bind fun x_170 => (idx l_106 (IntKind.i64.wrap (x1 + x_170))).bind fun e_173 => (idx l_106 x_109).bind fun e_179 => (idx l_106 x_109).bind fun e_185 => (idx (l_106.set (Int.toNat x_109) e_173) (IntKind.i64.wrap (x1 + x_170))).bind fun e_193 => some (.inl (((l_106.set (Int.toNat x_109) e_173).set (Int.toNat (IntKind.i64.wrap (x1 + x_170))) e_179), (IntKind.i64.wrap (x_109 + 1)), y_159.2))) (some (.inr l_106))) (x0, (IntKind.i64.wrap ((IntKind.i64.wrap (x1 + (IntKind.i64.wrap ((IntKind.i64.wrap (Int.tdiv (IntKind.i64.wrap (x2 - x1)) 4)) * 2)))) - 1)), (IntKind.u64.wrap (IntKind.i64.wrap (x2 - x1))))).bind fun l_154 => some l_154) (some x0)

noncomputable def D.slices_order2CmpFunc_impl_vset__impl_bySize (x0 : (List Int)) (x1 : Int) (x2 : Int) (x3_0 : Int) : Option (Int × Int × ((List Int)) × Int) :=
  (idx x0 x2).bind fun e_1 => (idx x0 x1).bind fun e_7 => (D.impl_bySize e_1 e_7).bind fun y_13 => cond (decide (y_13 < 0)) (some (x2, x1, x0, (IntKind.i64.wrap (x3_0 + 1)))) (some (x1, x2, x0, x3_0))

noncomputable def D.slices_medianCmpFunc_impl_vset__impl_bySize (x0 : (List Int)) (x1 : Int) (x2 : Int) (x3 : Int) (x4_0 : Int) : Option (Int × ((List Int)) × Int) :=
  (D.slices_order2CmpFunc_impl_vset__impl_bySize x0 x1 x2 x4_0).bind fun y_1 => (D.slices_order2CmpFunc_impl_vset__impl_bySize y_1.2.2.1 y_1.2.1 x3 y_1.2.2.2).bind fun y_10 => (D.slices_order2CmpFunc_impl_vset__impl_bySize y_10.2.2.1 y_1.1 y_10.1 y_10.2.2.2).bind fun y_19 => some (y_19.2.1, y_19.2.2.1, y_19.2.2.2)

noncomputable def D.slices_medianAdjacentCmpFunc_impl_vset__impl_bySize (x0 : (List Int)) (x1 : Int) (x2_0 : Int) : Option (Int × ((List Int)) × Int) :=
  (D.slices_medianCmpFunc_impl_vset__impl_bySize x0 (IntKind.i64.wrap (x1 - 1)) x1 (IntKind.i64.wrap (x1 + 1)) x2_0).bind fun y_1 => some (y_1.1, y_1.2.1, y_1.2.2)

noncomputable def D.slices_choosePivotCmpFunc_impl_vset__impl_bySize (x0 : (List Int)) (x1 : Int) (x2 : Int) : Option (Int × Int × ((List Int))) :=
  cond (decide ((8 : Int) ≤ (IntKind.i64.wrap (x2 - x1)))) (((cond (decide ((50 : Int) ≤ (IntKind.i64.wrap (x2 - x1)))) ((D.slices_medianAdjacentCmpFunc_impl_vset__impl_bySize x0 (IntKind.i64.wrap (x1 + (IntKind.i64.wrap ((IntKind.i64.wrap (Int.tdiv (IntKind.i64.wrap (x2 - x1)) 4)) * 1)))) 0).bind fun y_44 => (D.slices_medianAdjacentCmpFunc_impl_vset__impl_bySize y_44.2.1 (IntKind.i64.wrap (x1 + (IntKind.i64.wrap ((IntKind.i64.wrap (Int.tdiv (IntKind.i64.wrap (x2 - x1)) 4)) * 2)))) y_44.2.2).bind fun y_53 => (D.slices_medianAdjacentCmpFunc_impl_vset__impl_bySize y_53.2.1 (IntKind.i64.wrap (x1 + (IntKind.i64.wrap ((IntKind.i64.wrap (Int.tdiv (IntKind.i64.wrap (x2 - x1)) 4)) * 3)))) y_53.2.2).bind fun y_62 => some (y_62.2.1, y_44.1, y_53.1, y_62.1, y_62.2.2)) (some (x0, (IntKind.i64.wrap (x1 + (IntKind.i64.wrap ((IntKind.i64.wrap (Int.tdiv (IntKind.i64.wrap (x2 - x1)) 4)) * 1)))), (IntKind.i64.wrap (x1 + (IntKind.i64.wrap ((IntKind.i64.wrap (Int.tdiv (IntKind.i64.wrap (x2 - x1)) 4)) * 2)))), (IntKind.i64.wrap (x1 + (IntKind.i64.wrap ((IntKind.i64.wrap (Int.tdiv (IntKind.i64.wrap (x2 - x1)) 4)) * 3)))), 0)) : Option ((List Int) × Int × Int × Int × Int))).bind fun (l_35, x_38, x_39, x_40, x_41) => (D.slices_medianCmpFunc_impl_vset__impl_bySize l_35 x_38 x_39 x_40 x_41).bind fun y_71 => cond (y_71.2.2 == 0) (some (y_71.1, 1, y_71.2.1)) (cond (y_71.2.2 == 12) (some (y_71.1, 2, y_71.2.1)) (some (y_71.1, 0, y_71.2.1)))) (cond ((0 : Int) == 0) (some ((IntKind.i64.wrap (x1 + (IntKind.i64.wrap ((IntKind.i64.wrap (Int.tdiv (IntKind.i64.wrap (x2 - x1)) 4)) * 2)))), 1, x0)) (cond ((0 : Int) == 12) (some ((IntKind.i64.wrap (x1 + (IntKind.i64.wrap ((IntKind.i64.wrap (Int.tdiv (IntKind.i64.wrap (x2 - x1)) 4)) * 2)))), 2, x0)) (some ((IntKind.i64.wrap (x1 + (IntKind.i64.wrap ((IntKind.i64.wrap (Int.tdiv (IntKind.i64.wrap (x2 - x1)) 4)) * 2)))), 0, x0))))

noncomputable def D.slices_reverseRangeCmpFunc_impl_vset__impl_bySize (x0 : (List Int)) (x1 : Int) (x2 : Int) : Option (((List Int))) :=
  (loopF (σ := (List Int) × Int × Int) (ρ := ((List Int))) (fun (s_65 : (List Int) × Int × Int) => match s_65 with | (l_68, x_71, x_72) => cond (decide (x_71 < x_72)) ((idx l_68 x_72).bind fun e_107 => (idx l_68 x_71).bind fun e_113 => (idx l_68 x_71).bind fun e_119 => (idx (l_68.set (Int.toNat x_71) e_107) x_72).bind fun e_127 => some (.inl (((l_68.set (Int.toNat x_71) e_107).set (Int.toNat x_72) e_113), (IntKind.i64.wrap (x_71 + 1)), (IntKind.i64.wrap (x_72 - 1))))) (some (.inr l_68))) (x0, x1, (IntKind.i64.wrap (x2 - 1)))).bind fun l_102 => some l_102

noncomputable def D.slices_partialInsertionSortCmpFunc_impl_vset__impl_bySize (x0 : (List Int)) (x1 : Int) (x2 : Int) : Option (Bool × ((List Int))) :=
  (loopF (σ := (List Int) × Int × Int) (ρ := ((List Int)) ⊕ (Bool × ((List Int)))) (fun (s_1625 : (List Int) × Int × Int) => match s_1625 with | (l_1628, x_1631, x_1632) => cond (decide (x_1632 < 5)) ((loopF (σ := Int) (ρ := (Int)) (fun (x_2530 : Int) => (cond (decide (x_2530 < x2)) ((idx l_1628 x_2530).bind fun e_2591 => (idx l_1628 (IntKind.i64.wrap (x_2530 - 1))).bind fun e_2597 => (D.impl_bySize e_2591 e_2597).bind fun y_2603 => some (!(decide (y_2603 < 0)))) (some false)).bind fun b_2589 => cond b_2589 (some (.inl (IntKind.i64.wrap (x_2530 + 1)))) (some (.inr x_2530))) x_1631).bind fun x_2570 => cond (x_2570 == x2) (some (.inr (.inr (true, l_1628)))) (cond (decide ((IntKind.i64.wrap (x2 - x1)) < 50)) (some (.inr (.inr (false, l_1628)))) ((idx l_1628 (IntKind.i64.wrap (x_2570 - 1))).bind fun e_2611 => (idx l_1628 x_2570).bind fun e_2617 => (idx l_1628 x_2570).bind fun e_2623 => (idx (l_1628.set (Int.toNat x_2570) e_2611) (IntKind.i64.wrap (x_2570 - 1))).bind fun e_2631 => ((cond (decide ((2 : Int) ≤ (IntKind.i64.wrap (x_2570 - x1)))) ((loopF (σ := (List Int) × Int) (ρ := ((List Int))) (fun (s_2947 : (List Int) × Int) => match s_2947 with | (l_2950, x_2953) => cond (decide ((1 : Int) ≤ x_2953)) ((idx l_2950 x_2953).bind fun e_3006 => (idx l_2950 (IntKind.i64.wrap (x_2953 - 1))).bind fun e_3012 => (D.impl_bySize e_3006 e_3012).bind fun y_3018 => cond (!(decide (y_3018 < 0))) (some (.inr l_2950)) ((idx l_2950 (IntKind.i64.wrap (x_2953 - 1))).bind fun e_3024 => (idx l_2950 x_2953).bind fun e_3030 => (idx l_2950 x_2953).bind fun e_3036 => (idx (l_2950.set (Int.toNat x_2953) e_3024) (IntKind.i64.wrap (x_2953 - 1))).bind fun e_3044 => some (.inl (((l_2950.set (Int.toNat x_2953) e_3024).set (Int.toNat (IntKind.i64.wrap (x_2953 - 1))) e_3030), (IntKind.i64.wrap (x_2953 - 1)))))) (some (.inr l_2950))) (((l_1628.set (Int.toNat x_2570) e_2611).set (Int.toNat (IntKind.i64.wrap (x_2570 - 1))) e_2617), (IntKind.i64.wrap (x_2570 - 1)))).bind fun l_3001 => some l_3001) (some ((l_1628.set (Int.toNat x_2570) e_2611).set (Int.toNat (IntKind.i64.wrap (x_2570 - 1))) e_2617)) : Option ((List Int)))).bind fun l_2843 => cond (decide ((2 : Int) ≤ (IntKind.i64.wrap (x2 - x_2570)))) ((loopF (σ := (List Int) × Int) (ρ := ((List Int))) (fun (s_3150 : (List Int) × Int) => match s_3150 with | (l_3153, x_3156) => cond (decide (x_3156 < x2)) ((idx l_3153 x_3156).bind fun e_3209 => (idx l_3153 (IntKind.i64.wrap (x_3156 - 1))).bind fun e_3215 => (D.impl_bySize e_3209 e_3215).bind fun y_3221 => cond (!(decide (y_3221 < 0))) (some (.inr l_3153)) ((idx l_3153 (IntKind.i64.wrap (x_3156 - 1))).bind fun e_3227 => (idx l_3153 x_3156).bind fun e_3233 => (idx l_3153 x_3156).bind fun e_3239 => (idx (l_3153.set (Int.toNat x_3156) e_3227) (IntKind.i64.wrap (x_3156 - 1))).bind fun e_3247 => some (.inl (((l_3153.set (Int.toNat x_3156) e_3227).set (Int.toNat (IntKind.i64.wrap (x_3156 - 1))) e_3233), (IntKind.i64.wrap (x_3156 + 1)))))) (some (.inr l_3153))) (l_2843, (IntKind.i64.wrap (x_2570 + 1)))).bind fun l_3204 => some (.inl (l_3204, x_2570, (IntKind.i64.wrap (x_1632 + 1))))) (some (.inl (l_2843, x_2570, (IntKind.i64.wrap (x_1632 + 1)))))))) (some (.inr (.inl l_1628)))) (x0, (IntKind.i64.wrap (x1 + 1)), 0)).bind fun zz => match zz with | .inl l_2442 => (some (false, l_2442)) | .inr z => (some z)

noncomputable def D.slices_partitionEqualCmpFunc_impl_vset__impl_bySize (x0 : (List Int)) (x1 : Int) (x2 : Int) (x3 : Int) : Option (Int × ((List Int))) :=
  (idx x0 x3).bind fun e_1 => (idx x0 x1).bind fun e_7 => (idx x0 x1).bind fun e_13 => (idx (x0.set (Int.toNat x1) e_1) x3).bind fun e_21 => (loopF (σ := (List Int) × Int × Int) (ρ := ((List Int) × Int)) (fun (s_739 : (List Int) × Int × Int) => match s_739 with | (l_742, x_745, x_746) => (loopF (σ := Int) (ρ := (Int)) (fun (x_1188 : Int) => (cond (decide (x_1188 ≤ x_746)) ((idx l_742 x1).bind fun e_1249 => (idx l_742 x_1188).bind fun e_1255 => (D.impl_bySize e_1249 e_1255).bind fun y_1261 => some (!(decide (y_1261 < 0)))) (some false)).bind fun b_1247 => cond b_1247 (some (.inl (IntKind.i64.wrap (x_1188 + 1)))) (some (.inr x_1188))) x_745).bind fun x_1228 => (loopF (σ := Int) (ρ := (Int)) (fun (x_1350 : Int) => (cond (decide (x_1228 ≤ x_1350)) ((idx l_742 x1).bind fun e_1411 => (idx l_742 x_1350).bind fun e_1417 => (D.impl_bySize e_1411 e_1417).bind fun y_1423 => some (decide (y_1423 < 0))) (some false)).bind fun b_1409 => cond b_1409 (some (.inl (IntKind.i64.wrap (x_1350 - 1)))) (some (.inr x_1350))) x_746).bind fun x_1390 => cond (decide (x_1390 < x_1228)) (some (.inr (l_742, x_1228))) ((idx l_742 x_1390).bind fun e_1430 => (idx l_742 x_1228).bind fun e_1436 => (idx l_742 x_1228).bind fun e_1442 => (idx (l_742.set (Int.toNat x_1228) e_1430) x_1390).bind fun e_1450 => some (.inl (((l_742.set (Int.toNat x_1228) e_1430).set (Int.toNat x_1390) e_1436), (IntKind.i64.wrap (x_1228 + 1)), (IntKind.i64.wrap (x_1390 - 1)))))) (((x0.set (Int.toNat x1) e_1).set (Int.toNat x3) e_7), (IntKind.i64.wrap (x1 + 1)), (IntKind.i64.wrap (x2 - 1)))).bind fun (l_1100, x_1103) => some (x_1103, l_1100)

noncomputable def D.slices_partitionCmpFunc_impl_vset__impl_bySize (x0 : (List Int)) (x1 : Int) (x2 : Int) (x3 : Int) : Option (Int × Bool × ((List Int))) :=
  (idx x0 x3).bind fun e_1 => (idx x0 x1).bind fun e_7 => (idx x0 x1).bind fun e_13 => (idx (x0.set (Int.toNat x1) e_1) x3).bind fun e_21 => (loopF (σ := Int) (ρ := (Int)) (fun (x_110 : Int) => (cond (decide (x_110 ≤ (IntKind.i64.wrap (x2 - 1)))) ((idx ((x0.set (Int.toNat x1) e_1).set (Int.toNat x3) e_7) x_110).bind fun e_171 => (idx ((x0.set (Int.toNat x1) e_1).set (Int.toNat x3) e_7) x1).bind fun e_177 => (D.impl_bySize e_171 e_177).bind fun y_183 => some (decide (y_183 < 0))) (some false)).bind fun b_169 => cond b_169 (some (.inl (IntKind.i64.wrap (x_110 + 1)))) (some (.inr x_110))) (IntKind.i64.wrap (x1 + 1))).bind fun x_150 => (loopF (σ := Int) (ρ := (Int)) (fun (x_272 : Int) => (cond (decide (x_150 ≤ x_272)) ((idx ((x0.set (Int.toNat x1) e_1).set (Int.toNat x3) e_7) x_272).bind fun e_333 => (idx ((x0.set (Int.toNat x1) e_1).set (Int.toNat x3) e_7) x1).bind fun e_339 => (D.impl_bySize e_333 e_339).bind fun y_345 => some (!(decide (y_345 < 0)))) (some false)).bind fun b_331 => cond b_331 (some (.inl (IntKind.i64.wrap (x_272 - 1)))) (some (.inr x_272))) (IntKind.i64.wrap (x2 - 1))).bind fun x_312 => cond (decide (x_312 < x_150)) ((idx ((x0.set (Int.toNat x1) e_1).set (Int.toNat x3) e_7) x1).bind fun e_352 => (idx ((x0.set (Int.toNat x1) e_1).set (Int.toNat x3) e_7) x_312).bind fun e_358 => (idx ((x0.set (Int.toNat x1) e_1).set (Int.toNat x3) e_7) x_312).bind fun e_364 => (idx (((x0.set (Int.toNat x1) e_1).set (Int.toNat x3) e_7).set (Int.toNat x_312) e_352) x1).bind fun e_372 => some (x_312, true, ((((x0.set (Int.toNat x1) e_1).set (Int.toNat x3) e_7).set (Int.toNat x_312) e_352).set (Int.toNat x1) e_358))) ((idx ((x0.set (Int.toNat x1) e_1).set (Int.toNat x3) e_7) x_312).bind fun e_378 => (idx ((x0.set (Int.toNat x1) e_1).set (Int.toNat x3) e_7) x_150).bind fun e_384 => (idx ((x0.set (Int.toNat x1) e_1).set (Int.toNat x3) e_7) x_150).bind fun e_390 => (idx (((x0.set (Int.toNat x1) e_1).set (Int.toNat x3) e_7).set (Int.toNat x_150) e_378) x_312).bind fun e_398 => (loopF (σ := (List Int) × Int × Int) (ρ := ((List Int) × Int)) (fun (s_1116 : (List Int) × Int × Int) => match s_1116 with | (l_1119, x_1122, x_1123) => (loopF (σ := Int) (ρ := (Int)) (fun (x_1565 : Int) => (cond (decide (x_1565 ≤ x_1123)) ((idx l_1119 x_1565).bind fun e_1626 => (idx l_1119 x1).bind fun e_1632 => (D.impl_bySize e_1626 e_1632).bind fun y_1638 => some (decide (y_1638 < 0))) (some false)).bind fun b_1624 => cond b_1624 (some (.inl (IntKind.i64.wrap (x_1565 + 1)))) (some (.inr x_1565))) x_1122).bind fun x_1605 => (loopF (σ := Int) (ρ := (Int)) (fun (x_1727 : Int) => (cond (decide (x_1605 ≤ x_1727)) ((idx l_1119 x_1727).bind fun e_1788 => (idx l_1119 x1).bind fun e_1794 => (D.impl_bySize e_1788 e_1794).bind fun y_1800 => some (!(decide (y_1800 < 0)))) (some false)).bind fun b_1786 => cond b_1786 (some (.inl (IntKind.i64.wrap (x_1727 - 1)))) (some (.inr x_1727))) x_1123).bind fun x_1767 => cond (decide (x_1767 < x_1605)) (some (.inr (l_1119, x_1767))) ((idx l_1119 x_1767).bind fun e_1807 => (idx l_1119 x_1605).bind fun e_1813 => (idx l_1119 x_1605).bind fun e_1819 => (idx (l_1119.set (Int.toNat x_1605) e_1807) x_1767).bind fun e_1827 => some (.inl (((l_1119.set (Int.toNat x_1605) e_1807).set (Int.toNat x_1767) e_1813), (IntKind.i64.wrap (x_1605 + 1)), (IntKind.i64.wrap (x_1767 - 1)))))) (((((x0.set (Int.toNat x1) e_1).set (Int.toNat x3) e_7).set (Int.toNat x_150) e_378).set (Int.toNat x_312) e_384), (IntKind.i64.wrap (x_150 + 1)), (IntKind.i64.wrap (x_312 - 1)))).bind fun (l_1477, x_1480) => (idx l_1477 x1).bind fun e_1833 => (idx l_1477 x_1480).bind fun e_1839 => (idx l_1477 x_1480).bind fun e_1845 => (idx (l_1477.set (Int.toNat x_1480) e_1833) x1).bind fun e_1853 => some (x_1480, false, ((l_1477.set (Int.toNat x_1480) e_1833).set (Int.toNat x1) e_1839)))

noncomputable def D.slices_pdqsortCmpFunc_impl_vset__impl_bySizeR : Nat → ((List Int)) → Int → Int → Int → Option (((List Int)))
  | 0, _, _, _, _ => none
  | fuel + 1, x0, x1, x2, x3 => (loopF (σ := (List Int) × Int × Int × Int × Bool × Bool) (ρ := (((List Int)))) (fun (s_398 : (List Int) × Int × Int × Int × Bool × Bool) => match s_398 with | (l_401, x_404, x_405, x_406, b_407, b_408) => cond (decide ((IntKind.i64.wrap (x_405 - x_404)) ≤ 12)) ((D.slices_insertionSortCmpFunc_impl_vset__impl_bySize l_401 x_404 x_405).bind fun y_411 => some (.inr y_411)) (cond (x_406 == 0) ((D.slices_heapSortCmpFunc_impl_vset__impl_bySize l_401 x_404 x_405).bind fun y_421 => some (.inr y_421)) (((cond (!b_407) ((D.slices_breakPatternsCmpFunc_impl_vset__impl_bySize l_401 x_404 x_405).bind fun y_449 => some (y_449, (IntKind.i64.wrap (x_406 - 1)))) (some (l_401, x_406)) : Option ((List Int) × Int))).bind fun (l_443, x_446) => (D.slices_choosePivotCmpFunc_impl_vset__impl_bySize l_443 x_404 x_405).bind fun y_458 => ((cond (y_458.2.1 == 2) ((D.slices_reverseRangeCmpFunc_impl_vset__impl_bySize y_458.2.2 x_404 x_405).bind fun y_487 => some (y_487, (IntKind.i64.wrap ((IntKind.i64.wrap (x_405 - 1)) - (IntKind.i64.wrap (y_458.1 - x_404)))), 1)) (some (y_458.2.2, y_458.1, y_458.2.1)) : Option ((List Int) × Int × Int))).bind fun (l_480, x_483, x_484) => ((cond ((b_407 && b_408) && (x_484 == 1)) ((D.slices_partialInsertionSortCmpFunc_impl_vset__impl_bySize l_480 x_404 x_405).bind fun y_521 => cond y_521.1 (some (.inr y_521.2)) (some (.inl y_521.2))) (some (.inl l_480)) : Option (((List Int)) ⊕ (((List Int)))))).bind fun q => match q with | .inl l_516 => ((cond (decide ((0 : Int) < x_404)) ((idx l_516 (IntKind.i64.wrap (x_404 - 1))).bind fun e_550 => (idx l_516 x_483).bind fun e_556 => (D.impl_bySize e_550 e_556).bind fun y_562 => some (!(decide (y_562 < 0)))) (some false)).bind fun b_548 => cond b_548 ((D.slices_partitionEqualCmpFunc_impl_vset__impl_bySize l_516 x_404 x_405 x_483).bind fun y_568 => some (.inl (y_568.2, y_568.1, x_405, x_446, b_407, b_408))) ((D.slices_partitionCmpFunc_impl_vset__impl_bySize l_516 x_404 x_405 x_483).bind fun y_577 => cond (decide ((IntKind.i64.wrap (y_577.1 - x_404)) < (IntKind.i64.wrap (x_405 - y_577.1)))) ((D.slices_pdqsortCmpFunc_impl_vset__impl_bySizeR fuel y_577.2.2 x_404 y_577.1 x_446).bind fun y_587 => some (.inl (y_587, (IntKind.i64.wrap (y_577.1 + 1)), x_405, x_446, (decide ((IntKind.i64.wrap (Int.tdiv (IntKind.i64.wrap (x_405 - x_404)) 8)) ≤ (IntKind.i64.wrap (y_577.1 - x_404)))), y_577.2.1))) ((D.slices_pdqsortCmpFunc_impl_vset__impl_bySizeR fuel y_577.2.2 (IntKind.i64.wrap (y_577.1 + 1)) x_405 x_446).bind fun y_596 => some (.inl (y_596, x_404, y_577.1, x_446, (decide ((IntKind.i64.wrap (Int.tdiv (IntKind.i64.wrap (x_405 - x_404)) 8)) ≤ (IntKind.i64.wrap (x_405 - y_577.1)))), y_577.2.1))))) | .inr q => (some (.inr q))))) (x0, x1, x2, x3, true, true)).bind fun z => some z

noncomputable def D.slices_pdqsortCmpFunc_impl_vset__impl_bySize (x0 : (List Int)) (x1 : Int) (x2 : Int) (x3 : Int) : Option (((List Int))) := D.slices_pdqsortCmpFunc_impl_vset__impl_bySizeR recFuel x0 x1 x2 x3

noncomputable def D.slices_SortFunc_impl_vset_impl_vset__impl_bySize (x0 : (List Int)) : Option (((List Int))) :=
  (D.math_bits_Len (IntKind.u64.wrap (x0.length : Int))).bind fun y_1 => (D.slices_pdqsortCmpFunc_impl_vset__impl_bySize x0 0 (x0.length : Int) y_1).bind fun y_8 => some y_8

noncomputable def D.impl_LastingStables (x0_0 : (List (List Int))) : Option (((List (List Int)))) :=
  (D.impl_GraphOk x0_0).bind fun y_3 => cond (!y_3) (some ([] : List (List Int))) ((D.impl_netsOf x0_0).bind fun y_14 => (D.impl_complement y_14).bind fun y_25 => (D.impl_cliquesOf y_25).bind fun y_39 => (D.slices_SortFunc_impl_vset_impl_vset__impl_bySize y_39).bind fun y_53 => (D.impl_results y_53).bind fun y_62 => some y_62)

noncomputable def D.laws_FnExactLastingStables (x0_0 : (List (List Int))) : Option (Bool) :=
  (D.laws_szGraph x0_0 1048576).bind fun y_3 => cond (decide (y_3 < 0)) (some true) ((D.laws_toGraph x0_0).bind fun y_11 => (D.spec_LastingStables y_11).bind fun y_25 => (D.laws_toGraph x0_0).bind fun y_36 => (D.impl_LastingStables y_36).bind fun y_49 => (D.laws_eqInt64SS y_49 y_25).bind fun y_63 => cond (!y_63) (some false) ((D.laws_toGraph x0_0).bind fun y_80 => (D.laws_eqGraph y_36 y_80).bind fun y_94 => cond (!y_94) (some false) ((D.laws_markGraph y_36 1).bind fun y_110 => (cond (decide (y_110.1 < 0)) (some true) ((D.laws_eqInt64SS y_49 y_25).bind fun y_150 => some (!y_150))).bind fun b_148 => cond b_148 (some false) ((D.laws_markInt64SS y_49 1).bind fun y_164 => (D.laws_heldInt64SS y_164.2 1).bind fun y_173 => cond (decide (y_173 < 0)) (some false) (cond (y_173 != y_164.1) (some false) ((D.laws_toGraph x0_0).bind fun y_185 => (D.impl_LastingStables y_185).bind fun y_196 => (D.laws_eqInt64SS y_196 y_25).bind fun y_210 => cond (!y_210) (some false) ((D.laws_heldInt64SS y_164.2 1).bind fun y_224 => cond (decide (y_224 < 0)) (some false) (cond (y_224 != y_164.1) (some false) (some true)))))))))
end Go.Sx

namespace Go.Sx


end Go.Sx

namespace Go.Sx


end Go.Sx

namespace Go.Sx


end Go.Sx

namespace Go.Sx


end Go.Sx

namespace Go.Proofs
open Go.Shelf
def Tryd.lays125_ren : Go.Shelf.Ren := ⟨fun | 125 => 84 | 128 => 117 | 129 => 118 | n => n, fun | 46 => 48 | 3 => 3 | 51 => 58 | 53 => 118 | 4 => 4 | 5 => 5 | 9 => 9 | n => n, fun | n => n⟩
theorem Tryd.lays125 : Go.Proofs.Lays.n125 Tryd.prog Tryd.lays125_ren := {
  mixed := by kernel_rfl
  f125 := Tryd.func84.trans (congrArg some (by kernel_rfl))
  f128 := Tryd.func117.trans (congrArg some (by kernel_rfl))
  f129 := Tryd.func118.trans (congrArg some (by kernel_rfl))
  t3 := Tryd.underlying3
  a3 := Tryd.isAgg3
  z3 := Tryd.sizeOf3
  v3 := Tryd.zeroValue3
  t4 := Tryd.underlying4
  a4 := Tryd.isAgg4
  z4 := Tryd.sizeOf4
  v4 := Tryd.zeroValue4
  t5 := Tryd.underlying5
  a5 := Tryd.isAgg5
  z5 := Tryd.sizeOf5
  v5 := Tryd.zeroValue5
  t9 := Tryd.underlying9
  a9 := Tryd.isAgg9
  z9 := Tryd.sizeOf9
  v9 := Tryd.zeroValue9
  t46 := Tryd.underlying48
  a46 := Tryd.isAgg48
  z46 := Tryd.sizeOf48
  v46 := Tryd.zeroValue48
  t51 := Tryd.underlying58
  a51 := Tryd.isAgg58
  z51 := Tryd.sizeOf58
  v51 := Tryd.zeroValue58
  t53 := Tryd.underlying118
  a53 := Tryd.isAgg118
  z53 := Tryd.sizeOf118
  v53 := Tryd.zeroValue118 }
theorem Tryd.bits_Len (x : Int) (w : World) (h0 : 0 ≤ x) (h1 : x ≤ 18446744073709551615) :
    Calls Tryd.prog 84 #[.int .u64 x] w fun e w' => e = .returned (.int .i64 (Lib.bitLen x.toNat)) ∧ w' = w := Any.bits_Len Tryd.lays125 x w h0 h1
end Go.Proofs
namespace Go.Proofs.YtocakchlhemmeaaDoor
open Go Go.Sx
theorem Wk.math_bits_Len {W w : World} {G : GH} {H : List Itm} {x0 : Int} (m : Mem W G w H) {y : Int} (hd : D.math_bits_Len x0 = some y) :
    Calls Tryd.prog 84 #[(.int .u64 x0)] w (Res W G H (fun _ Ho v => Ho = [] ∧ v = (.int .i64 y))) := by
  unfold D.math_bits_Len at hd
  split at hd
  · rename_i h
    obtain rfl := Option.some.inj hd
    exact (Tryd.bits_Len x0 w h.1 h.2).mono (fun e w' ⟨he, hw⟩ => by subst hw; exact ⟨_, he, G, [], GLe.refl G, m, rfl, rfl⟩)
  · cases hd
end Go.Proofs.YtocakchlhemmeaaDoor

namespace Go.Proofs
open Go.RowKit Go.Shelf
attribute [local go_sem] Oper.semAt_some
namespace YtocakchlhemmeaaDoor

def Ints (n₀ : Nat) (W : World) (sv : Value) (zs : List Int) : Prop :=
  ((∃ a c, sv = .slice a 0 c) ∧ zs = []) ∨ ∃ b off cap, sv = .slice (some ⟨b, off, none⟩) zs.length cap ∧ (zs.length = 0 ∨ b < n₀) ∧ ∀ j, j < zs.length → W.cell? ⟨b, off + j, none⟩ = some (.int .i64 (zs[j]?.getD 0))
theorem Ints.below {n₀ : Nat} {A B : World} (h : Below n₀ A B) {sv : Value} {zs : List Int} : Ints n₀ A sv zs → Ints n₀ B sv zs
  | .inl e => .inl e
  | .inr ⟨b, off, cap, e, hb, hc⟩ => .inr ⟨b, off, cap, e, hb, fun j hj => (h.cell (p := ⟨b, off + j, none⟩) (hb.resolve_left (by omega))).trans (hc j hj)⟩

end YtocakchlhemmeaaDoor
end Go.Proofs

set_option maxRecDepth 100000
namespace Go.Proofs.YtocakchlhemmeaaDoor
open Go Go.Sx
theorem Follows : Tryd.prog.follows .mixedOrders = true := by kernel_rfl
theorem Pl2 : Plain Tryd.prog 2 := Tryd.isAgg2
theorem T36 : SlT Tryd.prog 36 2 1 8 (.int .i64 0) := ⟨Tryd.underlying36, Tryd.t2, by kernel_rfl, by kernel_rfl, by kernel_rfl, by kernel_rfl⟩
theorem Pl5 : Plain Tryd.prog 5 := Tryd.isAgg5
theorem Pl129 : Plain Tryd.prog 129 := Tryd.isAgg129
theorem Pl3 : Plain Tryd.prog 3 := Tryd.isAgg3
theorem T74 : SlT Tryd.prog 74 3 1 8 (.int .i64 0) := ⟨Tryd.underlying74, Tryd.t3, by kernel_rfl, by kernel_rfl, by kernel_rfl, by kernel_rfl⟩

theorem Wk.slices_Index_int64_int64 {W w : World} {G : GH} {H : List Itm} {v0 : Value} {x0 : (List Int)} {x1 : Int} (m : Mem W G w (H)) (h0 : RSl (RI .i64) G v0 x0) {y : Int} (hd : D.slices_Index_int64_int64 x0 x1 = some y) :
  Calls Tryd.prog 106 #[v0, (.int .i64 x1)] w (Res W G H (fun _ Ho v => Ho = [] ∧ v = (.int .i64 y))) := by
 refine calls_b (args := [v0, (.int .i64 x1)]) (N := 19) [.tmp 4] Tryd.func106 rfl rfl (Nat.le_of_ble_eq_true rfl) rfl fun a f => ?_
 unfold D.slices_Index_int64_int64 at hd
 refine k_seq (k_region ?_)
 refine l_as f rfl rfl fun a f => ?_
 refine l_nil (k_seq (k_seq (k_region ?_)))
 refine l_mv f rfl rfl fun a f => ?_
 refine l_len Tryd.underlying36 f rfl rfl h0 fun a f => ?_
 refine l_mv f rfl rfl fun a f => ?_
 refine l_nil ?_
 obtain ⟨q_19, hl_20, hd⟩ := bind_some hd
 refine k_cut (fun a w => ∃ q_19' : Unit, q_19 = .inl q_19' ∧ ∃ (G_36 : GH), GLe G G_36 ∧ Fr a 19 [] ∧ Mem W G_36 w (H)) ?_ ?_
 ·refine k_block ?_
  refine k_loop (fun s_23 a w => ∃ x_26 : Int, x_26 = s_23 ∧ ∃ (G_25 : GH), GLe G G_25 ∧ Fr a 19 [(0, v0), (1, (.int .i64 x1)), (7, (.int .i64 (x0.length : Int))), (8, (.int .i64 x_26))] ∧ Mem W G_25 w (H)) hl_20 ⟨_, rfl, _, (GLe.refl _), f.weak ⟨rfl, rfl, rfl, rfl, trivial⟩, m⟩ ?_
  clear hl_20 f m
  rintro s_23 o_24 hs_21 hq_22 a w ⟨x_26, rfl, G_25, hl_27, f, m⟩
  have h0 := RSl.mono (RI.mono _) _ _ _ _ hl_27 h0
  refine k_seq (k_region ?_)
  refine l_in f rfl rfl rfl b_lss fun a f => ?_
  refine l_nil (k_seq ?_)
  rcases cond_some hs_21 with ⟨hc_38, hs_21⟩ | ⟨hc_38, hs_21⟩
  ·refine k_true f rfl hc_38 ?_
   refine k_skip ?_
   refine k_seq (k_block (k_seq (k_region ?_)))
   refine l_mv f rfl rfl fun a f => ?_
   refine l_as f rfl rfl fun a f => ?_
   refine l_nil (k_seq (k_region ?_))
   refine l_mv f rfl rfl fun a f => ?_
   refine l_mv f rfl rfl fun a f => ?_
   refine l_mv f rfl rfl fun a f => ?_
   obtain ⟨e_39, he_40, hs_21⟩ := bind_some hs_21
   refine l_at T36 f rfl rfl rfl h0 he_40 fun p_41 c_42 a g_43 h_44 f => ?_
   subst h_44
   refine l_loadAt m Pl2 f rfl rfl g_43 fun a f => ?_
   refine l_in f rfl rfl rfl b_eql fun a f => ?_
   refine l_nil ?_
   rcases cond_some hs_21 with ⟨hc_45, hs_21⟩ | ⟨hc_45, hs_21⟩
   ·refine k_true f rfl hc_45 ?_
    refine k_seq (k_region ?_)
    refine l_mv f rfl rfl fun a f => ?_
    refine l_as f rfl rfl fun a f => ?_
    refine l_nil ?_
    refine k_ret ?_
    obtain rfl := sj hs_21
    obtain rfl := hq_22 _ rfl
    obtain rfl := sj hd
    exact ⟨[(.int .i64 x_26)], ⟨f.get _ _ rfl, trivial⟩, f.defers, _, [], hl_27, m, rfl, rfl⟩
   ·refine k_false f rfl hc_45 ?_
    refine k_skip ?_
    refine k_region ?_
    refine l_in f rfl rfl rfl b_add fun a f => ?_
    refine l_mv f rfl rfl fun a f => ?_
    refine l_nil ?_
    obtain rfl := sj hs_21
    exact ⟨_, rfl, _, rfl, _, hl_27, f.weak ⟨rfl, rfl, rfl, rfl, trivial⟩, m⟩
  ·refine k_false f rfl hc_38 ?_
   refine k_exit rfl ?_
   obtain rfl := sj hs_21
   obtain rfl := hq_22 _ rfl
   exact ⟨_, rfl, _, hl_27, f.weak trivial, m⟩
 ·rintro a w ⟨_, rfl, G_36, hl_37, f, m⟩
  refine k_seq (k_region ?_)
  refine l_as f rfl rfl fun a f => ?_
  refine l_nil ?_
  refine k_ret ?_
  obtain rfl := sj hd
  exact ⟨[(.int .i64 (-1))], ⟨f.get _ _ rfl, trivial⟩, f.defers, _, [], hl_37, m, rfl, rfl⟩

theorem Wk.slices_Contains_int64_int64 {W w : World} {G : GH} {H : List Itm} {v0 : Value} {x0 : (List Int)} {x1 : Int} (m : Mem W G w (H)) (h0 : RSl (RI .i64) G v0 x0) {y : Bool} (hd : D.slices_Contains_int64_int64 x0 x1 = some y) :
  Calls Tryd.prog 78 #[v0, (.int .i64 x1)] w (Res W G H (fun _ Ho v => Ho = [] ∧ v = (.bool y))) := by
 refine calls_b (args := [v0, (.int .i64 x1)]) (N := 9) [.tmp 4] Tryd.func78 rfl rfl (Nat.le_of_ble_eq_true rfl) rfl fun a f => ?_
 unfold D.slices_Contains_int64_int64 at hd
 refine k_seq (k_region ?_)
 refine l_as f rfl rfl fun a f => ?_
 refine l_nil (k_seq (k_region ?_))
 refine l_mv f rfl rfl fun a f => ?_
 refine l_mv f rfl rfl fun a f => ?_
 obtain ⟨y_1, hy_2, hd⟩ := bind_some hd
 refine l_res f rfl rfl Tryd.call106 (Wk.slices_Index_int64_int64 m h0 hy_2) fun v_6 G_3 Ho_7 w hl_4 m hQ_5 a f => ?_
 obtain ⟨rfl, rfl⟩ := hQ_5
 have h0 := RSl.mono (RI.mono _) _ _ _ _ hl_4 h0
 refine l_in f rfl rfl rfl b_geq fun a f => ?_
 refine l_as f rfl rfl fun a f => ?_
 refine l_nil ?_
 refine k_ret ?_
 obtain rfl := sj hd
 exact ⟨[(.bool (decide ((0 : Int) ≤ y_1)))], ⟨f.get _ _ rfl, trivial⟩, f.defers, _, [], hl_4, m, rfl, rfl⟩

theorem Wk.math_bits_TrailingZeros32 {W w : World} {G : GH} {H : List Itm} {x0 : Int} (hW : TabW W) (m : Mem W G w (H))  {y : Int} (hd : D.math_bits_TrailingZeros32 x0 = some y) :
  Calls Tryd.prog 151 #[(.int .u32 x0)] w (Res W G H (fun _ Ho v => Ho = [] ∧ v = (.int .i64 y))) := by
 refine calls_b (args := [(.int .u32 x0)]) (N := 14) [.tmp 2] Tryd.func151 rfl rfl (Nat.le_of_ble_eq_true rfl) rfl fun a f => ?_
 unfold D.math_bits_TrailingZeros32 at hd
 refine k_seq (k_region ?_)
 refine l_as f rfl rfl fun a f => ?_
 refine l_nil (k_seq (k_seq (k_region ?_)))
 refine l_mv f rfl rfl fun a f => ?_
 refine l_in f rfl rfl rfl b_eql fun a f => ?_
 refine l_nil ?_
 rcases cond_some hd with ⟨hc_1, hd⟩ | ⟨hc_1, hd⟩
 ·refine k_true f rfl hc_1 ?_
  refine k_seq (k_region ?_)
  refine l_as f rfl rfl fun a f => ?_
  refine l_nil ?_
  refine k_ret ?_
  obtain rfl := sj hd
  exact ⟨[(.int .i64 32)], ⟨f.get _ _ rfl, trivial⟩, f.defers, _, [], (GLe.refl _), m, rfl, rfl⟩
 ·refine k_false f rfl hc_1 ?_
  refine k_skip ?_
  refine k_seq (k_region ?_)
  refine l_mv f rfl rfl fun a f => ?_
  refine l_mv f rfl rfl fun a f => ?_
  refine l_op f rfl rfl rfl (r_neg (f.eval rfl)) fun a f => ?_
  refine l_in f rfl rfl rfl b_and fun a f => ?_
  refine l_in f rfl rfl rfl b_mul fun a f => ?_
  refine l_op f rfl rfl rfl (r_shr (f.eval rfl) (f.eval rfl) (by decide)) fun a f => ?_
  obtain ⟨e_3, he_4, hd⟩ := bind_some hd
  refine l_tab hW m Tryd.underlying148 Tryd.sizeOf5 f rfl rfl he_4 fun p_5 a g_6 f => ?_
  refine l_loadAt m Pl5 f rfl rfl g_6 fun a f => ?_
  refine l_op f rfl rfl rfl (r_conv (f.eval rfl) ⟨_, Tryd.underlying5⟩ Tryd.underlying3) fun a f => ?_
  refine l_as f rfl rfl fun a f => ?_
  refine l_nil ?_
  refine k_ret ?_
  obtain rfl := sj hd
  exact ⟨[(.int .i64 (IntKind.i64.wrap e_3))], ⟨f.get _ _ rfl, trivial⟩, f.defers, _, [], (GLe.refl _), m, rfl, rfl⟩

theorem Wk.slices_nextPowerOfTwo {W w : World} {G : GH} {H : List Itm} {x0 : Int} (m : Mem W G w (H))  {y : Int} (hd : D.slices_nextPowerOfTwo x0 = some y) :
  Calls Tryd.prog 134 #[(.int .i64 x0)] w (Res W G H (fun _ Ho v => Ho = [] ∧ v = (.int .u64 y))) := by
 refine calls_b (args := [(.int .i64 x0)]) (N := 7) [.tmp 2] Tryd.func134 rfl rfl (Nat.le_of_ble_eq_true rfl) rfl fun a f => ?_
 unfold D.slices_nextPowerOfTwo at hd
 refine k_seq (k_region ?_)
 refine l_as f rfl rfl fun a f => ?_
 refine l_nil (k_seq (k_region ?_))
 refine l_mv f rfl rfl fun a f => ?_
 refine l_op f rfl rfl rfl (r_conv (f.eval rfl) ⟨_, Tryd.underlying3⟩ Tryd.underlying48) fun a f => ?_
 obtain ⟨y_1, hy_2, hd⟩ := bind_some hd
 refine l_res f rfl rfl Tryd.call84 (Wk.math_bits_Len m  hy_2) fun v_6 G_3 Ho_7 w hl_4 m hQ_5 a f => ?_
 obtain ⟨rfl, rfl⟩ := hQ_5
 obtain ⟨hn_8, hd⟩ := cond_none hd
 refine l_op f rfl rfl rfl (r_shl (f.eval rfl) (f.eval rfl) hn_8) fun a f => ?_
 refine l_as f rfl rfl fun a f => ?_
 refine l_nil ?_
 refine k_ret ?_
 obtain rfl := sj hd
 exact ⟨[(.int .u64 (ishl .u64 1 y_1))], ⟨f.get _ _ rfl, trivial⟩, f.defers, _, [], hl_4, m, rfl, rfl⟩

theorem Wk.slices_xorshift_Next {W w : World} {G : GH} {H : List Itm} {b0 : Nat} {x0_0 : Int} (m : Mem W G w (Itm.box b0 129 [(.int .u64 x0_0)] :: H))  {y : Int × Int} (hd : D.slices_xorshift_Next x0_0 = some y) :
  Calls Tryd.prog 135 #[(.pointer (some ⟨b0, 0, none⟩))] w (Res W G H (fun _ Ho v => Ho = [Itm.box b0 129 [(.int .u64 y.2)]] ∧ v = (.int .u64 y.1))) := by
 refine calls_b (args := [(.pointer (some ⟨b0, 0, none⟩))]) (N := 33) [.tmp 2] Tryd.func135 rfl rfl (Nat.le_of_ble_eq_true rfl) rfl fun a f => ?_
 unfold D.slices_xorshift_Next at hd
 refine k_seq (k_region ?_)
 refine l_as f rfl rfl fun a f => ?_
 refine l_nil (k_seq ?_)
 refine k_draw 9 Follows (by kernel_rfl) m ?_
 refine q_mv 0 9 rfl (by kernel_rfl) f rfl rfl rfl fun a f => ?_
 refine q_p 1 9 rfl (by kernel_rfl) f rfl rfl rfl (fun _ => r_nilCheck (f.eval rfl)) fun a f => ?_
 refine q_boxCell (i := 2) 9 0 Pl129 rfl rfl rfl (by kernel_rfl) rfl f rfl rfl rfl fun a f => ?_
 refine q_mv 3 9 rfl (by kernel_rfl) f rfl rfl rfl fun a f => ?_
 refine q_p 4 9 rfl (by kernel_rfl) f rfl rfl rfl (fun _ => r_nilCheck (f.eval rfl)) fun a f => ?_
 refine q_boxCell (i := 5) 9 0 Pl129 rfl rfl rfl (by kernel_rfl) rfl f rfl rfl rfl fun a f => ?_
 refine q_p 6 9 rfl (by kernel_rfl) f rfl rfl rfl (fun _ => r_shl (f.eval rfl) (f.eval rfl) (by decide)) fun a f => ?_
 refine q_p 7 9 rfl (by kernel_rfl) f rfl rfl rfl (fun _ => r_int (f.eval rfl) (f.eval rfl) b_xor) fun a f => ?_
 refine q_p 8 9 rfl (by kernel_rfl) f rfl rfl rfl (fun _ => r_nilCheck (f.eval rfl)) fun a f => ?_
 refine q_end fun G_2 w hl_3 m => ?_
 refine l_boxStore 0 0 (ds := [(.int .u64 (ixor .u64 x0_0 (ishl .u64 x0_0 13)))]) m Tryd.sizeOf129 f rfl rfl rfl (ones_cons rfl ones_nil) rfl (Nat.le_of_ble_eq_true rfl) rfl fun w m => ?_
 refine l_nil (k_seq ?_)
 refine k_draw 9 Follows (by kernel_rfl) m ?_
 refine q_mv 0 9 rfl (by kernel_rfl) f rfl rfl rfl fun a f => ?_
 refine q_p 1 9 rfl (by kernel_rfl) f rfl rfl rfl (fun _ => r_nilCheck (f.eval rfl)) fun a f => ?_
 refine q_boxCell (i := 2) 9 0 Pl129 rfl rfl rfl (by kernel_rfl) rfl f rfl rfl rfl fun a f => ?_
 refine q_mv 3 9 rfl (by kernel_rfl) f rfl rfl rfl fun a f => ?_
 refine q_p 4 9 rfl (by kernel_rfl) f rfl rfl rfl (fun _ => r_nilCheck (f.eval rfl)) fun a f => ?_
 refine q_boxCell (i := 5) 9 0 Pl129 rfl rfl rfl (by kernel_rfl) rfl f rfl rfl rfl fun a f => ?_
 refine q_p 6 9 rfl (by kernel_rfl) f rfl rfl rfl (fun _ => r_shr (f.eval rfl) (f.eval rfl) (by decide)) fun a f => ?_
 refine q_p 7 9 rfl (by kernel_rfl) f rfl rfl rfl (fun _ => r_int (f.eval rfl) (f.eval rfl) b_xor) fun a f => ?_
 refine q_p 8 9 rfl (by kernel_rfl) f rfl rfl rfl (fun _ => r_nilCheck (f.eval rfl)) fun a f => ?_
 refine q_end fun G_5 w hl_6 m => ?_
 refine l_boxStore 0 0 (ds := [(.int .u64 (ixor .u64 (ixor .u64 x0_0 (ishl .u64 x0_0 13)) (ishr .u64 (ixor .u64 x0_0 (ishl .u64 x0_0 13)) 7)))]) m Tryd.sizeOf129 f rfl rfl rfl (ones_cons rfl ones_nil) rfl (Nat.le_of_ble_eq_true rfl) rfl fun w m => ?_
 refine l_nil (k_seq ?_)
 refine k_draw 9 Follows (by kernel_rfl) m ?_
 refine q_mv 0 9 rfl (by kernel_rfl) f rfl rfl rfl fun a f => ?_
 refine q_p 1 9 rfl (by kernel_rfl) f rfl rfl rfl (fun _ => r_nilCheck (f.eval rfl)) fun a f => ?_
 refine q_boxCell (i := 2) 9 0 Pl129 rfl rfl rfl (by kernel_rfl) rfl f rfl rfl rfl fun a f => ?_
 refine q_mv 3 9 rfl (by kernel_rfl) f rfl rfl rfl fun a f => ?_
 refine q_p 4 9 rfl (by kernel_rfl) f rfl rfl rfl (fun _ => r_nilCheck (f.eval rfl)) fun a f => ?_
 refine q_boxCell (i := 5) 9 0 Pl129 rfl rfl rfl (by kernel_rfl) rfl f rfl rfl rfl fun a f => ?_
 refine q_p 6 9 rfl (by kernel_rfl) f rfl rfl rfl (fun _ => r_shl (f.eval rfl) (f.eval rfl) (by decide)) fun a f => ?_
 refine q_p 7 9 rfl (by kernel_rfl) f rfl rfl rfl (fun _ => r_int (f.eval rfl) (f.eval rfl) b_xor) fun a f => ?_
 refine q_p 8 9 rfl (by kernel_rfl) f rfl rfl rfl (fun _ => r_nilCheck (f.eval rfl)) fun a f => ?_
 refine q_end fun G_8 w hl_9 m => ?_
 refine l_boxStore 0 0 (ds := [(.int .u64 (ixor .u64 (ixor .u64 (ixor .u64 x0_0 (ishl .u64 x0_0 13)) (ishr .u64 (ixor .u64 x0_0 (ishl .u64 x0_0 13)) 7)) (ishl .u64 (ixor .u64 (ixor .u64 x0_0 (ishl .u64 x0_0 13)) (ishr .u64 (ixor .u64 x0_0 (ishl .u64 x0_0 13)) 7)) 17)))]) m Tryd.sizeOf129 f rfl rfl rfl (ones_cons rfl ones_nil) rfl (Nat.le_of_ble_eq_true rfl) rfl fun w m => ?_
 refine l_nil (k_seq (k_region ?_))
 refine l_mv f rfl rfl fun a f => ?_
 refine l_op f rfl rfl rfl (r_nilCheck (f.eval rfl)) fun a f => ?_
 refine l_boxCell 0 0 m Pl129 f rfl rfl rfl rfl fun a f => ?_
 refine l_as f rfl rfl fun a f => ?_
 refine l_nil ?_
 refine k_ret ?_
 obtain rfl := sj hd
 exact ⟨[(.int .u64 (ixor .u64 (ixor .u64 (ixor .u64 x0_0 (ishl .u64 x0_0 13)) (ishr .u64 (ixor .u64 x0_0 (ishl .u64 x0_0 13)) 7)) (ishl .u64 (ixor .u64 (ixor .u64 x0_0 (ishl .u64 x0_0 13)) (ishr .u64 (ixor .u64 x0_0 (ishl .u64 x0_0 13)) 7)) 17)))], ⟨f.get _ _ rfl, trivial⟩, f.defers, _, [Itm.box b0 129 [(.int .u64 (ixor .u64 (ixor .u64 (ixor .u64 x0_0 (ishl .u64 x0_0 13)) (ishr .u64 (ixor .u64 x0_0 (ishl .u64 x0_0 13)) 7)) (ishl .u64 (ixor .u64 (ixor .u64 x0_0 (ishl .u64 x0_0 13)) (ishr .u64 (ixor .u64 x0_0 (ishl .u64 x0_0 13)) 7)) 17)))]], (GLe.trans hl_3 (GLe.trans hl_6 hl_9)), m, rfl, rfl⟩

theorem Wk.cmp_isNaN_int {W w : World} {G : GH} {H : List Itm} {x0 : Int} (m : Mem W G w (H))  {y : Bool} (hd : D.cmp_isNaN_int x0 = some y) :
  Calls Tryd.prog 153 #[(.int .i64 x0)] w (Res W G H (fun _ Ho v => Ho = [] ∧ v = (.bool y))) := by
 refine calls_b (args := [(.int .i64 x0)]) (N := 6) [.tmp 2] Tryd.func153 rfl rfl (Nat.le_of_ble_eq_true rfl) rfl fun a f => ?_
 unfold D.cmp_isNaN_int at hd
 refine k_seq (k_region ?_)
 refine l_as f rfl rfl fun a f => ?_
 refine l_nil (k_seq (k_region ?_))
 refine l_mv f rfl rfl fun a f => ?_
 refine l_mv f rfl rfl fun a f => ?_
 refine l_in f rfl rfl rfl b_neq fun a f => ?_
 refine l_as f rfl rfl fun a f => ?_
 refine l_nil ?_
 refine k_ret ?_
 obtain rfl := sj hd
 exact ⟨[(.bool (x0 != x0))], ⟨f.get _ _ rfl, trivial⟩, f.defers, _, [], (GLe.refl _), m, rfl, rfl⟩

theorem Wk.cmp_Compare_int {W w : World} {G : GH} {H : List Itm} {x0 : Int} {x1 : Int} (m : Mem W G w (H))  {y : Int} (hd : D.cmp_Compare_int x0 x1 = some y) :
  Calls Tryd.prog 132 #[(.int .i64 x0), (.int .i64 x1)] w (Res W G H (fun _ Ho v => Ho = [] ∧ v = (.int .i64 y))) := by
 refine calls_b (args := [(.int .i64 x0), (.int .i64 x1)]) (N := 20) [.tmp 4] Tryd.func132 rfl rfl (Nat.le_of_ble_eq_true rfl) rfl fun a f => ?_
 unfold D.cmp_Compare_int at hd
 refine k_seq (k_region ?_)
 refine l_as f rfl rfl fun a f => ?_
 refine l_nil (k_seq (k_region ?_))
 refine l_mv f rfl rfl fun a f => ?_
 obtain ⟨y_1, hy_2, hd⟩ := bind_some hd
 refine l_res f rfl rfl Tryd.call153 (Wk.cmp_isNaN_int m  hy_2) fun v_6 G_3 Ho_7 w hl_4 m hQ_5 a f => ?_
 obtain ⟨rfl, rfl⟩ := hQ_5
 refine l_as f rfl rfl fun a f => ?_
 refine l_nil (k_seq (k_region ?_))
 refine l_mv f rfl rfl fun a f => ?_
 obtain ⟨y_8, hy_9, hd⟩ := bind_some hd
 refine l_res f rfl rfl Tryd.call153 (Wk.cmp_isNaN_int m  hy_9) fun v_13 G_10 Ho_14 w hl_11 m hQ_12 a f => ?_
 obtain ⟨rfl, rfl⟩ := hQ_12
 refine l_as f rfl rfl fun a f => ?_
 refine l_nil (k_seq (k_seq (k_region ?_)))
 refine l_mv f rfl rfl fun a f => ?_
 refine l_nil ?_
 rcases cond_some hd with ⟨hc_15, hd⟩ | ⟨hc_15, hd⟩
 ·refine k_true f rfl hc_15 ?_
  refine k_seq (k_seq (k_region ?_))
  refine l_mv f rfl rfl fun a f => ?_
  refine l_nil ?_
  rcases cond_some hd with ⟨hc_16, hd⟩ | ⟨hc_16, hd⟩
  ·refine k_true f rfl hc_16 ?_
   refine k_seq (k_region ?_)
   refine l_as f rfl rfl fun a f => ?_
   refine l_nil ?_
   refine k_ret ?_
   obtain rfl := sj hd
   exact ⟨[(.int .i64 0)], ⟨f.get _ _ rfl, trivial⟩, f.defers, _, [], (GLe.trans hl_4 hl_11), m, rfl, rfl⟩
  ·refine k_false f rfl hc_16 ?_
   refine k_skip ?_
   refine k_seq (k_region ?_)
   refine l_as f rfl rfl fun a f => ?_
   refine l_nil ?_
   refine k_ret ?_
   obtain rfl := sj hd
   exact ⟨[(.int .i64 (-1))], ⟨f.get _ _ rfl, trivial⟩, f.defers, _, [], (GLe.trans hl_4 hl_11), m, rfl, rfl⟩
 ·refine k_false f rfl hc_15 ?_
  refine k_skip ?_
  refine k_seq (k_seq (k_region ?_))
  refine l_mv f rfl rfl fun a f => ?_
  refine l_nil ?_
  rcases cond_some hd with ⟨hc_17, hd⟩ | ⟨hc_17, hd⟩
  ·refine k_true f rfl hc_17 ?_
   refine k_seq (k_region ?_)
   refine l_as f rfl rfl fun a f => ?_
   refine l_nil ?_
   refine k_ret ?_
   obtain rfl := sj hd
   exact ⟨[(.int .i64 1)], ⟨f.get _ _ rfl, trivial⟩, f.defers, _, [], (GLe.trans hl_4 hl_11), m, rfl, rfl⟩
  ·refine k_false f rfl hc_17 ?_
   refine k_skip ?_
   refine k_seq (k_seq (k_region ?_))
   refine l_mv f rfl rfl fun a f => ?_
   refine l_mv f rfl rfl fun a f => ?_
   refine l_in f rfl rfl rfl b_lss fun a f => ?_
   refine l_nil ?_
   rcases cond_some hd with ⟨hc_18, hd⟩ | ⟨hc_18, hd⟩
   ·refine k_true f rfl hc_18 ?_
    refine k_seq (k_region ?_)
    refine l_as f rfl rfl fun a f => ?_
    refine l_nil ?_
    refine k_ret ?_
    obtain rfl := sj hd
    exact ⟨[(.int .i64 (-1))], ⟨f.get _ _ rfl, trivial⟩, f.defers, _, [], (GLe.trans hl_4 hl_11), m, rfl, rfl⟩
   ·refine k_false f rfl hc_18 ?_
    refine k_skip ?_
    refine k_seq (k_seq (k_region ?_))
    refine l_mv f rfl rfl fun a f => ?_
    refine l_mv f rfl rfl fun a f => ?_
    refine l_in f rfl rfl rfl b_gtr fun a f => ?_
    refine l_nil ?_
    rcases cond_some hd with ⟨hc_19, hd⟩ | ⟨hc_19, hd⟩
    ·refine k_true f rfl hc_19 ?_
     refine k_seq (k_region ?_)
     refine l_as f rfl rfl fun a f => ?_
     refine l_nil ?_
     refine k_ret ?_
     obtain rfl := sj hd
     exact ⟨[(.int .i64 1)], ⟨f.get _ _ rfl, trivial⟩, f.defers, _, [], (GLe.trans hl_4 hl_11), m, rfl, rfl⟩
    ·refine k_false f rfl hc_19 ?_
     refine k_skip ?_
     refine k_seq (k_region ?_)
     refine l_as f rfl rfl fun a f => ?_
     refine l_nil ?_
     refine k_ret ?_
     obtain rfl := sj hd
     exact ⟨[(.int .i64 0)], ⟨f.get _ _ rfl, trivial⟩, f.defers, _, [], (GLe.trans hl_4 hl_11), m, rfl, rfl⟩

theorem Wk.slices_Compare_int_int {W w : World} {G : GH} {H : List Itm} {v0 : Value} {v1 : Value} {x0 : (List Int)} {x1 : (List Int)} (m : Mem W G w (H)) (h0 : RSl (RI .i64) G v0 x0) (h1 : RSl (RI .i64) G v1 x1) {y : Int} (hd : D.slices_Compare_int_int x0 x1 = some y) :
  Calls Tryd.prog 108 #[v0, v1] w (Res W G H (fun _ Ho v => Ho = [] ∧ v = (.int .i64 y))) := by
 refine calls_b (args := [v0, v1]) (N := 36) [.tmp 4] Tryd.func108 rfl rfl (Nat.le_of_ble_eq_true rfl) rfl fun a f => ?_
 unfold D.slices_Compare_int_int at hd
 refine k_seq (k_region ?_)
 refine l_as f rfl rfl fun a f => ?_
 refine l_nil (k_seq (k_seq (k_region ?_)))
 refine l_mv f rfl rfl fun a f => ?_
 refine l_len Tryd.underlying74 f rfl rfl h0 fun a f => ?_
 refine l_mv f rfl rfl fun a f => ?_
 refine l_nil ?_
 obtain ⟨q_47, hl_48, hd⟩ := bind_some hd
 refine k_cut (fun a w => ∃ q_47' : Unit, q_47 = .inl q_47' ∧ ∃ (G_78 : GH), GLe G G_78 ∧ Fr a 36 [(0, v0), (1, v1)] ∧ Mem W G_78 w (H)) ?_ ?_
 ·refine k_block ?_
  refine k_loop (fun s_51 a w => ∃ x_54 : Int, x_54 = s_51 ∧ ∃ (G_53 : GH), GLe G G_53 ∧ Fr a 36 [(0, v0), (1, v1), (9, v0), (10, (.int .i64 (x0.length : Int))), (11, (.int .i64 x_54))] ∧ Mem W G_53 w (H)) hl_48 ⟨_, rfl, _, (GLe.refl _), f.weak ⟨rfl, rfl, rfl, rfl, rfl, trivial⟩, m⟩ ?_
  clear hl_48 f m
  rintro s_51 o_52 hs_49 hq_50 a w ⟨x_54, rfl, G_53, hl_55, f, m⟩
  have h0 := RSl.mono (RI.mono _) _ _ _ _ hl_55 h0
  have h1 := RSl.mono (RI.mono _) _ _ _ _ hl_55 h1
  refine k_seq (k_region ?_)
  refine l_in f rfl rfl rfl b_lss fun a f => ?_
  refine l_nil (k_seq ?_)
  rcases cond_some hs_49 with ⟨hc_80, hs_49⟩ | ⟨hc_80, hs_49⟩
  ·refine k_true f rfl hc_80 ?_
   refine k_skip ?_
   refine k_seq (k_block (k_seq (k_region ?_)))
   refine l_mv f rfl rfl fun a f => ?_
   obtain ⟨e_81, he_82, hs_49⟩ := bind_some hs_49
   refine l_at T74 f rfl rfl rfl h0 he_82 fun p_83 c_84 a g_85 h_86 f => ?_
   subst h_86
   refine l_loadAt m Pl3 f rfl rfl g_85 fun a f => ?_
   refine l_as f rfl rfl fun a f => ?_
   refine l_as f rfl rfl fun a f => ?_
   refine l_nil (k_seq (k_seq (k_region ?_)))
   refine l_mv f rfl rfl fun a f => ?_
   refine l_mv f rfl rfl fun a f => ?_
   refine l_len Tryd.underlying74 f rfl rfl h1 fun a f => ?_
   refine l_in f rfl rfl rfl b_geq fun a f => ?_
   refine l_nil ?_
   rcases cond_some hs_49 with ⟨hc_87, hs_49⟩ | ⟨hc_87, hs_49⟩
   ·refine k_true f rfl hc_87 ?_
    refine k_seq (k_region ?_)
    refine l_as f rfl rfl fun a f => ?_
    refine l_nil ?_
    refine k_ret ?_
    obtain rfl := sj hs_49
    obtain rfl := hq_50 _ rfl
    obtain rfl := sj hd
    exact ⟨[(.int .i64 1)], ⟨f.get _ _ rfl, trivial⟩, f.defers, _, [], hl_55, m, rfl, rfl⟩
   ·refine k_false f rfl hc_87 ?_
    refine k_skip ?_
    refine k_seq (k_region ?_)
    refine l_mv f rfl rfl fun a f => ?_
    refine l_mv f rfl rfl fun a f => ?_
    obtain ⟨e_88, he_89, hs_49⟩ := bind_some hs_49
    refine l_at T74 f rfl rfl rfl h1 he_89 fun p_90 c_91 a g_92 h_93 f => ?_
    subst h_93
    refine l_loadAt m Pl3 f rfl rfl g_92 fun a f => ?_
    refine l_as f rfl rfl fun a f => ?_
    refine l_nil (k_seq (k_region ?_))
    refine l_mv f rfl rfl fun a f => ?_
    refine l_mv f rfl rfl fun a f => ?_
    obtain ⟨y_94, hy_95, hs_49⟩ := bind_some hs_49
    refine l_res f rfl rfl Tryd.call132 (Wk.cmp_Compare_int m  hy_95) fun v_99 G_96 Ho_100 w hl_97 m hQ_98 a f => ?_
    obtain ⟨rfl, rfl⟩ := hQ_98
    have h0 := RSl.mono (RI.mono _) _ _ _ _ hl_97 h0
    have h1 := RSl.mono (RI.mono _) _ _ _ _ hl_97 h1
    refine l_as f rfl rfl fun a f => ?_
    refine l_nil (k_seq (k_region ?_))
    refine l_mv f rfl rfl fun a f => ?_
    refine l_in f rfl rfl rfl b_neq fun a f => ?_
    refine l_nil ?_
    rcases cond_some hs_49 with ⟨hc_101, hs_49⟩ | ⟨hc_101, hs_49⟩
    ·refine k_true f rfl hc_101 ?_
     refine k_seq (k_region ?_)
     refine l_mv f rfl rfl fun a f => ?_
     refine l_as f rfl rfl fun a f => ?_
     refine l_nil ?_
     refine k_ret ?_
     obtain rfl := sj hs_49
     obtain rfl := hq_50 _ rfl
     obtain rfl := sj hd
     exact ⟨[(.int .i64 y_94)], ⟨f.get _ _ rfl, trivial⟩, f.defers, _, [], (GLe.trans hl_55 hl_97), m, rfl, rfl⟩
    ·refine k_false f rfl hc_101 ?_
     refine k_skip ?_
     refine k_region ?_
     refine l_in f rfl rfl rfl b_add fun a f => ?_
     refine l_mv f rfl rfl fun a f => ?_
     refine l_nil ?_
     obtain rfl := sj hs_49
     exact ⟨_, rfl, _, rfl, _, (GLe.trans hl_55 hl_97), f.weak ⟨rfl, rfl, rfl, rfl, rfl, trivial⟩, m⟩
  ·refine k_false f rfl hc_80 ?_
   refine k_exit rfl ?_
   obtain rfl := sj hs_49
   obtain rfl := hq_50 _ rfl
   exact ⟨_, rfl, _, hl_55, f.weak ⟨rfl, rfl, trivial⟩, m⟩
 ·rintro a w ⟨_, rfl, G_78, hl_79, f, m⟩
  have h0 := RSl.mono (RI.mono _) _ _ _ _ hl_79 h0
  have h1 := RSl.mono (RI.mono _) _ _ _ _ hl_79 h1
  refine k_seq (k_seq (k_region ?_))
  refine l_mv f rfl rfl fun a f => ?_
  refine l_len Tryd.underlying74 f rfl rfl h0 fun a f => ?_
  refine l_mv f rfl rfl fun a f => ?_
  refine l_len Tryd.underlying74 f rfl rfl h1 fun a f => ?_
  refine l_in f rfl rfl rfl b_lss fun a f => ?_
  refine l_nil ?_
  rcases cond_some hd with ⟨hc_102, hd⟩ | ⟨hc_102, hd⟩
  ·refine k_true f rfl hc_102 ?_
   refine k_seq (k_region ?_)
   refine l_as f rfl rfl fun a f => ?_
   refine l_nil ?_
   refine k_ret ?_
   obtain rfl := sj hd
   exact ⟨[(.int .i64 (-1))], ⟨f.get _ _ rfl, trivial⟩, f.defers, _, [], hl_79, m, rfl, rfl⟩
  ·refine k_false f rfl hc_102 ?_
   refine k_skip ?_
   refine k_seq (k_region ?_)
   refine l_as f rfl rfl fun a f => ?_
   refine l_nil ?_
   refine k_ret ?_
   obtain rfl := sj hd
   exact ⟨[(.int .i64 0)], ⟨f.get _ _ rfl, trivial⟩, f.defers, _, [], hl_79, m, rfl, rfl⟩

theorem Wk.math_bits_OnesCount32 {W w : World} {G : GH} {H : List Itm} {x0 : Int} (m : Mem W G w (H))  {y : Int} (hd : D.math_bits_OnesCount32 x0 = some y) :
  Calls Tryd.prog 119 #[(.int .u32 x0)] w (Res W G H (fun _ Ho v => Ho = [] ∧ v = (.int .i64 y))) := by
 refine calls_b (args := [(.int .u32 x0)]) (N := 21) [.tmp 2] Tryd.func119 rfl rfl (Nat.le_of_ble_eq_true rfl) rfl fun a f => ?_
 unfold D.math_bits_OnesCount32 at hd
 refine k_seq (k_region ?_)
 refine l_as f rfl rfl fun a f => ?_
 refine l_nil (k_seq ?_)
 refine k_draw 19 Follows (by kernel_rfl) m ?_
 refine q_mv 0 19 rfl (by kernel_rfl) f rfl rfl rfl fun a f => ?_
 refine q_p 1 19 rfl (by kernel_rfl) f rfl rfl rfl (fun _ => r_shr (f.eval rfl) (f.eval rfl) (by decide)) fun a f => ?_
 obtain ⟨e_2, he_3, hd⟩ := bind_some hd
 refine q_p 2 19 rfl (by kernel_rfl) f rfl rfl rfl (fun _ => r_strAt (f.eval rfl) (f.eval rfl) Tryd.underlying9 he_3) fun a f => ?_
 refine q_mv 3 19 rfl (by kernel_rfl) f rfl rfl rfl fun a f => ?_
 refine q_p 4 19 rfl (by kernel_rfl) f rfl rfl rfl (fun _ => r_shr (f.eval rfl) (f.eval rfl) (by decide)) fun a f => ?_
 refine q_p 5 19 rfl (by kernel_rfl) f rfl rfl rfl (fun _ => r_int (f.eval rfl) (f.eval rfl) b_and) fun a f => ?_
 obtain ⟨e_5, he_6, hd⟩ := bind_some hd
 refine q_p 6 19 rfl (by kernel_rfl) f rfl rfl rfl (fun _ => r_strAt (f.eval rfl) (f.eval rfl) Tryd.underlying9 he_6) fun a f => ?_
 refine q_p 7 19 rfl (by kernel_rfl) f rfl rfl rfl (fun _ => r_int (f.eval rfl) (f.eval rfl) b_add) fun a f => ?_
 refine q_mv 8 19 rfl (by kernel_rfl) f rfl rfl rfl fun a f => ?_
 refine q_p 9 19 rfl (by kernel_rfl) f rfl rfl rfl (fun _ => r_shr (f.eval rfl) (f.eval rfl) (by decide)) fun a f => ?_
 refine q_p 10 19 rfl (by kernel_rfl) f rfl rfl rfl (fun _ => r_int (f.eval rfl) (f.eval rfl) b_and) fun a f => ?_
 obtain ⟨e_8, he_9, hd⟩ := bind_some hd
 refine q_p 11 19 rfl (by kernel_rfl) f rfl rfl rfl (fun _ => r_strAt (f.eval rfl) (f.eval rfl) Tryd.underlying9 he_9) fun a f => ?_
 refine q_p 12 19 rfl (by kernel_rfl) f rfl rfl rfl (fun _ => r_int (f.eval rfl) (f.eval rfl) b_add) fun a f => ?_
 refine q_mv 13 19 rfl (by kernel_rfl) f rfl rfl rfl fun a f => ?_
 refine q_p 14 19 rfl (by kernel_rfl) f rfl rfl rfl (fun _ => r_int (f.eval rfl) (f.eval rfl) b_and) fun a f => ?_
 obtain ⟨e_10, he_11, hd⟩ := bind_some hd
 refine q_p 15 19 rfl (by kernel_rfl) f rfl rfl rfl (fun _ => r_strAt (f.eval rfl) (f.eval rfl) Tryd.underlying9 he_11) fun a f => ?_
 refine q_p 16 19 rfl (by kernel_rfl) f rfl rfl rfl (fun _ => r_int (f.eval rfl) (f.eval rfl) b_add) fun a f => ?_
 refine q_p 17 19 rfl (by kernel_rfl) f rfl rfl rfl (fun _ => r_conv (f.eval rfl) ⟨_, Tryd.underlying5⟩ Tryd.underlying3) fun a f => ?_
 refine q_p 18 19 rfl (by kernel_rfl) f rfl rfl rfl (fun _ => r_assign (f.eval rfl)) fun a f => ?_
 refine q_end fun G_12 w hl_13 m => ?_
 refine l_nil ?_
 refine k_ret ?_
 obtain rfl := sj hd
 exact ⟨[(.int .i64 (IntKind.i64.wrap (IntKind.u8.wrap ((IntKind.u8.wrap ((IntKind.u8.wrap (e_2 + e_5)) + e_8)) + e_10))))], ⟨f.get _ _ rfl, trivial⟩, f.defers, _, [], hl_13, m, rfl, rfl⟩

end Go.Proofs.YtocakchlhemmeaaDoor
