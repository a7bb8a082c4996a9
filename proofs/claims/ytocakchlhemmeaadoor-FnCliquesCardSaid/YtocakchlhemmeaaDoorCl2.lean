/- Parts of the proof: DBase, DE1, DE2, DC1, DC2, DC3, SxH, CAD, CBD, CCD, CDD, CED, CFD, CGD, CHandA, CHandB, CAW, CBW. -/
import Derived.Test.YtocakchlhemmeaaDoorCl1
import Derived.Shelf.Small.Bits
import Derived.Test.YtocakchlhemmeaaDoorProg
import Derived.RangeFuncBox
import Derived.RangeFuncLeaves
import Derived.Shelf.Abstract
import Derived.WalkKit
import Derived.OwnWalkIn
import Derived.TacticsInMore
import Derived.LoopNIn
import Derived.LoopIn
import Derived.Maps.AppendAt
import Derived.KernelRfl
set_option linter.unusedVariables false
set_option linter.unusedSimpArgs false
set_option linter.unusedSectionVars false
namespace Go.Sx

noncomputable def D.cmp_isNaN_int64 (x0 : Int) : Option (Bool) :=
  some (x0 != x0)

noncomputable def D.cmp_Less_int64 (x0 : Int) (x1 : Int) : Option (Bool) :=
  (D.cmp_isNaN_int64 x0).bind fun y_1 => (cond y_1 ((D.cmp_isNaN_int64 x1).bind fun y_27 => some (!y_27)) (some false)).bind fun b_25 => some (b_25 || (decide (x0 < x1)))

noncomputable def D.slices_order2Ordered_int64 (x0 : (List Int)) (x1 : Int) (x2 : Int) (x3_0 : Int) : Option (Int × Int × ((List Int)) × Int) :=
  (idx x0 x2).bind fun e_1 => (idx x0 x1).bind fun e_7 => (D.cmp_Less_int64 e_1 e_7).bind fun y_13 => cond y_13 (some (x2, x1, x0, (IntKind.i64.wrap (x3_0 + 1)))) (some (x1, x2, x0, x3_0))

noncomputable def D.slices_medianOrdered_int64 (x0 : (List Int)) (x1 : Int) (x2 : Int) (x3 : Int) (x4_0 : Int) : Option (Int × ((List Int)) × Int) :=
  (D.slices_order2Ordered_int64 x0 x1 x2 x4_0).bind fun y_1 => (D.slices_order2Ordered_int64 y_1.2.2.1 y_1.2.1 x3 y_1.2.2.2).bind fun y_10 => (D.slices_order2Ordered_int64 y_10.2.2.1 y_1.1 y_10.1 y_10.2.2.2).bind fun y_19 => some (y_19.2.1, y_19.2.2.1, y_19.2.2.2)

noncomputable def D.slices_medianAdjacentOrdered_int64 (x0 : (List Int)) (x1 : Int) (x2_0 : Int) : Option (Int × ((List Int)) × Int) :=
  (D.slices_medianOrdered_int64 x0 (IntKind.i64.wrap (x1 - 1)) x1 (IntKind.i64.wrap (x1 + 1)) x2_0).bind fun y_1 => some (y_1.1, y_1.2.1, y_1.2.2)

noncomputable def D.slices_siftDownOrdered_int64 (x0 : (List Int)) (x1 : Int) (x2 : Int) (x3 : Int) : Option (((List Int))) :=
  (loopF (σ := (List Int) × Int) (ρ := ((List Int)) ⊕ (((List Int)))) (fun (s_186 : (List Int) × Int) => match s_186 with | (l_189, x_192) => cond (decide (x2 ≤ (IntKind.i64.wrap ((IntKind.i64.wrap (2 * x_192)) + 1)))) (some (.inr (.inl l_189))) ((cond (decide ((IntKind.i64.wrap ((IntKind.i64.wrap ((IntKind.i64.wrap (2 * x_192)) + 1)) + 1)) < x2)) ((idx l_189 (IntKind.i64.wrap (x3 + (IntKind.i64.wrap ((IntKind.i64.wrap (2 * x_192)) + 1))))).bind fun e_307 => (idx l_189 (IntKind.i64.wrap ((IntKind.i64.wrap (x3 + (IntKind.i64.wrap ((IntKind.i64.wrap (2 * x_192)) + 1)))) + 1))).bind fun e_313 => (D.cmp_Less_int64 e_307 e_313).bind fun y_319 => some y_319) (some false)).bind fun b_305 => ((cond b_305 (some (IntKind.i64.wrap ((IntKind.i64.wrap ((IntKind.i64.wrap (2 * x_192)) + 1)) + 1))) (some (IntKind.i64.wrap ((IntKind.i64.wrap (2 * x_192)) + 1))) : Option (Int))).bind fun x_328 => (idx l_189 (IntKind.i64.wrap (x3 + x_192))).bind fun e_331 => (idx l_189 (IntKind.i64.wrap (x3 + x_328))).bind fun e_337 => (D.cmp_Less_int64 e_331 e_337).bind fun y_343 => cond (!y_343) (some (.inr (.inr l_189))) ((idx l_189 (IntKind.i64.wrap (x3 + x_328))).bind fun e_349 => (idx l_189 (IntKind.i64.wrap (x3 + x_192))).bind fun e_355 => (idx l_189 (IntKind.i64.wrap (x3 + x_192))).bind fun e_361 => (idx (l_189.set (Int.toNat (IntKind.i64.wrap (x3 + x_192))) e_349) (IntKind.i64.wrap (x3 + x_328))).bind fun e_369 => some (.inl (((l_189.set (Int.toNat (IntKind.i64.wrap (x3 + x_192))) e_349).set (Int.toNat (IntKind.i64.wrap (x3 + x_328))) e_355), x_328))))) (x0, x1)).bind fun zz => match zz with | .inl l_283 => (some l_283) | .inr z => (some z)

noncomputable def D.slices_heapSortOrdered_int64 (x0 : (List Int)) (x1 : Int) (x2 : Int) : Option (((List Int))) :=
  (loopF (σ := (List Int) × Int) (ρ := ((List Int))) (fun (s_30 : (List Int) × Int) => match s_30 with | (l_33, x_36) => cond (decide ((0 : Int) ≤ x_36)) ((D.slices_siftDownOrdered_int64 l_33 x_36 (IntKind.i64.wrap (x2 - x1)) x1).bind fun y_54 => some (.inl (y_54, (IntKind.i64.wrap (x_36 - 1))))) (some (.inr l_33))) (x0, (IntKind.i64.wrap (Int.tdiv (IntKind.i64.wrap ((IntKind.i64.wrap (x2 - x1)) - 1)) 2)))).bind fun l_49 => (loopF (σ := (List Int) × Int) (ρ := ((List Int))) (fun (s_144 : (List Int) × Int) => match s_144 with | (l_147, x_150) => cond (decide ((0 : Int) ≤ x_150)) ((idx l_147 (IntKind.i64.wrap (x1 + x_150))).bind fun e_194 => (idx l_147 x1).bind fun e_200 => (idx l_147 x1).bind fun e_206 => (idx (l_147.set (Int.toNat x1) e_194) (IntKind.i64.wrap (x1 + x_150))).bind fun e_214 => (D.slices_siftDownOrdered_int64 ((l_147.set (Int.toNat x1) e_194).set (Int.toNat (IntKind.i64.wrap (x1 + x_150))) e_200) 0 x_150 x1).bind fun y_220 => some (.inl (y_220, (IntKind.i64.wrap (x_150 - 1))))) (some (.inr l_147))) (l_49, (IntKind.i64.wrap ((IntKind.i64.wrap (x2 - x1)) - 1)))).bind fun l_189 => some l_189

noncomputable def D.slices_insertionSortOrdered_int64 (x0 : (List Int)) (x1 : Int) (x2 : Int) : Option (((List Int))) :=
  (loopF (σ := (List Int) × Int) (ρ := ((List Int))) (fun (s_560 : (List Int) × Int) => match s_560 with | (l_563, x_566) => cond (decide (x_566 < x2)) ((loopF (σ := (List Int) × Int) (ρ := ((List Int))) (fun (s_984 : (List Int) × Int) => match s_984 with | (l_987, x_990) => (cond (decide (x1 < x_990)) ((idx l_987 x_990).bind fun e_1079 => (idx l_987 (IntKind.i64.wrap (x_990 - 1))).bind fun e_1085 => (D.cmp_Less_int64 e_1079 e_1085).bind fun y_1091 => some y_1091) (some false)).bind fun b_1077 => cond b_1077 ((idx l_987 (IntKind.i64.wrap (x_990 - 1))).bind fun e_1097 => (idx l_987 x_990).bind fun e_1103 => (idx l_987 x_990).bind fun e_1109 => (idx (l_987.set (Int.toNat x_990) e_1097) (IntKind.i64.wrap (x_990 - 1))).bind fun e_1117 => some (.inl (((l_987.set (Int.toNat x_990) e_1097).set (Int.toNat (IntKind.i64.wrap (x_990 - 1))) e_1103), (IntKind.i64.wrap (x_990 - 1))))) (some (.inr l_987))) (l_563, x_566)).bind fun l_1056 => some (.inl (l_1056, (IntKind.i64.wrap (x_566 + 1))))) (some (.inr l_563))) (x0, (IntKind.i64.wrap (x1 + 1)))).bind fun l_844 => some l_844

noncomputable def D.slices_reverseRangeOrdered_int64 (x0 : (List Int)) (x1 : Int) (x2 : Int) : Option (((List Int))) :=
  (loopF (σ := (List Int) × Int × Int) (ρ := ((List Int))) (fun (s_65 : (List Int) × Int × Int) => match s_65 with | (l_68, x_71, x_72) => cond (decide (x_71 < x_72)) ((idx l_68 x_72).bind fun e_107 => (idx l_68 x_71).bind fun e_113 => (idx l_68 x_71).bind fun e_119 => (idx (l_68.set (Int.toNat x_71) e_107) x_72).bind fun e_127 => some (.inl (((l_68.set (Int.toNat x_71) e_107).set (Int.toNat x_72) e_113), (IntKind.i64.wrap (x_71 + 1)), (IntKind.i64.wrap (x_72 - 1))))) (some (.inr l_68))) (x0, x1, (IntKind.i64.wrap (x2 - 1)))).bind fun l_102 => some l_102

noncomputable def D.slices_partialInsertionSortOrdered_int64 (x0 : (List Int)) (x1 : Int) (x2 : Int) : Option (Bool × ((List Int))) :=
  (loopF (σ := (List Int) × Int × Int) (ρ := ((List Int)) ⊕ (Bool × ((List Int)))) (fun (s_1625 : (List Int) × Int × Int) => match s_1625 with | (l_1628, x_1631, x_1632) => cond (decide (x_1632 < 5)) ((loopF (σ := Int) (ρ := (Int)) (fun (x_2530 : Int) => (cond (decide (x_2530 < x2)) ((idx l_1628 x_2530).bind fun e_2591 => (idx l_1628 (IntKind.i64.wrap (x_2530 - 1))).bind fun e_2597 => (D.cmp_Less_int64 e_2591 e_2597).bind fun y_2603 => some (!y_2603)) (some false)).bind fun b_2589 => cond b_2589 (some (.inl (IntKind.i64.wrap (x_2530 + 1)))) (some (.inr x_2530))) x_1631).bind fun x_2570 => cond (x_2570 == x2) (some (.inr (.inr (true, l_1628)))) (cond (decide ((IntKind.i64.wrap (x2 - x1)) < 50)) (some (.inr (.inr (false, l_1628)))) ((idx l_1628 (IntKind.i64.wrap (x_2570 - 1))).bind fun e_2611 => (idx l_1628 x_2570).bind fun e_2617 => (idx l_1628 x_2570).bind fun e_2623 => (idx (l_1628.set (Int.toNat x_2570) e_2611) (IntKind.i64.wrap (x_2570 - 1))).bind fun e_2631 => ((cond (decide ((2 : Int) ≤ (IntKind.i64.wrap (x_2570 - x1)))) ((loopF (σ := (List Int) × Int) (ρ := ((List Int))) (fun (s_2947 : (List Int) × Int) => match s_2947 with | (l_2950, x_2953) => cond (decide ((1 : Int) ≤ x_2953)) ((idx l_2950 x_2953).bind fun e_3006 => (idx l_2950 (IntKind.i64.wrap (x_2953 - 1))).bind fun e_3012 => (D.cmp_Less_int64 e_3006 e_3012).bind fun y_3018 => cond (!y_3018) (some (.inr l_2950)) ((idx l_2950 (IntKind.i64.wrap (x_2953 - 1))).bind fun e_3024 => (idx l_2950 x_2953).bind fun e_3030 => (idx l_2950 x_2953).bind fun e_3036 => (idx (l_2950.set (Int.toNat x_2953) e_3024) (IntKind.i64.wrap (x_2953 - 1))).bind fun e_3044 => some (.inl (((l_2950.set (Int.toNat x_2953) e_3024).set (Int.toNat (IntKind.i64.wrap (x_2953 - 1))) e_3030), (IntKind.i64.wrap (x_2953 - 1)))))) (some (.inr l_2950))) (((l_1628.set (Int.toNat x_2570) e_2611).set (Int.toNat (IntKind.i64.wrap (x_2570 - 1))) e_2617), (IntKind.i64.wrap (x_2570 - 1)))).bind fun l_3001 => some l_3001) (some ((l_1628.set (Int.toNat x_2570) e_2611).set (Int.toNat (IntKind.i64.wrap (x_2570 - 1))) e_2617)) : Option ((List Int)))).bind fun l_2843 => cond (decide ((2 : Int) ≤ (IntKind.i64.wrap (x2 - x_2570)))) ((loopF (σ := (List Int) × Int) (ρ := ((List Int))) (fun (s_3150 : (List Int) × Int) => match s_3150 with | (l_3153, x_3156) => cond (decide (x_3156 < x2)) ((idx l_3153 x_3156).bind fun e_3209 => (idx l_3153 (IntKind.i64.wrap (x_3156 - 1))).bind fun e_3215 => (D.cmp_Less_int64 e_3209 e_3215).bind fun y_3221 => cond (!y_3221) (some (.inr l_3153)) ((idx l_3153 (IntKind.i64.wrap (x_3156 - 1))).bind fun e_3227 => (idx l_3153 x_3156).bind fun e_3233 => (idx l_3153 x_3156).bind fun e_3239 => (idx (l_3153.set (Int.toNat x_3156) e_3227) (IntKind.i64.wrap (x_3156 - 1))).bind fun e_3247 => some (.inl (((l_3153.set (Int.toNat x_3156) e_3227).set (Int.toNat (IntKind.i64.wrap (x_3156 - 1))) e_3233), (IntKind.i64.wrap (x_3156 + 1)))))) (some (.inr l_3153))) (l_2843, (IntKind.i64.wrap (x_2570 + 1)))).bind fun l_3204 => some (.inl (l_3204, x_2570, (IntKind.i64.wrap (x_1632 + 1))))) (some (.inl (l_2843, x_2570, (IntKind.i64.wrap (x_1632 + 1)))))))) (some (.inr (.inl l_1628)))) (x0, (IntKind.i64.wrap (x1 + 1)), 0)).bind fun zz => match zz with | .inl l_2442 => (some (false, l_2442)) | .inr z => (some z)

noncomputable def D.slices_partitionEqualOrdered_int64 (x0 : (List Int)) (x1 : Int) (x2 : Int) (x3 : Int) : Option (Int × ((List Int))) :=
  (idx x0 x3).bind fun e_1 => (idx x0 x1).bind fun e_7 => (idx x0 x1).bind fun e_13 => (idx (x0.set (Int.toNat x1) e_1) x3).bind fun e_21 => (loopF (σ := (List Int) × Int × Int) (ρ := ((List Int) × Int)) (fun (s_739 : (List Int) × Int × Int) => match s_739 with | (l_742, x_745, x_746) => (loopF (σ := Int) (ρ := (Int)) (fun (x_1188 : Int) => (cond (decide (x_1188 ≤ x_746)) ((idx l_742 x1).bind fun e_1249 => (idx l_742 x_1188).bind fun e_1255 => (D.cmp_Less_int64 e_1249 e_1255).bind fun y_1261 => some (!y_1261)) (some false)).bind fun b_1247 => cond b_1247 (some (.inl (IntKind.i64.wrap (x_1188 + 1)))) (some (.inr x_1188))) x_745).bind fun x_1228 => (loopF (σ := Int) (ρ := (Int)) (fun (x_1350 : Int) => (cond (decide (x_1228 ≤ x_1350)) ((idx l_742 x1).bind fun e_1411 => (idx l_742 x_1350).bind fun e_1417 => (D.cmp_Less_int64 e_1411 e_1417).bind fun y_1423 => some y_1423) (some false)).bind fun b_1409 => cond b_1409 (some (.inl (IntKind.i64.wrap (x_1350 - 1)))) (some (.inr x_1350))) x_746).bind fun x_1390 => cond (decide (x_1390 < x_1228)) (some (.inr (l_742, x_1228))) ((idx l_742 x_1390).bind fun e_1430 => (idx l_742 x_1228).bind fun e_1436 => (idx l_742 x_1228).bind fun e_1442 => (idx (l_742.set (Int.toNat x_1228) e_1430) x_1390).bind fun e_1450 => some (.inl (((l_742.set (Int.toNat x_1228) e_1430).set (Int.toNat x_1390) e_1436), (IntKind.i64.wrap (x_1228 + 1)), (IntKind.i64.wrap (x_1390 - 1)))))) (((x0.set (Int.toNat x1) e_1).set (Int.toNat x3) e_7), (IntKind.i64.wrap (x1 + 1)), (IntKind.i64.wrap (x2 - 1)))).bind fun (l_1100, x_1103) => some (x_1103, l_1100)

noncomputable def D.slices_partitionOrdered_int64 (x0 : (List Int)) (x1 : Int) (x2 : Int) (x3 : Int) : Option (Int × Bool × ((List Int))) :=
  (idx x0 x3).bind fun e_1 => (idx x0 x1).bind fun e_7 => (idx x0 x1).bind fun e_13 => (idx (x0.set (Int.toNat x1) e_1) x3).bind fun e_21 => (loopF (σ := Int) (ρ := (Int)) (fun (x_110 : Int) => (cond (decide (x_110 ≤ (IntKind.i64.wrap (x2 - 1)))) ((idx ((x0.set (Int.toNat x1) e_1).set (Int.toNat x3) e_7) x_110).bind fun e_171 => (idx ((x0.set (Int.toNat x1) e_1).set (Int.toNat x3) e_7) x1).bind fun e_177 => (D.cmp_Less_int64 e_171 e_177).bind fun y_183 => some y_183) (some false)).bind fun b_169 => cond b_169 (some (.inl (IntKind.i64.wrap (x_110 + 1)))) (some (.inr x_110))) (IntKind.i64.wrap (x1 + 1))).bind fun x_150 => (loopF (σ := Int) (ρ := (Int)) (fun (x_272 : Int) => (cond (decide (x_150 ≤ x_272)) ((idx ((x0.set (Int.toNat x1) e_1).set (Int.toNat x3) e_7) x_272).bind fun e_333 => (idx ((x0.set (Int.toNat x1) e_1).set (Int.toNat x3) e_7) x1).bind fun e_339 => (D.cmp_Less_int64 e_333 e_339).bind fun y_345 => some (!y_345)) (some false)).bind fun b_331 => cond b_331 (some (.inl (IntKind.i64.wrap (x_272 - 1)))) (some (.inr x_272))) (IntKind.i64.wrap (x2 - 1))).bind fun x_312 => cond (decide (x_312 < x_150)) ((idx ((x0.set (Int.toNat x1) e_1).set (Int.toNat x3) e_7) x1).bind fun e_352 => (idx ((x0.set (Int.toNat x1) e_1).set (Int.toNat x3) e_7) x_312).bind fun e_358 => (idx ((x0.set (Int.toNat x1) e_1).set (Int.toNat x3) e_7) x_312).bind fun e_364 => (idx (((x0.set (Int.toNat x1) e_1).set (Int.toNat x3) e_7).set (Int.toNat x_312) e_352) x1).bind fun e_372 => some (x_312, true, ((((x0.set (Int.toNat x1) e_1).set (Int.toNat x3) e_7).set (Int.toNat x_312) e_352).set (Int.toNat x1) e_358))) ((idx ((x0.set (Int.toNat x1) e_1).set (Int.toNat x3) e_7) x_312).bind fun e_378 => (idx ((x0.set (Int.toNat x1) e_1).set (Int.toNat x3) e_7) x_150).bind fun e_384 => (idx ((x0.set (Int.toNat x1) e_1).set (Int.toNat x3) e_7) x_150).bind fun e_390 => (idx (((x0.set (Int.toNat x1) e_1).set (Int.toNat x3) e_7).set (Int.toNat x_150) e_378) x_312).bind fun e_398 => (loopF (σ := (List Int) × Int × Int) (ρ := ((List Int) × Int)) (fun (s_1116 : (List Int) × Int × Int) => match s_1116 with | (l_1119, x_1122, x_1123) => (loopF (σ := Int) (ρ := (Int)) (fun (x_1565 : Int) => (cond (decide (x_1565 ≤ x_1123)) ((idx l_1119 x_1565).bind fun e_1626 => (idx l_1119 x1).bind fun e_1632 => (D.cmp_Less_int64 e_1626 e_1632).bind fun y_1638 => some y_1638) (some false)).bind fun b_1624 => cond b_1624 (some (.inl (IntKind.i64.wrap (x_1565 + 1)))) (some (.inr x_1565))) x_1122).bind fun x_1605 => (loopF (σ := Int) (ρ := (Int)) (fun (x_1727 : Int) => (cond (decide (x_1605 ≤ x_1727)) ((idx l_1119 x_1727).bind fun e_1788 => (idx l_1119 x1).bind fun e_1794 => (D.cmp_Less_int64 e_1788 e_1794).bind fun y_1800 => some (!y_1800)) (some false)).bind fun b_1786 => cond b_1786 (some (.inl (IntKind.i64.wrap (x_1727 - 1)))) (some (.inr x_1727))) x_1123).bind fun x_1767 => cond (decide (x_1767 < x_1605)) (some (.inr (l_1119, x_1767))) ((idx l_1119 x_1767).bind fun e_1807 => (idx l_1119 x_1605).bind fun e_1813 => (idx l_1119 x_1605).bind fun e_1819 => (idx (l_1119.set (Int.toNat x_1605) e_1807) x_1767).bind fun e_1827 => some (.inl (((l_1119.set (Int.toNat x_1605) e_1807).set (Int.toNat x_1767) e_1813), (IntKind.i64.wrap (x_1605 + 1)), (IntKind.i64.wrap (x_1767 - 1)))))) (((((x0.set (Int.toNat x1) e_1).set (Int.toNat x3) e_7).set (Int.toNat x_150) e_378).set (Int.toNat x_312) e_384), (IntKind.i64.wrap (x_150 + 1)), (IntKind.i64.wrap (x_312 - 1)))).bind fun (l_1477, x_1480) => (idx l_1477 x1).bind fun e_1833 => (idx l_1477 x_1480).bind fun e_1839 => (idx l_1477 x_1480).bind fun e_1845 => (idx (l_1477.set (Int.toNat x_1480) e_1833) x1).bind fun e_1853 => some (x_1480, false, ((l_1477.set (Int.toNat x_1480) e_1833).set (Int.toNat x1) e_1839)))

noncomputable def D.slices_nextPowerOfTwo (x0 : Int) : Option (Int) :=
  (D.math_bits_Len (IntKind.u64.wrap x0)).bind fun y_1 => cond (decide (y_1 < 0)) none (some (ishl .u64 1 y_1))

noncomputable def D.slices_xorshift_Next (x0_0 : Int) : Option (Int × Int) :=
  some ((ixor .u64 (ixor .u64 (ixor .u64 x0_0 (ishl .u64 x0_0 13)) (ishr .u64 (ixor .u64 x0_0 (ishl .u64 x0_0 13)) 7)) (ishl .u64 (ixor .u64 (ixor .u64 x0_0 (ishl .u64 x0_0 13)) (ishr .u64 (ixor .u64 x0_0 (ishl .u64 x0_0 13)) 7)) 17)), (ixor .u64 (ixor .u64 (ixor .u64 x0_0 (ishl .u64 x0_0 13)) (ishr .u64 (ixor .u64 x0_0 (ishl .u64 x0_0 13)) 7)) (ishl .u64 (ixor .u64 (ixor .u64 x0_0 (ishl .u64 x0_0 13)) (ishr .u64 (ixor .u64 x0_0 (ishl .u64 x0_0 13)) 7)) 17)))

noncomputable def D.slices_breakPatternsOrdered_int64 (x0 : (List Int)) (x1 : Int) (x2 : Int) : Option (((List Int))) :=
  cond (decide ((8 : Int) ≤ (IntKind.i64.wrap (x2 - x1)))) ((D.slices_nextPowerOfTwo (IntKind.i64.wrap (x2 - x1))).bind fun y_4 => (loopF (σ := (List Int) × Int × Int) (ρ := ((List Int))) (fun (s_103 : (List Int) × Int × Int) => match s_103 with | (l_106, x_109, x_110) => cond (decide (x_109 ≤ (IntKind.i64.wrap ((IntKind.i64.wrap (x1 + (IntKind.i64.wrap ((IntKind.i64.wrap (Int.tdiv (IntKind.i64.wrap (x2 - x1)) 4)) * 2)))) + 1)))) ((D.slices_xorshift_Next x_110).bind fun y_159 => ((cond (decide ((IntKind.i64.wrap (x2 - x1)) ≤ (IntKind.i64.wrap (iand .u64 y_159.1 (IntKind.u64.wrap (y_4 - 1)))))) (some (IntKind.i64.wrap ((IntKind.i64.wrap (iand .u64 y_159.1 (IntKind.u64.wrap (y_4 - 1)))) - (IntKind.i64.wrap (x2 - x1))))) (some (IntKind.i64.wrap (iand .u64 y_159.1 (IntKind.u64.wrap (y_4 - 1))))) : Option (Int))).bind fun x_170 => (idx l_106 (IntKind.i64.wrap (x1 + x_170))).bind fun e_173 => (idx l_106 x_109).bind fun e_179 => (idx l_106 x_109).bind fun e_185 => (idx (l_106.set (Int.toNat x_109) e_173) (IntKind.i64.wrap (x1 + x_170))).bind fun e_193 => some (.inl (((l_106.set (Int.toNat x_109) e_173).set (Int.toNat (IntKind.i64.wrap (x1 + x_170))) e_179), (IntKind.i64.wrap (x_109 + 1)), y_159.2))) (some (.inr l_106))) (x0, (IntKind.i64.wrap ((IntKind.i64.wrap (x1 + (IntKind.i64.wrap ((IntKind.i64.wrap (Int.tdiv (IntKind.i64.wrap (x2 - x1)) 4)) * 2)))) - 1)), (IntKind.u64.wrap (IntKind.i64.wrap (x2 - x1))))).bind fun l_154 => some l_154) (some x0)

noncomputable def D.slices_choosePivotOrdered_int64 (x0 : (List Int)) (x1 : Int) (x2 : Int) : Option (Int × Int × ((List Int))) :=
  cond (decide ((8 : Int) ≤ (IntKind.i64.wrap (x2 - x1)))) (((cond (decide ((50 : Int) ≤ (IntKind.i64.wrap (x2 - x1)))) ((D.slices_medianAdjacentOrdered_int64 x0 (IntKind.i64.wrap (x1 + (IntKind.i64.wrap ((IntKind.i64.wrap (Int.tdiv (IntKind.i64.wrap (x2 - x1)) 4)) * 1)))) 0).bind fun y_44 => (D.slices_medianAdjacentOrdered_int64 y_44.2.1 (IntKind.i64.wrap (x1 + (IntKind.i64.wrap ((IntKind.i64.wrap (Int.tdiv (IntKind.i64.wrap (x2 - x1)) 4)) * 2)))) y_44.2.2).bind fun y_53 => (D.slices_medianAdjacentOrdered_int64 y_53.2.1 (IntKind.i64.wrap (x1 + (IntKind.i64.wrap ((IntKind.i64.wrap (Int.tdiv (IntKind.i64.wrap (x2 - x1)) 4)) * 3)))) y_53.2.2).bind fun y_62 => some (y_62.2.1, y_44.1, y_53.1, y_62.1, y_62.2.2)) (some (x0, (IntKind.i64.wrap (x1 + (IntKind.i64.wrap ((IntKind.i64.wrap (Int.tdiv (IntKind.i64.wrap (x2 - x1)) 4)) * 1)))), (IntKind.i64.wrap (x1 + (IntKind.i64.wrap ((IntKind.i64.wrap (Int.tdiv (IntKind.i64.wrap (x2 - x1)) 4)) * 2)))), (IntKind.i64.wrap (x1 + (IntKind.i64.wrap ((IntKind.i64.wrap (Int.tdiv (IntKind.i64.wrap (x2 - x1)) 4)) * 3)))), 0)) : Option ((List Int) × Int × Int × Int × Int))).bind fun (l_35, x_38, x_39, x_40, x_41) => (D.slices_medianOrdered_int64 l_35 x_38 x_39 x_40 x_41).bind fun y_71 => cond (y_71.2.2 == 0) (some (y_71.1, 1, y_71.2.1)) (cond (y_71.2.2 == 12) (some (y_71.1, 2, y_71.2.1)) (some (y_71.1, 0, y_71.2.1)))) (cond ((0 : Int) == 0) (some ((IntKind.i64.wrap (x1 + (IntKind.i64.wrap ((IntKind.i64.wrap (Int.tdiv (IntKind.i64.wrap (x2 - x1)) 4)) * 2)))), 1, x0)) (cond ((0 : Int) == 12) (some ((IntKind.i64.wrap (x1 + (IntKind.i64.wrap ((IntKind.i64.wrap (Int.tdiv (IntKind.i64.wrap (x2 - x1)) 4)) * 2)))), 2, x0)) (some ((IntKind.i64.wrap (x1 + (IntKind.i64.wrap ((IntKind.i64.wrap (Int.tdiv (IntKind.i64.wrap (x2 - x1)) 4)) * 2)))), 0, x0))))

noncomputable def D.slices_pdqsortOrdered_int64R : Nat → ((List Int)) → Int → Int → Int → Option (((List Int)))
  | 0, _, _, _, _ => none
  | fuel + 1, x0, x1, x2, x3 => (loopF (σ := (List Int) × Int × Int × Int × Bool × Bool) (ρ := (((List Int)))) (fun (s_398 : (List Int) × Int × Int × Int × Bool × Bool) => match s_398 with | (l_401, x_404, x_405, x_406, b_407, b_408) => cond (decide ((IntKind.i64.wrap (x_405 - x_404)) ≤ 12)) ((D.slices_insertionSortOrdered_int64 l_401 x_404 x_405).bind fun y_411 => some (.inr y_411)) (cond (x_406 == 0) ((D.slices_heapSortOrdered_int64 l_401 x_404 x_405).bind fun y_421 => some (.inr y_421)) (((cond (!b_407) ((D.slices_breakPatternsOrdered_int64 l_401 x_404 x_405).bind fun y_449 => some (y_449, (IntKind.i64.wrap (x_406 - 1)))) (some (l_401, x_406)) : Option ((List Int) × Int))).bind fun (l_443, x_446) => (D.slices_choosePivotOrdered_int64 l_443 x_404 x_405).bind fun y_458 => ((cond (y_458.2.1 == 2) ((D.slices_reverseRangeOrdered_int64 y_458.2.2 x_404 x_405).bind fun y_487 => some (y_487, (IntKind.i64.wrap ((IntKind.i64.wrap (x_405 - 1)) - (IntKind.i64.wrap (y_458.1 - x_404)))), 1)) (some (y_458.2.2, y_458.1, y_458.2.1)) : Option ((List Int) × Int × Int))).bind fun (l_480, x_483, x_484) => ((cond ((b_407 && b_408) && (x_484 == 1)) ((D.slices_partialInsertionSortOrdered_int64 l_480 x_404 x_405).bind fun y_521 => cond y_521.1 (some (.inr y_521.2)) (some (.inl y_521.2))) (some (.inl l_480)) : Option (((List Int)) ⊕ (((List Int)))))).bind fun q => match q with | .inl l_516 => ((cond (decide ((0 : Int) < x_404)) ((idx l_516 (IntKind.i64.wrap (x_404 - 1))).bind fun e_550 => (idx l_516 x_483).bind fun e_556 => (D.cmp_Less_int64 e_550 e_556).bind fun y_562 => some (!y_562)) (some false)).bind fun b_548 => cond b_548 ((D.slices_partitionEqualOrdered_int64 l_516 x_404 x_405 x_483).bind fun y_568 => some (.inl (y_568.2, y_568.1, x_405, x_446, b_407, b_408))) ((D.slices_partitionOrdered_int64 l_516 x_404 x_405 x_483).bind fun y_577 => cond (decide ((IntKind.i64.wrap (y_577.1 - x_404)) < (IntKind.i64.wrap (x_405 - y_577.1)))) ((D.slices_pdqsortOrdered_int64R fuel y_577.2.2 x_404 y_577.1 x_446).bind fun y_587 => some (.inl (y_587, (IntKind.i64.wrap (y_577.1 + 1)), x_405, x_446, (decide ((IntKind.i64.wrap (Int.tdiv (IntKind.i64.wrap (x_405 - x_404)) 8)) ≤ (IntKind.i64.wrap (y_577.1 - x_404)))), y_577.2.1))) ((D.slices_pdqsortOrdered_int64R fuel y_577.2.2 (IntKind.i64.wrap (y_577.1 + 1)) x_405 x_446).bind fun y_596 => some (.inl (y_596, x_404, y_577.1, x_446, (decide ((IntKind.i64.wrap (Int.tdiv (IntKind.i64.wrap (x_405 - x_404)) 8)) ≤ (IntKind.i64.wrap (x_405 - y_577.1)))), y_577.2.1))))) | .inr q => (some (.inr q))))) (x0, x1, x2, x3, true, true)).bind fun z => some z

noncomputable def D.slices_pdqsortOrdered_int64 (x0 : (List Int)) (x1 : Int) (x2 : Int) (x3 : Int) : Option (((List Int))) := D.slices_pdqsortOrdered_int64R recFuel x0 x1 x2 x3

noncomputable def D.slices_Sort_int64_int64 (x0 : (List Int)) : Option (((List Int))) :=
  (D.math_bits_Len (IntKind.u64.wrap (x0.length : Int))).bind fun y_1 => (D.slices_pdqsortOrdered_int64 x0 0 (x0.length : Int) y_1).bind fun y_8 => some y_8

noncomputable def D.slices_Collect_int64 (x0 : (List Int)) : Option (((List Int))) :=
  (D.slices_AppendSeq_int64_int64 x0).bind fun y_1 => some y_1

noncomputable def D.slices_Sorted_int64 (x0 : (List Int)) : Option (((List Int))) :=
  (D.slices_Collect_int64 x0).bind fun y_1 => (D.slices_Sort_int64_int64 y_1).bind fun y_12 => some y_12

noncomputable def D.spec_l1In (x0 : Int) (x1 : Int) (x2 : Int) : Option (Bool) :=
  some ((decide (x1 ≤ x0)) && (decide (x0 ≤ x2)))

noncomputable def D.spec_l1Has (x0 : (List Int)) (x1 : Int) : Option (Bool) :=
  (loopF (σ := Int) (ρ := (Unit) ⊕ (Bool)) (fun (x_26 : Int) => cond (decide (x_26 < (x0.length : Int))) ((idx x0 x_26).bind fun e_39 => cond (e_39 == x1) (some (.inr (.inr true))) (some (.inl (IntKind.i64.wrap (x_26 + 1))))) (some (.inr (.inl ())))) 0).bind fun zz => match zz with | .inl _ => (some false) | .inr z => (some z)

noncomputable def D.spec_l1Size (x0_0 : (List (List Int))) : Option (Int) :=
  some (x0_0.length : Int)

noncomputable def D.spec_l1Copy (x0 : (List Int)) : Option (((List Int))) :=
  (appendD ([] : List Int) x0).bind fun l_5 => some l_5

noncomputable def D.spec_l1Set (x0 : (List Int)) (x1 : Int) : Option (Bool) :=
  cond (decide (x1 < (x0.length : Int))) (some false) ((loopF (σ := Int) (ρ := (Unit) ⊕ (Bool)) (fun (x_157 : Int) => cond (decide (x_157 < (x0.length : Int))) ((idx x0 x_157).bind fun e_235 => (D.spec_l1In e_235 0 (IntKind.i64.wrap (x1 - 1))).bind fun y_241 => (cond (!y_241) (some true) ((cond (decide ((0 : Int) < x_157)) ((idx x0 x_157).bind fun e_292 => (idx x0 (IntKind.i64.wrap (x_157 - 1))).bind fun e_298 => some (decide (e_292 ≤ e_298))) (some false)).bind fun b_290 => some b_290)).bind fun b_274 => cond b_274 (some (.inr (.inr false))) (some (.inl (IntKind.i64.wrap (x_157 + 1))))) (some (.inr (.inl ())))) 0).bind fun zz => match zz with | .inl _ => (some true) | .inr z => (some z))

noncomputable def D.spec_GraphOk (x0_0 : (List (List Int))) : Option (Bool) :=
  (D.spec_l1Size x0_0).bind fun y_3 => (D.spec_l1In y_3 1 16).bind fun y_10 => cond (!y_10) (some false) ((loopF (σ := Int) (ρ := (Unit) ⊕ (Bool)) (fun (x_145 : Int) => cond (decide (x_145 < y_3)) ((idx x0_0 x_145).bind fun e_209 => (D.spec_l1Set e_209 y_3).bind fun y_215 => (cond (!y_215) (some true) ((idx x0_0 x_145).bind fun e_253 => (D.spec_l1Has e_253 x_145).bind fun y_259 => some y_259)).bind fun b_251 => cond b_251 (some (.inr (.inr false))) (some (.inl (IntKind.i64.wrap (x_145 + 1))))) (some (.inr (.inl ())))) 0).bind fun zz => match zz with | .inl _ => ((loopF (σ := Int) (ρ := (Unit) ⊕ (Bool)) (fun (x_552 : Int) => cond (decide (x_552 < y_3)) ((loopF (σ := Int) (ρ := (Unit) ⊕ (Bool)) (fun (x_766 : Int) => (idx x0_0 x_552).bind fun e_801 => cond (decide (x_766 < (e_801.length : Int))) ((idx x0_0 x_552).bind fun e_808 => (idx e_808 x_766).bind fun e_814 => (idx x0_0 e_814).bind fun e_820 => (D.spec_l1Has e_820 x_552).bind fun y_826 => cond (!y_826) (some (.inr (.inr false))) (some (.inl (IntKind.i64.wrap (x_766 + 1))))) (some (.inr (.inl ())))) 0).bind fun zz => match zz with | .inl _ => (some (.inl (IntKind.i64.wrap (x_552 + 1)))) | .inr z => (some (.inr (.inr z)))) (some (.inr (.inl ())))) 0).bind fun zz => match zz with | .inl _ => (some true) | .inr z => (some z)) | .inr z => (some z))

noncomputable def D.spec_l1There (x0_0 : (List (List Int))) (x1 : Int) : Option (Bool) :=
  (D.spec_l1Size x0_0).bind fun y_3 => (D.spec_l1In x1 0 (IntKind.i64.wrap (y_3 - 1))).bind fun y_10 => some y_10

noncomputable def D.spec_l1Order (x0_0 : (List (List Int))) (x1 : (List Int)) : Option (Bool) :=
  (D.spec_l1Size x0_0).bind fun y_3 => cond ((x1.length : Int) != y_3) (some false) ((loopF (σ := Int) (ρ := (Unit) ⊕ (Bool)) (fun (x_106 : Int) => cond (decide (x_106 < (x1.length : Int))) ((idx x1 x_106).bind fun e_154 => (D.spec_l1There x0_0 e_154).bind fun y_160 => (cond (!y_160) (some true) ((sliceD x1 0 x_106).bind fun l_180 => (idx x1 x_106).bind fun e_184 => (D.spec_l1Has l_180 e_184).bind fun y_190 => some y_190)).bind fun b_178 => cond b_178 (some (.inr (.inr false))) (some (.inl (IntKind.i64.wrap (x_106 + 1))))) (some (.inr (.inl ())))) 0).bind fun zz => match zz with | .inl _ => (some true) | .inr z => (some z))

noncomputable def D.spec_OrderOk (x0_0 : (List (List Int))) (x1 : (List Int)) : Option (Bool) :=
  (D.spec_GraphOk x0_0).bind fun y_3 => (cond y_3 ((D.spec_l1Order x0_0 x1).bind fun y_29 => some y_29) (some false)).bind fun b_27 => some b_27

noncomputable def D.spec_l1Into (x0 : (List Int)) (x1 : Int) : Option (((List Int))) :=
  (loopF (σ := Int) (ρ := (Int)) (fun (x_58 : Int) => (cond (decide (x_58 < (x0.length : Int))) ((idx x0 x_58).bind fun e_104 => some (decide (e_104 < x1))) (some false)).bind fun b_102 => cond b_102 (some (.inl (IntKind.i64.wrap (x_58 + 1)))) (some (.inr x_58))) 0).bind fun x_85 => (cond (decide (x_85 < (x0.length : Int))) ((idx x0 x_85).bind fun e_128 => some (e_128 == x1)) (some false)).bind fun b_126 => cond b_126 (some x0) ((sliceD x0 0 x_85).bind fun l_135 => (D.spec_l1Copy l_135).bind fun y_139 => (appendD y_139 ([x1] : List Int)).bind fun l_154 => (sliceD x0 x_85 (x0.length : Int)).bind fun l_160 => (appendD l_154 l_160).bind fun l_164 => some l_164)

noncomputable def D.impl_inRange (x0 : Int) (x1 : Int) (x2 : Int) : Option (Bool) :=
  some ((decide (x1 ≤ x0)) && (decide (x0 ≤ x2)))

noncomputable def D.impl_increasing (x0 : (List Int)) (x1 : Int) : Option (Bool) :=
  (loopF (σ := Int) (ρ := (Unit) ⊕ (Bool)) (fun (x_188 : Int) => cond (decide (x_188 < (x0.length : Int))) ((idx x0 x_188).bind fun e_282 => (D.impl_inRange e_282 0 (IntKind.i64.wrap (x1 - 1))).bind fun y_288 => (cond (!y_288) (some true) ((cond (decide ((0 : Int) < x_188)) ((idx x0 (IntKind.i64.wrap (x_188 - 1))).bind fun e_363 => some (decide (e_282 ≤ e_363))) (some false)).bind fun b_361 => some b_361)).bind fun b_344 => cond b_344 (some (.inr (.inr false))) (some (.inl (IntKind.i64.wrap (x_188 + 1))))) (some (.inr (.inl ())))) 0).bind fun zz => match zz with | .inl _ => (some true) | .inr z => (some z)

noncomputable def D.slices_Index_int64_int64 (x0 : (List Int)) (x1 : Int) : Option (Int) :=
  (loopF (σ := Int) (ρ := (Unit) ⊕ (Int)) (fun (x_26 : Int) => cond (decide (x_26 < (x0.length : Int))) ((idx x0 x_26).bind fun e_39 => cond (x1 == e_39) (some (.inr (.inr x_26))) (some (.inl (IntKind.i64.wrap (x_26 + 1))))) (some (.inr (.inl ())))) 0).bind fun zz => match zz with | .inl _ => (some (-1)) | .inr z => (some z)

noncomputable def D.slices_Contains_int64_int64 (x0 : (List Int)) (x1 : Int) : Option (Bool) :=
  (D.slices_Index_int64_int64 x0 x1).bind fun y_1 => some (decide ((0 : Int) ≤ y_1))

noncomputable def D.impl_GraphOk (x0_0 : (List (List Int))) : Option (Bool) :=
  cond ((decide ((x0_0.length : Int) < 1)) || (decide ((16 : Int) < (x0_0.length : Int)))) (some false) ((loopF (σ := Int) (ρ := (Unit) ⊕ (Bool)) (fun (x_98 : Int) => cond (decide (x_98 < (x0_0.length : Int))) ((idx x0_0 x_98).bind fun e_144 => (D.impl_increasing e_144 (x0_0.length : Int)).bind fun y_150 => (cond (!y_150) (some true) ((D.slices_Contains_int64_int64 e_144 x_98).bind fun y_176 => some y_176)).bind fun b_174 => cond b_174 (some (.inr (.inr false))) (some (.inl (IntKind.i64.wrap (x_98 + 1))))) (some (.inr (.inl ())))) 0).bind fun zz => match zz with | .inl _ => ((loopF (σ := Int) (ρ := (Unit) ⊕ (Bool)) (fun (x_401 : Int) => cond (decide (x_401 < (x0_0.length : Int))) ((idx x0_0 x_401).bind fun e_510 => (loopF (σ := Int) (ρ := (Unit) ⊕ (Bool)) (fun (x_567 : Int) => cond (decide (x_567 < (e_510.length : Int))) ((idx e_510 x_567).bind fun e_593 => (idx x0_0 e_593).bind fun e_599 => (D.slices_Contains_int64_int64 e_599 x_401).bind fun y_605 => cond (!y_605) (some (.inr (.inr false))) (some (.inl (IntKind.i64.wrap (x_567 + 1))))) (some (.inr (.inl ())))) 0).bind fun zz => match zz with | .inl _ => (some (.inl (IntKind.i64.wrap (x_401 + 1)))) | .inr z => (some (.inr (.inr z)))) (some (.inr (.inl ())))) 0).bind fun zz => match zz with | .inl _ => (some true) | .inr z => (some z)) | .inr z => (some z))

noncomputable def D.impl_one (x0 : Int) : Option (Int) :=
  cond (decide (x0 < 0)) none (some (ishl .u32 1 x0))

noncomputable def D.impl_maskOf (x0 : (List Int)) : Option (Int) :=
  (loopF (σ := Int × Int) (ρ := (Int)) (fun (s_36 : Int × Int) => match s_36 with | (x_39, x_40) => cond (decide (x_40 < (x0.length : Int))) ((idx x0 x_40).bind fun e_60 => (D.impl_one e_60).bind fun y_66 => some (.inl ((ior .u32 x_39 y_66), (IntKind.i64.wrap (x_40 + 1))))) (some (.inr x_39))) (0, 0)).bind fun x_57 => some x_57

noncomputable def D.impl_netsOf (x0_0 : (List (List Int))) : Option (((List Int))) :=
  (loopF (σ := (List Int) × Int) (ρ := ((List Int))) (fun (s_66 : (List Int) × Int) => match s_66 with | (l_69, x_74) => cond (decide (x_74 < (x0_0.length : Int))) ((idx x0_0 x_74).bind fun e_108 => (D.impl_maskOf e_108).bind fun y_114 => (appendD l_69 ([y_114] : List Int)).bind fun l_125 => some (.inl (l_125, (IntKind.i64.wrap (x_74 + 1))))) (some (.inr l_69))) (([] : List Int), 0)).bind fun l_101 => some l_101

noncomputable def D.impl_narrow (x0 : (List Int)) : Option (((List Int))) :=
  (makeD (0 : Int) 0 (x0.length : Int)).bind fun l_1 => (loopF (σ := (List Int) × Int) (ρ := ((List Int))) (fun (s_52 : (List Int) × Int) => match s_52 with | (l_55, x_60) => cond (decide (x_60 < (x0.length : Int))) ((idx x0 x_60).bind fun e_87 => (appendD l_55 ([e_87] : List Int)).bind fun l_97 => some (.inl (l_97, (IntKind.i64.wrap (x_60 + 1))))) (some (.inr l_55))) (l_1, 0)).bind fun l_80 => some l_80

noncomputable def D.math_bits_TrailingZeros32 (x0 : Int) : Option (Int) :=
  cond (x0 == 0) (some 32) ((idx tab32 (ishr .u32 (IntKind.u32.wrap ((iand .u32 x0 (IntKind.u32.wrap (0 - x0))) * 125613361)) 27)).bind fun e_3 => some (IntKind.i64.wrap e_3))

noncomputable def D.impl_vset_least (x0 : Int) : Option (Int) :=
  (D.math_bits_TrailingZeros32 x0).bind fun y_1 => some y_1

noncomputable def D.impl_vset_list (x0 : Int) : Option (((List Int))) :=
  (loopF (σ := Int × (List Int)) (ρ := ((List Int))) (fun (s_52 : Int × (List Int)) => match s_52 with | (x_55, l_56) => cond (x_55 != 0) ((D.impl_vset_least x_55).bind fun y_88 => (appendD l_56 ([y_88] : List Int)).bind fun l_99 => some (.inl ((iand .u32 x_55 (IntKind.u32.wrap (x_55 - 1))), l_99))) (some (.inr l_56))) (x0, ([] : List Int))).bind fun l_81 => some l_81

noncomputable def D.impl_wide (x0 : (List Int)) : Option (((List Int))) :=
  (makeD (0 : Int) 0 (x0.length : Int)).bind fun l_1 => (loopF (σ := (List Int) × Int) (ρ := ((List Int))) (fun (s_52 : (List Int) × Int) => match s_52 with | (l_55, x_60) => cond (decide (x_60 < (x0.length : Int))) ((idx x0 x_60).bind fun e_87 => (appendD l_55 ([e_87] : List Int)).bind fun l_97 => some (.inl (l_97, (IntKind.i64.wrap (x_60 + 1))))) (some (.inr l_55))) (l_1, 0)).bind fun l_80 => some l_80

noncomputable def D.impl_vset_numbers (x0 : Int) : Option (((List Int))) :=
  (D.impl_vset_list x0).bind fun y_1 => (D.impl_wide y_1).bind fun y_12 => some y_12

noncomputable def D.impl_results (x0 : (List Int)) : Option (((List (List Int)))) :=
  (loopF (σ := (List (List Int)) × Int) (ρ := ((List (List Int)))) (fun (s_74 : (List (List Int)) × Int) => match s_74 with | (l_77, x_82) => cond (decide (x_82 < (x0.length : Int))) ((idx x0 x_82).bind fun e_120 => (D.impl_vset_numbers e_120).bind fun y_126 => (appendD l_77 [y_126]).bind fun l_141 => some (.inl (l_141, (IntKind.i64.wrap (x_82 + 1))))) (some (.inr l_77))) (([] : List (List Int)), 0)).bind fun l_113 => some l_113

noncomputable def D.impl_OrderOk (x0_0 : (List (List Int))) (x1 : (List Int)) : Option (Bool) :=
  (D.impl_GraphOk x0_0).bind fun y_3 => cond ((!y_3) || ((x1.length : Int) != (x0_0.length : Int))) (some false) ((D.slices_Sorted_int64 x1).bind fun y_21 => (D.impl_increasing y_21 (x0_0.length : Int)).bind fun y_32 => some y_32)

noncomputable def D.laws_big (x0 : (List Int)) : Option (Bool) :=
  some (decide ((4096 : Int) < (x0.length : Int)))

noncomputable def D.spec_l1Link (x0_0 : (List (List Int))) (x1 : Int) (x2 : Int) : Option (((List (List Int)))) :=
  (idx x0_0 x1).bind fun e_5 => (D.spec_l1Into e_5 x2).bind fun y_14 => (idx x0_0 x1).bind fun e_23 => (idx (x0_0.set (Int.toNat x1) y_14) x2).bind fun e_31 => (D.spec_l1Into e_31 x1).bind fun y_40 => (idx (x0_0.set (Int.toNat x1) y_14) x2).bind fun e_49 => some ((x0_0.set (Int.toNat x1) y_14).set (Int.toNat x2) y_40)

noncomputable def D.impl_firstOf (x0 : Int) : Option (Int) :=
  cond (decide (x0 < 0)) none (some (IntKind.u32.wrap ((ishl .u32 1 x0) - 1)))

noncomputable def D.impl_nets_all (x0 : (List Int)) : Option (Int) :=
  (D.impl_firstOf (x0.length : Int)).bind fun y_1 => some y_1

noncomputable def D.impl_elimination (x0 : (List Int)) (x1 : (List Int)) : Option (((List Int)) × ((List Int))) :=
  (((appendD ([] : List Int) x0).bind fun l_56 => (D.impl_nets_all x0).bind fun y_62 => (makeD (0 : Int) (x0.length : Int) (x0.length : Int)).bind fun l_68 => some (l_56, l_68, y_62) : Option ((List Int) × (List Int) × Int))).bind fun (l_34, l_39, x_44) => (loopF (σ := (List Int) × (List Int) × Int × Int) (ρ := ((List Int) × (List Int))) (fun (s_459 : (List Int) × (List Int) × Int × Int) => match s_459 with | (l_462, l_465, x_468, x_469) => cond (decide (x_469 < (x1.length : Int))) ((idx x1 x_469).bind fun e_665 => (D.impl_one e_665).bind fun y_671 => (idx l_462 e_665).bind fun e_678 => (idx l_465 e_665).bind fun e_684 => (idx (l_465.set (Int.toNat e_665) (iand .u32 e_678 (iandNot .u32 x_468 y_671))) e_665).bind fun e_690 => (D.impl_vset_list e_690).bind fun y_696 => (loopF (σ := (List Int) × Int) (ρ := ((List Int))) (fun (s_776 : (List Int) × Int) => match s_776 with | (l_779, x_782) => cond (decide (x_782 < (y_696.length : Int))) ((idx y_696 x_782).bind fun e_820 => (idx l_779 e_820).bind fun e_826 => (idx (l_465.set (Int.toNat e_665) (iand .u32 e_678 (iandNot .u32 x_468 y_671))) e_665).bind fun e_832 => (D.impl_one e_820).bind fun y_838 => (idx l_779 e_820).bind fun e_841 => some (.inl ((l_779.set (Int.toNat e_820) (ior .u32 e_826 (iandNot .u32 e_832 y_838))), (IntKind.i64.wrap (x_782 + 1))))) (some (.inr l_779))) (l_462, 0)).bind fun l_815 => some (.inl (l_815, (l_465.set (Int.toNat e_665) (iand .u32 e_678 (iandNot .u32 x_468 y_671))), (iandNot .u32 x_468 y_671), (IntKind.i64.wrap (x_469 + 1))))) (some (.inr (l_462, l_465)))) (l_34, l_39, x_44, 0)).bind fun (l_657, l_660) => some (l_657, l_660)

noncomputable def D.impl_nets_graph (x0 : (List Int)) : Option (((List (List Int)))) :=
  (loopF (σ := Int × (List (List Int))) (ρ := ((List (List Int)))) (fun (s_98 : Int × (List (List Int))) => match s_98 with | (x_104, l_105) => cond (decide (x_104 < (x0.length : Int))) ((idx x0 x_104).bind fun e_158 => (D.impl_vset_numbers e_158).bind fun y_167 => (appendD l_105 ([y_167] : List (List Int))).bind fun l_190 => some (.inl ((IntKind.i64.wrap (x_104 + 1)), l_190))) (some (.inr l_105))) (0, ([] : List (List Int)))).bind fun l_151 => some l_151

noncomputable def D.impl_FillOf (x0_0 : (List (List Int))) (x1 : (List Int)) : Option (((List (List Int))) × Bool) :=
  (D.impl_OrderOk x0_0 x1).bind fun y_5 => cond (!y_5) (some (([] : List (List Int)), false)) ((D.impl_netsOf x0_0).bind fun y_18 => (D.impl_narrow x1).bind fun y_29 => (D.impl_elimination y_18 y_29).bind fun y_40 => (D.impl_nets_graph y_40.1).bind fun y_64 => some (y_64, true))

noncomputable def D.impl_edgesOf (x0_0 : (List (List Int))) : Option (((List (List Int)))) :=
  (loopF (σ := (List (List Int)) × Int) (ρ := ((List (List Int)))) (fun (s_288 : (List (List Int)) × Int) => match s_288 with | (l_291, x_296) => cond (decide (x_296 < (x0_0.length : Int))) ((idx x0_0 x_296).bind fun e_441 => (loopF (σ := (List (List Int)) × Int) (ρ := ((List (List Int)))) (fun (s_508 : (List (List Int)) × Int) => match s_508 with | (l_511, x_516) => cond (decide (x_516 < (e_441.length : Int))) ((idx e_441 x_516).bind fun e_551 => cond (decide (x_296 < e_551)) ((appendD l_511 ([([x_296, e_551] : List Int)] : List (List Int))).bind fun l_569 => some (.inl (l_569, (IntKind.i64.wrap (x_516 + 1))))) (some (.inl (l_511, (IntKind.i64.wrap (x_516 + 1)))))) (some (.inr l_511))) (l_291, 0)).bind fun l_544 => some (.inl (l_544, (IntKind.i64.wrap (x_296 + 1))))) (some (.inr l_291))) (([] : List (List Int)), 0)).bind fun l_434 => some l_434

noncomputable def D.impl_EdgesOf (x0_0 : (List (List Int))) : Option (((List (List Int)))) :=
  (D.impl_GraphOk x0_0).bind fun y_3 => cond (!y_3) (some ([] : List (List Int))) ((D.impl_edgesOf x0_0).bind fun y_14 => some y_14)

noncomputable def D.impl_ManyEdges (x0_0 : (List (List Int))) : Option (Int) :=
  (D.impl_EdgesOf x0_0).bind fun y_3 => some (y_3.length : Int)

noncomputable def D.impl_FillMany (x0_0 : (List (List Int))) (x1 : (List Int)) : Option (Int) :=
  (D.impl_FillOf x0_0 x1).bind fun y_3 => cond (!y_3.2) (some (-1)) ((D.impl_ManyEdges y_3.1).bind fun y_17 => (D.impl_ManyEdges x0_0).bind fun y_23 => some (IntKind.i64.wrap (y_17 - y_23)))

noncomputable def D.spec_l7Left (x0_0 : (List (List Int))) (x1 : Int) (x2 : (List Bool)) : Option (((List Int))) :=
  (loopF (σ := (List Int) × Int) (ρ := ((List Int))) (fun (s_114 : (List Int) × Int) => match s_114 with | (l_117, x_122) => (idx x0_0 x1).bind fun e_179 => cond (decide (x_122 < (e_179.length : Int))) ((idx x0_0 x1).bind fun e_186 => (idx e_186 x_122).bind fun e_192 => (idx x2 e_192).bind fun e_198 => cond (!e_198) ((idx x0_0 x1).bind fun e_205 => (idx e_205 x_122).bind fun e_211 => (appendD l_117 ([e_211] : List Int)).bind fun l_221 => some (.inl (l_221, (IntKind.i64.wrap (x_122 + 1))))) (some (.inl (l_117, (IntKind.i64.wrap (x_122 + 1)))))) (some (.inr l_117))) (([] : List Int), 0)).bind fun l_173 => some l_173

noncomputable def D.spec_l1Edge (x0_0 : (List (List Int))) (x1 : Int) (x2 : Int) : Option (Bool) :=
  (idx x0_0 x1).bind fun e_3 => (D.spec_l1Has e_3 x2).bind fun y_9 => some y_9

noncomputable def D.spec_l7Missing (x0_0 : (List (List Int))) (x1 : (List Int)) : Option (Int) :=
  (loopF (σ := Int × Int) (ρ := (Int)) (fun (s_196 : Int × Int) => match s_196 with | (x_199, x_200) => cond (decide (x_200 < (x1.length : Int))) ((loopF (σ := Int × Int) (ρ := (Int)) (fun (s_344 : Int × Int) => match s_344 with | (x_347, x_348) => cond (decide (x_348 < x_200)) ((idx x1 x_348).bind fun e_373 => (idx x1 x_200).bind fun e_379 => (D.spec_l1Edge x0_0 e_373 e_379).bind fun y_385 => cond (!y_385) (some (.inl ((IntKind.i64.wrap (x_347 + 1)), (IntKind.i64.wrap (x_348 + 1))))) (some (.inl (x_347, (IntKind.i64.wrap (x_348 + 1)))))) (some (.inr x_347))) (x_199, 0)).bind fun x_370 => some (.inl (x_370, (IntKind.i64.wrap (x_200 + 1))))) (some (.inr x_199))) (0, 0)).bind fun x_296 => some x_296

noncomputable def D.spec_l8Clique (x0_0 : (List (List Int))) (x1 : (List Int)) : Option (Bool) :=
  (D.spec_l7Missing x0_0 x1).bind fun y_3 => some (y_3 == 0)

noncomputable def D.spec_PerfectOrder (x0_0 : (List (List Int))) : Option (((List Int)) × Bool) :=
  (D.spec_GraphOk x0_0).bind fun y_3 => cond (!y_3) (some (([] : List Int), false)) ((D.spec_l1Size x0_0).bind fun y_15 => (makeD (false : Bool) y_15 y_15).bind fun l_22 => (loopF (σ := (List Bool) × (List Int)) (ρ := ((List Int)) ⊕ (((List Int)) × Bool)) (fun (s_529 : (List Bool) × (List Int)) => match s_529 with | (l_532, l_535) => (D.spec_l1Size x0_0).bind fun y_790 => cond (decide ((l_535.length : Int) < y_790)) ((loopF (σ := Int) (ρ := (Int)) (fun (x_903 : Int) => (D.spec_l1Size x0_0).bind fun y_956 => cond (decide (x_903 < y_956)) ((idx l_532 x_903).bind fun e_960 => cond e_960 (some (.inl (IntKind.i64.wrap (x_903 + 1)))) ((D.spec_l7Left x0_0 x_903 l_532).bind fun y_970 => (D.spec_l8Clique x0_0 y_970).bind fun y_987 => cond (!y_987) (some (.inl (IntKind.i64.wrap (x_903 + 1)))) (some (.inr x_903)))) (some (.inr x_903))) 0).bind fun x_954 => (D.spec_l1Size x0_0).bind fun y_1004 => cond (x_954 == y_1004) (some (.inr (.inr (([] : List Int), false)))) ((idx l_532 x_954).bind fun e_1016 => (appendD l_535 ([x_954] : List Int)).bind fun l_1026 => some (.inl ((l_532.set (Int.toNat x_954) true), l_1026)))) (some (.inr (.inl l_535)))) (l_22, ([] : List Int))).bind fun zz => match zz with | .inl l_784 => (some (l_784, true)) | .inr z => (some z))

noncomputable def D.spec_ChordalIn (x0_0 : (List (List Int))) : Option (Bool) :=
  (D.spec_PerfectOrder x0_0).bind fun y_3 => some y_3.2

noncomputable def D.math_bits_OnesCount32 (x0 : Int) : Option (Int) :=
  (strAt popTab (ishr .u32 x0 24)).bind fun e_2 => (strAt popTab (iand .u32 (ishr .u32 x0 16) 255)).bind fun e_5 => (strAt popTab (iand .u32 (ishr .u32 x0 8) 255)).bind fun e_8 => (strAt popTab (iand .u32 x0 255)).bind fun e_10 => some (IntKind.i64.wrap (IntKind.u8.wrap ((IntKind.u8.wrap ((IntKind.u8.wrap (e_2 + e_5)) + e_8)) + e_10)))

noncomputable def D.impl_vset_size (x0 : Int) : Option (Int) :=
  (D.math_bits_OnesCount32 x0).bind fun y_1 => some y_1

noncomputable def D.spec_l1All (x0 : Int) : Option (((List Int))) :=
  (loopF (σ := (List Int) × Int) (ρ := ((List Int))) (fun (s_38 : (List Int) × Int) => match s_38 with | (l_41, x_46) => cond (decide (x_46 < x0)) ((appendD l_41 ([x_46] : List Int)).bind fun l_71 => some (.inl (l_71, (IntKind.i64.wrap (x_46 + 1))))) (some (.inr l_41))) (([] : List Int), 0)).bind fun l_60 => some l_60

noncomputable def D.spec_l8Meet (x0 : (List Int)) (x1 : (List Int)) : Option (((List Int))) :=
  (loopF (σ := (List Int) × Int) (ρ := ((List Int))) (fun (s_78 : (List Int) × Int) => match s_78 with | (l_81, x_86) => cond (decide (x_86 < (x0.length : Int))) ((idx x0 x_86).bind fun e_127 => (D.spec_l1Has x1 e_127).bind fun y_133 => cond y_133 ((idx x0 x_86).bind fun e_141 => (appendD l_81 ([e_141] : List Int)).bind fun l_151 => some (.inl (l_151, (IntKind.i64.wrap (x_86 + 1))))) (some (.inl (l_81, (IntKind.i64.wrap (x_86 + 1)))))) (some (.inr l_81))) (([] : List Int), 0)).bind fun l_120 => some l_120

end Go.Sx

namespace Go.Sx

end Go.Sx

namespace Go.Sx

noncomputable def D.impl_missing (x0 : (List Int)) (x1 : Int) : Option (Int) :=
  (D.impl_vset_list x1).bind fun y_1 => (loopF (σ := Int × Int) (ρ := (Int)) (fun (s_61 : Int × Int) => match s_61 with | (x_64, x_65) => cond (decide (x_65 < (y_1.length : Int))) ((idx y_1 x_65).bind fun e_92 => (idx x0 e_92).bind fun e_98 => (D.impl_one e_92).bind fun y_104 => (D.impl_vset_size (iandNot .u32 (iandNot .u32 x1 e_98) y_104)).bind fun y_107 => some (.inl ((IntKind.i64.wrap (x_64 + y_107)), (IntKind.i64.wrap (x_65 + 1))))) (some (.inr x_64))) (0, 0)).bind fun x_89 => some (IntKind.i64.wrap (Int.tdiv x_89 2))

noncomputable def D.spec_l1CopyGraph (x0_0 : (List (List Int))) : Option (((List (List Int)))) :=
  (loopF (σ := Int × (List (List Int))) (ρ := ((List (List Int)))) (fun (s_100 : Int × (List (List Int))) => match s_100 with | (x_106, l_107) => cond (decide (x_106 < (x0_0.length : Int))) ((idx x0_0 x_106).bind fun e_160 => (D.spec_l1Copy e_160).bind fun y_169 => (appendD l_107 ([y_169] : List (List Int))).bind fun l_192 => some (.inl ((IntKind.i64.wrap (x_106 + 1)), l_192))) (some (.inr l_107))) (0, ([] : List (List Int)))).bind fun l_153 => some l_153

noncomputable def D.spec_l7Clique (x0_0 : (List (List Int))) (x1 : (List Int)) : Option (((List (List Int)))) :=
  (loopF (σ := (List (List Int)) × Int) (ρ := ((List (List Int)))) (fun (s_252 : (List (List Int)) × Int) => match s_252 with | (l_255, x_258) => cond (decide (x_258 < (x1.length : Int))) ((loopF (σ := (List (List Int)) × Int) (ρ := ((List (List Int)))) (fun (s_442 : (List (List Int)) × Int) => match s_442 with | (l_445, x_448) => cond (decide (x_448 < x_258)) ((idx x1 x_448).bind fun e_480 => (idx x1 x_258).bind fun e_486 => (D.spec_l1Link l_445 e_480 e_486).bind fun y_494 => some (.inl (y_494, (IntKind.i64.wrap (x_448 + 1))))) (some (.inr l_445))) (l_255, 0)).bind fun l_475 => some (.inl (l_475, (IntKind.i64.wrap (x_258 + 1))))) (some (.inr l_255))) (x0_0, 0)).bind fun l_380 => some l_380

noncomputable def D.laws_likeInts (x0 : (List Int)) (x1 : (List Int)) : Option (Bool) :=
  cond ((x0.length : Int) != (x1.length : Int)) (some false) ((loopF (σ := Int) (ρ := (Unit) ⊕ (Bool)) (fun (x_43 : Int) => cond (decide (x_43 < (x0.length : Int))) ((idx x0 x_43).bind fun e_64 => (idx x1 x_43).bind fun e_70 => cond (e_64 != e_70) (some (.inr (.inr false))) (some (.inl (IntKind.i64.wrap (x_43 + 1))))) (some (.inr (.inl ())))) 0).bind fun zz => match zz with | .inl _ => (some true) | .inr z => (some z))

end Go.Sx

namespace Go.Sx

noncomputable def D.cmp_isNaN_int (x0 : Int) : Option (Bool) :=
  some (x0 != x0)

noncomputable def D.cmp_Compare_int (x0 : Int) (x1 : Int) : Option (Int) :=
  (D.cmp_isNaN_int x0).bind fun y_1 => (D.cmp_isNaN_int x1).bind fun y_8 => cond y_1 (cond y_8 (some 0) (some (-1))) (cond y_8 (some 1) (cond (decide (x0 < x1)) (some (-1)) (cond (decide (x1 < x0)) (some 1) (some 0))))

noncomputable def D.slices_Compare_int_int (x0 : (List Int)) (x1 : (List Int)) : Option (Int) :=
  (loopF (σ := Int) (ρ := (Unit) ⊕ (Int)) (fun (x_54 : Int) => cond (decide (x_54 < (x0.length : Int))) ((idx x0 x_54).bind fun e_81 => cond (decide ((x1.length : Int) ≤ x_54)) (some (.inr (.inr 1))) ((idx x1 x_54).bind fun e_88 => (D.cmp_Compare_int e_81 e_88).bind fun y_94 => cond (y_94 != 0) (some (.inr (.inr y_94))) (some (.inl (IntKind.i64.wrap (x_54 + 1)))))) (some (.inr (.inl ())))) 0).bind fun zz => match zz with | .inl _ => (cond (decide ((x0.length : Int) < (x1.length : Int))) (some (-1)) (some 0)) | .inr z => (some z)

noncomputable def D.impl_growCliquesR : Nat → ((List Int)) → Int → Int → Int → ((List Int)) → Option (((List Int)))
  | 0, _, _, _, _, _ => none
  | fuel + 1, x0, x1, x2, x3, x4 => cond (x2 == 0) (((cond (x3 == 0) ((appendD x4 ([x1] : List Int)).bind fun l_27 => some l_27) (some x4) : Option ((List Int)))).bind fun l_16 => some l_16) ((D.impl_vset_list x2).bind fun y_33 => (loopF (σ := Int × Int × (List Int) × Int) (ρ := ((List Int))) (fun (s_155 : Int × Int × (List Int) × Int) => match s_155 with | (x_158, x_159, l_160, x_165) => cond (decide (x_165 < (y_33.length : Int))) ((idx y_33 x_165).bind fun e_224 => (D.impl_one e_224).bind fun y_230 => (idx x0 e_224).bind fun e_233 => (idx x0 e_224).bind fun e_239 => (D.impl_growCliquesR fuel x0 (ior .u32 x1 y_230) (iand .u32 x_158 e_233) (iand .u32 x_159 e_239) l_160).bind fun y_247 => (D.impl_one e_224).bind fun y_258 => (D.impl_one e_224).bind fun y_265 => some (.inl ((iandNot .u32 x_158 y_258), (ior .u32 x_159 y_265), y_247, (IntKind.i64.wrap (x_165 + 1))))) (some (.inr l_160))) (x2, x3, x4, 0)).bind fun l_217 => some l_217)

noncomputable def D.impl_growCliques (x0 : (List Int)) (x1 : Int) (x2 : Int) (x3 : Int) (x4 : (List Int)) : Option (((List Int))) := D.impl_growCliquesR recFuel x0 x1 x2 x3 x4

noncomputable def D.impl_compareSets (x0 : Int) (x1 : Int) : Option (Int) :=
  (D.impl_vset_list x0).bind fun y_1 => (D.impl_vset_list x1).bind fun y_12 => (D.slices_Compare_int_int y_1 y_12).bind fun y_23 => some y_23

noncomputable def D.slices_insertionSortCmpFunc_impl_vset__impl_compareSets (x0 : (List Int)) (x1 : Int) (x2 : Int) : Option (((List Int))) :=
  (loopF (σ := (List Int) × Int) (ρ := ((List Int))) (fun (s_560 : (List Int) × Int) => match s_560 with | (l_563, x_566) => cond (decide (x_566 < x2)) ((loopF (σ := (List Int) × Int) (ρ := ((List Int))) (fun (s_984 : (List Int) × Int) => match s_984 with | (l_987, x_990) => (cond (decide (x1 < x_990)) ((idx l_987 x_990).bind fun e_1079 => (idx l_987 (IntKind.i64.wrap (x_990 - 1))).bind fun e_1085 => (D.impl_compareSets e_1079 e_1085).bind fun y_1091 => some (decide (y_1091 < 0))) (some false)).bind fun b_1077 => cond b_1077 ((idx l_987 (IntKind.i64.wrap (x_990 - 1))).bind fun e_1097 => (idx l_987 x_990).bind fun e_1103 => (idx l_987 x_990).bind fun e_1109 => (idx (l_987.set (Int.toNat x_990) e_1097) (IntKind.i64.wrap (x_990 - 1))).bind fun e_1117 => some (.inl (((l_987.set (Int.toNat x_990) e_1097).set (Int.toNat (IntKind.i64.wrap (x_990 - 1))) e_1103), (IntKind.i64.wrap (x_990 - 1))))) (some (.inr l_987))) (l_563, x_566)).bind fun l_1056 => some (.inl (l_1056, (IntKind.i64.wrap (x_566 + 1))))) (some (.inr l_563))) (x0, (IntKind.i64.wrap (x1 + 1)))).bind fun l_844 => some l_844

noncomputable def D.slices_siftDownCmpFunc_impl_vset__impl_compareSets (x0 : (List Int)) (x1 : Int) (x2 : Int) (x3 : Int) : Option (((List Int))) :=
  (loopF (σ := (List Int) × Int) (ρ := ((List Int)) ⊕ (((List Int)))) (fun (s_186 : (List Int) × Int) => match s_186 with | (l_189, x_192) => cond (decide (x2 ≤ (IntKind.i64.wrap ((IntKind.i64.wrap (2 * x_192)) + 1)))) (some (.inr (.inl l_189))) ((cond (decide ((IntKind.i64.wrap ((IntKind.i64.wrap ((IntKind.i64.wrap (2 * x_192)) + 1)) + 1)) < x2)) ((idx l_189 (IntKind.i64.wrap (x3 + (IntKind.i64.wrap ((IntKind.i64.wrap (2 * x_192)) + 1))))).bind fun e_307 => (idx l_189 (IntKind.i64.wrap ((IntKind.i64.wrap (x3 + (IntKind.i64.wrap ((IntKind.i64.wrap (2 * x_192)) + 1)))) + 1))).bind fun e_313 => (D.impl_compareSets e_307 e_313).bind fun y_319 => some (decide (y_319 < 0))) (some false)).bind fun b_305 => ((cond b_305 (some (IntKind.i64.wrap ((IntKind.i64.wrap ((IntKind.i64.wrap (2 * x_192)) + 1)) + 1))) (some (IntKind.i64.wrap ((IntKind.i64.wrap (2 * x_192)) + 1))) : Option (Int))).bind fun x_328 => (idx l_189 (IntKind.i64.wrap (x3 + x_192))).bind fun e_331 => (idx l_189 (IntKind.i64.wrap (x3 + x_328))).bind fun e_337 => (D.impl_compareSets e_331 e_337).bind fun y_343 => cond (!(decide (y_343 < 0))) (some (.inr (.inr l_189))) ((idx l_189 (IntKind.i64.wrap (x3 + x_328))).bind fun e_349 => (idx l_189 (IntKind.i64.wrap (x3 + x_192))).bind fun e_355 => (idx l_189 (IntKind.i64.wrap (x3 + x_192))).bind fun e_361 => (idx (l_189.set (Int.toNat (IntKind.i64.wrap (x3 + x_192))) e_349) (IntKind.i64.wrap (x3 + x_328))).bind fun e_369 => some (.inl (((l_189.set (Int.toNat (IntKind.i64.wrap (x3 + x_192))) e_349).set (Int.toNat (IntKind.i64.wrap (x3 + x_328))) e_355), x_328))))) (x0, x1)).bind fun zz => match zz with | .inl l_283 => (some l_283) | .inr z => (some z)

noncomputable def D.slices_heapSortCmpFunc_impl_vset__impl_compareSets (x0 : (List Int)) (x1 : Int) (x2 : Int) : Option (((List Int))) :=
  (loopF (σ := (List Int) × Int) (ρ := ((List Int))) (fun (s_30 : (List Int) × Int) => match s_30 with | (l_33, x_36) => cond (decide ((0 : Int) ≤ x_36)) ((D.slices_siftDownCmpFunc_impl_vset__impl_compareSets l_33 x_36 (IntKind.i64.wrap (x2 - x1)) x1).bind fun y_54 => some (.inl (y_54, (IntKind.i64.wrap (x_36 - 1))))) (some (.inr l_33))) (x0, (IntKind.i64.wrap (Int.tdiv (IntKind.i64.wrap ((IntKind.i64.wrap (x2 - x1)) - 1)) 2)))).bind fun l_49 => (loopF (σ := (List Int) × Int) (ρ := ((List Int))) (fun (s_144 : (List Int) × Int) => match s_144 with | (l_147, x_150) => cond (decide ((0 : Int) ≤ x_150)) ((idx l_147 (IntKind.i64.wrap (x1 + x_150))).bind fun e_194 => (idx l_147 x1).bind fun e_200 => (idx l_147 x1).bind fun e_206 => (idx (l_147.set (Int.toNat x1) e_194) (IntKind.i64.wrap (x1 + x_150))).bind fun e_214 => (D.slices_siftDownCmpFunc_impl_vset__impl_compareSets ((l_147.set (Int.toNat x1) e_194).set (Int.toNat (IntKind.i64.wrap (x1 + x_150))) e_200) 0 x_150 x1).bind fun y_220 => some (.inl (y_220, (IntKind.i64.wrap (x_150 - 1))))) (some (.inr l_147))) (l_49, (IntKind.i64.wrap ((IntKind.i64.wrap (x2 - x1)) - 1)))).bind fun l_189 => some l_189

noncomputable def D.slices_breakPatternsCmpFunc_impl_vset__impl_compareSets (x0 : (List Int)) (x1 : Int) (x2 : Int) : Option (((List Int))) :=
  cond (decide ((8 : Int) ≤ (IntKind.i64.wrap (x2 - x1)))) ((D.slices_nextPowerOfTwo (IntKind.i64.wrap (x2 - x1))).bind fun y_4 => (loopF (σ := (List Int) × Int × Int) (ρ := ((List Int))) (fun (s_103 : (List Int) × Int × Int) => match s_103 with | (l_106, x_109, x_110) => cond (decide (x_109 ≤ (IntKind.i64.wrap ((IntKind.i64.wrap (x1 + (IntKind.i64.wrap ((IntKind.i64.wrap (Int.tdiv (IntKind.i64.wrap (x2 - x1)) 4)) * 2)))) + 1)))) ((D.slices_xorshift_Next x_110).bind fun y_159 => ((cond (decide ((IntKind.i64.wrap (x2 - x1)) ≤ (IntKind.i64.wrap (iand .u64 y_159.1 (IntKind.u64.wrap (y_4 - 1)))))) (some (IntKind.i64.wrap ((IntKind.i64.wrap (iand .u64 y_159.1 (IntKind.u64.wrap (y_4 - 1)))) - (IntKind.i64.wrap (x2 - x1))))) (some (IntKind.i64.wrap (iand .u64 y_159.1 (IntKind.u64.wrap (y_4 - 1))))) : Option (Int))).bind fun x_170 => (idx l_106 (IntKind.i64.wrap (x1 + x_170))).bind fun e_173 => (idx l_106 x_109).bind fun e_179 => (idx l_106 x_109).bind fun e_185 => (idx (l_106.set (Int.toNat x_109) e_173) (IntKind.i64.wrap (x1 + x_170))).bind fun e_193 => some (.inl (((l_106.set (Int.toNat x_109) e_173).set (Int.toNat (IntKind.i64.wrap (x1 + x_170))) e_179), (IntKind.i64.wrap (x_109 + 1)), y_159.2))) (some (.inr l_106))) (x0, (IntKind.i64.wrap ((IntKind.i64.wrap (x1 + (IntKind.i64.wrap ((IntKind.i64.wrap (Int.tdiv (IntKind.i64.wrap (x2 - x1)) 4)) * 2)))) - 1)), (IntKind.u64.wrap (IntKind.i64.wrap (x2 - x1))))).bind fun l_154 => some l_154) (some x0)

noncomputable def D.slices_order2CmpFunc_impl_vset__impl_compareSets (x0 : (List Int)) (x1 : Int) (x2 : Int) (x3_0 : Int) : Option (Int × Int × ((List Int)) × Int) :=
  (idx x0 x2).bind fun e_1 => (idx x0 x1).bind fun e_7 => (D.impl_compareSets e_1 e_7).bind fun y_13 => cond (decide (y_13 < 0)) (some (x2, x1, x0, (IntKind.i64.wrap (x3_0 + 1)))) (some (x1, x2, x0, x3_0))

noncomputable def D.slices_medianCmpFunc_impl_vset__impl_compareSets (x0 : (List Int)) (x1 : Int) (x2 : Int) (x3 : Int) (x4_0 : Int) : Option (Int × ((List Int)) × Int) :=
  (D.slices_order2CmpFunc_impl_vset__impl_compareSets x0 x1 x2 x4_0).bind fun y_1 => (D.slices_order2CmpFunc_impl_vset__impl_compareSets y_1.2.2.1 y_1.2.1 x3 y_1.2.2.2).bind fun y_10 => (D.slices_order2CmpFunc_impl_vset__impl_compareSets y_10.2.2.1 y_1.1 y_10.1 y_10.2.2.2).bind fun y_19 => some (y_19.2.1, y_19.2.2.1, y_19.2.2.2)

noncomputable def D.slices_medianAdjacentCmpFunc_impl_vset__impl_compareSets (x0 : (List Int)) (x1 : Int) (x2_0 : Int) : Option (Int × ((List Int)) × Int) :=
  (D.slices_medianCmpFunc_impl_vset__impl_compareSets x0 (IntKind.i64.wrap (x1 - 1)) x1 (IntKind.i64.wrap (x1 + 1)) x2_0).bind fun y_1 => some (y_1.1, y_1.2.1, y_1.2.2)

noncomputable def D.slices_choosePivotCmpFunc_impl_vset__impl_compareSets (x0 : (List Int)) (x1 : Int) (x2 : Int) : Option (Int × Int × ((List Int))) :=
  cond (decide ((8 : Int) ≤ (IntKind.i64.wrap (x2 - x1)))) (((cond (decide ((50 : Int) ≤ (IntKind.i64.wrap (x2 - x1)))) ((D.slices_medianAdjacentCmpFunc_impl_vset__impl_compareSets x0 (IntKind.i64.wrap (x1 + (IntKind.i64.wrap ((IntKind.i64.wrap (Int.tdiv (IntKind.i64.wrap (x2 - x1)) 4)) * 1)))) 0).bind fun y_44 => (D.slices_medianAdjacentCmpFunc_impl_vset__impl_compareSets y_44.2.1 (IntKind.i64.wrap (x1 + (IntKind.i64.wrap ((IntKind.i64.wrap (Int.tdiv (IntKind.i64.wrap (x2 - x1)) 4)) * 2)))) y_44.2.2).bind fun y_53 => (D.slices_medianAdjacentCmpFunc_impl_vset__impl_compareSets y_53.2.1 (IntKind.i64.wrap (x1 + (IntKind.i64.wrap ((IntKind.i64.wrap (Int.tdiv (IntKind.i64.wrap (x2 - x1)) 4)) * 3)))) y_53.2.2).bind fun y_62 => some (y_62.2.1, y_44.1, y_53.1, y_62.1, y_62.2.2)) (some (x0, (IntKind.i64.wrap (x1 + (IntKind.i64.wrap ((IntKind.i64.wrap (Int.tdiv (IntKind.i64.wrap (x2 - x1)) 4)) * 1)))), (IntKind.i64.wrap (x1 + (IntKind.i64.wrap ((IntKind.i64.wrap (Int.tdiv (IntKind.i64.wrap (x2 - x1)) 4)) * 2)))), (IntKind.i64.wrap (x1 + (IntKind.i64.wrap ((IntKind.i64.wrap (Int.tdiv (IntKind.i64.wrap (x2 - x1)) 4)) * 3)))), 0)) : Option ((List Int) × Int × Int × Int × Int))).bind fun (l_35, x_38, x_39, x_40, x_41) => (D.slices_medianCmpFunc_impl_vset__impl_compareSets l_35 x_38 x_39 x_40 x_41).bind fun y_71 => cond (y_71.2.2 == 0) (some (y_71.1, 1, y_71.2.1)) (cond (y_71.2.2 == 12) (some (y_71.1, 2, y_71.2.1)) (some (y_71.1, 0, y_71.2.1)))) (cond ((0 : Int) == 0) (some ((IntKind.i64.wrap (x1 + (IntKind.i64.wrap ((IntKind.i64.wrap (Int.tdiv (IntKind.i64.wrap (x2 - x1)) 4)) * 2)))), 1, x0)) (cond ((0 : Int) == 12) (some ((IntKind.i64.wrap (x1 + (IntKind.i64.wrap ((IntKind.i64.wrap (Int.tdiv (IntKind.i64.wrap (x2 - x1)) 4)) * 2)))), 2, x0)) (some ((IntKind.i64.wrap (x1 + (IntKind.i64.wrap ((IntKind.i64.wrap (Int.tdiv (IntKind.i64.wrap (x2 - x1)) 4)) * 2)))), 0, x0))))

noncomputable def D.slices_reverseRangeCmpFunc_impl_vset__impl_compareSets (x0 : (List Int)) (x1 : Int) (x2 : Int) : Option (((List Int))) :=
  (loopF (σ := (List Int) × Int × Int) (ρ := ((List Int))) (fun (s_65 : (List Int) × Int × Int) => match s_65 with | (l_68, x_71, x_72) => cond (decide (x_71 < x_72)) ((idx l_68 x_72).bind fun e_107 => (idx l_68 x_71).bind fun e_113 => (idx l_68 x_71).bind fun e_119 => (idx (l_68.set (Int.toNat x_71) e_107) x_72).bind fun e_127 => some (.inl (((l_68.set (Int.toNat x_71) e_107).set (Int.toNat x_72) e_113), (IntKind.i64.wrap (x_71 + 1)), (IntKind.i64.wrap (x_72 - 1))))) (some (.inr l_68))) (x0, x1, (IntKind.i64.wrap (x2 - 1)))).bind fun l_102 => some l_102

noncomputable def D.slices_partialInsertionSortCmpFunc_impl_vset__impl_compareSets (x0 : (List Int)) (x1 : Int) (x2 : Int) : Option (Bool × ((List Int))) :=
  (loopF (σ := (List Int) × Int × Int) (ρ := ((List Int)) ⊕ (Bool × ((List Int)))) (fun (s_1625 : (List Int) × Int × Int) => match s_1625 with | (l_1628, x_1631, x_1632) => cond (decide (x_1632 < 5)) ((loopF (σ := Int) (ρ := (Int)) (fun (x_2530 : Int) => (cond (decide (x_2530 < x2)) ((idx l_1628 x_2530).bind fun e_2591 => (idx l_1628 (IntKind.i64.wrap (x_2530 - 1))).bind fun e_2597 => (D.impl_compareSets e_2591 e_2597).bind fun y_2603 => some (!(decide (y_2603 < 0)))) (some false)).bind fun b_2589 => cond b_2589 (some (.inl (IntKind.i64.wrap (x_2530 + 1)))) (some (.inr x_2530))) x_1631).bind fun x_2570 => cond (x_2570 == x2) (some (.inr (.inr (true, l_1628)))) (cond (decide ((IntKind.i64.wrap (x2 - x1)) < 50)) (some (.inr (.inr (false, l_1628)))) ((idx l_1628 (IntKind.i64.wrap (x_2570 - 1))).bind fun e_2611 => (idx l_1628 x_2570).bind fun e_2617 => (idx l_1628 x_2570).bind fun e_2623 => (idx (l_1628.set (Int.toNat x_2570) e_2611) (IntKind.i64.wrap (x_2570 - 1))).bind fun e_2631 => ((cond (decide ((2 : Int) ≤ (IntKind.i64.wrap (x_2570 - x1)))) ((loopF (σ := (List Int) × Int) (ρ := ((List Int))) (fun (s_2947 : (List Int) × Int) => match s_2947 with | (l_2950, x_2953) => cond (decide ((1 : Int) ≤ x_2953)) ((idx l_2950 x_2953).bind fun e_3006 => (idx l_2950 (IntKind.i64.wrap (x_2953 - 1))).bind fun e_3012 => (D.impl_compareSets e_3006 e_3012).bind fun y_3018 => cond (!(decide (y_3018 < 0))) (some (.inr l_2950)) ((idx l_2950 (IntKind.i64.wrap (x_2953 - 1))).bind fun e_3024 => (idx l_2950 x_2953).bind fun e_3030 => (idx l_2950 x_2953).bind fun e_3036 => (idx (l_2950.set (Int.toNat x_2953) e_3024) (IntKind.i64.wrap (x_2953 - 1))).bind fun e_3044 => some (.inl (((l_2950.set (Int.toNat x_2953) e_3024).set (Int.toNat (IntKind.i64.wrap (x_2953 - 1))) e_3030), (IntKind.i64.wrap (x_2953 - 1)))))) (some (.inr l_2950))) (((l_1628.set (Int.toNat x_2570) e_2611).set (Int.toNat (IntKind.i64.wrap (x_2570 - 1))) e_2617), (IntKind.i64.wrap (x_2570 - 1)))).bind fun l_3001 => some l_3001) (some ((l_1628.set (Int.toNat x_2570) e_2611).set (Int.toNat (IntKind.i64.wrap (x_2570 - 1))) e_2617)) : Option ((List Int)))).bind fun l_2843 => cond (decide ((2 : Int) ≤ (IntKind.i64.wrap (x2 - x_2570)))) ((loopF (σ := (List Int) × Int) (ρ := ((List Int))) (fun (s_3150 : (List Int) × Int) => match s_3150 with | (l_3153, x_3156) => cond (decide (x_3156 < x2)) ((idx l_3153 x_3156).bind fun e_3209 => (idx l_3153 (IntKind.i64.wrap (x_3156 - 1))).bind fun e_3215 => (D.impl_compareSets e_3209 e_3215).bind fun y_3221 => cond (!(decide (y_3221 < 0))) (some (.inr l_3153)) ((idx l_3153 (IntKind.i64.wrap (x_3156 - 1))).bind fun e_3227 => (idx l_3153 x_3156).bind fun e_3233 => (idx l_3153 x_3156).bind fun e_3239 => (idx (l_3153.set (Int.toNat x_3156) e_3227) (IntKind.i64.wrap (x_3156 - 1))).bind fun e_3247 => some (.inl (((l_3153.set (Int.toNat x_3156) e_3227).set (Int.toNat (IntKind.i64.wrap (x_3156 - 1))) e_3233), (IntKind.i64.wrap (x_3156 + 1)))))) (some (.inr l_3153))) (l_2843, (IntKind.i64.wrap (x_2570 + 1)))).bind fun l_3204 => some (.inl (l_3204, x_2570, (IntKind.i64.wrap (x_1632 + 1))))) (some (.inl (l_2843, x_2570, (IntKind.i64.wrap (x_1632 + 1)))))))) (some (.inr (.inl l_1628)))) (x0, (IntKind.i64.wrap (x1 + 1)), 0)).bind fun zz => match zz with | .inl l_2442 => (some (false, l_2442)) | .inr z => (some z)

noncomputable def D.slices_partitionEqualCmpFunc_impl_vset__impl_compareSets (x0 : (List Int)) (x1 : Int) (x2 : Int) (x3 : Int) : Option (Int × ((List Int))) :=
  (idx x0 x3).bind fun e_1 => (idx x0 x1).bind fun e_7 => (idx x0 x1).bind fun e_13 => (idx (x0.set (Int.toNat x1) e_1) x3).bind fun e_21 => (loopF (σ := (List Int) × Int × Int) (ρ := ((List Int) × Int)) (fun (s_739 : (List Int) × Int × Int) => match s_739 with | (l_742, x_745, x_746) => (loopF (σ := Int) (ρ := (Int)) (fun (x_1188 : Int) => (cond (decide (x_1188 ≤ x_746)) ((idx l_742 x1).bind fun e_1249 => (idx l_742 x_1188).bind fun e_1255 => (D.impl_compareSets e_1249 e_1255).bind fun y_1261 => some (!(decide (y_1261 < 0)))) (some false)).bind fun b_1247 => cond b_1247 (some (.inl (IntKind.i64.wrap (x_1188 + 1)))) (some (.inr x_1188))) x_745).bind fun x_1228 => (loopF (σ := Int) (ρ := (Int)) (fun (x_1350 : Int) => (cond (decide (x_1228 ≤ x_1350)) ((idx l_742 x1).bind fun e_1411 => (idx l_742 x_1350).bind fun e_1417 => (D.impl_compareSets e_1411 e_1417).bind fun y_1423 => some (decide (y_1423 < 0))) (some false)).bind fun b_1409 => cond b_1409 (some (.inl (IntKind.i64.wrap (x_1350 - 1)))) (some (.inr x_1350))) x_746).bind fun x_1390 => cond (decide (x_1390 < x_1228)) (some (.inr (l_742, x_1228))) ((idx l_742 x_1390).bind fun e_1430 => (idx l_742 x_1228).bind fun e_1436 => (idx l_742 x_1228).bind fun e_1442 => (idx (l_742.set (Int.toNat x_1228) e_1430) x_1390).bind fun e_1450 => some (.inl (((l_742.set (Int.toNat x_1228) e_1430).set (Int.toNat x_1390) e_1436), (IntKind.i64.wrap (x_1228 + 1)), (IntKind.i64.wrap (x_1390 - 1)))))) (((x0.set (Int.toNat x1) e_1).set (Int.toNat x3) e_7), (IntKind.i64.wrap (x1 + 1)), (IntKind.i64.wrap (x2 - 1)))).bind fun (l_1100, x_1103) => some (x_1103, l_1100)

noncomputable def D.slices_partitionCmpFunc_impl_vset__impl_compareSets (x0 : (List Int)) (x1 : Int) (x2 : Int) (x3 : Int) : Option (Int × Bool × ((List Int))) :=
  (idx x0 x3).bind fun e_1 => (idx x0 x1).bind fun e_7 => (idx x0 x1).bind fun e_13 => (idx (x0.set (Int.toNat x1) e_1) x3).bind fun e_21 => (loopF (σ := Int) (ρ := (Int)) (fun (x_110 : Int) => (cond (decide (x_110 ≤ (IntKind.i64.wrap (x2 - 1)))) ((idx ((x0.set (Int.toNat x1) e_1).set (Int.toNat x3) e_7) x_110).bind fun e_171 => (idx ((x0.set (Int.toNat x1) e_1).set (Int.toNat x3) e_7) x1).bind fun e_177 => (D.impl_compareSets e_171 e_177).bind fun y_183 => some (decide (y_183 < 0))) (some false)).bind fun b_169 => cond b_169 (some (.inl (IntKind.i64.wrap (x_110 + 1)))) (some (.inr x_110))) (IntKind.i64.wrap (x1 + 1))).bind fun x_150 => (loopF (σ := Int) (ρ := (Int)) (fun (x_272 : Int) => (cond (decide (x_150 ≤ x_272)) ((idx ((x0.set (Int.toNat x1) e_1).set (Int.toNat x3) e_7) x_272).bind fun e_333 => (idx ((x0.set (Int.toNat x1) e_1).set (Int.toNat x3) e_7) x1).bind fun e_339 => (D.impl_compareSets e_333 e_339).bind fun y_345 => some (!(decide (y_345 < 0)))) (some false)).bind fun b_331 => cond b_331 (some (.inl (IntKind.i64.wrap (x_272 - 1)))) (some (.inr x_272))) (IntKind.i64.wrap (x2 - 1))).bind fun x_312 => cond (decide (x_312 < x_150)) ((idx ((x0.set (Int.toNat x1) e_1).set (Int.toNat x3) e_7) x1).bind fun e_352 => (idx ((x0.set (Int.toNat x1) e_1).set (Int.toNat x3) e_7) x_312).bind fun e_358 => (idx ((x0.set (Int.toNat x1) e_1).set (Int.toNat x3) e_7) x_312).bind fun e_364 => (idx (((x0.set (Int.toNat x1) e_1).set (Int.toNat x3) e_7).set (Int.toNat x_312) e_352) x1).bind fun e_372 => some (x_312, true, ((((x0.set (Int.toNat x1) e_1).set (Int.toNat x3) e_7).set (Int.toNat x_312) e_352).set (Int.toNat x1) e_358))) ((idx ((x0.set (Int.toNat x1) e_1).set (Int.toNat x3) e_7) x_312).bind fun e_378 => (idx ((x0.set (Int.toNat x1) e_1).set (Int.toNat x3) e_7) x_150).bind fun e_384 => (idx ((x0.set (Int.toNat x1) e_1).set (Int.toNat x3) e_7) x_150).bind fun e_390 => (idx (((x0.set (Int.toNat x1) e_1).set (Int.toNat x3) e_7).set (Int.toNat x_150) e_378) x_312).bind fun e_398 => (loopF (σ := (List Int) × Int × Int) (ρ := ((List Int) × Int)) (fun (s_1116 : (List Int) × Int × Int) => match s_1116 with | (l_1119, x_1122, x_1123) => (loopF (σ := Int) (ρ := (Int)) (fun (x_1565 : Int) => (cond (decide (x_1565 ≤ x_1123)) ((idx l_1119 x_1565).bind fun e_1626 => (idx l_1119 x1).bind fun e_1632 => (D.impl_compareSets e_1626 e_1632).bind fun y_1638 => some (decide (y_1638 < 0))) (some false)).bind fun b_1624 => cond b_1624 (some (.inl (IntKind.i64.wrap (x_1565 + 1)))) (some (.inr x_1565))) x_1122).bind fun x_1605 => (loopF (σ := Int) (ρ := (Int)) (fun (x_1727 : Int) => (cond (decide (x_1605 ≤ x_1727)) ((idx l_1119 x_1727).bind fun e_1788 => (idx l_1119 x1).bind fun e_1794 => (D.impl_compareSets e_1788 e_1794).bind fun y_1800 => some (!(decide (y_1800 < 0)))) (some false)).bind fun b_1786 => cond b_1786 (some (.inl (IntKind.i64.wrap (x_1727 - 1)))) (some (.inr x_1727))) x_1123).bind fun x_1767 => cond (decide (x_1767 < x_1605)) (some (.inr (l_1119, x_1767))) ((idx l_1119 x_1767).bind fun e_1807 => (idx l_1119 x_1605).bind fun e_1813 => (idx l_1119 x_1605).bind fun e_1819 => (idx (l_1119.set (Int.toNat x_1605) e_1807) x_1767).bind fun e_1827 => some (.inl (((l_1119.set (Int.toNat x_1605) e_1807).set (Int.toNat x_1767) e_1813), (IntKind.i64.wrap (x_1605 + 1)), (IntKind.i64.wrap (x_1767 - 1)))))) (((((x0.set (Int.toNat x1) e_1).set (Int.toNat x3) e_7).set (Int.toNat x_150) e_378).set (Int.toNat x_312) e_384), (IntKind.i64.wrap (x_150 + 1)), (IntKind.i64.wrap (x_312 - 1)))).bind fun (l_1477, x_1480) => (idx l_1477 x1).bind fun e_1833 => (idx l_1477 x_1480).bind fun e_1839 => (idx l_1477 x_1480).bind fun e_1845 => (idx (l_1477.set (Int.toNat x_1480) e_1833) x1).bind fun e_1853 => some (x_1480, false, ((l_1477.set (Int.toNat x_1480) e_1833).set (Int.toNat x1) e_1839)))

noncomputable def D.slices_pdqsortCmpFunc_impl_vset__impl_compareSetsR : Nat → ((List Int)) → Int → Int → Int → Option (((List Int)))
  | 0, _, _, _, _ => none
  | fuel + 1, x0, x1, x2, x3 => (loopF (σ := (List Int) × Int × Int × Int × Bool × Bool) (ρ := (((List Int)))) (fun (s_398 : (List Int) × Int × Int × Int × Bool × Bool) => match s_398 with | (l_401, x_404, x_405, x_406, b_407, b_408) => cond (decide ((IntKind.i64.wrap (x_405 - x_404)) ≤ 12)) ((D.slices_insertionSortCmpFunc_impl_vset__impl_compareSets l_401 x_404 x_405).bind fun y_411 => some (.inr y_411)) (cond (x_406 == 0) ((D.slices_heapSortCmpFunc_impl_vset__impl_compareSets l_401 x_404 x_405).bind fun y_421 => some (.inr y_421)) (((cond (!b_407) ((D.slices_breakPatternsCmpFunc_impl_vset__impl_compareSets l_401 x_404 x_405).bind fun y_449 => some (y_449, (IntKind.i64.wrap (x_406 - 1)))) (some (l_401, x_406)) : Option ((List Int) × Int))).bind fun (l_443, x_446) => (D.slices_choosePivotCmpFunc_impl_vset__impl_compareSets l_443 x_404 x_405).bind fun y_458 => ((cond (y_458.2.1 == 2) ((D.slices_reverseRangeCmpFunc_impl_vset__impl_compareSets y_458.2.2 x_404 x_405).bind fun y_487 => some (y_487, (IntKind.i64.wrap ((IntKind.i64.wrap (x_405 - 1)) - (IntKind.i64.wrap (y_458.1 - x_404)))), 1)) (some (y_458.2.2, y_458.1, y_458.2.1)) : Option ((List Int) × Int × Int))).bind fun (l_480, x_483, x_484) => ((cond ((b_407 && b_408) && (x_484 == 1)) ((D.slices_partialInsertionSortCmpFunc_impl_vset__impl_compareSets l_480 x_404 x_405).bind fun y_521 => cond y_521.1 (some (.inr y_521.2)) (some (.inl y_521.2))) (some (.inl l_480)) : Option (((List Int)) ⊕ (((List Int)))))).bind fun q => match q with | .inl l_516 => ((cond (decide ((0 : Int) < x_404)) ((idx l_516 (IntKind.i64.wrap (x_404 - 1))).bind fun e_550 => (idx l_516 x_483).bind fun e_556 => (D.impl_compareSets e_550 e_556).bind fun y_562 => some (!(decide (y_562 < 0)))) (some false)).bind fun b_548 => cond b_548 ((D.slices_partitionEqualCmpFunc_impl_vset__impl_compareSets l_516 x_404 x_405 x_483).bind fun y_568 => some (.inl (y_568.2, y_568.1, x_405, x_446, b_407, b_408))) ((D.slices_partitionCmpFunc_impl_vset__impl_compareSets l_516 x_404 x_405 x_483).bind fun y_577 => cond (decide ((IntKind.i64.wrap (y_577.1 - x_404)) < (IntKind.i64.wrap (x_405 - y_577.1)))) ((D.slices_pdqsortCmpFunc_impl_vset__impl_compareSetsR fuel y_577.2.2 x_404 y_577.1 x_446).bind fun y_587 => some (.inl (y_587, (IntKind.i64.wrap (y_577.1 + 1)), x_405, x_446, (decide ((IntKind.i64.wrap (Int.tdiv (IntKind.i64.wrap (x_405 - x_404)) 8)) ≤ (IntKind.i64.wrap (y_577.1 - x_404)))), y_577.2.1))) ((D.slices_pdqsortCmpFunc_impl_vset__impl_compareSetsR fuel y_577.2.2 (IntKind.i64.wrap (y_577.1 + 1)) x_405 x_446).bind fun y_596 => some (.inl (y_596, x_404, y_577.1, x_446, (decide ((IntKind.i64.wrap (Int.tdiv (IntKind.i64.wrap (x_405 - x_404)) 8)) ≤ (IntKind.i64.wrap (x_405 - y_577.1)))), y_577.2.1))))) | .inr q => (some (.inr q))))) (x0, x1, x2, x3, true, true)).bind fun z => some z

noncomputable def D.slices_pdqsortCmpFunc_impl_vset__impl_compareSets (x0 : (List Int)) (x1 : Int) (x2 : Int) (x3 : Int) : Option (((List Int))) := D.slices_pdqsortCmpFunc_impl_vset__impl_compareSetsR recFuel x0 x1 x2 x3

noncomputable def D.slices_SortFunc_impl_vset_impl_vset__impl_compareSets (x0 : (List Int)) : Option (((List Int))) :=
  (D.math_bits_Len (IntKind.u64.wrap (x0.length : Int))).bind fun y_1 => (D.slices_pdqsortCmpFunc_impl_vset__impl_compareSets x0 0 (x0.length : Int) y_1).bind fun y_8 => some y_8

noncomputable def D.impl_cliquesOf (x0 : (List Int)) : Option (((List Int))) :=
  (D.impl_nets_all x0).bind fun y_1 => (D.impl_growCliques x0 0 y_1 0 ([])).bind fun y_11 => (D.slices_SortFunc_impl_vset_impl_vset__impl_compareSets y_11).bind fun y_22 => some y_22

end Go.Sx

namespace Go.Sx

noncomputable def D.spec_l1New (x0 : (List Int)) : Option (((List Int)) × Int × Int) :=
  (loopF (σ := Int × Int) (ρ := (Int)) (fun (s_22 : Int × Int) => match s_22 with | (x_25, x_26) => cond (decide (x_26 < (x0.length : Int))) ((idx x0 x_26).bind fun e_39 => some (.inl ((iand .i64 (IntKind.i64.wrap ((IntKind.i64.wrap ((IntKind.i64.wrap (x_25 * 331)) + (IntKind.i64.wrap e_39))) + 11)) 1073741823), (IntKind.i64.wrap (x_26 + 1))))) (some (.inr x_25))) ((IntKind.i64.wrap (580031 + (x0.length : Int))), 0)).bind fun x_36 => some (x0, 0, x_36)

noncomputable def D.spec_l1Byte (x0_0 : (List Int)) (x0_1 : Int) (x0_2 : Int) : Option (Int × ((List Int)) × Int × Int) :=
  cond (decide (x0_1 < (x0_0.length : Int))) ((idx x0_0 x0_1).bind fun e_8 => some ((iand .i64 (IntKind.i64.wrap ((iand .i64 (ixor .i64 (ishr .i64 (IntKind.i64.wrap ((IntKind.i64.wrap (x0_2 * 6364136223846793005)) + 1442695040888963407)) 33) (ishr .i64 (IntKind.i64.wrap ((IntKind.i64.wrap (x0_2 * 6364136223846793005)) + 1442695040888963407)) 45)) 255) + (IntKind.i64.wrap e_8))) 255), x0_0, (IntKind.i64.wrap (x0_1 + 1)), (IntKind.i64.wrap ((IntKind.i64.wrap (x0_2 * 6364136223846793005)) + 1442695040888963407)))) (some ((iand .i64 (ixor .i64 (ishr .i64 (IntKind.i64.wrap ((IntKind.i64.wrap (x0_2 * 6364136223846793005)) + 1442695040888963407)) 33) (ishr .i64 (IntKind.i64.wrap ((IntKind.i64.wrap (x0_2 * 6364136223846793005)) + 1442695040888963407)) 45)) 255), x0_0, x0_1, (IntKind.i64.wrap ((IntKind.i64.wrap (x0_2 * 6364136223846793005)) + 1442695040888963407))))

noncomputable def D.spec_l1Below (x0_0 : (List Int)) (x0_1 : Int) (x0_2 : Int) (x1 : Int) : Option (Int × ((List Int)) × Int × Int) :=
  cond (decide (x1 ≤ 0)) (some (0, x0_0, x0_1, x0_2)) (cond (decide (x1 ≤ 256)) ((D.spec_l1Byte x0_0 x0_1 x0_2).bind fun y_3 => cond (x1 == 0) none (some ((Int.tmod y_3.1 x1), y_3.2.1, y_3.2.2.1, y_3.2.2.2))) ((D.spec_l1Byte x0_0 x0_1 x0_2).bind fun y_13 => (D.spec_l1Byte y_13.2.1 y_13.2.2.1 y_13.2.2.2).bind fun y_22 => (D.spec_l1Byte y_22.2.1 y_22.2.2.1 y_22.2.2.2).bind fun y_31 => (D.spec_l1Byte y_31.2.1 y_31.2.2.1 y_31.2.2.2).bind fun y_40 => cond (x1 == 0) none (some ((Int.tmod (IntKind.i64.wrap ((IntKind.i64.wrap ((IntKind.i64.wrap ((IntKind.i64.wrap (y_13.1 * 16777216)) + (IntKind.i64.wrap (y_22.1 * 65536)))) + (IntKind.i64.wrap (y_31.1 * 256)))) + y_40.1)) x1), y_40.2.1, y_40.2.2.1, y_40.2.2.2))))

noncomputable def D.spec_l1Once (x0_0 : (List Int)) (x0_1 : Int) (x0_2 : Int) (x1 : Int) : Option (Bool × ((List Int)) × Int × Int) :=
  (D.spec_l1Below x0_0 x0_1 x0_2 x1).bind fun y_1 => some ((y_1.1 == 0), y_1.2.1, y_1.2.2.1, y_1.2.2.2)

noncomputable def D.spec_l1Odd (x0_0 : (List Int)) (x0_1 : Int) (x0_2 : Int) : Option (Int × ((List Int)) × Int × Int) :=
  (D.spec_l1Below x0_0 x0_1 x0_2 10).bind fun y_5 => (idx ([(-1), 0, 1, 2147483648, (-2147483648), 1099511627776, 4611686018427387904, (-4611686018427387904), 9223372036854775807, (-9223372036854775808)] : List Int) y_5.1).bind fun e_14 => some (e_14, y_5.2.1, y_5.2.2.1, y_5.2.2.2)

noncomputable def D.spec_l1Min (x0 : Int) (x1 : Int) : Option (Int) :=
  cond (decide (x0 < x1)) (some x0) (some x1)

noncomputable def D.spec_l1Num (x0_0 : (List Int)) (x0_1 : Int) (x0_2 : Int) (x1 : Int) : Option (Int × ((List Int)) × Int × Int) :=
  (D.spec_l1Once x0_0 x0_1 x0_2 10).bind fun y_1 => cond y_1.1 ((D.spec_l1Odd y_1.2.1 y_1.2.2.1 y_1.2.2.2).bind fun y_11 => (D.spec_l1Below y_11.2.1 y_11.2.2.1 y_11.2.2.2 4).bind fun y_24 => (idx ([(-1), x1, (IntKind.i64.wrap (x1 + 1)), y_11.1] : List Int) y_24.1).bind fun e_33 => some (e_33, y_24.2.1, y_24.2.2.1, y_24.2.2.2)) ((D.spec_l1Once y_1.2.1 y_1.2.2.1 y_1.2.2.2 2).bind fun y_39 => cond y_39.1 ((D.spec_l1Min x1 4).bind fun y_49 => (D.spec_l1Below y_39.2.1 y_39.2.2.1 y_39.2.2.2 (IntKind.i64.wrap (y_49 + 1))).bind fun y_56 => some (y_56.1, y_56.2.1, y_56.2.2.1, y_56.2.2.2)) ((D.spec_l1Below y_39.2.1 y_39.2.2.1 y_39.2.2.2 (IntKind.i64.wrap (x1 + 1))).bind fun y_65 => some (y_65.1, y_65.2.1, y_65.2.2.1, y_65.2.2.2)))

noncomputable def D.spec_l1Into__deep (x0 : (List Int)) (x1 : Int) : Option (((List Int))) :=
  (loopF (σ := Int) (ρ := (Int)) (fun (x_58 : Int) => (cond (decide (x_58 < (x0.length : Int))) ((idx x0 x_58).bind fun e_104 => some (decide (e_104 < x1))) (some false)).bind fun b_102 => cond b_102 (some (.inl (IntKind.i64.wrap (x_58 + 1)))) (some (.inr x_58))) 0).bind fun x_85 => (cond (decide (x_85 < (x0.length : Int))) ((idx x0 x_85).bind fun e_128 => some (e_128 == x1)) (some false)).bind fun b_126 => cond b_126 (some x0) ((sliceD x0 0 x_85).bind fun l_138 => (D.spec_l1Copy l_138).bind fun y_142 => (appendD y_142 ([x1] : List Int)).bind fun l_157 => (sliceD x0 x_85 (x0.length : Int)).bind fun l_163 => (appendD l_157 l_163).bind fun l_167 => some l_167)

noncomputable def D.spec_l1Empty__deep (x0 : Int) : Option (((List (List Int)))) :=
  (loopF (σ := Int × (List (List Int))) (ρ := ((List (List Int)))) (fun (s_50 : Int × (List (List Int))) => match s_50 with | (x_56, l_57) => cond (decide (x_56 < x0)) ((appendD l_57 [([] : List Int)]).bind fun l_94 => some (.inl ((IntKind.i64.wrap (x_56 + 1)), l_94))) (some (.inr l_57))) (0, ([] : List (List Int)))).bind fun l_79 => some l_79

noncomputable def D.spec_l1Link__deep (x0_0 : (List (List Int))) (x1 : Int) (x2 : Int) : Option (((List (List Int)))) :=
  (idx x0_0 x1).bind fun e_8 => (D.spec_l1Into__deep e_8 x2).bind fun y_25 => (idx x0_0 x1).bind fun e_38 => (idx (x0_0.set (Int.toNat x1) y_25) x2).bind fun e_47 => (D.spec_l1Into__deep e_47 x1).bind fun y_64 => (idx (x0_0.set (Int.toNat x1) y_25) x2).bind fun e_77 => some ((x0_0.set (Int.toNat x1) y_25).set (Int.toNat x2) y_64)

noncomputable def D.spec_l6Of__deep (x0 : Int) : Option (((List (List Int))) × Bool) :=
  (D.spec_l1In x0 1 16).bind fun y_3 => cond (!y_3) (some (([] : List (List Int)), false)) ((D.spec_l1Empty__deep x0).bind fun y_16 => some (y_16, true))

noncomputable def D.spec_PathGraph__deep (x0 : Int) : Option (((List (List Int))) × Bool) :=
  (D.spec_l6Of__deep x0).bind fun y_3 => (loopF (σ := Int × (List (List Int))) (ρ := ((List (List Int)))) (fun (s_51 : Int × (List (List Int))) => match s_51 with | (x_54, l_55) => cond ((decide (x_54 < x0)) && y_3.2) ((D.spec_l1Link__deep l_55 (IntKind.i64.wrap (x_54 - 1)) x_54).bind fun y_81 => some (.inl ((IntKind.i64.wrap (x_54 + 1)), y_81))) (some (.inr l_55))) (1, y_3.1)).bind fun l_73 => some (l_73, y_3.2)

noncomputable def D.spec_LoopGraph__deep (x0 : Int) : Option (((List (List Int))) × Bool) :=
  (D.spec_PathGraph__deep x0).bind fun y_3 => cond ((!y_3.2) || (decide (x0 < 3))) (some (([] : List (List Int)), false)) ((D.spec_l1Link__deep y_3.1 0 (IntKind.i64.wrap (x0 - 1))).bind fun y_25 => some (y_25, true))

noncomputable def D.spec_l1DrawOf__deep (x0_0 : (List Int)) (x0_1 : Int) (x0_2 : Int) (x1 : Int) : Option (((List (List Int))) × ((List Int)) × Int × Int) :=
  (D.spec_l1Empty__deep x1).bind fun y_3 => (D.spec_l1Below x0_0 x0_1 x0_2 3).bind fun y_16 => (loopF (σ := Int × (List Int) × Int × Int × (List (List Int))) (ρ := ((List (List Int)) × (List Int) × Int × Int)) (fun (s_275 : Int × (List Int) × Int × Int × (List (List Int))) => match s_275 with | (x_278, l_279, x_282, x_283, l_284) => cond (decide (x_278 < x1)) ((loopF (σ := Int × (List Int) × Int × Int × (List (List Int))) (ρ := ((List Int) × Int × Int × (List (List Int)))) (fun (s_471 : Int × (List Int) × Int × Int × (List (List Int))) => match s_471 with | (x_474, l_475, x_478, x_479, l_480) => cond (decide (x_474 < x_278)) ((D.spec_l1Below l_475 x_478 x_479 4).bind fun y_515 => cond (decide (y_515.1 < (IntKind.i64.wrap (1 + y_16.1)))) ((D.spec_l1Link__deep l_480 x_474 x_278).bind fun y_525 => some (.inl ((IntKind.i64.wrap (x_474 + 1)), y_515.2.1, y_515.2.2.1, y_515.2.2.2, y_525))) (some (.inl ((IntKind.i64.wrap (x_474 + 1)), y_515.2.1, y_515.2.2.1, y_515.2.2.2, l_480)))) (some (.inr (l_475, x_478, x_479, l_480)))) (0, l_279, x_282, x_283, l_284)).bind fun (l_505, x_508, x_509, l_510) => some (.inl ((IntKind.i64.wrap (x_278 + 1)), l_505, x_508, x_509, l_510))) (some (.inr (l_284, l_279, x_282, x_283)))) (1, y_16.2.1, y_16.2.2.1, y_16.2.2.2, y_3)).bind fun (l_407, l_410, x_413, x_414) => some (l_407, l_410, x_413, x_414)

noncomputable def D.spec_l1Draw__deep (x0_0 : (List Int)) (x0_1 : Int) (x0_2 : Int) : Option (((List (List Int))) × ((List Int)) × Int × Int) :=
  (D.spec_l1Below x0_0 x0_1 x0_2 6).bind fun y_3 => cond (y_3.1 == 0) ((D.spec_l1Below y_3.2.1 y_3.2.2.1 y_3.2.2.2 4).bind fun y_13 => (D.spec_LoopGraph__deep (IntKind.i64.wrap (3 + y_13.1))).bind fun y_22 => some (y_22.1, y_13.2.1, y_13.2.2.1, y_13.2.2.2)) (cond (y_3.1 == 1) ((D.spec_l1Below y_3.2.1 y_3.2.2.1 y_3.2.2.2 6).bind fun y_37 => (D.spec_PathGraph__deep (IntKind.i64.wrap (1 + y_37.1))).bind fun y_46 => some (y_46.1, y_37.2.1, y_37.2.2.1, y_37.2.2.2)) ((D.spec_l1Below y_3.2.1 y_3.2.2.1 y_3.2.2.2 7).bind fun y_60 => (D.spec_l1DrawOf__deep y_60.2.1 y_60.2.2.1 y_60.2.2.2 (IntKind.i64.wrap (1 + y_60.1))).bind fun y_69 => some (y_69.1, y_69.2.1, y_69.2.2.1, y_69.2.2.2)))

noncomputable def D.spec_l1DrawAny (x0_0 : (List Int)) (x0_1 : Int) (x0_2 : Int) : Option (((List (List Int))) × ((List Int)) × Int × Int) :=
  (D.spec_l1Draw__deep x0_0 x0_1 x0_2).bind fun y_3 => (D.spec_l1Once y_3.2.1 y_3.2.2.1 y_3.2.2.2 12).bind fun y_18 => cond y_18.1 ((D.spec_l1Below y_18.2.1 y_18.2.2.1 y_18.2.2.2 (y_3.1.length : Int)).bind fun y_28 => (D.spec_l1Below y_28.2.1 y_28.2.2.1 y_28.2.2.2 5).bind fun y_37 => cond (y_37.1 == 0) ((((idx y_3.1 y_28.1).bind fun e_163 => (D.spec_l1Num y_37.2.1 y_37.2.2.1 y_37.2.2.2 16).bind fun y_175 => (appendD e_163 ([y_175.1] : List Int)).bind fun l_199 => (idx y_3.1 y_28.1).bind fun e_207 => some ((y_3.1.set (Int.toNat y_28.1) l_199), y_175.2.1, y_175.2.2.1, y_175.2.2.2) : Option ((List (List Int)) × (List Int) × Int × Int))).bind fun (l_127, l_130, x_133, x_134) => some (l_127, l_130, x_133, x_134)) (cond (y_37.1 == 1) ((idx y_3.1 y_28.1).bind fun e_219 => some ((y_3.1.set (Int.toNat y_28.1) ([y_28.1] : List Int)), y_37.2.1, y_37.2.2.1, y_37.2.2.2)) (cond (y_37.1 == 2) ((D.spec_l1Below y_37.2.1 y_37.2.2.1 y_37.2.2.2 2).bind fun y_227 => (D.spec_l1Empty__deep (IntKind.i64.wrap (16 + y_227.1))).bind fun y_236 => some (y_236, y_227.2.1, y_227.2.2.1, y_227.2.2.2)) (cond (y_37.1 == 3) (some (([] : List (List Int)), y_37.2.1, y_37.2.2.1, y_37.2.2.2)) (cond (y_37.1 == 4) ((idx y_3.1 y_28.1).bind fun e_259 => some ((y_3.1.set (Int.toNat y_28.1) ([] : List Int)), y_37.2.1, y_37.2.2.1, y_37.2.2.2)) (some (y_3.1, y_37.2.1, y_37.2.2.1, y_37.2.2.2))))))) (some (y_3.1, y_18.2.1, y_18.2.2.1, y_18.2.2.2))

noncomputable def D.spec_l1From (x0_0 : (List Int)) (x0_1 : Int) (x0_2 : Int) (x1 : Int) (x2 : Int) : Option (Int × ((List Int)) × Int × Int) :=
  (D.spec_l1Below x0_0 x0_1 x0_2 (IntKind.i64.wrap ((IntKind.i64.wrap (x2 - x1)) + 1))).bind fun y_1 => some ((IntKind.i64.wrap (x1 + y_1.1)), y_1.2.1, y_1.2.2.1, y_1.2.2.2)

noncomputable def D.spec_l1DrawOrder (x0_0 : (List Int)) (x0_1 : Int) (x0_2 : Int) (x1_0 : (List (List Int))) : Option (((List Int)) × ((List Int)) × Int × Int) :=
  (D.spec_l1All (x1_0.length : Int)).bind fun y_3 => (loopF (σ := (List Int) × (List Int) × (List Int) × Int × Int) (ρ := ((List Int) × (List Int) × Int × Int)) (fun (s_162 : (List Int) × (List Int) × (List Int) × Int × Int) => match s_162 with | (l_165, l_170, l_175, x_178, x_179) => cond (decide ((0 : Int) < (l_165.length : Int))) ((D.spec_l1Below l_175 x_178 x_179 (l_165.length : Int)).bind fun y_256 => (idx l_165 y_256.1).bind fun e_265 => (appendD l_170 ([e_265] : List Int)).bind fun l_275 => (sliceD l_165 0 y_256.1).bind fun l_287 => (sliceD l_165 (IntKind.i64.wrap (y_256.1 + 1)) (l_165.length : Int)).bind fun l_291 => (D.spec_l1Copy l_287).bind fun y_298 => (appendD y_298 l_291).bind fun l_311 => some (.inl (l_311, l_275, y_256.2.1, y_256.2.2.1, y_256.2.2.2))) (some (.inr (l_170, l_175, x_178, x_179)))) (y_3, ([] : List Int), x0_0, x0_1, x0_2)).bind fun (l_244, l_249, x_252, x_253) => (D.spec_l1Once l_249 x_252 x_253 15).bind fun y_317 => cond (y_317.1 && (decide ((0 : Int) < (l_244.length : Int)))) ((D.spec_l1Below y_317.2.1 y_317.2.2.1 y_317.2.2.2 (l_244.length : Int)).bind fun y_330 => (D.spec_l1From y_330.2.1 y_330.2.2.1 y_330.2.2.2 (-1) 7).bind fun y_339 => (idx l_244 y_330.1).bind fun e_348 => some ((l_244.set (Int.toNat y_330.1) y_339.1), y_339.2.1, y_339.2.2.1, y_339.2.2.2)) (some (l_244, y_317.2.1, y_317.2.2.1, y_317.2.2.2))

noncomputable def D.impl_SetOk (x0_0 : (List (List Int))) (x1 : (List Int)) : Option (Bool) :=
  (D.impl_GraphOk x0_0).bind fun y_3 => (cond y_3 ((D.impl_increasing x1 (x0_0.length : Int)).bind fun y_29 => some y_29) (some false)).bind fun b_27 => some b_27

end Go.Sx

namespace Go.Sx

noncomputable def D.spec_l7Fill (x0_0 : (List (List Int))) (x1 : (List Int)) : Option (((List (List Int)))) :=
  (D.spec_l1CopyGraph x0_0).bind fun y_5 => (D.spec_l1Size x0_0).bind fun y_18 => (makeD (false : Bool) y_18 y_18).bind fun l_25 => (loopF (σ := (List Bool) × Int × (List (List Int))) (ρ := ((List (List Int)))) (fun (s_149 : (List Bool) × Int × (List (List Int))) => match s_149 with | (l_152, x_155, l_156) => cond (decide (x_155 < (x1.length : Int))) ((idx x1 x_155).bind fun e_219 => (idx l_152 e_219).bind fun e_225 => (idx x1 x_155).bind fun e_231 => (D.spec_l7Left l_156 e_231 (l_152.set (Int.toNat e_219) true)).bind fun y_240 => (D.spec_l7Clique l_156 y_240).bind fun y_262 => some (.inl ((l_152.set (Int.toNat e_219) true), (IntKind.i64.wrap (x_155 + 1)), y_262))) (some (.inr l_156))) (l_25, 0, y_5)).bind fun l_214 => some l_214

noncomputable def D.spec_FillOf (x0_0 : (List (List Int))) (x1 : (List Int)) : Option (((List (List Int))) × Bool) :=
  (D.spec_OrderOk x0_0 x1).bind fun y_5 => cond (!y_5) (some (([] : List (List Int)), false)) ((D.spec_l7Fill x0_0 x1).bind fun y_18 => some (y_18, true))

noncomputable def D.spec_l8Draw (x0_0 : (List Int)) (x0_1 : Int) (x0_2 : Int) : Option (((List (List Int))) × ((List Int)) × Int × Int) :=
  (D.spec_l1DrawAny x0_0 x0_1 x0_2).bind fun y_3 => (D.spec_l1Once y_3.2.1 y_3.2.2.1 y_3.2.2.2 2).bind fun y_18 => cond y_18.1 ((D.spec_l1DrawOrder y_18.2.1 y_18.2.2.1 y_18.2.2.2 y_3.1).bind fun y_150 => (D.spec_FillOf y_3.1 y_150.1).bind fun y_169 => cond y_169.2 (some (y_169.1, y_150.2.1, y_150.2.2.1, y_150.2.2.2)) (some (y_3.1, y_150.2.1, y_150.2.2.1, y_150.2.2.2))) (some (y_3.1, y_18.2.1, y_18.2.2.1, y_18.2.2.2))

noncomputable def D.spec_DrawCliquesOf (x0 : (List Int)) : Option (((List (List Int)))) :=
  (D.spec_l1New x0).bind fun y_3 => (D.spec_l8Draw y_3.1 y_3.2.1 y_3.2.2).bind fun y_14 => some y_14.1

noncomputable def D.impl_CliquesOf (x0_0 : (List (List Int))) : Option (((List (List Int)))) :=
  (D.impl_GraphOk x0_0).bind fun y_3 => cond (!y_3) (some ([] : List (List Int))) ((D.impl_netsOf x0_0).bind fun y_14 => (D.impl_cliquesOf y_14).bind fun y_25 => (D.impl_results y_25).bind fun y_39 => some y_39)

noncomputable def D.spec_l8CliquesR : Nat → ((List (List Int))) → ((List Int)) → ((List Int)) → ((List Int)) → Option (((List (List Int))))
  | 0, _, _, _, _ => none
  | fuel + 1, x0_0, x1, x2, x3 => cond (((x2.length : Int) == 0) && ((x3.length : Int) == 0)) (some ([x1] : List (List Int))) ((loopF (σ := (List (List Int)) × Int) (ρ := ((List (List Int)))) (fun (s_614 : (List (List Int)) × Int) => match s_614 with | (l_617, x_622) => cond (decide (x_622 < (x2.length : Int))) ((idx x2 x_622).bind fun e_926 => (((sliceD x2 (IntKind.i64.wrap (x_622 + 1)) (x2.length : Int)).bind fun l_1087 => (idx x0_0 e_926).bind fun e_1091 => (sliceD x2 0 x_622).bind fun l_1097 => (idx x0_0 e_926).bind fun e_1101 => (D.spec_l1Copy x1).bind fun y_1110 => (appendD y_1110 ([e_926] : List Int)).bind fun l_1131 => (D.spec_l8Meet l_1087 e_1091).bind fun y_1140 => (D.spec_l1Copy x3).bind fun y_1154 => (appendD y_1154 l_1097).bind fun l_1168 => (D.spec_l8Meet l_1168 e_1101).bind fun y_1177 => (D.spec_l8CliquesR fuel x0_0 l_1131 y_1140 y_1177).bind fun y_1202 => some y_1202 : Option ((List (List Int))))).bind fun l_1081 => (appendD l_617 l_1081).bind fun l_1213 => some (.inl (l_1213, (IntKind.i64.wrap (x_622 + 1))))) (some (.inr l_617))) (([] : List (List Int)), 0)).bind fun l_919 => some l_919)

noncomputable def D.spec_l8Cliques (x0_0 : (List (List Int))) (x1 : (List Int)) (x2 : (List Int)) (x3 : (List Int)) : Option (((List (List Int)))) := D.spec_l8CliquesR recFuel x0_0 x1 x2 x3

noncomputable def D.spec_CliquesOf (x0_0 : (List (List Int))) : Option (((List (List Int)))) :=
  (D.spec_GraphOk x0_0).bind fun y_3 => cond (!y_3) (some ([] : List (List Int))) ((((D.spec_l1Size x0_0).bind fun y_83 => (D.spec_l1All y_83).bind fun y_96 => (D.spec_l8Cliques x0_0 ([] : List Int) y_96 ([] : List Int)).bind fun y_126 => some y_126 : Option ((List (List Int))))).bind fun l_77 => some l_77)

noncomputable def D.laws_w5Lists (x0 : (List (List Int))) (x1 : (List (List Int))) : Option (Bool) :=
  cond ((x0.length : Int) != (x1.length : Int)) (some false) ((loopF (σ := Int) (ρ := (Unit) ⊕ (Bool)) (fun (x_49 : Int) => cond (decide (x_49 < (x0.length : Int))) ((idx x0 x_49).bind fun e_73 => (idx x1 x_49).bind fun e_79 => (D.laws_likeInts e_73 e_79).bind fun y_85 => cond (!y_85) (some (.inr (.inr false))) (some (.inl (IntKind.i64.wrap (x_49 + 1))))) (some (.inr (.inl ())))) 0).bind fun zz => match zz with | .inl _ => (some true) | .inr z => (some z))

noncomputable def D.impl_CliqueOk (x0_0 : (List (List Int))) (x1 : (List Int)) : Option (Bool) :=
  (D.impl_SetOk x0_0 x1).bind fun y_3 => (cond y_3 ((D.impl_netsOf x0_0).bind fun y_71 => (D.impl_maskOf x1).bind fun y_82 => (D.impl_missing y_71 y_82).bind fun y_89 => some (y_89 == 0)) (some false)).bind fun b_69 => some b_69

noncomputable def D.laws_w5Both (x0 : (List Int)) (x1 : (List Int)) : Option (((List Int))) :=
  (loopF (σ := (List Int) × Int) (ρ := ((List Int))) (fun (s_926 : (List Int) × Int) => match s_926 with | (l_929, x_934) => cond (decide (x_934 < 16)) ((loopF (σ := Int) (ρ := ((List Int))) (fun (x_1626 : Int) => cond (decide (x_1626 < (IntKind.i64.wrap ((x0.length : Int) + (x1.length : Int))))) ((cond (decide (x_1626 < (x0.length : Int))) ((idx x0 x_1626).bind fun e_1762 => some (e_1762 == x_934)) (some false)).bind fun b_1760 => (cond b_1760 (some true) ((cond (decide ((x0.length : Int) ≤ x_1626)) ((idx x1 (IntKind.i64.wrap (x_1626 - (x0.length : Int)))).bind fun e_1836 => some (e_1836 == x_934)) (some false)).bind fun b_1834 => some b_1834)).bind fun b_1817 => cond b_1817 ((appendD l_929 ([x_934] : List Int)).bind fun l_1847 => some (.inr l_1847)) (some (.inl (IntKind.i64.wrap (x_1626 + 1))))) (some (.inr l_929))) 0).bind fun l_1738 => some (.inl (l_1738, (IntKind.i64.wrap (x_934 + 1))))) (some (.inr l_929))) (([] : List Int), 0)).bind fun l_1392 => some l_1392

noncomputable def D.laws_FnCliques (x0 : (List Int)) : Option (Bool) :=
  (D.laws_big x0).bind fun y_1 => cond y_1 (some true) ((D.spec_DrawCliquesOf x0).bind fun y_9 => (D.impl_CliquesOf y_9).bind fun y_20 => (D.spec_CliquesOf y_9).bind fun y_31 => (D.laws_w5Lists y_20 y_31).bind fun y_42 => cond (!y_42) (some false) ((loopF (σ := (List (List Int)) × Int) (ρ := ((List (List Int))) ⊕ (Bool)) (fun (s_659 : (List (List Int)) × Int) => match s_659 with | (l_665, x_668) => cond (decide (x_668 < (l_665.length : Int))) ((idx l_665 x_668).bind fun e_970 => (D.impl_CliqueOk y_9 e_970).bind fun y_976 => cond (!y_976) (some (.inr (.inr false))) ((loopF (σ := Int) (ρ := (Unit) ⊕ (Bool)) (fun (x_1125 : Int) => cond (decide (x_1125 < (y_9.length : Int))) ((idx l_665 x_668).bind fun e_1197 => (D.laws_w5Both e_1197 ([x_1125] : List Int)).bind fun y_1207 => (idx l_665 x_668).bind fun e_1221 => (cond (decide ((e_1221.length : Int) < (y_1207.length : Int))) ((D.impl_CliqueOk y_9 y_1207).bind fun y_1252 => some y_1252) (some false)).bind fun b_1250 => cond b_1250 (some (.inr (.inr false))) (some (.inl (IntKind.i64.wrap (x_1125 + 1))))) (some (.inr (.inl ())))) 0).bind fun zz => match zz with | .inl _ => (some (.inl (l_665, (IntKind.i64.wrap (x_668 + 1))))) | .inr z => (some (.inr (.inr z))))) (some (.inr (.inl l_665)))) (y_20, 0)).bind fun zz => match zz with | .inl l_965 => ((D.spec_ChordalIn y_9).bind fun y_1263 => some ((!y_1263) || (decide ((l_965.length : Int) ≤ (y_9.length : Int))))) | .inr z => (some z)))
end Go.Sx

/- A row of own rows of which one is out of it, and comes back. Regions whose order is drawn, beside what they write. -/
namespace Go.Sx
section
variable {W w : World} {G : GH} {H : List Itm}
theorem hole_atom {v : Value} {t1 t2 : TypeId} {rows : List (Value × List Value)} {k i : Nat} {h : Itm} (hi : ((parts v t1 t2 rows).eraseIdx k)[i]? = some h) : h.foot = h.foot0 ∧ ∀ w, h.ok w ↔ h.ok0 w := by
  rw [List.getElem?_eraseIdx] at hi
  split at hi
  · exact parts_atom hi
  · exact parts_atom hi
theorem Mem.hole {v : Value} {t1 t2 : TypeId} {rows : List (Value × List Value)} {k : Nat} : Mem W G w (.hole v t1 t2 rows k :: H) ↔ Mem W G w ((parts v t1 t2 rows).eraseIdx (k + 1) ++ H) := by
  refine Mem.group (fun x => ?_) ?_
  · show x ∈ ((parts v t1 t2 rows).eraseIdx (k + 1)).flatMap Itm.foot0 ↔ _
    rw [List.mem_flatMap]
    constructor
    · rintro ⟨h, hh, hx⟩
      obtain ⟨i, hi, he⟩ := List.getElem_of_mem hh
      have hi' : ((parts v t1 t2 rows).eraseIdx (k + 1))[i]? = some h := by rw [List.getElem?_eq_getElem hi, he]
      exact ⟨i, h, hi', by rw [(hole_atom hi').1]; exact hx⟩
    · rintro ⟨i, h, hi, hx⟩
      exact ⟨h, List.mem_of_getElem? hi, by rw [← (hole_atom hi).1]; exact hx⟩
  · constructor
    · rintro ⟨h1, h2⟩
      exact ⟨fun i h hi => ((hole_atom hi).2 w).2 (h1 i h hi), fun i j a b hij ha hb => by rw [(hole_atom ha).1, (hole_atom hb).1]; exact h2 i j a b hij ha hb⟩
    · rintro ⟨h1, h2⟩
      exact ⟨fun i h hi => ((hole_atom hi).2 w).1 (h1 i h hi), fun i j a b hij ha hb => by rw [← (hole_atom ha).1, ← (hole_atom hb).1]; exact h2 i j a b hij ha hb⟩
end

/-- own rows, of which the one at i is elsewhere -/
def OwH {α : Type} (R : Rep α) (t1 t2 : TypeId) (i : Int) (G : GH) (it : Itm) (v : Value) (xs : List (List α)) : Prop :=
  ∃ rows : List (Value × List Value), it = .hole v t1 t2 rows i.toNat ∧ 0 ≤ i ∧ i.toNat < xs.length ∧ rows.length = xs.length ∧ ∀ (k : Nat) (r : Value × List Value) (x : List α), k ≠ i.toNat → rows[k]? = some r → xs[k]? = some x → All2 (R G) r.2 x

section
variable {α : Type} {R : Rep α} {t1 t2 : TypeId} {W w : World} {G : GH} {it : Itm} {H : List Itm} {v c : Value} {xs : List (List α)} {e : List α} {i : Int}
theorem OwH.mono (hR : Mono R) {G' : GH} (hG : GLe G G') (h : OwH R t1 t2 i G it v xs) : OwH R t1 t2 i G' it v xs := by
  obtain ⟨rows, h1, h2, h3, h4, h5⟩ := h
  exact ⟨rows, h1, h2, h3, h4, fun k r x hk hr hx => (h5 k r x hk hr hx).mono (fun v x => hR G G' v x hG)⟩
/-- one of the rows goes out -/
theorem Ow2.out (h : Ow2 R t1 t2 G it v xs) (m : Mem W G w (it :: H)) (hi : idx xs i = some e) (hc : Head it i c) :
    ∃ it' inn, Mem W G w (it' :: inn :: H) ∧ OwH R t1 t2 i G it' v xs ∧ Ow R t2 G inn c e := by
  obtain ⟨rows, rfl, hl, hA⟩ := h
  obtain ⟨v0, s1, s2, rows0, r, e0, hr, rfl⟩ := hc
  cases e0
  obtain ⟨g0, g1, g2⟩ := idx_some hi
  have hlt : i.toNat < rows.length := by omega
  have m2 := Mem.deep.1 m
  have hpl : i.toNat + 1 < (parts v t1 t2 rows).length := by simp [parts]; omega
  have hp : (parts v t1 t2 rows ++ H)[i.toNat + 1]? = some (inner t2 r) := by
    rw [List.getElem?_append_left hpl]; simp [parts, hr]
  have m3 := m2.front (i.toNat + 1) hp
  rw [eraseIdx_append_left' hpl] at m3
  have m4 : Mem W G w ((parts v t1 t2 rows).eraseIdx (i.toNat + 1) ++ (inner t2 r :: H)) := by
    have hll : (((parts v t1 t2 rows).eraseIdx (i.toNat + 1))).length ≤ ((parts v t1 t2 rows).eraseIdx (i.toNat + 1) ++ H).length := by simp
    have := m3.back _ hll
    rwa [List.take_left, List.drop_left] at this
  have hAr := hA _ r e hr g2
  exact ⟨_, _, Mem.hole.2 m4, ⟨rows, rfl, g0, by omega, hl, fun k r x _ hr hx => hA k r x hr hx⟩, ⟨r.2, by simp [inner, hAr.1], hAr⟩⟩
end

section
variable {P : Program} {ops : Array Oper} {rest : List Oper} {n r : Assn} {x : List (Nat × Assn)} {a : Act} {w W : World} {G : GH} {H : List Itm} {N : Nat} {L : Slots}
variable {d : Nat} {t : TypeId} {pos : String} {af : Array Edge} {α : Type} {R : Rep α} {t1 t2 : TypeId} {xs : List (List α)} {v : Value}

theorem heads_hole {v : Value} {rows : List (Value × List Value)} {k : Nat} (m : Mem W G w ((parts v t1 t2 rows).eraseIdx (k + 1) ++ H)) : w.ownsRow 0 t1 1 v rows.length (rows.map (·.1)) := by
  have := m.items 0 (.row v t1 1 rows.length (rows.map (·.1))) (by simp [parts])
  exact this

/-- the place in a row of own rows of which one is out -/
theorem l_ownH_at {it : Itm} {u e bytes : Nat} {z : Value} {xo io : Operand} {k : IntKind} {i ii : Int} {y : List α} (j : Nat) (m : Mem W G w H) (h : OwH R t1 t2 ii G it v xs) (hj : H[j]? = some it)
    (hu : SlT P u e 1 bytes z) (f : Fr a N L) (hN : Nat.blt d N = true) (hx : evalL L xo = some v) (hi : evalL L io = some (.int k i)) (he : idx xs i = some y)
    (q : ∀ p a', OwnAt v p i → Fr a' N ((d, p) :: L) → wpList P ops (Qk n x r) rest a' w) :
    wpList P ops (Qk n x r) (⟨some d, .indexAddr u xo io, t, pos, af, none⟩ :: rest) a w := by
  obtain ⟨g0, g1, _⟩ := idx_some he
  obtain ⟨rows, rfl, _, _, hl, _⟩ := h
  have m2 := Mem.hole.1 (m.front j hj)
  have hr := heads_hole m2
  have hlt : i.toNat < rows.length := by omega
  rcases hr.2 with ⟨_, e2⟩ | ⟨g, cap, cur, e1, _, eh, e2, e3, e4, e5⟩
  · omega
  · subst e1
    refine l_op f rfl rfl hN (r_indexAddr (f.eval hx) (f.eval hi) hu g0 (by omega)) fun a' f' => ?_
    exact q _ a' ⟨g, _, cap, rfl, by rw [addr_add, Nat.mul_one, Nat.zero_add]⟩ f'

/-- an own row is put where one is out -/
theorem l_ownH_store {u : Nat} {dp inn : Itm} {p h : Value} {e : List α} {i : Int} {xo yo : Operand} (m : Mem W G w (dp :: inn :: H)) (hd : OwH R t1 t2 i G dp v xs) (hi : Ow R t2 G inn h e)
    (hz : ∀ w, (sizeOf u).run P w = .ok 1 w) (f : Fr a N L) (hx : evalL L xo = some p) (hy : evalL L yo = some h) (ha : OwnAt v p i)
    (q : ∀ dp' w', Mem W G w' (dp' :: H) → Ow2 R t1 t2 G dp' v (xs.set i.toNat e) → wpList P ops (Qk n x r) rest a w') :
    wpList P ops (Qk n x r) (⟨none, .store u xo yo, t, pos, af, none⟩ :: rest) a w := by
  obtain ⟨rows, rfl, hi0, hil, hl, hA⟩ := hd
  have h1 : h.cells = #[h] := Ow.cells 1 m hi rfl
  have h2 : h.oneCell' = true := Ow.one1 1 m hi rfl
  obtain ⟨vs, rfl, hiA⟩ := inner_of hi
  have m2 := Mem.hole.1 m
  have hro := heads_hole m2
  have g1' : i.toNat < rows.length := by omega
  obtain ⟨b, mm, cc, e1, rfl⟩ := ha
  subst e1
  rcases hro.2 with ⟨hn, _⟩ | ⟨g, cap, cur, e1, _, eh, e2, e3, e4, e5⟩
  · cases hn
  · cases e1
    simp only [Nat.mul_one] at e4 e5
    have hr := r_store (P := P) (ρ := a.eval) (w := w) (d := none) (t := t) (pos := pos) (af := af) (gd := none) (u := u) (off := i.toNat) (f.eval hx) (f.eval hy) (by rw [h1]; exact hz) eh (by rw [h1]; simp; omega) (by rw [h1]; simpa using h2)
    refine l_void rfl rfl hr ?_
    rw [h1]
    simp only [List.size_toArray, List.length_cons, List.length_nil, Nat.zero_add]
    have hset : cur.toList.take i.toNat ++ [h] ++ cur.toList.drop (i.toNat + 1) = cur.toList.set i.toNat h := by
      rw [List.set_eq_take_append_cons_drop, if_pos (by simp; omega)]; simp
    rw [hset]
    -- the inner row to the front of the inner ones
    have m3 := m2.changeAt (h := .row (.slice (some ⟨b, 0, none⟩) rows.length cc) t1 1 rows.length (rows.map (·.1))) (h' := .row (.slice (some ⟨b, 0, none⟩) rows.length cc) t1 1 rows.length ((rows.map (·.1)).set i.toNat h)) (w' := w.setRow b ((cur.toList.set i.toNat h).toArray)) 0 (by simp [parts]) rfl rfl rfl (fun z _ hz' => setRow_other w b z _ (by simpa [Itm.foot, Value.ownBlock] using hz'))
      ⟨by simp, .inr ⟨b, cc, _, rfl, Nat.zero_le _, setRow_heap w b cur _ t1 _ eh, e2, e3, by simp [e4], by simp only [Nat.mul_one]; rw [← e5, List.take_set]⟩⟩ (fun z hz' => .inl hz')
    have e6 : ((parts (.slice (some ⟨b, 0, none⟩) rows.length cc) t1 t2 rows).eraseIdx (i.toNat + 1) ++ inner t2 (h, vs) :: H).set 0 (.row (.slice (some ⟨b, 0, none⟩) rows.length cc) t1 1 rows.length ((rows.map (·.1)).set i.toNat h))
        = (.row (.slice (some ⟨b, 0, none⟩) rows.length cc) t1 1 rows.length ((rows.map (·.1)).set i.toNat h) :: (rows.map (inner t2)).eraseIdx i.toNat) ++ inner t2 (h, vs) :: H := by
      simp [parts]
    rw [e6] at m3
    have m4 := m3.front ((rows.map (inner t2)).eraseIdx i.toNat).length.succ (x := inner t2 (h, vs)) (by rw [List.getElem?_append_right (by simp)]; simp)
    rw [List.eraseIdx_append_of_length_le (by simp)] at m4
    simp only [List.length_cons, Nat.succ_eq_add_one, Nat.sub_self, List.eraseIdx_cons_zero] at m4
    have m5 := m4.back (i.toNat + 1) (by simp [List.length_eraseIdx, g1']; omega)
    have e7 : ((Itm.row (.slice (some ⟨b, 0, none⟩) rows.length cc) t1 1 rows.length ((rows.map (·.1)).set i.toNat h) :: (rows.map (inner t2)).eraseIdx i.toNat) ++ H).take (i.toNat + 1) ++ inner t2 (h, vs) ::
        ((Itm.row (.slice (some ⟨b, 0, none⟩) rows.length cc) t1 1 rows.length ((rows.map (·.1)).set i.toNat h) :: (rows.map (inner t2)).eraseIdx i.toNat) ++ H).drop (i.toNat + 1) = parts (.slice (some ⟨b, 0, none⟩) rows.length cc) t1 t2 (rows.set i.toNat (h, vs)) ++ H := by
      have e8 : (Itm.row (.slice (some ⟨b, 0, none⟩) rows.length cc) t1 1 rows.length ((rows.map (·.1)).set i.toNat h) :: (rows.map (inner t2)).eraseIdx i.toNat) ++ H = ((Itm.row (.slice (some ⟨b, 0, none⟩) rows.length cc) t1 1 rows.length ((rows.map (·.1)).set i.toNat h) :: rows.map (inner t2)) ++ H).eraseIdx (i.toNat + 1) := by
        rw [eraseIdx_append_left' (by simp; omega)]; rfl
      rw [e8, set_eq_erase _ _ _ (by simp; omega), List.set_append, if_pos (by simp; omega)]
      congr 1
      simp [parts, List.map_set]
    rw [e7] at m5
    refine q _ _ (Mem.deep.2 m5) ⟨_, by simp only [List.length_set] at *; first | rfl | (rw [hl]), by simp [hl], fun k r0 x0 hr hx0 => ?_⟩
    rw [List.getElem?_set] at hr hx0
    by_cases hk : i.toNat = k
    · subst hk
      simp [g1'] at hr
      rw [if_pos rfl, if_pos hil] at hx0
      subst hr; cases hx0
      exact hiA
    · rw [if_neg hk] at hr hx0
      exact hA k r0 x0 (fun e => hk e.symm) hr hx0
end

/-- a drawn region that writes some of what is there -/
theorem k_drawE {P : Program} {id : Nat} {l : List Oper} {nn r : Assn} {x : List (Nat × Assn)} {a : Act} {w W : World} {G : GH} (E H : List Itm) (n : Nat) (hm : P.follows .mixedOrders = true) (hb : bodyB l.toArray n [] = true) (m : Mem W G w (E ++ H))
    (h : AnyB W P l.toArray (Qk nn x r) (fun a w => wpList P l.toArray (Qk nn x r) (l.drop n) a w) H n G E (Array.replicate l.length false) a) : (Code.region id l.toArray true).wp P (Qk nn x r) a w := by
  have hn := (bodyB_spec hb).2.1
  refine wp_region_any hm ?_
  have hcl : Cl W G (E ++ H) { w with drawn := w.drawn + 1 } := ⟨G, GLe.refl G, m.congr rfl rfl rfl rfl⟩
  have hzero : ∀ k, (Array.replicate l.length false).getD k true = if k < l.length then false else true := fun k => by
    by_cases hk : k < l.length
    · simp [hk]
    · simp [hk]
  have hun : ∀ k, k ≤ l.length → unl (Array.replicate l.length false) k = k := by
    intro k
    induction k with
    | zero => intro _; rfl
    | succ k ih => intro hk; simp only [unl, ih (by omega), hzero]; rw [if_pos (show k < l.length from by omega)]; rfl
  have L : Lst l.toArray n [] n (Array.replicate l.length false) := ⟨by simp, by simp, hun n (by simpa using hn), fun t _ h2 => by rw [hzero, if_pos (by simpa using h2)], fun j hj hl => by
    rw [hzero, if_pos (by have : n ≤ l.length := by simpa using hn
                          omega)] at hl; cases hl⟩
  have := AnyB.sound (P := P) (W := W) (Q := Qk nn x r) hb (l.toArray.size - n) (T := fun a w => wpList P l.toArray (Qk nn x r) (l.drop n) a w) (fun listed a w L h =>
    tail_list hb (l.toArray.size - n) n listed a w (Nat.le_refl _) rfl hn L.size (unl_zero L.count) L.tail (by simpa using h)) n G E _ a _ L hcl h
  have e : n + (l.toArray.size - n) = l.toArray.size := by omega
  rw [e] at this
  simpa using this
end Go.Sx

namespace Go.Sx


end Go.Sx

namespace Go.Sx


end Go.Sx

namespace Go.Sx


end Go.Sx

namespace Go.Sx


end Go.Sx

namespace Go.Sx


end Go.Sx

namespace Go.Sx


end Go.Sx

namespace Go.Sx


end Go.Sx

namespace Go.Proofs
open Go.Shelf
def Tryd.lays125_ren : Go.Shelf.Ren := ⟨fun | 125 => 84 | 128 => 117 | 129 => 118 | n => n, fun | 46 => 48 | 3 => 3 | 51 => 58 | 53 => 118 | 4 => 4 | 5 => 5 | 9 => 9 | n => n, fun | n => n⟩
theorem Tryd.lays125 : Go.Proofs.Lays.n125 Tryd.prog Tryd.lays125_ren := {
  mixed := by kernel_rfl
  f125 := Tryd.func84.trans (congrArg some (by kernel_rfl))
  f128 := Tryd.func117.trans (congrArg some (by kernel_rfl))
  f129 := Tryd.func118.trans (congrArg some (by kernel_rfl))
  t3 := Tryd.underlying3
  a3 := Tryd.isAgg3
  z3 := Tryd.sizeOf3
  v3 := Tryd.zeroValue3
  t4 := Tryd.underlying4
  a4 := Tryd.isAgg4
  z4 := Tryd.sizeOf4
  v4 := Tryd.zeroValue4
  t5 := Tryd.underlying5
  a5 := Tryd.isAgg5
  z5 := Tryd.sizeOf5
  v5 := Tryd.zeroValue5
  t9 := Tryd.underlying9
  a9 := Tryd.isAgg9
  z9 := Tryd.sizeOf9
  v9 := Tryd.zeroValue9
  t46 := Tryd.underlying48
  a46 := Tryd.isAgg48
  z46 := Tryd.sizeOf48
  v46 := Tryd.zeroValue48
  t51 := Tryd.underlying58
  a51 := Tryd.isAgg58
  z51 := Tryd.sizeOf58
  v51 := Tryd.zeroValue58
  t53 := Tryd.underlying118
  a53 := Tryd.isAgg118
  z53 := Tryd.sizeOf118
  v53 := Tryd.zeroValue118 }
theorem Tryd.bits_Len (x : Int) (w : World) (h0 : 0 ≤ x) (h1 : x ≤ 18446744073709551615) :
    Calls Tryd.prog 84 #[.int .u64 x] w fun e w' => e = .returned (.int .i64 (Lib.bitLen x.toNat)) ∧ w' = w := Any.bits_Len Tryd.lays125 x w h0 h1
end Go.Proofs
namespace Go.Proofs.YtocakchlhemmeaaDoor
open Go Go.Sx
theorem Wk.math_bits_Len {W w : World} {G : GH} {H : List Itm} {x0 : Int} (m : Mem W G w H) {y : Int} (hd : D.math_bits_Len x0 = some y) :
    Calls Tryd.prog 84 #[(.int .u64 x0)] w (Res W G H (fun _ Ho v => Ho = [] ∧ v = (.int .i64 y))) := by
  unfold D.math_bits_Len at hd
  split at hd
  · rename_i h
    obtain rfl := Option.some.inj hd
    exact (Tryd.bits_Len x0 w h.1 h.2).mono (fun e w' ⟨he, hw⟩ => by subst hw; exact ⟨_, he, G, [], GLe.refl G, m, rfl, rfl⟩)
  · cases hd
end Go.Proofs.YtocakchlhemmeaaDoor

namespace Go.Proofs
open Go.RowKit Go.Shelf
attribute [local go_sem] Oper.semAt_some
namespace YtocakchlhemmeaaDoor

def Ints (n₀ : Nat) (W : World) (sv : Value) (zs : List Int) : Prop :=
  ((∃ a c, sv = .slice a 0 c) ∧ zs = []) ∨ ∃ b off cap, sv = .slice (some ⟨b, off, none⟩) zs.length cap ∧ (zs.length = 0 ∨ b < n₀) ∧ ∀ j, j < zs.length → W.cell? ⟨b, off + j, none⟩ = some (.int .i64 (zs[j]?.getD 0))
theorem Ints.below {n₀ : Nat} {A B : World} (h : Below n₀ A B) {sv : Value} {zs : List Int} : Ints n₀ A sv zs → Ints n₀ B sv zs
  | .inl e => .inl e
  | .inr ⟨b, off, cap, e, hb, hc⟩ => .inr ⟨b, off, cap, e, hb, fun j hj => (h.cell (p := ⟨b, off + j, none⟩) (hb.resolve_left (by omega))).trans (hc j hj)⟩

end YtocakchlhemmeaaDoor
end Go.Proofs

set_option maxRecDepth 100000
namespace Go.Proofs.YtocakchlhemmeaaDoor
open Go Go.Sx
theorem Follows : Tryd.prog.follows .mixedOrders = true := by kernel_rfl
theorem Pl2 : Plain Tryd.prog 2 := Tryd.isAgg2
theorem T36 : SlT Tryd.prog 36 2 1 8 (.int .i64 0) := ⟨Tryd.underlying36, Tryd.t2, by kernel_rfl, by kernel_rfl, by kernel_rfl, by kernel_rfl⟩
theorem Pl5 : Plain Tryd.prog 5 := Tryd.isAgg5
theorem Pl129 : Plain Tryd.prog 129 := Tryd.isAgg129
theorem Pl3 : Plain Tryd.prog 3 := Tryd.isAgg3
theorem T74 : SlT Tryd.prog 74 3 1 8 (.int .i64 0) := ⟨Tryd.underlying74, Tryd.t3, by kernel_rfl, by kernel_rfl, by kernel_rfl, by kernel_rfl⟩

theorem Wk.slices_Index_int64_int64 {W w : World} {G : GH} {H : List Itm} {v0 : Value} {x0 : (List Int)} {x1 : Int} (m : Mem W G w (H)) (h0 : RSl (RI .i64) G v0 x0) {y : Int} (hd : D.slices_Index_int64_int64 x0 x1 = some y) :
  Calls Tryd.prog 106 #[v0, (.int .i64 x1)] w (Res W G H (fun _ Ho v => Ho = [] ∧ v = (.int .i64 y))) := by
 refine calls_b (args := [v0, (.int .i64 x1)]) (N := 19) [.tmp 4] Tryd.func106 rfl rfl (Nat.le_of_ble_eq_true rfl) rfl fun a f => ?_
 unfold D.slices_Index_int64_int64 at hd
 refine k_seq (k_region ?_)
 refine l_as f rfl rfl fun a f => ?_
 refine l_nil (k_seq (k_seq (k_region ?_)))
 refine l_mv f rfl rfl fun a f => ?_
 refine l_len Tryd.underlying36 f rfl rfl h0 fun a f => ?_
 refine l_mv f rfl rfl fun a f => ?_
 refine l_nil ?_
 obtain ⟨q_19, hl_20, hd⟩ := bind_some hd
 refine k_cut (fun a w => ∃ q_19' : Unit, q_19 = .inl q_19' ∧ ∃ (G_36 : GH), GLe G G_36 ∧ Fr a 19 [] ∧ Mem W G_36 w (H)) ?_ ?_
 ·refine k_block ?_
  refine k_loop (fun s_23 a w => ∃ x_26 : Int, x_26 = s_23 ∧ ∃ (G_25 : GH), GLe G G_25 ∧ Fr a 19 [(0, v0), (1, (.int .i64 x1)), (7, (.int .i64 (x0.length : Int))), (8, (.int .i64 x_26))] ∧ Mem W G_25 w (H)) hl_20 ⟨_, rfl, _, (GLe.refl _), f.weak ⟨rfl, rfl, rfl, rfl, trivial⟩, m⟩ ?_
  clear hl_20 f m
  rintro s_23 o_24 hs_21 hq_22 a w ⟨x_26, rfl, G_25, hl_27, f, m⟩
  have h0 := RSl.mono (RI.mono _) _ _ _ _ hl_27 h0
  refine k_seq (k_region ?_)
  refine l_in f rfl rfl rfl b_lss fun a f => ?_
  refine l_nil (k_seq ?_)
  rcases cond_some hs_21 with ⟨hc_38, hs_21⟩ | ⟨hc_38, hs_21⟩
  ·refine k_true f rfl hc_38 ?_
   refine k_skip ?_
   refine k_seq (k_block (k_seq (k_region ?_)))
   refine l_mv f rfl rfl fun a f => ?_
   refine l_as f rfl rfl fun a f => ?_
   refine l_nil (k_seq (k_region ?_))
   refine l_mv f rfl rfl fun a f => ?_
   refine l_mv f rfl rfl fun a f => ?_
   refine l_mv f rfl rfl fun a f => ?_
   obtain ⟨e_39, he_40, hs_21⟩ := bind_some hs_21
   refine l_at T36 f rfl rfl rfl h0 he_40 fun p_41 c_42 a g_43 h_44 f => ?_
   subst h_44
   refine l_loadAt m Pl2 f rfl rfl g_43 fun a f => ?_
   refine l_in f rfl rfl rfl b_eql fun a f => ?_
   refine l_nil ?_
   rcases cond_some hs_21 with ⟨hc_45, hs_21⟩ | ⟨hc_45, hs_21⟩
   ·refine k_true f rfl hc_45 ?_
    refine k_seq (k_region ?_)
    refine l_mv f rfl rfl fun a f => ?_
    refine l_as f rfl rfl fun a f => ?_
    refine l_nil ?_
    refine k_ret ?_
    obtain rfl := sj hs_21
    obtain rfl := hq_22 _ rfl
    obtain rfl := sj hd
    exact ⟨[(.int .i64 x_26)], ⟨f.get _ _ rfl, trivial⟩, f.defers, _, [], hl_27, m, rfl, rfl⟩
   ·refine k_false f rfl hc_45 ?_
    refine k_skip ?_
    refine k_region ?_
    refine l_in f rfl rfl rfl b_add fun a f => ?_
    refine l_mv f rfl rfl fun a f => ?_
    refine l_nil ?_
    obtain rfl := sj hs_21
    exact ⟨_, rfl, _, rfl, _, hl_27, f.weak ⟨rfl, rfl, rfl, rfl, trivial⟩, m⟩
  ·refine k_false f rfl hc_38 ?_
   refine k_exit rfl ?_
   obtain rfl := sj hs_21
   obtain rfl := hq_22 _ rfl
   exact ⟨_, rfl, _, hl_27, f.weak trivial, m⟩
 ·rintro a w ⟨_, rfl, G_36, hl_37, f, m⟩
  refine k_seq (k_region ?_)
  refine l_as f rfl rfl fun a f => ?_
  refine l_nil ?_
  refine k_ret ?_
  obtain rfl := sj hd
  exact ⟨[(.int .i64 (-1))], ⟨f.get _ _ rfl, trivial⟩, f.defers, _, [], hl_37, m, rfl, rfl⟩

theorem Wk.slices_Contains_int64_int64 {W w : World} {G : GH} {H : List Itm} {v0 : Value} {x0 : (List Int)} {x1 : Int} (m : Mem W G w (H)) (h0 : RSl (RI .i64) G v0 x0) {y : Bool} (hd : D.slices_Contains_int64_int64 x0 x1 = some y) :
  Calls Tryd.prog 78 #[v0, (.int .i64 x1)] w (Res W G H (fun _ Ho v => Ho = [] ∧ v = (.bool y))) := by
 refine calls_b (args := [v0, (.int .i64 x1)]) (N := 9) [.tmp 4] Tryd.func78 rfl rfl (Nat.le_of_ble_eq_true rfl) rfl fun a f => ?_
 unfold D.slices_Contains_int64_int64 at hd
 refine k_seq (k_region ?_)
 refine l_as f rfl rfl fun a f => ?_
 refine l_nil (k_seq (k_region ?_))
 refine l_mv f rfl rfl fun a f => ?_
 refine l_mv f rfl rfl fun a f => ?_
 obtain ⟨y_1, hy_2, hd⟩ := bind_some hd
 refine l_res f rfl rfl Tryd.call106 (Wk.slices_Index_int64_int64 m h0 hy_2) fun v_6 G_3 Ho_7 w hl_4 m hQ_5 a f => ?_
 obtain ⟨rfl, rfl⟩ := hQ_5
 have h0 := RSl.mono (RI.mono _) _ _ _ _ hl_4 h0
 refine l_in f rfl rfl rfl b_geq fun a f => ?_
 refine l_as f rfl rfl fun a f => ?_
 refine l_nil ?_
 refine k_ret ?_
 obtain rfl := sj hd
 exact ⟨[(.bool (decide ((0 : Int) ≤ y_1)))], ⟨f.get _ _ rfl, trivial⟩, f.defers, _, [], hl_4, m, rfl, rfl⟩

theorem Wk.math_bits_TrailingZeros32 {W w : World} {G : GH} {H : List Itm} {x0 : Int} (hW : TabW W) (m : Mem W G w (H))  {y : Int} (hd : D.math_bits_TrailingZeros32 x0 = some y) :
  Calls Tryd.prog 151 #[(.int .u32 x0)] w (Res W G H (fun _ Ho v => Ho = [] ∧ v = (.int .i64 y))) := by
 refine calls_b (args := [(.int .u32 x0)]) (N := 14) [.tmp 2] Tryd.func151 rfl rfl (Nat.le_of_ble_eq_true rfl) rfl fun a f => ?_
 unfold D.math_bits_TrailingZeros32 at hd
 refine k_seq (k_region ?_)
 refine l_as f rfl rfl fun a f => ?_
 refine l_nil (k_seq (k_seq (k_region ?_)))
 refine l_mv f rfl rfl fun a f => ?_
 refine l_in f rfl rfl rfl b_eql fun a f => ?_
 refine l_nil ?_
 rcases cond_some hd with ⟨hc_1, hd⟩ | ⟨hc_1, hd⟩
 ·refine k_true f rfl hc_1 ?_
  refine k_seq (k_region ?_)
  refine l_as f rfl rfl fun a f => ?_
  refine l_nil ?_
  refine k_ret ?_
  obtain rfl := sj hd
  exact ⟨[(.int .i64 32)], ⟨f.get _ _ rfl, trivial⟩, f.defers, _, [], (GLe.refl _), m, rfl, rfl⟩
 ·refine k_false f rfl hc_1 ?_
  refine k_skip ?_
  refine k_seq (k_region ?_)
  refine l_mv f rfl rfl fun a f => ?_
  refine l_mv f rfl rfl fun a f => ?_
  refine l_op f rfl rfl rfl (r_neg (f.eval rfl)) fun a f => ?_
  refine l_in f rfl rfl rfl b_and fun a f => ?_
  refine l_in f rfl rfl rfl b_mul fun a f => ?_
  refine l_op f rfl rfl rfl (r_shr (f.eval rfl) (f.eval rfl) (by decide)) fun a f => ?_
  obtain ⟨e_3, he_4, hd⟩ := bind_some hd
  refine l_tab hW m Tryd.underlying148 Tryd.sizeOf5 f rfl rfl he_4 fun p_5 a g_6 f => ?_
  refine l_loadAt m Pl5 f rfl rfl g_6 fun a f => ?_
  refine l_op f rfl rfl rfl (r_conv (f.eval rfl) ⟨_, Tryd.underlying5⟩ Tryd.underlying3) fun a f => ?_
  refine l_as f rfl rfl fun a f => ?_
  refine l_nil ?_
  refine k_ret ?_
  obtain rfl := sj hd
  exact ⟨[(.int .i64 (IntKind.i64.wrap e_3))], ⟨f.get _ _ rfl, trivial⟩, f.defers, _, [], (GLe.refl _), m, rfl, rfl⟩

theorem Wk.slices_nextPowerOfTwo {W w : World} {G : GH} {H : List Itm} {x0 : Int} (m : Mem W G w (H))  {y : Int} (hd : D.slices_nextPowerOfTwo x0 = some y) :
  Calls Tryd.prog 134 #[(.int .i64 x0)] w (Res W G H (fun _ Ho v => Ho = [] ∧ v = (.int .u64 y))) := by
 refine calls_b (args := [(.int .i64 x0)]) (N := 7) [.tmp 2] Tryd.func134 rfl rfl (Nat.le_of_ble_eq_true rfl) rfl fun a f => ?_
 unfold D.slices_nextPowerOfTwo at hd
 refine k_seq (k_region ?_)
 refine l_as f rfl rfl fun a f => ?_
 refine l_nil (k_seq (k_region ?_))
 refine l_mv f rfl rfl fun a f => ?_
 refine l_op f rfl rfl rfl (r_conv (f.eval rfl) ⟨_, Tryd.underlying3⟩ Tryd.underlying48) fun a f => ?_
 obtain ⟨y_1, hy_2, hd⟩ := bind_some hd
 refine l_res f rfl rfl Tryd.call84 (Wk.math_bits_Len m  hy_2) fun v_6 G_3 Ho_7 w hl_4 m hQ_5 a f => ?_
 obtain ⟨rfl, rfl⟩ := hQ_5
 obtain ⟨hn_8, hd⟩ := cond_none hd
 refine l_op f rfl rfl rfl (r_shl (f.eval rfl) (f.eval rfl) hn_8) fun a f => ?_
 refine l_as f rfl rfl fun a f => ?_
 refine l_nil ?_
 refine k_ret ?_
 obtain rfl := sj hd
 exact ⟨[(.int .u64 (ishl .u64 1 y_1))], ⟨f.get _ _ rfl, trivial⟩, f.defers, _, [], hl_4, m, rfl, rfl⟩

theorem Wk.slices_xorshift_Next {W w : World} {G : GH} {H : List Itm} {b0 : Nat} {x0_0 : Int} (m : Mem W G w (Itm.box b0 129 [(.int .u64 x0_0)] :: H))  {y : Int × Int} (hd : D.slices_xorshift_Next x0_0 = some y) :
  Calls Tryd.prog 135 #[(.pointer (some ⟨b0, 0, none⟩))] w (Res W G H (fun _ Ho v => Ho = [Itm.box b0 129 [(.int .u64 y.2)]] ∧ v = (.int .u64 y.1))) := by
 refine calls_b (args := [(.pointer (some ⟨b0, 0, none⟩))]) (N := 33) [.tmp 2] Tryd.func135 rfl rfl (Nat.le_of_ble_eq_true rfl) rfl fun a f => ?_
 unfold D.slices_xorshift_Next at hd
 refine k_seq (k_region ?_)
 refine l_as f rfl rfl fun a f => ?_
 refine l_nil (k_seq ?_)
 refine k_draw 9 Follows (by kernel_rfl) m ?_
 refine q_mv 0 9 rfl (by kernel_rfl) f rfl rfl rfl fun a f => ?_
 refine q_p 1 9 rfl (by kernel_rfl) f rfl rfl rfl (fun _ => r_nilCheck (f.eval rfl)) fun a f => ?_
 refine q_boxCell (i := 2) 9 0 Pl129 rfl rfl rfl (by kernel_rfl) rfl f rfl rfl rfl fun a f => ?_
 refine q_mv 3 9 rfl (by kernel_rfl) f rfl rfl rfl fun a f => ?_
 refine q_p 4 9 rfl (by kernel_rfl) f rfl rfl rfl (fun _ => r_nilCheck (f.eval rfl)) fun a f => ?_
 refine q_boxCell (i := 5) 9 0 Pl129 rfl rfl rfl (by kernel_rfl) rfl f rfl rfl rfl fun a f => ?_
 refine q_p 6 9 rfl (by kernel_rfl) f rfl rfl rfl (fun _ => r_shl (f.eval rfl) (f.eval rfl) (by decide)) fun a f => ?_
 refine q_p 7 9 rfl (by kernel_rfl) f rfl rfl rfl (fun _ => r_int (f.eval rfl) (f.eval rfl) b_xor) fun a f => ?_
 refine q_p 8 9 rfl (by kernel_rfl) f rfl rfl rfl (fun _ => r_nilCheck (f.eval rfl)) fun a f => ?_
 refine q_end fun G_2 w hl_3 m => ?_
 refine l_boxStore 0 0 (ds := [(.int .u64 (ixor .u64 x0_0 (ishl .u64 x0_0 13)))]) m Tryd.sizeOf129 f rfl rfl rfl (ones_cons rfl ones_nil) rfl (Nat.le_of_ble_eq_true rfl) rfl fun w m => ?_
 refine l_nil (k_seq ?_)
 refine k_draw 9 Follows (by kernel_rfl) m ?_
 refine q_mv 0 9 rfl (by kernel_rfl) f rfl rfl rfl fun a f => ?_
 refine q_p 1 9 rfl (by kernel_rfl) f rfl rfl rfl (fun _ => r_nilCheck (f.eval rfl)) fun a f => ?_
 refine q_boxCell (i := 2) 9 0 Pl129 rfl rfl rfl (by kernel_rfl) rfl f rfl rfl rfl fun a f => ?_
 refine q_mv 3 9 rfl (by kernel_rfl) f rfl rfl rfl fun a f => ?_
 refine q_p 4 9 rfl (by kernel_rfl) f rfl rfl rfl (fun _ => r_nilCheck (f.eval rfl)) fun a f => ?_
 refine q_boxCell (i := 5) 9 0 Pl129 rfl rfl rfl (by kernel_rfl) rfl f rfl rfl rfl fun a f => ?_
 refine q_p 6 9 rfl (by kernel_rfl) f rfl rfl rfl (fun _ => r_shr (f.eval rfl) (f.eval rfl) (by decide)) fun a f => ?_
 refine q_p 7 9 rfl (by kernel_rfl) f rfl rfl rfl (fun _ => r_int (f.eval rfl) (f.eval rfl) b_xor) fun a f => ?_
 refine q_p 8 9 rfl (by kernel_rfl) f rfl rfl rfl (fun _ => r_nilCheck (f.eval rfl)) fun a f => ?_
 refine q_end fun G_5 w hl_6 m => ?_
 refine l_boxStore 0 0 (ds := [(.int .u64 (ixor .u64 (ixor .u64 x0_0 (ishl .u64 x0_0 13)) (ishr .u64 (ixor .u64 x0_0 (ishl .u64 x0_0 13)) 7)))]) m Tryd.sizeOf129 f rfl rfl rfl (ones_cons rfl ones_nil) rfl (Nat.le_of_ble_eq_true rfl) rfl fun w m => ?_
 refine l_nil (k_seq ?_)
 refine k_draw 9 Follows (by kernel_rfl) m ?_
 refine q_mv 0 9 rfl (by kernel_rfl) f rfl rfl rfl fun a f => ?_
 refine q_p 1 9 rfl (by kernel_rfl) f rfl rfl rfl (fun _ => r_nilCheck (f.eval rfl)) fun a f => ?_
 refine q_boxCell (i := 2) 9 0 Pl129 rfl rfl rfl (by kernel_rfl) rfl f rfl rfl rfl fun a f => ?_
 refine q_mv 3 9 rfl (by kernel_rfl) f rfl rfl rfl fun a f => ?_
 refine q_p 4 9 rfl (by kernel_rfl) f rfl rfl rfl (fun _ => r_nilCheck (f.eval rfl)) fun a f => ?_
 refine q_boxCell (i := 5) 9 0 Pl129 rfl rfl rfl (by kernel_rfl) rfl f rfl rfl rfl fun a f => ?_
 refine q_p 6 9 rfl (by kernel_rfl) f rfl rfl rfl (fun _ => r_shl (f.eval rfl) (f.eval rfl) (by decide)) fun a f => ?_
 refine q_p 7 9 rfl (by kernel_rfl) f rfl rfl rfl (fun _ => r_int (f.eval rfl) (f.eval rfl) b_xor) fun a f => ?_
 refine q_p 8 9 rfl (by kernel_rfl) f rfl rfl rfl (fun _ => r_nilCheck (f.eval rfl)) fun a f => ?_
 refine q_end fun G_8 w hl_9 m => ?_
 refine l_boxStore 0 0 (ds := [(.int .u64 (ixor .u64 (ixor .u64 (ixor .u64 x0_0 (ishl .u64 x0_0 13)) (ishr .u64 (ixor .u64 x0_0 (ishl .u64 x0_0 13)) 7)) (ishl .u64 (ixor .u64 (ixor .u64 x0_0 (ishl .u64 x0_0 13)) (ishr .u64 (ixor .u64 x0_0 (ishl .u64 x0_0 13)) 7)) 17)))]) m Tryd.sizeOf129 f rfl rfl rfl (ones_cons rfl ones_nil) rfl (Nat.le_of_ble_eq_true rfl) rfl fun w m => ?_
 refine l_nil (k_seq (k_region ?_))
 refine l_mv f rfl rfl fun a f => ?_
 refine l_op f rfl rfl rfl (r_nilCheck (f.eval rfl)) fun a f => ?_
 refine l_boxCell 0 0 m Pl129 f rfl rfl rfl rfl fun a f => ?_
 refine l_as f rfl rfl fun a f => ?_
 refine l_nil ?_
 refine k_ret ?_
 obtain rfl := sj hd
 exact ⟨[(.int .u64 (ixor .u64 (ixor .u64 (ixor .u64 x0_0 (ishl .u64 x0_0 13)) (ishr .u64 (ixor .u64 x0_0 (ishl .u64 x0_0 13)) 7)) (ishl .u64 (ixor .u64 (ixor .u64 x0_0 (ishl .u64 x0_0 13)) (ishr .u64 (ixor .u64 x0_0 (ishl .u64 x0_0 13)) 7)) 17)))], ⟨f.get _ _ rfl, trivial⟩, f.defers, _, [Itm.box b0 129 [(.int .u64 (ixor .u64 (ixor .u64 (ixor .u64 x0_0 (ishl .u64 x0_0 13)) (ishr .u64 (ixor .u64 x0_0 (ishl .u64 x0_0 13)) 7)) (ishl .u64 (ixor .u64 (ixor .u64 x0_0 (ishl .u64 x0_0 13)) (ishr .u64 (ixor .u64 x0_0 (ishl .u64 x0_0 13)) 7)) 17)))]], (GLe.trans hl_3 (GLe.trans hl_6 hl_9)), m, rfl, rfl⟩

theorem Wk.cmp_isNaN_int {W w : World} {G : GH} {H : List Itm} {x0 : Int} (m : Mem W G w (H))  {y : Bool} (hd : D.cmp_isNaN_int x0 = some y) :
  Calls Tryd.prog 153 #[(.int .i64 x0)] w (Res W G H (fun _ Ho v => Ho = [] ∧ v = (.bool y))) := by
 refine calls_b (args := [(.int .i64 x0)]) (N := 6) [.tmp 2] Tryd.func153 rfl rfl (Nat.le_of_ble_eq_true rfl) rfl fun a f => ?_
 unfold D.cmp_isNaN_int at hd
 refine k_seq (k_region ?_)
 refine l_as f rfl rfl fun a f => ?_
 refine l_nil (k_seq (k_region ?_))
 refine l_mv f rfl rfl fun a f => ?_
 refine l_mv f rfl rfl fun a f => ?_
 refine l_in f rfl rfl rfl b_neq fun a f => ?_
 refine l_as f rfl rfl fun a f => ?_
 refine l_nil ?_
 refine k_ret ?_
 obtain rfl := sj hd
 exact ⟨[(.bool (x0 != x0))], ⟨f.get _ _ rfl, trivial⟩, f.defers, _, [], (GLe.refl _), m, rfl, rfl⟩

theorem Wk.cmp_Compare_int {W w : World} {G : GH} {H : List Itm} {x0 : Int} {x1 : Int} (m : Mem W G w (H))  {y : Int} (hd : D.cmp_Compare_int x0 x1 = some y) :
  Calls Tryd.prog 132 #[(.int .i64 x0), (.int .i64 x1)] w (Res W G H (fun _ Ho v => Ho = [] ∧ v = (.int .i64 y))) := by
 refine calls_b (args := [(.int .i64 x0), (.int .i64 x1)]) (N := 20) [.tmp 4] Tryd.func132 rfl rfl (Nat.le_of_ble_eq_true rfl) rfl fun a f => ?_
 unfold D.cmp_Compare_int at hd
 refine k_seq (k_region ?_)
 refine l_as f rfl rfl fun a f => ?_
 refine l_nil (k_seq (k_region ?_))
 refine l_mv f rfl rfl fun a f => ?_
 obtain ⟨y_1, hy_2, hd⟩ := bind_some hd
 refine l_res f rfl rfl Tryd.call153 (Wk.cmp_isNaN_int m  hy_2) fun v_6 G_3 Ho_7 w hl_4 m hQ_5 a f => ?_
 obtain ⟨rfl, rfl⟩ := hQ_5
 refine l_as f rfl rfl fun a f => ?_
 refine l_nil (k_seq (k_region ?_))
 refine l_mv f rfl rfl fun a f => ?_
 obtain ⟨y_8, hy_9, hd⟩ := bind_some hd
 refine l_res f rfl rfl Tryd.call153 (Wk.cmp_isNaN_int m  hy_9) fun v_13 G_10 Ho_14 w hl_11 m hQ_12 a f => ?_
 obtain ⟨rfl, rfl⟩ := hQ_12
 refine l_as f rfl rfl fun a f => ?_
 refine l_nil (k_seq (k_seq (k_region ?_)))
 refine l_mv f rfl rfl fun a f => ?_
 refine l_nil ?_
 rcases cond_some hd with ⟨hc_15, hd⟩ | ⟨hc_15, hd⟩
 ·refine k_true f rfl hc_15 ?_
  refine k_seq (k_seq (k_region ?_))
  refine l_mv f rfl rfl fun a f => ?_
  refine l_nil ?_
  rcases cond_some hd with ⟨hc_16, hd⟩ | ⟨hc_16, hd⟩
  ·refine k_true f rfl hc_16 ?_
   refine k_seq (k_region ?_)
   refine l_as f rfl rfl fun a f => ?_
   refine l_nil ?_
   refine k_ret ?_
   obtain rfl := sj hd
   exact ⟨[(.int .i64 0)], ⟨f.get _ _ rfl, trivial⟩, f.defers, _, [], (GLe.trans hl_4 hl_11), m, rfl, rfl⟩
  ·refine k_false f rfl hc_16 ?_
   refine k_skip ?_
   refine k_seq (k_region ?_)
   refine l_as f rfl rfl fun a f => ?_
   refine l_nil ?_
   refine k_ret ?_
   obtain rfl := sj hd
   exact ⟨[(.int .i64 (-1))], ⟨f.get _ _ rfl, trivial⟩, f.defers, _, [], (GLe.trans hl_4 hl_11), m, rfl, rfl⟩
 ·refine k_false f rfl hc_15 ?_
  refine k_skip ?_
  refine k_seq (k_seq (k_region ?_))
  refine l_mv f rfl rfl fun a f => ?_
  refine l_nil ?_
  rcases cond_some hd with ⟨hc_17, hd⟩ | ⟨hc_17, hd⟩
  ·refine k_true f rfl hc_17 ?_
   refine k_seq (k_region ?_)
   refine l_as f rfl rfl fun a f => ?_
   refine l_nil ?_
   refine k_ret ?_
   obtain rfl := sj hd
   exact ⟨[(.int .i64 1)], ⟨f.get _ _ rfl, trivial⟩, f.defers, _, [], (GLe.trans hl_4 hl_11), m, rfl, rfl⟩
  ·refine k_false f rfl hc_17 ?_
   refine k_skip ?_
   refine k_seq (k_seq (k_region ?_))
   refine l_mv f rfl rfl fun a f => ?_
   refine l_mv f rfl rfl fun a f => ?_
   refine l_in f rfl rfl rfl b_lss fun a f => ?_
   refine l_nil ?_
   rcases cond_some hd with ⟨hc_18, hd⟩ | ⟨hc_18, hd⟩
   ·refine k_true f rfl hc_18 ?_
    refine k_seq (k_region ?_)
    refine l_as f rfl rfl fun a f => ?_
    refine l_nil ?_
    refine k_ret ?_
    obtain rfl := sj hd
    exact ⟨[(.int .i64 (-1))], ⟨f.get _ _ rfl, trivial⟩, f.defers, _, [], (GLe.trans hl_4 hl_11), m, rfl, rfl⟩
   ·refine k_false f rfl hc_18 ?_
    refine k_skip ?_
    refine k_seq (k_seq (k_region ?_))
    refine l_mv f rfl rfl fun a f => ?_
    refine l_mv f rfl rfl fun a f => ?_
    refine l_in f rfl rfl rfl b_gtr fun a f => ?_
    refine l_nil ?_
    rcases cond_some hd with ⟨hc_19, hd⟩ | ⟨hc_19, hd⟩
    ·refine k_true f rfl hc_19 ?_
     refine k_seq (k_region ?_)
     refine l_as f rfl rfl fun a f => ?_
     refine l_nil ?_
     refine k_ret ?_
     obtain rfl := sj hd
     exact ⟨[(.int .i64 1)], ⟨f.get _ _ rfl, trivial⟩, f.defers, _, [], (GLe.trans hl_4 hl_11), m, rfl, rfl⟩
    ·refine k_false f rfl hc_19 ?_
     refine k_skip ?_
     refine k_seq (k_region ?_)
     refine l_as f rfl rfl fun a f => ?_
     refine l_nil ?_
     refine k_ret ?_
     obtain rfl := sj hd
     exact ⟨[(.int .i64 0)], ⟨f.get _ _ rfl, trivial⟩, f.defers, _, [], (GLe.trans hl_4 hl_11), m, rfl, rfl⟩

theorem Wk.slices_Compare_int_int {W w : World} {G : GH} {H : List Itm} {v0 : Value} {v1 : Value} {x0 : (List Int)} {x1 : (List Int)} (m : Mem W G w (H)) (h0 : RSl (RI .i64) G v0 x0) (h1 : RSl (RI .i64) G v1 x1) {y : Int} (hd : D.slices_Compare_int_int x0 x1 = some y) :
  Calls Tryd.prog 108 #[v0, v1] w (Res W G H (fun _ Ho v => Ho = [] ∧ v = (.int .i64 y))) := by
 refine calls_b (args := [v0, v1]) (N := 36) [.tmp 4] Tryd.func108 rfl rfl (Nat.le_of_ble_eq_true rfl) rfl fun a f => ?_
 unfold D.slices_Compare_int_int at hd
 refine k_seq (k_region ?_)
 refine l_as f rfl rfl fun a f => ?_
 refine l_nil (k_seq (k_seq (k_region ?_)))
 refine l_mv f rfl rfl fun a f => ?_
 refine l_len Tryd.underlying74 f rfl rfl h0 fun a f => ?_
 refine l_mv f rfl rfl fun a f => ?_
 refine l_nil ?_
 obtain ⟨q_47, hl_48, hd⟩ := bind_some hd
 refine k_cut (fun a w => ∃ q_47' : Unit, q_47 = .inl q_47' ∧ ∃ (G_78 : GH), GLe G G_78 ∧ Fr a 36 [(0, v0), (1, v1)] ∧ Mem W G_78 w (H)) ?_ ?_
 ·refine k_block ?_
  refine k_loop (fun s_51 a w => ∃ x_54 : Int, x_54 = s_51 ∧ ∃ (G_53 : GH), GLe G G_53 ∧ Fr a 36 [(0, v0), (1, v1), (9, v0), (10, (.int .i64 (x0.length : Int))), (11, (.int .i64 x_54))] ∧ Mem W G_53 w (H)) hl_48 ⟨_, rfl, _, (GLe.refl _), f.weak ⟨rfl, rfl, rfl, rfl, rfl, trivial⟩, m⟩ ?_
  clear hl_48 f m
  rintro s_51 o_52 hs_49 hq_50 a w ⟨x_54, rfl, G_53, hl_55, f, m⟩
  have h0 := RSl.mono (RI.mono _) _ _ _ _ hl_55 h0
  have h1 := RSl.mono (RI.mono _) _ _ _ _ hl_55 h1
  refine k_seq (k_region ?_)
  refine l_in f rfl rfl rfl b_lss fun a f => ?_
  refine l_nil (k_seq ?_)
  rcases cond_some hs_49 with ⟨hc_80, hs_49⟩ | ⟨hc_80, hs_49⟩
  ·refine k_true f rfl hc_80 ?_
   refine k_skip ?_
   refine k_seq (k_block (k_seq (k_region ?_)))
   refine l_mv f rfl rfl fun a f => ?_
   obtain ⟨e_81, he_82, hs_49⟩ := bind_some hs_49
   refine l_at T74 f rfl rfl rfl h0 he_82 fun p_83 c_84 a g_85 h_86 f => ?_
   subst h_86
   refine l_loadAt m Pl3 f rfl rfl g_85 fun a f => ?_
   refine l_as f rfl rfl fun a f => ?_
   refine l_as f rfl rfl fun a f => ?_
   refine l_nil (k_seq (k_seq (k_region ?_)))
   refine l_mv f rfl rfl fun a f => ?_
   refine l_mv f rfl rfl fun a f => ?_
   refine l_len Tryd.underlying74 f rfl rfl h1 fun a f => ?_
   refine l_in f rfl rfl rfl b_geq fun a f => ?_
   refine l_nil ?_
   rcases cond_some hs_49 with ⟨hc_87, hs_49⟩ | ⟨hc_87, hs_49⟩
   ·refine k_true f rfl hc_87 ?_
    refine k_seq (k_region ?_)
    refine l_as f rfl rfl fun a f => ?_
    refine l_nil ?_
    refine k_ret ?_
    obtain rfl := sj hs_49
    obtain rfl := hq_50 _ rfl
    obtain rfl := sj hd
    exact ⟨[(.int .i64 1)], ⟨f.get _ _ rfl, trivial⟩, f.defers, _, [], hl_55, m, rfl, rfl⟩
   ·refine k_false f rfl hc_87 ?_
    refine k_skip ?_
    refine k_seq (k_region ?_)
    refine l_mv f rfl rfl fun a f => ?_
    refine l_mv f rfl rfl fun a f => ?_
    obtain ⟨e_88, he_89, hs_49⟩ := bind_some hs_49
    refine l_at T74 f rfl rfl rfl h1 he_89 fun p_90 c_91 a g_92 h_93 f => ?_
    subst h_93
    refine l_loadAt m Pl3 f rfl rfl g_92 fun a f => ?_
    refine l_as f rfl rfl fun a f => ?_
    refine l_nil (k_seq (k_region ?_))
    refine l_mv f rfl rfl fun a f => ?_
    refine l_mv f rfl rfl fun a f => ?_
    obtain ⟨y_94, hy_95, hs_49⟩ := bind_some hs_49
    refine l_res f rfl rfl Tryd.call132 (Wk.cmp_Compare_int m  hy_95) fun v_99 G_96 Ho_100 w hl_97 m hQ_98 a f => ?_
    obtain ⟨rfl, rfl⟩ := hQ_98
    have h0 := RSl.mono (RI.mono _) _ _ _ _ hl_97 h0
    have h1 := RSl.mono (RI.mono _) _ _ _ _ hl_97 h1
    refine l_as f rfl rfl fun a f => ?_
    refine l_nil (k_seq (k_region ?_))
    refine l_mv f rfl rfl fun a f => ?_
    refine l_in f rfl rfl rfl b_neq fun a f => ?_
    refine l_nil ?_
    rcases cond_some hs_49 with ⟨hc_101, hs_49⟩ | ⟨hc_101, hs_49⟩
    ·refine k_true f rfl hc_101 ?_
     refine k_seq (k_region ?_)
     refine l_mv f rfl rfl fun a f => ?_
     refine l_as f rfl rfl fun a f => ?_
     refine l_nil ?_
     refine k_ret ?_
     obtain rfl := sj hs_49
     obtain rfl := hq_50 _ rfl
     obtain rfl := sj hd
     exact ⟨[(.int .i64 y_94)], ⟨f.get _ _ rfl, trivial⟩, f.defers, _, [], (GLe.trans hl_55 hl_97), m, rfl, rfl⟩
    ·refine k_false f rfl hc_101 ?_
     refine k_skip ?_
     refine k_region ?_
     refine l_in f rfl rfl rfl b_add fun a f => ?_
     refine l_mv f rfl rfl fun a f => ?_
     refine l_nil ?_
     obtain rfl := sj hs_49
     exact ⟨_, rfl, _, rfl, _, (GLe.trans hl_55 hl_97), f.weak ⟨rfl, rfl, rfl, rfl, rfl, trivial⟩, m⟩
  ·refine k_false f rfl hc_80 ?_
   refine k_exit rfl ?_
   obtain rfl := sj hs_49
   obtain rfl := hq_50 _ rfl
   exact ⟨_, rfl, _, hl_55, f.weak ⟨rfl, rfl, trivial⟩, m⟩
 ·rintro a w ⟨_, rfl, G_78, hl_79, f, m⟩
  have h0 := RSl.mono (RI.mono _) _ _ _ _ hl_79 h0
  have h1 := RSl.mono (RI.mono _) _ _ _ _ hl_79 h1
  refine k_seq (k_seq (k_region ?_))
  refine l_mv f rfl rfl fun a f => ?_
  refine l_len Tryd.underlying74 f rfl rfl h0 fun a f => ?_
  refine l_mv f rfl rfl fun a f => ?_
  refine l_len Tryd.underlying74 f rfl rfl h1 fun a f => ?_
  refine l_in f rfl rfl rfl b_lss fun a f => ?_
  refine l_nil ?_
  rcases cond_some hd with ⟨hc_102, hd⟩ | ⟨hc_102, hd⟩
  ·refine k_true f rfl hc_102 ?_
   refine k_seq (k_region ?_)
   refine l_as f rfl rfl fun a f => ?_
   refine l_nil ?_
   refine k_ret ?_
   obtain rfl := sj hd
   exact ⟨[(.int .i64 (-1))], ⟨f.get _ _ rfl, trivial⟩, f.defers, _, [], hl_79, m, rfl, rfl⟩
  ·refine k_false f rfl hc_102 ?_
   refine k_skip ?_
   refine k_seq (k_region ?_)
   refine l_as f rfl rfl fun a f => ?_
   refine l_nil ?_
   refine k_ret ?_
   obtain rfl := sj hd
   exact ⟨[(.int .i64 0)], ⟨f.get _ _ rfl, trivial⟩, f.defers, _, [], hl_79, m, rfl, rfl⟩

theorem Wk.math_bits_OnesCount32 {W w : World} {G : GH} {H : List Itm} {x0 : Int} (m : Mem W G w (H))  {y : Int} (hd : D.math_bits_OnesCount32 x0 = some y) :
  Calls Tryd.prog 119 #[(.int .u32 x0)] w (Res W G H (fun _ Ho v => Ho = [] ∧ v = (.int .i64 y))) := by
 refine calls_b (args := [(.int .u32 x0)]) (N := 21) [.tmp 2] Tryd.func119 rfl rfl (Nat.le_of_ble_eq_true rfl) rfl fun a f => ?_
 unfold D.math_bits_OnesCount32 at hd
 refine k_seq (k_region ?_)
 refine l_as f rfl rfl fun a f => ?_
 refine l_nil (k_seq ?_)
 refine k_draw 19 Follows (by kernel_rfl) m ?_
 refine q_mv 0 19 rfl (by kernel_rfl) f rfl rfl rfl fun a f => ?_
 refine q_p 1 19 rfl (by kernel_rfl) f rfl rfl rfl (fun _ => r_shr (f.eval rfl) (f.eval rfl) (by decide)) fun a f => ?_
 obtain ⟨e_2, he_3, hd⟩ := bind_some hd
 refine q_p 2 19 rfl (by kernel_rfl) f rfl rfl rfl (fun _ => r_strAt (f.eval rfl) (f.eval rfl) Tryd.underlying9 he_3) fun a f => ?_
 refine q_mv 3 19 rfl (by kernel_rfl) f rfl rfl rfl fun a f => ?_
 refine q_p 4 19 rfl (by kernel_rfl) f rfl rfl rfl (fun _ => r_shr (f.eval rfl) (f.eval rfl) (by decide)) fun a f => ?_
 refine q_p 5 19 rfl (by kernel_rfl) f rfl rfl rfl (fun _ => r_int (f.eval rfl) (f.eval rfl) b_and) fun a f => ?_
 obtain ⟨e_5, he_6, hd⟩ := bind_some hd
 refine q_p 6 19 rfl (by kernel_rfl) f rfl rfl rfl (fun _ => r_strAt (f.eval rfl) (f.eval rfl) Tryd.underlying9 he_6) fun a f => ?_
 refine q_p 7 19 rfl (by kernel_rfl) f rfl rfl rfl (fun _ => r_int (f.eval rfl) (f.eval rfl) b_add) fun a f => ?_
 refine q_mv 8 19 rfl (by kernel_rfl) f rfl rfl rfl fun a f => ?_
 refine q_p 9 19 rfl (by kernel_rfl) f rfl rfl rfl (fun _ => r_shr (f.eval rfl) (f.eval rfl) (by decide)) fun a f => ?_
 refine q_p 10 19 rfl (by kernel_rfl) f rfl rfl rfl (fun _ => r_int (f.eval rfl) (f.eval rfl) b_and) fun a f => ?_
 obtain ⟨e_8, he_9, hd⟩ := bind_some hd
 refine q_p 11 19 rfl (by kernel_rfl) f rfl rfl rfl (fun _ => r_strAt (f.eval rfl) (f.eval rfl) Tryd.underlying9 he_9) fun a f => ?_
 refine q_p 12 19 rfl (by kernel_rfl) f rfl rfl rfl (fun _ => r_int (f.eval rfl) (f.eval rfl) b_add) fun a f => ?_
 refine q_mv 13 19 rfl (by kernel_rfl) f rfl rfl rfl fun a f => ?_
 refine q_p 14 19 rfl (by kernel_rfl) f rfl rfl rfl (fun _ => r_int (f.eval rfl) (f.eval rfl) b_and) fun a f => ?_
 obtain ⟨e_10, he_11, hd⟩ := bind_some hd
 refine q_p 15 19 rfl (by kernel_rfl) f rfl rfl rfl (fun _ => r_strAt (f.eval rfl) (f.eval rfl) Tryd.underlying9 he_11) fun a f => ?_
 refine q_p 16 19 rfl (by kernel_rfl) f rfl rfl rfl (fun _ => r_int (f.eval rfl) (f.eval rfl) b_add) fun a f => ?_
 refine q_p 17 19 rfl (by kernel_rfl) f rfl rfl rfl (fun _ => r_conv (f.eval rfl) ⟨_, Tryd.underlying5⟩ Tryd.underlying3) fun a f => ?_
 refine q_p 18 19 rfl (by kernel_rfl) f rfl rfl rfl (fun _ => r_assign (f.eval rfl)) fun a f => ?_
 refine q_end fun G_12 w hl_13 m => ?_
 refine l_nil ?_
 refine k_ret ?_
 obtain rfl := sj hd
 exact ⟨[(.int .i64 (IntKind.i64.wrap (IntKind.u8.wrap ((IntKind.u8.wrap ((IntKind.u8.wrap (e_2 + e_5)) + e_8)) + e_10))))], ⟨f.get _ _ rfl, trivial⟩, f.defers, _, [], hl_13, m, rfl, rfl⟩

end Go.Proofs.YtocakchlhemmeaaDoor

set_option maxRecDepth 100000
namespace Go.Proofs.YtocakchlhemmeaaDoor
open Go Go.Sx
theorem Pl36 : Plain Tryd.prog 36 := Tryd.isAgg36
theorem T22 : SlT Tryd.prog 22 36 1 24 (.slice none 0 0) := ⟨Tryd.underlying22, Tryd.t36, by kernel_rfl, by kernel_rfl, by kernel_rfl, by kernel_rfl⟩
theorem Pl22 : Plain Tryd.prog 22 := Tryd.isAgg22
theorem Ag27 : Agg Tryd.prog 27 1 := ⟨Tryd.isAgg27, Tryd.sizeOf27⟩

theorem Wk.spec_l1Size {W w : World} {G : GH} {H : List Itm} {v0_0 : Value} {x0_0 : (List (List Int))} (m : Mem W G w (H)) (h0_0 : RSl (RSl (RI .i64)) G v0_0 x0_0) {y : Int} (hd : D.spec_l1Size x0_0 = some y) :
  Calls Tryd.prog 62 #[(.agg #[v0_0])] w (Res W G H (fun _ Ho v => Ho = [] ∧ v = (.int .i64 y))) := by
 refine calls_b (args := [(.agg #[v0_0])]) (N := 6) [.tmp 2] Tryd.func62 rfl rfl (Nat.le_of_ble_eq_true rfl) rfl fun a f => ?_
 unfold D.spec_l1Size at hd
 refine k_seq (k_region ?_)
 refine l_box (cs := [v0_0]) m f rfl rfl rfl fun b_2 w a m f => ?_
 refine l_as f rfl rfl fun a f => ?_
 refine l_nil (k_seq (k_region ?_))
 refine l_fieldAddr Tryd.underlying27 rfl Tryd.sizeOf22 (by decide) f rfl rfl fun a f => ?_
 refine l_boxCell 0 0 m Pl22 f rfl rfl rfl rfl fun a f => ?_
 refine l_len Tryd.underlying22 f rfl rfl h0_0 fun a f => ?_
 refine l_as f rfl rfl fun a f => ?_
 refine l_nil ?_
 refine k_ret ?_
 have m : Mem W G w H := Mem.drop (H' := [Itm.box b_2 27 [v0_0]]) m
 obtain rfl := sj hd
 exact ⟨[(.int .i64 (x0_0.length : Int))], ⟨f.get _ _ rfl, trivial⟩, f.defers, _, [], (GLe.refl _), m, rfl, rfl⟩

theorem Wk.spec_l1In {W w : World} {G : GH} {H : List Itm} {x0 : Int} {x1 : Int} {x2 : Int} (m : Mem W G w (H))  {y : Bool} (hd : D.spec_l1In x0 x1 x2 = some y) :
  Calls Tryd.prog 63 #[(.int .i64 x0), (.int .i64 x1), (.int .i64 x2)] w (Res W G H (fun _ Ho v => Ho = [] ∧ v = (.bool y))) := by
 refine calls_b (args := [(.int .i64 x0), (.int .i64 x1), (.int .i64 x2)]) (N := 15) [.tmp 6] Tryd.func63 rfl rfl (Nat.le_of_ble_eq_true rfl) rfl fun a f => ?_
 unfold D.spec_l1In at hd
 refine k_seq (k_region ?_)
 refine l_as f rfl rfl fun a f => ?_
 refine l_nil (k_seq (k_region ?_))
 refine l_mv f rfl rfl fun a f => ?_
 refine l_mv f rfl rfl fun a f => ?_
 refine l_in f rfl rfl rfl b_geq fun a f => ?_
 refine l_mv f rfl rfl fun a f => ?_
 refine l_cut 4 (fun a w => ∃ G_2, GLe G G_2 ∧ Mem W G_2 w (H) ∧ Fr a 15 [(0, (.int .i64 x0)), (1, (.int .i64 x1)), (2, (.int .i64 x2)), (7, (.int .i64 x0)), (8, (.int .i64 x1)), (9, (.bool (decide (x1 ≤ x0)))), (10, (.bool (decide (x1 ≤ x0)))), (14, (.bool ((decide (x1 ≤ x0)) && (decide (x0 ≤ x2)))))]) ?_ ?_
 ·rcases Bool.eq_false_or_eq_true (decide (x1 ≤ x0)) with hc_1 | hc_1
  ·refine l_run f rfl rfl hc_1 ?_
   refine l_mv f rfl rfl fun a f => ?_
   refine l_run f rfl rfl hc_1 ?_
   refine l_mv f rfl rfl fun a f => ?_
   refine l_run f rfl rfl hc_1 ?_
   refine l_in f rfl rfl rfl b_leq fun a f => ?_
   refine l_op f rfl rfl rfl (r_pickT (f.eval rfl) hc_1 (f.eval rfl)) fun a f => ?_
   exact ⟨_, (GLe.refl _), m, f.weak ⟨rfl, rfl, rfl, rfl, rfl, rfl, rfl, by rw [hc_1]; rfl, trivial⟩⟩
  ·refine l_not' f rfl rfl rfl hc_1 fun a f => ?_
   refine l_not' f rfl rfl rfl hc_1 fun a f => ?_
   refine l_not' f rfl rfl rfl hc_1 fun a f => ?_
   refine l_op f rfl rfl rfl (r_pickF (f.eval rfl) hc_1 (f.eval rfl)) fun a f => ?_
   exact ⟨_, (GLe.refl _), m, f.weak ⟨rfl, rfl, rfl, rfl, rfl, rfl, rfl, by rw [hc_1]; rfl, trivial⟩⟩
 ·rintro a w ⟨G_2, hl_3, m, f⟩
  refine l_as f rfl rfl fun a f => ?_
  refine l_nil ?_
  refine k_ret ?_
  obtain rfl := sj hd
  exact ⟨[(.bool ((decide (x1 ≤ x0)) && (decide (x0 ≤ x2))))], ⟨f.get _ _ rfl, trivial⟩, f.defers, _, [], hl_3, m, rfl, rfl⟩

theorem Wk.spec_l1Set {W w : World} {G : GH} {H : List Itm} {v0 : Value} {x0 : (List Int)} {x1 : Int} (m : Mem W G w (H)) (h0 : RSl (RI .i64) G v0 x0) {y : Bool} (hd : D.spec_l1Set x0 x1 = some y) :
  Calls Tryd.prog 61 #[v0, (.int .i64 x1)] w (Res W G H (fun _ Ho v => Ho = [] ∧ v = (.bool y))) := by
 refine calls_b (args := [v0, (.int .i64 x1)]) (N := 40) [.tmp 4] Tryd.func61 rfl rfl (Nat.le_of_ble_eq_true rfl) rfl fun a f => ?_
 unfold D.spec_l1Set at hd
 refine k_seq (k_region ?_)
 refine l_as f rfl rfl fun a f => ?_
 refine l_nil (k_seq (k_seq (k_region ?_)))
 refine l_mv f rfl rfl fun a f => ?_
 refine l_len Tryd.underlying36 f rfl rfl h0 fun a f => ?_
 refine l_mv f rfl rfl fun a f => ?_
 refine l_in f rfl rfl rfl b_gtr fun a f => ?_
 refine l_nil ?_
 rcases cond_some hd with ⟨hc_1, hd⟩ | ⟨hc_1, hd⟩
 ·refine k_true f rfl hc_1 ?_
  refine k_seq (k_region ?_)
  refine l_as f rfl rfl fun a f => ?_
  refine l_nil ?_
  refine k_ret ?_
  obtain rfl := sj hd
  exact ⟨[(.bool false)], ⟨f.get _ _ rfl, trivial⟩, f.defers, _, [], (GLe.refl _), m, rfl, rfl⟩
 ·refine k_false f rfl hc_1 ?_
  refine k_skip ?_
  refine k_seq (k_seq (k_region ?_))
  refine l_as f rfl rfl fun a f => ?_
  refine l_nil ?_
  obtain ⟨q_150, hl_151, hd⟩ := bind_some hd
  refine k_cut (fun a w => ∃ q_150' : Unit, q_150 = .inl q_150' ∧ ∃ (G_232 : GH), GLe G G_232 ∧ Fr a 40 [] ∧ Mem W G_232 w (H)) ?_ ?_
  ·refine k_block ?_
   refine k_loop (fun s_154 a w => ∃ x_157 : Int, x_157 = s_154 ∧ ∃ (G_156 : GH), GLe G G_156 ∧ Fr a 40 [(0, v0), (1, (.int .i64 x1)), (5, (.int .i64 x_157))] ∧ Mem W G_156 w (H)) hl_151 ⟨_, rfl, _, (GLe.refl _), f.weak ⟨rfl, rfl, rfl, trivial⟩, m⟩ ?_
   clear hl_151 f m
   rintro s_154 o_155 hs_152 hq_153 a w ⟨x_157, rfl, G_156, hl_158, f, m⟩
   have h0 := RSl.mono (RI.mono _) _ _ _ _ hl_158 h0
   refine k_seq (k_seq (k_region ?_))
   refine l_mv f rfl rfl fun a f => ?_
   refine l_mv f rfl rfl fun a f => ?_
   refine l_len Tryd.underlying36 f rfl rfl h0 fun a f => ?_
   refine l_in f rfl rfl rfl b_lss fun a f => ?_
   refine l_nil ?_
   rcases cond_some hs_152 with ⟨hc_234, hs_152⟩ | ⟨hc_234, hs_152⟩
   ·refine k_true f rfl hc_234 ?_
    refine k_skip ?_
    refine k_seq (k_block (k_seq ?_))
    refine k_draw 24 Follows (by kernel_rfl) m ?_
    refine q_mv 0 24 rfl (by kernel_rfl) f rfl rfl rfl fun a f => ?_
    refine q_mv 1 24 rfl (by kernel_rfl) f rfl rfl rfl fun a f => ?_
    obtain ⟨e_235, he_236, hs_152⟩ := bind_some hs_152
    refine q_at (i := 2) 24 T36 h0 he_236 rfl (by kernel_rfl) rfl f rfl rfl rfl rfl fun p_237 c_238 a g_239 h_240 f => ?_
    subst h_240
    refine q_loadAt (i := 3) 24 Pl2 g_239 rfl (by kernel_rfl) rfl f rfl rfl rfl fun a f => ?_
    refine q_mv 4 24 rfl (by kernel_rfl) f rfl rfl rfl fun a f => ?_
    refine q_p 5 24 rfl (by kernel_rfl) f rfl rfl rfl (fun _ => r_int (f.eval rfl) (f.eval rfl) b_sub) fun a f => ?_
    obtain ⟨y_241, hy_242, hs_152⟩ := bind_some hs_152
    refine q_call (i := 6) 24 rfl (by kernel_rfl) rfl f rfl rfl rfl Tryd.call63 (fun _ _ w hG_243 m => Wk.spec_l1In m  hy_242) fun a f => ?_
    refine q_p 7 24 rfl (by kernel_rfl) f rfl rfl rfl (fun _ => r_not (f.eval rfl)) fun a f => ?_
    refine q_mv 8 24 rfl (by kernel_rfl) f rfl rfl rfl fun a f => ?_
    obtain ⟨b_274, hj_275, hs_152⟩ := bind_some hs_152
    refine q_cut (fuel' := 0) (listed' := #[true, true, true, true, true, true, true, true, true, true, true, true, true, true, true, true, true, true, true, true, true, true, true, true]) (fun a => Fr a 40 [(0, v0), (1, (.int .i64 x1)), (5, (.int .i64 x_157)), (13, (.bool (decide (x_157 < (x0.length : Int))))), (16, v0), (17, (.int .i64 x_157)), (18, p_237), (19, (.int .i64 e_235)), (20, (.int .i64 x1)), (21, (.int .i64 (IntKind.i64.wrap (x1 - 1)))), (22, (.bool y_241)), (23, (.bool (!y_241))), (24, (.bool (!y_241))), (39, (.bool b_274))]) ?_ ?_
    ·intro a f
     refine q_end fun G_304 w hl_305 m => ?_
     have h0 := RSl.mono (RI.mono _) _ _ _ _ hl_305 h0
     have g_239 := At.mono hl_305 g_239
     refine l_nil ?_
     rcases cond_some hs_152 with ⟨hc_306, hs_152⟩ | ⟨hc_306, hs_152⟩
     ·refine k_true f rfl hc_306 ?_
      refine k_seq (k_region ?_)
      refine l_as f rfl rfl fun a f => ?_
      refine l_nil ?_
      refine k_ret ?_
      obtain rfl := sj hs_152
      obtain rfl := hq_153 _ rfl
      obtain rfl := sj hd
      exact ⟨[(.bool false)], ⟨f.get _ _ rfl, trivial⟩, f.defers, _, [], (GLe.trans hl_158 hl_305), m, rfl, rfl⟩
     ·refine k_false f rfl hc_306 ?_
      refine k_skip ?_
      refine k_region ?_
      refine l_mv f rfl rfl fun a f => ?_
      refine l_in f rfl rfl rfl b_add fun a f => ?_
      refine l_as f rfl rfl fun a f => ?_
      refine l_nil ?_
      obtain rfl := sj hs_152
      exact ⟨_, rfl, _, rfl, _, (GLe.trans hl_158 hl_305), f.weak ⟨rfl, rfl, rfl, trivial⟩, m⟩
    ·intro K_273
     rcases cond_some hj_275 with ⟨hc_244, hj_275⟩ | ⟨hc_244, hj_275⟩
     ·refine q_ng 9 24 rfl (by kernel_rfl) f rfl rfl hc_244 rfl fun a f => ?_
      refine q_ng 10 24 rfl (by kernel_rfl) f rfl rfl hc_244 rfl fun a f => ?_
      refine q_ng 11 24 rfl (by kernel_rfl) f rfl rfl hc_244 rfl fun a f => ?_
      refine q_nu 12 24 rfl (by kernel_rfl) f rfl rfl rfl fun a f => ?_
      refine q_nu 13 24 rfl (by kernel_rfl) f rfl rfl rfl fun a f => ?_
      refine q_nu 14 24 rfl (by kernel_rfl) f rfl rfl rfl fun a f => ?_
      refine q_nu 15 24 rfl (by kernel_rfl) f rfl rfl rfl fun a f => ?_
      refine q_nu 16 24 rfl (by kernel_rfl) f rfl rfl rfl fun a f => ?_
      refine q_nu 17 24 rfl (by kernel_rfl) f rfl rfl rfl fun a f => ?_
      refine q_nu 18 24 rfl (by kernel_rfl) f rfl rfl rfl fun a f => ?_
      refine q_nu 19 24 rfl (by kernel_rfl) f rfl rfl rfl fun a f => ?_
      refine q_nu 20 24 rfl (by kernel_rfl) f rfl rfl rfl fun a f => ?_
      refine q_nu 21 24 rfl (by kernel_rfl) f rfl rfl rfl fun a f => ?_
      refine q_ng 22 24 rfl (by kernel_rfl) f rfl rfl hc_244 rfl fun a f => ?_
      refine q_p 23 24 rfl (by kernel_rfl) f rfl rfl rfl (fun _ => r_pickT (f.eval rfl) hc_244 (f.eval rfl)) fun a f => ?_
      obtain rfl := sj hj_275
      exact K_273 _ (f.weak ⟨rfl, rfl, rfl, rfl, rfl, rfl, rfl, rfl, rfl, rfl, rfl, rfl, rfl, rfl, trivial⟩)
     ·refine q_mv 9 24 rfl (by kernel_rfl) f (wanted_of f rfl rfl rfl hc_244) rfl rfl fun a f => ?_
      refine q_p 10 24 rfl (by kernel_rfl) f (wanted_of f rfl rfl rfl hc_244) rfl rfl (fun _ => r_int (f.eval rfl) (f.eval rfl) b_gtr) fun a f => ?_
      refine q_mv 11 24 rfl (by kernel_rfl) f (wanted_of f rfl rfl rfl hc_244) rfl rfl fun a f => ?_
      obtain ⟨b_290, hj_291, hj_275⟩ := bind_some hj_275
      refine q_cut (fuel' := 1) (listed' := #[true, true, true, true, true, true, true, true, true, true, true, true, true, true, true, true, true, true, true, true, true, true, true, false]) (fun a => Fr a 40 [(0, v0), (1, (.int .i64 x1)), (5, (.int .i64 x_157)), (13, (.bool (decide (x_157 < (x0.length : Int))))), (16, v0), (17, (.int .i64 x_157)), (18, p_237), (19, (.int .i64 e_235)), (20, (.int .i64 x1)), (21, (.int .i64 (IntKind.i64.wrap (x1 - 1)))), (22, (.bool y_241)), (23, (.bool (!y_241))), (24, (.bool (!y_241))), (25, (.int .i64 x_157)), (26, (.bool (decide ((0 : Int) < x_157)))), (27, (.bool (decide ((0 : Int) < x_157)))), (38, (.bool b_290))]) ?_ ?_
      ·intro a f
       refine q_p 23 24 rfl (by kernel_rfl) f rfl rfl rfl (fun _ => r_pickF (f.eval rfl) hc_244 (f.eval rfl)) fun a f => ?_
       obtain rfl := sj hj_275
       exact K_273 _ (f.weak ⟨rfl, rfl, rfl, rfl, rfl, rfl, rfl, rfl, rfl, rfl, rfl, rfl, rfl, rfl, trivial⟩)
      ·intro K_289
       rcases cond_some hj_291 with ⟨hc_276, hj_291⟩ | ⟨hc_276, hj_291⟩
       ·refine q_mv 12 24 rfl (by kernel_rfl) f (wanted_of f rfl rfl rfl hc_276) rfl rfl fun a f => ?_
        refine q_mv 13 24 rfl (by kernel_rfl) f (wanted_of f rfl rfl rfl hc_276) rfl rfl fun a f => ?_
        obtain ⟨e_292, he_293, hj_291⟩ := bind_some hj_291
        refine q_at (i := 14) 24 T36 h0 he_293 rfl (by kernel_rfl) rfl f (wanted_of f rfl rfl rfl hc_276) rfl rfl rfl fun p_294 c_295 a g_296 h_297 f => ?_
        subst h_297
        refine q_loadAt (i := 15) 24 Pl2 g_296 rfl (by kernel_rfl) rfl f (wanted_of f rfl rfl rfl hc_276) rfl rfl fun a f => ?_
        refine q_mv 16 24 rfl (by kernel_rfl) f (wanted_of f rfl rfl rfl hc_276) rfl rfl fun a f => ?_
        refine q_mv 17 24 rfl (by kernel_rfl) f (wanted_of f rfl rfl rfl hc_276) rfl rfl fun a f => ?_
        refine q_p 18 24 rfl (by kernel_rfl) f (wanted_of f rfl rfl rfl hc_276) rfl rfl (fun _ => r_int (f.eval rfl) (f.eval rfl) b_sub) fun a f => ?_
        obtain ⟨e_298, he_299, hj_291⟩ := bind_some hj_291
        refine q_at (i := 19) 24 T36 h0 he_299 rfl (by kernel_rfl) rfl f (wanted_of f rfl rfl rfl hc_276) rfl rfl rfl fun p_300 c_301 a g_302 h_303 f => ?_
        subst h_303
        refine q_loadAt (i := 20) 24 Pl2 g_302 rfl (by kernel_rfl) rfl f (wanted_of f rfl rfl rfl hc_276) rfl rfl fun a f => ?_
        refine q_p 21 24 rfl (by kernel_rfl) f (wanted_of f rfl rfl rfl hc_276) rfl rfl (fun _ => r_int (f.eval rfl) (f.eval rfl) b_leq) fun a f => ?_
        refine q_p 22 24 rfl (by kernel_rfl) f (wanted_of f rfl rfl rfl hc_244) rfl rfl (fun _ => r_pickT (f.eval rfl) hc_276 (f.eval rfl)) fun a f => ?_
        obtain rfl := sj hj_291
        exact K_289 _ (f.weak ⟨rfl, rfl, rfl, rfl, rfl, rfl, rfl, rfl, rfl, rfl, rfl, rfl, rfl, rfl, rfl, rfl, rfl, trivial⟩)
       ·refine q_ng 12 24 rfl (by kernel_rfl) f rfl rfl hc_276 rfl fun a f => ?_
        refine q_ng 13 24 rfl (by kernel_rfl) f rfl rfl hc_276 rfl fun a f => ?_
        refine q_ng 14 24 rfl (by kernel_rfl) f rfl rfl hc_276 rfl fun a f => ?_
        refine q_ng 15 24 rfl (by kernel_rfl) f rfl rfl hc_276 rfl fun a f => ?_
        refine q_ng 16 24 rfl (by kernel_rfl) f rfl rfl hc_276 rfl fun a f => ?_
        refine q_ng 17 24 rfl (by kernel_rfl) f rfl rfl hc_276 rfl fun a f => ?_
        refine q_ng 18 24 rfl (by kernel_rfl) f rfl rfl hc_276 rfl fun a f => ?_
        refine q_ng 19 24 rfl (by kernel_rfl) f rfl rfl hc_276 rfl fun a f => ?_
        refine q_ng 20 24 rfl (by kernel_rfl) f rfl rfl hc_276 rfl fun a f => ?_
        refine q_ng 21 24 rfl (by kernel_rfl) f rfl rfl hc_276 rfl fun a f => ?_
        refine q_p 22 24 rfl (by kernel_rfl) f (wanted_of f rfl rfl rfl hc_244) rfl rfl (fun _ => r_pickF (f.eval rfl) hc_276 (f.eval rfl)) fun a f => ?_
        obtain rfl := sj hj_291
        exact K_289 _ (f.weak ⟨rfl, rfl, rfl, rfl, rfl, rfl, rfl, rfl, rfl, rfl, rfl, rfl, rfl, rfl, rfl, rfl, rfl, trivial⟩)
   ·refine k_false f rfl hc_234 ?_
    refine k_exit rfl ?_
    obtain rfl := sj hs_152
    obtain rfl := hq_153 _ rfl
    exact ⟨_, rfl, _, hl_158, f.weak trivial, m⟩
  ·rintro a w ⟨_, rfl, G_232, hl_233, f, m⟩
   refine k_seq (k_region ?_)
   refine l_as f rfl rfl fun a f => ?_
   refine l_nil ?_
   refine k_ret ?_
   obtain rfl := sj hd
   exact ⟨[(.bool true)], ⟨f.get _ _ rfl, trivial⟩, f.defers, _, [], hl_233, m, rfl, rfl⟩

theorem Wk.spec_l1Has {W w : World} {G : GH} {H : List Itm} {v0 : Value} {x0 : (List Int)} {x1 : Int} (m : Mem W G w (H)) (h0 : RSl (RI .i64) G v0 x0) {y : Bool} (hd : D.spec_l1Has x0 x1 = some y) :
  Calls Tryd.prog 64 #[v0, (.int .i64 x1)] w (Res W G H (fun _ Ho v => Ho = [] ∧ v = (.bool y))) := by
 refine calls_b (args := [v0, (.int .i64 x1)]) (N := 18) [.tmp 4] Tryd.func64 rfl rfl (Nat.le_of_ble_eq_true rfl) rfl fun a f => ?_
 unfold D.spec_l1Has at hd
 refine k_seq (k_region ?_)
 refine l_as f rfl rfl fun a f => ?_
 refine l_nil (k_seq (k_seq (k_region ?_)))
 refine l_as f rfl rfl fun a f => ?_
 refine l_nil ?_
 obtain ⟨q_19, hl_20, hd⟩ := bind_some hd
 refine k_cut (fun a w => ∃ q_19' : Unit, q_19 = .inl q_19' ∧ ∃ (G_36 : GH), GLe G G_36 ∧ Fr a 18 [] ∧ Mem W G_36 w (H)) ?_ ?_
 ·refine k_block ?_
  refine k_loop (fun s_23 a w => ∃ x_26 : Int, x_26 = s_23 ∧ ∃ (G_25 : GH), GLe G G_25 ∧ Fr a 18 [(0, v0), (1, (.int .i64 x1)), (5, (.int .i64 x_26))] ∧ Mem W G_25 w (H)) hl_20 ⟨_, rfl, _, (GLe.refl _), f.weak ⟨rfl, rfl, rfl, trivial⟩, m⟩ ?_
  clear hl_20 f m
  rintro s_23 o_24 hs_21 hq_22 a w ⟨x_26, rfl, G_25, hl_27, f, m⟩
  have h0 := RSl.mono (RI.mono _) _ _ _ _ hl_27 h0
  refine k_seq (k_seq (k_region ?_))
  refine l_mv f rfl rfl fun a f => ?_
  refine l_mv f rfl rfl fun a f => ?_
  refine l_len Tryd.underlying36 f rfl rfl h0 fun a f => ?_
  refine l_in f rfl rfl rfl b_lss fun a f => ?_
  refine l_nil ?_
  rcases cond_some hs_21 with ⟨hc_38, hs_21⟩ | ⟨hc_38, hs_21⟩
  ·refine k_true f rfl hc_38 ?_
   refine k_skip ?_
   refine k_seq (k_block (k_seq (k_region ?_)))
   refine l_mv f rfl rfl fun a f => ?_
   refine l_mv f rfl rfl fun a f => ?_
   obtain ⟨e_39, he_40, hs_21⟩ := bind_some hs_21
   refine l_at T36 f rfl rfl rfl h0 he_40 fun p_41 c_42 a g_43 h_44 f => ?_
   subst h_44
   refine l_loadAt m Pl2 f rfl rfl g_43 fun a f => ?_
   refine l_mv f rfl rfl fun a f => ?_
   refine l_in f rfl rfl rfl b_eql fun a f => ?_
   refine l_nil ?_
   rcases cond_some hs_21 with ⟨hc_45, hs_21⟩ | ⟨hc_45, hs_21⟩
   ·refine k_true f rfl hc_45 ?_
    refine k_seq (k_region ?_)
    refine l_as f rfl rfl fun a f => ?_
    refine l_nil ?_
    refine k_ret ?_
    obtain rfl := sj hs_21
    obtain rfl := hq_22 _ rfl
    obtain rfl := sj hd
    exact ⟨[(.bool true)], ⟨f.get _ _ rfl, trivial⟩, f.defers, _, [], hl_27, m, rfl, rfl⟩
   ·refine k_false f rfl hc_45 ?_
    refine k_skip ?_
    refine k_region ?_
    refine l_mv f rfl rfl fun a f => ?_
    refine l_in f rfl rfl rfl b_add fun a f => ?_
    refine l_as f rfl rfl fun a f => ?_
    refine l_nil ?_
    obtain rfl := sj hs_21
    exact ⟨_, rfl, _, rfl, _, hl_27, f.weak ⟨rfl, rfl, rfl, trivial⟩, m⟩
  ·refine k_false f rfl hc_38 ?_
   refine k_exit rfl ?_
   obtain rfl := sj hs_21
   obtain rfl := hq_22 _ rfl
   exact ⟨_, rfl, _, hl_27, f.weak trivial, m⟩
 ·rintro a w ⟨_, rfl, G_36, hl_37, f, m⟩
  refine k_seq (k_region ?_)
  refine l_as f rfl rfl fun a f => ?_
  refine l_nil ?_
  refine k_ret ?_
  obtain rfl := sj hd
  exact ⟨[(.bool false)], ⟨f.get _ _ rfl, trivial⟩, f.defers, _, [], hl_37, m, rfl, rfl⟩

theorem Wk.spec_GraphOk {W w : World} {G : GH} {H : List Itm} {v0_0 : Value} {x0_0 : (List (List Int))} (m : Mem W G w (H)) (h0_0 : RSl (RSl (RI .i64)) G v0_0 x0_0) {y : Bool} (hd : D.spec_GraphOk x0_0 = some y) :
  Calls Tryd.prog 23 #[(.agg #[v0_0])] w (Res W G H (fun _ Ho v => Ho = [] ∧ v = (.bool y))) := by
 refine calls_b (args := [(.agg #[v0_0])]) (N := 64) [.tmp 2] Tryd.func23 rfl rfl (Nat.le_of_ble_eq_true rfl) rfl fun a f => ?_
 unfold D.spec_GraphOk at hd
 refine k_seq (k_region ?_)
 refine l_box (cs := [v0_0]) m f rfl rfl rfl fun b_2 w a m f => ?_
 refine l_as f rfl rfl fun a f => ?_
 refine l_nil (k_seq (k_region ?_))
 refine l_boxAgg 0 0 (ds := [v0_0]) m Ag27 f rfl rfl rfl rfl rfl fun a f => ?_
 obtain ⟨y_3, hy_4, hd⟩ := bind_some hd
 refine l_res f rfl rfl Tryd.call62 (Wk.spec_l1Size m h0_0 hy_4) fun v_8 G_5 Ho_9 w hl_6 m hQ_7 a f => ?_
 obtain ⟨rfl, rfl⟩ := hQ_7
 have h0_0 := RSl.mono (RSl.mono (RI.mono _)) _ _ _ _ hl_6 h0_0
 refine l_as f rfl rfl fun a f => ?_
 refine l_nil (k_seq (k_seq (k_region ?_)))
 refine l_mv f rfl rfl fun a f => ?_
 obtain ⟨y_10, hy_11, hd⟩ := bind_some hd
 refine l_res f rfl rfl Tryd.call63 (Wk.spec_l1In m  hy_11) fun v_15 G_12 Ho_16 w hl_13 m hQ_14 a f => ?_
 obtain ⟨rfl, rfl⟩ := hQ_14
 have h0_0 := RSl.mono (RSl.mono (RI.mono _)) _ _ _ _ hl_13 h0_0
 refine l_op f rfl rfl rfl (r_not (f.eval rfl)) fun a f => ?_
 refine l_nil ?_
 rcases cond_some hd with ⟨hc_17, hd⟩ | ⟨hc_17, hd⟩
 ·refine k_true f rfl hc_17 ?_
  refine k_seq (k_region ?_)
  refine l_as f rfl rfl fun a f => ?_
  refine l_nil ?_
  refine k_ret ?_
  have m : Mem W G_12 w H := Mem.drop (H' := [Itm.box b_2 27 [v0_0]]) m
  obtain rfl := sj hd
  exact ⟨[(.bool false)], ⟨f.get _ _ rfl, trivial⟩, f.defers, _, [], (GLe.trans hl_6 hl_13), m, rfl, rfl⟩
 ·refine k_false f rfl hc_17 ?_
  refine k_skip ?_
  refine k_seq (k_seq (k_region ?_))
  refine l_as f rfl rfl fun a f => ?_
  refine l_nil ?_
  obtain ⟨q_138, hl_139, hd⟩ := bind_some hd
  refine k_cut (fun a w => ∃ q_138' : Unit, q_138 = .inl q_138' ∧ ∃ (G_206 : GH), GLe G_12 G_206 ∧ Fr a 64 [(1, (.pointer (some ⟨b_2, 0, none⟩))), (3, (.int .i64 y_3))] ∧ Mem W G_206 w (Itm.box b_2 27 [v0_0] :: H)) ?_ ?_
  ·refine k_block ?_
   refine k_loop (fun s_142 a w => ∃ x_145 : Int, x_145 = s_142 ∧ ∃ (G_144 : GH), GLe G_12 G_144 ∧ Fr a 64 [(1, (.pointer (some ⟨b_2, 0, none⟩))), (3, (.int .i64 y_3)), (4, (.int .i64 x_145))] ∧ Mem W G_144 w (Itm.box b_2 27 [v0_0] :: H)) hl_139 ⟨_, rfl, _, (GLe.refl _), f.weak ⟨rfl, rfl, rfl, trivial⟩, m⟩ ?_
   clear hl_139 f m
   rintro s_142 o_143 hs_140 hq_141 a w ⟨x_145, rfl, G_144, hl_146, f, m⟩
   have h0_0 := RSl.mono (RSl.mono (RI.mono _)) _ _ _ _ hl_146 h0_0
   refine k_seq (k_seq (k_region ?_))
   refine l_mv f rfl rfl fun a f => ?_
   refine l_mv f rfl rfl fun a f => ?_
   refine l_in f rfl rfl rfl b_lss fun a f => ?_
   refine l_nil ?_
   rcases cond_some hs_140 with ⟨hc_208, hs_140⟩ | ⟨hc_208, hs_140⟩
   ·refine k_true f rfl hc_208 ?_
    refine k_skip ?_
    refine k_seq (k_block (k_seq (k_region ?_)))
    refine l_fieldAddr Tryd.underlying27 rfl Tryd.sizeOf22 (by decide) f rfl rfl fun a f => ?_
    refine l_boxCell 0 0 m Pl22 f rfl rfl rfl rfl fun a f => ?_
    refine l_mv f rfl rfl fun a f => ?_
    obtain ⟨e_209, he_210, hs_140⟩ := bind_some hs_140
    refine l_at T22 f rfl rfl rfl h0_0 he_210 fun p_211 c_212 a g_213 h_214 f => ?_
    refine l_loadAt m Pl36 f rfl rfl g_213 fun a f => ?_
    refine l_mv f rfl rfl fun a f => ?_
    obtain ⟨y_215, hy_216, hs_140⟩ := bind_some hs_140
    refine l_res f rfl rfl Tryd.call61 (Wk.spec_l1Set m h_214 hy_216) fun v_220 G_217 Ho_221 w hl_218 m hQ_219 a f => ?_
    obtain ⟨rfl, rfl⟩ := hQ_219
    have h0_0 := RSl.mono (RSl.mono (RI.mono _)) _ _ _ _ hl_218 h0_0
    have g_213 := At.mono hl_218 g_213
    have h_214 := RSl.mono (RI.mono _) _ _ _ _ hl_218 h_214
    refine l_op f rfl rfl rfl (r_not (f.eval rfl)) fun a f => ?_
    refine l_mv f rfl rfl fun a f => ?_
    obtain ⟨b_251, hj_252, hs_140⟩ := bind_some hs_140
    refine l_cut 8 (fun a w => ∃ G_249, GLe G_217 G_249 ∧ Mem W G_249 w (Itm.box b_2 27 [v0_0] :: H) ∧ Fr a 64 [(1, (.pointer (some ⟨b_2, 0, none⟩))), (3, (.int .i64 y_3)), (4, (.int .i64 x_145)), (14, (.bool (decide (x_145 < y_3)))), (17, (.pointer (some ⟨b_2, 0, none⟩))), (18, v0_0), (19, (.int .i64 x_145)), (20, p_211), (21, c_212), (22, (.int .i64 y_3)), (23, (.bool y_215)), (24, (.bool (!y_215))), (25, (.bool (!y_215))), (33, (.bool b_251))]) ?_ ?_
    ·rcases cond_some hj_252 with ⟨hc_222, hj_252⟩ | ⟨hc_222, hj_252⟩
     ·refine l_not' f rfl rfl rfl hc_222 fun a f => ?_
      refine l_not' f rfl rfl rfl hc_222 fun a f => ?_
      refine l_not' f rfl rfl rfl hc_222 fun a f => ?_
      refine l_not' f rfl rfl rfl hc_222 fun a f => ?_
      refine l_not' f rfl rfl rfl hc_222 fun a f => ?_
      refine l_not' f rfl rfl rfl hc_222 fun a f => ?_
      refine l_not' f rfl rfl rfl hc_222 fun a f => ?_
      refine l_op f rfl rfl rfl (r_pickT (f.eval rfl) hc_222 (f.eval rfl)) fun a f => ?_
      obtain rfl := sj hj_252
      exact ⟨_, (GLe.refl _), m, f.weak ⟨rfl, rfl, rfl, rfl, rfl, rfl, rfl, rfl, rfl, rfl, rfl, rfl, rfl, rfl, trivial⟩⟩
     ·refine l_run f rfl rfl hc_222 ?_
      refine l_fieldAddr Tryd.underlying27 rfl Tryd.sizeOf22 (by decide) f rfl rfl fun a f => ?_
      refine l_run f rfl rfl hc_222 ?_
      refine l_boxCell 0 0 m Pl22 f rfl rfl rfl rfl fun a f => ?_
      refine l_run f rfl rfl hc_222 ?_
      refine l_mv f rfl rfl fun a f => ?_
      refine l_run f rfl rfl hc_222 ?_
      obtain ⟨e_253, he_254, hj_252⟩ := bind_some hj_252
      refine l_at T22 f rfl rfl rfl h0_0 he_254 fun p_255 c_256 a g_257 h_258 f => ?_
      refine l_run f rfl rfl hc_222 ?_
      refine l_loadAt m Pl36 f rfl rfl g_257 fun a f => ?_
      refine l_run f rfl rfl hc_222 ?_
      refine l_mv f rfl rfl fun a f => ?_
      refine l_run f rfl rfl hc_222 ?_
      obtain ⟨y_259, hy_260, hj_252⟩ := bind_some hj_252
      refine l_res f rfl rfl Tryd.call64 (Wk.spec_l1Has m h_258 hy_260) fun v_264 G_261 Ho_265 w hl_262 m hQ_263 a f => ?_
      obtain ⟨rfl, rfl⟩ := hQ_263
      have h0_0 := RSl.mono (RSl.mono (RI.mono _)) _ _ _ _ hl_262 h0_0
      have g_213 := At.mono hl_262 g_213
      have h_214 := RSl.mono (RI.mono _) _ _ _ _ hl_262 h_214
      have g_257 := At.mono hl_262 g_257
      have h_258 := RSl.mono (RI.mono _) _ _ _ _ hl_262 h_258
      refine l_op f rfl rfl rfl (r_pickF (f.eval rfl) hc_222 (f.eval rfl)) fun a f => ?_
      obtain rfl := sj hj_252
      exact ⟨_, hl_262, m, f.weak ⟨rfl, rfl, rfl, rfl, rfl, rfl, rfl, rfl, rfl, rfl, rfl, rfl, rfl, rfl, trivial⟩⟩
    ·rintro a w ⟨G_249, hl_250, m, f⟩
     have h0_0 := RSl.mono (RSl.mono (RI.mono _)) _ _ _ _ hl_250 h0_0
     have g_213 := At.mono hl_250 g_213
     have h_214 := RSl.mono (RI.mono _) _ _ _ _ hl_250 h_214
     refine l_nil ?_
     rcases cond_some hs_140 with ⟨hc_266, hs_140⟩ | ⟨hc_266, hs_140⟩
     ·refine k_true f rfl hc_266 ?_
      refine k_seq (k_region ?_)
      refine l_as f rfl rfl fun a f => ?_
      refine l_nil ?_
      refine k_ret ?_
      have m : Mem W G_249 w H := Mem.drop (H' := [Itm.box b_2 27 [v0_0]]) m
      obtain rfl := sj hs_140
      obtain rfl := hq_141 _ rfl
      obtain rfl := sj hd
      exact ⟨[(.bool false)], ⟨f.get _ _ rfl, trivial⟩, f.defers, _, [], (GLe.trans hl_6 (GLe.trans hl_13 (GLe.trans hl_146 (GLe.trans hl_218 hl_250)))), m, rfl, rfl⟩
     ·refine k_false f rfl hc_266 ?_
      refine k_skip ?_
      refine k_region ?_
      refine l_mv f rfl rfl fun a f => ?_
      refine l_in f rfl rfl rfl b_add fun a f => ?_
      refine l_as f rfl rfl fun a f => ?_
      refine l_nil ?_
      obtain rfl := sj hs_140
      exact ⟨_, rfl, _, rfl, _, (GLe.trans hl_146 (GLe.trans hl_218 hl_250)), f.weak ⟨rfl, rfl, rfl, trivial⟩, m⟩
   ·refine k_false f rfl hc_208 ?_
    refine k_exit rfl ?_
    obtain rfl := sj hs_140
    obtain rfl := hq_141 _ rfl
    exact ⟨_, rfl, _, hl_146, f.weak ⟨rfl, rfl, trivial⟩, m⟩
  ·rintro a w ⟨_, rfl, G_206, hl_207, f, m⟩
   have h0_0 := RSl.mono (RSl.mono (RI.mono _)) _ _ _ _ hl_207 h0_0
   refine k_seq (k_seq (k_region ?_))
   refine l_as f rfl rfl fun a f => ?_
   refine l_nil ?_
   obtain ⟨q_545, hl_546, hd⟩ := bind_some hd
   refine k_cut (fun a w => ∃ q_545' : Unit, q_545 = .inl q_545' ∧ ∃ (G_692 : GH), GLe G_206 G_692 ∧ Fr a 64 [] ∧ Mem W G_692 w (H)) ?_ ?_
   ·refine k_block ?_
    refine k_loop (fun s_549 a w => ∃ x_552 : Int, x_552 = s_549 ∧ ∃ (G_551 : GH), GLe G_206 G_551 ∧ Fr a 64 [(1, (.pointer (some ⟨b_2, 0, none⟩))), (3, (.int .i64 y_3)), (5, (.int .i64 x_552))] ∧ Mem W G_551 w (Itm.box b_2 27 [v0_0] :: H)) hl_546 ⟨_, rfl, _, (GLe.refl _), f.weak ⟨rfl, rfl, rfl, trivial⟩, m⟩ ?_
    clear hl_546 f m
    rintro s_549 o_550 hs_547 hq_548 a w ⟨x_552, rfl, G_551, hl_553, f, m⟩
    have h0_0 := RSl.mono (RSl.mono (RI.mono _)) _ _ _ _ hl_553 h0_0
    refine k_seq (k_seq (k_region ?_))
    refine l_mv f rfl rfl fun a f => ?_
    refine l_mv f rfl rfl fun a f => ?_
    refine l_in f rfl rfl rfl b_lss fun a f => ?_
    refine l_nil ?_
    rcases cond_some hs_547 with ⟨hc_694, hs_547⟩ | ⟨hc_694, hs_547⟩
    ·refine k_true f rfl hc_694 ?_
     refine k_skip ?_
     refine k_seq (k_block (k_seq (k_region ?_)))
     refine l_as f rfl rfl fun a f => ?_
     refine l_nil ?_
     obtain ⟨q_759, hl_760, hs_547⟩ := bind_some hs_547
     refine k_cut (fun a w => ∃ q_759' : Unit, q_759 = .inl q_759' ∧ ∃ (G_799 : GH), GLe G_551 G_799 ∧ Fr a 64 [(1, (.pointer (some ⟨b_2, 0, none⟩))), (3, (.int .i64 y_3)), (5, (.int .i64 x_552))] ∧ Mem W G_799 w (Itm.box b_2 27 [v0_0] :: H)) ?_ ?_
     ·refine k_block ?_
      refine k_loop (fun s_763 a w => ∃ x_766 : Int, x_766 = s_763 ∧ ∃ (G_765 : GH), GLe G_551 G_765 ∧ Fr a 64 [(1, (.pointer (some ⟨b_2, 0, none⟩))), (3, (.int .i64 y_3)), (5, (.int .i64 x_552)), (6, (.int .i64 x_766))] ∧ Mem W G_765 w (Itm.box b_2 27 [v0_0] :: H)) hl_760 ⟨_, rfl, _, (GLe.refl _), f.weak ⟨rfl, rfl, rfl, rfl, trivial⟩, m⟩ ?_
      clear hl_760 f m
      rintro s_763 o_764 hs_761 hq_762 a w ⟨x_766, rfl, G_765, hl_767, f, m⟩
      have h0_0 := RSl.mono (RSl.mono (RI.mono _)) _ _ _ _ hl_767 h0_0
      refine k_seq (k_seq (k_region ?_))
      refine l_mv f rfl rfl fun a f => ?_
      refine l_fieldAddr Tryd.underlying27 rfl Tryd.sizeOf22 (by decide) f rfl rfl fun a f => ?_
      refine l_boxCell 0 0 m Pl22 f rfl rfl rfl rfl fun a f => ?_
      refine l_mv f rfl rfl fun a f => ?_
      obtain ⟨e_801, he_802, hs_761⟩ := bind_some hs_761
      refine l_at T22 f rfl rfl rfl h0_0 he_802 fun p_803 c_804 a g_805 h_806 f => ?_
      refine l_loadAt m Pl36 f rfl rfl g_805 fun a f => ?_
      refine l_len Tryd.underlying36 f rfl rfl h_806 fun a f => ?_
      refine l_in f rfl rfl rfl b_lss fun a f => ?_
      refine l_nil ?_
      rcases cond_some hs_761 with ⟨hc_807, hs_761⟩ | ⟨hc_807, hs_761⟩
      ·refine k_true f rfl hc_807 ?_
       refine k_skip ?_
       refine k_seq (k_block (k_seq ?_))
       refine k_draw 15 Follows (by kernel_rfl) m ?_
       refine q_fieldAddr (i := 0) 15 Tryd.underlying27 rfl Tryd.sizeOf22 (by decide) rfl (by kernel_rfl) rfl f rfl rfl rfl fun a f => ?_
       refine q_boxCell (i := 1) 15 0 Pl22 rfl rfl rfl (by kernel_rfl) rfl f rfl rfl rfl fun a f => ?_
       refine q_fieldAddr (i := 2) 15 Tryd.underlying27 rfl Tryd.sizeOf22 (by decide) rfl (by kernel_rfl) rfl f rfl rfl rfl fun a f => ?_
       refine q_boxCell (i := 3) 15 0 Pl22 rfl rfl rfl (by kernel_rfl) rfl f rfl rfl rfl fun a f => ?_
       refine q_mv 4 15 rfl (by kernel_rfl) f rfl rfl rfl fun a f => ?_
       obtain ⟨e_808, he_809, hs_761⟩ := bind_some hs_761
       refine q_at (i := 5) 15 T22 h0_0 he_809 rfl (by kernel_rfl) rfl f rfl rfl rfl rfl fun p_810 c_811 a g_812 h_813 f => ?_
       refine q_loadAt (i := 6) 15 Pl36 g_812 rfl (by kernel_rfl) rfl f rfl rfl rfl fun a f => ?_
       refine q_mv 7 15 rfl (by kernel_rfl) f rfl rfl rfl fun a f => ?_
       obtain ⟨e_814, he_815, hs_761⟩ := bind_some hs_761
       refine q_at (i := 8) 15 T36 h_813 he_815 rfl (by kernel_rfl) rfl f rfl rfl rfl rfl fun p_816 c_817 a g_818 h_819 f => ?_
       subst h_819
       refine q_loadAt (i := 9) 15 Pl2 g_818 rfl (by kernel_rfl) rfl f rfl rfl rfl fun a f => ?_
       obtain ⟨e_820, he_821, hs_761⟩ := bind_some hs_761
       refine q_at (i := 10) 15 T22 h0_0 he_821 rfl (by kernel_rfl) rfl f rfl rfl rfl rfl fun p_822 c_823 a g_824 h_825 f => ?_
       refine q_loadAt (i := 11) 15 Pl36 g_824 rfl (by kernel_rfl) rfl f rfl rfl rfl fun a f => ?_
       refine q_mv 12 15 rfl (by kernel_rfl) f rfl rfl rfl fun a f => ?_
       obtain ⟨y_826, hy_827, hs_761⟩ := bind_some hs_761
       refine q_call (i := 13) 15 rfl (by kernel_rfl) rfl f rfl rfl rfl Tryd.call64 (fun _ _ w hG_828 m => Wk.spec_l1Has m (RSl.mono (RI.mono _) _ _ _ _ hG_828 h_825) hy_827) fun a f => ?_
       refine q_p 14 15 rfl (by kernel_rfl) f rfl rfl rfl (fun _ => r_not (f.eval rfl)) fun a f => ?_
       refine q_end fun G_829 w hl_830 m => ?_
       have h0_0 := RSl.mono (RSl.mono (RI.mono _)) _ _ _ _ hl_830 h0_0
       have g_812 := At.mono hl_830 g_812
       have h_813 := RSl.mono (RI.mono _) _ _ _ _ hl_830 h_813
       have g_818 := At.mono hl_830 g_818
       have g_824 := At.mono hl_830 g_824
       have h_825 := RSl.mono (RI.mono _) _ _ _ _ hl_830 h_825
       refine l_nil ?_
       rcases cond_some hs_761 with ⟨hc_831, hs_761⟩ | ⟨hc_831, hs_761⟩
       ·refine k_true f rfl hc_831 ?_
        refine k_seq (k_region ?_)
        refine l_as f rfl rfl fun a f => ?_
        refine l_nil ?_
        refine k_ret ?_
        have m : Mem W G_829 w H := Mem.drop (H' := [Itm.box b_2 27 [v0_0]]) m
        obtain rfl := sj hs_761
        obtain rfl := hq_762 _ rfl
        obtain rfl := sj hs_547
        obtain rfl := hq_548 _ rfl
        obtain rfl := sj hd
        exact ⟨[(.bool false)], ⟨f.get _ _ rfl, trivial⟩, f.defers, _, [], (GLe.trans hl_6 (GLe.trans hl_13 (GLe.trans hl_207 (GLe.trans hl_553 (GLe.trans hl_767 hl_830))))), m, rfl, rfl⟩
       ·refine k_false f rfl hc_831 ?_
        refine k_skip ?_
        refine k_region ?_
        refine l_mv f rfl rfl fun a f => ?_
        refine l_in f rfl rfl rfl b_add fun a f => ?_
        refine l_as f rfl rfl fun a f => ?_
        refine l_nil ?_
        obtain rfl := sj hs_761
        exact ⟨_, rfl, _, rfl, _, (GLe.trans hl_767 hl_830), f.weak ⟨rfl, rfl, rfl, rfl, trivial⟩, m⟩
      ·refine k_false f rfl hc_807 ?_
       refine k_exit rfl ?_
       obtain rfl := sj hs_761
       obtain rfl := hq_762 _ rfl
       exact ⟨_, rfl, _, hl_767, f.weak ⟨rfl, rfl, rfl, trivial⟩, m⟩
     ·rintro a w ⟨_, rfl, G_799, hl_800, f, m⟩
      have h0_0 := RSl.mono (RSl.mono (RI.mono _)) _ _ _ _ hl_800 h0_0
      refine k_region ?_
      refine l_mv f rfl rfl fun a f => ?_
      refine l_in f rfl rfl rfl b_add fun a f => ?_
      refine l_as f rfl rfl fun a f => ?_
      refine l_nil ?_
      obtain rfl := sj hs_547
      exact ⟨_, rfl, _, rfl, _, (GLe.trans hl_553 hl_800), f.weak ⟨rfl, rfl, rfl, trivial⟩, m⟩
    ·refine k_false f rfl hc_694 ?_
     refine k_exit rfl ?_
     have m : Mem W G_551 w H := Mem.drop (H' := [Itm.box b_2 27 [v0_0]]) m
     obtain rfl := sj hs_547
     obtain rfl := hq_548 _ rfl
     exact ⟨_, rfl, _, hl_553, f.weak trivial, m⟩
   ·rintro a w ⟨_, rfl, G_692, hl_693, f, m⟩
    refine k_seq (k_region ?_)
    refine l_as f rfl rfl fun a f => ?_
    refine l_nil ?_
    refine k_ret ?_
    obtain rfl := sj hd
    exact ⟨[(.bool true)], ⟨f.get _ _ rfl, trivial⟩, f.defers, _, [], (GLe.trans hl_6 (GLe.trans hl_13 (GLe.trans hl_207 hl_693))), m, rfl, rfl⟩

theorem Wk.impl_inRange {W w : World} {G : GH} {H : List Itm} {x0 : Int} {x1 : Int} {x2 : Int} (m : Mem W G w (H))  {y : Bool} (hd : D.impl_inRange x0 x1 x2 = some y) :
  Calls Tryd.prog 97 #[(.int .i64 x0), (.int .i64 x1), (.int .i64 x2)] w (Res W G H (fun _ Ho v => Ho = [] ∧ v = (.bool y))) := by
 refine calls_b (args := [(.int .i64 x0), (.int .i64 x1), (.int .i64 x2)]) (N := 15) [.tmp 6] Tryd.func97 rfl rfl (Nat.le_of_ble_eq_true rfl) rfl fun a f => ?_
 unfold D.impl_inRange at hd
 refine k_seq (k_region ?_)
 refine l_as f rfl rfl fun a f => ?_
 refine l_nil (k_seq (k_region ?_))
 refine l_mv f rfl rfl fun a f => ?_
 refine l_mv f rfl rfl fun a f => ?_
 refine l_in f rfl rfl rfl b_leq fun a f => ?_
 refine l_mv f rfl rfl fun a f => ?_
 refine l_cut 4 (fun a w => ∃ G_2, GLe G G_2 ∧ Mem W G_2 w (H) ∧ Fr a 15 [(0, (.int .i64 x0)), (1, (.int .i64 x1)), (2, (.int .i64 x2)), (7, (.int .i64 x1)), (8, (.int .i64 x0)), (9, (.bool (decide (x1 ≤ x0)))), (10, (.bool (decide (x1 ≤ x0)))), (14, (.bool ((decide (x1 ≤ x0)) && (decide (x0 ≤ x2)))))]) ?_ ?_
 ·rcases Bool.eq_false_or_eq_true (decide (x1 ≤ x0)) with hc_1 | hc_1
  ·refine l_run f rfl rfl hc_1 ?_
   refine l_mv f rfl rfl fun a f => ?_
   refine l_run f rfl rfl hc_1 ?_
   refine l_mv f rfl rfl fun a f => ?_
   refine l_run f rfl rfl hc_1 ?_
   refine l_in f rfl rfl rfl b_leq fun a f => ?_
   refine l_op f rfl rfl rfl (r_pickT (f.eval rfl) hc_1 (f.eval rfl)) fun a f => ?_
   exact ⟨_, (GLe.refl _), m, f.weak ⟨rfl, rfl, rfl, rfl, rfl, rfl, rfl, by rw [hc_1]; rfl, trivial⟩⟩
  ·refine l_not' f rfl rfl rfl hc_1 fun a f => ?_
   refine l_not' f rfl rfl rfl hc_1 fun a f => ?_
   refine l_not' f rfl rfl rfl hc_1 fun a f => ?_
   refine l_op f rfl rfl rfl (r_pickF (f.eval rfl) hc_1 (f.eval rfl)) fun a f => ?_
   exact ⟨_, (GLe.refl _), m, f.weak ⟨rfl, rfl, rfl, rfl, rfl, rfl, rfl, by rw [hc_1]; rfl, trivial⟩⟩
 ·rintro a w ⟨G_2, hl_3, m, f⟩
  refine l_as f rfl rfl fun a f => ?_
  refine l_nil ?_
  refine k_ret ?_
  obtain rfl := sj hd
  exact ⟨[(.bool ((decide (x1 ≤ x0)) && (decide (x0 ≤ x2))))], ⟨f.get _ _ rfl, trivial⟩, f.defers, _, [], hl_3, m, rfl, rfl⟩

theorem Wk.impl_increasing {W w : World} {G : GH} {H : List Itm} {v0 : Value} {x0 : (List Int)} {x1 : Int} (m : Mem W G w (H)) (h0 : RSl (RI .i64) G v0 x0) {y : Bool} (hd : D.impl_increasing x0 x1 = some y) :
  Calls Tryd.prog 55 #[v0, (.int .i64 x1)] w (Res W G H (fun _ Ho v => Ho = [] ∧ v = (.bool y))) := by
 refine calls_b (args := [v0, (.int .i64 x1)]) (N := 33) [.tmp 4] Tryd.func55 rfl rfl (Nat.le_of_ble_eq_true rfl) rfl fun a f => ?_
 unfold D.impl_increasing at hd
 refine k_seq (k_region ?_)
 refine l_as f rfl rfl fun a f => ?_
 refine l_nil (k_seq (k_seq (k_region ?_)))
 refine l_mv f rfl rfl fun a f => ?_
 refine l_len Tryd.underlying36 f rfl rfl h0 fun a f => ?_
 refine l_mv f rfl rfl fun a f => ?_
 refine l_nil ?_
 obtain ⟨q_181, hl_182, hd⟩ := bind_some hd
 refine k_cut (fun a w => ∃ q_181' : Unit, q_181 = .inl q_181' ∧ ∃ (G_279 : GH), GLe G G_279 ∧ Fr a 33 [] ∧ Mem W G_279 w (H)) ?_ ?_
 ·refine k_block ?_
  refine k_loop (fun s_185 a w => ∃ x_188 : Int, x_188 = s_185 ∧ ∃ (G_187 : GH), GLe G G_187 ∧ Fr a 33 [(0, v0), (1, (.int .i64 x1)), (7, v0), (8, (.int .i64 (x0.length : Int))), (9, (.int .i64 x_188))] ∧ Mem W G_187 w (H)) hl_182 ⟨_, rfl, _, (GLe.refl _), f.weak ⟨rfl, rfl, rfl, rfl, rfl, trivial⟩, m⟩ ?_
  clear hl_182 f m
  rintro s_185 o_186 hs_183 hq_184 a w ⟨x_188, rfl, G_187, hl_189, f, m⟩
  have h0 := RSl.mono (RI.mono _) _ _ _ _ hl_189 h0
  refine k_seq (k_region ?_)
  refine l_in f rfl rfl rfl b_lss fun a f => ?_
  refine l_nil (k_seq ?_)
  rcases cond_some hs_183 with ⟨hc_281, hs_183⟩ | ⟨hc_281, hs_183⟩
  ·refine k_true f rfl hc_281 ?_
   refine k_skip ?_
   refine k_seq (k_block (k_seq (k_region ?_)))
   refine l_mv f rfl rfl fun a f => ?_
   obtain ⟨e_282, he_283, hs_183⟩ := bind_some hs_183
   refine l_at T36 f rfl rfl rfl h0 he_283 fun p_284 c_285 a g_286 h_287 f => ?_
   subst h_287
   refine l_loadAt m Pl2 f rfl rfl g_286 fun a f => ?_
   refine l_as f rfl rfl fun a f => ?_
   refine l_as f rfl rfl fun a f => ?_
   refine l_nil (k_seq (k_region ?_))
   refine l_mv f rfl rfl fun a f => ?_
   refine l_mv f rfl rfl fun a f => ?_
   refine l_in f rfl rfl rfl b_sub fun a f => ?_
   obtain ⟨y_288, hy_289, hs_183⟩ := bind_some hs_183
   refine l_res f rfl rfl Tryd.call97 (Wk.impl_inRange m  hy_289) fun v_293 G_290 Ho_294 w hl_291 m hQ_292 a f => ?_
   obtain ⟨rfl, rfl⟩ := hQ_292
   have h0 := RSl.mono (RI.mono _) _ _ _ _ hl_291 h0
   refine l_op f rfl rfl rfl (r_not (f.eval rfl)) fun a f => ?_
   refine l_mv f rfl rfl fun a f => ?_
   obtain ⟨b_344, hj_345, hs_183⟩ := bind_some hs_183
   refine l_cut 12 (fun a w => ∃ G_342, GLe G_290 G_342 ∧ Mem W G_342 w (H) ∧ Fr a 33 [(0, v0), (1, (.int .i64 x1)), (5, (.int .i64 x_188)), (6, (.int .i64 e_282)), (7, v0), (8, (.int .i64 (x0.length : Int))), (9, (.int .i64 x_188)), (14, (.int .i64 e_282)), (15, (.int .i64 x1)), (16, (.int .i64 (IntKind.i64.wrap (x1 - 1)))), (17, (.bool y_288)), (18, (.bool (!y_288))), (19, (.bool (!y_288))), (31, (.bool b_344))]) ?_ ?_
   ·rcases cond_some hj_345 with ⟨hc_295, hj_345⟩ | ⟨hc_295, hj_345⟩
    ·refine l_not' f rfl rfl rfl hc_295 fun a f => ?_
     refine l_not' f rfl rfl rfl hc_295 fun a f => ?_
     refine l_not' f rfl rfl rfl hc_295 fun a f => ?_
     refine l_notU f rfl rfl rfl fun a f => ?_
     refine l_notU f rfl rfl rfl fun a f => ?_
     refine l_notU f rfl rfl rfl fun a f => ?_
     refine l_notU f rfl rfl rfl fun a f => ?_
     refine l_notU f rfl rfl rfl fun a f => ?_
     refine l_notU f rfl rfl rfl fun a f => ?_
     refine l_notU f rfl rfl rfl fun a f => ?_
     refine l_not' f rfl rfl rfl hc_295 fun a f => ?_
     refine l_op f rfl rfl rfl (r_pickT (f.eval rfl) hc_295 (f.eval rfl)) fun a f => ?_
     obtain rfl := sj hj_345
     exact ⟨_, (GLe.refl _), m, f.weak ⟨rfl, rfl, rfl, rfl, rfl, rfl, rfl, rfl, rfl, rfl, rfl, rfl, rfl, rfl, trivial⟩⟩
    ·refine l_run f rfl rfl hc_295 ?_
     refine l_mv f rfl rfl fun a f => ?_
     refine l_run f rfl rfl hc_295 ?_
     refine l_in f rfl rfl rfl b_gtr fun a f => ?_
     refine l_run f rfl rfl hc_295 ?_
     refine l_mv f rfl rfl fun a f => ?_
     obtain ⟨b_361, hj_362, hj_345⟩ := bind_some hj_345
     refine l_cut 8 (fun a w => ∃ G_359, GLe G_290 G_359 ∧ Mem W G_359 w (H) ∧ Fr a 33 [(0, v0), (1, (.int .i64 x1)), (5, (.int .i64 x_188)), (6, (.int .i64 e_282)), (7, v0), (8, (.int .i64 (x0.length : Int))), (9, (.int .i64 x_188)), (14, (.int .i64 e_282)), (15, (.int .i64 x1)), (16, (.int .i64 (IntKind.i64.wrap (x1 - 1)))), (17, (.bool y_288)), (18, (.bool (!y_288))), (19, (.bool (!y_288))), (20, (.int .i64 x_188)), (21, (.bool (decide ((0 : Int) < x_188)))), (22, (.bool (decide ((0 : Int) < x_188)))), (30, (.bool b_361))]) ?_ ?_
     ·rcases cond_some hj_362 with ⟨hc_346, hj_362⟩ | ⟨hc_346, hj_362⟩
      ·refine l_run f rfl rfl hc_346 ?_
       refine l_mv f rfl rfl fun a f => ?_
       refine l_run f rfl rfl hc_346 ?_
       refine l_mv f rfl rfl fun a f => ?_
       refine l_run f rfl rfl hc_346 ?_
       refine l_in f rfl rfl rfl b_sub fun a f => ?_
       refine l_run f rfl rfl hc_346 ?_
       obtain ⟨e_363, he_364, hj_362⟩ := bind_some hj_362
       refine l_at T36 f rfl rfl rfl h0 he_364 fun p_365 c_366 a g_367 h_368 f => ?_
       subst h_368
       refine l_run f rfl rfl hc_346 ?_
       refine l_loadAt m Pl2 f rfl rfl g_367 fun a f => ?_
       refine l_run f rfl rfl hc_346 ?_
       refine l_mv f rfl rfl fun a f => ?_
       refine l_run f rfl rfl hc_346 ?_
       refine l_in f rfl rfl rfl b_geq fun a f => ?_
       refine l_run f rfl rfl hc_295 ?_
       refine l_op f rfl rfl rfl (r_pickT (f.eval rfl) hc_346 (f.eval rfl)) fun a f => ?_
       obtain rfl := sj hj_362
       exact ⟨_, (GLe.refl _), m, f.weak ⟨rfl, rfl, rfl, rfl, rfl, rfl, rfl, rfl, rfl, rfl, rfl, rfl, rfl, rfl, rfl, rfl, rfl, trivial⟩⟩
      ·refine l_not' f rfl rfl rfl hc_346 fun a f => ?_
       refine l_not' f rfl rfl rfl hc_346 fun a f => ?_
       refine l_not' f rfl rfl rfl hc_346 fun a f => ?_
       refine l_not' f rfl rfl rfl hc_346 fun a f => ?_
       refine l_not' f rfl rfl rfl hc_346 fun a f => ?_
       refine l_not' f rfl rfl rfl hc_346 fun a f => ?_
       refine l_not' f rfl rfl rfl hc_346 fun a f => ?_
       refine l_run f rfl rfl hc_295 ?_
       refine l_op f rfl rfl rfl (r_pickF (f.eval rfl) hc_346 (f.eval rfl)) fun a f => ?_
       obtain rfl := sj hj_362
       exact ⟨_, (GLe.refl _), m, f.weak ⟨rfl, rfl, rfl, rfl, rfl, rfl, rfl, rfl, rfl, rfl, rfl, rfl, rfl, rfl, rfl, rfl, rfl, trivial⟩⟩
     ·rintro a w ⟨G_359, hl_360, m, f⟩
      have h0 := RSl.mono (RI.mono _) _ _ _ _ hl_360 h0
      refine l_op f rfl rfl rfl (r_pickF (f.eval rfl) hc_295 (f.eval rfl)) fun a f => ?_
      obtain rfl := sj hj_345
      exact ⟨_, hl_360, m, f.weak ⟨rfl, rfl, rfl, rfl, rfl, rfl, rfl, rfl, rfl, rfl, rfl, rfl, rfl, rfl, trivial⟩⟩
   ·rintro a w ⟨G_342, hl_343, m, f⟩
    have h0 := RSl.mono (RI.mono _) _ _ _ _ hl_343 h0
    refine l_nil ?_
    rcases cond_some hs_183 with ⟨hc_369, hs_183⟩ | ⟨hc_369, hs_183⟩
    ·refine k_true f rfl hc_369 ?_
     refine k_seq (k_region ?_)
     refine l_as f rfl rfl fun a f => ?_
     refine l_nil ?_
     refine k_ret ?_
     obtain rfl := sj hs_183
     obtain rfl := hq_184 _ rfl
     obtain rfl := sj hd
     exact ⟨[(.bool false)], ⟨f.get _ _ rfl, trivial⟩, f.defers, _, [], (GLe.trans hl_189 (GLe.trans hl_291 hl_343)), m, rfl, rfl⟩
    ·refine k_false f rfl hc_369 ?_
     refine k_skip ?_
     refine k_region ?_
     refine l_in f rfl rfl rfl b_add fun a f => ?_
     refine l_mv f rfl rfl fun a f => ?_
     refine l_nil ?_
     obtain rfl := sj hs_183
     exact ⟨_, rfl, _, rfl, _, (GLe.trans hl_189 (GLe.trans hl_291 hl_343)), f.weak ⟨rfl, rfl, rfl, rfl, rfl, trivial⟩, m⟩
  ·refine k_false f rfl hc_281 ?_
   refine k_exit rfl ?_
   obtain rfl := sj hs_183
   obtain rfl := hq_184 _ rfl
   exact ⟨_, rfl, _, hl_189, f.weak trivial, m⟩
 ·rintro a w ⟨_, rfl, G_279, hl_280, f, m⟩
  refine k_seq (k_region ?_)
  refine l_as f rfl rfl fun a f => ?_
  refine l_nil ?_
  refine k_ret ?_
  obtain rfl := sj hd
  exact ⟨[(.bool true)], ⟨f.get _ _ rfl, trivial⟩, f.defers, _, [], hl_280, m, rfl, rfl⟩

theorem Wk.impl_GraphOk {W w : World} {G : GH} {H : List Itm} {v0_0 : Value} {x0_0 : (List (List Int))} (m : Mem W G w (H)) (h0_0 : RSl (RSl (RI .i64)) G v0_0 x0_0) {y : Bool} (hd : D.impl_GraphOk x0_0 = some y) :
  Calls Tryd.prog 40 #[(.agg #[v0_0])] w (Res W G H (fun _ Ho v => Ho = [] ∧ v = (.bool y))) := by
 refine calls_b (args := [(.agg #[v0_0])]) (N := 61) [.tmp 2] Tryd.func40 rfl rfl (Nat.le_of_ble_eq_true rfl) rfl fun a f => ?_
 unfold D.impl_GraphOk at hd
 refine k_seq (k_region ?_)
 refine l_box (cs := [v0_0]) m f rfl rfl rfl fun b_2 w a m f => ?_
 refine l_as f rfl rfl fun a f => ?_
 refine l_nil (k_seq (k_region ?_))
 refine l_fieldAddr Tryd.underlying27 rfl Tryd.sizeOf22 (by decide) f rfl rfl fun a f => ?_
 refine l_boxCell 0 0 m Pl22 f rfl rfl rfl rfl fun a f => ?_
 refine l_len Tryd.underlying22 f rfl rfl h0_0 fun a f => ?_
 refine l_as f rfl rfl fun a f => ?_
 refine l_nil (k_seq (k_seq (k_region ?_)))
 refine l_mv f rfl rfl fun a f => ?_
 refine l_in f rfl rfl rfl b_lss fun a f => ?_
 refine l_mv f rfl rfl fun a f => ?_
 refine l_cut 3 (fun a w => ∃ G_4, GLe G G_4 ∧ Mem W G_4 w (Itm.box b_2 27 [v0_0] :: H) ∧ Fr a 61 [(0, (.agg #[v0_0])), (1, (.pointer (some ⟨b_2, 0, none⟩))), (3, (.int .i64 (x0_0.length : Int))), (13, (.int .i64 (x0_0.length : Int))), (14, (.bool (decide ((x0_0.length : Int) < 1)))), (15, (.bool (decide ((x0_0.length : Int) < 1)))), (18, (.bool ((decide ((x0_0.length : Int) < 1)) || (decide ((16 : Int) < (x0_0.length : Int))))))]) ?_ ?_
 ·rcases Bool.eq_false_or_eq_true (decide ((x0_0.length : Int) < 1)) with hc_3 | hc_3
  ·refine l_not' f rfl rfl rfl hc_3 fun a f => ?_
   refine l_not' f rfl rfl rfl hc_3 fun a f => ?_
   refine l_op f rfl rfl rfl (r_pickT (f.eval rfl) hc_3 (f.eval rfl)) fun a f => ?_
   exact ⟨_, (GLe.refl _), m, f.weak ⟨rfl, rfl, rfl, rfl, rfl, rfl, by rw [hc_3]; rfl, trivial⟩⟩
  ·refine l_run f rfl rfl hc_3 ?_
   refine l_mv f rfl rfl fun a f => ?_
   refine l_run f rfl rfl hc_3 ?_
   refine l_in f rfl rfl rfl b_gtr fun a f => ?_
   refine l_op f rfl rfl rfl (r_pickF (f.eval rfl) hc_3 (f.eval rfl)) fun a f => ?_
   exact ⟨_, (GLe.refl _), m, f.weak ⟨rfl, rfl, rfl, rfl, rfl, rfl, by rw [hc_3]; rfl, trivial⟩⟩
 ·rintro a w ⟨G_4, hl_5, m, f⟩
  have h0_0 := RSl.mono (RSl.mono (RI.mono _)) _ _ _ _ hl_5 h0_0
  refine l_nil ?_
  rcases cond_some hd with ⟨hc_6, hd⟩ | ⟨hc_6, hd⟩
  ·refine k_true f rfl hc_6 ?_
   refine k_seq (k_region ?_)
   refine l_as f rfl rfl fun a f => ?_
   refine l_nil ?_
   refine k_ret ?_
   have m : Mem W G_4 w H := Mem.drop (H' := [Itm.box b_2 27 [v0_0]]) m
   obtain rfl := sj hd
   exact ⟨[(.bool false)], ⟨f.get _ _ rfl, trivial⟩, f.defers, _, [], hl_5, m, rfl, rfl⟩
  ·refine k_false f rfl hc_6 ?_
   refine k_skip ?_
   refine k_seq (k_seq (k_region ?_))
   refine l_fieldAddr Tryd.underlying27 rfl Tryd.sizeOf22 (by decide) f rfl rfl fun a f => ?_
   refine l_boxCell 0 0 m Pl22 f rfl rfl rfl rfl fun a f => ?_
   refine l_len Tryd.underlying22 f rfl rfl h0_0 fun a f => ?_
   refine l_mv f rfl rfl fun a f => ?_
   refine l_nil ?_
   obtain ⟨q_91, hl_92, hd⟩ := bind_some hd
   refine k_cut (fun a w => ∃ q_91' : Unit, q_91 = .inl q_91' ∧ ∃ (G_141 : GH), GLe G_4 G_141 ∧ Fr a 61 [(1, (.pointer (some ⟨b_2, 0, none⟩)))] ∧ Mem W G_141 w (Itm.box b_2 27 [v0_0] :: H)) ?_ ?_
   ·refine k_block ?_
    refine k_loop (fun s_95 a w => ∃ x_98 : Int, x_98 = s_95 ∧ ∃ (G_97 : GH), GLe G_4 G_97 ∧ Fr a 61 [(1, (.pointer (some ⟨b_2, 0, none⟩))), (3, (.int .i64 (x0_0.length : Int))), (20, v0_0), (21, (.int .i64 (x0_0.length : Int))), (22, (.int .i64 x_98))] ∧ Mem W G_97 w (Itm.box b_2 27 [v0_0] :: H)) hl_92 ⟨_, rfl, _, (GLe.refl _), f.weak ⟨rfl, rfl, rfl, rfl, rfl, trivial⟩, m⟩ ?_
    clear hl_92 f m
    rintro s_95 o_96 hs_93 hq_94 a w ⟨x_98, rfl, G_97, hl_99, f, m⟩
    have h0_0 := RSl.mono (RSl.mono (RI.mono _)) _ _ _ _ hl_99 h0_0
    refine k_seq (k_region ?_)
    refine l_in f rfl rfl rfl b_lss fun a f => ?_
    refine l_nil (k_seq ?_)
    rcases cond_some hs_93 with ⟨hc_143, hs_93⟩ | ⟨hc_143, hs_93⟩
    ·refine k_true f rfl hc_143 ?_
     refine k_skip ?_
     refine k_seq (k_block (k_seq (k_region ?_)))
     refine l_mv f rfl rfl fun a f => ?_
     obtain ⟨e_144, he_145, hs_93⟩ := bind_some hs_93
     refine l_at T22 f rfl rfl rfl h0_0 he_145 fun p_146 c_147 a g_148 h_149 f => ?_
     refine l_loadAt m Pl36 f rfl rfl g_148 fun a f => ?_
     refine l_as f rfl rfl fun a f => ?_
     refine l_as f rfl rfl fun a f => ?_
     refine l_nil (k_seq (k_region ?_))
     refine l_mv f rfl rfl fun a f => ?_
     refine l_mv f rfl rfl fun a f => ?_
     obtain ⟨y_150, hy_151, hs_93⟩ := bind_some hs_93
     refine l_res f rfl rfl Tryd.call55 (Wk.impl_increasing m h_149 hy_151) fun v_155 G_152 Ho_156 w hl_153 m hQ_154 a f => ?_
     obtain ⟨rfl, rfl⟩ := hQ_154
     have h_149 := RSl.mono (RI.mono _) _ _ _ _ hl_153 h_149
     have h0_0 := RSl.mono (RSl.mono (RI.mono _)) _ _ _ _ hl_153 h0_0
     refine l_op f rfl rfl rfl (r_not (f.eval rfl)) fun a f => ?_
     refine l_mv f rfl rfl fun a f => ?_
     obtain ⟨b_174, hj_175, hs_93⟩ := bind_some hs_93
     refine l_cut 4 (fun a w => ∃ G_172, GLe G_152 G_172 ∧ Mem W G_172 w (Itm.box b_2 27 [v0_0] :: H) ∧ Fr a 61 [(1, (.pointer (some ⟨b_2, 0, none⟩))), (3, (.int .i64 (x0_0.length : Int))), (4, (.int .i64 x_98)), (5, c_147), (20, v0_0), (21, (.int .i64 (x0_0.length : Int))), (22, (.int .i64 x_98)), (27, c_147), (28, (.int .i64 (x0_0.length : Int))), (29, (.bool y_150)), (30, (.bool (!y_150))), (31, (.bool (!y_150))), (35, (.bool b_174))]) ?_ ?_
     ·rcases cond_some hj_175 with ⟨hc_157, hj_175⟩ | ⟨hc_157, hj_175⟩
      ·refine l_not' f rfl rfl rfl hc_157 fun a f => ?_
       refine l_not' f rfl rfl rfl hc_157 fun a f => ?_
       refine l_not' f rfl rfl rfl hc_157 fun a f => ?_
       refine l_op f rfl rfl rfl (r_pickT (f.eval rfl) hc_157 (f.eval rfl)) fun a f => ?_
       obtain rfl := sj hj_175
       exact ⟨_, (GLe.refl _), m, f.weak ⟨rfl, rfl, rfl, rfl, rfl, rfl, rfl, rfl, rfl, rfl, rfl, rfl, rfl, trivial⟩⟩
      ·refine l_run f rfl rfl hc_157 ?_
       refine l_mv f rfl rfl fun a f => ?_
       refine l_run f rfl rfl hc_157 ?_
       refine l_mv f rfl rfl fun a f => ?_
       refine l_run f rfl rfl hc_157 ?_
       obtain ⟨y_176, hy_177, hj_175⟩ := bind_some hj_175
       refine l_res f rfl rfl Tryd.call78 (Wk.slices_Contains_int64_int64 m h_149 hy_177) fun v_181 G_178 Ho_182 w hl_179 m hQ_180 a f => ?_
       obtain ⟨rfl, rfl⟩ := hQ_180
       have h_149 := RSl.mono (RI.mono _) _ _ _ _ hl_179 h_149
       have h0_0 := RSl.mono (RSl.mono (RI.mono _)) _ _ _ _ hl_179 h0_0
       refine l_op f rfl rfl rfl (r_pickF (f.eval rfl) hc_157 (f.eval rfl)) fun a f => ?_
       obtain rfl := sj hj_175
       exact ⟨_, hl_179, m, f.weak ⟨rfl, rfl, rfl, rfl, rfl, rfl, rfl, rfl, rfl, rfl, rfl, rfl, rfl, trivial⟩⟩
     ·rintro a w ⟨G_172, hl_173, m, f⟩
      have h_149 := RSl.mono (RI.mono _) _ _ _ _ hl_173 h_149
      have h0_0 := RSl.mono (RSl.mono (RI.mono _)) _ _ _ _ hl_173 h0_0
      refine l_nil ?_
      rcases cond_some hs_93 with ⟨hc_183, hs_93⟩ | ⟨hc_183, hs_93⟩
      ·refine k_true f rfl hc_183 ?_
       refine k_seq (k_region ?_)
       refine l_as f rfl rfl fun a f => ?_
       refine l_nil ?_
       refine k_ret ?_
       have m : Mem W G_172 w H := Mem.drop (H' := [Itm.box b_2 27 [v0_0]]) m
       obtain rfl := sj hs_93
       obtain rfl := hq_94 _ rfl
       obtain rfl := sj hd
       exact ⟨[(.bool false)], ⟨f.get _ _ rfl, trivial⟩, f.defers, _, [], (GLe.trans hl_5 (GLe.trans hl_99 (GLe.trans hl_153 hl_173))), m, rfl, rfl⟩
      ·refine k_false f rfl hc_183 ?_
       refine k_skip ?_
       refine k_region ?_
       refine l_in f rfl rfl rfl b_add fun a f => ?_
       refine l_mv f rfl rfl fun a f => ?_
       refine l_nil ?_
       obtain rfl := sj hs_93
       exact ⟨_, rfl, _, rfl, _, (GLe.trans hl_99 (GLe.trans hl_153 hl_173)), f.weak ⟨rfl, rfl, rfl, rfl, rfl, trivial⟩, m⟩
    ·refine k_false f rfl hc_143 ?_
     refine k_exit rfl ?_
     obtain rfl := sj hs_93
     obtain rfl := hq_94 _ rfl
     exact ⟨_, rfl, _, hl_99, f.weak ⟨rfl, trivial⟩, m⟩
   ·rintro a w ⟨_, rfl, G_141, hl_142, f, m⟩
    have h0_0 := RSl.mono (RSl.mono (RI.mono _)) _ _ _ _ hl_142 h0_0
    refine k_seq (k_seq (k_region ?_))
    refine l_fieldAddr Tryd.underlying27 rfl Tryd.sizeOf22 (by decide) f rfl rfl fun a f => ?_
    refine l_boxCell 0 0 m Pl22 f rfl rfl rfl rfl fun a f => ?_
    refine l_len Tryd.underlying22 f rfl rfl h0_0 fun a f => ?_
    refine l_mv f rfl rfl fun a f => ?_
    refine l_nil ?_
    obtain ⟨q_394, hl_395, hd⟩ := bind_some hd
    refine k_cut (fun a w => ∃ q_394' : Unit, q_394 = .inl q_394' ∧ ∃ (G_507 : GH), GLe G_141 G_507 ∧ Fr a 61 [] ∧ Mem W G_507 w (H)) ?_ ?_
    ·refine k_block ?_
     refine k_loop (fun s_398 a w => ∃ x_401 : Int, x_401 = s_398 ∧ ∃ (G_400 : GH), GLe G_141 G_400 ∧ Fr a 61 [(1, (.pointer (some ⟨b_2, 0, none⟩))), (38, v0_0), (39, (.int .i64 (x0_0.length : Int))), (40, (.int .i64 x_401))] ∧ Mem W G_400 w (Itm.box b_2 27 [v0_0] :: H)) hl_395 ⟨_, rfl, _, (GLe.refl _), f.weak ⟨rfl, rfl, rfl, rfl, trivial⟩, m⟩ ?_
     clear hl_395 f m
     rintro s_398 o_399 hs_396 hq_397 a w ⟨x_401, rfl, G_400, hl_402, f, m⟩
     have h0_0 := RSl.mono (RSl.mono (RI.mono _)) _ _ _ _ hl_402 h0_0
     refine k_seq (k_region ?_)
     refine l_in f rfl rfl rfl b_lss fun a f => ?_
     refine l_nil (k_seq ?_)
     rcases cond_some hs_396 with ⟨hc_509, hs_396⟩ | ⟨hc_509, hs_396⟩
     ·refine k_true f rfl hc_509 ?_
      refine k_skip ?_
      refine k_seq (k_block (k_seq (k_region ?_)))
      refine l_mv f rfl rfl fun a f => ?_
      obtain ⟨e_510, he_511, hs_396⟩ := bind_some hs_396
      refine l_at T22 f rfl rfl rfl h0_0 he_511 fun p_512 c_513 a g_514 h_515 f => ?_
      refine l_loadAt m Pl36 f rfl rfl g_514 fun a f => ?_
      refine l_as f rfl rfl fun a f => ?_
      refine l_as f rfl rfl fun a f => ?_
      refine l_nil (k_seq (k_region ?_))
      refine l_mv f rfl rfl fun a f => ?_
      refine l_len Tryd.underlying36 f rfl rfl h_515 fun a f => ?_
      refine l_mv f rfl rfl fun a f => ?_
      refine l_nil ?_
      obtain ⟨q_560, hl_561, hs_396⟩ := bind_some hs_396
      refine k_cut (fun a w => ∃ q_560' : Unit, q_560 = .inl q_560' ∧ ∃ (G_590 : GH), GLe G_400 G_590 ∧ Fr a 61 [(1, (.pointer (some ⟨b_2, 0, none⟩))), (38, v0_0), (39, (.int .i64 (x0_0.length : Int))), (40, (.int .i64 x_401))] ∧ Mem W G_590 w (Itm.box b_2 27 [v0_0] :: H)) ?_ ?_
      ·refine k_block ?_
       refine k_loop (fun s_564 a w => ∃ x_567 : Int, x_567 = s_564 ∧ ∃ (G_566 : GH), GLe G_400 G_566 ∧ Fr a 61 [(1, (.pointer (some ⟨b_2, 0, none⟩))), (6, (.int .i64 x_401)), (38, v0_0), (39, (.int .i64 (x0_0.length : Int))), (40, (.int .i64 x_401)), (45, c_513), (46, (.int .i64 (e_510.length : Int))), (47, (.int .i64 x_567))] ∧ Mem W G_566 w (Itm.box b_2 27 [v0_0] :: H)) hl_561 ⟨_, rfl, _, (GLe.refl _), f.weak ⟨rfl, rfl, rfl, rfl, rfl, rfl, rfl, rfl, trivial⟩, m⟩ ?_
       clear hl_561 f m
       rintro s_564 o_565 hs_562 hq_563 a w ⟨x_567, rfl, G_566, hl_568, f, m⟩
       have h0_0 := RSl.mono (RSl.mono (RI.mono _)) _ _ _ _ hl_568 h0_0
       have h_515 := RSl.mono (RI.mono _) _ _ _ _ hl_568 h_515
       refine k_seq (k_region ?_)
       refine l_in f rfl rfl rfl b_lss fun a f => ?_
       refine l_nil (k_seq ?_)
       rcases cond_some hs_562 with ⟨hc_592, hs_562⟩ | ⟨hc_592, hs_562⟩
       ·refine k_true f rfl hc_592 ?_
        refine k_skip ?_
        refine k_seq (k_block (k_seq (k_region ?_)))
        obtain ⟨e_593, he_594, hs_562⟩ := bind_some hs_562
        refine l_at T36 f rfl rfl rfl h_515 he_594 fun p_595 c_596 a g_597 h_598 f => ?_
        subst h_598
        refine l_loadAt m Pl2 f rfl rfl g_597 fun a f => ?_
        refine l_as f rfl rfl fun a f => ?_
        refine l_nil (k_seq (k_region ?_))
        refine l_fieldAddr Tryd.underlying27 rfl Tryd.sizeOf22 (by decide) f rfl rfl fun a f => ?_
        refine l_boxCell 0 0 m Pl22 f rfl rfl rfl rfl fun a f => ?_
        refine l_mv f rfl rfl fun a f => ?_
        obtain ⟨e_599, he_600, hs_562⟩ := bind_some hs_562
        refine l_at T22 f rfl rfl rfl h0_0 he_600 fun p_601 c_602 a g_603 h_604 f => ?_
        refine l_loadAt m Pl36 f rfl rfl g_603 fun a f => ?_
        refine l_mv f rfl rfl fun a f => ?_
        obtain ⟨y_605, hy_606, hs_562⟩ := bind_some hs_562
        refine l_res f rfl rfl Tryd.call78 (Wk.slices_Contains_int64_int64 m h_604 hy_606) fun v_610 G_607 Ho_611 w hl_608 m hQ_609 a f => ?_
        obtain ⟨rfl, rfl⟩ := hQ_609
        have h0_0 := RSl.mono (RSl.mono (RI.mono _)) _ _ _ _ hl_608 h0_0
        have h_515 := RSl.mono (RI.mono _) _ _ _ _ hl_608 h_515
        have g_603 := At.mono hl_608 g_603
        have h_604 := RSl.mono (RI.mono _) _ _ _ _ hl_608 h_604
        refine l_op f rfl rfl rfl (r_not (f.eval rfl)) fun a f => ?_
        refine l_nil ?_
        rcases cond_some hs_562 with ⟨hc_612, hs_562⟩ | ⟨hc_612, hs_562⟩
        ·refine k_true f rfl hc_612 ?_
         refine k_seq (k_region ?_)
         refine l_as f rfl rfl fun a f => ?_
         refine l_nil ?_
         refine k_ret ?_
         have m : Mem W G_607 w H := Mem.drop (H' := [Itm.box b_2 27 [v0_0]]) m
         obtain rfl := sj hs_562
         obtain rfl := hq_563 _ rfl
         obtain rfl := sj hs_396
         obtain rfl := hq_397 _ rfl
         obtain rfl := sj hd
         exact ⟨[(.bool false)], ⟨f.get _ _ rfl, trivial⟩, f.defers, _, [], (GLe.trans hl_5 (GLe.trans hl_142 (GLe.trans hl_402 (GLe.trans hl_568 hl_608)))), m, rfl, rfl⟩
        ·refine k_false f rfl hc_612 ?_
         refine k_skip ?_
         refine k_region ?_
         refine l_in f rfl rfl rfl b_add fun a f => ?_
         refine l_mv f rfl rfl fun a f => ?_
         refine l_nil ?_
         obtain rfl := sj hs_562
         exact ⟨_, rfl, _, rfl, _, (GLe.trans hl_568 hl_608), f.weak ⟨rfl, rfl, rfl, rfl, rfl, rfl, rfl, rfl, trivial⟩, m⟩
       ·refine k_false f rfl hc_592 ?_
        refine k_exit rfl ?_
        obtain rfl := sj hs_562
        obtain rfl := hq_563 _ rfl
        exact ⟨_, rfl, _, hl_568, f.weak ⟨rfl, rfl, rfl, rfl, trivial⟩, m⟩
      ·rintro a w ⟨_, rfl, G_590, hl_591, f, m⟩
       have h0_0 := RSl.mono (RSl.mono (RI.mono _)) _ _ _ _ hl_591 h0_0
       refine k_region ?_
       refine l_in f rfl rfl rfl b_add fun a f => ?_
       refine l_mv f rfl rfl fun a f => ?_
       refine l_nil ?_
       obtain rfl := sj hs_396
       exact ⟨_, rfl, _, rfl, _, (GLe.trans hl_402 hl_591), f.weak ⟨rfl, rfl, rfl, rfl, trivial⟩, m⟩
     ·refine k_false f rfl hc_509 ?_
      refine k_exit rfl ?_
      have m : Mem W G_400 w H := Mem.drop (H' := [Itm.box b_2 27 [v0_0]]) m
      obtain rfl := sj hs_396
      obtain rfl := hq_397 _ rfl
      exact ⟨_, rfl, _, hl_402, f.weak trivial, m⟩
    ·rintro a w ⟨_, rfl, G_507, hl_508, f, m⟩
     refine k_seq (k_region ?_)
     refine l_as f rfl rfl fun a f => ?_
     refine l_nil ?_
     refine k_ret ?_
     obtain rfl := sj hd
     exact ⟨[(.bool true)], ⟨f.get _ _ rfl, trivial⟩, f.defers, _, [], (GLe.trans hl_5 (GLe.trans hl_142 hl_508)), m, rfl, rfl⟩

end Go.Proofs.YtocakchlhemmeaaDoor
