/- Parts of the proof: DE1, DE2, DC1, DC2, SxH, CAD, CBD, CCD, CDD, CED, CFD, CHandA, CHandB. -/
import Derived.Test.YtocakchlhemmeaaDoorSk1
import Derived.Shelf.Small.Bits
import Derived.Test.YtocakchlhemmeaaDoorProg
import Derived.RangeFuncBox
import Derived.RangeFuncLeaves
import Derived.Shelf.Abstract
import Derived.WalkKit
import Derived.OwnWalkIn
import Derived.TacticsInMore
import Derived.LoopNIn
import Derived.LoopIn
import Derived.Maps.AppendAt
set_option linter.unusedVariables false
set_option linter.unusedSimpArgs false
set_option linter.unusedSectionVars false
namespace Go.Sx

noncomputable def D.spec_SetOk (x0_0 : (List (List Int))) (x1 : (List Int)) : Option (Bool) :=
  (D.spec_GraphOk x0_0).bind fun y_3 => (cond y_3 ((D.spec_l1Size x0_0).bind fun y_43 => (D.spec_l1Set x1 y_43).bind fun y_50 => some y_50) (some false)).bind fun b_41 => some b_41

noncomputable def D.impl_vset_has (x0 : Int) (x1 : Int) : Option (Bool) :=
  cond (decide (x1 < 0)) none (some ((iand .u32 (ishr .u32 x0 x1) 1) == 1))

end Go.Sx

namespace Go.Sx

end Go.Sx

namespace Go.Sx

end Go.Sx

namespace Go.Sx

noncomputable def D.spec_l1New (x0 : (List Int)) : Option (((List Int)) × Int × Int) :=
  (loopF (σ := Int × Int) (ρ := (Int)) (fun (s_22 : Int × Int) => match s_22 with | (x_25, x_26) => cond (decide (x_26 < (x0.length : Int))) ((idx x0 x_26).bind fun e_39 => some (.inl ((iand .i64 (IntKind.i64.wrap ((IntKind.i64.wrap ((IntKind.i64.wrap (x_25 * 331)) + (IntKind.i64.wrap e_39))) + 11)) 1073741823), (IntKind.i64.wrap (x_26 + 1))))) (some (.inr x_25))) ((IntKind.i64.wrap (580031 + (x0.length : Int))), 0)).bind fun x_36 => some (x0, 0, x_36)

noncomputable def D.spec_l1Byte (x0_0 : (List Int)) (x0_1 : Int) (x0_2 : Int) : Option (Int × ((List Int)) × Int × Int) :=
  cond (decide (x0_1 < (x0_0.length : Int))) ((idx x0_0 x0_1).bind fun e_8 => some ((iand .i64 (IntKind.i64.wrap ((iand .i64 (ixor .i64 (ishr .i64 (IntKind.i64.wrap ((IntKind.i64.wrap (x0_2 * 6364136223846793005)) + 1442695040888963407)) 33) (ishr .i64 (IntKind.i64.wrap ((IntKind.i64.wrap (x0_2 * 6364136223846793005)) + 1442695040888963407)) 45)) 255) + (IntKind.i64.wrap e_8))) 255), x0_0, (IntKind.i64.wrap (x0_1 + 1)), (IntKind.i64.wrap ((IntKind.i64.wrap (x0_2 * 6364136223846793005)) + 1442695040888963407)))) (some ((iand .i64 (ixor .i64 (ishr .i64 (IntKind.i64.wrap ((IntKind.i64.wrap (x0_2 * 6364136223846793005)) + 1442695040888963407)) 33) (ishr .i64 (IntKind.i64.wrap ((IntKind.i64.wrap (x0_2 * 6364136223846793005)) + 1442695040888963407)) 45)) 255), x0_0, x0_1, (IntKind.i64.wrap ((IntKind.i64.wrap (x0_2 * 6364136223846793005)) + 1442695040888963407))))

noncomputable def D.spec_l1Below (x0_0 : (List Int)) (x0_1 : Int) (x0_2 : Int) (x1 : Int) : Option (Int × ((List Int)) × Int × Int) :=
  cond (decide (x1 ≤ 0)) (some (0, x0_0, x0_1, x0_2)) (cond (decide (x1 ≤ 256)) ((D.spec_l1Byte x0_0 x0_1 x0_2).bind fun y_3 => cond (x1 == 0) none (some ((Int.tmod y_3.1 x1), y_3.2.1, y_3.2.2.1, y_3.2.2.2))) ((D.spec_l1Byte x0_0 x0_1 x0_2).bind fun y_13 => (D.spec_l1Byte y_13.2.1 y_13.2.2.1 y_13.2.2.2).bind fun y_22 => (D.spec_l1Byte y_22.2.1 y_22.2.2.1 y_22.2.2.2).bind fun y_31 => (D.spec_l1Byte y_31.2.1 y_31.2.2.1 y_31.2.2.2).bind fun y_40 => cond (x1 == 0) none (some ((Int.tmod (IntKind.i64.wrap ((IntKind.i64.wrap ((IntKind.i64.wrap ((IntKind.i64.wrap (y_13.1 * 16777216)) + (IntKind.i64.wrap (y_22.1 * 65536)))) + (IntKind.i64.wrap (y_31.1 * 256)))) + y_40.1)) x1), y_40.2.1, y_40.2.2.1, y_40.2.2.2))))

noncomputable def D.spec_l1Once (x0_0 : (List Int)) (x0_1 : Int) (x0_2 : Int) (x1 : Int) : Option (Bool × ((List Int)) × Int × Int) :=
  (D.spec_l1Below x0_0 x0_1 x0_2 x1).bind fun y_1 => some ((y_1.1 == 0), y_1.2.1, y_1.2.2.1, y_1.2.2.2)

noncomputable def D.spec_l1Odd (x0_0 : (List Int)) (x0_1 : Int) (x0_2 : Int) : Option (Int × ((List Int)) × Int × Int) :=
  (D.spec_l1Below x0_0 x0_1 x0_2 10).bind fun y_5 => (idx ([(-1), 0, 1, 2147483648, (-2147483648), 1099511627776, 4611686018427387904, (-4611686018427387904), 9223372036854775807, (-9223372036854775808)] : List Int) y_5.1).bind fun e_14 => some (e_14, y_5.2.1, y_5.2.2.1, y_5.2.2.2)

noncomputable def D.spec_l1Min (x0 : Int) (x1 : Int) : Option (Int) :=
  cond (decide (x0 < x1)) (some x0) (some x1)

noncomputable def D.spec_l1Num (x0_0 : (List Int)) (x0_1 : Int) (x0_2 : Int) (x1 : Int) : Option (Int × ((List Int)) × Int × Int) :=
  (D.spec_l1Once x0_0 x0_1 x0_2 10).bind fun y_1 => cond y_1.1 ((D.spec_l1Odd y_1.2.1 y_1.2.2.1 y_1.2.2.2).bind fun y_11 => (D.spec_l1Below y_11.2.1 y_11.2.2.1 y_11.2.2.2 4).bind fun y_24 => (idx ([(-1), x1, (IntKind.i64.wrap (x1 + 1)), y_11.1] : List Int) y_24.1).bind fun e_33 => some (e_33, y_24.2.1, y_24.2.2.1, y_24.2.2.2)) ((D.spec_l1Once y_1.2.1 y_1.2.2.1 y_1.2.2.2 2).bind fun y_39 => cond y_39.1 ((D.spec_l1Min x1 4).bind fun y_49 => (D.spec_l1Below y_39.2.1 y_39.2.2.1 y_39.2.2.2 (IntKind.i64.wrap (y_49 + 1))).bind fun y_56 => some (y_56.1, y_56.2.1, y_56.2.2.1, y_56.2.2.2)) ((D.spec_l1Below y_39.2.1 y_39.2.2.1 y_39.2.2.2 (IntKind.i64.wrap (x1 + 1))).bind fun y_65 => some (y_65.1, y_65.2.1, y_65.2.2.1, y_65.2.2.2)))

noncomputable def D.spec_l1Into__deep (x0 : (List Int)) (x1 : Int) : Option (((List Int))) :=
  (loopF (σ := Int) (ρ := (Int)) (fun (x_58 : Int) => (cond (decide (x_58 < (x0.length : Int))) ((idx x0 x_58).bind fun e_104 => some (decide (e_104 < x1))) (some false)).bind fun b_102 => cond b_102 (some (.inl (IntKind.i64.wrap (x_58 + 1)))) (some (.inr x_58))) 0).bind fun x_85 => (cond (decide (x_85 < (x0.length : Int))) ((idx x0 x_85).bind fun e_128 => some (e_128 == x1)) (some false)).bind fun b_126 => cond b_126 (some x0) ((sliceD x0 0 x_85).bind fun l_138 => (D.spec_l1Copy l_138).bind fun y_142 => (appendD y_142 ([x1] : List Int)).bind fun l_157 => (sliceD x0 x_85 (x0.length : Int)).bind fun l_163 => (appendD l_157 l_163).bind fun l_167 => some l_167)

noncomputable def D.spec_l1Empty__deep (x0 : Int) : Option (((List (List Int)))) :=
  (loopF (σ := Int × (List (List Int))) (ρ := ((List (List Int)))) (fun (s_50 : Int × (List (List Int))) => match s_50 with | (x_56, l_57) => cond (decide (x_56 < x0)) ((appendD l_57 [([] : List Int)]).bind fun l_94 => some (.inl ((IntKind.i64.wrap (x_56 + 1)), l_94))) (some (.inr l_57))) (0, ([] : List (List Int)))).bind fun l_79 => some l_79

noncomputable def D.spec_l1Link__deep (x0_0 : (List (List Int))) (x1 : Int) (x2 : Int) : Option (((List (List Int)))) :=
  (idx x0_0 x1).bind fun e_8 => (D.spec_l1Into__deep e_8 x2).bind fun y_25 => (idx x0_0 x1).bind fun e_38 => (idx (x0_0.set (Int.toNat x1) y_25) x2).bind fun e_47 => (D.spec_l1Into__deep e_47 x1).bind fun y_64 => (idx (x0_0.set (Int.toNat x1) y_25) x2).bind fun e_77 => some ((x0_0.set (Int.toNat x1) y_25).set (Int.toNat x2) y_64)

noncomputable def D.spec_l6Of__deep (x0 : Int) : Option (((List (List Int))) × Bool) :=
  (D.spec_l1In x0 1 16).bind fun y_3 => cond (!y_3) (some (([] : List (List Int)), false)) ((D.spec_l1Empty__deep x0).bind fun y_16 => some (y_16, true))

noncomputable def D.spec_PathGraph__deep (x0 : Int) : Option (((List (List Int))) × Bool) :=
  (D.spec_l6Of__deep x0).bind fun y_3 => (loopF (σ := Int × (List (List Int))) (ρ := ((List (List Int)))) (fun (s_51 : Int × (List (List Int))) => match s_51 with | (x_54, l_55) => cond ((decide (x_54 < x0)) && y_3.2) ((D.spec_l1Link__deep l_55 (IntKind.i64.wrap (x_54 - 1)) x_54).bind fun y_81 => some (.inl ((IntKind.i64.wrap (x_54 + 1)), y_81))) (some (.inr l_55))) (1, y_3.1)).bind fun l_73 => some (l_73, y_3.2)

noncomputable def D.spec_LoopGraph__deep (x0 : Int) : Option (((List (List Int))) × Bool) :=
  (D.spec_PathGraph__deep x0).bind fun y_3 => cond ((!y_3.2) || (decide (x0 < 3))) (some (([] : List (List Int)), false)) ((D.spec_l1Link__deep y_3.1 0 (IntKind.i64.wrap (x0 - 1))).bind fun y_25 => some (y_25, true))

noncomputable def D.spec_l1DrawOf__deep (x0_0 : (List Int)) (x0_1 : Int) (x0_2 : Int) (x1 : Int) : Option (((List (List Int))) × ((List Int)) × Int × Int) :=
  (D.spec_l1Empty__deep x1).bind fun y_3 => (D.spec_l1Below x0_0 x0_1 x0_2 3).bind fun y_16 => (loopF (σ := Int × (List Int) × Int × Int × (List (List Int))) (ρ := ((List (List Int)) × (List Int) × Int × Int)) (fun (s_275 : Int × (List Int) × Int × Int × (List (List Int))) => match s_275 with | (x_278, l_279, x_282, x_283, l_284) => cond (decide (x_278 < x1)) ((loopF (σ := Int × (List Int) × Int × Int × (List (List Int))) (ρ := ((List Int) × Int × Int × (List (List Int)))) (fun (s_471 : Int × (List Int) × Int × Int × (List (List Int))) => match s_471 with | (x_474, l_475, x_478, x_479, l_480) => cond (decide (x_474 < x_278)) ((D.spec_l1Below l_475 x_478 x_479 4).bind fun y_515 => cond (decide (y_515.1 < (IntKind.i64.wrap (1 + y_16.1)))) ((D.spec_l1Link__deep l_480 x_474 x_278).bind fun y_525 => some (.inl ((IntKind.i64.wrap (x_474 + 1)), y_515.2.1, y_515.2.2.1, y_515.2.2.2, y_525))) (some (.inl ((IntKind.i64.wrap (x_474 + 1)), y_515.2.1, y_515.2.2.1, y_515.2.2.2, l_480)))) (some (.inr (l_475, x_478, x_479, l_480)))) (0, l_279, x_282, x_283, l_284)).bind fun (l_505, x_508, x_509, l_510) => some (.inl ((IntKind.i64.wrap (x_278 + 1)), l_505, x_508, x_509, l_510))) (some (.inr (l_284, l_279, x_282, x_283)))) (1, y_16.2.1, y_16.2.2.1, y_16.2.2.2, y_3)).bind fun (l_407, l_410, x_413, x_414) => some (l_407, l_410, x_413, x_414)

noncomputable def D.spec_l1Draw__deep (x0_0 : (List Int)) (x0_1 : Int) (x0_2 : Int) : Option (((List (List Int))) × ((List Int)) × Int × Int) :=
  (D.spec_l1Below x0_0 x0_1 x0_2 6).bind fun y_3 => cond (y_3.1 == 0) ((D.spec_l1Below y_3.2.1 y_3.2.2.1 y_3.2.2.2 4).bind fun y_13 => (D.spec_LoopGraph__deep (IntKind.i64.wrap (3 + y_13.1))).bind fun y_22 => some (y_22.1, y_13.2.1, y_13.2.2.1, y_13.2.2.2)) (cond (y_3.1 == 1) ((D.spec_l1Below y_3.2.1 y_3.2.2.1 y_3.2.2.2 6).bind fun y_37 => (D.spec_PathGraph__deep (IntKind.i64.wrap (1 + y_37.1))).bind fun y_46 => some (y_46.1, y_37.2.1, y_37.2.2.1, y_37.2.2.2)) ((D.spec_l1Below y_3.2.1 y_3.2.2.1 y_3.2.2.2 7).bind fun y_60 => (D.spec_l1DrawOf__deep y_60.2.1 y_60.2.2.1 y_60.2.2.2 (IntKind.i64.wrap (1 + y_60.1))).bind fun y_69 => some (y_69.1, y_69.2.1, y_69.2.2.1, y_69.2.2.2)))

noncomputable def D.spec_l1DrawAny (x0_0 : (List Int)) (x0_1 : Int) (x0_2 : Int) : Option (((List (List Int))) × ((List Int)) × Int × Int) :=
  (D.spec_l1Draw__deep x0_0 x0_1 x0_2).bind fun y_3 => (D.spec_l1Once y_3.2.1 y_3.2.2.1 y_3.2.2.2 12).bind fun y_18 => cond y_18.1 ((D.spec_l1Below y_18.2.1 y_18.2.2.1 y_18.2.2.2 (y_3.1.length : Int)).bind fun y_28 => (D.spec_l1Below y_28.2.1 y_28.2.2.1 y_28.2.2.2 5).bind fun y_37 => cond (y_37.1 == 0) ((((idx y_3.1 y_28.1).bind fun e_163 => (D.spec_l1Num y_37.2.1 y_37.2.2.1 y_37.2.2.2 16).bind fun y_175 => (appendD e_163 ([y_175.1] : List Int)).bind fun l_199 => (idx y_3.1 y_28.1).bind fun e_207 => some ((y_3.1.set (Int.toNat y_28.1) l_199), y_175.2.1, y_175.2.2.1, y_175.2.2.2) : Option ((List (List Int)) × (List Int) × Int × Int))).bind fun (l_127, l_130, x_133, x_134) => some (l_127, l_130, x_133, x_134)) (cond (y_37.1 == 1) ((idx y_3.1 y_28.1).bind fun e_219 => some ((y_3.1.set (Int.toNat y_28.1) ([y_28.1] : List Int)), y_37.2.1, y_37.2.2.1, y_37.2.2.2)) (cond (y_37.1 == 2) ((D.spec_l1Below y_37.2.1 y_37.2.2.1 y_37.2.2.2 2).bind fun y_227 => (D.spec_l1Empty__deep (IntKind.i64.wrap (16 + y_227.1))).bind fun y_236 => some (y_236, y_227.2.1, y_227.2.2.1, y_227.2.2.2)) (cond (y_37.1 == 3) (some (([] : List (List Int)), y_37.2.1, y_37.2.2.1, y_37.2.2.2)) (cond (y_37.1 == 4) ((idx y_3.1 y_28.1).bind fun e_259 => some ((y_3.1.set (Int.toNat y_28.1) ([] : List Int)), y_37.2.1, y_37.2.2.1, y_37.2.2.2)) (some (y_3.1, y_37.2.1, y_37.2.2.1, y_37.2.2.2))))))) (some (y_3.1, y_18.2.1, y_18.2.2.1, y_18.2.2.2))

noncomputable def D.spec_l1From (x0_0 : (List Int)) (x0_1 : Int) (x0_2 : Int) (x1 : Int) (x2 : Int) : Option (Int × ((List Int)) × Int × Int) :=
  (D.spec_l1Below x0_0 x0_1 x0_2 (IntKind.i64.wrap ((IntKind.i64.wrap (x2 - x1)) + 1))).bind fun y_1 => some ((IntKind.i64.wrap (x1 + y_1.1)), y_1.2.1, y_1.2.2.1, y_1.2.2.2)

noncomputable def D.spec_l1DrawOrder (x0_0 : (List Int)) (x0_1 : Int) (x0_2 : Int) (x1_0 : (List (List Int))) : Option (((List Int)) × ((List Int)) × Int × Int) :=
  (D.spec_l1All (x1_0.length : Int)).bind fun y_3 => (loopF (σ := (List Int) × (List Int) × (List Int) × Int × Int) (ρ := ((List Int) × (List Int) × Int × Int)) (fun (s_162 : (List Int) × (List Int) × (List Int) × Int × Int) => match s_162 with | (l_165, l_170, l_175, x_178, x_179) => cond (decide ((0 : Int) < (l_165.length : Int))) ((D.spec_l1Below l_175 x_178 x_179 (l_165.length : Int)).bind fun y_256 => (idx l_165 y_256.1).bind fun e_265 => (appendD l_170 ([e_265] : List Int)).bind fun l_275 => (sliceD l_165 0 y_256.1).bind fun l_287 => (sliceD l_165 (IntKind.i64.wrap (y_256.1 + 1)) (l_165.length : Int)).bind fun l_291 => (D.spec_l1Copy l_287).bind fun y_298 => (appendD y_298 l_291).bind fun l_311 => some (.inl (l_311, l_275, y_256.2.1, y_256.2.2.1, y_256.2.2.2))) (some (.inr (l_170, l_175, x_178, x_179)))) (y_3, ([] : List Int), x0_0, x0_1, x0_2)).bind fun (l_244, l_249, x_252, x_253) => (D.spec_l1Once l_249 x_252 x_253 15).bind fun y_317 => cond (y_317.1 && (decide ((0 : Int) < (l_244.length : Int)))) ((D.spec_l1Below y_317.2.1 y_317.2.2.1 y_317.2.2.2 (l_244.length : Int)).bind fun y_330 => (D.spec_l1From y_330.2.1 y_330.2.2.1 y_330.2.2.2 (-1) 7).bind fun y_339 => (idx l_244 y_330.1).bind fun e_348 => some ((l_244.set (Int.toNat y_330.1) y_339.1), y_339.2.1, y_339.2.2.1, y_339.2.2.2)) (some (l_244, y_317.2.1, y_317.2.2.1, y_317.2.2.2))

noncomputable def D.spec_DrawOrderOk (x0 : (List Int)) : Option (((List (List Int))) × ((List Int))) :=
  (D.spec_l1New x0).bind fun y_3 => (D.spec_l1DrawAny y_3.1 y_3.2.1 y_3.2.2).bind fun y_14 => (D.spec_l1DrawOrder y_14.2.1 y_14.2.2.1 y_14.2.2.2 y_14.1).bind fun y_70 => some (y_14.1, y_70.1)

noncomputable def D.spec_l1DrawSet (x0_0 : (List Int)) (x0_1 : Int) (x0_2 : Int) (x1_0 : (List (List Int))) : Option (((List Int)) × ((List Int)) × Int × Int) :=
  (loopF (σ := (List Int) × Int × (List Int) × Int × Int) (ρ := ((List Int) × (List Int) × Int × Int)) (fun (s_65 : (List Int) × Int × (List Int) × Int × Int) => match s_65 with | (l_68, x_73, l_74, x_77, x_78) => cond (decide (x_73 < (x1_0.length : Int))) ((D.spec_l1Once l_74 x_77 x_78 2).bind fun y_114 => cond y_114.1 ((appendD l_68 ([x_73] : List Int)).bind fun l_128 => some (.inl (l_128, (IntKind.i64.wrap (x_73 + 1)), y_114.2.1, y_114.2.2.1, y_114.2.2.2))) (some (.inl (l_68, (IntKind.i64.wrap (x_73 + 1)), y_114.2.1, y_114.2.2.1, y_114.2.2.2)))) (some (.inr (l_68, l_74, x_77, x_78)))) (([] : List Int), 0, x0_0, x0_1, x0_2)).bind fun (l_102, l_107, x_110, x_111) => (D.spec_l1Once l_107 x_110 x_111 15).bind fun y_134 => cond y_134.1 ((D.spec_l1Num y_134.2.1 y_134.2.2.1 y_134.2.2.2 (x1_0.length : Int)).bind fun y_144 => (appendD l_102 ([y_144.1] : List Int)).bind fun l_157 => some (l_157, y_144.2.1, y_144.2.2.1, y_144.2.2.2)) (some (l_102, y_134.2.1, y_134.2.2.1, y_134.2.2.2))

noncomputable def D.spec_DrawSetOk (x0 : (List Int)) : Option (((List (List Int))) × ((List Int))) :=
  (D.spec_l1New x0).bind fun y_3 => (D.spec_l1DrawAny y_3.1 y_3.2.1 y_3.2.2).bind fun y_14 => (D.spec_l1DrawSet y_14.2.1 y_14.2.2.1 y_14.2.2.2 y_14.1).bind fun y_70 => some (y_14.1, y_70.1)

noncomputable def D.impl_induced (x0 : (List Int)) (x1 : (List Int)) : Option (((List Int))) :=
  (makeD (0 : Int) (x1.length : Int) (x1.length : Int)).bind fun l_1 => (loopF (σ := (List Int) × Int) (ρ := ((List Int))) (fun (s_378 : (List Int) × Int) => match s_378 with | (l_381, x_384) => cond (decide (x_384 < (x1.length : Int))) ((idx x1 x_384).bind fun e_573 => (loopF (σ := (List Int) × Int) (ρ := ((List Int))) (fun (s_664 : (List Int) × Int) => match s_664 with | (l_667, x_670) => cond (decide (x_670 < (x1.length : Int))) ((idx x1 x_670).bind fun e_716 => (idx x0 e_573).bind fun e_722 => (D.impl_vset_has e_722 e_716).bind fun y_728 => cond y_728 ((idx l_667 x_384).bind fun e_736 => (D.impl_one x_670).bind fun y_742 => (idx l_667 x_384).bind fun e_745 => some (.inl ((l_667.set (Int.toNat x_384) (ior .u32 e_736 y_742)), (IntKind.i64.wrap (x_670 + 1))))) (some (.inl (l_667, (IntKind.i64.wrap (x_670 + 1)))))) (some (.inr l_667))) (l_381, 0)).bind fun l_711 => some (.inl (l_711, (IntKind.i64.wrap (x_384 + 1))))) (some (.inr l_381))) (l_1, 0)).bind fun l_568 => some l_568

noncomputable def D.impl_Renamed (x0_0 : (List (List Int))) (x1 : (List Int)) : Option (((List (List Int))) × Bool) :=
  (D.impl_OrderOk x0_0 x1).bind fun y_5 => cond (!y_5) (some (([] : List (List Int)), false)) ((D.impl_netsOf x0_0).bind fun y_18 => (D.impl_narrow x1).bind fun y_29 => (D.impl_induced y_18 y_29).bind fun y_40 => (D.impl_nets_graph y_40).bind fun y_60 => some (y_60, true))

noncomputable def D.impl_SetOk (x0_0 : (List (List Int))) (x1 : (List Int)) : Option (Bool) :=
  (D.impl_GraphOk x0_0).bind fun y_3 => (cond y_3 ((D.impl_increasing x1 (x0_0.length : Int)).bind fun y_29 => some y_29) (some false)).bind fun b_27 => some b_27

noncomputable def D.laws_FnSetsOk (x0 : (List Int)) : Option (Bool) :=
  (D.laws_big x0).bind fun y_1 => cond y_1 (some true) ((D.spec_DrawOrderOk x0).bind fun y_9 => (D.impl_OrderOk y_9.1 y_9.2).bind fun y_24 => (D.spec_OrderOk y_9.1 y_9.2).bind fun y_34 => cond (y_24 != y_34) (some false) ((D.spec_DrawSetOk x0).bind fun y_45 => (D.impl_Renamed y_9.1 y_9.2).bind fun y_63 => (D.impl_SetOk y_45.1 y_45.2).bind fun y_76 => (D.spec_SetOk y_45.1 y_45.2).bind fun y_82 => (cond ((y_76 == y_82) && (y_63.2 == y_24)) ((cond (!y_24) (some true) ((D.spec_GraphOk y_63.1).bind fun y_186 => (cond y_186 ((D.impl_ManyEdges y_63.1).bind fun y_205 => (D.spec_ManyEdges y_9.1).bind fun y_211 => some (y_205 == y_211)) (some false)).bind fun b_203 => some b_203)).bind fun b_184 => some b_184) (some false)).bind fun b_152 => some b_152))
end Go.Sx

/- A row of own rows of which one is out of it, and comes back. Regions whose order is drawn, beside what they write. -/
namespace Go.Sx
section
variable {W w : World} {G : GH} {H : List Itm}
theorem hole_atom {v : Value} {t1 t2 : TypeId} {rows : List (Value × List Value)} {k i : Nat} {h : Itm} (hi : ((parts v t1 t2 rows).eraseIdx k)[i]? = some h) : h.foot = h.foot0 ∧ ∀ w, h.ok w ↔ h.ok0 w := by
  rw [List.getElem?_eraseIdx] at hi
  split at hi
  · exact parts_atom hi
  · exact parts_atom hi
theorem Mem.hole {v : Value} {t1 t2 : TypeId} {rows : List (Value × List Value)} {k : Nat} : Mem W G w (.hole v t1 t2 rows k :: H) ↔ Mem W G w ((parts v t1 t2 rows).eraseIdx (k + 1) ++ H) := by
  refine Mem.group (fun x => ?_) ?_
  · show x ∈ ((parts v t1 t2 rows).eraseIdx (k + 1)).flatMap Itm.foot0 ↔ _
    rw [List.mem_flatMap]
    constructor
    · rintro ⟨h, hh, hx⟩
      obtain ⟨i, hi, he⟩ := List.getElem_of_mem hh
      have hi' : ((parts v t1 t2 rows).eraseIdx (k + 1))[i]? = some h := by rw [List.getElem?_eq_getElem hi, he]
      exact ⟨i, h, hi', by rw [(hole_atom hi').1]; exact hx⟩
    · rintro ⟨i, h, hi, hx⟩
      exact ⟨h, List.mem_of_getElem? hi, by rw [← (hole_atom hi).1]; exact hx⟩
  · constructor
    · rintro ⟨h1, h2⟩
      exact ⟨fun i h hi => ((hole_atom hi).2 w).2 (h1 i h hi), fun i j a b hij ha hb => by rw [(hole_atom ha).1, (hole_atom hb).1]; exact h2 i j a b hij ha hb⟩
    · rintro ⟨h1, h2⟩
      exact ⟨fun i h hi => ((hole_atom hi).2 w).1 (h1 i h hi), fun i j a b hij ha hb => by rw [← (hole_atom ha).1, ← (hole_atom hb).1]; exact h2 i j a b hij ha hb⟩
end

/-- own rows, of which the one at i is elsewhere -/
def OwH {α : Type} (R : Rep α) (t1 t2 : TypeId) (i : Int) (G : GH) (it : Itm) (v : Value) (xs : List (List α)) : Prop :=
  ∃ rows : List (Value × List Value), it = .hole v t1 t2 rows i.toNat ∧ 0 ≤ i ∧ i.toNat < xs.length ∧ rows.length = xs.length ∧ ∀ (k : Nat) (r : Value × List Value) (x : List α), k ≠ i.toNat → rows[k]? = some r → xs[k]? = some x → All2 (R G) r.2 x

section
variable {α : Type} {R : Rep α} {t1 t2 : TypeId} {W w : World} {G : GH} {it : Itm} {H : List Itm} {v c : Value} {xs : List (List α)} {e : List α} {i : Int}
theorem OwH.mono (hR : Mono R) {G' : GH} (hG : GLe G G') (h : OwH R t1 t2 i G it v xs) : OwH R t1 t2 i G' it v xs := by
  obtain ⟨rows, h1, h2, h3, h4, h5⟩ := h
  exact ⟨rows, h1, h2, h3, h4, fun k r x hk hr hx => (h5 k r x hk hr hx).mono (fun v x => hR G G' v x hG)⟩
/-- one of the rows goes out -/
theorem Ow2.out (h : Ow2 R t1 t2 G it v xs) (m : Mem W G w (it :: H)) (hi : idx xs i = some e) (hc : Head it i c) :
    ∃ it' inn, Mem W G w (it' :: inn :: H) ∧ OwH R t1 t2 i G it' v xs ∧ Ow R t2 G inn c e := by
  obtain ⟨rows, rfl, hl, hA⟩ := h
  obtain ⟨v0, s1, s2, rows0, r, e0, hr, rfl⟩ := hc
  cases e0
  obtain ⟨g0, g1, g2⟩ := idx_some hi
  have hlt : i.toNat < rows.length := by omega
  have m2 := Mem.deep.1 m
  have hpl : i.toNat + 1 < (parts v t1 t2 rows).length := by simp [parts]; omega
  have hp : (parts v t1 t2 rows ++ H)[i.toNat + 1]? = some (inner t2 r) := by
    rw [List.getElem?_append_left hpl]; simp [parts, hr]
  have m3 := m2.front (i.toNat + 1) hp
  rw [eraseIdx_append_left' hpl] at m3
  have m4 : Mem W G w ((parts v t1 t2 rows).eraseIdx (i.toNat + 1) ++ (inner t2 r :: H)) := by
    have hll : (((parts v t1 t2 rows).eraseIdx (i.toNat + 1))).length ≤ ((parts v t1 t2 rows).eraseIdx (i.toNat + 1) ++ H).length := by simp
    have := m3.back _ hll
    rwa [List.take_left, List.drop_left] at this
  have hAr := hA _ r e hr g2
  exact ⟨_, _, Mem.hole.2 m4, ⟨rows, rfl, g0, by omega, hl, fun k r x _ hr hx => hA k r x hr hx⟩, ⟨r.2, by simp [inner, hAr.1], hAr⟩⟩
end

section
variable {P : Program} {ops : Array Oper} {rest : List Oper} {n r : Assn} {x : List (Nat × Assn)} {a : Act} {w W : World} {G : GH} {H : List Itm} {N : Nat} {L : Slots}
variable {d : Nat} {t : TypeId} {pos : String} {af : Array Edge} {α : Type} {R : Rep α} {t1 t2 : TypeId} {xs : List (List α)} {v : Value}

theorem heads_hole {v : Value} {rows : List (Value × List Value)} {k : Nat} (m : Mem W G w ((parts v t1 t2 rows).eraseIdx (k + 1) ++ H)) : w.ownsRow 0 t1 1 v rows.length (rows.map (·.1)) := by
  have := m.items 0 (.row v t1 1 rows.length (rows.map (·.1))) (by simp [parts])
  exact this

/-- the place in a row of own rows of which one is out -/
theorem l_ownH_at {it : Itm} {u e bytes : Nat} {z : Value} {xo io : Operand} {k : IntKind} {i ii : Int} {y : List α} (j : Nat) (m : Mem W G w H) (h : OwH R t1 t2 ii G it v xs) (hj : H[j]? = some it)
    (hu : SlT P u e 1 bytes z) (f : Fr a N L) (hN : Nat.blt d N = true) (hx : evalL L xo = some v) (hi : evalL L io = some (.int k i)) (he : idx xs i = some y)
    (q : ∀ p a', OwnAt v p i → Fr a' N ((d, p) :: L) → wpList P ops (Qk n x r) rest a' w) :
    wpList P ops (Qk n x r) (⟨some d, .indexAddr u xo io, t, pos, af, none⟩ :: rest) a w := by
  obtain ⟨g0, g1, _⟩ := idx_some he
  obtain ⟨rows, rfl, _, _, hl, _⟩ := h
  have m2 := Mem.hole.1 (m.front j hj)
  have hr := heads_hole m2
  have hlt : i.toNat < rows.length := by omega
  rcases hr.2 with ⟨_, e2⟩ | ⟨g, cap, cur, e1, _, eh, e2, e3, e4, e5⟩
  · omega
  · subst e1
    refine l_op f rfl rfl hN (r_indexAddr (f.eval hx) (f.eval hi) hu g0 (by omega)) fun a' f' => ?_
    exact q _ a' ⟨g, _, cap, rfl, by rw [addr_add, Nat.mul_one, Nat.zero_add]⟩ f'

/-- an own row is put where one is out -/
theorem l_ownH_store {u : Nat} {dp inn : Itm} {p h : Value} {e : List α} {i : Int} {xo yo : Operand} (m : Mem W G w (dp :: inn :: H)) (hd : OwH R t1 t2 i G dp v xs) (hi : Ow R t2 G inn h e)
    (hz : ∀ w, (sizeOf u).run P w = .ok 1 w) (f : Fr a N L) (hx : evalL L xo = some p) (hy : evalL L yo = some h) (ha : OwnAt v p i)
    (q : ∀ dp' w', Mem W G w' (dp' :: H) → Ow2 R t1 t2 G dp' v (xs.set i.toNat e) → wpList P ops (Qk n x r) rest a w') :
    wpList P ops (Qk n x r) (⟨none, .store u xo yo, t, pos, af, none⟩ :: rest) a w := by
  obtain ⟨rows, rfl, hi0, hil, hl, hA⟩ := hd
  have h1 : h.cells = #[h] := Ow.cells 1 m hi rfl
  have h2 : h.oneCell' = true := Ow.one1 1 m hi rfl
  obtain ⟨vs, rfl, hiA⟩ := inner_of hi
  have m2 := Mem.hole.1 m
  have hro := heads_hole m2
  have g1' : i.toNat < rows.length := by omega
  obtain ⟨b, mm, cc, e1, rfl⟩ := ha
  subst e1
  rcases hro.2 with ⟨hn, _⟩ | ⟨g, cap, cur, e1, _, eh, e2, e3, e4, e5⟩
  · cases hn
  · cases e1
    simp only [Nat.mul_one] at e4 e5
    have hr := r_store (P := P) (ρ := a.eval) (w := w) (d := none) (t := t) (pos := pos) (af := af) (gd := none) (u := u) (off := i.toNat) (f.eval hx) (f.eval hy) (by rw [h1]; exact hz) eh (by rw [h1]; simp; omega) (by rw [h1]; simpa using h2)
    refine l_void rfl rfl hr ?_
    rw [h1]
    simp only [List.size_toArray, List.length_cons, List.length_nil, Nat.zero_add]
    have hset : cur.toList.take i.toNat ++ [h] ++ cur.toList.drop (i.toNat + 1) = cur.toList.set i.toNat h := by
      rw [List.set_eq_take_append_cons_drop, if_pos (by simp; omega)]; simp
    rw [hset]
    -- the inner row to the front of the inner ones
    have m3 := m2.changeAt (h := .row (.slice (some ⟨b, 0, none⟩) rows.length cc) t1 1 rows.length (rows.map (·.1))) (h' := .row (.slice (some ⟨b, 0, none⟩) rows.length cc) t1 1 rows.length ((rows.map (·.1)).set i.toNat h)) (w' := w.setRow b ((cur.toList.set i.toNat h).toArray)) 0 (by simp [parts]) rfl rfl rfl (fun z _ hz' => setRow_other w b z _ (by simpa [Itm.foot, Value.ownBlock] using hz'))
      ⟨by simp, .inr ⟨b, cc, _, rfl, Nat.zero_le _, setRow_heap w b cur _ t1 _ eh, e2, e3, by simp [e4], by simp only [Nat.mul_one]; rw [← e5, List.take_set]⟩⟩ (fun z hz' => .inl hz')
    have e6 : ((parts (.slice (some ⟨b, 0, none⟩) rows.length cc) t1 t2 rows).eraseIdx (i.toNat + 1) ++ inner t2 (h, vs) :: H).set 0 (.row (.slice (some ⟨b, 0, none⟩) rows.length cc) t1 1 rows.length ((rows.map (·.1)).set i.toNat h))
        = (.row (.slice (some ⟨b, 0, none⟩) rows.length cc) t1 1 rows.length ((rows.map (·.1)).set i.toNat h) :: (rows.map (inner t2)).eraseIdx i.toNat) ++ inner t2 (h, vs) :: H := by
      simp [parts]
    rw [e6] at m3
    have m4 := m3.front ((rows.map (inner t2)).eraseIdx i.toNat).length.succ (x := inner t2 (h, vs)) (by rw [List.getElem?_append_right (by simp)]; simp)
    rw [List.eraseIdx_append_of_length_le (by simp)] at m4
    simp only [List.length_cons, Nat.succ_eq_add_one, Nat.sub_self, List.eraseIdx_cons_zero] at m4
    have m5 := m4.back (i.toNat + 1) (by simp [List.length_eraseIdx, g1']; omega)
    have e7 : ((Itm.row (.slice (some ⟨b, 0, none⟩) rows.length cc) t1 1 rows.length ((rows.map (·.1)).set i.toNat h) :: (rows.map (inner t2)).eraseIdx i.toNat) ++ H).take (i.toNat + 1) ++ inner t2 (h, vs) ::
        ((Itm.row (.slice (some ⟨b, 0, none⟩) rows.length cc) t1 1 rows.length ((rows.map (·.1)).set i.toNat h) :: (rows.map (inner t2)).eraseIdx i.toNat) ++ H).drop (i.toNat + 1) = parts (.slice (some ⟨b, 0, none⟩) rows.length cc) t1 t2 (rows.set i.toNat (h, vs)) ++ H := by
      have e8 : (Itm.row (.slice (some ⟨b, 0, none⟩) rows.length cc) t1 1 rows.length ((rows.map (·.1)).set i.toNat h) :: (rows.map (inner t2)).eraseIdx i.toNat) ++ H = ((Itm.row (.slice (some ⟨b, 0, none⟩) rows.length cc) t1 1 rows.length ((rows.map (·.1)).set i.toNat h) :: rows.map (inner t2)) ++ H).eraseIdx (i.toNat + 1) := by
        rw [eraseIdx_append_left' (by simp; omega)]; rfl
      rw [e8, set_eq_erase _ _ _ (by simp; omega), List.set_append, if_pos (by simp; omega)]
      congr 1
      simp [parts, List.map_set]
    rw [e7] at m5
    refine q _ _ (Mem.deep.2 m5) ⟨_, by simp only [List.length_set] at *; first | rfl | (rw [hl]), by simp [hl], fun k r0 x0 hr hx0 => ?_⟩
    rw [List.getElem?_set] at hr hx0
    by_cases hk : i.toNat = k
    · subst hk
      simp [g1'] at hr
      rw [if_pos rfl, if_pos hil] at hx0
      subst hr; cases hx0
      exact hiA
    · rw [if_neg hk] at hr hx0
      exact hA k r0 x0 (fun e => hk e.symm) hr hx0
end

/-- a drawn region that writes some of what is there -/
theorem k_drawE {P : Program} {id : Nat} {l : List Oper} {nn r : Assn} {x : List (Nat × Assn)} {a : Act} {w W : World} {G : GH} (E H : List Itm) (n : Nat) (hm : P.follows .mixedOrders = true) (hb : bodyB l.toArray n [] = true) (m : Mem W G w (E ++ H))
    (h : AnyB W P l.toArray (Qk nn x r) (fun a w => wpList P l.toArray (Qk nn x r) (l.drop n) a w) H n G E (Array.replicate l.length false) a) : (Code.region id l.toArray true).wp P (Qk nn x r) a w := by
  have hn := (bodyB_spec hb).2.1
  refine wp_region_any hm ?_
  have hcl : Cl W G (E ++ H) { w with drawn := w.drawn + 1 } := ⟨G, GLe.refl G, m.congr rfl rfl rfl rfl⟩
  have hzero : ∀ k, (Array.replicate l.length false).getD k true = if k < l.length then false else true := fun k => by
    by_cases hk : k < l.length
    · simp [hk]
    · simp [hk]
  have hun : ∀ k, k ≤ l.length → unl (Array.replicate l.length false) k = k := by
    intro k
    induction k with
    | zero => intro _; rfl
    | succ k ih => intro hk; simp only [unl, ih (by omega), hzero]; rw [if_pos (show k < l.length from by omega)]; rfl
  have L : Lst l.toArray n [] n (Array.replicate l.length false) := ⟨by simp, by simp, hun n (by simpa using hn), fun t _ h2 => by rw [hzero, if_pos (by simpa using h2)], fun j hj hl => by
    rw [hzero, if_pos (by have : n ≤ l.length := by simpa using hn
                          omega)] at hl; cases hl⟩
  have := AnyB.sound (P := P) (W := W) (Q := Qk nn x r) hb (l.toArray.size - n) (T := fun a w => wpList P l.toArray (Qk nn x r) (l.drop n) a w) (fun listed a w L h =>
    tail_list hb (l.toArray.size - n) n listed a w (Nat.le_refl _) rfl hn L.size (unl_zero L.count) L.tail (by simpa using h)) n G E _ a _ L hcl h
  have e : n + (l.toArray.size - n) = l.toArray.size := by omega
  rw [e] at this
  simpa using this
end Go.Sx

namespace Go.Sx


end Go.Sx

namespace Go.Sx


end Go.Sx

namespace Go.Sx


end Go.Sx

namespace Go.Sx


end Go.Sx

namespace Go.Sx


end Go.Sx

namespace Go.Sx


end Go.Sx

namespace Go.Proofs
open Go.Shelf
def Tryd.lays125_ren : Go.Shelf.Ren := ⟨fun | 125 => 84 | 128 => 117 | 129 => 118 | n => n, fun | 46 => 48 | 3 => 3 | 51 => 58 | 53 => 118 | 4 => 4 | 5 => 5 | 9 => 9 | n => n, fun | n => n⟩
theorem Tryd.lays125 : Go.Proofs.Lays.n125 Tryd.prog Tryd.lays125_ren := {
  mixed := by kernel_rfl
  f125 := Tryd.func84.trans (congrArg some (by kernel_rfl))
  f128 := Tryd.func117.trans (congrArg some (by kernel_rfl))
  f129 := Tryd.func118.trans (congrArg some (by kernel_rfl))
  t3 := Tryd.underlying3
  a3 := Tryd.isAgg3
  z3 := Tryd.sizeOf3
  v3 := Tryd.zeroValue3
  t4 := Tryd.underlying4
  a4 := Tryd.isAgg4
  z4 := Tryd.sizeOf4
  v4 := Tryd.zeroValue4
  t5 := Tryd.underlying5
  a5 := Tryd.isAgg5
  z5 := Tryd.sizeOf5
  v5 := Tryd.zeroValue5
  t9 := Tryd.underlying9
  a9 := Tryd.isAgg9
  z9 := Tryd.sizeOf9
  v9 := Tryd.zeroValue9
  t46 := Tryd.underlying48
  a46 := Tryd.isAgg48
  z46 := Tryd.sizeOf48
  v46 := Tryd.zeroValue48
  t51 := Tryd.underlying58
  a51 := Tryd.isAgg58
  z51 := Tryd.sizeOf58
  v51 := Tryd.zeroValue58
  t53 := Tryd.underlying118
  a53 := Tryd.isAgg118
  z53 := Tryd.sizeOf118
  v53 := Tryd.zeroValue118 }
theorem Tryd.bits_Len (x : Int) (w : World) (h0 : 0 ≤ x) (h1 : x ≤ 18446744073709551615) :
    Calls Tryd.prog 84 #[.int .u64 x] w fun e w' => e = .returned (.int .i64 (Lib.bitLen x.toNat)) ∧ w' = w := Any.bits_Len Tryd.lays125 x w h0 h1
end Go.Proofs
namespace Go.Proofs.YtocakchlhemmeaaDoor
open Go Go.Sx
theorem Wk.math_bits_Len {W w : World} {G : GH} {H : List Itm} {x0 : Int} (m : Mem W G w H) {y : Int} (hd : D.math_bits_Len x0 = some y) :
    Calls Tryd.prog 84 #[(.int .u64 x0)] w (Res W G H (fun _ Ho v => Ho = [] ∧ v = (.int .i64 y))) := by
  unfold D.math_bits_Len at hd
  split at hd
  · rename_i h
    obtain rfl := Option.some.inj hd
    exact (Tryd.bits_Len x0 w h.1 h.2).mono (fun e w' ⟨he, hw⟩ => by subst hw; exact ⟨_, he, G, [], GLe.refl G, m, rfl, rfl⟩)
  · cases hd
end Go.Proofs.YtocakchlhemmeaaDoor

namespace Go.Proofs
open Go.RowKit Go.Shelf
attribute [local go_sem] Oper.semAt_some
namespace YtocakchlhemmeaaDoor

def upto {α : Type} (f : Nat → α) (k : Nat) : List α := (List.range k).map f
theorem upto_succ {α : Type} (f : Nat → α) (k : Nat) : upto f (k + 1) = upto f k ++ [f k] := by simp [upto, List.range_succ]
theorem upto_length {α : Type} (f : Nat → α) (k : Nat) : (upto f k).length = k := by simp [upto]
theorem upto_all (zs : List Int) : upto (fun j => zs[j]?.getD 0) zs.length = zs := by
  apply List.ext_getElem
  · simp [upto]
  · intro i h1 h2
    simp [upto, h2]
theorem upto_take (zs : List Int) {k : Nat} (hk : k ≤ zs.length) : upto (fun j => zs[j]?.getD 0) k = zs.take k := by
  apply List.ext_getElem
  · simp [upto, hk]
  · intro i h1 h2
    have : i < zs.length := by simp [upto] at h1; omega
    simp [upto, this]

set_option maxRecDepth 100000 in
set_option maxHeartbeats 2000000 in
theorem values1_in (F : Fence) (n : Nat) (h7 : F.fn 96) (hro : F.round = none) (hn : 1 ≤ n) (l Bs n₀ b off len cap : Nat) (zs : List Int) (hreach : len * 8 ≤ 140737488351232) (hb : len = 0 ∨ b < n₀) (J Jx : List Int → World → Prop)
    (hY : ∀ pre x W, J pre W → pre.length < len → YieldAt F (n - 1) Tryd.prog l #[.int .i64 x] W fun e W' =>
      (e = .returned (.bool true) ∧ J (pre ++ [x]) W' ∧ Below n₀ W W') ∨ (e = .returned (.bool false) ∧ Jx (pre ++ [x]) W'))
    (W : World) (hBs : W.cell? ⟨Bs, 0, none⟩ = some (.slice (some ⟨b, off, none⟩) len cap)) (hc : ∀ j, j < len → W.cell? ⟨b, off + j, none⟩ = some (.int .i64 (zs[j]?.getD 0))) (h0 : J [] W) :
    CallsIn F n Tryd.prog 96 #[.func (.yield l) #[] #[], .pointer (some ⟨Bs, 0, none⟩)] W fun e W' => (∃ v, e = .returned v) ∧
      ((∃ ys, ys = upto (fun j => zs[j]?.getD 0) len ∧ J ys W') ∨ (∃ pre, (∃ k, k ≤ len ∧ pre = upto (fun j => zs[j]?.getD 0) k) ∧ Jx pre W')) := by
  refine callsIn_of_wp Tryd.func96 rfl h7 ?_ hro
  simp only [Tryd.ntmps96, List.size_toArray, List.length_cons, List.length_nil, Nat.reduceAdd, Nat.reduceSub, Array.replicate_succ, Array.replicate_zero, List.push_toArray, List.append_toArray, List.nil_append, List.cons_append]
  gi_wp2
  gi_loopw [7] (fun i wr => ∃ k : Nat, k ≤ len ∧ i = .int .i64 k ∧ J (upto (fun j => zs[j]?.getD 0) k) wr ∧ Below n₀ W wr)
    (fun i _ => len - (intOf i).toNat)
  case atStart => exact ⟨0, Nat.zero_le _, rfl, h0, Below.refl _ _⟩
  case round =>
    obtain ⟨k, hk, rfl, hJs, hnx⟩ := hrel
    have hcx : k < len → wr.cell? ⟨b, off + k, none⟩ = some (.int .i64 (zs[k]?.getD 0)) := fun h => (hnx.cell (p := ⟨b, off + k, none⟩) (hb.resolve_left (by omega))).trans (hc k h)
    by_cases hlt : k < len
    · obtain ⟨fn, tmps, assign, body, hy, hR⟩ := hY _ (zs[k]?.getD 0) wr hJs (by rw [upto_length]; exact hlt)
      have hcx' := hcx hlt
      gi_wp2
      refine hR.mono ?_
      rintro e W3 (⟨rfl, hJ3, hk3⟩ | ⟨rfl, hJx3⟩)
      · gi_wp2
        go_roundw
        case rel => exact ⟨k + 1, by omega, by simp, by rw [upto_succ]; exact hJ3, hnx.trans hk3⟩
        case measure => simp [intOf]; omega
      · gi_wp2
        refine bodyPost_ret (results_none rfl _ _ _) rfl ?_
        exact ⟨⟨_, rfl⟩, .inr ⟨_, ⟨k + 1, by omega, (upto_succ _ _).symm⟩, hJx3⟩⟩
    · obtain rfl : k = len := by omega
      gi_wp2
      go_end0
      exact ⟨⟨_, rfl⟩, .inl ⟨_, rfl, hJs⟩⟩

def Ints (n₀ : Nat) (W : World) (sv : Value) (zs : List Int) : Prop :=
  ((∃ a c, sv = .slice a 0 c) ∧ zs = []) ∨ ∃ b off cap, sv = .slice (some ⟨b, off, none⟩) zs.length cap ∧ (zs.length = 0 ∨ b < n₀) ∧ ∀ j, j < zs.length → W.cell? ⟨b, off + j, none⟩ = some (.int .i64 (zs[j]?.getD 0))
theorem Ints.below {n₀ : Nat} {A B : World} (h : Below n₀ A B) {sv : Value} {zs : List Int} : Ints n₀ A sv zs → Ints n₀ B sv zs
  | .inl e => .inl e
  | .inr ⟨b, off, cap, e, hb, hc⟩ => .inr ⟨b, off, cap, e, hb, fun j hj => (h.cell (p := ⟨b, off + j, none⟩) (hb.resolve_left (by omega))).trans (hc j hj)⟩

set_option maxRecDepth 100000 in
set_option maxHeartbeats 1000000 in
theorem values1_nil_in (F : Fence) (n : Nat) (h7 : F.fn 96) (hro : F.round = none) (l Bs : Nat) (J : List Int → World → Prop) (W : World) (a : Option Addr) (c : Nat) (hBs : W.cell? ⟨Bs, 0, none⟩ = some (.slice a 0 c)) (h0 : J [] W) :
    CallsIn F n Tryd.prog 96 #[.func (.yield l) #[] #[], .pointer (some ⟨Bs, 0, none⟩)] W fun e W' => (∃ v, e = .returned v) ∧ J [] W' := by
  refine callsIn_of_wp Tryd.func96 rfl h7 ?_ hro
  simp only [Tryd.ntmps96, List.size_toArray, List.length_cons, List.length_nil, Nat.reduceAdd, Nat.reduceSub, Array.replicate_succ, Array.replicate_zero, List.push_toArray, List.append_toArray, List.nil_append, List.cons_append]
  gi_wp2
  gi_loopw [7] (fun i wr => i = .int .i64 0 ∧ J [] wr) (fun _ _ => 0)
  case atStart => exact ⟨rfl, h0⟩
  case round =>
    obtain ⟨rfl, hJs⟩ := hrel
    gi_wp2
    go_end0
    exact ⟨⟨_, rfl⟩, hJs⟩

theorem values_stops (F : Fence) (n : Nat) (h7 : F.fn 96) (hro : F.round = none) (hn : 1 ≤ n) (Bs n₀ : Nat) (sv : Value) (zs : List Int) (hreach : zs.length * 8 ≤ 140737488351232) (w : World) (hBs : Bs < w.heap.size) (hn₀ : n₀ ≤ w.heap.size)
    (hc : w.cell? ⟨Bs, 0, none⟩ = some sv) (hI : Ints n₀ w sv zs) :
    SeqStopsK F n Tryd.prog 96 #[.pointer (some ⟨Bs, 0, none⟩)] (fun x : Int => #[Value.int .i64 x]) (Below n₀) (fun ys => ys = zs) (fun pre => pre <+: zs) zs.length w := fun l J Jx W hW _ _ hY h0 => by
  have hc' := (hW.cell (p := ⟨Bs, 0, none⟩) hBs).trans hc
  rcases hI.below (hW.mono hn₀) with ⟨⟨a, c, rfl⟩, rfl⟩ | ⟨b, off, cap, rfl, hb, hcs⟩
  · exact (values1_nil_in F n h7 hro l Bs J W a c hc' h0).mono fun e W' ⟨he, hj⟩ => ⟨he, .inl ⟨_, rfl, hj⟩⟩
  · refine (values1_in F n h7 hro hn l Bs n₀ b off zs.length cap zs hreach hb J Jx hY W hc' hcs h0).mono ?_
    rintro e W' ⟨he, ⟨ys, rfl, hj⟩ | ⟨pre, ⟨k, hk, rfl⟩, hj⟩⟩
    · exact ⟨he, .inl ⟨_, upto_all zs, hj⟩⟩
    · exact ⟨he, .inr ⟨_, by rw [upto_take zs hk]; exact List.take_prefix _ _, hj⟩⟩

theorem info2 : (Tryd.prog.info? 2).map (fun i => (i.zero, i.size, i.bytes)) = some (some (.int .i64 0), 1, 8) := by kernel_rfl

set_option maxRecDepth 100000 in
set_option maxHeartbeats 4000000 in
theorem AppendSeq_in (F : Fence) (n : Nat) (h3 : F.fn 127) (h5 : F.fn 96) (hro : F.round = none) (hn : 3 ≤ n) (Bs : Nat) (sv : Value) (xs : List Int) (hlen : xs.length ≤ maxLen) (hbytes : xs.length * 8 ≤ 140737488351232) (w : World) (hBs : Bs < w.heap.size) (hc : w.cell? ⟨Bs, 0, none⟩ = some sv) (hL : Ints w.heap.size w sv xs) :
    CallsIn F n Tryd.prog 127 #[.slice none 0 0, .func (.func 96) #[] #[.pointer (some ⟨Bs, 0, none⟩)]] w fun e W' => ∃ v, e = .returned v ∧ W'.ownsRow w.heap.size 2 1 v xs.length (xs.map (Value.int .i64)) ∧ Below w.heap.size w W' := by
  have h1 : 1 ≤ n := by omega
  obtain ⟨i0, hi, hz0, hz1, hz2⟩ := info_parts info2
  refine callsIn_of_wp_marks Tryd.func127 rfl h3 ?_ hro
  simp only [Tryd.ntmps127, List.size_toArray, List.length_cons, List.length_nil, Nat.reduceAdd, Nat.reduceSub, Array.replicate_succ, Array.replicate_zero, List.push_toArray, List.append_toArray, List.nil_append, List.cons_append]
  gi_wp2
  have bO := Boxed.new w 36 (.slice none 0 0)
  have hB0 : Below w.heap.size w (w.alloc (.cells #[.slice none 0 0] 36)) := (Below.refl _ w).alloc (Nat.le_refl _) _
  refine wpIn_rangeFunc_ownG hro h1 (gf := 96) (lb := #[.pointer (some ⟨Bs, 0, none⟩)]) rfl h5 (enters_of Tryd.func96 (by kernel_rfl) rfl)
    (values_stops F (n - 1) h5 hro (by omega) Bs w.heap.size sv xs hbytes _ (by simp; omega) (by simp) ((hB0.cell (p := ⟨Bs, 0, none⟩) hBs).trans hc) (hL.below hB0)) belowK_t (belowK_b (by simp)) (Below.refl _ _) (fun _ => rfl)
    (fun pre W => (∃ v, Boxed W w.heap.size 36 v ∧ W.ownsRow w.heap.size 2 1 v pre.length (pre.map (Value.int .i64)) ∧ (v = .slice none 0 0 ↔ pre = [])) ∧ Below w.heap.size w W)
    (fun _ _ _ => False)
    (OwnFrom.and (Own.from (holdsRow_own w.heap.size w.heap.size 36 2 1 (fun pre => pre.length) (fun pre => pre.map (Value.int .i64)) (fun pre v => v = .slice none 0 0 ↔ pre = [])) _) (ownFrom_below (Nat.le_refl _) (by simp)))
    (fun _ _ _ _ _ hs _ _ => hs)
    ⟨⟨_, bO, World.ownsRow_nil _ _ _ _, by simp⟩, hB0⟩
    (fun x => { tmps := #[.slice none 0 0, .func (.func 96) #[] #[.pointer (some ⟨Bs, 0, none⟩)], .pointer (some ⟨w.heap.size, 0, none⟩), undef, .slice none 0 0, .int .i64 x, .func (.func 96) #[] #[.pointer (some ⟨Bs, 0, none⟩)], .int .i64 x, undef, undef, undef, undef, undef], defers := [] }) ?assign ?body ?done ?stop
  case assign =>
    intro l x W K hK
    gi_wp2
    exact hK
  case body =>
    rintro l pre x W ⟨⟨v, hv, hrow, hnil⟩, hB⟩ hlt
    have hc := hv.cell
    gi_wp2_with (gi_at_builtin; refine wpListIn_append_own _ rfl _ _ 36 rfl w.heap.size 2 i0 (.int .i64 0) 1 8 Tryd.underlying36 hi hz0 hz1 hz2 rfl (by decide) _ _ _ rfl (hrow.alloc _) ⟨W.heap.size, 0, none⟩ 1 1 [.int .i64 x] rfl rfl (cell_one_new _ _ _) (by simp [Value.oneCell']) (by omega) (by omega) (by have := hB.size; simp; omega) ?_; intro v' w1 hown' hgrow _; obtain ⟨g', cap', rfl⟩ := ownsRow_succ hown'; obtain ⟨hv1, hv2, hr2, hk2, hb2⟩ := hv.appended (by decide) hrow hB.size (Nat.le_refl _) hown' hgrow; have hc1 := hv1.cell; have hf1 := hv1.frozen)
    exact ⟨hk2.from _, hb2, ⟨_, hv2, by simpa using hr2, by simp⟩, hB.trans hb2⟩
  case done =>
    rintro D ys W hD rfl ⟨⟨v, hv, hrow, hnil⟩, hB⟩ hK
    have hc := hv.cell
    gi_wp2
    refine ⟨by simp, .inl ⟨_, _, rfl, run_takeDeferred hK, ?_⟩⟩
    exact ⟨_, results_tmp rfl _ _ _, v, rfl, ownsRow_putObj hrow _ hK rfl, hB.trans (belowK_b (w := w) (Nat.le_refl _) W D _ _ (by simp at hD; omega) hK rfl rfl)⟩
  case stop =>
    rintro D c pre W _ _ h _
    exact h.elim

set_option maxHeartbeats 1000000 in
theorem values_in (F : Fence) (n : Nat) (h5 : F.fn 54) (hro : F.round = none) (a : Option Addr) (len cap : Nat) (w : World) :
    CallsIn F n Tryd.prog 54 #[.slice a len cap] w fun e w' => e = .returned (.func (.func 96) #[] #[.pointer (some ⟨w.heap.size, 0, none⟩)]) ∧ w' = w.alloc (.cells #[.slice a len cap] 36) := by
  refine callsIn_of_wp Tryd.func54 rfl h5 ?_ hro
  simp only [Tryd.ntmps54, List.size_toArray, List.length_cons, List.length_nil, Nat.reduceAdd, Nat.reduceSub, Array.replicate_succ, Array.replicate_zero, List.push_toArray, List.append_toArray, List.nil_append, List.cons_append]
  gi_wp2
  go_ret
  exact ⟨rfl, rfl⟩

open Go.Sx in
theorem Wk.slices_Values_int64_int64 {W w : World} {G : GH} {H : List Itm} {v : Value} {x : List Int} (m : Mem W G w H) (h : RSl (RI .i64) G v x) :
    Calls Tryd.prog 54 #[v] w (Res W G H (fun _ Ho r => ∃ b, Ho = [Itm.box b 36 [v]] ∧ .func (.func 96) #[] #[.pointer (some ⟨b, 0, none⟩)] = r)) := by
  obtain ⟨a, c, rfl, _, _⟩ := h.len
  refine (callsIn_wide (n := 3)).1 ((values_in Fence.wide 3 trivial rfl a x.length c w).mono ?_)
  rintro e w' ⟨rfl, rfl⟩
  exact ⟨_, rfl, G, [.box w.heap.size 36 [.slice a x.length c]], GLe.refl G, m.alloc 36 [.slice a x.length c], _, rfl, rfl⟩

open Go.Sx in
theorem Wk.slices_AppendSeq_int64_int64 {W w : World} {G : GH} {H : List Itm} {b0 : Nat} {v : Value} {x y : List Int} (m : Mem W G w (Itm.box b0 36 [v] :: H)) (h : RSl (RI .i64) G v x) (hy : D.slices_AppendSeq_int64_int64 x = some y) :
    Calls Tryd.prog 127 #[.slice none 0 0, .func (.func 96) #[] #[.pointer (some ⟨b0, 0, none⟩)]] w (Res W G H (fun G' Ho r => ∃ r' it, Ho = [it] ∧ r' = r ∧ Go.Sx.Ow (RI .i64) 2 G' it r' y)) := by
  unfold D.slices_AppendSeq_int64_int64 at hy
  split at hy
  · rename_i hx
    obtain rfl := Option.some.inj hy
    have hb0 : w.heap[b0]? = some (.cells #[v] 36 (0, 0)) := m.items 0 (.box b0 36 [v]) rfl
    have hc : w.cell? ⟨b0, 0, none⟩ = some v := by simp [World.cell?, hb0]
    have hl : b0 < w.heap.size := (Array.getElem?_eq_some_iff.1 hb0).1
    have hI : Ints w.heap.size w v x := by
      obtain ⟨vs, hA, h⟩ := h
      rcases h with ⟨rfl, rfl⟩ | ⟨⟨b, off, sp⟩, cap, rfl, h1, h2, h3⟩
      · exact .inl ⟨⟨_, _, rfl⟩, rfl⟩
      · rcases Nat.eq_zero_or_pos x.length with h0 | h0
        · refine .inl ⟨⟨_, _, by rw [h0]⟩, List.eq_nil_of_length_eq_zero h0⟩
        · obtain ⟨c, hc, _⟩ := hA.get (i := 0) (x := x[0]) (by simp [h0])
          obtain ⟨rfl, cs, t, f, k1, _⟩ := h3 0 c hc
          refine .inr ⟨b, off, cap, rfl, .inr (m.glt k1), fun j hj => ?_⟩
          obtain ⟨c, hc, hR⟩ := hA.get (i := j) (x := x[j]) (by simp [hj])
          have := (h3 j c hc).2.get m
          rw [this, show c = .int .i64 x[j] from hR]
          simp [hj]
    refine (callsIn_wide (n := 3)).1 ((AppendSeq_in Fence.wide 3 trivial trivial rfl (by omega) b0 v x (by unfold maxLen; omega) (by omega) w hl hc hI).mono ?_)
    rintro e w' ⟨r, rfl, hrow, hB⟩
    refine ⟨_, rfl, G, [.row r 2 1 x.length (x.map (Value.int .i64))], GLe.refl G, ?_, r, _, rfl, rfl, x.map (Value.int .i64), rfl, by simp, fun i c z h1 h2 => ?_⟩
    · refine m.tail.add hB.os hB.tape hB.output (fun z hz => hB.block z hz) ?_ ?_
      · refine ⟨hrow.1, ?_⟩
        rcases hrow.2 with hn | ⟨g, cap, cur, e1, _, e3⟩
        · exact .inl hn
        · exact .inr ⟨g, cap, cur, e1, Nat.zero_le _, e3⟩
      · intro z hz
        rcases hrow.2 with ⟨rfl, _⟩ | ⟨g, cap, cur, rfl, e2, e3⟩
        · simp [Itm.foot, Value.ownBlock] at hz
        · simp [Itm.foot, Value.ownBlock] at hz; omega
    · rw [List.getElem?_map, h2] at h1
      exact (Option.some.inj h1).symm
  · cases hy
end YtocakchlhemmeaaDoor
end Go.Proofs
