/- Parts of the proof: DC1, DC2, DC3, DC4, SxH, SxP, SxG, Sr, DF1, SxN, SxDel, DF2, DF3, Sll, DF4, NAD, NBD, NCD, NDD, NHandA, NHandB, Qa, S1D, Ga, Gb, Gc, Gd, Ge, Pa, Pb, Pc, Pd, Pe, Gf, Gh. -/
import Derived.Test.YtebbefpdncgoiaaDoorCl1
import Derived.Shelf.Small.Bits
import Derived.Test.YtebbefpdncgoiaaDoorProg
import Derived.RangeFuncBox
import Derived.RangeFuncLeaves
import Derived.Shelf.Abstract
import Derived.WalkKit
import Derived.OwnWalkIn
import Derived.TacticsInMore
import Derived.LoopNIn
import Derived.LoopIn
import Derived.Maps.AppendAt
set_option linter.unusedVariables false
set_option linter.unusedSimpArgs false
set_option linter.unusedSectionVars false
namespace Go.Sx

noncomputable def D.f (x0 : Int) : Option (Bool) :=
  some (x0 != x0)

noncomputable def D.N (x0 : Int) (x1 : Int) : Option (Int) :=
  (D.f x0).bind fun y_1 => (D.f x1).bind fun y_8 => cond y_1 (cond y_8 (some 0) (some (-1))) (cond y_8 (some 1) (cond (decide (x0 < x1)) (some (-1)) (cond (decide (x1 < x0)) (some 1) (some 0))))

noncomputable def D.P (x0 : (List Int)) (x1 : (List Int)) : Option (Int) :=
  (loopF (σ := Int) (ρ := (Unit) ⊕ (Int)) (fun (x_54 : Int) => cond (decide (x_54 < (x0.length : Int))) ((idx x0 x_54).bind fun e_81 => cond (decide ((x1.length : Int) ≤ x_54)) (some (.inr (.inr 1))) ((idx x1 x_54).bind fun e_88 => (D.N e_81 e_88).bind fun y_94 => cond (y_94 != 0) (some (.inr (.inr y_94))) (some (.inl (IntKind.i64.wrap (x_54 + 1)))))) (some (.inr (.inl ())))) 0).bind fun zz => match zz with | .inl _ => (cond (decide ((x0.length : Int) < (x1.length : Int))) (some (-1)) (some 0)) | .inr z => (some z)

noncomputable def D.L0 : Nat → ((List Int)) → Int → Int → Int → ((List Int)) → Option (((List Int)))
  | 0, _, _, _, _, _ => none
  | fuel + 1, x0, x1, x2, x3, x4 => cond (x2 == 0) (((cond (x3 == 0) ((appendD x4 ([x1] : List Int)).bind fun l_27 => some l_27) (some x4) : Option ((List Int)))).bind fun l_16 => some l_16) ((D.l x2).bind fun y_33 => (loopF (σ := Int × Int × (List Int) × Int) (ρ := ((List Int))) (fun (s_155 : Int × Int × (List Int) × Int) => match s_155 with | (x_158, x_159, l_160, x_165) => cond (decide (x_165 < (y_33.length : Int))) ((idx y_33 x_165).bind fun e_224 => (D.d e_224).bind fun y_230 => (idx x0 e_224).bind fun e_233 => (idx x0 e_224).bind fun e_239 => (D.L0 fuel x0 (ior .u32 x1 y_230) (iand .u32 x_158 e_233) (iand .u32 x_159 e_239) l_160).bind fun y_247 => (D.d e_224).bind fun y_258 => (D.d e_224).bind fun y_265 => some (.inl ((iandNot .u32 x_158 y_258), (ior .u32 x_159 y_265), y_247, (IntKind.i64.wrap (x_165 + 1))))) (some (.inr l_160))) (x2, x3, x4, 0)).bind fun l_217 => some l_217)

noncomputable def D.k0 (x0 : (List Int)) (x1 : Int) (x2 : Int) (x3 : Int) (x4 : (List Int)) : Option (((List Int))) := D.L0 recFuel x0 x1 x2 x3 x4

noncomputable def D.b (x0 : Int) (x1 : Int) : Option (Int) :=
  (D.l x0).bind fun y_1 => (D.l x1).bind fun y_12 => (D.P y_1 y_12).bind fun y_23 => some y_23

noncomputable def D.c1 (x0 : (List Int)) (x1 : Int) (x2 : Int) : Option (((List Int))) :=
  (loopF (σ := (List Int) × Int) (ρ := ((List Int))) (fun (s_560 : (List Int) × Int) => match s_560 with | (l_563, x_566) => cond (decide (x_566 < x2)) ((loopF (σ := (List Int) × Int) (ρ := ((List Int))) (fun (s_984 : (List Int) × Int) => match s_984 with | (l_987, x_990) => (cond (decide (x1 < x_990)) ((idx l_987 x_990).bind fun e_1079 => (idx l_987 (IntKind.i64.wrap (x_990 - 1))).bind fun e_1085 => (D.b e_1079 e_1085).bind fun y_1091 => some (decide (y_1091 < 0))) (some false)).bind fun b_1077 => cond b_1077 ((idx l_987 (IntKind.i64.wrap (x_990 - 1))).bind fun e_1097 => (idx l_987 x_990).bind fun e_1103 => (idx l_987 x_990).bind fun e_1109 => (idx (l_987.set (Int.toNat x_990) e_1097) (IntKind.i64.wrap (x_990 - 1))).bind fun e_1117 => some (.inl (((l_987.set (Int.toNat x_990) e_1097).set (Int.toNat (IntKind.i64.wrap (x_990 - 1))) e_1103), (IntKind.i64.wrap (x_990 - 1))))) (some (.inr l_987))) (l_563, x_566)).bind fun l_1056 => some (.inl (l_1056, (IntKind.i64.wrap (x_566 + 1))))) (some (.inr l_563))) (x0, (IntKind.i64.wrap (x1 + 1)))).bind fun l_844 => some l_844

noncomputable def D.f1 (x0 : (List Int)) (x1 : Int) (x2 : Int) (x3 : Int) : Option (((List Int))) :=
  (loopF (σ := (List Int) × Int) (ρ := ((List Int)) ⊕ (((List Int)))) (fun (s_186 : (List Int) × Int) => match s_186 with | (l_189, x_192) => cond (decide (x2 ≤ (IntKind.i64.wrap ((IntKind.i64.wrap (2 * x_192)) + 1)))) (some (.inr (.inl l_189))) ((cond (decide ((IntKind.i64.wrap ((IntKind.i64.wrap ((IntKind.i64.wrap (2 * x_192)) + 1)) + 1)) < x2)) ((idx l_189 (IntKind.i64.wrap (x3 + (IntKind.i64.wrap ((IntKind.i64.wrap (2 * x_192)) + 1))))).bind fun e_307 => (idx l_189 (IntKind.i64.wrap ((IntKind.i64.wrap (x3 + (IntKind.i64.wrap ((IntKind.i64.wrap (2 * x_192)) + 1)))) + 1))).bind fun e_313 => (D.b e_307 e_313).bind fun y_319 => some (decide (y_319 < 0))) (some false)).bind fun b_305 => ((cond b_305 (some (IntKind.i64.wrap ((IntKind.i64.wrap ((IntKind.i64.wrap (2 * x_192)) + 1)) + 1))) (some (IntKind.i64.wrap ((IntKind.i64.wrap (2 * x_192)) + 1))) : Option (Int))).bind fun x_328 => (idx l_189 (IntKind.i64.wrap (x3 + x_192))).bind fun e_331 => (idx l_189 (IntKind.i64.wrap (x3 + x_328))).bind fun e_337 => (D.b e_331 e_337).bind fun y_343 => cond (!(decide (y_343 < 0))) (some (.inr (.inr l_189))) ((idx l_189 (IntKind.i64.wrap (x3 + x_328))).bind fun e_349 => (idx l_189 (IntKind.i64.wrap (x3 + x_192))).bind fun e_355 => (idx l_189 (IntKind.i64.wrap (x3 + x_192))).bind fun e_361 => (idx (l_189.set (Int.toNat (IntKind.i64.wrap (x3 + x_192))) e_349) (IntKind.i64.wrap (x3 + x_328))).bind fun e_369 => some (.inl (((l_189.set (Int.toNat (IntKind.i64.wrap (x3 + x_192))) e_349).set (Int.toNat (IntKind.i64.wrap (x3 + x_328))) e_355), x_328))))) (x0, x1)).bind fun zz => match zz with | .inl l_283 => (some l_283) | .inr z => (some z)

noncomputable def D.b1 (x0 : (List Int)) (x1 : Int) (x2 : Int) : Option (((List Int))) :=
  (loopF (σ := (List Int) × Int) (ρ := ((List Int))) (fun (s_30 : (List Int) × Int) => match s_30 with | (l_33, x_36) => cond (decide ((0 : Int) ≤ x_36)) ((D.f1 l_33 x_36 (IntKind.i64.wrap (x2 - x1)) x1).bind fun y_54 => some (.inl (y_54, (IntKind.i64.wrap (x_36 - 1))))) (some (.inr l_33))) (x0, (IntKind.i64.wrap (Int.tdiv (IntKind.i64.wrap ((IntKind.i64.wrap (x2 - x1)) - 1)) 2)))).bind fun l_49 => (loopF (σ := (List Int) × Int) (ρ := ((List Int))) (fun (s_144 : (List Int) × Int) => match s_144 with | (l_147, x_150) => cond (decide ((0 : Int) ≤ x_150)) ((idx l_147 (IntKind.i64.wrap (x1 + x_150))).bind fun e_194 => (idx l_147 x1).bind fun e_200 => (idx l_147 x1).bind fun e_206 => (idx (l_147.set (Int.toNat x1) e_194) (IntKind.i64.wrap (x1 + x_150))).bind fun e_214 => (D.f1 ((l_147.set (Int.toNat x1) e_194).set (Int.toNat (IntKind.i64.wrap (x1 + x_150))) e_200) 0 x_150 x1).bind fun y_220 => some (.inl (y_220, (IntKind.i64.wrap (x_150 - 1))))) (some (.inr l_147))) (l_49, (IntKind.i64.wrap ((IntKind.i64.wrap (x2 - x1)) - 1)))).bind fun l_189 => some l_189

noncomputable def D.X0 (x0 : (List Int)) (x1 : Int) (x2 : Int) : Option (((List Int))) :=
  cond (decide ((8 : Int) ≤ (IntKind.i64.wrap (x2 - x1)))) ((D.v (IntKind.i64.wrap (x2 - x1))).bind fun y_4 => (loopF (σ := (List Int) × Int × Int) (ρ := ((List Int))) (fun (s_103 : (List Int) × Int × Int) => match s_103 with | (l_106, x_109, x_110) => cond (decide (x_109 ≤ (IntKind.i64.wrap ((IntKind.i64.wrap (x1 + (IntKind.i64.wrap ((IntKind.i64.wrap (Int.tdiv (IntKind.i64.wrap (x2 - x1)) 4)) * 2)))) + 1)))) ((D.E x_110).bind fun y_159 => ((cond (decide ((IntKind.i64.wrap (x2 - x1)) ≤ (IntKind.i64.wrap (iand .u64 y_159.1 (IntKind.u64.wrap (y_4 - 1)))))) (some (IntKind.i64.wrap ((IntKind.i64.wrap (iand .u64 y_159.1 (IntKind.u64.wrap (y_4 - 1)))) - (IntKind.i64.wrap (x2 - x1))))) (some (IntKind.i64.wrap (iand .u64 y_159.1 (IntKind.u64.wrap (y_4 - 1))))) : Option (Int))).bind fun x_170 => (idx l_106 (IntKind.i64.wrap (x1 + x_170))).bind fun e_173 => (idx l_106 x_109).bind fun e_179 => (idx l_106 x_109).bind fun e_185 => (idx (l_106.set (Int.toNat x_109) e_173) (IntKind.i64.wrap (x1 + x_170))).bind fun e_193 => some (.inl (((l_106.set (Int.toNat x_109) e_173).set (Int.toNat (IntKind.i64.wrap (x1 + x_170))) e_179), (IntKind.i64.wrap (x_109 + 1)), y_159.2))) (some (.inr l_106))) (x0, (IntKind.i64.wrap ((IntKind.i64.wrap (x1 + (IntKind.i64.wrap ((IntKind.i64.wrap (Int.tdiv (IntKind.i64.wrap (x2 - x1)) 4)) * 2)))) - 1)), (IntKind.u64.wrap (IntKind.i64.wrap (x2 - x1))))).bind fun l_154 => some l_154) (some x0)

noncomputable def D.S0 (x0 : (List Int)) (x1 : Int) (x2 : Int) (x3_0 : Int) : Option (Int × Int × ((List Int)) × Int) :=
  (idx x0 x2).bind fun e_1 => (idx x0 x1).bind fun e_7 => (D.b e_1 e_7).bind fun y_13 => cond (decide (y_13 < 0)) (some (x2, x1, x0, (IntKind.i64.wrap (x3_0 + 1)))) (some (x1, x2, x0, x3_0))

noncomputable def D.V0 (x0 : (List Int)) (x1 : Int) (x2 : Int) (x3 : Int) (x4_0 : Int) : Option (Int × ((List Int)) × Int) :=
  (D.S0 x0 x1 x2 x4_0).bind fun y_1 => (D.S0 y_1.2.2.1 y_1.2.1 x3 y_1.2.2.2).bind fun y_10 => (D.S0 y_10.2.2.1 y_1.1 y_10.1 y_10.2.2.2).bind fun y_19 => some (y_19.2.1, y_19.2.2.1, y_19.2.2.2)

noncomputable def D.O0 (x0 : (List Int)) (x1 : Int) (x2_0 : Int) : Option (Int × ((List Int)) × Int) :=
  (D.V0 x0 (IntKind.i64.wrap (x1 - 1)) x1 (IntKind.i64.wrap (x1 + 1)) x2_0).bind fun y_1 => some (y_1.1, y_1.2.1, y_1.2.2)

noncomputable def D.a1 (x0 : (List Int)) (x1 : Int) (x2 : Int) : Option (Int × Int × ((List Int))) :=
  cond (decide ((8 : Int) ≤ (IntKind.i64.wrap (x2 - x1)))) (((cond (decide ((50 : Int) ≤ (IntKind.i64.wrap (x2 - x1)))) ((D.O0 x0 (IntKind.i64.wrap (x1 + (IntKind.i64.wrap ((IntKind.i64.wrap (Int.tdiv (IntKind.i64.wrap (x2 - x1)) 4)) * 1)))) 0).bind fun y_44 => (D.O0 y_44.2.1 (IntKind.i64.wrap (x1 + (IntKind.i64.wrap ((IntKind.i64.wrap (Int.tdiv (IntKind.i64.wrap (x2 - x1)) 4)) * 2)))) y_44.2.2).bind fun y_53 => (D.O0 y_53.2.1 (IntKind.i64.wrap (x1 + (IntKind.i64.wrap ((IntKind.i64.wrap (Int.tdiv (IntKind.i64.wrap (x2 - x1)) 4)) * 3)))) y_53.2.2).bind fun y_62 => some (y_62.2.1, y_44.1, y_53.1, y_62.1, y_62.2.2)) (some (x0, (IntKind.i64.wrap (x1 + (IntKind.i64.wrap ((IntKind.i64.wrap (Int.tdiv (IntKind.i64.wrap (x2 - x1)) 4)) * 1)))), (IntKind.i64.wrap (x1 + (IntKind.i64.wrap ((IntKind.i64.wrap (Int.tdiv (IntKind.i64.wrap (x2 - x1)) 4)) * 2)))), (IntKind.i64.wrap (x1 + (IntKind.i64.wrap ((IntKind.i64.wrap (Int.tdiv (IntKind.i64.wrap (x2 - x1)) 4)) * 3)))), 0)) : Option ((List Int) × Int × Int × Int × Int))).bind fun (l_35, x_38, x_39, x_40, x_41) => (D.V0 l_35 x_38 x_39 x_40 x_41).bind fun y_71 => cond (y_71.2.2 == 0) (some (y_71.1, 1, y_71.2.1)) (cond (y_71.2.2 == 12) (some (y_71.1, 2, y_71.2.1)) (some (y_71.1, 0, y_71.2.1)))) (cond ((0 : Int) == 0) (some ((IntKind.i64.wrap (x1 + (IntKind.i64.wrap ((IntKind.i64.wrap (Int.tdiv (IntKind.i64.wrap (x2 - x1)) 4)) * 2)))), 1, x0)) (cond ((0 : Int) == 12) (some ((IntKind.i64.wrap (x1 + (IntKind.i64.wrap ((IntKind.i64.wrap (Int.tdiv (IntKind.i64.wrap (x2 - x1)) 4)) * 2)))), 2, x0)) (some ((IntKind.i64.wrap (x1 + (IntKind.i64.wrap ((IntKind.i64.wrap (Int.tdiv (IntKind.i64.wrap (x2 - x1)) 4)) * 2)))), 0, x0))))

noncomputable def D.Y0 (x0 : (List Int)) (x1 : Int) (x2 : Int) : Option (((List Int))) :=
  (loopF (σ := (List Int) × Int × Int) (ρ := ((List Int))) (fun (s_65 : (List Int) × Int × Int) => match s_65 with | (l_68, x_71, x_72) => cond (decide (x_71 < x_72)) ((idx l_68 x_72).bind fun e_107 => (idx l_68 x_71).bind fun e_113 => (idx l_68 x_71).bind fun e_119 => (idx (l_68.set (Int.toNat x_71) e_107) x_72).bind fun e_127 => some (.inl (((l_68.set (Int.toNat x_71) e_107).set (Int.toNat x_72) e_113), (IntKind.i64.wrap (x_71 + 1)), (IntKind.i64.wrap (x_72 - 1))))) (some (.inr l_68))) (x0, x1, (IntKind.i64.wrap (x2 - 1)))).bind fun l_102 => some l_102

noncomputable def D.Z0 (x0 : (List Int)) (x1 : Int) (x2 : Int) : Option (Bool × ((List Int))) :=
  (loopF (σ := (List Int) × Int × Int) (ρ := ((List Int)) ⊕ (Bool × ((List Int)))) (fun (s_1625 : (List Int) × Int × Int) => match s_1625 with | (l_1628, x_1631, x_1632) => cond (decide (x_1632 < 5)) ((loopF (σ := Int) (ρ := (Int)) (fun (x_2530 : Int) => (cond (decide (x_2530 < x2)) ((idx l_1628 x_2530).bind fun e_2591 => (idx l_1628 (IntKind.i64.wrap (x_2530 - 1))).bind fun e_2597 => (D.b e_2591 e_2597).bind fun y_2603 => some (!(decide (y_2603 < 0)))) (some false)).bind fun b_2589 => cond b_2589 (some (.inl (IntKind.i64.wrap (x_2530 + 1)))) (some (.inr x_2530))) x_1631).bind fun x_2570 => cond (x_2570 == x2) (some (.inr (.inr (true, l_1628)))) (cond (decide ((IntKind.i64.wrap (x2 - x1)) < 50)) (some (.inr (.inr (false, l_1628)))) ((idx l_1628 (IntKind.i64.wrap (x_2570 - 1))).bind fun e_2611 => (idx l_1628 x_2570).bind fun e_2617 => (idx l_1628 x_2570).bind fun e_2623 => (idx (l_1628.set (Int.toNat x_2570) e_2611) (IntKind.i64.wrap (x_2570 - 1))).bind fun e_2631 => ((cond (decide ((2 : Int) ≤ (IntKind.i64.wrap (x_2570 - x1)))) ((loopF (σ := (List Int) × Int) (ρ := ((List Int))) (fun (s_2947 : (List Int) × Int) => match s_2947 with | (l_2950, x_2953) => cond (decide ((1 : Int) ≤ x_2953)) ((idx l_2950 x_2953).bind fun e_3006 => (idx l_2950 (IntKind.i64.wrap (x_2953 - 1))).bind fun e_3012 => (D.b e_3006 e_3012).bind fun y_3018 => cond (!(decide (y_3018 < 0))) (some (.inr l_2950)) ((idx l_2950 (IntKind.i64.wrap (x_2953 - 1))).bind fun e_3024 => (idx l_2950 x_2953).bind fun e_3030 => (idx l_2950 x_2953).bind fun e_3036 => (idx (l_2950.set (Int.toNat x_2953) e_3024) (IntKind.i64.wrap (x_2953 - 1))).bind fun e_3044 => some (.inl (((l_2950.set (Int.toNat x_2953) e_3024).set (Int.toNat (IntKind.i64.wrap (x_2953 - 1))) e_3030), (IntKind.i64.wrap (x_2953 - 1)))))) (some (.inr l_2950))) (((l_1628.set (Int.toNat x_2570) e_2611).set (Int.toNat (IntKind.i64.wrap (x_2570 - 1))) e_2617), (IntKind.i64.wrap (x_2570 - 1)))).bind fun l_3001 => some l_3001) (some ((l_1628.set (Int.toNat x_2570) e_2611).set (Int.toNat (IntKind.i64.wrap (x_2570 - 1))) e_2617)) : Option ((List Int)))).bind fun l_2843 => cond (decide ((2 : Int) ≤ (IntKind.i64.wrap (x2 - x_2570)))) ((loopF (σ := (List Int) × Int) (ρ := ((List Int))) (fun (s_3150 : (List Int) × Int) => match s_3150 with | (l_3153, x_3156) => cond (decide (x_3156 < x2)) ((idx l_3153 x_3156).bind fun e_3209 => (idx l_3153 (IntKind.i64.wrap (x_3156 - 1))).bind fun e_3215 => (D.b e_3209 e_3215).bind fun y_3221 => cond (!(decide (y_3221 < 0))) (some (.inr l_3153)) ((idx l_3153 (IntKind.i64.wrap (x_3156 - 1))).bind fun e_3227 => (idx l_3153 x_3156).bind fun e_3233 => (idx l_3153 x_3156).bind fun e_3239 => (idx (l_3153.set (Int.toNat x_3156) e_3227) (IntKind.i64.wrap (x_3156 - 1))).bind fun e_3247 => some (.inl (((l_3153.set (Int.toNat x_3156) e_3227).set (Int.toNat (IntKind.i64.wrap (x_3156 - 1))) e_3233), (IntKind.i64.wrap (x_3156 + 1)))))) (some (.inr l_3153))) (l_2843, (IntKind.i64.wrap (x_2570 + 1)))).bind fun l_3204 => some (.inl (l_3204, x_2570, (IntKind.i64.wrap (x_1632 + 1))))) (some (.inl (l_2843, x_2570, (IntKind.i64.wrap (x_1632 + 1)))))))) (some (.inr (.inl l_1628)))) (x0, (IntKind.i64.wrap (x1 + 1)), 0)).bind fun zz => match zz with | .inl l_2442 => (some (false, l_2442)) | .inr z => (some z)

noncomputable def D.U0 (x0 : (List Int)) (x1 : Int) (x2 : Int) (x3 : Int) : Option (Int × ((List Int))) :=
  (idx x0 x3).bind fun e_1 => (idx x0 x1).bind fun e_7 => (idx x0 x1).bind fun e_13 => (idx (x0.set (Int.toNat x1) e_1) x3).bind fun e_21 => (loopF (σ := (List Int) × Int × Int) (ρ := ((List Int) × Int)) (fun (s_739 : (List Int) × Int × Int) => match s_739 with | (l_742, x_745, x_746) => (loopF (σ := Int) (ρ := (Int)) (fun (x_1188 : Int) => (cond (decide (x_1188 ≤ x_746)) ((idx l_742 x1).bind fun e_1249 => (idx l_742 x_1188).bind fun e_1255 => (D.b e_1249 e_1255).bind fun y_1261 => some (!(decide (y_1261 < 0)))) (some false)).bind fun b_1247 => cond b_1247 (some (.inl (IntKind.i64.wrap (x_1188 + 1)))) (some (.inr x_1188))) x_745).bind fun x_1228 => (loopF (σ := Int) (ρ := (Int)) (fun (x_1350 : Int) => (cond (decide (x_1228 ≤ x_1350)) ((idx l_742 x1).bind fun e_1411 => (idx l_742 x_1350).bind fun e_1417 => (D.b e_1411 e_1417).bind fun y_1423 => some (decide (y_1423 < 0))) (some false)).bind fun b_1409 => cond b_1409 (some (.inl (IntKind.i64.wrap (x_1350 - 1)))) (some (.inr x_1350))) x_746).bind fun x_1390 => cond (decide (x_1390 < x_1228)) (some (.inr (l_742, x_1228))) ((idx l_742 x_1390).bind fun e_1430 => (idx l_742 x_1228).bind fun e_1436 => (idx l_742 x_1228).bind fun e_1442 => (idx (l_742.set (Int.toNat x_1228) e_1430) x_1390).bind fun e_1450 => some (.inl (((l_742.set (Int.toNat x_1228) e_1430).set (Int.toNat x_1390) e_1436), (IntKind.i64.wrap (x_1228 + 1)), (IntKind.i64.wrap (x_1390 - 1)))))) (((x0.set (Int.toNat x1) e_1).set (Int.toNat x3) e_7), (IntKind.i64.wrap (x1 + 1)), (IntKind.i64.wrap (x2 - 1)))).bind fun (l_1100, x_1103) => some (x_1103, l_1100)

noncomputable def D.d1 (x0 : (List Int)) (x1 : Int) (x2 : Int) (x3 : Int) : Option (Int × Bool × ((List Int))) :=
  (idx x0 x3).bind fun e_1 => (idx x0 x1).bind fun e_7 => (idx x0 x1).bind fun e_13 => (idx (x0.set (Int.toNat x1) e_1) x3).bind fun e_21 => (loopF (σ := Int) (ρ := (Int)) (fun (x_110 : Int) => (cond (decide (x_110 ≤ (IntKind.i64.wrap (x2 - 1)))) ((idx ((x0.set (Int.toNat x1) e_1).set (Int.toNat x3) e_7) x_110).bind fun e_171 => (idx ((x0.set (Int.toNat x1) e_1).set (Int.toNat x3) e_7) x1).bind fun e_177 => (D.b e_171 e_177).bind fun y_183 => some (decide (y_183 < 0))) (some false)).bind fun b_169 => cond b_169 (some (.inl (IntKind.i64.wrap (x_110 + 1)))) (some (.inr x_110))) (IntKind.i64.wrap (x1 + 1))).bind fun x_150 => (loopF (σ := Int) (ρ := (Int)) (fun (x_272 : Int) => (cond (decide (x_150 ≤ x_272)) ((idx ((x0.set (Int.toNat x1) e_1).set (Int.toNat x3) e_7) x_272).bind fun e_333 => (idx ((x0.set (Int.toNat x1) e_1).set (Int.toNat x3) e_7) x1).bind fun e_339 => (D.b e_333 e_339).bind fun y_345 => some (!(decide (y_345 < 0)))) (some false)).bind fun b_331 => cond b_331 (some (.inl (IntKind.i64.wrap (x_272 - 1)))) (some (.inr x_272))) (IntKind.i64.wrap (x2 - 1))).bind fun x_312 => cond (decide (x_312 < x_150)) ((idx ((x0.set (Int.toNat x1) e_1).set (Int.toNat x3) e_7) x1).bind fun e_352 => (idx ((x0.set (Int.toNat x1) e_1).set (Int.toNat x3) e_7) x_312).bind fun e_358 => (idx ((x0.set (Int.toNat x1) e_1).set (Int.toNat x3) e_7) x_312).bind fun e_364 => (idx (((x0.set (Int.toNat x1) e_1).set (Int.toNat x3) e_7).set (Int.toNat x_312) e_352) x1).bind fun e_372 => some (x_312, true, ((((x0.set (Int.toNat x1) e_1).set (Int.toNat x3) e_7).set (Int.toNat x_312) e_352).set (Int.toNat x1) e_358))) ((idx ((x0.set (Int.toNat x1) e_1).set (Int.toNat x3) e_7) x_312).bind fun e_378 => (idx ((x0.set (Int.toNat x1) e_1).set (Int.toNat x3) e_7) x_150).bind fun e_384 => (idx ((x0.set (Int.toNat x1) e_1).set (Int.toNat x3) e_7) x_150).bind fun e_390 => (idx (((x0.set (Int.toNat x1) e_1).set (Int.toNat x3) e_7).set (Int.toNat x_150) e_378) x_312).bind fun e_398 => (loopF (σ := (List Int) × Int × Int) (ρ := ((List Int) × Int)) (fun (s_1116 : (List Int) × Int × Int) => match s_1116 with | (l_1119, x_1122, x_1123) => (loopF (σ := Int) (ρ := (Int)) (fun (x_1565 : Int) => (cond (decide (x_1565 ≤ x_1123)) ((idx l_1119 x_1565).bind fun e_1626 => (idx l_1119 x1).bind fun e_1632 => (D.b e_1626 e_1632).bind fun y_1638 => some (decide (y_1638 < 0))) (some false)).bind fun b_1624 => cond b_1624 (some (.inl (IntKind.i64.wrap (x_1565 + 1)))) (some (.inr x_1565))) x_1122).bind fun x_1605 => (loopF (σ := Int) (ρ := (Int)) (fun (x_1727 : Int) => (cond (decide (x_1605 ≤ x_1727)) ((idx l_1119 x_1727).bind fun e_1788 => (idx l_1119 x1).bind fun e_1794 => (D.b e_1788 e_1794).bind fun y_1800 => some (!(decide (y_1800 < 0)))) (some false)).bind fun b_1786 => cond b_1786 (some (.inl (IntKind.i64.wrap (x_1727 - 1)))) (some (.inr x_1727))) x_1123).bind fun x_1767 => cond (decide (x_1767 < x_1605)) (some (.inr (l_1119, x_1767))) ((idx l_1119 x_1767).bind fun e_1807 => (idx l_1119 x_1605).bind fun e_1813 => (idx l_1119 x_1605).bind fun e_1819 => (idx (l_1119.set (Int.toNat x_1605) e_1807) x_1767).bind fun e_1827 => some (.inl (((l_1119.set (Int.toNat x_1605) e_1807).set (Int.toNat x_1767) e_1813), (IntKind.i64.wrap (x_1605 + 1)), (IntKind.i64.wrap (x_1767 - 1)))))) (((((x0.set (Int.toNat x1) e_1).set (Int.toNat x3) e_7).set (Int.toNat x_150) e_378).set (Int.toNat x_312) e_384), (IntKind.i64.wrap (x_150 + 1)), (IntKind.i64.wrap (x_312 - 1)))).bind fun (l_1477, x_1480) => (idx l_1477 x1).bind fun e_1833 => (idx l_1477 x_1480).bind fun e_1839 => (idx l_1477 x_1480).bind fun e_1845 => (idx (l_1477.set (Int.toNat x_1480) e_1833) x1).bind fun e_1853 => some (x_1480, false, ((l_1477.set (Int.toNat x_1480) e_1833).set (Int.toNat x1) e_1839)))

noncomputable def D.H0 : Nat → ((List Int)) → Int → Int → Int → Option (((List Int)))
  | 0, _, _, _, _ => none
  | fuel + 1, x0, x1, x2, x3 => (loopF (σ := (List Int) × Int × Int × Int × Bool × Bool) (ρ := (((List Int)))) (fun (s_398 : (List Int) × Int × Int × Int × Bool × Bool) => match s_398 with | (l_401, x_404, x_405, x_406, b_407, b_408) => cond (decide ((IntKind.i64.wrap (x_405 - x_404)) ≤ 12)) ((D.c1 l_401 x_404 x_405).bind fun y_411 => some (.inr y_411)) (cond (x_406 == 0) ((D.b1 l_401 x_404 x_405).bind fun y_421 => some (.inr y_421)) (((cond (!b_407) ((D.X0 l_401 x_404 x_405).bind fun y_449 => some (y_449, (IntKind.i64.wrap (x_406 - 1)))) (some (l_401, x_406)) : Option ((List Int) × Int))).bind fun (l_443, x_446) => (D.a1 l_443 x_404 x_405).bind fun y_458 => ((cond (y_458.2.1 == 2) ((D.Y0 y_458.2.2 x_404 x_405).bind fun y_487 => some (y_487, (IntKind.i64.wrap ((IntKind.i64.wrap (x_405 - 1)) - (IntKind.i64.wrap (y_458.1 - x_404)))), 1)) (some (y_458.2.2, y_458.1, y_458.2.1)) : Option ((List Int) × Int × Int))).bind fun (l_480, x_483, x_484) => ((cond ((b_407 && b_408) && (x_484 == 1)) ((D.Z0 l_480 x_404 x_405).bind fun y_521 => cond y_521.1 (some (.inr y_521.2)) (some (.inl y_521.2))) (some (.inl l_480)) : Option (((List Int)) ⊕ (((List Int)))))).bind fun q => match q with | .inl l_516 => ((cond (decide ((0 : Int) < x_404)) ((idx l_516 (IntKind.i64.wrap (x_404 - 1))).bind fun e_550 => (idx l_516 x_483).bind fun e_556 => (D.b e_550 e_556).bind fun y_562 => some (!(decide (y_562 < 0)))) (some false)).bind fun b_548 => cond b_548 ((D.U0 l_516 x_404 x_405 x_483).bind fun y_568 => some (.inl (y_568.2, y_568.1, x_405, x_446, b_407, b_408))) ((D.d1 l_516 x_404 x_405 x_483).bind fun y_577 => cond (decide ((IntKind.i64.wrap (y_577.1 - x_404)) < (IntKind.i64.wrap (x_405 - y_577.1)))) ((D.H0 fuel y_577.2.2 x_404 y_577.1 x_446).bind fun y_587 => some (.inl (y_587, (IntKind.i64.wrap (y_577.1 + 1)), x_405, x_446, (decide ((IntKind.i64.wrap (Int.tdiv (IntKind.i64.wrap (x_405 - x_404)) 8)) ≤ (IntKind.i64.wrap (y_577.1 - x_404)))), y_577.2.1))) ((D.H0 fuel y_577.2.2 (IntKind.i64.wrap (y_577.1 + 1)) x_405 x_446).bind fun y_596 => some (.inl (y_596, x_404, y_577.1, x_446, (decide ((IntKind.i64.wrap (Int.tdiv (IntKind.i64.wrap (x_405 - x_404)) 8)) ≤ (IntKind.i64.wrap (x_405 - y_577.1)))), y_577.2.1))))) | .inr q => (some (.inr q))))) (x0, x1, x2, x3, true, true)).bind fun z => some z

noncomputable def D.R (x0 : (List Int)) (x1 : Int) (x2 : Int) (x3 : Int) : Option (((List Int))) := D.H0 recFuel x0 x1 x2 x3

noncomputable def D.R0 (x0 : (List Int)) : Option (((List Int))) :=
  (D.m (IntKind.u64.wrap (x0.length : Int))).bind fun y_1 => (D.R x0 0 (x0.length : Int) y_1).bind fun y_8 => some y_8

noncomputable def D.K0 (x0 : (List Int)) : Option (((List Int))) :=
  (D.J0 x0).bind fun y_1 => (D.k0 x0 0 y_1 0 ([])).bind fun y_11 => (D.R0 y_11).bind fun y_22 => some y_22

end Go.Sx

namespace Go.Sx

end Go.Sx

namespace Go.Sx

noncomputable def D.e1 (x0_0 : (List (List Int))) : Option (((List (List Int)))) :=
  (D.S x0_0).bind fun y_3 => cond (!y_3) (some ([] : List (List Int))) ((D.Q0 x0_0).bind fun y_14 => (D.K0 y_14).bind fun y_25 => (D.M0 y_25).bind fun y_39 => some y_39)

noncomputable def D.D : Nat → ((List (List Int))) → ((List Int)) → ((List Int)) → ((List Int)) → Option (((List (List Int))))
  | 0, _, _, _, _ => none
  | fuel + 1, x0_0, x1, x2, x3 => cond (((x2.length : Int) == 0) && ((x3.length : Int) == 0)) (some ([x1] : List (List Int))) ((loopF (σ := (List (List Int)) × Int) (ρ := ((List (List Int)))) (fun (s_614 : (List (List Int)) × Int) => match s_614 with | (l_617, x_622) => cond (decide (x_622 < (x2.length : Int))) ((idx x2 x_622).bind fun e_926 => (((sliceD x2 (IntKind.i64.wrap (x_622 + 1)) (x2.length : Int)).bind fun l_1087 => (idx x0_0 e_926).bind fun e_1091 => (sliceD x2 0 x_622).bind fun l_1097 => (idx x0_0 e_926).bind fun e_1101 => (D.h x1).bind fun y_1110 => (appendD y_1110 ([e_926] : List Int)).bind fun l_1131 => (D.p l_1087 e_1091).bind fun y_1140 => (D.h x3).bind fun y_1154 => (appendD y_1154 l_1097).bind fun l_1168 => (D.p l_1168 e_1101).bind fun y_1177 => (D.D fuel x0_0 l_1131 y_1140 y_1177).bind fun y_1202 => some y_1202 : Option ((List (List Int))))).bind fun l_1081 => (appendD l_617 l_1081).bind fun l_1213 => some (.inl (l_1213, (IntKind.i64.wrap (x_622 + 1))))) (some (.inr l_617))) (([] : List (List Int)), 0)).bind fun l_919 => some l_919)

noncomputable def D.e (x0_0 : (List (List Int))) (x1 : (List Int)) (x2 : (List Int)) (x3 : (List Int)) : Option (((List (List Int)))) := D.D recFuel x0_0 x1 x2 x3

noncomputable def D.c0 (x0_0 : (List (List Int))) : Option (((List (List Int)))) :=
  (D.q x0_0).bind fun y_3 => cond (!y_3) (some ([] : List (List Int))) ((((D.g x0_0).bind fun y_83 => (D.t y_83).bind fun y_96 => (D.e x0_0 ([] : List Int) y_96 ([] : List Int)).bind fun y_126 => some y_126 : Option ((List (List Int))))).bind fun l_77 => some l_77)

end Go.Sx

namespace Go.Sx

noncomputable def D.Y (x0 : (List Int)) (x1 : Int) (x2 : Int) : Option (((List Int))) :=
  (idx x0 x1).bind fun e_1 => (D.d x2).bind fun y_7 => (idx x0 x1).bind fun e_10 => (idx (x0.set (Int.toNat x1) (ior .u32 e_1 y_7)) x2).bind fun e_18 => (D.d x1).bind fun y_24 => (idx (x0.set (Int.toNat x1) (ior .u32 e_1 y_7)) x2).bind fun e_27 => some ((x0.set (Int.toNat x1) (ior .u32 e_1 y_7)).set (Int.toNat x2) (ior .u32 e_18 y_24))

end Go.Sx

/- A row of own rows of which one is out of it, and comes back. Regions whose order is drawn, beside what they write. -/
namespace Go.Sx
section
variable {W w : World} {G : GH} {H : List Itm}
theorem hole_atom {v : Value} {t1 t2 : TypeId} {rows : List (Value × List Value)} {k i : Nat} {h : Itm} (hi : ((parts v t1 t2 rows).eraseIdx k)[i]? = some h) : h.foot = h.foot0 ∧ ∀ w, h.ok w ↔ h.ok0 w := by
  rw [List.getElem?_eraseIdx] at hi
  split at hi
  · exact parts_atom hi
  · exact parts_atom hi
theorem Mem.hole {v : Value} {t1 t2 : TypeId} {rows : List (Value × List Value)} {k : Nat} : Mem W G w (.hole v t1 t2 rows k :: H) ↔ Mem W G w ((parts v t1 t2 rows).eraseIdx (k + 1) ++ H) := by
  refine Mem.group (fun x => ?_) ?_
  · show x ∈ ((parts v t1 t2 rows).eraseIdx (k + 1)).flatMap Itm.foot0 ↔ _
    rw [List.mem_flatMap]
    constructor
    · rintro ⟨h, hh, hx⟩
      obtain ⟨i, hi, he⟩ := List.getElem_of_mem hh
      have hi' : ((parts v t1 t2 rows).eraseIdx (k + 1))[i]? = some h := by rw [List.getElem?_eq_getElem hi, he]
      exact ⟨i, h, hi', by rw [(hole_atom hi').1]; exact hx⟩
    · rintro ⟨i, h, hi, hx⟩
      exact ⟨h, List.mem_of_getElem? hi, by rw [← (hole_atom hi).1]; exact hx⟩
  · constructor
    · rintro ⟨h1, h2⟩
      exact ⟨fun i h hi => ((hole_atom hi).2 w).2 (h1 i h hi), fun i j a b hij ha hb => by rw [(hole_atom ha).1, (hole_atom hb).1]; exact h2 i j a b hij ha hb⟩
    · rintro ⟨h1, h2⟩
      exact ⟨fun i h hi => ((hole_atom hi).2 w).1 (h1 i h hi), fun i j a b hij ha hb => by rw [← (hole_atom ha).1, ← (hole_atom hb).1]; exact h2 i j a b hij ha hb⟩
end

/-- own rows, of which the one at i is elsewhere -/
def OwH {α : Type} (R : Rep α) (t1 t2 : TypeId) (i : Int) (G : GH) (it : Itm) (v : Value) (xs : List (List α)) : Prop :=
  ∃ rows : List (Value × List Value), it = .hole v t1 t2 rows i.toNat ∧ 0 ≤ i ∧ i.toNat < xs.length ∧ rows.length = xs.length ∧ ∀ (k : Nat) (r : Value × List Value) (x : List α), k ≠ i.toNat → rows[k]? = some r → xs[k]? = some x → All2 (R G) r.2 x

section
variable {α : Type} {R : Rep α} {t1 t2 : TypeId} {W w : World} {G : GH} {it : Itm} {H : List Itm} {v c : Value} {xs : List (List α)} {e : List α} {i : Int}
theorem OwH.mono (hR : Mono R) {G' : GH} (hG : GLe G G') (h : OwH R t1 t2 i G it v xs) : OwH R t1 t2 i G' it v xs := by
  obtain ⟨rows, h1, h2, h3, h4, h5⟩ := h
  exact ⟨rows, h1, h2, h3, h4, fun k r x hk hr hx => (h5 k r x hk hr hx).mono (fun v x => hR G G' v x hG)⟩
/-- one of the rows goes out -/
theorem Ow2.out (h : Ow2 R t1 t2 G it v xs) (m : Mem W G w (it :: H)) (hi : idx xs i = some e) (hc : Head it i c) :
    ∃ it' inn, Mem W G w (it' :: inn :: H) ∧ OwH R t1 t2 i G it' v xs ∧ Ow R t2 G inn c e := by
  obtain ⟨rows, rfl, hl, hA⟩ := h
  obtain ⟨v0, s1, s2, rows0, r, e0, hr, rfl⟩ := hc
  cases e0
  obtain ⟨g0, g1, g2⟩ := idx_some hi
  have hlt : i.toNat < rows.length := by omega
  have m2 := Mem.deep.1 m
  have hpl : i.toNat + 1 < (parts v t1 t2 rows).length := by simp [parts]; omega
  have hp : (parts v t1 t2 rows ++ H)[i.toNat + 1]? = some (inner t2 r) := by
    rw [List.getElem?_append_left hpl]; simp [parts, hr]
  have m3 := m2.front (i.toNat + 1) hp
  rw [eraseIdx_append_left' hpl] at m3
  have m4 : Mem W G w ((parts v t1 t2 rows).eraseIdx (i.toNat + 1) ++ (inner t2 r :: H)) := by
    have hll : (((parts v t1 t2 rows).eraseIdx (i.toNat + 1))).length ≤ ((parts v t1 t2 rows).eraseIdx (i.toNat + 1) ++ H).length := by simp
    have := m3.back _ hll
    rwa [List.take_left, List.drop_left] at this
  have hAr := hA _ r e hr g2
  exact ⟨_, _, Mem.hole.2 m4, ⟨rows, rfl, g0, by omega, hl, fun k r x _ hr hx => hA k r x hr hx⟩, ⟨r.2, by simp [inner, hAr.1], hAr⟩⟩
end

section
variable {P : Program} {ops : Array Oper} {rest : List Oper} {n r : Assn} {x : List (Nat × Assn)} {a : Act} {w W : World} {G : GH} {H : List Itm} {N : Nat} {L : Slots}
variable {d : Nat} {t : TypeId} {pos : String} {af : Array Edge} {α : Type} {R : Rep α} {t1 t2 : TypeId} {xs : List (List α)} {v : Value}

end

end Go.Sx

/- Rows of records: each thing takes some cells, and there is no memory in them. -/
namespace Go.Sx
structure Rec (α : Type) where
  m : Nat
  enc : α → List Value
  len : ∀ x, (enc x).length = m
  pos : 0 < m
  one : ∀ x c, c ∈ enc x → c.oneCell' = true
section
variable {α : Type} (E : Rec α)
theorem Rec.size (xs : List α) : (xs.flatMap E.enc).length = xs.length * E.m := by
  induction xs with
  | nil => simp
  | cons x xs ih => rw [List.flatMap_cons, List.length_append, ih, E.len, List.length_cons, Nat.succ_mul]; omega
theorem Rec.get : ∀ (xs : List α) (i : Nat) (x : α) (j : Nat) (c : Value), xs[i]? = some x → (E.enc x)[j]? = some c → (xs.flatMap E.enc)[i * E.m + j]? = some c
  | [], i, x, j, c, hx, _ => by simp at hx
  | y :: xs, 0, x, j, c, hx, hc => by
    simp at hx; subst hx
    have hj := (List.getElem?_eq_some_iff.1 hc).1
    rw [List.flatMap_cons, Nat.zero_mul, Nat.zero_add, List.getElem?_append_left hj]; exact hc
  | y :: xs, i + 1, x, j, c, hx, hc => by
    simp at hx
    have ih := Rec.get xs i x j c hx hc
    rw [List.flatMap_cons, List.getElem?_append_right (by rw [E.len, Nat.succ_mul]; omega), E.len, Nat.succ_mul]
    rwa [show i * E.m + E.m + j - E.m = i * E.m + j by omega]
theorem Rec.put : ∀ (xs : List α) (i : Nat) (x y : α) (f : Nat) (ds : List Value), xs[i]? = some x → f + ds.length ≤ E.m → E.enc y = (E.enc x).take f ++ ds ++ (E.enc x).drop (f + ds.length) →
    (xs.flatMap E.enc).take (i * E.m + f) ++ ds ++ (xs.flatMap E.enc).drop (i * E.m + f + ds.length) = (xs.set i y).flatMap E.enc
  | [], i, x, y, f, ds, hx, _, _ => by simp at hx
  | z :: xs, 0, x, y, f, ds, hx, hf, hE => by
    simp at hx; subst hx
    have hl := E.len z
    rw [List.flatMap_cons, Nat.zero_mul, Nat.zero_add, List.set_cons_zero, List.flatMap_cons, hE, List.take_append_of_le_length (by omega), List.drop_append_of_le_length (by omega)]
    simp
  | z :: xs, i + 1, x, y, f, ds, hx, hf, hE => by
    simp at hx
    have ih := Rec.put xs i x y f ds hx hf hE
    have hl := E.len z
    rw [List.flatMap_cons, List.set_cons_succ, List.flatMap_cons, ← ih, Nat.succ_mul]
    have e1 : i * E.m + E.m + f = (E.enc z).length + (i * E.m + f) := by omega
    have e2 : i * E.m + E.m + f + ds.length = (E.enc z).length + (i * E.m + f + ds.length) := by omega
    rw [e1, List.take_length_add_append, ← e1, e2, List.drop_length_add_append]
    simp
end

/-- a slice of records in the sealed part -/
def RSr {α : Type} (E : Rec α) : Rep (List α) := fun G v xs =>
  (v = .slice none 0 0 ∧ xs = []) ∨ ∃ a cap, v = .slice (some a) xs.length cap ∧ xs.length ≤ cap ∧ cap ≤ maxLen ∧
    ∀ (k : Nat) (c : Value), (xs.flatMap E.enc)[k]? = some c → a.spot = Option.none ∧ Cell G a.block (a.off + k) c
section
variable {α : Type} {E : Rec α}
theorem RSr.mono (_ : True) : Mono (RSr E) := by
  rintro G G' v xs hG (h | ⟨a, cap, h1, h2, h3, h4⟩)
  · exact .inl h
  · exact .inr ⟨a, cap, h1, h2, h3, fun k c hc => ⟨(h4 k c hc).1, (h4 k c hc).2.mono hG⟩⟩
theorem RSr.nil (E : Rec α) (G : GH) : RSr E G (.slice none 0 0) [] := .inl ⟨rfl, rfl⟩
theorem RSr.len {G : GH} {v : Value} {xs : List α} (h : RSr E G v xs) : ∃ a c, v = .slice a xs.length c ∧ xs.length ≤ c ∧ c ≤ maxLen := by
  rcases h with ⟨rfl, rfl⟩ | ⟨a, cap, rfl, h1, h2, _⟩
  · exact ⟨none, 0, rfl, by simp, by simp [maxLen]⟩
  · exact ⟨_, cap, rfl, h1, h2⟩
theorem RSr.cells {G : GH} {v : Value} {xs : List α} (h : RSr E G v xs) : v.cells = #[v] := by obtain ⟨a, c, rfl, _⟩ := h.len; rfl
theorem RSr.one1 {G : GH} {v : Value} {xs : List α} (h : RSr E G v xs) : v.oneCell' = true := by obtain ⟨a, c, rfl, _⟩ := h.len; rfl

/-- the place of a record that is read -/
def AtR (E : Rec α) (G : GH) (p : Value) (x : α) : Prop := ∃ b o, p = .pointer (some ⟨b, o, none⟩) ∧ ∀ (j : Nat) (c : Value), (E.enc x)[j]? = some c → Cell G b (o + j) c
theorem AtR.mono {G G' : GH} (h : GLe G G') {p : Value} {x : α} (k : AtR E G p x) : AtR E G' p x := by
  obtain ⟨b, o, e, hc⟩ := k
  exact ⟨b, o, e, fun j c hj => (hc j c hj).mono h⟩
theorem RSr.at {G : GH} {v : Value} {xs : List α} (h : RSr E G v xs) {i : Int} {x : α} (he : idx xs i = some x) :
    ∃ b off n c, v = .slice (some ⟨b, off, none⟩) n c ∧ 0 ≤ i ∧ i < n ∧ ∀ (j : Nat) (c : Value), (E.enc x)[j]? = some c → Cell G b (off + i.toNat * E.m + j) c := by
  obtain ⟨h0, h1, h2⟩ := idx_some he
  rcases h with ⟨_, rfl⟩ | ⟨⟨b, off, sp⟩, cap, rfl, _, _, h4⟩
  · simp at h2
  · have hl0 : 0 < (E.enc x).length := by rw [E.len]; exact E.pos
    have hs := (h4 _ _ (E.get xs _ x 0 (E.enc x)[0] h2 (by simp [hl0]))).1
    dsimp only at hs h4
    subst hs
    refine ⟨b, off, _, cap, rfl, h0, h1, fun j c hc => ?_⟩
    rw [Nat.add_assoc]
    exact (h4 _ c (E.get xs _ x j c h2 hc)).2

/-- an owned slice of records -/
def OwR (E : Rec α) (t : TypeId) (_ : GH) (it : Itm) (v : Value) (xs : List α) : Prop := it = .row v t E.m xs.length (xs.flatMap E.enc)
theorem OwR.mono (_ : True) {t : TypeId} {G G' : GH} {it : Itm} {v : Value} {xs : List α} (_ : GLe G G') (h : OwR E t G it v xs) : OwR E t G' it v xs := h
theorem OwR.free (_ : True) {t : TypeId} {G : GH} (G' : GH) {it : Itm} {v : Value} {xs : List α} (h : OwR E t G it v xs) : OwR E t G' it v xs := h
theorem OwR.has {t : TypeId} {W w : World} {G G' : GH} {it : Itm} {H : List Itm} {v : Value} {xs : List α} (h : OwR E t G it v xs) (m : Mem W G' w H) {j : Nat} (hj : H[j]? = some it) : w.ownsRow 0 t E.m v xs.length (xs.flatMap E.enc) := by
  subst h; exact m.items j _ hj
theorem OwR.len {t : TypeId} {W w : World} {G G' : GH} {it : Itm} {H : List Itm} {v : Value} {xs : List α} (h : OwR E t G it v xs) (m : Mem W G' w H) {j : Nat} (hj : H[j]? = some it) :
    ∃ a c, v = .slice a xs.length c ∧ xs.length ≤ c ∧ c ≤ maxLen := by
  rcases (h.has m hj).2 with ⟨h1, h2⟩ | ⟨g, cap, cur, h1, _, _, h2, h3, _⟩
  · exact ⟨none, 0, by rw [h1, h2], by omega, by simp [maxLen]⟩
  · exact ⟨_, cap, h1, h2, h3⟩
theorem OwR.cells {t : TypeId} {W w : World} {G : GH} {it : Itm} {H : List Itm} {v : Value} {xs : List α} (j : Nat) (m : Mem W G w H) (h : OwR E t G it v xs) (hj : H[j]? = some it) : v.cells = #[v] := by
  obtain ⟨a, c, rfl, _⟩ := h.len m hj; rfl
theorem OwR.one1 {t : TypeId} {W w : World} {G : GH} {it : Itm} {H : List Itm} {v : Value} {xs : List α} (j : Nat) (m : Mem W G w H) (h : OwR E t G it v xs) (hj : H[j]? = some it) : v.oneCell' = true := by
  obtain ⟨a, c, rfl, _⟩ := h.len m hj; rfl
theorem OwR.nil (E : Rec α) (t : TypeId) {W w : World} {G : GH} {H : List Itm} (m : Mem W G w H) : ∃ it, Mem W G w (it :: H) ∧ OwR E t G it (.slice none 0 0) [] :=
  ⟨_, m.nilrow t E.m, by simp [OwR]⟩
/-- what is owned reads, once it is sealed -/
theorem OwR.reads {t : TypeId} {w : World} {G' : GH} {it : Itm} {v : Value} {xs : List α} (h : it = .row v t E.m xs.length (xs.flatMap E.enc)) (hok : it.ok w) (hG : ∀ x ∈ it.foot, G' x = w.heap[x]?) : RSr E G' v xs := by
  subst h
  have this : w.ownsRow 0 t E.m v xs.length (xs.flatMap E.enc) := hok
  rcases this.2 with ⟨e1, e2⟩ | ⟨g, cap, cur, e1, _, eh, e2, e3, e4, e5⟩
  · exact .inl ⟨e1, List.eq_nil_of_length_eq_zero e2⟩
  · refine .inr ⟨⟨g, 0, none⟩, cap, e1, e2, e3, fun k c hc => ⟨rfl, cur, t, (0, 0), ?_, ?_⟩⟩
    · rw [hG g (by rw [e1]; simp [Itm.foot, Value.ownBlock]), eh]
    · rw [← e5, List.getElem?_take] at hc
      split at hc
      · simpa using hc
      · cases hc
theorem OwR.stamp (_ : True) {t : TypeId} {W w : World} {G : GH} {it : Itm} {H : List Itm} {v : Value} {xs : List α} (h : OwR E t G it v xs) (m : Mem W G w (it :: H)) :
    ∃ G', GLe G G' ∧ Mem W G' w H ∧ RSr E G' v xs := by
  obtain ⟨G', h1, h2, h3, _⟩ := m.stamp
  exact ⟨G', h1, h2, OwR.reads h (m.items 0 it (by simp)) h3⟩
theorem OwR.lend {t : TypeId} {W w : World} {G : GH} {it : Itm} {H : List Itm} {v : Value} {xs : List α} (h : OwR E t G it v xs) (m : Mem W G w (it :: H)) :
    ∃ G', GLe G G' ∧ Mem W G' w H ∧ RSr E G' v xs ∧
      ∀ G'' w' H', GLe G' G'' → Mem W G'' w' H' → ∃ G₃, GLe G G₃ ∧ Mem W G₃ w' (it :: H') ∧ OwR E t G₃ it v xs := by
  obtain ⟨G', h1, h2, h3, h4⟩ := m.stamp
  have hok : it.ok w := m.items 0 it (by simp)
  have hap : ∀ x ∈ it.foot, G x = none := m.apart 0 it (by simp)
  have hlt := Itm.lt hok
  refine ⟨G', h1, h2, OwR.reads h hok h3, fun G'' w' H' hle m' => ?_⟩
  have hx : ∀ x ∈ it.foot, G'' x = w.heap[x]? := fun x hx => by
    have hl := hlt x hx
    have : G' x = some w.heap[x] := by rw [h3 x hx]; simp [hl]
    rw [hle x _ this]; simp [hl]
  refine ⟨_, fun b o k => ?_, m'.unstamp hx hok (fun i z hz x hxz hxi => ?_) (fun x hxi => ?_), h⟩
  · have : b ∉ it.foot := fun hx => by rw [hap b hx] at k; cases k
    simp [this, hle b o (h1 b o k)]
  · have h5 := m'.apart i z hz x hxz
    have hl := hlt x hxi
    rw [hx x hxi] at h5
    simp [hl] at h5
  · cases hg : W.heap[x]? with
    | none => rfl
    | some o => have h5 := m.base x o hg; rw [hap x hxi] at h5; cases h5
theorem OwR.lendCall {P : Program} {g : FuncId} {args : Array Value} (_ : True) {t : TypeId} {W w : World} {G : GH} {it : Itm} {H : List Itm} {v : Value} {xs : List α} {Q : GH → List Itm → Value → Prop} (j : Nat)
    (h : OwR E t G it v xs) (m : Mem W G w H) (hj : H[j]? = some it)
    (hc : ∀ G₁, GLe G G₁ → Mem W G₁ w (H.eraseIdx j) → RSr E G₁ v xs → Calls P g args w (Res W G₁ (H.eraseIdx j) Q)) (hQ : ∀ G G' Ho v, Q G Ho v → Q G' Ho v) : Calls P g args w (Res W G H Q) := by
  obtain ⟨G₁, h1, m1, h2, back⟩ := h.lend (m.front j hj)
  refine (hc G₁ h1 m1 h2).mono fun e w' ⟨r, he, G₂, Ho, h3, m2, hq⟩ => ?_
  obtain ⟨G₃, h4, m3, _⟩ := back G₂ w' _ h3 m2
  refine ⟨r, he, G₃, Ho, h4, ?_, hQ _ _ _ _ hq⟩
  have hl : j < H.length := (List.getElem?_eq_some_iff.1 hj).1
  have m4 := m3.back (Ho.length + j) (by simp [List.length_eraseIdx, hl]; omega)
  have e : (Ho ++ H.eraseIdx j).take (Ho.length + j) ++ it :: (Ho ++ H.eraseIdx j).drop (Ho.length + j) = Ho ++ H := by
    rw [List.take_length_add_append, List.drop_length_add_append, List.append_assoc]
    congr 1
    rw [set_eq_erase H j it hl]
    apply List.ext_getElem?
    intro k
    rw [List.getElem?_set]
    split
    · rename_i e; subst e; simp [hl] at hj ⊢; exact hj.symm
    · rfl
  rwa [e] at m4
end

section
variable {P : Program} {ops : Array Oper} {rest : List Oper} {n r : Assn} {x : List (Nat × Assn)} {a : Act} {w : World} {N : Nat} {L : Slots}
variable {d : Nat} {t : TypeId} {pos : String} {af : Array Edge} {W : World} {G : GH} {H : List Itm} {α : Type} {E : Rec α}

theorem AtR.cell {p : Value} {y : α} (h : AtR E G p y) {fo : Nat} {c : Value} (hc : (E.enc y)[fo]? = some c) : ∃ b o, p = .pointer (some ⟨b, o, none⟩) ∧ Cell G b (o + fo) c := by
  obtain ⟨b, o, e, hh⟩ := h
  exact ⟨b, o, e, hh fo c hc⟩
end

section
variable {P : Program} {ops : Array Oper} {nn r : Assn} {x : List (Nat × Assn)} {T : Act → World → Prop} {W : World} {G : GH} {E H : List Itm} {N : Nat} {L : Slots} {a : Act} {fuel : Nat} {listed listed' : Array Bool}
variable {t : TypeId} {pos : String} {af : Array Edge} {gd : Option (Nat × Bool)} {d i : Nat} {α : Type} {C : Rec α}

end
end Go.Sx

/- Rows of own rows are sorted: while they are moved, what lies behind them is sealed, and each carries its header. Over any program. -/
namespace Go.Sx

/-- an element that is a header, and how what lies behind it reads -/
def RTg {α : Type} (R : Rep α) : Rep (Value × List α) := fun G v x => v = x.1 ∧ RSl R G v x.2
theorem RTg.mono {α : Type} {R : Rep α} (hR : Mono R) : Mono (RTg R) := fun _ _ _ _ hG h => ⟨h.1, RSl.mono hR _ _ _ _ hG h.2⟩
theorem RTg.one {α : Type} (R : Rep α) : One (RTg R) := fun _ _ _ h => RSl.one R _ _ _ h.2
theorem RTg.cells {α : Type} {R : Rep α} {G : GH} {v : Value} {x : Value × List α} (h : RTg R G v x) : v.cells = #[v] := h.2.cells
theorem RTg.one1 {α : Type} {R : Rep α} {G : GH} {v : Value} {x : Value × List α} (h : RTg R G v x) : v.oneCell' = true := h.2.one1

section
variable {W w : World} {G : GH} {H : List Itm}

theorem Mem.flip {A : List Itm} {x y : Itm} (m : Mem W G w (A ++ x :: y :: H)) : Mem W G w (A ++ y :: x :: H) := by
  refine m.inj (fun k => if k = A.length then A.length + 1 else if k = A.length + 1 then A.length else k) (by intro a b; split <;> split <;> (repeat' split) <;> omega) ?_
  intro k z hz
  by_cases h1 : k = A.length
  · subst h1; simp at hz ⊢; exact hz
  · by_cases h2 : k = A.length + 1
    · subst h2
      simp only [Nat.succ_ne_self, if_false, if_true]
      rw [List.getElem?_append_right (by omega)] at hz
      simp at hz ⊢; exact hz
    · simp only [h1, h2, if_false]
      by_cases h3 : k < A.length
      · rw [List.getElem?_append_left h3] at hz ⊢; exact hz
      · rw [List.getElem?_append_right (by omega)] at hz ⊢
        obtain ⟨q, hq⟩ : ∃ q, k - A.length = q + 2 := ⟨k - A.length - 2, by omega⟩
        rw [hq] at hz ⊢; exact hz

theorem Mem.perm {L L' : List Itm} (p : L.Perm L') : ∀ (A H : List Itm), Mem W G w (A ++ L ++ H) → Mem W G w (A ++ L' ++ H) := by
  induction p with
  | nil => exact fun _ _ m => m
  | cons x _ ih => intro A H m; have := ih (A ++ [x]) H (by simpa using m); simpa using this
  | swap x y l => intro A H m; have := Mem.flip (A := A) (H := l ++ H) (x := y) (y := x) (by simpa using m); simpa using this
  | trans _ _ i1 i2 => exact fun A H m => i2 A H (i1 A H m)

end

section
variable {P : Program} {g : FuncId} {args : Array Value} {α : Type} {R : Rep α} {t1 t2 : TypeId} {W w : World} {G : GH} {it : Itm} {H : List Itm} {v : Value} {xs ys : List (List α)}

end
end Go.Sx

/- Links, sorted: by their first numbers, then by their second ones. Plain. -/
namespace Go.Sx
end Go.Sx

namespace Go.Sx

end Go.Sx

/- A slice held against nil. Over any program. -/
namespace Go.Sx
def isNil : Value → Bool
  | .slice none _ _ => true
  | _ => false
section
variable {P : Program} {ρ : Operand → Value} {w : World} {d : Option Tmp} {t : TypeId} {pos : String} {af : Array Edge} {gd : Option (Nat × Bool)}
theorem run_eq_nil_aux (dd : Nat) {u e : TypeId} {v : Value} (hu : P.underlying u = some (.slice e)) (hv : ∃ a l c, v = .slice a l c) : (Op.equalIn (dd + 1) u v (.slice none 0 0)).run P w = .ok (isNil v) w := by
  obtain ⟨a, l, c, rfl⟩ := hv
  cases a <;> simp [Op.equalIn, run_underlying hu, isNil]
theorem run_eq_nil {u e : TypeId} {v : Value} (hu : P.underlying u = some (.slice e)) (hv : ∃ a l c, v = .slice a l c) : (Op.equal u v (.slice none 0 0)).run P w = .ok (isNil v) w := run_eq_nil_aux 9999 hu hv
theorem r_nil_eql {u u' e : TypeId} {x y : Operand} {v : Value} {b : Bool} (hx : ρ x = v) (hy : ρ y = .slice none 0 0) (hv : ∃ a l c, v = .slice a l c) (hu : P.underlying u = some (.slice e)) (hb : isNil v = b) :
    (execOp ρ ⟨d, .binOp .eql u x y u', t, pos, af, gd⟩).run P w = .ok (.value (.bool b)) w := by
  have hg : (eqGuard .eql u x y v (.slice none 0 0)).run P w = .ok () w := by
    obtain ⟨a, l, c, rfl⟩ := hv
    unfold eqGuard; rfl
  have e1 : (binOp .eql u v (.slice none 0 0)).run P w = .ok (.bool b) w := by
    rw [← hb]
    have := run_eq_nil (w := w) hu hv
    obtain ⟨a, l, c, rfl⟩ := hv
    simp [binOp, this]
  simp [execOp, hx, hy, hg, e1]
end
theorem RSl.hdr {α : Type} {R : Rep α} {G : GH} {v : Value} {xs : List α} (h : RSl R G v xs) : ∃ a l c, v = .slice a l c := by
  obtain ⟨a, c, rfl, _⟩ := h.len; exact ⟨_, _, _, rfl⟩
theorem Ow.hdr {α : Type} {R : Rep α} {t : TypeId} {W w : World} {G : GH} {it : Itm} {H : List Itm} {v : Value} {xs : List α} (j : Nat) (m : Mem W G w H) (h : Ow R t G it v xs) (hj : H[j]? = some it) : ∃ a l c, v = .slice a l c := by
  obtain ⟨a, c, rfl, _⟩ := h.len (m.front j hj); exact ⟨_, _, _, rfl⟩
/-- nil just where it has no elements -/
def nonE {α : Type} : List α → Option Unit
  | [] => none
  | _ => some ()
theorem Ow.notNil {α : Type} {R : Rep α} {t : TypeId} {W w : World} {G : GH} {it : Itm} {H : List Itm} {v : Value} {xs : List α} {u : Unit} (j : Nat) (m : Mem W G w H) (h : Ow R t G it v xs) (hj : H[j]? = some it) (hx : nonE xs = some u) : isNil v = xs.isEmpty := by
  obtain ⟨vs, rfl, hA⟩ := h
  have ok := m.items j _ hj
  have : xs ≠ [] := by rintro rfl; simp [nonE] at hx
  rcases ok.2 with ⟨rfl, e⟩ | ⟨g, cap, cur, rfl, _⟩
  · exact absurd (List.eq_nil_of_length_eq_zero e) this
  · cases xs with
    | nil => exact absurd rfl this
    | cons x t => rfl
section
variable {P : Program} {ops : Array Oper} {rest : List Oper} {n r : Assn} {x : List (Nat × Assn)} {a : Act} {w : World} {N : Nat} {L : Slots} {d : Nat} {t : TypeId} {pos : String} {af : Array Edge}
theorem l_makeFunc {fn : Fn} {fs cs : List Operand} {vs us : List Value} (f : Fr a N L) (hN : Nat.blt d N = true) (hf : evalAll L fs = some vs) (hc : evalAll L cs = some us)
    (k : ∀ a', Fr a' N ((d, .func fn vs.toArray us.toArray) :: L) → wpList P ops (Qk n x r) rest a' w) :
    wpList P ops (Qk n x r) (⟨some d, .makeFunc fn fs.toArray cs.toArray, t, pos, af, none⟩ :: rest) a w := by
  refine l_op f rfl rfl hN (r_makeFunc (v := .func fn vs.toArray us.toArray) ?_) k
  rw [List.map_toArray, List.map_toArray, f.evalAll hf, f.evalAll hc]
  rfl
end
end Go.Sx

/- Elements go out of an owned slice in place, and what stays behind them is wiped. Over any program. -/
namespace Go.Sx
section
variable {P : Program} {ops : Array Oper} {rest : List Oper} {n r : Assn} {x : List (Nat × Assn)} {a : Act} {w w' W : World} {G : GH} {H : List Itm} {N : Nat} {L : Slots}
variable {d : Nat} {t : TypeId} {pos : String} {af : Array Edge}
theorem Ow.block {α : Type} {R : Rep α} {tt : TypeId} {it : Itm} {v : Value} {xs : List α} (m : Mem W G w (it :: H)) (o : Ow R tt G it v xs) (hx : 0 < xs.length) : ∃ b c, v = .slice (some ⟨b, 0, none⟩) xs.length c ∧ xs.length ≤ c := by
  obtain ⟨vs, rfl, hA⟩ := o
  have ok := m.items 0 _ rfl
  rcases ok.2 with ⟨rfl, e⟩ | ⟨g, cap, cur, rfl, _, _, e2, _⟩
  · omega
  · exact ⟨g, cap, rfl, e2⟩

end
end Go.Sx

namespace Go.Sx
end Go.Sx

namespace Go.Sx
noncomputable def D.j (x0 : (List Int)) : Option (Bool) :=
  (D.c (x0.length : Int) 1 16).bind fun y_1 => cond (!y_1) (some false) ((loopF (σ := Int) (ρ := (Unit) ⊕ (Bool)) (fun (x_104 : Int) => cond (decide (x_104 < (x0.length : Int))) ((idx x0 x_104).bind fun e_152 => (D.c e_152 0 (IntKind.i64.wrap ((x0.length : Int) - 1))).bind fun y_158 => (cond (!y_158) (some true) ((sliceD x0 0 x_104).bind fun l_178 => (idx x0 x_104).bind fun e_182 => (D.i l_178 e_182).bind fun y_188 => some y_188)).bind fun b_176 => cond b_176 (some (.inr (.inr false))) (some (.inl (IntKind.i64.wrap (x_104 + 1))))) (some (.inr (.inl ())))) 0).bind fun zz => match zz with | .inl _ => (some true) | .inr z => (some z))

noncomputable def D.F0 (x0 : (List Int)) (x1 : (List Int)) : Option (Bool) :=
  (D.j x0).bind fun y_1 => (cond y_1 ((D.j x1).bind fun y_27 => some y_27) (some false)).bind fun b_25 => some (b_25 && ((x0.length : Int) == (x1.length : Int)))

noncomputable def D.n (x0 : (List Int)) (x1 : Int) : Option (Int) :=
  (loopF (σ := Int) (ρ := (Unit) ⊕ (Int)) (fun (x_26 : Int) => cond (decide (x_26 < (x0.length : Int))) ((idx x0 x_26).bind fun e_39 => cond (e_39 == x1) (some (.inr (.inr x_26))) (some (.inl (IntKind.i64.wrap (x_26 + 1))))) (some (.inr (.inl ())))) 0).bind fun zz => match zz with | .inl _ => (some (-1)) | .inr z => (some z)

noncomputable def D.Z (x0 : (List Int)) (x1 : (List Int)) (x2 : Int) (x3 : Int) : Option (Bool) :=
  (cond (x2 != x3) ((D.n x0 x2).bind fun y_62 => (D.n x0 x3).bind fun y_69 => (D.n x1 x2).bind fun y_76 => (D.n x1 x3).bind fun y_83 => some ((decide (y_62 < y_69)) != (decide (y_76 < y_83)))) (some false)).bind fun b_60 => some b_60

noncomputable def D.d0 (x0 : (List Int)) (x1 : (List Int)) : Option (((List (List Int)))) :=
  (loopF (σ := Int × (List (List Int))) (ρ := ((List (List Int)))) (fun (s_264 : Int × (List (List Int))) => match s_264 with | (x_270, l_271) => cond (decide (x_270 < (x0.length : Int))) ((loopF (σ := (List Int) × Int) (ρ := ((List Int))) (fun (s_460 : (List Int) × Int) => match s_460 with | (l_463, x_468) => cond (decide (x_468 < (x0.length : Int))) ((D.Z x0 x1 x_468 x_270).bind fun y_497 => cond y_497 ((appendD l_463 ([x_468] : List Int)).bind fun l_509 => some (.inl (l_509, (IntKind.i64.wrap (x_468 + 1))))) (some (.inl (l_463, (IntKind.i64.wrap (x_468 + 1)))))) (some (.inr l_463))) (([] : List Int), 0)).bind fun l_490 => (appendD l_271 ([l_490] : List (List Int))).bind fun l_522 => some (.inl ((IntKind.i64.wrap (x_270 + 1)), l_522))) (some (.inr l_271))) (0, ([] : List (List Int)))).bind fun l_400 => some l_400

noncomputable def D.U (x0 : (List Int)) (x1 : (List Int)) : Option (((List (List Int))) × Bool) :=
  (D.F0 x0 x1).bind fun y_3 => cond (!y_3) (some (([] : List (List Int)), false)) ((D.d0 x0 x1).bind fun y_16 => some (y_16, true))

noncomputable def D.e0 (x0_0 : (List (List Int))) : Option (((List (List Int)))) :=
  (D.g x0_0).bind fun y_5 => (D.g0 y_5).bind fun y_12 => (loopF (σ := Int × (List (List Int))) (ρ := ((List (List Int)))) (fun (s_238 : Int × (List (List Int))) => match s_238 with | (x_241, l_242) => (D.g x0_0).bind fun y_353 => cond (decide (x_241 < y_353)) ((loopF (σ := Int × (List (List Int))) (ρ := ((List (List Int)))) (fun (s_406 : Int × (List (List Int))) => match s_406 with | (x_409, l_410) => cond (decide (x_409 < x_241)) ((D.G x0_0 x_409 x_241).bind fun y_438 => cond (!y_438) ((D.l0 l_410 x_409 x_241).bind fun y_446 => some (.inl ((IntKind.i64.wrap (x_409 + 1)), y_446))) (some (.inl ((IntKind.i64.wrap (x_409 + 1)), l_410)))) (some (.inr l_410))) (0, l_242)).bind fun l_433 => some (.inl ((IntKind.i64.wrap (x_241 + 1)), l_433))) (some (.inr l_242))) (0, y_12)).bind fun l_349 => some l_349

noncomputable def D.f0 (x0_0 : (List (List Int))) : Option (((List (List Int))) × Bool) :=
  (D.q x0_0).bind fun y_5 => cond (!y_5) (some (([] : List (List Int)), false)) ((D.e0 x0_0).bind fun y_18 => some (y_18, true))

noncomputable def D.F (x0 : (List Int)) : Option (((List Int)) × Bool) :=
  (cond ((decide ((x0.length : Int) < 1)) || (decide ((16 : Int) < (x0.length : Int)))) (some true) ((D.j0 x0).bind fun y_72 => (D.H y_72 (x0.length : Int)).bind fun y_83 => some (!y_83))).bind fun b_63 => cond b_63 (some (([] : List Int), false)) ((makeD (0 : Int) (x0.length : Int) (x0.length : Int)).bind fun l_97 => (loopF (σ := (List Int) × Int) (ρ := ((List Int))) (fun (s_138 : (List Int) × Int) => match s_138 with | (l_141, x_144) => cond (decide (x_144 < (x0.length : Int))) ((idx x0 x_144).bind fun e_165 => (idx l_141 e_165).bind fun e_171 => some (.inl ((l_141.set (Int.toNat e_165) x_144), (IntKind.i64.wrap (x_144 + 1))))) (some (.inr l_141))) (l_97, 0)).bind fun l_160 => some (l_160, true))

noncomputable def D.o (x0 : (List Int)) (x1 : (List Int)) : Option (((List Int)) × Bool) :=
  (D.F x0).bind fun y_1 => (D.F x1).bind fun y_12 => cond (((!y_1.2) || (!y_12.2)) || ((x0.length : Int) != (x1.length : Int))) (some (([] : List Int), false)) ((makeD (0 : Int) (x0.length : Int) (x0.length : Int)).bind fun l_33 => (loopF (σ := (List Int) × Int) (ρ := ((List Int))) (fun (s_390 : (List Int) × Int) => match s_390 with | (l_393, x_396) => cond (decide (x_396 < (y_1.1.length : Int))) ((loopF (σ := (List Int) × Int) (ρ := ((List Int))) (fun (s_658 : (List Int) × Int) => match s_658 with | (l_661, x_664) => cond (decide (x_664 < x_396)) ((idx y_1.1 x_396).bind fun e_709 => (idx y_1.1 x_664).bind fun e_715 => (idx y_12.1 x_396).bind fun e_721 => (idx y_12.1 x_664).bind fun e_727 => cond ((decide (e_709 < e_715)) != (decide (e_721 < e_727))) ((D.Y l_661 x_396 x_664).bind fun y_736 => some (.inl (y_736, (IntKind.i64.wrap (x_664 + 1))))) (some (.inl (l_661, (IntKind.i64.wrap (x_664 + 1)))))) (some (.inr l_661))) (l_393, 0)).bind fun l_704 => some (.inl (l_704, (IntKind.i64.wrap (x_396 + 1))))) (some (.inr l_393))) (l_33, 0)).bind fun l_570 => some (l_570, true))

noncomputable def D.I (x0 : (List Int)) (x1 : (List Int)) : Option (Bool) :=
  cond ((x0.length : Int) != (x1.length : Int)) (some (decide ((x1.length : Int) < (x0.length : Int)))) ((D.P x0 x1).bind fun y_2 => some (decide (y_2 < 0)))

noncomputable def D.b0 (x0 : (List (List Int))) : Option (((List Int))) :=
  (loopF (σ := (List Int) × Int) (ρ := ((List Int))) (fun (s_47 : (List Int) × Int) => match s_47 with | (l_53, x_56) => cond (decide (x_56 < (x0.length : Int))) ((idx x0 x_56).bind fun e_79 => (D.I e_79 l_53).bind fun y_85 => cond y_85 (some (.inl (e_79, (IntKind.i64.wrap (x_56 + 1))))) (some (.inl (l_53, (IntKind.i64.wrap (x_56 + 1)))))) (some (.inr l_53))) (([] : List Int), 0)).bind fun l_74 => some l_74

noncomputable def D.s (x0_0 : (List (List Int))) : Option (Int) :=
  (D.c0 x0_0).bind fun y_3 => (loopF (σ := Int × Int) (ρ := (Int)) (fun (s_49 : Int × Int) => match s_49 with | (x_52, x_53) => cond (decide (x_53 < (y_3.length : Int))) ((idx y_3 x_53).bind fun e_73 => cond (decide (x_52 < (e_73.length : Int))) ((idx y_3 x_53).bind fun e_80 => some (.inl ((e_80.length : Int), (IntKind.i64.wrap (x_53 + 1))))) (some (.inl (x_52, (IntKind.i64.wrap (x_53 + 1)))))) (some (.inr x_52))) (0, 0)).bind fun x_70 => some x_70

noncomputable def D.V (x0 : (List Int)) (x1 : (List Int)) : Option (((List (List Int))) × Bool) :=
  (D.o x0 x1).bind fun y_3 => cond (!y_3.2) (some (([] : List (List Int)), false)) ((D.m0 y_3.1).bind fun y_23 => some (y_23, true))

noncomputable def D.C0 (x0_0 : (List (List Int))) (x1 : Int) : Option (Bool) :=
  (D.S x0_0).bind fun y_3 => (cond y_3 ((D.M x1 0 (IntKind.i64.wrap ((x0_0.length : Int) - 1))).bind fun y_29 => some y_29) (some false)).bind fun b_27 => some b_27

noncomputable def D.D0 (x0_0 : (List (List Int))) (x1 : Int) (x2 : Int) : Option (Bool) :=
  (D.C0 x0_0 x1).bind fun y_3 => (cond y_3 ((idx x0_0 x1).bind fun e_41 => (D.u e_41 x2).bind fun y_47 => some y_47) (some false)).bind fun b_39 => some b_39

noncomputable def D.s0 (x0 : (List Int)) (x1 : (List Int)) (x2 : Int) (x3 : Int) : Option (Bool) :=
  (D.V x0 x1).bind fun y_1 => (cond y_1.2 ((D.D0 y_1.1 x2 x3).bind fun y_39 => some y_39) (some false)).bind fun b_37 => some b_37
end Go.Sx

/- 'longestLists', plain: what its closure and it compute, with what is known already. -/
namespace Go.Sx
/-- one round over those that follow -/
noncomputable def D.T0 (rec : List (Option (List Int)) → Int → Option (List Int × List (Option (List Int)))) (us : List Int) (s : List Int × List (Option (List Int)) × Int) : Option ((List Int × List (Option (List Int)) × Int) ⊕ (List Int × List (Option (List Int)))) :=
  cond (decide (s.2.2 < (us.length : Int))) ((idx us s.2.2).bind fun u => (rec s.2.1 u).bind fun y => (D.I y.1 s.1).bind fun b => some (.inl ((if b then y.1 else s.1), y.2, (IntKind.i64.wrap (s.2.2 + 1))))) (some (.inr (s.1, s.2.1)))
noncomputable def D.J (F : List Int) : Nat → List (Option (List Int)) → Int → Option (List Int × List (Option (List Int)))
  | 0, _, _ => none
  | fuel + 1, ks, v => (idx ks v).bind fun o => match o with
    | some l => some (l, ks)
    | none => (idx F v).bind fun s => (D.l s).bind fun us => (loopF (D.T0 (D.J F fuel) us) ([], ks, 0)).bind fun q => (appendD [v] q.1).bind fun l => (idx q.2 v).bind fun _ => some (l, q.2.set v.toNat (some l))
def unOpt : List (Option (List Int)) → Option (List (List Int))
  | [] => some []
  | none :: _ => none
  | some l :: t => (unOpt t).map (l :: ·)
theorem unOpt_map : ∀ {ks : List (Option (List Int))} {ls : List (List Int)}, unOpt ks = some ls → ks = ls.map some
  | [], ls, h => by simp [unOpt] at h; subst h; rfl
  | none :: t, ls, h => by simp [unOpt] at h
  | some l :: t, ls, h => by
    simp only [unOpt, Option.map_eq_some_iff] at h
    obtain ⟨r, hr, rfl⟩ := h
    simp [unOpt_map hr]
noncomputable def D.P0 (F : List Int) (s : List (Option (List Int)) × Int) : Option ((List (Option (List Int)) × Int) ⊕ List (Option (List Int))) :=
  cond (decide (s.2 < (F.length : Int))) ((D.J F recFuel s.1 s.2).bind fun y => some (.inl (y.2, (IntKind.i64.wrap (s.2 + 1))))) (some (.inr s.1))
noncomputable def D.t0 (F : List Int) : Option (List (List Int)) :=
  (makeD (none : Option (List Int)) (F.length : Int) (F.length : Int)).bind fun ks => (loopF (D.P0 F) (ks, 0)).bind fun ks' => unOpt ks'
end Go.Sx

namespace Go.Sx
noncomputable def D.B (x0 : (List Int)) (x1 : (List Int)) (x2 : Bool) : Option (((List Int))) :=
  (D.o x0 x1).bind fun y_1 => cond (!y_1.2) (some ([] : List Int)) ((makeD (0 : Int) (x0.length : Int) (x0.length : Int)).bind fun l_16 => (loopF (σ := (List Int) × Int × Int) (ρ := ((List Int))) (fun (s_124 : (List Int) × Int × Int) => match s_124 with | (l_127, x_130, x_131) => cond (decide ((0 : Int) ≤ x_131)) ((idx x0 x_131).bind fun e_185 => cond x2 ((idx y_1.1 e_185).bind fun e_192 => (idx l_127 e_185).bind fun e_198 => (D.d e_185).bind fun y_204 => some (.inl ((l_127.set (Int.toNat e_185) (iand .u32 x_130 e_192)), (ior .u32 x_130 y_204), (IntKind.i64.wrap (x_131 - 1))))) ((idx y_1.1 e_185).bind fun e_211 => (idx l_127 e_185).bind fun e_217 => (D.d e_185).bind fun y_223 => some (.inl ((l_127.set (Int.toNat e_185) (iandNot .u32 x_130 e_211)), (ior .u32 x_130 y_223), (IntKind.i64.wrap (x_131 - 1)))))) (some (.inr l_127))) (l_16, 0, (IntKind.i64.wrap ((x0.length : Int) - 1)))).bind fun l_180 => (D.t0 l_180).bind fun y_233 => (D.b0 y_233).bind fun y_242 => (D.L y_242).bind fun y_251 => some y_251)

noncomputable def D.z0 (x0 : (List Int)) (x1 : (List Int)) : Option (((List Int))) :=
  (D.B x0 x1 true).bind fun y_1 => some y_1

noncomputable def D.G0 (x0 : (List Int)) (x1 : (List Int)) : Option (((List Int))) :=
  (D.B x0 x1 false).bind fun y_1 => some y_1

noncomputable def D.E0 (x0 : (List Int)) : Option (Bool) :=
  (D.v0 x0).bind fun y_1 => cond y_1 (some true) ((D.h0 x0 1011).bind fun y_9 => (D.w y_9.1 y_9.2.1 y_9.2.2 6).bind fun y_20 => (D.y y_20.2.1 y_20.2.2.1 y_20.2.2.2 (IntKind.i64.wrap (1 + y_20.1))).bind fun y_29 => (D.y y_29.2.1 y_29.2.2.1 y_29.2.2.2 (IntKind.i64.wrap (1 + y_20.1))).bind fun y_42 => (D.U y_29.1 y_42.1).bind fun y_61 => (D.f0 y_61.1).bind fun y_77 => (D.z0 y_29.1 y_42.1).bind fun y_90 => (D.G0 y_29.1 y_42.1).bind fun y_101 => (D.s y_61.1).bind fun y_112 => (cond ((y_90.length : Int) != y_112) (some true) ((D.s y_77.1).bind fun y_144 => some ((y_101.length : Int) != y_144))).bind fun b_142 => cond b_142 (some false) ((loopF (σ := Int) (ρ := (Unit) ⊕ (Bool)) (fun (x_616 : Int) => cond (decide (x_616 < (y_90.length : Int))) ((loopF (σ := Int) (ρ := (Unit) ⊕ (Bool)) (fun (x_962 : Int) => cond (decide (x_962 < x_616)) ((idx y_90 x_616).bind fun e_1020 => (idx y_90 x_962).bind fun e_1026 => (D.s0 y_29.1 y_42.1 e_1020 e_1026).bind fun y_1032 => (cond (!y_1032) (some true) ((idx y_90 x_616).bind fun e_1054 => (idx y_90 x_962).bind fun e_1060 => (D.p0 y_61.1 e_1054 e_1060).bind fun y_1066 => some (!y_1066))).bind fun b_1052 => cond b_1052 (some (.inr (.inr false))) (some (.inl (IntKind.i64.wrap (x_962 + 1))))) (some (.inr (.inl ())))) 0).bind fun zz => match zz with | .inl _ => (some (.inl (IntKind.i64.wrap (x_616 + 1)))) | .inr z => (some (.inr (.inr z)))) (some (.inr (.inl ())))) 0).bind fun zz => match zz with | .inl _ => (some true) | .inr z => (some z)))
end Go.Sx

namespace Go.Sx


end Go.Sx

namespace Go.Sx


end Go.Sx

namespace Go.Sx


end Go.Sx

namespace Go.Sx


end Go.Sx

namespace Go.Proofs
open Go.Shelf
def Tryd.lays125_ren : Go.Shelf.Ren := ⟨fun | 125 => 68 | 128 => 79 | 129 => 80 | n => n, fun | 46 => 42 | 3 => 3 | 51 => 59 | 53 => 26 | 4 => 4 | 5 => 5 | 9 => 9 | n => n, fun | n => n⟩
theorem Tryd.lays125 : Go.Proofs.Lays.n125 Tryd.prog Tryd.lays125_ren := {
  mixed := by kernel_rfl
  f125 := Tryd.func68.trans (congrArg some (by kernel_rfl))
  f128 := Tryd.func79.trans (congrArg some (by kernel_rfl))
  f129 := Tryd.func80.trans (congrArg some (by kernel_rfl))
  t3 := Tryd.underlying3
  a3 := Tryd.isAgg3
  z3 := Tryd.sizeOf3
  v3 := Tryd.zeroValue3
  t4 := Tryd.underlying4
  a4 := Tryd.isAgg4
  z4 := Tryd.sizeOf4
  v4 := Tryd.zeroValue4
  t5 := Tryd.underlying5
  a5 := Tryd.isAgg5
  z5 := Tryd.sizeOf5
  v5 := Tryd.zeroValue5
  t9 := Tryd.underlying9
  a9 := Tryd.isAgg9
  z9 := Tryd.sizeOf9
  v9 := Tryd.zeroValue9
  t46 := Tryd.underlying42
  a46 := Tryd.isAgg42
  z46 := Tryd.sizeOf42
  v46 := Tryd.zeroValue42
  t51 := Tryd.underlying59
  a51 := Tryd.isAgg59
  z51 := Tryd.sizeOf59
  v51 := Tryd.zeroValue59
  t53 := Tryd.underlying26
  a53 := Tryd.isAgg26
  z53 := Tryd.sizeOf26
  v53 := Tryd.zeroValue26 }
theorem Tryd.bits_Len (x : Int) (w : World) (h0 : 0 ≤ x) (h1 : x ≤ 18446744073709551615) :
    Calls Tryd.prog 68 #[.int .u64 x] w fun e w' => e = .returned (.int .i64 (Lib.bitLen x.toNat)) ∧ w' = w := Any.bits_Len Tryd.lays125 x w h0 h1
end Go.Proofs
namespace Go.Proofs.YtebbefpdncgoiaaDoor
open Go Go.Sx
theorem Wk.m {W w : World} {G : GH} {H : List Itm} {x0 : Int} (m : Mem W G w H) {y : Int} (hd : D.m x0 = some y) :
    Calls Tryd.prog 68 #[(.int .u64 x0)] w (Res W G H (fun _ Ho v => Ho = [] ∧ v = (.int .i64 y))) := by
  unfold D.m at hd
  split at hd
  · rename_i h
    obtain rfl := Option.some.inj hd
    exact (Tryd.bits_Len x0 w h.1 h.2).mono (fun e w' ⟨he, hw⟩ => by subst hw; exact ⟨_, he, G, [], GLe.refl G, m, rfl, rfl⟩)
  · cases hd
end Go.Proofs.YtebbefpdncgoiaaDoor

namespace Go.Proofs
open Go.RowKit Go.Shelf
attribute [local go_sem] Oper.semAt_some
namespace YtebbefpdncgoiaaDoor

def upto {α : Type} (f : Nat → α) (k : Nat) : List α := (List.range k).map f
theorem upto_succ {α : Type} (f : Nat → α) (k : Nat) : upto f (k + 1) = upto f k ++ [f k] := by simp [upto, List.range_succ]
theorem upto_length {α : Type} (f : Nat → α) (k : Nat) : (upto f k).length = k := by simp [upto]
theorem upto_all (zs : List Int) : upto (fun j => zs[j]?.getD 0) zs.length = zs := by
  apply List.ext_getElem
  · simp [upto]
  · intro i h1 h2
    simp [upto, h2]
theorem upto_take (zs : List Int) {k : Nat} (hk : k ≤ zs.length) : upto (fun j => zs[j]?.getD 0) k = zs.take k := by
  apply List.ext_getElem
  · simp [upto, hk]
  · intro i h1 h2
    have : i < zs.length := by simp [upto] at h1; omega
    simp [upto, this]

set_option maxRecDepth 100000 in
set_option maxHeartbeats 2000000 in
theorem values1_in (F : Fence) (n : Nat) (h7 : F.fn 63) (hro : F.round = none) (hn : 1 ≤ n) (l Bs n₀ b off len cap : Nat) (zs : List Int) (hreach : len * 8 ≤ 140737488351232) (hb : len = 0 ∨ b < n₀) (J Jx : List Int → World → Prop)
    (hY : ∀ pre x W, J pre W → pre.length < len → YieldAt F (n - 1) Tryd.prog l #[.int .i64 x] W fun e W' =>
      (e = .returned (.bool true) ∧ J (pre ++ [x]) W' ∧ Below n₀ W W') ∨ (e = .returned (.bool false) ∧ Jx (pre ++ [x]) W'))
    (W : World) (hBs : W.cell? ⟨Bs, 0, none⟩ = some (.slice (some ⟨b, off, none⟩) len cap)) (hc : ∀ j, j < len → W.cell? ⟨b, off + j, none⟩ = some (.int .i64 (zs[j]?.getD 0))) (h0 : J [] W) :
    CallsIn F n Tryd.prog 63 #[.func (.yield l) #[] #[], .pointer (some ⟨Bs, 0, none⟩)] W fun e W' => (∃ v, e = .returned v) ∧
      ((∃ ys, ys = upto (fun j => zs[j]?.getD 0) len ∧ J ys W') ∨ (∃ pre, (∃ k, k ≤ len ∧ pre = upto (fun j => zs[j]?.getD 0) k) ∧ Jx pre W')) := by
  refine callsIn_of_wp Tryd.func63 rfl h7 ?_ hro
  simp only [Tryd.ntmps63, List.size_toArray, List.length_cons, List.length_nil, Nat.reduceAdd, Nat.reduceSub, Array.replicate_succ, Array.replicate_zero, List.push_toArray, List.append_toArray, List.nil_append, List.cons_append]
  gi_wp2
  gi_loopw [7] (fun i wr => ∃ k : Nat, k ≤ len ∧ i = .int .i64 k ∧ J (upto (fun j => zs[j]?.getD 0) k) wr ∧ Below n₀ W wr)
    (fun i _ => len - (intOf i).toNat)
  case atStart => exact ⟨0, Nat.zero_le _, rfl, h0, Below.refl _ _⟩
  case round =>
    obtain ⟨k, hk, rfl, hJs, hnx⟩ := hrel
    have hcx : k < len → wr.cell? ⟨b, off + k, none⟩ = some (.int .i64 (zs[k]?.getD 0)) := fun h => (hnx.cell (p := ⟨b, off + k, none⟩) (hb.resolve_left (by omega))).trans (hc k h)
    by_cases hlt : k < len
    · obtain ⟨fn, tmps, assign, body, hy, hR⟩ := hY _ (zs[k]?.getD 0) wr hJs (by rw [upto_length]; exact hlt)
      have hcx' := hcx hlt
      gi_wp2
      refine hR.mono ?_
      rintro e W3 (⟨rfl, hJ3, hk3⟩ | ⟨rfl, hJx3⟩)
      · gi_wp2
        go_roundw
        case rel => exact ⟨k + 1, by omega, by simp, by rw [upto_succ]; exact hJ3, hnx.trans hk3⟩
        case measure => simp [intOf]; omega
      · gi_wp2
        refine bodyPost_ret (results_none rfl _ _ _) rfl ?_
        exact ⟨⟨_, rfl⟩, .inr ⟨_, ⟨k + 1, by omega, (upto_succ _ _).symm⟩, hJx3⟩⟩
    · obtain rfl : k = len := by omega
      gi_wp2
      go_end0
      exact ⟨⟨_, rfl⟩, .inl ⟨_, rfl, hJs⟩⟩

def Ints (n₀ : Nat) (W : World) (sv : Value) (zs : List Int) : Prop :=
  ((∃ a c, sv = .slice a 0 c) ∧ zs = []) ∨ ∃ b off cap, sv = .slice (some ⟨b, off, none⟩) zs.length cap ∧ (zs.length = 0 ∨ b < n₀) ∧ ∀ j, j < zs.length → W.cell? ⟨b, off + j, none⟩ = some (.int .i64 (zs[j]?.getD 0))
theorem Ints.below {n₀ : Nat} {A B : World} (h : Below n₀ A B) {sv : Value} {zs : List Int} : Ints n₀ A sv zs → Ints n₀ B sv zs
  | .inl e => .inl e
  | .inr ⟨b, off, cap, e, hb, hc⟩ => .inr ⟨b, off, cap, e, hb, fun j hj => (h.cell (p := ⟨b, off + j, none⟩) (hb.resolve_left (by omega))).trans (hc j hj)⟩

set_option maxRecDepth 100000 in
set_option maxHeartbeats 1000000 in
theorem values1_nil_in (F : Fence) (n : Nat) (h7 : F.fn 63) (hro : F.round = none) (l Bs : Nat) (J : List Int → World → Prop) (W : World) (a : Option Addr) (c : Nat) (hBs : W.cell? ⟨Bs, 0, none⟩ = some (.slice a 0 c)) (h0 : J [] W) :
    CallsIn F n Tryd.prog 63 #[.func (.yield l) #[] #[], .pointer (some ⟨Bs, 0, none⟩)] W fun e W' => (∃ v, e = .returned v) ∧ J [] W' := by
  refine callsIn_of_wp Tryd.func63 rfl h7 ?_ hro
  simp only [Tryd.ntmps63, List.size_toArray, List.length_cons, List.length_nil, Nat.reduceAdd, Nat.reduceSub, Array.replicate_succ, Array.replicate_zero, List.push_toArray, List.append_toArray, List.nil_append, List.cons_append]
  gi_wp2
  gi_loopw [7] (fun i wr => i = .int .i64 0 ∧ J [] wr) (fun _ _ => 0)
  case atStart => exact ⟨rfl, h0⟩
  case round =>
    obtain ⟨rfl, hJs⟩ := hrel
    gi_wp2
    go_end0
    exact ⟨⟨_, rfl⟩, hJs⟩

theorem values_stops (F : Fence) (n : Nat) (h7 : F.fn 63) (hro : F.round = none) (hn : 1 ≤ n) (Bs n₀ : Nat) (sv : Value) (zs : List Int) (hreach : zs.length * 8 ≤ 140737488351232) (w : World) (hBs : Bs < w.heap.size) (hn₀ : n₀ ≤ w.heap.size)
    (hc : w.cell? ⟨Bs, 0, none⟩ = some sv) (hI : Ints n₀ w sv zs) :
    SeqStopsK F n Tryd.prog 63 #[.pointer (some ⟨Bs, 0, none⟩)] (fun x : Int => #[Value.int .i64 x]) (Below n₀) (fun ys => ys = zs) (fun pre => pre <+: zs) zs.length w := fun l J Jx W hW _ _ hY h0 => by
  have hc' := (hW.cell (p := ⟨Bs, 0, none⟩) hBs).trans hc
  rcases hI.below (hW.mono hn₀) with ⟨⟨a, c, rfl⟩, rfl⟩ | ⟨b, off, cap, rfl, hb, hcs⟩
  · exact (values1_nil_in F n h7 hro l Bs J W a c hc' h0).mono fun e W' ⟨he, hj⟩ => ⟨he, .inl ⟨_, rfl, hj⟩⟩
  · refine (values1_in F n h7 hro hn l Bs n₀ b off zs.length cap zs hreach hb J Jx hY W hc' hcs h0).mono ?_
    rintro e W' ⟨he, ⟨ys, rfl, hj⟩ | ⟨pre, ⟨k, hk, rfl⟩, hj⟩⟩
    · exact ⟨he, .inl ⟨_, upto_all zs, hj⟩⟩
    · exact ⟨he, .inr ⟨_, by rw [upto_take zs hk]; exact List.take_prefix _ _, hj⟩⟩

theorem info2 : (Tryd.prog.info? 2).map (fun i => (i.zero, i.size, i.bytes)) = some (some (.int .i64 0), 1, 8) := by kernel_rfl

set_option maxRecDepth 100000 in
set_option maxHeartbeats 4000000 in
theorem AppendSeq_in (F : Fence) (n : Nat) (h3 : F.fn 66) (h5 : F.fn 63) (hro : F.round = none) (hn : 3 ≤ n) (Bs : Nat) (sv : Value) (xs : List Int) (hlen : xs.length ≤ maxLen) (hbytes : xs.length * 8 ≤ 140737488351232) (w : World) (hBs : Bs < w.heap.size) (hc : w.cell? ⟨Bs, 0, none⟩ = some sv) (hL : Ints w.heap.size w sv xs) :
    CallsIn F n Tryd.prog 66 #[.slice none 0 0, .func (.func 63) #[] #[.pointer (some ⟨Bs, 0, none⟩)]] w fun e W' => ∃ v, e = .returned v ∧ W'.ownsRow w.heap.size 2 1 v xs.length (xs.map (Value.int .i64)) ∧ Below w.heap.size w W' := by
  have h1 : 1 ≤ n := by omega
  obtain ⟨i0, hi, hz0, hz1, hz2⟩ := info_parts info2
  refine callsIn_of_wp_marks Tryd.func66 rfl h3 ?_ hro
  simp only [Tryd.ntmps66, List.size_toArray, List.length_cons, List.length_nil, Nat.reduceAdd, Nat.reduceSub, Array.replicate_succ, Array.replicate_zero, List.push_toArray, List.append_toArray, List.nil_append, List.cons_append]
  gi_wp2
  have bO := Boxed.new w 28 (.slice none 0 0)
  have hB0 : Below w.heap.size w (w.alloc (.cells #[.slice none 0 0] 28)) := (Below.refl _ w).alloc (Nat.le_refl _) _
  refine wpIn_rangeFunc_ownG hro h1 (gf := 63) (lb := #[.pointer (some ⟨Bs, 0, none⟩)]) rfl h5 (enters_of Tryd.func63 (by kernel_rfl) rfl)
    (values_stops F (n - 1) h5 hro (by omega) Bs w.heap.size sv xs hbytes _ (by simp; omega) (by simp) ((hB0.cell (p := ⟨Bs, 0, none⟩) hBs).trans hc) (hL.below hB0)) belowK_t (belowK_b (by simp)) (Below.refl _ _) (fun _ => rfl)
    (fun pre W => (∃ v, Boxed W w.heap.size 28 v ∧ W.ownsRow w.heap.size 2 1 v pre.length (pre.map (Value.int .i64)) ∧ (v = .slice none 0 0 ↔ pre = [])) ∧ Below w.heap.size w W)
    (fun _ _ _ => False)
    (OwnFrom.and (Own.from (holdsRow_own w.heap.size w.heap.size 28 2 1 (fun pre => pre.length) (fun pre => pre.map (Value.int .i64)) (fun pre v => v = .slice none 0 0 ↔ pre = [])) _) (ownFrom_below (Nat.le_refl _) (by simp)))
    (fun _ _ _ _ _ hs _ _ => hs)
    ⟨⟨_, bO, World.ownsRow_nil _ _ _ _, by simp⟩, hB0⟩
    (fun x => { tmps := #[.slice none 0 0, .func (.func 63) #[] #[.pointer (some ⟨Bs, 0, none⟩)], .pointer (some ⟨w.heap.size, 0, none⟩), undef, .slice none 0 0, .int .i64 x, .func (.func 63) #[] #[.pointer (some ⟨Bs, 0, none⟩)], .int .i64 x, undef, undef, undef, undef, undef], defers := [] }) ?assign ?body ?done ?stop
  case assign =>
    intro l x W K hK
    gi_wp2
    exact hK
  case body =>
    rintro l pre x W ⟨⟨v, hv, hrow, hnil⟩, hB⟩ hlt
    have hc := hv.cell
    gi_wp2_with (gi_at_builtin; refine wpListIn_append_own _ rfl _ _ 28 rfl w.heap.size 2 i0 (.int .i64 0) 1 8 Tryd.underlying28 hi hz0 hz1 hz2 rfl (by decide) _ _ _ rfl (hrow.alloc _) ⟨W.heap.size, 0, none⟩ 1 1 [.int .i64 x] rfl rfl (cell_one_new _ _ _) (by simp [Value.oneCell']) (by omega) (by omega) (by have := hB.size; simp; omega) ?_; intro v' w1 hown' hgrow _; obtain ⟨g', cap', rfl⟩ := ownsRow_succ hown'; obtain ⟨hv1, hv2, hr2, hk2, hb2⟩ := hv.appended (by decide) hrow hB.size (Nat.le_refl _) hown' hgrow; have hc1 := hv1.cell; have hf1 := hv1.frozen)
    exact ⟨hk2.from _, hb2, ⟨_, hv2, by simpa using hr2, by simp⟩, hB.trans hb2⟩
  case done =>
    rintro D ys W hD rfl ⟨⟨v, hv, hrow, hnil⟩, hB⟩ hK
    have hc := hv.cell
    gi_wp2
    refine ⟨by simp, .inl ⟨_, _, rfl, run_takeDeferred hK, ?_⟩⟩
    exact ⟨_, results_tmp rfl _ _ _, v, rfl, ownsRow_putObj hrow _ hK rfl, hB.trans (belowK_b (w := w) (Nat.le_refl _) W D _ _ (by simp at hD; omega) hK rfl rfl)⟩
  case stop =>
    rintro D c pre W _ _ h _
    exact h.elim

set_option maxHeartbeats 1000000 in
theorem values_in (F : Fence) (n : Nat) (h5 : F.fn 58) (hro : F.round = none) (a : Option Addr) (len cap : Nat) (w : World) :
    CallsIn F n Tryd.prog 58 #[.slice a len cap] w fun e w' => e = .returned (.func (.func 63) #[] #[.pointer (some ⟨w.heap.size, 0, none⟩)]) ∧ w' = w.alloc (.cells #[.slice a len cap] 28) := by
  refine callsIn_of_wp Tryd.func58 rfl h5 ?_ hro
  simp only [Tryd.ntmps58, List.size_toArray, List.length_cons, List.length_nil, Nat.reduceAdd, Nat.reduceSub, Array.replicate_succ, Array.replicate_zero, List.push_toArray, List.append_toArray, List.nil_append, List.cons_append]
  gi_wp2
  go_ret
  exact ⟨rfl, rfl⟩

open Go.Sx in
theorem Wk.h1 {W w : World} {G : GH} {H : List Itm} {v : Value} {x : List Int} (m : Mem W G w H) (h : RSl (RI .i64) G v x) :
    Calls Tryd.prog 58 #[v] w (Res W G H (fun _ Ho r => ∃ b, Ho = [Itm.box b 28 [v]] ∧ .func (.func 63) #[] #[.pointer (some ⟨b, 0, none⟩)] = r)) := by
  obtain ⟨a, c, rfl, _, _⟩ := h.len
  refine (callsIn_wide (n := 3)).1 ((values_in Fence.wide 3 trivial rfl a x.length c w).mono ?_)
  rintro e w' ⟨rfl, rfl⟩
  exact ⟨_, rfl, G, [.box w.heap.size 28 [.slice a x.length c]], GLe.refl G, m.alloc 28 [.slice a x.length c], _, rfl, rfl⟩

open Go.Sx in
theorem Wk.x0 {W w : World} {G : GH} {H : List Itm} {b0 : Nat} {v : Value} {x y : List Int} (m : Mem W G w (Itm.box b0 28 [v] :: H)) (h : RSl (RI .i64) G v x) (hy : D.x0 x = some y) :
    Calls Tryd.prog 66 #[.slice none 0 0, .func (.func 63) #[] #[.pointer (some ⟨b0, 0, none⟩)]] w (Res W G H (fun G' Ho r => ∃ r' it, Ho = [it] ∧ r' = r ∧ Go.Sx.Ow (RI .i64) 2 G' it r' y)) := by
  unfold D.x0 at hy
  split at hy
  · rename_i hx
    obtain rfl := Option.some.inj hy
    have hb0 : w.heap[b0]? = some (.cells #[v] 28 (0, 0)) := m.items 0 (.box b0 28 [v]) rfl
    have hc : w.cell? ⟨b0, 0, none⟩ = some v := by simp [World.cell?, hb0]
    have hl : b0 < w.heap.size := (Array.getElem?_eq_some_iff.1 hb0).1
    have hI : Ints w.heap.size w v x := by
      obtain ⟨vs, hA, h⟩ := h
      rcases h with ⟨rfl, rfl⟩ | ⟨⟨b, off, sp⟩, cap, rfl, h1, h2, h3⟩
      · exact .inl ⟨⟨_, _, rfl⟩, rfl⟩
      · rcases Nat.eq_zero_or_pos x.length with h0 | h0
        · refine .inl ⟨⟨_, _, by rw [h0]⟩, List.eq_nil_of_length_eq_zero h0⟩
        · obtain ⟨c, hc, _⟩ := hA.get (i := 0) (x := x[0]) (by simp [h0])
          obtain ⟨rfl, cs, t, f, k1, _⟩ := h3 0 c hc
          refine .inr ⟨b, off, cap, rfl, .inr (m.glt k1), fun j hj => ?_⟩
          obtain ⟨c, hc, hR⟩ := hA.get (i := j) (x := x[j]) (by simp [hj])
          have := (h3 j c hc).2.get m
          rw [this, show c = .int .i64 x[j] from hR]
          simp [hj]
    refine (callsIn_wide (n := 3)).1 ((AppendSeq_in Fence.wide 3 trivial trivial rfl (by omega) b0 v x (by unfold maxLen; omega) (by omega) w hl hc hI).mono ?_)
    rintro e w' ⟨r, rfl, hrow, hB⟩
    refine ⟨_, rfl, G, [.row r 2 1 x.length (x.map (Value.int .i64))], GLe.refl G, ?_, r, _, rfl, rfl, x.map (Value.int .i64), rfl, by simp, fun i c z h1 h2 => ?_⟩
    · refine m.tail.add hB.os hB.tape hB.output (fun z hz => hB.block z hz) ?_ ?_
      · refine ⟨hrow.1, ?_⟩
        rcases hrow.2 with hn | ⟨g, cap, cur, e1, _, e3⟩
        · exact .inl hn
        · exact .inr ⟨g, cap, cur, e1, Nat.zero_le _, e3⟩
      · intro z hz
        rcases hrow.2 with ⟨rfl, _⟩ | ⟨g, cap, cur, rfl, e2, e3⟩
        · simp [Itm.foot, Value.ownBlock] at hz
        · simp [Itm.foot, Value.ownBlock] at hz; omega
    · rw [List.getElem?_map, h2] at h1
      exact (Option.some.inj h1).symm
  · cases hy
end YtebbefpdncgoiaaDoor
end Go.Proofs

/- Loops in closed form: over the elements of a list, over the numbers below one, with a way out. Plain facts, no program in sight. -/
namespace Go.Sx
theorem w64 {x : Int} (h1 : -9223372036854775808 ≤ x) (h2 : x < 9223372036854775808) : IntKind.i64.wrap x = x := by
  simp only [IntKind.wrap, IntKind.bits, IntKind.signed]
  have e : (2 : Int) ^ 64 = 18446744073709551616 := by decide
  have e' : (2 : Int) ^ (64 - 1) = 9223372036854775808 := by decide
  simp
  omega

theorem dlt {i n : Nat} (h : i < n) : decide ((i : Int) < (n : Int)) = true := by simp; omega
theorem dnlt {n : Nat} : decide ((n : Int) < (n : Int)) = false := by simp
theorem idx_nat {α : Type} {xs : List α} {i : Nat} (h : i < xs.length) : idx xs (i : Int) = some xs[i] := by
  unfold idx; rw [if_pos (by omega)]; simp [h]
theorem idx_int {α : Type} {xs : List α} {i : Int} (h0 : 0 ≤ i) (h : i < xs.length) : idx xs i = some (xs[i.toNat]'(by omega)) := by
  unfold idx; rw [if_pos h0]; simp
theorem wi {i : Nat} (h : i < 4611686018427387904) : IntKind.i64.wrap ((i : Int) + 1) = ((i + 1 : Nat) : Int) := by
  rw [w64 (by omega) (by omega)]; rfl
theorem wi' {i n : Nat} (h : i < n) (hn : n ≤ 4611686018427387904) : IntKind.i64.wrap ((i : Int) + 1) = ((i + 1 : Nat) : Int) := wi (by omega)
theorem getD_lt {α : Type} {xs : List α} {i : Nat} (h : i < xs.length) (d : α) : xs.getD i d = xs[i] := by simp [h]
theorem appendD_ok {α : Type} {xs ys : List α} (h : xs.length + ys.length ≤ 4294967296) : appendD xs ys = some (xs ++ ys) := by
  unfold appendD; rw [if_pos h]
theorem sliceD_pre {α : Type} {xs : List α} {i : Nat} (h : i ≤ xs.length) : sliceD xs 0 (i : Int) = some (xs.take i) := by
  unfold sliceD; rw [if_pos ⟨by omega, by omega, by omega⟩]; simp
theorem sliceD_post {α : Type} {xs : List α} {i : Nat} (h : i ≤ xs.length) : sliceD xs (i : Int) (xs.length : Int) = some (xs.drop i) := by
  unfold sliceD; rw [if_pos ⟨by omega, by omega, by omega⟩]; simp
theorem makeD_ok {α : Type} {z : α} {n : Nat} {c : Int} (h : (n : Int) ≤ c) (h2 : c ≤ 4294967296) : makeD z (n : Int) c = some (List.replicate n z) := by
  unfold makeD; rw [if_pos ⟨by omega, h, h2⟩]; simp
theorem makeD_zero {α : Type} {z : α} {c : Int} (h : 0 ≤ c) (h2 : c ≤ 4294967296) : makeD z 0 c = some [] := by
  unfold makeD; rw [if_pos ⟨by omega, h, h2⟩]; simp

/-- a round either goes on, nearer to the end, or leaves with what was promised -/
def Stp {σ ρ : Type} (I : σ → Prop) (μ : σ → Nat) (Post : ρ → Prop) (s : σ) : σ ⊕ ρ → Prop
  | .inl s' => I s' ∧ μ s' < μ s
  | .inr r => Post r

theorem loop_then {σ ρ β : Type} {step : σ → Option (σ ⊕ ρ)} {s : σ} {k : ρ → Option β} {Q : β → Prop} (I : σ → Prop) (μ : σ → Nat) (Post : ρ → Prop)
    (hstep : ∀ s, I s → ∃ y, step s = some y ∧ Stp I μ Post s y) (h0 : I s) (hk : ∀ r, Post r → ∃ y, k r = some y ∧ Q y) : ∃ y, (loopF step s).bind k = some y ∧ Q y := by
  obtain ⟨r, hr, hp⟩ := loopF_inv (step := step) I μ Post (fun s hs => by
    obtain ⟨y, hy, hq⟩ := hstep s hs
    cases y with
    | inl s' => exact .inl ⟨s', hy, hq.1, hq.2⟩
    | inr r => exact .inr ⟨r, hy, hq⟩) s h0
  rw [hr]
  exact hk r hp
theorem bind_then {α β : Type} {e : Option α} {k : α → Option β} {Q : β → Prop} (R : α → Prop) (h : ∃ x, e = some x ∧ R x) (hk : ∀ x, R x → ∃ y, k x = some y ∧ Q y) : ∃ y, e.bind k = some y ∧ Q y := by
  obtain ⟨x, rfl, hx⟩ := h
  exact hk x hx

/-- from state a to state b in so many rounds -/
theorem loop_steps {S ρ : Type} {step : S → Option (S ⊕ ρ)} (st : Nat → S) (n : Nat) (h : ∀ i, i < n → step (st i) = some (.inl (st (i + 1)))) : loopF step (st 0) = loopF step (st n) := by
  have key : ∀ k, k ≤ n → loopF step (st 0) = loopF step (st k) := by
    intro k
    induction k with
    | zero => intro _; rfl
    | succ k ih => intro hk; rw [ih (by omega), loopF_more (h k (by omega))]
  exact key n (Nat.le_refl n)

/-- and out of it -/
theorem loop_to {S ρ β : Type} {step : S → Option (S ⊕ ρ)} {k : ρ → Option β} {s0 : S} (st : Nat → S) (n : Nat) (r : ρ) (h0 : st 0 = s0) (h : ∀ i, i < n → step (st i) = some (.inl (st (i + 1)))) (he : step (st n) = some (.inr r)) :
    (loopF step s0).bind k = k r := by
  rw [← h0, loop_steps st n h, loopF_done he]; rfl

/-- a loop over the elements of a list, that goes to its end -/
theorem loop_list {α σ S ρ : Type} {step : S → Option (S ⊕ ρ)} (xs : List α) (enc : σ → Int → S) (f : σ → α → σ) (fin : σ → ρ) (I : σ → Prop) (s0 : σ)
    (h0 : I s0) (hstep : ∀ s (i : Nat) (h : i < xs.length), I s → step (enc s i) = some (.inl (enc (f s xs[i]) ((i + 1 : Nat) : Int))) ∧ I (f s xs[i]))
    (hend : ∀ s, I s → step (enc s xs.length) = some (.inr (fin s))) : loopF step (enc s0 0) = some (fin (xs.foldl f s0)) ∧ I (xs.foldl f s0) := by
  have key : ∀ (k i : Nat) (s : σ), i + k = xs.length → I s → loopF step (enc s i) = some (fin ((xs.drop i).foldl f s)) ∧ I ((xs.drop i).foldl f s) := by
    intro k
    induction k with
    | zero =>
      intro i s hk hs
      obtain rfl : i = xs.length := by omega
      simp only [List.drop_length, List.foldl_nil]
      exact ⟨loopF_done (hend s hs), hs⟩
    | succ k ih =>
      intro i s hk hs
      have hi : i < xs.length := by omega
      obtain ⟨h1, h2⟩ := hstep s i hi hs
      rw [loopF_more h1, List.drop_eq_getElem_cons hi, List.foldl_cons]
      exact ih (i + 1) _ (by omega) h2
  have := key xs.length 0 s0 (by omega) h0
  simpa using this

/-- and what comes behind -/
theorem loop_listb {α σ S ρ β : Type} {step : S → Option (S ⊕ ρ)} {k : ρ → Option β} (xs : List α) (enc : σ → Int → S) (f : σ → α → σ) (fin : σ → ρ) (I : σ → Prop) (s0 : σ)
    (h0 : I s0) (hstep : ∀ s (i : Nat) (h : i < xs.length), I s → step (enc s i) = some (.inl (enc (f s xs[i]) ((i + 1 : Nat) : Int))) ∧ I (f s xs[i]))
    (hend : ∀ s, I s → step (enc s xs.length) = some (.inr (fin s))) : (loopF step (enc s0 0)).bind k = k (fin (xs.foldl f s0)) := by
  rw [(loop_list xs enc f fin I s0 h0 hstep hend).1]; rfl

/-- a loop that makes one element for each element -/
theorem loop_map {α β γ S : Type} {step : S → Option (S ⊕ List β)} {k : List β → Option γ} (xs : List α) (enc : List β → Int → S) (f : α → β) (hx : xs.length ≤ 4294967296)
    (hstep : ∀ s (i : Nat) (h : i < xs.length), s.length = i → step (enc s i) = (appendD s [f xs[i]]).bind fun l => some (.inl (enc l ((i + 1 : Nat) : Int))))
    (hend : ∀ s, step (enc s xs.length) = some (.inr s)) : (loopF step (enc [] 0)).bind k = k (xs.map f) := by
  have key : ∀ i, i ≤ xs.length → loopF step (enc [] 0) = loopF step (enc ((xs.take i).map f) i) := by
    intro i
    induction i with
    | zero => intro _; simp
    | succ i ih =>
      intro hi
      rw [ih (by omega)]
      have h1 := hstep ((xs.take i).map f) i (by omega) (by simp; omega)
      have h2 : appendD ((xs.take i).map f) [f xs[i]] = some ((xs.take (i + 1)).map f) := by
        unfold appendD
        rw [if_pos (by simp; omega)]
        rw [List.take_succ_eq_append_getElem (show i < xs.length by omega), List.map_append]; rfl
      rw [h2] at h1
      rw [loopF_more h1]
  rw [key xs.length (Nat.le_refl _), List.take_length, loopF_done (hend _)]; rfl

/-- a loop that looks for the first place where something is so -/
theorem loop_find {ρ : Type} {step : Int → Option (Int ⊕ ρ)} (n : Nat) (c : Nat → Option ρ) (fin : ρ)
    (hstep : ∀ i, i < n → step (i : Int) = match c i with | some r => some (.inr r) | none => some (.inl ((i + 1 : Nat) : Int)))
    (hend : step (n : Int) = some (.inr fin)) : loopF step 0 = some (((List.range n).findSome? c).getD fin) := by
  have key : ∀ (k i : Nat), i + k = n → loopF step (i : Int) = some (((List.range' i k).findSome? c).getD fin) := by
    intro k
    induction k with
    | zero => intro i h; obtain rfl : i = n := by omega
              simpa using loopF_done hend
    | succ k ih =>
      intro i h
      have h1 := hstep i (by omega)
      rw [List.range'_succ, List.findSome?_cons]
      cases hc : c i with
      | some r => rw [hc] at h1; simpa using loopF_done h1
      | none => rw [hc] at h1; rw [loopF_more h1]; exact ih (i + 1) (by omega)
  have := key n 0 (by omega)
  simpa [List.range_eq_range'] using this

/-- all places are good, or the first bad one ends it -/
theorem loop_allb {β : Type} {step : Int → Option (Int ⊕ (Unit ⊕ β))} {k : Unit ⊕ β → Option Bool} (n : Nat) (c : Nat → Bool) (bad : β)
    (hstep : ∀ i, i < n → step (i : Int) = if c i then some (.inl ((i + 1 : Nat) : Int)) else some (.inr (.inr bad)))
    (hend : step (n : Int) = some (.inr (.inl ()))) (hk1 : k (.inl ()) = some true) (hk2 : k (.inr bad) = some false) :
    (loopF step 0).bind k = some ((List.range n).all c) := by
  rw [loop_find n (fun i => if c i then none else some (.inr bad)) (.inl ()) (fun i hi => by rw [hstep i hi]; cases c i <;> rfl) hend]
  simp only [Option.bind_some]
  cases h : (List.range n).all c with
  | true =>
    rw [List.findSome?_eq_none_iff.2 (fun x hx => by rw [if_pos (List.all_eq_true.1 h x hx)])]
    exact hk1
  | false =>
    cases h2 : (List.range n).findSome? (fun i => if c i then none else some (Sum.inr bad)) with
    | none =>
      rw [List.findSome?_eq_none_iff] at h2
      have : (List.range n).all c = true := List.all_eq_true.2 fun x hx => by
        have := h2 x hx
        cases hc : c x
        · rw [hc] at this; cases this
        · rfl
      rw [this] at h; cases h
    | some r =>
      obtain ⟨x, _, hx⟩ := List.exists_of_findSome?_eq_some h2
      cases hc : c x
      · rw [hc] at hx; simp at hx; subst hx; exact hk2
      · rw [hc] at hx; simp at hx

/-- all places are good, or the first bad one ends it: what comes behind -/
theorem loop_ck {ρ β : Type} {step : Int → Option (Int ⊕ ρ)} {k : ρ → Option β} (n : Nat) (c : Nat → Bool) (fine bad : ρ)
    (hstep : ∀ i, i < n → step (i : Int) = if c i then some (.inl ((i + 1 : Nat) : Int)) else some (.inr bad))
    (hend : step (n : Int) = some (.inr fine)) : (loopF step 0).bind k = cond ((List.range n).all c) (k fine) (k bad) := by
  rw [loop_find n (fun i => if c i then none else some bad) fine (fun i hi => by rw [hstep i hi]; cases c i <;> rfl) hend]
  simp only [Option.bind_some]
  cases h : (List.range n).all c with
  | true =>
    rw [List.findSome?_eq_none_iff.2 (fun x hx => by rw [if_pos (List.all_eq_true.1 h x hx)])]
    rfl
  | false =>
    cases h2 : (List.range n).findSome? (fun i => if c i then none else some bad) with
    | none =>
      rw [List.findSome?_eq_none_iff] at h2
      have : (List.range n).all c = true := List.all_eq_true.2 fun x hx => by
        have := h2 x hx
        cases hc : c x
        · rw [hc] at this; cases this
        · rfl
      rw [this] at h; cases h
    | some r =>
      obtain ⟨x, _, hx⟩ := List.exists_of_findSome?_eq_some h2
      cases hc : c x
      · rw [hc] at hx; simp at hx; subst hx; rfl
      · rw [hc] at hx; simp at hx

/-- some place is so -/
theorem loop_anyb {β : Type} {step : Int → Option (Int ⊕ (Unit ⊕ β))} {k : Unit ⊕ β → Option Bool} (n : Nat) (c : Nat → Bool) (good : β)
    (hstep : ∀ i, i < n → step (i : Int) = if c i then some (.inr (.inr good)) else some (.inl ((i + 1 : Nat) : Int)))
    (hend : step (n : Int) = some (.inr (.inl ()))) (hk1 : k (.inl ()) = some false) (hk2 : k (.inr good) = some true) :
    (loopF step 0).bind k = some ((List.range n).any c) := by
  rw [loop_find n (fun i => if c i then some (.inr good) else none) (.inl ()) (fun i hi => by rw [hstep i hi]; cases c i <;> rfl) hend]
  simp only [Option.bind_some]
  cases h : (List.range n).any c with
  | false =>
    rw [List.findSome?_eq_none_iff.2 (fun x hx => by
      have : c x = false := by
        cases hc : c x
        · rfl
        · rw [List.any_eq_true.2 ⟨x, hx, hc⟩] at h; cases h
      rw [this]; rfl)]
    exact hk1
  | true =>
    obtain ⟨x, hx, hc⟩ := List.any_eq_true.1 h
    cases h2 : (List.range n).findSome? (fun i => if c i then some (Sum.inr good) else none) with
    | none =>
      rw [List.findSome?_eq_none_iff] at h2
      have := h2 x hx
      rw [hc] at this; cases this
    | some r =>
      obtain ⟨y, _, hy⟩ := List.exists_of_findSome?_eq_some h2
      cases hc : c y
      · rw [hc] at hy; simp at hy
      · rw [hc] at hy; simp at hy; subst hy; exact hk2

theorem range_all_list {α : Type} (xs : List α) (p : α → Bool) (c : Nat → Bool) (h : ∀ i (hi : i < xs.length), c i = p xs[i]) : (List.range xs.length).all c = xs.all p := by
  rw [Bool.eq_iff_iff, List.all_eq_true, List.all_eq_true]
  constructor
  · intro hh x hx
    obtain ⟨i, hi, rfl⟩ := List.getElem_of_mem hx
    rw [← h i hi]; exact hh i (List.mem_range.2 hi)
  · intro hh i hi
    have hi' := List.mem_range.1 hi
    rw [h i hi']; exact hh _ (List.getElem_mem _)
theorem range_any_list {α : Type} (xs : List α) (p : α → Bool) (c : Nat → Bool) (h : ∀ i (hi : i < xs.length), c i = p xs[i]) : (List.range xs.length).any c = xs.any p := by
  rw [Bool.eq_iff_iff, List.any_eq_true, List.any_eq_true]
  constructor
  · rintro ⟨i, hi, hc⟩
    have hi' := List.mem_range.1 hi
    exact ⟨_, List.getElem_mem hi', by rw [← h i hi']; exact hc⟩
  · rintro ⟨x, hx, hc⟩
    obtain ⟨i, hi, rfl⟩ := List.getElem_of_mem hx
    exact ⟨i, List.mem_range.2 hi, by rw [h i hi]; exact hc⟩
theorem all_forall (n : Nat) (c : Nat → Bool) : (List.range n).all c = true ↔ ∀ i, i < n → c i = true := by
  rw [List.all_eq_true]
  exact ⟨fun h i hi => h i (List.mem_range.2 hi), fun h i hi => h i (List.mem_range.1 hi)⟩

end Go.Sx



/- Go's sort by a comparison (slices.SortFunc), whatever is sorted: its parts as plain functions, made by program out of one instance. -/
namespace Go.Sx

noncomputable def DG.insertionSort {α : Type} (cmp : α → α → Option Int) (x0 : (List α)) (x1 : Int) (x2 : Int) : Option (((List α))) :=
  (loopF (σ := (List α) × Int) (ρ := ((List α))) (fun (s_560 : (List α) × Int) => match s_560 with | (l_563, x_566) => cond (decide (x_566 < x2)) ((loopF (σ := (List α) × Int) (ρ := ((List α))) (fun (s_984 : (List α) × Int) => match s_984 with | (l_987, x_990) => (cond (decide (x1 < x_990)) ((idx l_987 x_990).bind fun e_1079 => (idx l_987 (IntKind.i64.wrap (x_990 - 1))).bind fun e_1085 => (cmp e_1079 e_1085).bind fun y_1091 => some (decide (y_1091 < 0))) (some false)).bind fun b_1077 => cond b_1077 ((idx l_987 (IntKind.i64.wrap (x_990 - 1))).bind fun e_1097 => (idx l_987 x_990).bind fun e_1103 => (idx l_987 x_990).bind fun e_1109 => (idx (l_987.set (Int.toNat x_990) e_1097) (IntKind.i64.wrap (x_990 - 1))).bind fun e_1117 => some (.inl (((l_987.set (Int.toNat x_990) e_1097).set (Int.toNat (IntKind.i64.wrap (x_990 - 1))) e_1103), (IntKind.i64.wrap (x_990 - 1))))) (some (.inr l_987))) (l_563, x_566)).bind fun l_1056 => some (.inl (l_1056, (IntKind.i64.wrap (x_566 + 1))))) (some (.inr l_563))) (x0, (IntKind.i64.wrap (x1 + 1)))).bind fun l_844 => some l_844

noncomputable def DG.siftDown {α : Type} (cmp : α → α → Option Int) (x0 : (List α)) (x1 : Int) (x2 : Int) (x3 : Int) : Option (((List α))) :=
  (loopF (σ := (List α) × Int) (ρ := ((List α)) ⊕ (((List α)))) (fun (s_186 : (List α) × Int) => match s_186 with | (l_189, x_192) => cond (decide (x2 ≤ (IntKind.i64.wrap ((IntKind.i64.wrap (2 * x_192)) + 1)))) (some (.inr (.inl l_189))) ((cond (decide ((IntKind.i64.wrap ((IntKind.i64.wrap ((IntKind.i64.wrap (2 * x_192)) + 1)) + 1)) < x2)) ((idx l_189 (IntKind.i64.wrap (x3 + (IntKind.i64.wrap ((IntKind.i64.wrap (2 * x_192)) + 1))))).bind fun e_307 => (idx l_189 (IntKind.i64.wrap ((IntKind.i64.wrap (x3 + (IntKind.i64.wrap ((IntKind.i64.wrap (2 * x_192)) + 1)))) + 1))).bind fun e_313 => (cmp e_307 e_313).bind fun y_319 => some (decide (y_319 < 0))) (some false)).bind fun b_305 => ((cond b_305 (some (IntKind.i64.wrap ((IntKind.i64.wrap ((IntKind.i64.wrap (2 * x_192)) + 1)) + 1))) (some (IntKind.i64.wrap ((IntKind.i64.wrap (2 * x_192)) + 1))) : Option (Int))).bind fun x_328 => (idx l_189 (IntKind.i64.wrap (x3 + x_192))).bind fun e_331 => (idx l_189 (IntKind.i64.wrap (x3 + x_328))).bind fun e_337 => (cmp e_331 e_337).bind fun y_343 => cond (!(decide (y_343 < 0))) (some (.inr (.inr l_189))) ((idx l_189 (IntKind.i64.wrap (x3 + x_328))).bind fun e_349 => (idx l_189 (IntKind.i64.wrap (x3 + x_192))).bind fun e_355 => (idx l_189 (IntKind.i64.wrap (x3 + x_192))).bind fun e_361 => (idx (l_189.set (Int.toNat (IntKind.i64.wrap (x3 + x_192))) e_349) (IntKind.i64.wrap (x3 + x_328))).bind fun e_369 => some (.inl (((l_189.set (Int.toNat (IntKind.i64.wrap (x3 + x_192))) e_349).set (Int.toNat (IntKind.i64.wrap (x3 + x_328))) e_355), x_328))))) (x0, x1)).bind fun zz => match zz with | .inl l_283 => (some l_283) | .inr z => (some z)

noncomputable def DG.heapSort {α : Type} (cmp : α → α → Option Int) (x0 : (List α)) (x1 : Int) (x2 : Int) : Option (((List α))) :=
  (loopF (σ := (List α) × Int) (ρ := ((List α))) (fun (s_30 : (List α) × Int) => match s_30 with | (l_33, x_36) => cond (decide ((0 : Int) ≤ x_36)) ((DG.siftDown cmp l_33 x_36 (IntKind.i64.wrap (x2 - x1)) x1).bind fun y_54 => some (.inl (y_54, (IntKind.i64.wrap (x_36 - 1))))) (some (.inr l_33))) (x0, (IntKind.i64.wrap (Int.tdiv (IntKind.i64.wrap ((IntKind.i64.wrap (x2 - x1)) - 1)) 2)))).bind fun l_49 => (loopF (σ := (List α) × Int) (ρ := ((List α))) (fun (s_144 : (List α) × Int) => match s_144 with | (l_147, x_150) => cond (decide ((0 : Int) ≤ x_150)) ((idx l_147 (IntKind.i64.wrap (x1 + x_150))).bind fun e_194 => (idx l_147 x1).bind fun e_200 => (idx l_147 x1).bind fun e_206 => (idx (l_147.set (Int.toNat x1) e_194) (IntKind.i64.wrap (x1 + x_150))).bind fun e_214 => (DG.siftDown cmp ((l_147.set (Int.toNat x1) e_194).set (Int.toNat (IntKind.i64.wrap (x1 + x_150))) e_200) 0 x_150 x1).bind fun y_220 => some (.inl (y_220, (IntKind.i64.wrap (x_150 - 1))))) (some (.inr l_147))) (l_49, (IntKind.i64.wrap ((IntKind.i64.wrap (x2 - x1)) - 1)))).bind fun l_189 => some l_189

noncomputable def DG.breakPatterns {α : Type} (cmp : α → α → Option Int) (x0 : (List α)) (x1 : Int) (x2 : Int) : Option (((List α))) :=
  cond (decide ((8 : Int) ≤ (IntKind.i64.wrap (x2 - x1)))) ((D.v (IntKind.i64.wrap (x2 - x1))).bind fun y_4 => (loopF (σ := (List α) × Int × Int) (ρ := ((List α))) (fun (s_103 : (List α) × Int × Int) => match s_103 with | (l_106, x_109, x_110) => cond (decide (x_109 ≤ (IntKind.i64.wrap ((IntKind.i64.wrap (x1 + (IntKind.i64.wrap ((IntKind.i64.wrap (Int.tdiv (IntKind.i64.wrap (x2 - x1)) 4)) * 2)))) + 1)))) ((D.E x_110).bind fun y_159 => ((cond (decide ((IntKind.i64.wrap (x2 - x1)) ≤ (IntKind.i64.wrap (iand .u64 y_159.1 (IntKind.u64.wrap (y_4 - 1)))))) (some (IntKind.i64.wrap ((IntKind.i64.wrap (iand .u64 y_159.1 (IntKind.u64.wrap (y_4 - 1)))) - (IntKind.i64.wrap (x2 - x1))))) (some (IntKind.i64.wrap (iand .u64 y_159.1 (IntKind.u64.wrap (y_4 - 1))))) : Option (Int))).bind fun x_170 => (idx l_106 (IntKind.i64.wrap (x1 + x_170))).bind fun e_173 => (idx l_106 x_109).bind fun e_179 => (idx l_106 x_109).bind fun e_185 => (idx (l_106.set (Int.toNat x_109) e_173) (IntKind.i64.wrap (x1 + x_170))).bind fun e_193 => some (.inl (((l_106.set (Int.toNat x_109) e_173).set (Int.toNat (IntKind.i64.wrap (x1 + x_170))) e_179), (IntKind.i64.wrap (x_109 + 1)), y_159.2))) (some (.inr l_106))) (x0, (IntKind.i64.wrap ((IntKind.i64.wrap (x1 + (IntKind.i64.wrap ((IntKind.i64.wrap (Int.tdiv (IntKind.i64.wrap (x2 - x1)) 4)) * 2)))) - 1)), (IntKind.u64.wrap (IntKind.i64.wrap (x2 - x1))))).bind fun l_154 => some l_154) (some x0)

noncomputable def DG.order2 {α : Type} (cmp : α → α → Option Int) (x0 : (List α)) (x1 : Int) (x2 : Int) (x3_0 : Int) : Option (Int × Int × ((List α)) × Int) :=
  (idx x0 x2).bind fun e_1 => (idx x0 x1).bind fun e_7 => (cmp e_1 e_7).bind fun y_13 => cond (decide (y_13 < 0)) (some (x2, x1, x0, (IntKind.i64.wrap (x3_0 + 1)))) (some (x1, x2, x0, x3_0))

noncomputable def DG.median {α : Type} (cmp : α → α → Option Int) (x0 : (List α)) (x1 : Int) (x2 : Int) (x3 : Int) (x4_0 : Int) : Option (Int × ((List α)) × Int) :=
  (DG.order2 cmp x0 x1 x2 x4_0).bind fun y_1 => (DG.order2 cmp y_1.2.2.1 y_1.2.1 x3 y_1.2.2.2).bind fun y_10 => (DG.order2 cmp y_10.2.2.1 y_1.1 y_10.1 y_10.2.2.2).bind fun y_19 => some (y_19.2.1, y_19.2.2.1, y_19.2.2.2)

noncomputable def DG.medianAdjacent {α : Type} (cmp : α → α → Option Int) (x0 : (List α)) (x1 : Int) (x2_0 : Int) : Option (Int × ((List α)) × Int) :=
  (DG.median cmp x0 (IntKind.i64.wrap (x1 - 1)) x1 (IntKind.i64.wrap (x1 + 1)) x2_0).bind fun y_1 => some (y_1.1, y_1.2.1, y_1.2.2)

noncomputable def DG.choosePivot {α : Type} (cmp : α → α → Option Int) (x0 : (List α)) (x1 : Int) (x2 : Int) : Option (Int × Int × ((List α))) :=
  cond (decide ((8 : Int) ≤ (IntKind.i64.wrap (x2 - x1)))) (((cond (decide ((50 : Int) ≤ (IntKind.i64.wrap (x2 - x1)))) ((DG.medianAdjacent cmp x0 (IntKind.i64.wrap (x1 + (IntKind.i64.wrap ((IntKind.i64.wrap (Int.tdiv (IntKind.i64.wrap (x2 - x1)) 4)) * 1)))) 0).bind fun y_44 => (DG.medianAdjacent cmp y_44.2.1 (IntKind.i64.wrap (x1 + (IntKind.i64.wrap ((IntKind.i64.wrap (Int.tdiv (IntKind.i64.wrap (x2 - x1)) 4)) * 2)))) y_44.2.2).bind fun y_53 => (DG.medianAdjacent cmp y_53.2.1 (IntKind.i64.wrap (x1 + (IntKind.i64.wrap ((IntKind.i64.wrap (Int.tdiv (IntKind.i64.wrap (x2 - x1)) 4)) * 3)))) y_53.2.2).bind fun y_62 => some (y_62.2.1, y_44.1, y_53.1, y_62.1, y_62.2.2)) (some (x0, (IntKind.i64.wrap (x1 + (IntKind.i64.wrap ((IntKind.i64.wrap (Int.tdiv (IntKind.i64.wrap (x2 - x1)) 4)) * 1)))), (IntKind.i64.wrap (x1 + (IntKind.i64.wrap ((IntKind.i64.wrap (Int.tdiv (IntKind.i64.wrap (x2 - x1)) 4)) * 2)))), (IntKind.i64.wrap (x1 + (IntKind.i64.wrap ((IntKind.i64.wrap (Int.tdiv (IntKind.i64.wrap (x2 - x1)) 4)) * 3)))), 0)) : Option ((List α) × Int × Int × Int × Int))).bind fun (l_35, x_38, x_39, x_40, x_41) => (DG.median cmp l_35 x_38 x_39 x_40 x_41).bind fun y_71 => cond (y_71.2.2 == 0) (some (y_71.1, 1, y_71.2.1)) (cond (y_71.2.2 == 12) (some (y_71.1, 2, y_71.2.1)) (some (y_71.1, 0, y_71.2.1)))) (cond ((0 : Int) == 0) (some ((IntKind.i64.wrap (x1 + (IntKind.i64.wrap ((IntKind.i64.wrap (Int.tdiv (IntKind.i64.wrap (x2 - x1)) 4)) * 2)))), 1, x0)) (cond ((0 : Int) == 12) (some ((IntKind.i64.wrap (x1 + (IntKind.i64.wrap ((IntKind.i64.wrap (Int.tdiv (IntKind.i64.wrap (x2 - x1)) 4)) * 2)))), 2, x0)) (some ((IntKind.i64.wrap (x1 + (IntKind.i64.wrap ((IntKind.i64.wrap (Int.tdiv (IntKind.i64.wrap (x2 - x1)) 4)) * 2)))), 0, x0))))

noncomputable def DG.reverseRange {α : Type} (cmp : α → α → Option Int) (x0 : (List α)) (x1 : Int) (x2 : Int) : Option (((List α))) :=
  (loopF (σ := (List α) × Int × Int) (ρ := ((List α))) (fun (s_65 : (List α) × Int × Int) => match s_65 with | (l_68, x_71, x_72) => cond (decide (x_71 < x_72)) ((idx l_68 x_72).bind fun e_107 => (idx l_68 x_71).bind fun e_113 => (idx l_68 x_71).bind fun e_119 => (idx (l_68.set (Int.toNat x_71) e_107) x_72).bind fun e_127 => some (.inl (((l_68.set (Int.toNat x_71) e_107).set (Int.toNat x_72) e_113), (IntKind.i64.wrap (x_71 + 1)), (IntKind.i64.wrap (x_72 - 1))))) (some (.inr l_68))) (x0, x1, (IntKind.i64.wrap (x2 - 1)))).bind fun l_102 => some l_102

noncomputable def DG.partialInsertionSort {α : Type} (cmp : α → α → Option Int) (x0 : (List α)) (x1 : Int) (x2 : Int) : Option (Bool × ((List α))) :=
  (loopF (σ := (List α) × Int × Int) (ρ := ((List α)) ⊕ (Bool × ((List α)))) (fun (s_1625 : (List α) × Int × Int) => match s_1625 with | (l_1628, x_1631, x_1632) => cond (decide (x_1632 < 5)) ((loopF (σ := Int) (ρ := (Int)) (fun (x_2530 : Int) => (cond (decide (x_2530 < x2)) ((idx l_1628 x_2530).bind fun e_2591 => (idx l_1628 (IntKind.i64.wrap (x_2530 - 1))).bind fun e_2597 => (cmp e_2591 e_2597).bind fun y_2603 => some (!(decide (y_2603 < 0)))) (some false)).bind fun b_2589 => cond b_2589 (some (.inl (IntKind.i64.wrap (x_2530 + 1)))) (some (.inr x_2530))) x_1631).bind fun x_2570 => cond (x_2570 == x2) (some (.inr (.inr (true, l_1628)))) (cond (decide ((IntKind.i64.wrap (x2 - x1)) < 50)) (some (.inr (.inr (false, l_1628)))) ((idx l_1628 (IntKind.i64.wrap (x_2570 - 1))).bind fun e_2611 => (idx l_1628 x_2570).bind fun e_2617 => (idx l_1628 x_2570).bind fun e_2623 => (idx (l_1628.set (Int.toNat x_2570) e_2611) (IntKind.i64.wrap (x_2570 - 1))).bind fun e_2631 => ((cond (decide ((2 : Int) ≤ (IntKind.i64.wrap (x_2570 - x1)))) ((loopF (σ := (List α) × Int) (ρ := ((List α))) (fun (s_2947 : (List α) × Int) => match s_2947 with | (l_2950, x_2953) => cond (decide ((1 : Int) ≤ x_2953)) ((idx l_2950 x_2953).bind fun e_3006 => (idx l_2950 (IntKind.i64.wrap (x_2953 - 1))).bind fun e_3012 => (cmp e_3006 e_3012).bind fun y_3018 => cond (!(decide (y_3018 < 0))) (some (.inr l_2950)) ((idx l_2950 (IntKind.i64.wrap (x_2953 - 1))).bind fun e_3024 => (idx l_2950 x_2953).bind fun e_3030 => (idx l_2950 x_2953).bind fun e_3036 => (idx (l_2950.set (Int.toNat x_2953) e_3024) (IntKind.i64.wrap (x_2953 - 1))).bind fun e_3044 => some (.inl (((l_2950.set (Int.toNat x_2953) e_3024).set (Int.toNat (IntKind.i64.wrap (x_2953 - 1))) e_3030), (IntKind.i64.wrap (x_2953 - 1)))))) (some (.inr l_2950))) (((l_1628.set (Int.toNat x_2570) e_2611).set (Int.toNat (IntKind.i64.wrap (x_2570 - 1))) e_2617), (IntKind.i64.wrap (x_2570 - 1)))).bind fun l_3001 => some l_3001) (some ((l_1628.set (Int.toNat x_2570) e_2611).set (Int.toNat (IntKind.i64.wrap (x_2570 - 1))) e_2617)) : Option ((List α)))).bind fun l_2843 => cond (decide ((2 : Int) ≤ (IntKind.i64.wrap (x2 - x_2570)))) ((loopF (σ := (List α) × Int) (ρ := ((List α))) (fun (s_3150 : (List α) × Int) => match s_3150 with | (l_3153, x_3156) => cond (decide (x_3156 < x2)) ((idx l_3153 x_3156).bind fun e_3209 => (idx l_3153 (IntKind.i64.wrap (x_3156 - 1))).bind fun e_3215 => (cmp e_3209 e_3215).bind fun y_3221 => cond (!(decide (y_3221 < 0))) (some (.inr l_3153)) ((idx l_3153 (IntKind.i64.wrap (x_3156 - 1))).bind fun e_3227 => (idx l_3153 x_3156).bind fun e_3233 => (idx l_3153 x_3156).bind fun e_3239 => (idx (l_3153.set (Int.toNat x_3156) e_3227) (IntKind.i64.wrap (x_3156 - 1))).bind fun e_3247 => some (.inl (((l_3153.set (Int.toNat x_3156) e_3227).set (Int.toNat (IntKind.i64.wrap (x_3156 - 1))) e_3233), (IntKind.i64.wrap (x_3156 + 1)))))) (some (.inr l_3153))) (l_2843, (IntKind.i64.wrap (x_2570 + 1)))).bind fun l_3204 => some (.inl (l_3204, x_2570, (IntKind.i64.wrap (x_1632 + 1))))) (some (.inl (l_2843, x_2570, (IntKind.i64.wrap (x_1632 + 1)))))))) (some (.inr (.inl l_1628)))) (x0, (IntKind.i64.wrap (x1 + 1)), 0)).bind fun zz => match zz with | .inl l_2442 => (some (false, l_2442)) | .inr z => (some z)

noncomputable def DG.partitionEqual {α : Type} (cmp : α → α → Option Int) (x0 : (List α)) (x1 : Int) (x2 : Int) (x3 : Int) : Option (Int × ((List α))) :=
  (idx x0 x3).bind fun e_1 => (idx x0 x1).bind fun e_7 => (idx x0 x1).bind fun e_13 => (idx (x0.set (Int.toNat x1) e_1) x3).bind fun e_21 => (loopF (σ := (List α) × Int × Int) (ρ := ((List α) × Int)) (fun (s_739 : (List α) × Int × Int) => match s_739 with | (l_742, x_745, x_746) => (loopF (σ := Int) (ρ := (Int)) (fun (x_1188 : Int) => (cond (decide (x_1188 ≤ x_746)) ((idx l_742 x1).bind fun e_1249 => (idx l_742 x_1188).bind fun e_1255 => (cmp e_1249 e_1255).bind fun y_1261 => some (!(decide (y_1261 < 0)))) (some false)).bind fun b_1247 => cond b_1247 (some (.inl (IntKind.i64.wrap (x_1188 + 1)))) (some (.inr x_1188))) x_745).bind fun x_1228 => (loopF (σ := Int) (ρ := (Int)) (fun (x_1350 : Int) => (cond (decide (x_1228 ≤ x_1350)) ((idx l_742 x1).bind fun e_1411 => (idx l_742 x_1350).bind fun e_1417 => (cmp e_1411 e_1417).bind fun y_1423 => some (decide (y_1423 < 0))) (some false)).bind fun b_1409 => cond b_1409 (some (.inl (IntKind.i64.wrap (x_1350 - 1)))) (some (.inr x_1350))) x_746).bind fun x_1390 => cond (decide (x_1390 < x_1228)) (some (.inr (l_742, x_1228))) ((idx l_742 x_1390).bind fun e_1430 => (idx l_742 x_1228).bind fun e_1436 => (idx l_742 x_1228).bind fun e_1442 => (idx (l_742.set (Int.toNat x_1228) e_1430) x_1390).bind fun e_1450 => some (.inl (((l_742.set (Int.toNat x_1228) e_1430).set (Int.toNat x_1390) e_1436), (IntKind.i64.wrap (x_1228 + 1)), (IntKind.i64.wrap (x_1390 - 1)))))) (((x0.set (Int.toNat x1) e_1).set (Int.toNat x3) e_7), (IntKind.i64.wrap (x1 + 1)), (IntKind.i64.wrap (x2 - 1)))).bind fun (l_1100, x_1103) => some (x_1103, l_1100)

noncomputable def DG.partition {α : Type} (cmp : α → α → Option Int) (x0 : (List α)) (x1 : Int) (x2 : Int) (x3 : Int) : Option (Int × Bool × ((List α))) :=
  (idx x0 x3).bind fun e_1 => (idx x0 x1).bind fun e_7 => (idx x0 x1).bind fun e_13 => (idx (x0.set (Int.toNat x1) e_1) x3).bind fun e_21 => (loopF (σ := Int) (ρ := (Int)) (fun (x_110 : Int) => (cond (decide (x_110 ≤ (IntKind.i64.wrap (x2 - 1)))) ((idx ((x0.set (Int.toNat x1) e_1).set (Int.toNat x3) e_7) x_110).bind fun e_171 => (idx ((x0.set (Int.toNat x1) e_1).set (Int.toNat x3) e_7) x1).bind fun e_177 => (cmp e_171 e_177).bind fun y_183 => some (decide (y_183 < 0))) (some false)).bind fun b_169 => cond b_169 (some (.inl (IntKind.i64.wrap (x_110 + 1)))) (some (.inr x_110))) (IntKind.i64.wrap (x1 + 1))).bind fun x_150 => (loopF (σ := Int) (ρ := (Int)) (fun (x_272 : Int) => (cond (decide (x_150 ≤ x_272)) ((idx ((x0.set (Int.toNat x1) e_1).set (Int.toNat x3) e_7) x_272).bind fun e_333 => (idx ((x0.set (Int.toNat x1) e_1).set (Int.toNat x3) e_7) x1).bind fun e_339 => (cmp e_333 e_339).bind fun y_345 => some (!(decide (y_345 < 0)))) (some false)).bind fun b_331 => cond b_331 (some (.inl (IntKind.i64.wrap (x_272 - 1)))) (some (.inr x_272))) (IntKind.i64.wrap (x2 - 1))).bind fun x_312 => cond (decide (x_312 < x_150)) ((idx ((x0.set (Int.toNat x1) e_1).set (Int.toNat x3) e_7) x1).bind fun e_352 => (idx ((x0.set (Int.toNat x1) e_1).set (Int.toNat x3) e_7) x_312).bind fun e_358 => (idx ((x0.set (Int.toNat x1) e_1).set (Int.toNat x3) e_7) x_312).bind fun e_364 => (idx (((x0.set (Int.toNat x1) e_1).set (Int.toNat x3) e_7).set (Int.toNat x_312) e_352) x1).bind fun e_372 => some (x_312, true, ((((x0.set (Int.toNat x1) e_1).set (Int.toNat x3) e_7).set (Int.toNat x_312) e_352).set (Int.toNat x1) e_358))) ((idx ((x0.set (Int.toNat x1) e_1).set (Int.toNat x3) e_7) x_312).bind fun e_378 => (idx ((x0.set (Int.toNat x1) e_1).set (Int.toNat x3) e_7) x_150).bind fun e_384 => (idx ((x0.set (Int.toNat x1) e_1).set (Int.toNat x3) e_7) x_150).bind fun e_390 => (idx (((x0.set (Int.toNat x1) e_1).set (Int.toNat x3) e_7).set (Int.toNat x_150) e_378) x_312).bind fun e_398 => (loopF (σ := (List α) × Int × Int) (ρ := ((List α) × Int)) (fun (s_1116 : (List α) × Int × Int) => match s_1116 with | (l_1119, x_1122, x_1123) => (loopF (σ := Int) (ρ := (Int)) (fun (x_1565 : Int) => (cond (decide (x_1565 ≤ x_1123)) ((idx l_1119 x_1565).bind fun e_1626 => (idx l_1119 x1).bind fun e_1632 => (cmp e_1626 e_1632).bind fun y_1638 => some (decide (y_1638 < 0))) (some false)).bind fun b_1624 => cond b_1624 (some (.inl (IntKind.i64.wrap (x_1565 + 1)))) (some (.inr x_1565))) x_1122).bind fun x_1605 => (loopF (σ := Int) (ρ := (Int)) (fun (x_1727 : Int) => (cond (decide (x_1605 ≤ x_1727)) ((idx l_1119 x_1727).bind fun e_1788 => (idx l_1119 x1).bind fun e_1794 => (cmp e_1788 e_1794).bind fun y_1800 => some (!(decide (y_1800 < 0)))) (some false)).bind fun b_1786 => cond b_1786 (some (.inl (IntKind.i64.wrap (x_1727 - 1)))) (some (.inr x_1727))) x_1123).bind fun x_1767 => cond (decide (x_1767 < x_1605)) (some (.inr (l_1119, x_1767))) ((idx l_1119 x_1767).bind fun e_1807 => (idx l_1119 x_1605).bind fun e_1813 => (idx l_1119 x_1605).bind fun e_1819 => (idx (l_1119.set (Int.toNat x_1605) e_1807) x_1767).bind fun e_1827 => some (.inl (((l_1119.set (Int.toNat x_1605) e_1807).set (Int.toNat x_1767) e_1813), (IntKind.i64.wrap (x_1605 + 1)), (IntKind.i64.wrap (x_1767 - 1)))))) (((((x0.set (Int.toNat x1) e_1).set (Int.toNat x3) e_7).set (Int.toNat x_150) e_378).set (Int.toNat x_312) e_384), (IntKind.i64.wrap (x_150 + 1)), (IntKind.i64.wrap (x_312 - 1)))).bind fun (l_1477, x_1480) => (idx l_1477 x1).bind fun e_1833 => (idx l_1477 x_1480).bind fun e_1839 => (idx l_1477 x_1480).bind fun e_1845 => (idx (l_1477.set (Int.toNat x_1480) e_1833) x1).bind fun e_1853 => some (x_1480, false, ((l_1477.set (Int.toNat x_1480) e_1833).set (Int.toNat x1) e_1839)))

noncomputable def DG.pdqsortR {α : Type} (cmp : α → α → Option Int) : Nat → ((List α)) → Int → Int → Int → Option (((List α)))
  | 0, _, _, _, _ => none
  | fuel + 1, x0, x1, x2, x3 => (loopF (σ := (List α) × Int × Int × Int × Bool × Bool) (ρ := (((List α)))) (fun (s_398 : (List α) × Int × Int × Int × Bool × Bool) => match s_398 with | (l_401, x_404, x_405, x_406, b_407, b_408) => cond (decide ((IntKind.i64.wrap (x_405 - x_404)) ≤ 12)) ((DG.insertionSort cmp l_401 x_404 x_405).bind fun y_411 => some (.inr y_411)) (cond (x_406 == 0) ((DG.heapSort cmp l_401 x_404 x_405).bind fun y_421 => some (.inr y_421)) (((cond (!b_407) ((DG.breakPatterns cmp l_401 x_404 x_405).bind fun y_449 => some (y_449, (IntKind.i64.wrap (x_406 - 1)))) (some (l_401, x_406)) : Option ((List α) × Int))).bind fun (l_443, x_446) => (DG.choosePivot cmp l_443 x_404 x_405).bind fun y_458 => ((cond (y_458.2.1 == 2) ((DG.reverseRange cmp y_458.2.2 x_404 x_405).bind fun y_487 => some (y_487, (IntKind.i64.wrap ((IntKind.i64.wrap (x_405 - 1)) - (IntKind.i64.wrap (y_458.1 - x_404)))), 1)) (some (y_458.2.2, y_458.1, y_458.2.1)) : Option ((List α) × Int × Int))).bind fun (l_480, x_483, x_484) => ((cond ((b_407 && b_408) && (x_484 == 1)) ((DG.partialInsertionSort cmp l_480 x_404 x_405).bind fun y_521 => cond y_521.1 (some (.inr y_521.2)) (some (.inl y_521.2))) (some (.inl l_480)) : Option (((List α)) ⊕ (((List α)))))).bind fun q => match q with | .inl l_516 => ((cond (decide ((0 : Int) < x_404)) ((idx l_516 (IntKind.i64.wrap (x_404 - 1))).bind fun e_550 => (idx l_516 x_483).bind fun e_556 => (cmp e_550 e_556).bind fun y_562 => some (!(decide (y_562 < 0)))) (some false)).bind fun b_548 => cond b_548 ((DG.partitionEqual cmp l_516 x_404 x_405 x_483).bind fun y_568 => some (.inl (y_568.2, y_568.1, x_405, x_446, b_407, b_408))) ((DG.partition cmp l_516 x_404 x_405 x_483).bind fun y_577 => cond (decide ((IntKind.i64.wrap (y_577.1 - x_404)) < (IntKind.i64.wrap (x_405 - y_577.1)))) ((DG.pdqsortR cmp fuel y_577.2.2 x_404 y_577.1 x_446).bind fun y_587 => some (.inl (y_587, (IntKind.i64.wrap (y_577.1 + 1)), x_405, x_446, (decide ((IntKind.i64.wrap (Int.tdiv (IntKind.i64.wrap (x_405 - x_404)) 8)) ≤ (IntKind.i64.wrap (y_577.1 - x_404)))), y_577.2.1))) ((DG.pdqsortR cmp fuel y_577.2.2 (IntKind.i64.wrap (y_577.1 + 1)) x_405 x_446).bind fun y_596 => some (.inl (y_596, x_404, y_577.1, x_446, (decide ((IntKind.i64.wrap (Int.tdiv (IntKind.i64.wrap (x_405 - x_404)) 8)) ≤ (IntKind.i64.wrap (x_405 - y_577.1)))), y_577.2.1))))) | .inr q => (some (.inr q))))) (x0, x1, x2, x3, true, true)).bind fun z => some z

noncomputable def DG.pdqsort {α : Type} (cmp : α → α → Option Int) (x0 : (List α)) (x1 : Int) (x2 : Int) (x3 : Int) : Option (((List α))) := DG.pdqsortR cmp recFuel x0 x1 x2 x3

noncomputable def DG.Sort {α : Type} (cmp : α → α → Option Int) (x0 : (List α)) : Option (((List α))) :=
  (D.m (IntKind.u64.wrap (x0.length : Int))).bind fun y_1 => (DG.pdqsort cmp x0 0 (x0.length : Int) y_1).bind fun y_8 => some y_8
end Go.Sx

/- Lists of things that have a key: reading, swapping, what a sort may do. Plain. -/
namespace Go.Sx.Gs
/-- what is sorted: things with a key, of which some are good, and a comparison that tells of good things which key is less -/
class Srtd (α : Type) where
  dflt : α
  key : α → Int
  good : α → Prop
  cmp : α → α → Option Int
  law : ∀ x y, good x → good y → ∃ v, cmp x y = some v ∧ decide (v < 0) = decide (key x < key y)
variable {α : Type} [Srtd α]
def el (l : List α) (i : Int) : α := l.getD i.toNat Srtd.dflt
def at' (l : List α) (i : Int) : Int := Srtd.key (el l i)
theorem idx_at {l : List α} {i : Int} (h0 : 0 ≤ i) (h1 : i < l.length) : idx l i = some (el l i) := by
  unfold idx el
  rw [if_pos h0]
  have : i.toNat < l.length := by omega
  simp [this]
theorem el_set {l : List α} {i k : Int} {x : α} (h0 : 0 ≤ i) (h1 : i < l.length) (hk : 0 ≤ k) : el (l.set i.toNat x) k = if k = i then x else el l k := by
  unfold el
  by_cases h : k = i
  · subst h
    have : k.toNat < l.length := by omega
    simp [this]
  · rw [if_neg h]
    have : i.toNat ≠ k.toNat := by omega
    simp [List.getD_eq_getElem?_getD, List.getElem?_set_ne this]

def sw (l : List α) (i j : Int) : List α := (l.set i.toNat (el l j)).set j.toNat (el l i)
theorem sw_len (l : List α) (i j : Int) : (sw l i j).length = l.length := by simp [sw]
theorem sw_at {l : List α} {i j k : Int} (hi : 0 ≤ i) (hi' : i < l.length) (hj : 0 ≤ j) (hj' : j < l.length) (hk : 0 ≤ k) :
    at' (sw l i j) k = if k = j then at' l i else if k = i then at' l j else at' l k := by
  unfold sw at'
  rw [el_set hj (by simpa using hj') hk]
  split
  · rfl
  · rw [el_set hi hi' hk]
    split <;> rfl

omit [Srtd α] in
theorem set_perm_erase (z : α) : ∀ (l : List α) (j : Nat), j < l.length → List.Perm (l.set j z) (z :: l.eraseIdx j)
  | [], j, h => by simp at h
  | x :: l, 0, _ => by simp
  | x :: l, j + 1, h => by
    simp only [List.set_cons_succ, List.eraseIdx_cons_succ]
    exact ((set_perm_erase z l j (by simpa using h)).cons x).trans (List.Perm.swap _ _ _)
omit [Srtd α] in
theorem perm_erase (l : List α) (j : Nat) (h : j < l.length) : List.Perm l (l[j] :: l.eraseIdx j) := by
  have := set_perm_erase l[j] l j h
  rwa [List.set_getElem_self] at this

omit [Srtd α] in
theorem set_perm : ∀ (l : List α) (i j : Nat) (x y : α), l[i]? = some x → l[j]? = some y → List.Perm ((l.set i y).set j x) l
  | [], i, j, x, y, h, _ => by simp at h
  | z :: l, 0, 0, x, y, h, h' => by simp at h h'; subst h; simp
  | z :: l, 0, j + 1, x, y, h, h' => by
    simp at h h'
    subst h
    simp only [List.set_cons_zero, List.set_cons_succ]
    obtain ⟨hj, rfl⟩ := List.getElem?_eq_some_iff.1 h'
    have h1 := set_perm_erase z l j hj
    have h2 := perm_erase l j hj
    exact ((h1.cons _).trans (List.Perm.swap _ _ _)).trans (h2.symm.cons z)
  | z :: l, i + 1, 0, x, y, h, h' => by
    simp at h h'
    subst h'
    simp only [List.set_cons_zero, List.set_cons_succ]
    obtain ⟨hj, rfl⟩ := List.getElem?_eq_some_iff.1 h
    have h1 := set_perm_erase z l i hj
    have h2 := perm_erase l i hj
    exact ((h1.cons _).trans (List.Perm.swap _ _ _)).trans (h2.symm.cons z)
  | z :: l, i + 1, j + 1, x, y, h, h' => by
    simp at h h'
    simp only [List.set_cons_succ]
    exact (set_perm l i j x y h h').cons z

theorem sw_perm {l : List α} {i j : Int} (hi : 0 ≤ i) (hi' : i < l.length) (hj : 0 ≤ j) (hj' : j < l.length) : List.Perm (sw l i j) l := by
  have h1 : i.toNat < l.length := by omega
  have h2 : j.toNat < l.length := by omega
  exact set_perm l i.toNat j.toNat _ _ (by simp [el, h1]) (by simp [el, h2])

/-- what a sort may do to the places from a to b -/
structure Rg (a b : Int) (l l' : List α) : Prop where
  len : l'.length = l.length
  perm : List.Perm l' l
  out : ∀ k, 0 ≤ k → (k < a ∨ b ≤ k) → at' l' k = at' l k
  all : ∀ Q : Int → Prop, (∀ k, a ≤ k → k < b → Q (at' l k)) → ∀ k, a ≤ k → k < b → Q (at' l' k)

theorem Rg.refl (a b : Int) (l : List α) : Rg a b l l := ⟨rfl, List.Perm.refl _, fun _ _ _ => rfl, fun _ h => h⟩
theorem Rg.trans {a b : Int} {l l' l'' : List α} (h : Rg a b l l') (h' : Rg a b l' l'') : Rg a b l l'' :=
  ⟨h'.len.trans h.len, h'.perm.trans h.perm, fun k h0 hk => (h'.out k h0 hk).trans (h.out k h0 hk), fun Q hQ => h'.all Q (h.all Q hQ)⟩
theorem Rg.swap {a b i j : Int} {l : List α} (ha : 0 ≤ a) (hb : b ≤ l.length) (hi : a ≤ i) (hi' : i < b) (hj : a ≤ j) (hj' : j < b) : Rg a b l (sw l i j) := by
  refine ⟨sw_len _ _ _, sw_perm (by omega) (by omega) (by omega) (by omega), fun k h0 hk => ?_, fun Q hQ k h1 h2 => ?_⟩
  · rw [sw_at (by omega) (by omega) (by omega) (by omega) h0, if_neg (by omega), if_neg (by omega)]
  · rw [sw_at (by omega) (by omega) (by omega) (by omega) (by omega)]
    split
    · exact hQ i hi hi'
    · split
      · exact hQ j hj hj'
      · exact hQ k h1 h2
theorem Rg.widen {a b a' b' : Int} {l l' : List α} (h : Rg a b l l') (ha : a' ≤ a) (hb : b ≤ b') (h0 : 0 ≤ a') : Rg a' b' l l' := by
  refine ⟨h.len, h.perm, fun k h0 hk => h.out k h0 (by omega), fun Q hQ k h1 h2 => ?_⟩
  by_cases hk : a ≤ k ∧ k < b
  · exact h.all Q (fun k h3 h4 => hQ k (by omega) (by omega)) k hk.1 hk.2
  · rw [h.out k (by omega) (by omega)]; exact hQ k h1 h2

/-- sorted from a to b -/
def Srt (l : List α) (a b : Int) : Prop := ∀ i j, a ≤ i → i < j → j < b → at' l i ≤ at' l j

/-- all good -/
def Good (l : List α) : Prop := ∀ x ∈ l, Srtd.good x
theorem Rg.good {a b : Int} {l l' : List α} (h : Rg a b l l') (hg : Good l) : Good l' := fun x hx => hg x (h.perm.mem_iff.1 hx)
theorem Good.el {l : List α} (h : Good l) {i : Int} (h0 : 0 ≤ i) (h1 : i < l.length) : Srtd.good (el l i) := by
  unfold Gs.el
  have : i.toNat < l.length := by omega
  rw [getD_lt this]
  exact h _ (List.getElem_mem this)
theorem cmp_at {l : List α} (h : Good l) {i j : Int} (h0 : 0 ≤ i) (h1 : i < l.length) (h2 : 0 ≤ j) (h3 : j < l.length) : ∃ v, Srtd.cmp (el l i) (el l j) = some v ∧ decide (v < 0) = decide (at' l i < at' l j) :=
  Srtd.law _ _ (h.el h0 h1) (h.el h2 h3)
theorem idx_set_at {l : List α} {i j : Int} {x : α} (h0 : 0 ≤ i) (h1 : i < l.length) : idx (l.set j.toNat x) i = some (el (l.set j.toNat x) i) := idx_at h0 (by simpa using h1)
end Go.Sx.Gs

/- insertion sort. Plain. -/
namespace Go.Sx.Gs
variable {α : Type} [Srtd α]
theorem insertionSort_spec (l0 : List α) (a b : Int) (ha : 0 ≤ a) (hab : a ≤ b) (hb : b ≤ l0.length) (hlen : l0.length ≤ 1000000) (hG : Good l0) :
    ∃ l', DG.insertionSort Srtd.cmp l0 a b = some l' ∧ Rg a b l0 l' ∧ Srt l' a b := by
  unfold DG.insertionSort
  rw [w64 (show -9223372036854775808 ≤ a + 1 by omega) (by omega)]
  refine loop_then (fun s => Rg a b l0 s.1 ∧ Srt s.1 a s.2 ∧ a + 1 ≤ s.2 ∧ s.2 ≤ b + 1) (fun s => (b - s.2).toNat) (fun r => Rg a b l0 r ∧ Srt r a b) ?_ ?_ ?_
  · rintro ⟨l, i⟩ ⟨hR, hS, h1, h2⟩
    dsimp only at hR hS h1 h2 ⊢
    have hll := hR.len
    by_cases hi : i < b
    · simp only [hi, decide_true, cond_true]
      rw [w64 (show -9223372036854775808 ≤ i + 1 by omega) (by omega)]
      refine loop_then (fun s => Rg a b l0 s.1 ∧ a ≤ s.2 ∧ s.2 ≤ i ∧ ∀ p q, a ≤ p → p < q → q ≤ i → q ≠ s.2 → at' s.1 p ≤ at' s.1 q) (fun s => (s.2 - a).toNat) (fun r => Rg a b l0 r ∧ Srt r a (i + 1)) ?_ ?_ ?_
      · rintro ⟨m, j⟩ ⟨hR', g1, g2, hS'⟩
        dsimp only at hR' g1 g2 hS' ⊢
        have hml := hR'.len
        rw [w64 (show -9223372036854775808 ≤ j - 1 by omega) (by omega)]
        by_cases hj : a < j
        · have r1 : idx m j = some (el m j) := idx_at (by omega) (by omega)
          have r2 : idx m (j - 1) = some (el m (j - 1)) := idx_at (by omega) (by omega)
          have r3 : ∀ x, idx (m.set j.toNat x) (j - 1) = some (el (m.set j.toNat x) (j - 1)) := fun x => idx_set_at (by omega) (by omega)
          obtain ⟨v, cv, hv⟩ := cmp_at (hR'.good hG) (i := j) (j := j - 1) (by omega) (by omega) (by omega) (by omega)
          by_cases hlt : at' m j < at' m (j - 1)
          · refine ⟨.inl (sw m j (j - 1), j - 1), ?_, ⟨hR'.trans (Rg.swap ha (by omega) (by omega) (by omega) (by omega) (by omega)), by dsimp only; omega, by dsimp only; omega, ?_⟩, by dsimp only; omega⟩
            · simp only [r1, r2, r3, hj, cv, hv, hlt, decide_true, cond_true, Option.bind_some]
              rfl
            · intro p q k1 k2 k3 k4
              dsimp only at k4 ⊢
              rw [sw_at (by omega) (by omega) (by omega) (by omega) (by omega), sw_at (by omega) (by omega) (by omega) (by omega) (by omega)]
              by_cases c1 : q = j
              · subst c1
                rw [if_neg (show ¬ q = q - 1 by omega), if_pos rfl]
                by_cases c2 : p = q - 1
                · rw [if_pos c2]; omega
                · rw [if_neg c2, if_neg (by omega)]
                  exact hS' p (q - 1) k1 (by omega) (by omega) (by omega)
              · rw [if_neg (show ¬ q = j - 1 by omega), if_neg c1]
                by_cases c2 : p = j - 1
                · rw [if_pos c2]
                  exact hS' j q (by omega) (by omega) k3 c1
                · rw [if_neg c2]
                  by_cases c3 : p = j
                  · rw [if_pos c3]
                    exact hS' (j - 1) q (by omega) (by omega) k3 c1
                  · rw [if_neg c3]
                    exact hS' p q k1 k2 k3 c1
          · refine ⟨.inr m, ?_, hR', ?_⟩
            · simp only [r1, r2, hj, cv, hv, hlt, decide_true, decide_false, cond_true, cond_false, Option.bind_some]
            · intro p q k1 k2 k3
              by_cases c1 : q = j
              · subst c1
                by_cases c2 : p = q - 1
                · subst c2; omega
                · have := hS' p (q - 1) k1 (by omega) (by omega) (by omega)
                  omega
              · exact hS' p q k1 k2 (by omega) c1
        · refine ⟨.inr m, ?_, hR', ?_⟩
          · simp only [hj, decide_false, cond_false, Option.bind_some]
          · intro p q k1 k2 k3
            exact hS' p q k1 k2 (by omega) (by omega)
      · exact ⟨hR, by dsimp only; omega, Int.le_refl _, fun p q k1 k2 k3 k4 => hS p q k1 k2 (by dsimp only at k4 ⊢; omega)⟩
      · rintro r ⟨hR', hS'⟩
        exact ⟨.inl (r, i + 1), rfl, ⟨hR', hS', by dsimp only; omega, by dsimp only; omega⟩, by dsimp only; omega⟩
    · refine ⟨.inr l, by simp only [hi, decide_false, cond_false], hR, ?_⟩
      intro p q k1 k2 k3
      exact hS p q k1 k2 (by omega)
  · exact ⟨Rg.refl _ _ _, fun p q k1 k2 k3 => by dsimp only at k3; omega, by dsimp only; omega, by dsimp only; omega⟩
  · rintro r hr
    exact ⟨r, rfl, hr⟩
end Go.Sx.Gs

/- reversal, scans, partition. Plain. -/
namespace Go.Sx.Gs
variable {α : Type} [Srtd α]
theorem reverseRange_spec (l0 : List α) (a b : Int) (ha : 0 ≤ a) (hab : a ≤ b) (hb : b ≤ l0.length) (hlen : l0.length ≤ 1000000) :
    ∃ l', DG.reverseRange Srtd.cmp l0 a b = some l' ∧ Rg a b l0 l' := by
  unfold DG.reverseRange
  rw [w64 (show -9223372036854775808 ≤ b - 1 by omega) (by omega)]
  refine loop_then (fun s => Rg a b l0 s.1 ∧ a ≤ s.2.1 ∧ s.2.1 ≤ b ∧ s.2.2 < b ∧ a - 1 ≤ s.2.2) (fun s => (s.2.2 - s.2.1).toNat) (fun r => Rg a b l0 r) ?_ ?_ ?_
  · rintro ⟨l, i, j⟩ ⟨hR, h1, h2, h3, h4⟩
    dsimp only at hR h1 h2 h3 h4 ⊢
    have hll := hR.len
    by_cases hi : i < j
    · have r1 : idx l i = some (el l i) := idx_at (by omega) (by omega)
      have r2 : idx l j = some (el l j) := idx_at (by omega) (by omega)
      have r3 : ∀ x, idx (l.set i.toNat x) j = some (el (l.set i.toNat x) j) := fun x => idx_set_at (by omega) (by omega)
      rw [w64 (show -9223372036854775808 ≤ i + 1 by omega) (by omega), w64 (show -9223372036854775808 ≤ j - 1 by omega) (by omega)]
      refine ⟨.inl (sw l i j, i + 1, j - 1), ?_, ⟨hR.trans (Rg.swap ha (by omega) (by omega) (by omega) (by omega) (by omega)), by dsimp only; omega, by dsimp only; omega, by dsimp only; omega, by dsimp only; omega⟩, by dsimp only; omega⟩
      simp only [r1, r2, r3, hi, decide_true, cond_true, Option.bind_some]
      rfl
    · exact ⟨.inr l, by simp only [hi, decide_false, cond_false], hR⟩
  · exact ⟨Rg.refl _ _ _, by dsimp only; omega, by dsimp only; omega, by dsimp only; omega, by dsimp only; omega⟩
  · rintro r hr
    exact ⟨r, rfl, hr⟩

/-- up, while what is read is less than the pivot -/
theorem scanUp {β : Type} {k : Int → Option β} {Q : β → Prop} (l : List α) (hG : Good l) (a hi i0 : Int) (ha : 0 ≤ a) (ha' : a < l.length) (h0 : 0 ≤ i0) (h1 : i0 ≤ hi + 1) (h2 : hi < l.length) (hlen : l.length ≤ 1000000)
    (hk : ∀ i, i0 ≤ i → i ≤ hi + 1 → (∀ q, i0 ≤ q → q < i → at' l q < at' l a) → (i ≤ hi → ¬ at' l i < at' l a) → ∃ y, k i = some y ∧ Q y) :
    ∃ y, (loopF (σ := Int) (ρ := (Int)) (fun (x : Int) => (cond (decide (x ≤ hi)) ((idx l x).bind fun e => (idx l a).bind fun e' => (Srtd.cmp e e').bind fun y => some (decide (y < 0))) (some false)).bind fun b => cond b (some (.inl (IntKind.i64.wrap (x + 1)))) (some (.inr x))) i0).bind k = some y ∧ Q y := by
  refine loop_then (fun i => i0 ≤ i ∧ i ≤ hi + 1 ∧ ∀ q, i0 ≤ q → q < i → at' l q < at' l a) (fun i => (hi + 1 - i).toNat) (fun i => i0 ≤ i ∧ i ≤ hi + 1 ∧ (∀ q, i0 ≤ q → q < i → at' l q < at' l a) ∧ (i ≤ hi → ¬ at' l i < at' l a)) ?_ ?_ ?_
  · rintro i ⟨g1, g2, g3⟩
    by_cases hi' : i ≤ hi
    · have r1 : idx l i = some (el l i) := idx_at (by omega) (by omega)
      have r2 : idx l a = some (el l a) := idx_at (by omega) (by omega)
      obtain ⟨v, cv, hv⟩ := cmp_at hG (i := i) (j := a) (by omega) (by omega) (by omega) (by omega)
      by_cases hlt : at' l i < at' l a
      · refine ⟨.inl (i + 1), ?_, ⟨by omega, by omega, fun q q1 q2 => ?_⟩, by dsimp only; omega⟩
        · simp only [r1, r2, hi', cv, hv, hlt, decide_true, cond_true, Option.bind_some]
          rw [w64 (by omega) (by omega)]
        · by_cases e : q = i
          · rw [e]; exact hlt
          · exact g3 q q1 (by omega)
      · exact ⟨.inr i, by simp only [r1, r2, hi', cv, hv, hlt, decide_true, decide_false, cond_true, cond_false, Option.bind_some], g1, g2, g3, fun _ => hlt⟩
    · exact ⟨.inr i, by simp only [hi', decide_false, cond_false, Option.bind_some], g1, g2, g3, fun h => absurd h hi'⟩
  · exact ⟨Int.le_refl _, h1, fun q q1 q2 => by omega⟩
  · rintro i ⟨g1, g2, g3, g4⟩
    exact hk i g1 g2 g3 g4

/-- down, while what is read is not less than the pivot -/
theorem scanDown {β : Type} {k : Int → Option β} {Q : β → Prop} (l : List α) (hG : Good l) (a lo j0 : Int) (ha : 0 ≤ a) (ha' : a < l.length) (h0 : 0 ≤ lo) (h1 : lo ≤ j0 + 1) (h2 : j0 < l.length) (hlen : l.length ≤ 1000000)
    (hk : ∀ j, lo ≤ j + 1 → j ≤ j0 → (∀ q, j < q → q ≤ j0 → ¬ at' l q < at' l a) → (lo ≤ j → at' l j < at' l a) → ∃ y, k j = some y ∧ Q y) :
    ∃ y, (loopF (σ := Int) (ρ := (Int)) (fun (x : Int) => (cond (decide (lo ≤ x)) ((idx l x).bind fun e => (idx l a).bind fun e' => (Srtd.cmp e e').bind fun y => some (!(decide (y < 0)))) (some false)).bind fun b => cond b (some (.inl (IntKind.i64.wrap (x - 1)))) (some (.inr x))) j0).bind k = some y ∧ Q y := by
  refine loop_then (fun j => lo ≤ j + 1 ∧ j ≤ j0 ∧ ∀ q, j < q → q ≤ j0 → ¬ at' l q < at' l a) (fun j => (j + 1 - lo).toNat) (fun j => lo ≤ j + 1 ∧ j ≤ j0 ∧ (∀ q, j < q → q ≤ j0 → ¬ at' l q < at' l a) ∧ (lo ≤ j → at' l j < at' l a)) ?_ ?_ ?_
  · rintro j ⟨g1, g2, g3⟩
    by_cases hi' : lo ≤ j
    · have r1 : idx l j = some (el l j) := idx_at (by omega) (by omega)
      have r2 : idx l a = some (el l a) := idx_at (by omega) (by omega)
      obtain ⟨v, cv, hv⟩ := cmp_at hG (i := j) (j := a) (by omega) (by omega) (by omega) (by omega)
      by_cases hlt : at' l j < at' l a
      · exact ⟨.inr j, by simp only [r1, r2, hi', cv, hv, hlt, decide_true, Bool.not_true, cond_true, cond_false, Option.bind_some], g1, g2, g3, fun _ => hlt⟩
      · refine ⟨.inl (j - 1), ?_, ⟨by omega, by omega, fun q q1 q2 => ?_⟩, by dsimp only; omega⟩
        · simp only [r1, r2, hi', cv, hv, hlt, decide_true, decide_false, Bool.not_false, cond_true, Option.bind_some]
          rw [w64 (by omega) (by omega)]
        · by_cases e : q = j
          · rw [e]; exact hlt
          · exact g3 q (by omega) q2
    · exact ⟨.inr j, by simp only [hi', decide_false, cond_false, Option.bind_some], g1, g2, g3, fun h => absurd h hi'⟩
  · exact ⟨h1, Int.le_refl _, fun q q1 q2 => by omega⟩
  · rintro j ⟨g1, g2, g3, g4⟩
    exact hk j g1 g2 g3 g4

/-- what a partition comes to -/
structure Parted (l0 l' : List α) (a b mid : Int) : Prop where
  rg : Rg a b l0 l'
  lo : a ≤ mid
  hi : mid < b
  left : ∀ k, a ≤ k → k < mid → at' l' k ≤ at' l' mid
  right : ∀ k, mid < k → k < b → at' l' mid ≤ at' l' k

theorem partition_spec (l0 : List α) (a b p : Int) (ha : 0 ≤ a) (hb : b ≤ l0.length) (hlen : l0.length ≤ 1000000) (hG : Good l0) (hp : a ≤ p) (hp' : p < b) :
    ∃ y, DG.partition Srtd.cmp l0 a b p = some y ∧ Parted l0 y.2.2 a b y.1 := by
  unfold DG.partition
  have r1 : idx l0 p = some (el l0 p) := idx_at (by omega) (by omega)
  have r2 : idx l0 a = some (el l0 a) := idx_at (by omega) (by omega)
  have r3 : ∀ x, idx (l0.set a.toNat x) p = some (el (l0.set a.toNat x) p) := fun x => idx_set_at (by omega) (by omega)
  simp only [r1, r2, r3, Option.bind_some]
  rw [show (l0.set a.toNat (el l0 p)).set p.toNat (el l0 a) = sw l0 a p from rfl]
  have hR0 : Rg a b l0 (sw l0 a p) := Rg.swap ha hb (by omega) (by omega) hp hp'
  generalize sw l0 a p = m0 at hR0 ⊢
  have hm0 := hR0.len
  rw [w64 (show -9223372036854775808 ≤ b - 1 by omega) (by omega), w64 (show -9223372036854775808 ≤ a + 1 by omega) (by omega)]
  refine scanUp m0 (hR0.good hG) a (b - 1) (a + 1) ha (by omega) (by omega) (by omega) (by omega) (by omega) (fun i i1 i2 i3 i4 => ?_)
  refine scanDown m0 (hR0.good hG) a i (b - 1) ha (by omega) (by omega) (by omega) (by omega) (by omega) (fun j j1 j2 j3 j4 => ?_)
  have q1 : idx m0 a = some (el m0 a) := idx_at (by omega) (by omega)
  have q2 : idx m0 j = some (el m0 j) := idx_at (by omega) (by omega)
  by_cases hij : j < i
  · have q3 : ∀ x, idx (m0.set j.toNat x) a = some (el (m0.set j.toNat x) a) := fun x => idx_set_at (by omega) (by omega)
    refine ⟨(j, true, sw m0 j a), ?_, ⟨hR0.trans (Rg.swap ha (by omega) (by omega) (by omega) (by omega) (by omega)), by dsimp only; omega, by dsimp only; omega, fun k k1 k2 => ?_, fun k k1 k2 => ?_⟩⟩
    · simp only [q1, q2, q3, hij, decide_true, cond_true, Option.bind_some]
      rfl
    · dsimp only at k1 k2 ⊢
      rw [sw_at (by omega) (by omega) (by omega) (by omega) (by omega), sw_at (by omega) (by omega) (by omega) (by omega) (by omega)]
      rw [if_neg (show ¬ j = a by omega), if_pos rfl]
      by_cases e : k = a
      · rw [if_pos e]
        have := i3 j (by omega) (by omega); omega
      · rw [if_neg e, if_neg (by omega)]
        have := i3 k (by omega) (by omega); omega
    · dsimp only at k1 k2 ⊢
      rw [sw_at (by omega) (by omega) (by omega) (by omega) (by omega), sw_at (by omega) (by omega) (by omega) (by omega) (by omega)]
      rw [if_neg (show ¬ k = a by omega), if_neg (show ¬ k = j by omega)]
      have hk := j3 k (by omega) (by omega)
      by_cases e : j = a
      · rw [if_pos e]; subst e; omega
      · rw [if_neg e, if_pos rfl]; omega
  · have q4 : idx m0 i = some (el m0 i) := idx_at (by omega) (by omega)
    have q5 : ∀ x, idx (m0.set i.toNat x) j = some (el (m0.set i.toNat x) j) := fun x => idx_set_at (by omega) (by omega)
    simp only [q1, q2, q4, q5, hij, decide_false, cond_false, Option.bind_some]
    rw [show (m0.set i.toNat (el m0 j)).set j.toNat (el m0 i) = sw m0 i j from rfl]
    have hia := i4 (by omega)
    have hja := j4 (by omega)
    have hne : i < j := by
      rcases Int.lt_or_eq_of_le (show i ≤ j by omega) with h | h
      · exact h
      · subst h; exact absurd hja hia
    have hR1 : Rg a b l0 (sw m0 i j) := hR0.trans (Rg.swap ha (by omega) (by omega) (by omega) (by omega) (by omega))
    have ea : at' (sw m0 i j) a = at' m0 a := by rw [sw_at (by omega) (by omega) (by omega) (by omega) (by omega), if_neg (by omega), if_neg (by omega)]
    have hlo : ∀ q, a + 1 ≤ q → q < i + 1 → at' (sw m0 i j) q < at' (sw m0 i j) a := fun q h1 h2 => by
      rw [ea, sw_at (by omega) (by omega) (by omega) (by omega) (by omega), if_neg (by omega)]
      by_cases e : q = i
      · rw [if_pos e]; exact hja
      · rw [if_neg e]; exact i3 q h1 (by omega)
    have hhi : ∀ q, j - 1 < q → q < b → ¬ at' (sw m0 i j) q < at' (sw m0 i j) a := fun q h1 h2 => by
      rw [ea, sw_at (by omega) (by omega) (by omega) (by omega) (by omega)]
      by_cases e : q = j
      · rw [if_pos e]; exact hia
      · rw [if_neg e, if_neg (by omega)]; exact j3 q (by omega) (by omega)
    rw [w64 (show -9223372036854775808 ≤ i + 1 by omega) (by omega), w64 (show -9223372036854775808 ≤ j - 1 by omega) (by omega)]
    generalize sw m0 i j = m1 at hR1 hlo hhi ⊢
    refine loop_then (fun s => Rg a b l0 s.1 ∧ a + 1 ≤ s.2.1 ∧ s.2.1 ≤ s.2.2 + 1 ∧ s.2.2 < b ∧ (∀ q, a + 1 ≤ q → q < s.2.1 → at' s.1 q < at' s.1 a) ∧ (∀ q, s.2.2 < q → q < b → ¬ at' s.1 q < at' s.1 a)) (fun s => (s.2.2 + 1 - s.2.1).toNat)
      (fun s => Rg a b l0 s.1 ∧ a ≤ s.2 ∧ s.2 < b ∧ (∀ q, a + 1 ≤ q → q ≤ s.2 → at' s.1 q < at' s.1 a) ∧ (∀ q, s.2 < q → q < b → ¬ at' s.1 q < at' s.1 a)) ?_ ?_ ?_
    · rintro ⟨m, u, v⟩ ⟨hR, g1, g2, g3, g4, g5⟩
      dsimp only at hR g1 g2 g3 g4 g5 ⊢
      have hml := hR.len
      refine scanUp m (hR.good hG) a v u ha (by omega) (by omega) (by omega) (by omega) (by omega) (fun i i1 i2 i3 i4 => ?_)
      refine scanDown m (hR.good hG) a i v ha (by omega) (by omega) (by omega) (by omega) (by omega) (fun j j1 j2 j3 j4 => ?_)
      have f1 : ∀ q, a + 1 ≤ q → q < i → at' m q < at' m a := fun q h1 h2 => by
        by_cases h : q < u
        · exact g4 q h1 h
        · exact i3 q (by omega) h2
      have f2 : ∀ q, j < q → q < b → ¬ at' m q < at' m a := fun q h1 h2 => by
        by_cases h : q ≤ v
        · exact j3 q h1 h
        · exact g5 q (by omega) h2
      by_cases hij : j < i
      · exact ⟨.inr (m, j), by simp only [hij, decide_true, cond_true], hR, by dsimp only; omega, by dsimp only; omega, fun q h1 h2 => f1 q h1 (by dsimp only at h2; omega), f2⟩
      · have t1 : idx m i = some (el m i) := idx_at (by omega) (by omega)
        have t2 : idx m j = some (el m j) := idx_at (by omega) (by omega)
        have t3 : ∀ x, idx (m.set i.toNat x) j = some (el (m.set i.toNat x) j) := fun x => idx_set_at (by omega) (by omega)
        have hia := i4 (by omega)
        have hja := j4 (by omega)
        have hne : i < j := by
          rcases Int.lt_or_eq_of_le (show i ≤ j by omega) with h | h
          · exact h
          · subst h; exact absurd hja hia
        have ea : at' (sw m i j) a = at' m a := by rw [sw_at (by omega) (by omega) (by omega) (by omega) (by omega), if_neg (by omega), if_neg (by omega)]
        rw [w64 (show -9223372036854775808 ≤ i + 1 by omega) (by omega), w64 (show -9223372036854775808 ≤ j - 1 by omega) (by omega)]
        refine ⟨.inl (sw m i j, i + 1, j - 1), ?_, ⟨hR.trans (Rg.swap ha (by omega) (by omega) (by omega) (by omega) (by omega)), by dsimp only; omega, by dsimp only; omega, by dsimp only; omega, fun q h1 h2 => ?_, fun q h1 h2 => ?_⟩, by dsimp only; omega⟩
        · simp only [t1, t2, t3, hij, decide_false, cond_false, Option.bind_some]
          rfl
        · dsimp only at h2 ⊢
          rw [ea, sw_at (by omega) (by omega) (by omega) (by omega) (by omega), if_neg (by omega)]
          by_cases e : q = i
          · rw [if_pos e]; exact hja
          · rw [if_neg e]; exact f1 q h1 (by omega)
        · dsimp only at h1 ⊢
          rw [ea, sw_at (by omega) (by omega) (by omega) (by omega) (by omega)]
          by_cases e : q = j
          · rw [if_pos e]; exact hia
          · rw [if_neg e, if_neg (by omega)]; exact f2 q (by omega) h2
    · exact ⟨hR1, by dsimp only; omega, by dsimp only; omega, by dsimp only; omega, hlo, hhi⟩
    · rintro ⟨m, v⟩ ⟨hR, g1, g2, g3, g4⟩
      dsimp only at hR g1 g2 g3 g4 ⊢
      have hml := hR.len
      have t1 : idx m a = some (el m a) := idx_at (by omega) (by omega)
      have t2 : idx m v = some (el m v) := idx_at (by omega) (by omega)
      have t3 : ∀ x, idx (m.set v.toNat x) a = some (el (m.set v.toNat x) a) := fun x => idx_set_at (by omega) (by omega)
      refine ⟨(v, false, sw m v a), ?_, ⟨hR.trans (Rg.swap ha (by omega) (by omega) (by omega) (by omega) (by omega)), g1, g2, fun k k1 k2 => ?_, fun k k1 k2 => ?_⟩⟩
      · simp only [t1, t2, t3, Option.bind_some]
        rfl
      · dsimp only at k1 k2 ⊢
        rw [sw_at (by omega) (by omega) (by omega) (by omega) (by omega), sw_at (by omega) (by omega) (by omega) (by omega) (by omega)]
        rw [if_neg (show ¬ v = a by omega), if_pos rfl]
        by_cases e : k = a
        · rw [if_pos e]
          have := g3 v (by omega) (by omega); omega
        · rw [if_neg e, if_neg (by omega)]
          have := g3 k (by omega) (by omega); omega
      · dsimp only at k1 k2 ⊢
        rw [sw_at (by omega) (by omega) (by omega) (by omega) (by omega), sw_at (by omega) (by omega) (by omega) (by omega) (by omega)]
        rw [if_neg (show ¬ k = a by omega), if_neg (show ¬ k = v by omega)]
        have hk := g4 k (by omega) (by omega)
        by_cases e : v = a
        · rw [if_pos e]; subst e; omega
        · rw [if_neg e, if_pos rfl]; omega
end Go.Sx.Gs

/- partition by what is equal; medians; the pivot; partial insertion. Plain. -/
namespace Go.Sx.Gs
variable {α : Type} [Srtd α]
/-- up, while the pivot is not less than what is read -/
theorem scanUp2 {β : Type} {k : Int → Option β} {Q : β → Prop} (l : List α) (hG : Good l) (a hi i0 : Int) (ha : 0 ≤ a) (ha' : a < l.length) (h0 : 0 ≤ i0) (h1 : i0 ≤ hi + 1) (h2 : hi < l.length) (hlen : l.length ≤ 1000000)
    (hk : ∀ i, i0 ≤ i → i ≤ hi + 1 → (∀ q, i0 ≤ q → q < i → ¬ at' l a < at' l q) → (i ≤ hi → at' l a < at' l i) → ∃ y, k i = some y ∧ Q y) :
    ∃ y, (loopF (σ := Int) (ρ := (Int)) (fun (x : Int) => (cond (decide (x ≤ hi)) ((idx l a).bind fun e => (idx l x).bind fun e' => (Srtd.cmp e e').bind fun y => some (!(decide (y < 0)))) (some false)).bind fun b => cond b (some (.inl (IntKind.i64.wrap (x + 1)))) (some (.inr x))) i0).bind k = some y ∧ Q y := by
  refine loop_then (fun i => i0 ≤ i ∧ i ≤ hi + 1 ∧ ∀ q, i0 ≤ q → q < i → ¬ at' l a < at' l q) (fun i => (hi + 1 - i).toNat) (fun i => i0 ≤ i ∧ i ≤ hi + 1 ∧ (∀ q, i0 ≤ q → q < i → ¬ at' l a < at' l q) ∧ (i ≤ hi → at' l a < at' l i)) ?_ ?_ ?_
  · rintro i ⟨g1, g2, g3⟩
    by_cases hi' : i ≤ hi
    · have r1 : idx l i = some (el l i) := idx_at (by omega) (by omega)
      have r2 : idx l a = some (el l a) := idx_at (by omega) (by omega)
      obtain ⟨v, cv, hv⟩ := cmp_at hG (i := a) (j := i) (by omega) (by omega) (by omega) (by omega)
      by_cases hlt : at' l a < at' l i
      · exact ⟨.inr i, by simp only [r1, r2, hi', cv, hv, hlt, decide_true, Bool.not_true, cond_true, cond_false, Option.bind_some], g1, g2, g3, fun _ => hlt⟩
      · refine ⟨.inl (i + 1), ?_, ⟨by omega, by omega, fun q q1 q2 => ?_⟩, by dsimp only; omega⟩
        · simp only [r1, r2, hi', cv, hv, hlt, decide_true, decide_false, Bool.not_false, cond_true, Option.bind_some]
          rw [w64 (by omega) (by omega)]
        · by_cases e : q = i
          · rw [e]; exact hlt
          · exact g3 q q1 (by omega)
    · exact ⟨.inr i, by simp only [hi', decide_false, cond_false, Option.bind_some], g1, g2, g3, fun h => absurd h hi'⟩
  · exact ⟨Int.le_refl _, h1, fun q q1 q2 => by omega⟩
  · rintro i ⟨g1, g2, g3, g4⟩
    exact hk i g1 g2 g3 g4

/-- down, while the pivot is less than what is read -/
theorem scanDown2 {β : Type} {k : Int → Option β} {Q : β → Prop} (l : List α) (hG : Good l) (a lo j0 : Int) (ha : 0 ≤ a) (ha' : a < l.length) (h0 : 0 ≤ lo) (h1 : lo ≤ j0 + 1) (h2 : j0 < l.length) (hlen : l.length ≤ 1000000)
    (hk : ∀ j, lo ≤ j + 1 → j ≤ j0 → (∀ q, j < q → q ≤ j0 → at' l a < at' l q) → (lo ≤ j → ¬ at' l a < at' l j) → ∃ y, k j = some y ∧ Q y) :
    ∃ y, (loopF (σ := Int) (ρ := (Int)) (fun (x : Int) => (cond (decide (lo ≤ x)) ((idx l a).bind fun e => (idx l x).bind fun e' => (Srtd.cmp e e').bind fun y => some (decide (y < 0))) (some false)).bind fun b => cond b (some (.inl (IntKind.i64.wrap (x - 1)))) (some (.inr x))) j0).bind k = some y ∧ Q y := by
  refine loop_then (fun j => lo ≤ j + 1 ∧ j ≤ j0 ∧ ∀ q, j < q → q ≤ j0 → at' l a < at' l q) (fun j => (j + 1 - lo).toNat) (fun j => lo ≤ j + 1 ∧ j ≤ j0 ∧ (∀ q, j < q → q ≤ j0 → at' l a < at' l q) ∧ (lo ≤ j → ¬ at' l a < at' l j)) ?_ ?_ ?_
  · rintro j ⟨g1, g2, g3⟩
    by_cases hi' : lo ≤ j
    · have r1 : idx l j = some (el l j) := idx_at (by omega) (by omega)
      have r2 : idx l a = some (el l a) := idx_at (by omega) (by omega)
      obtain ⟨v, cv, hv⟩ := cmp_at hG (i := a) (j := j) (by omega) (by omega) (by omega) (by omega)
      by_cases hlt : at' l a < at' l j
      · refine ⟨.inl (j - 1), ?_, ⟨by omega, by omega, fun q q1 q2 => ?_⟩, by dsimp only; omega⟩
        · simp only [r1, r2, hi', cv, hv, hlt, decide_true, cond_true, Option.bind_some]
          rw [w64 (by omega) (by omega)]
        · by_cases e : q = j
          · rw [e]; exact hlt
          · exact g3 q (by omega) q2
      · exact ⟨.inr j, by simp only [r1, r2, hi', cv, hv, hlt, decide_true, decide_false, cond_true, cond_false, Option.bind_some], g1, g2, g3, fun _ => hlt⟩
    · exact ⟨.inr j, by simp only [hi', decide_false, cond_false, Option.bind_some], g1, g2, g3, fun h => absurd h hi'⟩
  · exact ⟨h1, Int.le_refl _, fun q q1 q2 => by omega⟩
  · rintro j ⟨g1, g2, g3, g4⟩
    exact hk j g1 g2 g3 g4

theorem partitionEqual_spec (l0 : List α) (a b p : Int) (ha : 0 ≤ a) (hb : b ≤ l0.length) (hlen : l0.length ≤ 1000000) (hG : Good l0) (hp : a ≤ p) (hp' : p < b) :
    ∃ y, DG.partitionEqual Srtd.cmp l0 a b p = some y ∧ Rg a b l0 y.2 ∧ a < y.1 ∧ y.1 ≤ b ∧ (∀ k, a ≤ k → k < y.1 → at' y.2 k ≤ at' l0 p) ∧ (∀ k, y.1 ≤ k → k < b → at' l0 p < at' y.2 k) := by
  unfold DG.partitionEqual
  have r1 : idx l0 p = some (el l0 p) := idx_at (by omega) (by omega)
  have r2 : idx l0 a = some (el l0 a) := idx_at (by omega) (by omega)
  have r3 : ∀ x, idx (l0.set a.toNat x) p = some (el (l0.set a.toNat x) p) := fun x => idx_set_at (by omega) (by omega)
  simp only [r1, r2, r3, Option.bind_some]
  rw [show (l0.set a.toNat (el l0 p)).set p.toNat (el l0 a) = sw l0 a p from rfl]
  have hR0 : Rg a b l0 (sw l0 a p) := Rg.swap ha hb (by omega) (by omega) hp hp'
  have ep : at' (sw l0 a p) a = at' l0 p := by
    rw [sw_at (by omega) (by omega) (by omega) (by omega) (by omega)]
    by_cases e : a = p
    · rw [if_pos e, e]
    · rw [if_neg e, if_pos rfl]
  generalize sw l0 a p = m0 at hR0 ep ⊢
  rw [w64 (show -9223372036854775808 ≤ b - 1 by omega) (by omega), w64 (show -9223372036854775808 ≤ a + 1 by omega) (by omega)]
  refine loop_then (fun s => Rg a b l0 s.1 ∧ a + 1 ≤ s.2.1 ∧ s.2.1 ≤ s.2.2 + 1 ∧ s.2.2 < b ∧ at' s.1 a = at' l0 p ∧ (∀ q, a + 1 ≤ q → q < s.2.1 → ¬ at' s.1 a < at' s.1 q) ∧ (∀ q, s.2.2 < q → q < b → at' s.1 a < at' s.1 q)) (fun s => (s.2.2 + 1 - s.2.1).toNat)
    (fun s => Rg a b l0 s.1 ∧ a + 1 ≤ s.2 ∧ s.2 ≤ b ∧ at' s.1 a = at' l0 p ∧ (∀ q, a + 1 ≤ q → q < s.2 → ¬ at' s.1 a < at' s.1 q) ∧ (∀ q, s.2 ≤ q → q < b → at' s.1 a < at' s.1 q)) ?_ ?_ ?_
  · rintro ⟨m, u, v⟩ ⟨hR, g1, g2, g3, g6, g4, g5⟩
    dsimp only at hR g1 g2 g3 g4 g5 g6 ⊢
    have hml := hR.len
    refine scanUp2 m (hR.good hG) a v u ha (by omega) (by omega) (by omega) (by omega) (by omega) (fun i i1 i2 i3 i4 => ?_)
    refine scanDown2 m (hR.good hG) a i v ha (by omega) (by omega) (by omega) (by omega) (by omega) (fun j j1 j2 j3 j4 => ?_)
    have f1 : ∀ q, a + 1 ≤ q → q < i → ¬ at' m a < at' m q := fun q h1 h2 => by
      by_cases h : q < u
      · exact g4 q h1 h
      · exact i3 q (by omega) h2
    have f2 : ∀ q, j < q → q < b → at' m a < at' m q := fun q h1 h2 => by
      by_cases h : q ≤ v
      · exact j3 q h1 h
      · exact g5 q (by omega) h2
    by_cases hij : j < i
    · exact ⟨.inr (m, i), by simp only [hij, decide_true, cond_true], hR, by dsimp only; omega, by dsimp only; omega, g6, f1, fun q h1 h2 => f2 q (by dsimp only at h1; omega) h2⟩
    · have t1 : idx m i = some (el m i) := idx_at (by omega) (by omega)
      have t2 : idx m j = some (el m j) := idx_at (by omega) (by omega)
      have t3 : ∀ x, idx (m.set i.toNat x) j = some (el (m.set i.toNat x) j) := fun x => idx_set_at (by omega) (by omega)
      have hia := i4 (by omega)
      have hja := j4 (by omega)
      have hne : i < j := by
        rcases Int.lt_or_eq_of_le (show i ≤ j by omega) with h | h
        · exact h
        · subst h; exact absurd hia hja
      have ea : at' (sw m i j) a = at' m a := by rw [sw_at (by omega) (by omega) (by omega) (by omega) (by omega), if_neg (by omega), if_neg (by omega)]
      rw [w64 (show -9223372036854775808 ≤ i + 1 by omega) (by omega), w64 (show -9223372036854775808 ≤ j - 1 by omega) (by omega)]
      refine ⟨.inl (sw m i j, i + 1, j - 1), ?_, ⟨hR.trans (Rg.swap ha (by omega) (by omega) (by omega) (by omega) (by omega)), by dsimp only; omega, by dsimp only; omega, by dsimp only; omega, by dsimp only; rw [ea]; exact g6, fun q h1 h2 => ?_, fun q h1 h2 => ?_⟩, by dsimp only; omega⟩
      · simp only [t1, t2, t3, hij, decide_false, cond_false, Option.bind_some]
        rfl
      · dsimp only at h2 ⊢
        rw [ea, sw_at (by omega) (by omega) (by omega) (by omega) (by omega), if_neg (by omega)]
        by_cases e : q = i
        · rw [if_pos e]; exact hja
        · rw [if_neg e]; exact f1 q h1 (by omega)
      · dsimp only at h1 ⊢
        rw [ea, sw_at (by omega) (by omega) (by omega) (by omega) (by omega)]
        by_cases e : q = j
        · rw [if_pos e]; exact hia
        · rw [if_neg e, if_neg (by omega)]; exact f2 q (by omega) h2
  · exact ⟨hR0, by dsimp only; omega, by dsimp only; omega, by dsimp only; omega, ep, fun q h1 h2 => by dsimp only at h2; omega, fun q h1 h2 => by dsimp only at h1; omega⟩
  · rintro ⟨m, v⟩ ⟨hR, g1, g2, g3, g4, g5⟩
    refine ⟨(v, m), rfl, hR, by dsimp only at *; omega, g2, fun k k1 k2 => ?_, fun k k1 k2 => ?_⟩
    · dsimp only at *
      by_cases e : k = a
      · rw [e, g3]; exact Int.le_refl _
      · have := g4 k (by omega) k2; omega
    · dsimp only at *
      have := g5 k k1 k2; omega

theorem order2_spec (l : List α) (hG : Good l) (a b s : Int) (ha : 0 ≤ a) (ha' : a < l.length) (hb : 0 ≤ b) (hb' : b < l.length) :
    ∃ y, DG.order2 Srtd.cmp l a b s = some y ∧ y.2.2.1 = l ∧ ((y.1 = a ∧ y.2.1 = b) ∨ (y.1 = b ∧ y.2.1 = a)) := by
  have r1 : idx l a = some (el l a) := idx_at ha ha'
  have r2 : idx l b = some (el l b) := idx_at hb hb'
  unfold DG.order2
  obtain ⟨v, cv, hv⟩ := cmp_at hG (i := b) (j := a) hb hb' ha ha'
  simp only [r1, r2, cv, hv, Option.bind_some]
  by_cases h : at' l b < at' l a
  · simp only [h, decide_true, cond_true]; exact ⟨_, rfl, rfl, .inr ⟨rfl, rfl⟩⟩
  · simp only [h, decide_false, cond_false]; exact ⟨_, rfl, rfl, .inl ⟨rfl, rfl⟩⟩

theorem median_spec (l : List α) (hG : Good l) (a b c s : Int) (ha : 0 ≤ a) (ha' : a < l.length) (hb : 0 ≤ b) (hb' : b < l.length) (hc : 0 ≤ c) (hc' : c < l.length) :
    ∃ y, DG.median Srtd.cmp l a b c s = some y ∧ y.2.1 = l ∧ (y.1 = a ∨ y.1 = b ∨ y.1 = c) := by
  unfold DG.median
  obtain ⟨y1, h1, e1, c1⟩ := order2_spec l hG a b s ha ha' hb hb'
  rw [h1, Option.bind_some, e1]
  have b1 : 0 ≤ y1.2.1 ∧ y1.2.1 < l.length ∧ 0 ≤ y1.1 ∧ y1.1 < l.length := by rcases c1 with ⟨c, d⟩ | ⟨c, d⟩ <;> rw [c, d] <;> exact ⟨by assumption, by assumption, by assumption, by assumption⟩
  obtain ⟨y2, h2, e2, c2⟩ := order2_spec l hG y1.2.1 c y1.2.2.2 b1.1 b1.2.1 hc hc'
  rw [h2, Option.bind_some, e2]
  have b2 : 0 ≤ y2.1 ∧ y2.1 < l.length := by rcases c2 with ⟨c, d⟩ | ⟨c, d⟩ <;> rw [c] <;> exact ⟨by omega, by omega⟩
  obtain ⟨y3, h3, e3, c3⟩ := order2_spec l hG y1.1 y2.1 y2.2.2.2 b1.2.2.1 b1.2.2.2 b2.1 b2.2
  rw [h3, Option.bind_some]
  refine ⟨_, rfl, e3, ?_⟩
  dsimp only
  omega

theorem medianAdj_spec (l : List α) (hG : Good l) (p s : Int) (h0 : 1 ≤ p) (h1 : p + 1 < l.length) (hlen : l.length ≤ 1000000) :
    ∃ y, DG.medianAdjacent Srtd.cmp l p s = some y ∧ y.2.1 = l ∧ p - 1 ≤ y.1 ∧ y.1 ≤ p + 1 := by
  unfold DG.medianAdjacent
  rw [w64 (show -9223372036854775808 ≤ p - 1 by omega) (by omega), w64 (show -9223372036854775808 ≤ p + 1 by omega) (by omega)]
  obtain ⟨y, h, e, c⟩ := median_spec l hG (p - 1) p (p + 1) s (by omega) (by omega) (by omega) (by omega) (by omega) (by omega)
  rw [h, Option.bind_some]
  exact ⟨_, rfl, e, by dsimp only; omega, by dsimp only; omega⟩

theorem choosePivot_spec (l : List α) (hG : Good l) (a b : Int) (ha : 0 ≤ a) (hb : b ≤ l.length) (h8 : 8 ≤ b - a) (hlen : l.length ≤ 1000000) :
    ∃ y, DG.choosePivot Srtd.cmp l a b = some y ∧ y.2.2 = l ∧ a ≤ y.1 ∧ y.1 < b := by
  unfold DG.choosePivot
  rw [w64 (show -9223372036854775808 ≤ b - a by omega) (by omega)]
  have e4 : (b - a).tdiv 4 = (b - a) / 4 := Int.tdiv_eq_ediv_of_nonneg (by omega)
  rw [e4, w64 (show -9223372036854775808 ≤ (b - a) / 4 by omega) (by omega)]
  rw [w64 (show -9223372036854775808 ≤ (b - a) / 4 * 1 by omega) (by omega), w64 (show -9223372036854775808 ≤ (b - a) / 4 * 2 by omega) (by omega), w64 (show -9223372036854775808 ≤ (b - a) / 4 * 3 by omega) (by omega)]
  rw [w64 (show -9223372036854775808 ≤ a + (b - a) / 4 * 1 by omega) (by omega), w64 (show -9223372036854775808 ≤ a + (b - a) / 4 * 2 by omega) (by omega), w64 (show -9223372036854775808 ≤ a + (b - a) / 4 * 3 by omega) (by omega)]
  simp only [h8, decide_true, cond_true]
  refine bind_then (fun q : List α × Int × Int × Int × Int => q.1 = l ∧ (a ≤ q.2.1 ∧ q.2.1 < b) ∧ (a ≤ q.2.2.1 ∧ q.2.2.1 < b) ∧ (a ≤ q.2.2.2.1 ∧ q.2.2.2.1 < b)) ?_ ?_
  · by_cases h50 : 50 ≤ b - a
    · simp only [h50, decide_true, cond_true]
      obtain ⟨y1, h1, e1, c1⟩ := medianAdj_spec l hG (a + (b - a) / 4 * 1) 0 (by omega) (by omega) hlen
      rw [h1, Option.bind_some, e1]
      obtain ⟨y2, h2, e2, c2⟩ := medianAdj_spec l hG (a + (b - a) / 4 * 2) y1.2.2 (by omega) (by omega) hlen
      rw [h2, Option.bind_some, e2]
      obtain ⟨y3, h3, e3, c3⟩ := medianAdj_spec l hG (a + (b - a) / 4 * 3) y2.2.2 (by omega) (by omega) hlen
      rw [h3, Option.bind_some]
      exact ⟨_, rfl, e3, ⟨by dsimp only; omega, by dsimp only; omega⟩, ⟨by dsimp only; omega, by dsimp only; omega⟩, ⟨by dsimp only; omega, by dsimp only; omega⟩⟩
    · simp only [h50, decide_false, cond_false]
      exact ⟨_, rfl, rfl, ⟨by dsimp only; omega, by dsimp only; omega⟩, ⟨by dsimp only; omega, by dsimp only; omega⟩, ⟨by dsimp only; omega, by dsimp only; omega⟩⟩
  · rintro ⟨q, i, j, k, sw⟩ ⟨rfl, g1, g2, g3⟩
    dsimp only at g1 g2 g3 hb hlen ⊢
    obtain ⟨y, h1, e1, c1⟩ := median_spec q hG i j k sw (by omega) (by omega) (by omega) (by omega) (by omega) (by omega)
    rw [h1, Option.bind_some, e1]
    have hy : a ≤ y.1 ∧ y.1 < b := by omega
    cases (y.2.2 == 0)
    · cases (y.2.2 == 12)
      · exact ⟨_, rfl, rfl, hy⟩
      · exact ⟨_, rfl, rfl, hy⟩
    · exact ⟨_, rfl, rfl, hy⟩
end Go.Sx.Gs

/- Plain facts on lists of numbers: reading, swapping, what a sort may do. No program in sight. -/
namespace Go.Sx
def at' (l : List Int) (i : Int) : Int := l.getD i.toNat 0
theorem idx_at {l : List Int} {i : Int} (h0 : 0 ≤ i) (h1 : i < l.length) : idx l i = some (at' l i) := by
  unfold idx at'
  rw [if_pos h0]
  have : i.toNat < l.length := by omega
  simp [this]
theorem at_set {l : List Int} {i k x : Int} (h0 : 0 ≤ i) (h1 : i < l.length) (hk : 0 ≤ k) : at' (l.set i.toNat x) k = if k = i then x else at' l k := by
  unfold at'
  by_cases h : k = i
  · subst h
    have : k.toNat < l.length := by omega
    simp [this]
  · rw [if_neg h]
    have : i.toNat ≠ k.toNat := by omega
    simp [List.getD_eq_getElem?_getD, List.getElem?_set_ne this]

def sw (l : List Int) (i j : Int) : List Int := (l.set i.toNat (at' l j)).set j.toNat (at' l i)
theorem sw_len (l : List Int) (i j : Int) : (sw l i j).length = l.length := by simp [sw]
theorem sw_at {l : List Int} {i j k : Int} (hi : 0 ≤ i) (hi' : i < l.length) (hj : 0 ≤ j) (hj' : j < l.length) (hk : 0 ≤ k) :
    at' (sw l i j) k = if k = j then at' l i else if k = i then at' l j else at' l k := by
  unfold sw
  rw [at_set hj (by simpa using hj') hk]
  split
  · rfl
  · rw [at_set hi hi' hk]

theorem set_perm_erase (z : Int) : ∀ (l : List Int) (j : Nat), j < l.length → List.Perm (l.set j z) (z :: l.eraseIdx j)
  | [], j, h => by simp at h
  | x :: l, 0, _ => by simp
  | x :: l, j + 1, h => by
    simp only [List.set_cons_succ, List.eraseIdx_cons_succ]
    exact ((set_perm_erase z l j (by simpa using h)).cons x).trans (List.Perm.swap _ _ _)
theorem perm_erase (l : List Int) (j : Nat) (h : j < l.length) : List.Perm l (l[j] :: l.eraseIdx j) := by
  have := set_perm_erase l[j] l j h
  rwa [List.set_getElem_self] at this

theorem set_perm : ∀ (l : List Int) (i j : Nat) (x y : Int), l[i]? = some x → l[j]? = some y → List.Perm ((l.set i y).set j x) l
  | [], i, j, x, y, h, _ => by simp at h
  | z :: l, 0, 0, x, y, h, h' => by simp at h h'; subst h; simp
  | z :: l, 0, j + 1, x, y, h, h' => by
    simp at h h'
    subst h
    simp only [List.set_cons_zero, List.set_cons_succ]
    obtain ⟨hj, rfl⟩ := List.getElem?_eq_some_iff.1 h'
    have h1 := set_perm_erase z l j hj
    have h2 := perm_erase l j hj
    exact ((h1.cons _).trans (List.Perm.swap _ _ _)).trans (h2.symm.cons z)
  | z :: l, i + 1, 0, x, y, h, h' => by
    simp at h h'
    subst h'
    simp only [List.set_cons_zero, List.set_cons_succ]
    obtain ⟨hj, rfl⟩ := List.getElem?_eq_some_iff.1 h
    have h1 := set_perm_erase z l i hj
    have h2 := perm_erase l i hj
    exact ((h1.cons _).trans (List.Perm.swap _ _ _)).trans (h2.symm.cons z)
  | z :: l, i + 1, j + 1, x, y, h, h' => by
    simp at h h'
    simp only [List.set_cons_succ]
    exact (set_perm l i j x y h h').cons z

theorem sw_perm {l : List Int} {i j : Int} (hi : 0 ≤ i) (hi' : i < l.length) (hj : 0 ≤ j) (hj' : j < l.length) : List.Perm (sw l i j) l := by
  have h1 : i.toNat < l.length := by omega
  have h2 : j.toNat < l.length := by omega
  exact set_perm l i.toNat j.toNat _ _ (by simp [at', h1]) (by simp [at', h2])

/-- what a sort may do to the places from a to b -/
structure Rg (a b : Int) (l l' : List Int) : Prop where
  len : l'.length = l.length
  perm : List.Perm l' l
  out : ∀ k, 0 ≤ k → (k < a ∨ b ≤ k) → at' l' k = at' l k
  all : ∀ Q : Int → Prop, (∀ k, a ≤ k → k < b → Q (at' l k)) → ∀ k, a ≤ k → k < b → Q (at' l' k)

theorem Rg.refl (a b : Int) (l : List Int) : Rg a b l l := ⟨rfl, List.Perm.refl _, fun _ _ _ => rfl, fun _ h => h⟩
theorem Rg.trans {a b : Int} {l l' l'' : List Int} (h : Rg a b l l') (h' : Rg a b l' l'') : Rg a b l l'' :=
  ⟨h'.len.trans h.len, h'.perm.trans h.perm, fun k h0 hk => (h'.out k h0 hk).trans (h.out k h0 hk), fun Q hQ => h'.all Q (h.all Q hQ)⟩
theorem Rg.swap {a b i j : Int} {l : List Int} (ha : 0 ≤ a) (hb : b ≤ l.length) (hi : a ≤ i) (hi' : i < b) (hj : a ≤ j) (hj' : j < b) : Rg a b l (sw l i j) := by
  refine ⟨sw_len _ _ _, sw_perm (by omega) (by omega) (by omega) (by omega), fun k h0 hk => ?_, fun Q hQ k h1 h2 => ?_⟩
  · rw [sw_at (by omega) (by omega) (by omega) (by omega) h0, if_neg (by omega), if_neg (by omega)]
  · rw [sw_at (by omega) (by omega) (by omega) (by omega) (by omega)]
    split
    · exact hQ i hi hi'
    · split
      · exact hQ j hj hj'
      · exact hQ k h1 h2
theorem Rg.widen {a b a' b' : Int} {l l' : List Int} (h : Rg a b l l') (ha : a' ≤ a) (hb : b ≤ b') (h0 : 0 ≤ a') : Rg a' b' l l' := by
  refine ⟨h.len, h.perm, fun k h0 hk => h.out k h0 (by omega), fun Q hQ k h1 h2 => ?_⟩
  by_cases hk : a ≤ k ∧ k < b
  · exact h.all Q (fun k h3 h4 => hQ k (by omega) (by omega)) k hk.1 hk.2
  · rw [h.out k (by omega) (by omega)]; exact hQ k h1 h2

/-- sorted from a to b -/
def Srt (l : List Int) (a b : Int) : Prop := ∀ i j, a ≤ i → i < j → j < b → at' l i ≤ at' l j

end Go.Sx

/- What Go's sort at []int64 comes to. Plain. -/
namespace Go.Sx
theorem less_eq (x y : Int) : D.a x y = some (decide (x < y)) := by
  simp [D.a, D.O]

theorem idx_set_at {l : List Int} {i j x : Int} (h0 : 0 ≤ i) (h1 : i < l.length) : idx (l.set j.toNat x) i = some (at' (l.set j.toNat x) i) := idx_at h0 (by simpa using h1)

theorem insertionSort_spec (l0 : List Int) (a b : Int) (ha : 0 ≤ a) (hab : a ≤ b) (hb : b ≤ l0.length) (hlen : l0.length ≤ 1000000) :
    ∃ l', D.o0 l0 a b = some l' ∧ Rg a b l0 l' ∧ Srt l' a b := by
  unfold D.o0
  rw [w64 (show -9223372036854775808 ≤ a + 1 by omega) (by omega)]
  refine loop_then (fun s => Rg a b l0 s.1 ∧ Srt s.1 a s.2 ∧ a + 1 ≤ s.2 ∧ s.2 ≤ b + 1) (fun s => (b - s.2).toNat) (fun r => Rg a b l0 r ∧ Srt r a b) ?_ ?_ ?_
  · rintro ⟨l, i⟩ ⟨hR, hS, h1, h2⟩
    dsimp only at hR hS h1 h2 ⊢
    have hll := hR.len
    by_cases hi : i < b
    · simp only [hi, decide_true, cond_true]
      rw [w64 (show -9223372036854775808 ≤ i + 1 by omega) (by omega)]
      refine loop_then (fun s => Rg a b l0 s.1 ∧ a ≤ s.2 ∧ s.2 ≤ i ∧ ∀ p q, a ≤ p → p < q → q ≤ i → q ≠ s.2 → at' s.1 p ≤ at' s.1 q) (fun s => (s.2 - a).toNat) (fun r => Rg a b l0 r ∧ Srt r a (i + 1)) ?_ ?_ ?_
      · rintro ⟨m, j⟩ ⟨hR', g1, g2, hS'⟩
        dsimp only at hR' g1 g2 hS' ⊢
        have hml := hR'.len
        rw [w64 (show -9223372036854775808 ≤ j - 1 by omega) (by omega)]
        by_cases hj : a < j
        · have r1 : idx m j = some (at' m j) := idx_at (by omega) (by omega)
          have r2 : idx m (j - 1) = some (at' m (j - 1)) := idx_at (by omega) (by omega)
          have r3 : ∀ x, idx (m.set j.toNat x) (j - 1) = some (at' (m.set j.toNat x) (j - 1)) := fun x => idx_set_at (by omega) (by omega)
          by_cases hlt : at' m j < at' m (j - 1)
          · refine ⟨.inl (sw m j (j - 1), j - 1), ?_, ⟨hR'.trans (Rg.swap ha (by omega) (by omega) (by omega) (by omega) (by omega)), by dsimp only; omega, by dsimp only; omega, ?_⟩, by dsimp only; omega⟩
            · simp only [r1, r2, r3, hj, less_eq, hlt, decide_true, cond_true, Option.bind_some]
              rfl
            · intro p q k1 k2 k3 k4
              dsimp only at k4 ⊢
              rw [sw_at (by omega) (by omega) (by omega) (by omega) (by omega), sw_at (by omega) (by omega) (by omega) (by omega) (by omega)]
              by_cases c1 : q = j
              · subst c1
                rw [if_neg (show ¬ q = q - 1 by omega), if_pos rfl]
                by_cases c2 : p = q - 1
                · rw [if_pos c2]; omega
                · rw [if_neg c2, if_neg (by omega)]
                  exact hS' p (q - 1) k1 (by omega) (by omega) (by omega)
              · rw [if_neg (show ¬ q = j - 1 by omega), if_neg c1]
                by_cases c2 : p = j - 1
                · rw [if_pos c2]
                  exact hS' j q (by omega) (by omega) k3 c1
                · rw [if_neg c2]
                  by_cases c3 : p = j
                  · rw [if_pos c3]
                    exact hS' (j - 1) q (by omega) (by omega) k3 c1
                  · rw [if_neg c3]
                    exact hS' p q k1 k2 k3 c1
          · refine ⟨.inr m, ?_, hR', ?_⟩
            · simp only [r1, r2, hj, less_eq, hlt, decide_true, decide_false, cond_true, cond_false, Option.bind_some]
            · intro p q k1 k2 k3
              by_cases c1 : q = j
              · subst c1
                by_cases c2 : p = q - 1
                · subst c2; omega
                · have := hS' p (q - 1) k1 (by omega) (by omega) (by omega)
                  omega
              · exact hS' p q k1 k2 (by omega) c1
        · refine ⟨.inr m, ?_, hR', ?_⟩
          · simp only [hj, decide_false, cond_false, Option.bind_some]
          · intro p q k1 k2 k3
            exact hS' p q k1 k2 (by omega) (by omega)
      · exact ⟨hR, by dsimp only; omega, Int.le_refl _, fun p q k1 k2 k3 k4 => hS p q k1 k2 (by dsimp only at k4 ⊢; omega)⟩
      · rintro r ⟨hR', hS'⟩
        exact ⟨.inl (r, i + 1), rfl, ⟨hR', hS', by dsimp only; omega, by dsimp only; omega⟩, by dsimp only; omega⟩
    · refine ⟨.inr l, by simp only [hi, decide_false, cond_false], hR, ?_⟩
      intro p q k1 k2 k3
      exact hS p q k1 k2 (by omega)
  · exact ⟨Rg.refl _ _ _, fun p q k1 k2 k3 => by dsimp only at k3; omega, by dsimp only; omega, by dsimp only; omega⟩
  · rintro r hr
    exact ⟨r, rfl, hr⟩
end Go.Sx

namespace Go.Sx
theorem reverseRange_spec (l0 : List Int) (a b : Int) (ha : 0 ≤ a) (hab : a ≤ b) (hb : b ≤ l0.length) (hlen : l0.length ≤ 1000000) :
    ∃ l', D.n0 l0 a b = some l' ∧ Rg a b l0 l' := by
  unfold D.n0
  rw [w64 (show -9223372036854775808 ≤ b - 1 by omega) (by omega)]
  refine loop_then (fun s => Rg a b l0 s.1 ∧ a ≤ s.2.1 ∧ s.2.1 ≤ b ∧ s.2.2 < b ∧ a - 1 ≤ s.2.2) (fun s => (s.2.2 - s.2.1).toNat) (fun r => Rg a b l0 r) ?_ ?_ ?_
  · rintro ⟨l, i, j⟩ ⟨hR, h1, h2, h3, h4⟩
    dsimp only at hR h1 h2 h3 h4 ⊢
    have hll := hR.len
    by_cases hi : i < j
    · have r1 : idx l i = some (at' l i) := idx_at (by omega) (by omega)
      have r2 : idx l j = some (at' l j) := idx_at (by omega) (by omega)
      have r3 : ∀ x, idx (l.set i.toNat x) j = some (at' (l.set i.toNat x) j) := fun x => idx_set_at (by omega) (by omega)
      rw [w64 (show -9223372036854775808 ≤ i + 1 by omega) (by omega), w64 (show -9223372036854775808 ≤ j - 1 by omega) (by omega)]
      refine ⟨.inl (sw l i j, i + 1, j - 1), ?_, ⟨hR.trans (Rg.swap ha (by omega) (by omega) (by omega) (by omega) (by omega)), by dsimp only; omega, by dsimp only; omega, by dsimp only; omega, by dsimp only; omega⟩, by dsimp only; omega⟩
      simp only [r1, r2, r3, hi, decide_true, cond_true, Option.bind_some]
      rfl
    · exact ⟨.inr l, by simp only [hi, decide_false, cond_false], hR⟩
  · exact ⟨Rg.refl _ _ _, by dsimp only; omega, by dsimp only; omega, by dsimp only; omega, by dsimp only; omega⟩
  · rintro r hr
    exact ⟨r, rfl, hr⟩

/-- up, while what is read is less than the pivot -/
theorem scanUp {β : Type} {k : Int → Option β} {Q : β → Prop} (l : List Int) (a hi i0 : Int) (ha : 0 ≤ a) (ha' : a < l.length) (h0 : 0 ≤ i0) (h1 : i0 ≤ hi + 1) (h2 : hi < l.length) (hlen : l.length ≤ 1000000)
    (hk : ∀ i, i0 ≤ i → i ≤ hi + 1 → (∀ q, i0 ≤ q → q < i → at' l q < at' l a) → (i ≤ hi → ¬ at' l i < at' l a) → ∃ y, k i = some y ∧ Q y) :
    ∃ y, (loopF (σ := Int) (ρ := (Int)) (fun (x : Int) => (cond (decide (x ≤ hi)) ((idx l x).bind fun e => (idx l a).bind fun e' => (D.a e e').bind fun y => some y) (some false)).bind fun b => cond b (some (.inl (IntKind.i64.wrap (x + 1)))) (some (.inr x))) i0).bind k = some y ∧ Q y := by
  refine loop_then (fun i => i0 ≤ i ∧ i ≤ hi + 1 ∧ ∀ q, i0 ≤ q → q < i → at' l q < at' l a) (fun i => (hi + 1 - i).toNat) (fun i => i0 ≤ i ∧ i ≤ hi + 1 ∧ (∀ q, i0 ≤ q → q < i → at' l q < at' l a) ∧ (i ≤ hi → ¬ at' l i < at' l a)) ?_ ?_ ?_
  · rintro i ⟨g1, g2, g3⟩
    by_cases hi' : i ≤ hi
    · have r1 : idx l i = some (at' l i) := idx_at (by omega) (by omega)
      have r2 : idx l a = some (at' l a) := idx_at (by omega) (by omega)
      by_cases hlt : at' l i < at' l a
      · refine ⟨.inl (i + 1), ?_, ⟨by omega, by omega, fun q q1 q2 => ?_⟩, by dsimp only; omega⟩
        · simp only [r1, r2, hi', less_eq, hlt, decide_true, cond_true, Option.bind_some]
          rw [w64 (by omega) (by omega)]
        · by_cases e : q = i
          · rw [e]; exact hlt
          · exact g3 q q1 (by omega)
      · exact ⟨.inr i, by simp only [r1, r2, hi', less_eq, hlt, decide_true, decide_false, cond_true, cond_false, Option.bind_some], g1, g2, g3, fun _ => hlt⟩
    · exact ⟨.inr i, by simp only [hi', decide_false, cond_false, Option.bind_some], g1, g2, g3, fun h => absurd h hi'⟩
  · exact ⟨Int.le_refl _, h1, fun q q1 q2 => by omega⟩
  · rintro i ⟨g1, g2, g3, g4⟩
    exact hk i g1 g2 g3 g4

/-- down, while what is read is not less than the pivot -/
theorem scanDown {β : Type} {k : Int → Option β} {Q : β → Prop} (l : List Int) (a lo j0 : Int) (ha : 0 ≤ a) (ha' : a < l.length) (h0 : 0 ≤ lo) (h1 : lo ≤ j0 + 1) (h2 : j0 < l.length) (hlen : l.length ≤ 1000000)
    (hk : ∀ j, lo ≤ j + 1 → j ≤ j0 → (∀ q, j < q → q ≤ j0 → ¬ at' l q < at' l a) → (lo ≤ j → at' l j < at' l a) → ∃ y, k j = some y ∧ Q y) :
    ∃ y, (loopF (σ := Int) (ρ := (Int)) (fun (x : Int) => (cond (decide (lo ≤ x)) ((idx l x).bind fun e => (idx l a).bind fun e' => (D.a e e').bind fun y => some (!y)) (some false)).bind fun b => cond b (some (.inl (IntKind.i64.wrap (x - 1)))) (some (.inr x))) j0).bind k = some y ∧ Q y := by
  refine loop_then (fun j => lo ≤ j + 1 ∧ j ≤ j0 ∧ ∀ q, j < q → q ≤ j0 → ¬ at' l q < at' l a) (fun j => (j + 1 - lo).toNat) (fun j => lo ≤ j + 1 ∧ j ≤ j0 ∧ (∀ q, j < q → q ≤ j0 → ¬ at' l q < at' l a) ∧ (lo ≤ j → at' l j < at' l a)) ?_ ?_ ?_
  · rintro j ⟨g1, g2, g3⟩
    by_cases hi' : lo ≤ j
    · have r1 : idx l j = some (at' l j) := idx_at (by omega) (by omega)
      have r2 : idx l a = some (at' l a) := idx_at (by omega) (by omega)
      by_cases hlt : at' l j < at' l a
      · exact ⟨.inr j, by simp only [r1, r2, hi', less_eq, hlt, decide_true, Bool.not_true, cond_true, cond_false, Option.bind_some], g1, g2, g3, fun _ => hlt⟩
      · refine ⟨.inl (j - 1), ?_, ⟨by omega, by omega, fun q q1 q2 => ?_⟩, by dsimp only; omega⟩
        · simp only [r1, r2, hi', less_eq, hlt, decide_true, decide_false, Bool.not_false, cond_true, Option.bind_some]
          rw [w64 (by omega) (by omega)]
        · by_cases e : q = j
          · rw [e]; exact hlt
          · exact g3 q (by omega) q2
    · exact ⟨.inr j, by simp only [hi', decide_false, cond_false, Option.bind_some], g1, g2, g3, fun h => absurd h hi'⟩
  · exact ⟨h1, Int.le_refl _, fun q q1 q2 => by omega⟩
  · rintro j ⟨g1, g2, g3, g4⟩
    exact hk j g1 g2 g3 g4

/-- what a partition comes to -/
structure Parted (l0 l' : List Int) (a b mid : Int) : Prop where
  rg : Rg a b l0 l'
  lo : a ≤ mid
  hi : mid < b
  left : ∀ k, a ≤ k → k < mid → at' l' k ≤ at' l' mid
  right : ∀ k, mid < k → k < b → at' l' mid ≤ at' l' k

theorem partition_spec (l0 : List Int) (a b p : Int) (ha : 0 ≤ a) (hb : b ≤ l0.length) (hlen : l0.length ≤ 1000000) (hp : a ≤ p) (hp' : p < b) :
    ∃ y, D.W l0 a b p = some y ∧ Parted l0 y.2.2 a b y.1 := by
  unfold D.W
  have r1 : idx l0 p = some (at' l0 p) := idx_at (by omega) (by omega)
  have r2 : idx l0 a = some (at' l0 a) := idx_at (by omega) (by omega)
  have r3 : ∀ x, idx (l0.set a.toNat x) p = some (at' (l0.set a.toNat x) p) := fun x => idx_set_at (by omega) (by omega)
  simp only [r1, r2, r3, Option.bind_some]
  rw [show (l0.set a.toNat (at' l0 p)).set p.toNat (at' l0 a) = sw l0 a p from rfl]
  have hR0 : Rg a b l0 (sw l0 a p) := Rg.swap ha hb (by omega) (by omega) hp hp'
  generalize sw l0 a p = m0 at hR0 ⊢
  have hm0 := hR0.len
  rw [w64 (show -9223372036854775808 ≤ b - 1 by omega) (by omega), w64 (show -9223372036854775808 ≤ a + 1 by omega) (by omega)]
  refine scanUp m0 a (b - 1) (a + 1) ha (by omega) (by omega) (by omega) (by omega) (by omega) (fun i i1 i2 i3 i4 => ?_)
  refine scanDown m0 a i (b - 1) ha (by omega) (by omega) (by omega) (by omega) (by omega) (fun j j1 j2 j3 j4 => ?_)
  have q1 : idx m0 a = some (at' m0 a) := idx_at (by omega) (by omega)
  have q2 : idx m0 j = some (at' m0 j) := idx_at (by omega) (by omega)
  by_cases hij : j < i
  · have q3 : ∀ x, idx (m0.set j.toNat x) a = some (at' (m0.set j.toNat x) a) := fun x => idx_set_at (by omega) (by omega)
    refine ⟨(j, true, sw m0 j a), ?_, ⟨hR0.trans (Rg.swap ha (by omega) (by omega) (by omega) (by omega) (by omega)), by dsimp only; omega, by dsimp only; omega, fun k k1 k2 => ?_, fun k k1 k2 => ?_⟩⟩
    · simp only [q1, q2, q3, hij, decide_true, cond_true, Option.bind_some]
      rfl
    · dsimp only at k1 k2 ⊢
      rw [sw_at (by omega) (by omega) (by omega) (by omega) (by omega), sw_at (by omega) (by omega) (by omega) (by omega) (by omega)]
      rw [if_neg (show ¬ j = a by omega), if_pos rfl]
      by_cases e : k = a
      · rw [if_pos e]
        have := i3 j (by omega) (by omega); omega
      · rw [if_neg e, if_neg (by omega)]
        have := i3 k (by omega) (by omega); omega
    · dsimp only at k1 k2 ⊢
      rw [sw_at (by omega) (by omega) (by omega) (by omega) (by omega), sw_at (by omega) (by omega) (by omega) (by omega) (by omega)]
      rw [if_neg (show ¬ k = a by omega), if_neg (show ¬ k = j by omega)]
      have hk := j3 k (by omega) (by omega)
      by_cases e : j = a
      · rw [if_pos e]; subst e; omega
      · rw [if_neg e, if_pos rfl]; omega
  · have q4 : idx m0 i = some (at' m0 i) := idx_at (by omega) (by omega)
    have q5 : ∀ x, idx (m0.set i.toNat x) j = some (at' (m0.set i.toNat x) j) := fun x => idx_set_at (by omega) (by omega)
    simp only [q1, q2, q4, q5, hij, decide_false, cond_false, Option.bind_some]
    rw [show (m0.set i.toNat (at' m0 j)).set j.toNat (at' m0 i) = sw m0 i j from rfl]
    have hia := i4 (by omega)
    have hja := j4 (by omega)
    have hne : i < j := by
      rcases Int.lt_or_eq_of_le (show i ≤ j by omega) with h | h
      · exact h
      · subst h; exact absurd hja hia
    have hR1 : Rg a b l0 (sw m0 i j) := hR0.trans (Rg.swap ha (by omega) (by omega) (by omega) (by omega) (by omega))
    have ea : at' (sw m0 i j) a = at' m0 a := by rw [sw_at (by omega) (by omega) (by omega) (by omega) (by omega), if_neg (by omega), if_neg (by omega)]
    have hlo : ∀ q, a + 1 ≤ q → q < i + 1 → at' (sw m0 i j) q < at' (sw m0 i j) a := fun q h1 h2 => by
      rw [ea, sw_at (by omega) (by omega) (by omega) (by omega) (by omega), if_neg (by omega)]
      by_cases e : q = i
      · rw [if_pos e]; exact hja
      · rw [if_neg e]; exact i3 q h1 (by omega)
    have hhi : ∀ q, j - 1 < q → q < b → ¬ at' (sw m0 i j) q < at' (sw m0 i j) a := fun q h1 h2 => by
      rw [ea, sw_at (by omega) (by omega) (by omega) (by omega) (by omega)]
      by_cases e : q = j
      · rw [if_pos e]; exact hia
      · rw [if_neg e, if_neg (by omega)]; exact j3 q (by omega) (by omega)
    rw [w64 (show -9223372036854775808 ≤ i + 1 by omega) (by omega), w64 (show -9223372036854775808 ≤ j - 1 by omega) (by omega)]
    generalize sw m0 i j = m1 at hR1 hlo hhi ⊢
    refine loop_then (fun s => Rg a b l0 s.1 ∧ a + 1 ≤ s.2.1 ∧ s.2.1 ≤ s.2.2 + 1 ∧ s.2.2 < b ∧ (∀ q, a + 1 ≤ q → q < s.2.1 → at' s.1 q < at' s.1 a) ∧ (∀ q, s.2.2 < q → q < b → ¬ at' s.1 q < at' s.1 a)) (fun s => (s.2.2 + 1 - s.2.1).toNat)
      (fun s => Rg a b l0 s.1 ∧ a ≤ s.2 ∧ s.2 < b ∧ (∀ q, a + 1 ≤ q → q ≤ s.2 → at' s.1 q < at' s.1 a) ∧ (∀ q, s.2 < q → q < b → ¬ at' s.1 q < at' s.1 a)) ?_ ?_ ?_
    · rintro ⟨m, u, v⟩ ⟨hR, g1, g2, g3, g4, g5⟩
      dsimp only at hR g1 g2 g3 g4 g5 ⊢
      have hml := hR.len
      refine scanUp m a v u ha (by omega) (by omega) (by omega) (by omega) (by omega) (fun i i1 i2 i3 i4 => ?_)
      refine scanDown m a i v ha (by omega) (by omega) (by omega) (by omega) (by omega) (fun j j1 j2 j3 j4 => ?_)
      have f1 : ∀ q, a + 1 ≤ q → q < i → at' m q < at' m a := fun q h1 h2 => by
        by_cases h : q < u
        · exact g4 q h1 h
        · exact i3 q (by omega) h2
      have f2 : ∀ q, j < q → q < b → ¬ at' m q < at' m a := fun q h1 h2 => by
        by_cases h : q ≤ v
        · exact j3 q h1 h
        · exact g5 q (by omega) h2
      by_cases hij : j < i
      · exact ⟨.inr (m, j), by simp only [hij, decide_true, cond_true], hR, by dsimp only; omega, by dsimp only; omega, fun q h1 h2 => f1 q h1 (by dsimp only at h2; omega), f2⟩
      · have t1 : idx m i = some (at' m i) := idx_at (by omega) (by omega)
        have t2 : idx m j = some (at' m j) := idx_at (by omega) (by omega)
        have t3 : ∀ x, idx (m.set i.toNat x) j = some (at' (m.set i.toNat x) j) := fun x => idx_set_at (by omega) (by omega)
        have hia := i4 (by omega)
        have hja := j4 (by omega)
        have hne : i < j := by
          rcases Int.lt_or_eq_of_le (show i ≤ j by omega) with h | h
          · exact h
          · subst h; exact absurd hja hia
        have ea : at' (sw m i j) a = at' m a := by rw [sw_at (by omega) (by omega) (by omega) (by omega) (by omega), if_neg (by omega), if_neg (by omega)]
        rw [w64 (show -9223372036854775808 ≤ i + 1 by omega) (by omega), w64 (show -9223372036854775808 ≤ j - 1 by omega) (by omega)]
        refine ⟨.inl (sw m i j, i + 1, j - 1), ?_, ⟨hR.trans (Rg.swap ha (by omega) (by omega) (by omega) (by omega) (by omega)), by dsimp only; omega, by dsimp only; omega, by dsimp only; omega, fun q h1 h2 => ?_, fun q h1 h2 => ?_⟩, by dsimp only; omega⟩
        · simp only [t1, t2, t3, hij, decide_false, cond_false, Option.bind_some]
          rfl
        · dsimp only at h2 ⊢
          rw [ea, sw_at (by omega) (by omega) (by omega) (by omega) (by omega), if_neg (by omega)]
          by_cases e : q = i
          · rw [if_pos e]; exact hja
          · rw [if_neg e]; exact f1 q h1 (by omega)
        · dsimp only at h1 ⊢
          rw [ea, sw_at (by omega) (by omega) (by omega) (by omega) (by omega)]
          by_cases e : q = j
          · rw [if_pos e]; exact hia
          · rw [if_neg e, if_neg (by omega)]; exact f2 q (by omega) h2
    · exact ⟨hR1, by dsimp only; omega, by dsimp only; omega, by dsimp only; omega, hlo, hhi⟩
    · rintro ⟨m, v⟩ ⟨hR, g1, g2, g3, g4⟩
      dsimp only at hR g1 g2 g3 g4 ⊢
      have hml := hR.len
      have t1 : idx m a = some (at' m a) := idx_at (by omega) (by omega)
      have t2 : idx m v = some (at' m v) := idx_at (by omega) (by omega)
      have t3 : ∀ x, idx (m.set v.toNat x) a = some (at' (m.set v.toNat x) a) := fun x => idx_set_at (by omega) (by omega)
      refine ⟨(v, false, sw m v a), ?_, ⟨hR.trans (Rg.swap ha (by omega) (by omega) (by omega) (by omega) (by omega)), g1, g2, fun k k1 k2 => ?_, fun k k1 k2 => ?_⟩⟩
      · simp only [t1, t2, t3, Option.bind_some]
        rfl
      · dsimp only at k1 k2 ⊢
        rw [sw_at (by omega) (by omega) (by omega) (by omega) (by omega), sw_at (by omega) (by omega) (by omega) (by omega) (by omega)]
        rw [if_neg (show ¬ v = a by omega), if_pos rfl]
        by_cases e : k = a
        · rw [if_pos e]
          have := g3 v (by omega) (by omega); omega
        · rw [if_neg e, if_neg (by omega)]
          have := g3 k (by omega) (by omega); omega
      · dsimp only at k1 k2 ⊢
        rw [sw_at (by omega) (by omega) (by omega) (by omega) (by omega), sw_at (by omega) (by omega) (by omega) (by omega) (by omega)]
        rw [if_neg (show ¬ k = a by omega), if_neg (show ¬ k = v by omega)]
        have hk := g4 k (by omega) (by omega)
        by_cases e : v = a
        · rw [if_pos e]; subst e; omega
        · rw [if_neg e, if_pos rfl]; omega
end Go.Sx

namespace Go.Sx
/-- up, while the pivot is not less than what is read -/
theorem scanUp2 {β : Type} {k : Int → Option β} {Q : β → Prop} (l : List Int) (a hi i0 : Int) (ha : 0 ≤ a) (ha' : a < l.length) (h0 : 0 ≤ i0) (h1 : i0 ≤ hi + 1) (h2 : hi < l.length) (hlen : l.length ≤ 1000000)
    (hk : ∀ i, i0 ≤ i → i ≤ hi + 1 → (∀ q, i0 ≤ q → q < i → ¬ at' l a < at' l q) → (i ≤ hi → at' l a < at' l i) → ∃ y, k i = some y ∧ Q y) :
    ∃ y, (loopF (σ := Int) (ρ := (Int)) (fun (x : Int) => (cond (decide (x ≤ hi)) ((idx l a).bind fun e => (idx l x).bind fun e' => (D.a e e').bind fun y => some (!y)) (some false)).bind fun b => cond b (some (.inl (IntKind.i64.wrap (x + 1)))) (some (.inr x))) i0).bind k = some y ∧ Q y := by
  refine loop_then (fun i => i0 ≤ i ∧ i ≤ hi + 1 ∧ ∀ q, i0 ≤ q → q < i → ¬ at' l a < at' l q) (fun i => (hi + 1 - i).toNat) (fun i => i0 ≤ i ∧ i ≤ hi + 1 ∧ (∀ q, i0 ≤ q → q < i → ¬ at' l a < at' l q) ∧ (i ≤ hi → at' l a < at' l i)) ?_ ?_ ?_
  · rintro i ⟨g1, g2, g3⟩
    by_cases hi' : i ≤ hi
    · have r1 : idx l i = some (at' l i) := idx_at (by omega) (by omega)
      have r2 : idx l a = some (at' l a) := idx_at (by omega) (by omega)
      by_cases hlt : at' l a < at' l i
      · exact ⟨.inr i, by simp only [r1, r2, hi', less_eq, hlt, decide_true, Bool.not_true, cond_true, cond_false, Option.bind_some], g1, g2, g3, fun _ => hlt⟩
      · refine ⟨.inl (i + 1), ?_, ⟨by omega, by omega, fun q q1 q2 => ?_⟩, by dsimp only; omega⟩
        · simp only [r1, r2, hi', less_eq, hlt, decide_true, decide_false, Bool.not_false, cond_true, Option.bind_some]
          rw [w64 (by omega) (by omega)]
        · by_cases e : q = i
          · rw [e]; exact hlt
          · exact g3 q q1 (by omega)
    · exact ⟨.inr i, by simp only [hi', decide_false, cond_false, Option.bind_some], g1, g2, g3, fun h => absurd h hi'⟩
  · exact ⟨Int.le_refl _, h1, fun q q1 q2 => by omega⟩
  · rintro i ⟨g1, g2, g3, g4⟩
    exact hk i g1 g2 g3 g4

/-- down, while the pivot is less than what is read -/
theorem scanDown2 {β : Type} {k : Int → Option β} {Q : β → Prop} (l : List Int) (a lo j0 : Int) (ha : 0 ≤ a) (ha' : a < l.length) (h0 : 0 ≤ lo) (h1 : lo ≤ j0 + 1) (h2 : j0 < l.length) (hlen : l.length ≤ 1000000)
    (hk : ∀ j, lo ≤ j + 1 → j ≤ j0 → (∀ q, j < q → q ≤ j0 → at' l a < at' l q) → (lo ≤ j → ¬ at' l a < at' l j) → ∃ y, k j = some y ∧ Q y) :
    ∃ y, (loopF (σ := Int) (ρ := (Int)) (fun (x : Int) => (cond (decide (lo ≤ x)) ((idx l a).bind fun e => (idx l x).bind fun e' => (D.a e e').bind fun y => some y) (some false)).bind fun b => cond b (some (.inl (IntKind.i64.wrap (x - 1)))) (some (.inr x))) j0).bind k = some y ∧ Q y := by
  refine loop_then (fun j => lo ≤ j + 1 ∧ j ≤ j0 ∧ ∀ q, j < q → q ≤ j0 → at' l a < at' l q) (fun j => (j + 1 - lo).toNat) (fun j => lo ≤ j + 1 ∧ j ≤ j0 ∧ (∀ q, j < q → q ≤ j0 → at' l a < at' l q) ∧ (lo ≤ j → ¬ at' l a < at' l j)) ?_ ?_ ?_
  · rintro j ⟨g1, g2, g3⟩
    by_cases hi' : lo ≤ j
    · have r1 : idx l j = some (at' l j) := idx_at (by omega) (by omega)
      have r2 : idx l a = some (at' l a) := idx_at (by omega) (by omega)
      by_cases hlt : at' l a < at' l j
      · refine ⟨.inl (j - 1), ?_, ⟨by omega, by omega, fun q q1 q2 => ?_⟩, by dsimp only; omega⟩
        · simp only [r1, r2, hi', less_eq, hlt, decide_true, cond_true, Option.bind_some]
          rw [w64 (by omega) (by omega)]
        · by_cases e : q = j
          · rw [e]; exact hlt
          · exact g3 q (by omega) q2
      · exact ⟨.inr j, by simp only [r1, r2, hi', less_eq, hlt, decide_true, decide_false, cond_true, cond_false, Option.bind_some], g1, g2, g3, fun _ => hlt⟩
    · exact ⟨.inr j, by simp only [hi', decide_false, cond_false, Option.bind_some], g1, g2, g3, fun h => absurd h hi'⟩
  · exact ⟨h1, Int.le_refl _, fun q q1 q2 => by omega⟩
  · rintro j ⟨g1, g2, g3, g4⟩
    exact hk j g1 g2 g3 g4

theorem partitionEqual_spec (l0 : List Int) (a b p : Int) (ha : 0 ≤ a) (hb : b ≤ l0.length) (hlen : l0.length ≤ 1000000) (hp : a ≤ p) (hp' : p < b) :
    ∃ y, D.a0 l0 a b p = some y ∧ Rg a b l0 y.2 ∧ a < y.1 ∧ y.1 ≤ b ∧ (∀ k, a ≤ k → k < y.1 → at' y.2 k ≤ at' l0 p) ∧ (∀ k, y.1 ≤ k → k < b → at' l0 p < at' y.2 k) := by
  unfold D.a0
  have r1 : idx l0 p = some (at' l0 p) := idx_at (by omega) (by omega)
  have r2 : idx l0 a = some (at' l0 a) := idx_at (by omega) (by omega)
  have r3 : ∀ x, idx (l0.set a.toNat x) p = some (at' (l0.set a.toNat x) p) := fun x => idx_set_at (by omega) (by omega)
  simp only [r1, r2, r3, Option.bind_some]
  rw [show (l0.set a.toNat (at' l0 p)).set p.toNat (at' l0 a) = sw l0 a p from rfl]
  have hR0 : Rg a b l0 (sw l0 a p) := Rg.swap ha hb (by omega) (by omega) hp hp'
  have ep : at' (sw l0 a p) a = at' l0 p := by
    rw [sw_at (by omega) (by omega) (by omega) (by omega) (by omega)]
    by_cases e : a = p
    · rw [if_pos e, e]
    · rw [if_neg e, if_pos rfl]
  generalize sw l0 a p = m0 at hR0 ep ⊢
  rw [w64 (show -9223372036854775808 ≤ b - 1 by omega) (by omega), w64 (show -9223372036854775808 ≤ a + 1 by omega) (by omega)]
  refine loop_then (fun s => Rg a b l0 s.1 ∧ a + 1 ≤ s.2.1 ∧ s.2.1 ≤ s.2.2 + 1 ∧ s.2.2 < b ∧ at' s.1 a = at' l0 p ∧ (∀ q, a + 1 ≤ q → q < s.2.1 → ¬ at' s.1 a < at' s.1 q) ∧ (∀ q, s.2.2 < q → q < b → at' s.1 a < at' s.1 q)) (fun s => (s.2.2 + 1 - s.2.1).toNat)
    (fun s => Rg a b l0 s.1 ∧ a + 1 ≤ s.2 ∧ s.2 ≤ b ∧ at' s.1 a = at' l0 p ∧ (∀ q, a + 1 ≤ q → q < s.2 → ¬ at' s.1 a < at' s.1 q) ∧ (∀ q, s.2 ≤ q → q < b → at' s.1 a < at' s.1 q)) ?_ ?_ ?_
  · rintro ⟨m, u, v⟩ ⟨hR, g1, g2, g3, g6, g4, g5⟩
    dsimp only at hR g1 g2 g3 g4 g5 g6 ⊢
    have hml := hR.len
    refine scanUp2 m a v u ha (by omega) (by omega) (by omega) (by omega) (by omega) (fun i i1 i2 i3 i4 => ?_)
    refine scanDown2 m a i v ha (by omega) (by omega) (by omega) (by omega) (by omega) (fun j j1 j2 j3 j4 => ?_)
    have f1 : ∀ q, a + 1 ≤ q → q < i → ¬ at' m a < at' m q := fun q h1 h2 => by
      by_cases h : q < u
      · exact g4 q h1 h
      · exact i3 q (by omega) h2
    have f2 : ∀ q, j < q → q < b → at' m a < at' m q := fun q h1 h2 => by
      by_cases h : q ≤ v
      · exact j3 q h1 h
      · exact g5 q (by omega) h2
    by_cases hij : j < i
    · exact ⟨.inr (m, i), by simp only [hij, decide_true, cond_true], hR, by dsimp only; omega, by dsimp only; omega, g6, f1, fun q h1 h2 => f2 q (by dsimp only at h1; omega) h2⟩
    · have t1 : idx m i = some (at' m i) := idx_at (by omega) (by omega)
      have t2 : idx m j = some (at' m j) := idx_at (by omega) (by omega)
      have t3 : ∀ x, idx (m.set i.toNat x) j = some (at' (m.set i.toNat x) j) := fun x => idx_set_at (by omega) (by omega)
      have hia := i4 (by omega)
      have hja := j4 (by omega)
      have hne : i < j := by
        rcases Int.lt_or_eq_of_le (show i ≤ j by omega) with h | h
        · exact h
        · subst h; exact absurd hia hja
      have ea : at' (sw m i j) a = at' m a := by rw [sw_at (by omega) (by omega) (by omega) (by omega) (by omega), if_neg (by omega), if_neg (by omega)]
      rw [w64 (show -9223372036854775808 ≤ i + 1 by omega) (by omega), w64 (show -9223372036854775808 ≤ j - 1 by omega) (by omega)]
      refine ⟨.inl (sw m i j, i + 1, j - 1), ?_, ⟨hR.trans (Rg.swap ha (by omega) (by omega) (by omega) (by omega) (by omega)), by dsimp only; omega, by dsimp only; omega, by dsimp only; omega, by dsimp only; rw [ea]; exact g6, fun q h1 h2 => ?_, fun q h1 h2 => ?_⟩, by dsimp only; omega⟩
      · simp only [t1, t2, t3, hij, decide_false, cond_false, Option.bind_some]
        rfl
      · dsimp only at h2 ⊢
        rw [ea, sw_at (by omega) (by omega) (by omega) (by omega) (by omega), if_neg (by omega)]
        by_cases e : q = i
        · rw [if_pos e]; exact hja
        · rw [if_neg e]; exact f1 q h1 (by omega)
      · dsimp only at h1 ⊢
        rw [ea, sw_at (by omega) (by omega) (by omega) (by omega) (by omega)]
        by_cases e : q = j
        · rw [if_pos e]; exact hia
        · rw [if_neg e, if_neg (by omega)]; exact f2 q (by omega) h2
  · exact ⟨hR0, by dsimp only; omega, by dsimp only; omega, by dsimp only; omega, ep, fun q h1 h2 => by dsimp only at h2; omega, fun q h1 h2 => by dsimp only at h1; omega⟩
  · rintro ⟨m, v⟩ ⟨hR, g1, g2, g3, g4, g5⟩
    refine ⟨(v, m), rfl, hR, by dsimp only at *; omega, g2, fun k k1 k2 => ?_, fun k k1 k2 => ?_⟩
    · dsimp only at *
      by_cases e : k = a
      · rw [e, g3]; exact Int.le_refl _
      · have := g4 k (by omega) k2; omega
    · dsimp only at *
      have := g5 k k1 k2; omega

theorem order2_spec (l : List Int) (a b s : Int) (ha : 0 ≤ a) (ha' : a < l.length) (hb : 0 ≤ b) (hb' : b < l.length) :
    ∃ y, D.r l a b s = some y ∧ y.2.2.1 = l ∧ ((y.1 = a ∧ y.2.1 = b) ∨ (y.1 = b ∧ y.2.1 = a)) := by
  have r1 : idx l a = some (at' l a) := idx_at ha ha'
  have r2 : idx l b = some (at' l b) := idx_at hb hb'
  unfold D.r
  simp only [r1, r2, less_eq, Option.bind_some]
  by_cases h : at' l b < at' l a
  · simp only [h, decide_true, cond_true]; exact ⟨_, rfl, rfl, .inr ⟨rfl, rfl⟩⟩
  · simp only [h, decide_false, cond_false]; exact ⟨_, rfl, rfl, .inl ⟨rfl, rfl⟩⟩

theorem median_spec (l : List Int) (a b c s : Int) (ha : 0 ≤ a) (ha' : a < l.length) (hb : 0 ≤ b) (hb' : b < l.length) (hc : 0 ≤ c) (hc' : c < l.length) :
    ∃ y, D.A l a b c s = some y ∧ y.2.1 = l ∧ (y.1 = a ∨ y.1 = b ∨ y.1 = c) := by
  unfold D.A
  obtain ⟨y1, h1, e1, c1⟩ := order2_spec l a b s ha ha' hb hb'
  rw [h1, Option.bind_some, e1]
  have b1 : 0 ≤ y1.2.1 ∧ y1.2.1 < l.length ∧ 0 ≤ y1.1 ∧ y1.1 < l.length := by rcases c1 with ⟨c, d⟩ | ⟨c, d⟩ <;> rw [c, d] <;> exact ⟨by assumption, by assumption, by assumption, by assumption⟩
  obtain ⟨y2, h2, e2, c2⟩ := order2_spec l y1.2.1 c y1.2.2.2 b1.1 b1.2.1 hc hc'
  rw [h2, Option.bind_some, e2]
  have b2 : 0 ≤ y2.1 ∧ y2.1 < l.length := by rcases c2 with ⟨c, d⟩ | ⟨c, d⟩ <;> rw [c] <;> exact ⟨by omega, by omega⟩
  obtain ⟨y3, h3, e3, c3⟩ := order2_spec l y1.1 y2.1 y2.2.2.2 b1.2.2.1 b1.2.2.2 b2.1 b2.2
  rw [h3, Option.bind_some]
  refine ⟨_, rfl, e3, ?_⟩
  dsimp only
  omega

theorem choosePivot_spec (l : List Int) (a b : Int) (ha : 0 ≤ a) (hb : b ≤ l.length) (h8 : 8 ≤ b - a) (h50 : b - a < 50) (hlen : l.length ≤ 1000000) :
    ∃ y, D.u0 l a b = some y ∧ y.2.2 = l ∧ a ≤ y.1 ∧ y.1 < b := by
  unfold D.u0
  rw [w64 (show -9223372036854775808 ≤ b - a by omega) (by omega)]
  have e4 : (b - a).tdiv 4 = (b - a) / 4 := Int.tdiv_eq_ediv_of_nonneg (by omega)
  rw [e4, w64 (show -9223372036854775808 ≤ (b - a) / 4 by omega) (by omega)]
  rw [w64 (show -9223372036854775808 ≤ (b - a) / 4 * 1 by omega) (by omega), w64 (show -9223372036854775808 ≤ (b - a) / 4 * 2 by omega) (by omega), w64 (show -9223372036854775808 ≤ (b - a) / 4 * 3 by omega) (by omega)]
  rw [w64 (show -9223372036854775808 ≤ a + (b - a) / 4 * 1 by omega) (by omega), w64 (show -9223372036854775808 ≤ a + (b - a) / 4 * 2 by omega) (by omega), w64 (show -9223372036854775808 ≤ a + (b - a) / 4 * 3 by omega) (by omega)]
  simp only [h8, show ¬ (50 ≤ b - a) by omega, decide_true, decide_false, cond_true, cond_false, Option.bind_some]
  obtain ⟨y, h1, e1, c1⟩ := median_spec l (a + (b - a) / 4 * 1) (a + (b - a) / 4 * 2) (a + (b - a) / 4 * 3) 0 (by omega) (by omega) (by omega) (by omega) (by omega) (by omega)
  rw [h1, Option.bind_some, e1]
  have hy : a ≤ y.1 ∧ y.1 < b := by omega
  cases (y.2.2 == 0)
  · cases (y.2.2 == 12)
    · exact ⟨_, rfl, rfl, hy⟩
    · exact ⟨_, rfl, rfl, hy⟩
  · exact ⟨_, rfl, rfl, hy⟩

theorem partialInsertion_spec (l : List Int) (a b : Int) (ha : 0 ≤ a) (hab : a < b) (hb : b ≤ l.length) (h50 : b - a < 50) (hlen : l.length ≤ 1000000) :
    ∃ y, D.X l a b = some y ∧ y.2 = l ∧ (y.1 = true → Srt l a b) := by
  unfold D.X
  rw [w64 (show -9223372036854775808 ≤ a + 1 by omega) (by omega)]
  refine loop_then (fun s => s = (l, a + 1, 0)) (fun _ => 0) (fun r => ∃ y : Bool × List Int, r = .inr y ∧ y.2 = l ∧ (y.1 = true → Srt l a b)) ?_ rfl ?_
  · rintro s rfl
    dsimp only
    simp only [show ((0 : Int) < 5) from by decide, decide_true, cond_true]
    refine loop_then (fun i => a + 1 ≤ i ∧ i ≤ b ∧ Srt l a i) (fun i => (b - i).toNat) (fun i => a + 1 ≤ i ∧ i ≤ b ∧ Srt l a i) ?_ ?_ ?_
    · rintro i ⟨g1, g2, g3⟩
      by_cases hi : i < b
      · have r1 : idx l i = some (at' l i) := idx_at (by omega) (by omega)
        have r2 : idx l (i - 1) = some (at' l (i - 1)) := idx_at (by omega) (by omega)
        have e1 : IntKind.i64.wrap (i - 1) = i - 1 := w64 (by omega) (by omega)
        by_cases hlt : at' l i < at' l (i - 1)
        · exact ⟨.inr i, by simp only [r1, r2, e1, hi, less_eq, hlt, decide_true, Bool.not_true, cond_true, cond_false, Option.bind_some], g1, g2, g3⟩
        · refine ⟨.inl (i + 1), ?_, ⟨by omega, by omega, fun p q k1 k2 k3 => ?_⟩, by dsimp only; omega⟩
          · simp only [r1, r2, e1, hi, less_eq, hlt, decide_true, decide_false, Bool.not_false, cond_true, Option.bind_some]
            rw [w64 (by omega) (by omega)]
          · by_cases e : q = i
            · subst e
              by_cases e2 : p = q - 1
              · subst e2; omega
              · have := g3 p (q - 1) k1 (by omega) (by omega); omega
            · exact g3 p q k1 k2 (by omega)
      · exact ⟨.inr i, by simp only [hi, decide_false, cond_false, Option.bind_some], g1, g2, g3⟩
    · exact ⟨Int.le_refl _, by omega, fun p q k1 k2 k3 => by omega⟩
    · rintro i ⟨g1, g2, g3⟩
      rw [w64 (show -9223372036854775808 ≤ b - a by omega) (by omega)]
      by_cases he : i = b
      · refine ⟨.inr (.inr (true, l)), ?_, _, rfl, rfl, fun _ => by rw [← he]; exact g3⟩
        have : (i == b) = true := by simp [he]
        simp only [this, cond_true]
      · refine ⟨.inr (.inr (false, l)), ?_, _, rfl, rfl, fun h => by cases h⟩
        have : (i == b) = false := by simp [he]
        simp only [this, h50, decide_true, cond_true, cond_false]
  · rintro r ⟨y, rfl, h1, h2⟩
    exact ⟨y, rfl, h1, h2⟩
end Go.Sx

namespace Go.Sx
theorem iand_small (y m : Int) (h0 : 0 ≤ m) (h1 : m < 4294967296) : 0 ≤ iand .u64 y m ∧ iand .u64 y m ≤ m := by
  unfold iand
  have e : (BitVec.ofInt IntKind.u64.bits y &&& BitVec.ofInt IntKind.u64.bits m).toNat ≤ (BitVec.ofInt IntKind.u64.bits m).toNat := by
    rw [BitVec.toNat_and]; exact Nat.and_le_right
  have e2 : (BitVec.ofInt IntKind.u64.bits m).toNat = m.toNat := by
    rw [BitVec.toNat_ofInt]
    show (m % (2 ^ 64 : Nat)).toNat = m.toNat
    congr 1
    omega
  rw [e2] at e
  generalize (BitVec.ofInt IntKind.u64.bits y &&& BitVec.ofInt IntKind.u64.bits m).toNat = t at e
  have : IntKind.u64.wrap (t : Int) = t := by
    simp only [IntKind.wrap, IntKind.bits, IntKind.signed]
    simp
    omega
  rw [this]
  omega

theorem wu64 {x : Int} (h1 : 0 ≤ x) (h2 : x < 18446744073709551616) : IntKind.u64.wrap x = x := by
  simp only [IntKind.wrap, IntKind.bits, IntKind.signed]
  simp
  omega

theorem pow2_spec (n : Int) (h1 : 8 ≤ n) (h2 : n ≤ 16) : ∃ y, D.v n = some y ∧ n < y ∧ y ≤ 2 * n := by
  unfold D.v
  rw [wu64 (by omega) (by omega)]
  have key : ∀ k : Int, k = 8 ∨ k = 9 ∨ k = 10 ∨ k = 11 ∨ k = 12 ∨ k = 13 ∨ k = 14 ∨ k = 15 ∨ k = 16 → k < ishl .u64 1 (Lib.bitLen k.toNat : Nat) ∧ ishl .u64 1 (Lib.bitLen k.toNat : Nat) ≤ 2 * k := by
    rintro k (rfl | rfl | rfl | rfl | rfl | rfl | rfl | rfl | rfl) <;> decide
  obtain ⟨k1, k2⟩ := key n (by omega)
  refine ⟨_, ?_, k1, k2⟩
  unfold D.m
  rw [if_pos (by omega), Option.bind_some]
  have : decide (((Lib.bitLen n.toNat : Nat) : Int) < 0) = false := by simp
  rw [this]
  rfl

theorem breakPatterns_spec (l0 : List Int) (a b : Int) (ha : 0 ≤ a) (hb : b ≤ l0.length) (h8 : 8 ≤ b - a) (h16 : b - a ≤ 16) (hlen : l0.length ≤ 1000000) :
    ∃ l', D.q0 l0 a b = some l' ∧ Rg a b l0 l' := by
  unfold D.q0
  rw [w64 (show -9223372036854775808 ≤ b - a by omega) (by omega)]
  have e4 : (b - a).tdiv 4 = (b - a) / 4 := Int.tdiv_eq_ediv_of_nonneg (by omega)
  rw [e4, w64 (show -9223372036854775808 ≤ (b - a) / 4 by omega) (by omega)]
  rw [w64 (show -9223372036854775808 ≤ (b - a) / 4 * 2 by omega) (by omega)]
  rw [w64 (show -9223372036854775808 ≤ a + (b - a) / 4 * 2 by omega) (by omega)]
  rw [w64 (show -9223372036854775808 ≤ a + (b - a) / 4 * 2 + 1 by omega) (by omega), w64 (show -9223372036854775808 ≤ a + (b - a) / 4 * 2 - 1 by omega) (by omega)]
  simp only [h8, decide_true, cond_true]
  obtain ⟨y, hy, g1, g2⟩ := pow2_spec (b - a) h8 h16
  rw [hy, Option.bind_some, wu64 (show 0 ≤ y - 1 by omega) (by omega)]
  refine loop_then (fun s => Rg a b l0 s.1 ∧ a + (b - a) / 4 * 2 - 1 ≤ s.2.1 ∧ s.2.1 ≤ a + (b - a) / 4 * 2 + 2) (fun s => (a + (b - a) / 4 * 2 + 2 - s.2.1).toNat) (fun r => Rg a b l0 r) ?_ ?_ ?_
  · rintro ⟨l, i, z⟩ ⟨hR, k1, k2⟩
    dsimp only at hR k1 k2 ⊢
    have hll := hR.len
    by_cases hi : i ≤ a + (b - a) / 4 * 2 + 1
    · simp only [hi, decide_true, cond_true, D.E, Option.bind_some]
      obtain ⟨t1, t2⟩ := iand_small (ixor .u64 (ixor .u64 (ixor .u64 z (ishl .u64 z 13)) (ishr .u64 (ixor .u64 z (ishl .u64 z 13)) 7)) (ishl .u64 (ixor .u64 (ixor .u64 z (ishl .u64 z 13)) (ishr .u64 (ixor .u64 z (ishl .u64 z 13)) 7)) 17)) (y - 1) (by omega) (by omega)
      revert t1 t2
      generalize iand .u64 (ixor .u64 (ixor .u64 (ixor .u64 z (ishl .u64 z 13)) (ishr .u64 (ixor .u64 z (ishl .u64 z 13)) 7)) (ishl .u64 (ixor .u64 (ixor .u64 z (ishl .u64 z 13)) (ishr .u64 (ixor .u64 z (ishl .u64 z 13)) 7)) 17)) (y - 1) = t
      generalize (ixor .u64 (ixor .u64 (ixor .u64 z (ishl .u64 z 13)) (ishr .u64 (ixor .u64 z (ishl .u64 z 13)) 7)) (ishl .u64 (ixor .u64 (ixor .u64 z (ishl .u64 z 13)) (ishr .u64 (ixor .u64 z (ishl .u64 z 13)) 7)) 17)) = z'
      intro t1 t2
      rw [w64 (show -9223372036854775808 ≤ t by omega) (by omega), w64 (show -9223372036854775808 ≤ t - (b - a) by omega) (by omega)]
      have hc : ∃ o, (bif decide (b - a ≤ t) then some (t - (b - a)) else some t) = some o ∧ 0 ≤ o ∧ o < b - a := by
        by_cases h : b - a ≤ t
        · exact ⟨t - (b - a), by simp [h], by omega, by omega⟩
        · exact ⟨t, by simp [h], by omega, by omega⟩
      obtain ⟨o, ho, o1, o2⟩ := hc
      rw [ho, Option.bind_some, w64 (show -9223372036854775808 ≤ a + o by omega) (by omega), w64 (show -9223372036854775808 ≤ i + 1 by omega) (by omega)]
      have r1 : idx l i = some (at' l i) := idx_at (by omega) (by omega)
      have r2 : idx l (a + o) = some (at' l (a + o)) := idx_at (by omega) (by omega)
      have r3 : ∀ x, idx (l.set i.toNat x) (a + o) = some (at' (l.set i.toNat x) (a + o)) := fun x => idx_set_at (by omega) (by omega)
      refine ⟨.inl (sw l i (a + o), i + 1, z'), ?_, ⟨hR.trans (Rg.swap ha (by omega) (by omega) (by omega) (by omega) (by omega)), by dsimp only; omega, by dsimp only; omega⟩, by dsimp only; omega⟩
      simp only [r1, r2, r3, Option.bind_some]
      rfl
    · exact ⟨.inr l, by simp only [hi, decide_false, cond_false], hR⟩
  · exact ⟨Rg.refl _ _ _, by dsimp only; omega, by dsimp only; omega⟩
  · rintro r hr
    exact ⟨r, rfl, hr⟩
end Go.Sx

/- The steps of a sort that stir: partial insertion, broken patterns. Plain. -/
namespace Go.Sx.Gs
variable {α : Type} [Srtd α]
theorem partialInsertion_spec (l0 : List α) (hG : Good l0) (a b : Int) (ha : 0 ≤ a) (hab : a < b) (hb : b ≤ l0.length) (hlen : l0.length ≤ 1000000)
    (hpre : 0 < a → ∀ k, a ≤ k → k < b → at' l0 (a - 1) ≤ at' l0 k) :
    ∃ y, DG.partialInsertionSort Srtd.cmp l0 a b = some y ∧ Rg a b l0 y.2 ∧ (y.1 = true → Srt y.2 a b) := by
  unfold DG.partialInsertionSort
  rw [w64 (show -9223372036854775808 ≤ a + 1 by omega) (by omega), w64 (show -9223372036854775808 ≤ b - a by omega) (by omega)]
  refine loop_then (fun s => Rg a b l0 s.1 ∧ a + 1 ≤ s.2.1 ∧ s.2.1 ≤ b ∧ Srt s.1 a s.2.1 ∧ 0 ≤ s.2.2 ∧ s.2.2 ≤ 5) (fun s => (5 - s.2.2).toNat)
    (fun r => match r with | .inl l => Rg a b l0 l | .inr y => Rg a b l0 y.2 ∧ (y.1 = true → Srt y.2 a b)) ?_ ⟨Rg.refl _ _ _, by dsimp only; omega, by dsimp only; omega, fun p q k1 k2 k3 => by dsimp only at k3; omega, by dsimp only; omega, by dsimp only; omega⟩ ?_
  · rintro ⟨l, i, j⟩ ⟨hR, g1, g2, g3, g4, g5⟩
    dsimp only at hR g1 g2 g3 g4 g5 ⊢
    have hll := hR.len
    by_cases hj : j < 5
    · simp only [hj, decide_true, cond_true]
      refine loop_then (fun i => a + 1 ≤ i ∧ i ≤ b ∧ Srt l a i) (fun i => (b - i).toNat) (fun i => a + 1 ≤ i ∧ i ≤ b ∧ Srt l a i ∧ (i < b → at' l i < at' l (i - 1))) ?_ ⟨g1, g2, g3⟩ ?_
      · rintro i ⟨g1, g2, g3⟩
        by_cases hi : i < b
        · have r1 : idx l i = some (el l i) := idx_at (by omega) (by omega)
          have r2 : idx l (i - 1) = some (el l (i - 1)) := idx_at (by omega) (by omega)
          have e1 : IntKind.i64.wrap (i - 1) = i - 1 := w64 (by omega) (by omega)
          obtain ⟨v, cv, hv⟩ := cmp_at (hR.good hG) (i := i) (j := i - 1) (by omega) (by omega) (by omega) (by omega)
          by_cases hlt : at' l i < at' l (i - 1)
          · exact ⟨.inr i, by simp only [r1, r2, e1, hi, cv, hv, hlt, decide_true, Bool.not_true, cond_true, cond_false, Option.bind_some], g1, g2, g3, fun _ => hlt⟩
          · refine ⟨.inl (i + 1), ?_, ⟨by omega, by omega, fun p q k1 k2 k3 => ?_⟩, by dsimp only; omega⟩
            · simp only [r1, r2, e1, hi, cv, hv, hlt, decide_true, decide_false, Bool.not_false, cond_true, Option.bind_some]
              rw [w64 (by omega) (by omega)]
            · by_cases e : q = i
              · subst e
                by_cases e2 : p = q - 1
                · subst e2; omega
                · have := g3 p (q - 1) k1 (by omega) (by omega); omega
              · exact g3 p q k1 k2 (by omega)
        · exact ⟨.inr i, by simp only [hi, decide_false, cond_false, Option.bind_some], g1, g2, g3, fun h => absurd h hi⟩
      · rintro i ⟨g1, g2, g3, g6⟩
        by_cases he : i = b
        · have : (i == b) = true := by simp [he]
          simp only [this, cond_true]
          exact ⟨_, rfl, hR, fun _ => by rw [← he]; exact g3⟩
        · have : (i == b) = false := by simp [he]
          simp only [this, cond_false]
          by_cases h50 : b - a < 50
          · simp only [h50, decide_true, cond_true]
            exact ⟨_, rfl, hR, fun h => by cases h⟩
          · simp only [h50, decide_false, cond_false]
            have hib : i < b := by omega
            have hlt := g6 hib
            have e1 : IntKind.i64.wrap (i - 1) = i - 1 := w64 (by omega) (by omega)
            have r1 : idx l i = some (el l i) := idx_at (by omega) (by omega)
            have r2 : idx l (i - 1) = some (el l (i - 1)) := idx_at (by omega) (by omega)
            have r3 : ∀ x, idx (l.set i.toNat x) (i - 1) = some (el (l.set i.toNat x) (i - 1)) := fun x => idx_set_at (by omega) (by omega)
            simp only [e1, r1, r2, r3, Option.bind_some]
            rw [show (l.set i.toNat (el l (i - 1))).set (i - 1).toNat (el l i) = sw l i (i - 1) from rfl]
            have hR1 : Rg a b l0 (sw l i (i - 1)) := hR.trans (Rg.swap ha (by omega) (by omega) (by omega) (by omega) (by omega))
            -- the first part is in order but for its last one
            have hS1 : ∀ p q, a ≤ p → p < q → q ≤ i - 1 → q ≠ i - 1 → at' (sw l i (i - 1)) p ≤ at' (sw l i (i - 1)) q := fun p q k1 k2 k3 k4 => by
              rw [sw_at (by omega) (by omega) (by omega) (by omega) (by omega), sw_at (by omega) (by omega) (by omega) (by omega) (by omega)]
              rw [if_neg (by omega), if_neg (by omega), if_neg (by omega), if_neg (by omega)]
              exact g3 p q k1 k2 (by omega)
            generalize sw l i (i - 1) = m at hR1 hS1 ⊢
            have hml := hR1.len
            have hpre' : ∀ m', Rg a b l0 m' → 0 < a → ∀ k, a ≤ k → k < b → at' m' (a - 1) ≤ at' m' k := fun m' hr h0 k k1 k2 => by
              rw [hr.out (a - 1) (by omega) (.inl (by omega))]
              exact hr.all (fun x => at' l0 (a - 1) ≤ x) (hpre h0) k k1 k2
            rw [w64 (show -9223372036854775808 ≤ i - a by omega) (by omega), w64 (show -9223372036854775808 ≤ b - i by omega) (by omega), w64 (show -9223372036854775808 ≤ i + 1 by omega) (by omega), w64 (show -9223372036854775808 ≤ j + 1 by omega) (by omega)]
            refine bind_then (fun m => Rg a b l0 m ∧ Srt m a i) ?_ ?_
            · by_cases h2 : 2 ≤ i - a
              · simp only [h2, decide_true, cond_true]
                refine loop_then (fun s => Rg a b l0 s.1 ∧ a ≤ s.2 ∧ s.2 ≤ i - 1 ∧ ∀ p q, a ≤ p → p < q → q ≤ i - 1 → q ≠ s.2 → at' s.1 p ≤ at' s.1 q) (fun s => s.2.toNat) (fun r => Rg a b l0 r ∧ Srt r a i) ?_ ⟨hR1, by dsimp only; omega, Int.le_refl _, hS1⟩ (fun r hr => ⟨r, rfl, hr⟩)
                rintro ⟨m, j⟩ ⟨hR', q1, q2, hS'⟩
                dsimp only at hR' q1 q2 hS' ⊢
                have hml := hR'.len
                by_cases hj1 : 1 ≤ j
                · have f1 : idx m j = some (el m j) := idx_at (by omega) (by omega)
                  have f2 : idx m (j - 1) = some (el m (j - 1)) := idx_at (by omega) (by omega)
                  have f3 : ∀ x, idx (m.set j.toNat x) (j - 1) = some (el (m.set j.toNat x) (j - 1)) := fun x => idx_set_at (by omega) (by omega)
                  have e2 : IntKind.i64.wrap (j - 1) = j - 1 := w64 (by omega) (by omega)
                  obtain ⟨v, cv, hv⟩ := cmp_at (hR'.good hG) (i := j) (j := j - 1) (by omega) (by omega) (by omega) (by omega)
                  by_cases hlt : at' m j < at' m (j - 1)
                  · have hja : a < j := by
                      rcases Int.lt_or_eq_of_le q1 with h | h
                      · exact h
                      · subst h
                        have := hpre' m hR' (by omega) a (Int.le_refl _) hab
                        omega
                    refine ⟨.inl (sw m j (j - 1), j - 1), ?_, ⟨hR'.trans (Rg.swap ha (by omega) (by omega) (by omega) (by omega) (by omega)), by dsimp only; omega, by dsimp only; omega, ?_⟩, by dsimp only; omega⟩
                    · simp only [hj1, decide_true, cond_true, e2, f1, f2, f3, cv, hv, hlt, Bool.not_true, cond_false, Option.bind_some]
                      rfl
                    · intro p q k1 k2 k3 k4
                      dsimp only at k4 ⊢
                      rw [sw_at (by omega) (by omega) (by omega) (by omega) (by omega), sw_at (by omega) (by omega) (by omega) (by omega) (by omega)]
                      by_cases c1 : q = j
                      · subst c1
                        rw [if_neg (show ¬ q = q - 1 by omega), if_pos rfl]
                        by_cases c2 : p = q - 1
                        · rw [if_pos c2]; omega
                        · rw [if_neg c2, if_neg (by omega)]
                          exact hS' p (q - 1) k1 (by omega) (by omega) (by omega)
                      · rw [if_neg (show ¬ q = j - 1 by omega), if_neg c1]
                        by_cases c2 : p = j - 1
                        · rw [if_pos c2]
                          exact hS' j q (by omega) (by omega) k3 c1
                        · rw [if_neg c2]
                          by_cases c3 : p = j
                          · rw [if_pos c3]
                            exact hS' (j - 1) q (by omega) (by omega) k3 c1
                          · rw [if_neg c3]
                            exact hS' p q k1 k2 k3 c1
                  · refine ⟨.inr m, ?_, hR', ?_⟩
                    · simp only [hj1, decide_true, cond_true, e2, f1, f2, cv, hv, hlt, decide_false, Bool.not_false, Option.bind_some]
                    · intro p q k1 k2 k3
                      by_cases c1 : q = j
                      · subst c1
                        by_cases c2 : p = q - 1
                        · subst c2; omega
                        · have := hS' p (q - 1) k1 (by omega) (by omega) (by omega)
                          omega
                      · exact hS' p q k1 k2 (by omega) c1
                · refine ⟨.inr m, ?_, hR', ?_⟩
                  · simp only [hj1, decide_false, cond_false]
                  · intro p q k1 k2 k3
                    exact hS' p q k1 k2 (by omega) (by omega)
              · simp only [h2, decide_false, cond_false]
                exact ⟨_, rfl, hR1, fun p q k1 k2 k3 => by omega⟩
            · rintro m1 ⟨hR2, hS2⟩
              have hm1 := hR2.len
              by_cases h2 : 2 ≤ b - i
              · simp only [h2, decide_true, cond_true]
                refine loop_then (fun s => Rg a b l0 s.1 ∧ Srt s.1 a i ∧ i + 1 ≤ s.2 ∧ s.2 ≤ b) (fun s => (b - s.2).toNat) (fun r => Rg a b l0 r ∧ Srt r a i) ?_ ⟨hR2, hS2, by dsimp only; omega, by dsimp only; omega⟩ ?_
                · rintro ⟨m, q⟩ ⟨hR', hS', q1, q2⟩
                  dsimp only at hR' hS' q1 q2 ⊢
                  have hml := hR'.len
                  by_cases hq : q < b
                  · have f1 : idx m q = some (el m q) := idx_at (by omega) (by omega)
                    have f2 : idx m (q - 1) = some (el m (q - 1)) := idx_at (by omega) (by omega)
                    have f3 : ∀ x, idx (m.set q.toNat x) (q - 1) = some (el (m.set q.toNat x) (q - 1)) := fun x => idx_set_at (by omega) (by omega)
                    have e2 : IntKind.i64.wrap (q - 1) = q - 1 := w64 (by omega) (by omega)
                    have e3 : IntKind.i64.wrap (q + 1) = q + 1 := w64 (by omega) (by omega)
                    obtain ⟨v, cv, hv⟩ := cmp_at (hR'.good hG) (i := q) (j := q - 1) (by omega) (by omega) (by omega) (by omega)
                    by_cases hlt : at' m q < at' m (q - 1)
                    · refine ⟨.inl (sw m q (q - 1), q + 1), ?_, ⟨hR'.trans (Rg.swap ha (by omega) (by omega) (by omega) (by omega) (by omega)), fun p r k1 k2 k3 => ?_, by dsimp only; omega, by dsimp only; omega⟩, by dsimp only; omega⟩
                      · simp only [hq, decide_true, cond_true, e2, e3, f1, f2, f3, cv, hv, hlt, Bool.not_true, cond_false, Option.bind_some]
                        rfl
                      · dsimp only
                        rw [sw_at (by omega) (by omega) (by omega) (by omega) (by omega), sw_at (by omega) (by omega) (by omega) (by omega) (by omega)]
                        rw [if_neg (by omega), if_neg (by omega), if_neg (by omega), if_neg (by omega)]
                        exact hS' p r k1 k2 k3
                    · refine ⟨.inr m, ?_, hR', hS'⟩
                      simp only [hq, decide_true, cond_true, e2, f1, f2, cv, hv, hlt, decide_false, Bool.not_false, Option.bind_some]
                  · exact ⟨.inr m, by simp only [hq, decide_false, cond_false], hR', hS'⟩
                · rintro m2 ⟨hR3, hS3⟩
                  exact ⟨_, rfl, ⟨hR3, g1, g2, hS3, by dsimp only; omega, by dsimp only; omega⟩, by dsimp only; omega⟩
              · simp only [h2, decide_false, cond_false]
                exact ⟨_, rfl, ⟨hR2, g1, g2, hS2, by dsimp only; omega, by dsimp only; omega⟩, by dsimp only; omega⟩
    · simp only [hj, decide_false, cond_false]
      exact ⟨_, rfl, hR⟩
  · rintro (l | y) h
    · exact ⟨_, rfl, h, fun h => by cases h⟩
    · exact ⟨_, rfl, h⟩

theorem bitLen_spec : ∀ x : Nat, 1 ≤ x → x < 2 ^ 64 → x < 2 ^ (Lib.bitLen x) ∧ 2 ^ (Lib.bitLen x) ≤ 2 * x := by
  intro x
  induction x using Nat.strongRecOn with
  | ind x ih =>
    intro h1 h2
    rw [Lib.bitLen_half x (by omega) h2]
    by_cases h : x = 1
    · subst h; decide
    · obtain ⟨a, b⟩ := ih (x / 2) (by omega) (by omega) (by omega)
      rw [Nat.add_comm, Nat.pow_succ]
      generalize 2 ^ Lib.bitLen (x / 2) = p at a b
      omega
theorem pow2_spec (n : Int) (h1 : 8 ≤ n) (h2 : n ≤ 1000000) : ∃ y, D.v n = some y ∧ n < y ∧ y ≤ 2 * n := by
  obtain ⟨m, rfl⟩ : ∃ m : Nat, n = (m : Int) := ⟨n.toNat, by omega⟩
  obtain ⟨k1, k2⟩ := bitLen_spec m (by omega) (by omega)
  have hb : Lib.bitLen m < 22 := by
    apply Classical.byContradiction
    intro hc
    have : 2 ^ 22 ≤ 2 ^ Lib.bitLen m := Nat.pow_le_pow_right (by omega) (by omega)
    omega
  unfold D.v
  rw [wu64 (by omega) (by omega)]
  unfold D.m
  rw [if_pos (by omega), Option.bind_some]
  have : decide (((Lib.bitLen m : Nat) : Int) < 0) = false := by simp
  rw [Int.toNat_natCast, this, cond_false]
  have e : ishl .u64 1 ((Lib.bitLen m : Nat) : Int) = ((2 ^ Lib.bitLen m : Nat) : Int) := by
    show IntKind.u64.wrap (1 * 2 ^ (min (((Lib.bitLen m : Nat) : Int)).toNat 64)) = _
    rw [Int.toNat_natCast, show min (Lib.bitLen m) 64 = Lib.bitLen m by omega, Int.one_mul]
    have e' : ((2 ^ Lib.bitLen m : Nat) : Int) = (2 : Int) ^ Lib.bitLen m := by simp
    rw [← e', wu64 (by omega) (by omega)]
  rw [e]
  exact ⟨_, rfl, by omega, by omega⟩

theorem breakPatterns_spec (l0 : List α) (a b : Int) (ha : 0 ≤ a) (hb : b ≤ l0.length) (h8 : 8 ≤ b - a) (hlen : l0.length ≤ 1000000) :
    ∃ l', DG.breakPatterns Srtd.cmp l0 a b = some l' ∧ Rg a b l0 l' := by
  unfold DG.breakPatterns
  rw [w64 (show -9223372036854775808 ≤ b - a by omega) (by omega)]
  have e4 : (b - a).tdiv 4 = (b - a) / 4 := Int.tdiv_eq_ediv_of_nonneg (by omega)
  rw [e4, w64 (show -9223372036854775808 ≤ (b - a) / 4 by omega) (by omega)]
  rw [w64 (show -9223372036854775808 ≤ (b - a) / 4 * 2 by omega) (by omega)]
  rw [w64 (show -9223372036854775808 ≤ a + (b - a) / 4 * 2 by omega) (by omega)]
  rw [w64 (show -9223372036854775808 ≤ a + (b - a) / 4 * 2 + 1 by omega) (by omega), w64 (show -9223372036854775808 ≤ a + (b - a) / 4 * 2 - 1 by omega) (by omega)]
  simp only [h8, decide_true, cond_true]
  obtain ⟨y, hy, g1, g2⟩ := pow2_spec (b - a) h8 (by omega)
  rw [hy, Option.bind_some, wu64 (show 0 ≤ y - 1 by omega) (by omega)]
  refine loop_then (fun s => Rg a b l0 s.1 ∧ a + (b - a) / 4 * 2 - 1 ≤ s.2.1 ∧ s.2.1 ≤ a + (b - a) / 4 * 2 + 2) (fun s => (a + (b - a) / 4 * 2 + 2 - s.2.1).toNat) (fun r => Rg a b l0 r) ?_ ?_ ?_
  · rintro ⟨l, i, z⟩ ⟨hR, k1, k2⟩
    dsimp only at hR k1 k2 ⊢
    have hll := hR.len
    by_cases hi : i ≤ a + (b - a) / 4 * 2 + 1
    · simp only [hi, decide_true, cond_true, D.E, Option.bind_some]
      obtain ⟨t1, t2⟩ := iand_small (ixor .u64 (ixor .u64 (ixor .u64 z (ishl .u64 z 13)) (ishr .u64 (ixor .u64 z (ishl .u64 z 13)) 7)) (ishl .u64 (ixor .u64 (ixor .u64 z (ishl .u64 z 13)) (ishr .u64 (ixor .u64 z (ishl .u64 z 13)) 7)) 17)) (y - 1) (by omega) (by omega)
      revert t1 t2
      generalize iand .u64 (ixor .u64 (ixor .u64 (ixor .u64 z (ishl .u64 z 13)) (ishr .u64 (ixor .u64 z (ishl .u64 z 13)) 7)) (ishl .u64 (ixor .u64 (ixor .u64 z (ishl .u64 z 13)) (ishr .u64 (ixor .u64 z (ishl .u64 z 13)) 7)) 17)) (y - 1) = t
      generalize (ixor .u64 (ixor .u64 (ixor .u64 z (ishl .u64 z 13)) (ishr .u64 (ixor .u64 z (ishl .u64 z 13)) 7)) (ishl .u64 (ixor .u64 (ixor .u64 z (ishl .u64 z 13)) (ishr .u64 (ixor .u64 z (ishl .u64 z 13)) 7)) 17)) = z'
      intro t1 t2
      rw [w64 (show -9223372036854775808 ≤ t by omega) (by omega), w64 (show -9223372036854775808 ≤ t - (b - a) by omega) (by omega)]
      have hc : ∃ o, (bif decide (b - a ≤ t) then some (t - (b - a)) else some t) = some o ∧ 0 ≤ o ∧ o < b - a := by
        by_cases h : b - a ≤ t
        · exact ⟨t - (b - a), by simp [h], by omega, by omega⟩
        · exact ⟨t, by simp [h], by omega, by omega⟩
      obtain ⟨o, ho, o1, o2⟩ := hc
      rw [ho, Option.bind_some, w64 (show -9223372036854775808 ≤ a + o by omega) (by omega), w64 (show -9223372036854775808 ≤ i + 1 by omega) (by omega)]
      have r1 : idx l i = some (el l i) := idx_at (by omega) (by omega)
      have r2 : idx l (a + o) = some (el l (a + o)) := idx_at (by omega) (by omega)
      have r3 : ∀ x, idx (l.set i.toNat x) (a + o) = some (el (l.set i.toNat x) (a + o)) := fun x => idx_set_at (by omega) (by omega)
      refine ⟨.inl (sw l i (a + o), i + 1, z'), ?_, ⟨hR.trans (Rg.swap ha (by omega) (by omega) (by omega) (by omega) (by omega)), by dsimp only; omega, by dsimp only; omega⟩, by dsimp only; omega⟩
      simp only [r1, r2, r3, Option.bind_some]
      rfl
    · exact ⟨.inr l, by simp only [hi, decide_false, cond_false], hR⟩
  · exact ⟨Rg.refl _ _ _, by dsimp only; omega, by dsimp only; omega⟩
  · rintro r hr
    exact ⟨r, rfl, hr⟩
end Go.Sx.Gs

/- Heap sort. Plain. -/
namespace Go.Sx.Gs
variable {α : Type} [Srtd α]
def kid (i c : Int) : Prop := c = 2 * i + 1 ∨ c = 2 * i + 2
theorem siftDown_spec (l0 : List α) (hG : Good l0) (lo hi f : Int) (h0 : 0 ≤ lo) (hf : 0 ≤ f) (hlh : lo ≤ hi) (hb : f + hi ≤ l0.length) (hlen : l0.length ≤ 1000000)
    (hH : ∀ i c, lo < i → kid i c → c < hi → at' l0 (f + c) ≤ at' l0 (f + i)) :
    ∃ l', DG.siftDown Srtd.cmp l0 lo hi f = some l' ∧ Rg (f + lo) (f + hi) l0 l' ∧ ∀ i c, lo ≤ i → kid i c → c < hi → at' l' (f + c) ≤ at' l' (f + i) := by
  unfold DG.siftDown
  refine loop_then (fun s => Rg (f + lo) (f + hi) l0 s.1 ∧ lo ≤ s.2 ∧ s.2 ≤ hi ∧ (∀ i c, lo ≤ i → i ≠ s.2 → kid i c → c < hi → at' s.1 (f + c) ≤ at' s.1 (f + i)) ∧ (∀ p c, lo ≤ p → kid p s.2 → kid s.2 c → c < hi → at' s.1 (f + c) ≤ at' s.1 (f + p)))
    (fun s => (hi - s.2).toNat)
    (fun r => match r with | .inl l' => Rg (f + lo) (f + hi) l0 l' ∧ ∀ i c, lo ≤ i → kid i c → c < hi → at' l' (f + c) ≤ at' l' (f + i) | .inr l' => Rg (f + lo) (f + hi) l0 l' ∧ ∀ i c, lo ≤ i → kid i c → c < hi → at' l' (f + c) ≤ at' l' (f + i)) ?_
    ⟨Rg.refl _ _ _, Int.le_refl _, hlh, fun i c h1 h2 h3 h4 => hH i c (by dsimp only at h2; omega) h3 h4, fun p c h1 h2 h3 h4 => by unfold kid at h2; dsimp only at h2; omega⟩ ?_
  · rintro ⟨l, r⟩ ⟨hR, g1, g2, g3, g4⟩
    dsimp only at hR g1 g2 g3 g4 ⊢
    have hll := hR.len
    rw [w64 (show -9223372036854775808 ≤ 2 * r by omega) (by omega), w64 (show -9223372036854775808 ≤ 2 * r + 1 by omega) (by omega)]
    rw [w64 (show -9223372036854775808 ≤ 2 * r + 1 + 1 by omega) (by omega), w64 (show -9223372036854775808 ≤ f + (2 * r + 1) by omega) (by omega), w64 (show -9223372036854775808 ≤ f + (2 * r + 1) + 1 by omega) (by omega), w64 (show -9223372036854775808 ≤ f + r by omega) (by omega)]
    by_cases hc : hi ≤ 2 * r + 1
    · simp only [hc, decide_true, cond_true]
      refine ⟨_, rfl, hR, fun i c h1 h2 h3 => ?_⟩
      by_cases e : i = r
      · subst e; unfold kid at h2; omega
      · exact g3 i c h1 e h2 h3
    · simp only [hc, decide_false, cond_false]
      -- the greater child
      refine bind_then (fun b : Bool => (b = true → 2 * r + 2 < hi ∧ at' l (f + (2 * r + 1)) < at' l (f + (2 * r + 2))) ∧ (b = false → 2 * r + 2 < hi → at' l (f + (2 * r + 2)) ≤ at' l (f + (2 * r + 1)))) ?_ ?_
      · by_cases h2 : 2 * r + 1 + 1 < hi
        · have r1 : idx l (f + (2 * r + 1)) = some (el l (f + (2 * r + 1))) := idx_at (by omega) (by omega)
          have r2 : idx l (f + (2 * r + 1) + 1) = some (el l (f + (2 * r + 1) + 1)) := idx_at (by omega) (by omega)
          obtain ⟨v, cv, hv⟩ := cmp_at (hR.good hG) (i := f + (2 * r + 1)) (j := f + (2 * r + 1) + 1) (by omega) (by omega) (by omega) (by omega)
          simp only [h2, decide_true, cond_true, r1, r2, cv, hv, Option.bind_some]
          rw [show f + (2 * r + 1) + 1 = f + (2 * r + 2) by omega]
          refine ⟨_, rfl, fun h => ⟨by omega, of_decide_eq_true h⟩, fun h _ => ?_⟩
          have := of_decide_eq_false h
          omega
        · simp only [h2, decide_false, cond_false]
          exact ⟨_, rfl, (fun h => by cases h), (fun _ h => by omega)⟩
      · rintro b ⟨hbb, hbf⟩
        -- which child, and that it is the greater one
        have hch : ∃ c, (bif b then some (2 * r + 1 + 1) else some (2 * r + 1)) = some c ∧ (b = true → c = 2 * r + 2) ∧ (b = false → c = 2 * r + 1) := by
          cases b
          · exact ⟨2 * r + 1, rfl, by simp, by simp⟩
          · exact ⟨2 * r + 2, by simp; omega, by simp, by simp⟩
        obtain ⟨c, ec, c1, c2⟩ := hch
        have hkc : kid r c := by unfold kid; cases b <;> simp at c1 c2 <;> omega
        have hchi : c < hi := by
          cases b
          · have := c2 rfl; omega
          · have := c1 rfl; have := hbb rfl; omega
        rw [ec, Option.bind_some, w64 (show -9223372036854775808 ≤ f + c by unfold kid at hkc; omega) (by omega)]
        have hcr : r < c := by unfold kid at hkc; omega
        have t1 : idx l (f + r) = some (el l (f + r)) := idx_at (by omega) (by omega)
        have t2 : idx l (f + c) = some (el l (f + c)) := idx_at (by omega) (by omega)
        have t3 : ∀ x, idx (l.set (f + r).toNat x) (f + c) = some (el (l.set (f + r).toNat x) (f + c)) := fun x => idx_set_at (by omega) (by omega)
        obtain ⟨v, cv, hv⟩ := cmp_at (hR.good hG) (i := f + r) (j := f + c) (by omega) (by omega) (by omega) (by omega)
        have hbest : ∀ d, kid r d → d < hi → at' l (f + d) ≤ at' l (f + c) := fun d hd hdh => by
          cases b
          · have e := c2 rfl
            subst e
            rcases hd with rfl | rfl
            · exact Int.le_refl _
            · exact hbf rfl hdh
          · have e := c1 rfl
            subst e
            rcases hd with rfl | rfl
            · have := (hbb rfl).2; omega
            · exact Int.le_refl _
        by_cases hlt : at' l (f + r) < at' l (f + c)
        · refine ⟨.inl (sw l (f + r) (f + c), c), ?_, ⟨hR.trans (Rg.swap (by omega) (by omega) (by omega) (by omega) (by omega) (by omega)), by dsimp only; omega, by dsimp only; omega, fun i d h1 h2 h3 h4 => ?_, fun p d h1 h2 h3 h4 => ?_⟩, by dsimp only; omega⟩
          · simp only [t1, t2, t3, cv, hv, hlt, decide_true, Bool.not_true, cond_false, Option.bind_some]
            rfl
          · dsimp only at h2 ⊢
            have hd0 : i < d := by unfold kid at h3; omega
            rw [sw_at (by omega) (by omega) (by omega) (by omega) (by omega), sw_at (by omega) (by omega) (by omega) (by omega) (by omega)]
            rw [if_neg (show ¬ f + i = f + c by omega)]
            by_cases e : i = r
            · subst e
              rw [if_pos rfl]
              by_cases e2 : d = c
              · subst e2; rw [if_pos rfl]; omega
              · rw [if_neg (show ¬ f + d = f + c by omega), if_neg (show ¬ f + d = f + i by omega)]
                exact hbest d h3 h4
            · rw [if_neg (show ¬ f + i = f + r by omega)]
              have e2 : d ≠ c := fun e2 => by subst e2; unfold kid at h3 hkc; omega
              rw [if_neg (show ¬ f + d = f + c by omega)]
              by_cases e3 : d = r
              · subst e3
                rw [if_pos rfl]
                exact g4 i c h1 h3 hkc hchi
              · rw [if_neg (show ¬ f + d = f + r by omega)]
                exact g3 i d h1 e h3 h4
          · dsimp only at h2 h3 ⊢
            have e : p = r := by unfold kid at h2 hkc; omega
            subst e
            have hd0 : c < d := by unfold kid at h3; omega
            rw [sw_at (by omega) (by omega) (by omega) (by omega) (by omega), sw_at (by omega) (by omega) (by omega) (by omega) (by omega)]
            rw [if_neg (show ¬ f + d = f + c by omega), if_neg (show ¬ f + d = f + p by omega), if_neg (show ¬ f + p = f + c by omega), if_pos rfl]
            exact g3 c d (by omega) (by omega) h3 h4
        · refine ⟨.inr (.inr l), ?_, hR, fun i d h1 h2 h3 => ?_⟩
          · simp only [t1, t2, cv, hv, hlt, decide_false, Bool.not_false, cond_true, Option.bind_some]
          · by_cases e : i = r
            · subst e
              have := hbest d h2 h3
              omega
            · exact g3 i d h1 e h2 h3
  · rintro (l | l) h
    · exact ⟨_, rfl, h⟩
    · exact ⟨_, rfl, h⟩

/-- the root of a heap is its greatest -/
theorem heap_root {l : List α} {f hi : Int} (hH : ∀ i c, 0 ≤ i → kid i c → c < hi → at' l (f + c) ≤ at' l (f + i)) : ∀ (n : Nat) (k : Int), k.toNat ≤ n → 0 ≤ k → k < hi → at' l (f + k) ≤ at' l (f + 0) := by
  intro n
  induction n with
  | zero => intro k h1 h2 h3; rw [show k = 0 by omega]; exact Int.le_refl _
  | succ n ih =>
    intro k h1 h2 h3
    by_cases h : k = 0
    · subst h; exact Int.le_refl _
    · have hk : kid ((k - 1) / 2) k := by unfold kid; omega
      have a := hH ((k - 1) / 2) k (by omega) hk h3
      have b := ih ((k - 1) / 2) (by omega) (by omega) (by omega)
      omega

theorem heapSort_spec (l0 : List α) (hG : Good l0) (a b : Int) (ha : 0 ≤ a) (hab : a ≤ b) (hb : b ≤ l0.length) (hlen : l0.length ≤ 1000000) :
    ∃ l', DG.heapSort Srtd.cmp l0 a b = some l' ∧ Rg a b l0 l' ∧ Srt l' a b := by
  unfold DG.heapSort
  rw [w64 (show -9223372036854775808 ≤ b - a by omega) (by omega), w64 (show -9223372036854775808 ≤ b - a - 1 by omega) (by omega)]
  have e2 : -1 ≤ (b - a - 1).tdiv 2 ∧ (b - a - 1).tdiv 2 ≤ b - a ∧ b - a ≤ 2 * (b - a - 1).tdiv 2 + 2 := by
    by_cases h : 1 ≤ b - a
    · rw [Int.tdiv_eq_ediv_of_nonneg (by omega)]; omega
    · have : b - a - 1 = -1 := by omega
      have e : (-1 : Int).tdiv 2 = 0 := by decide
      rw [this, e]; omega
  rw [w64 (show -9223372036854775808 ≤ (b - a - 1).tdiv 2 by omega) (by omega)]
  generalize (b - a - 1).tdiv 2 = st at e2
  refine loop_then (fun s => Rg a b l0 s.1 ∧ -1 ≤ s.2 ∧ s.2 ≤ b - a ∧ ∀ i c, s.2 < i → kid i c → c < b - a → at' s.1 (a + c) ≤ at' s.1 (a + i)) (fun s => (s.2 + 1).toNat)
    (fun r => Rg a b l0 r ∧ ∀ i c, 0 ≤ i → kid i c → c < b - a → at' r (a + c) ≤ at' r (a + i)) ?_ ⟨Rg.refl _ _ _, by dsimp only; omega, by dsimp only; omega, fun i c h1 h2 h3 => by unfold kid at h2; dsimp only at h1; omega⟩ ?_
  · rintro ⟨l, i⟩ ⟨hR, g1, g2, g3⟩
    dsimp only at hR g1 g2 g3 ⊢
    have hll := hR.len
    by_cases hi : 0 ≤ i
    · simp only [hi, decide_true, cond_true]
      obtain ⟨l', e, r1, r2⟩ := siftDown_spec l (hR.good hG) i (b - a) a hi ha (by omega) (by omega) (by omega) g3
      rw [e, Option.bind_some, w64 (show -9223372036854775808 ≤ i - 1 by omega) (by omega)]
      exact ⟨_, rfl, ⟨hR.trans (r1.widen (by omega) (by omega) ha), by dsimp only; omega, by dsimp only; omega, fun p c h1 h2 h3 => r2 p c (by dsimp only at h1; omega) h2 h3⟩, by dsimp only; omega⟩
    · simp only [hi, decide_false, cond_false]
      exact ⟨_, rfl, hR, fun p c h1 h2 h3 => g3 p c (by omega) h2 h3⟩
  · rintro l1 ⟨hR1, hH1⟩
    refine loop_then (fun s => Rg a b l0 s.1 ∧ -1 ≤ s.2 ∧ s.2 < b - a ∧ (∀ i c, 0 ≤ i → kid i c → c ≤ s.2 → at' s.1 (a + c) ≤ at' s.1 (a + i)) ∧ (∀ p q, s.2 < p → p < q → q < b - a → at' s.1 (a + p) ≤ at' s.1 (a + q)) ∧ (∀ p q, 0 ≤ p → p ≤ s.2 → s.2 < q → q < b - a → at' s.1 (a + p) ≤ at' s.1 (a + q))) (fun s => (s.2 + 1).toNat)
      (fun r => Rg a b l0 r ∧ Srt r a b) ?_ ⟨hR1, by dsimp only; omega, by dsimp only; omega, fun i c h1 h2 h3 => hH1 i c h1 h2 (by dsimp only at h3; omega), fun p q h1 h2 h3 => by dsimp only at h1; omega, fun p q h1 h2 h3 h4 => by dsimp only at h3; omega⟩ (fun r hr => ⟨r, rfl, hr⟩)
    rintro ⟨l, i⟩ ⟨hR, g1, g2, g3, g4, g5⟩
    dsimp only at hR g1 g2 g3 g4 g5 ⊢
    have hll := hR.len
    by_cases hi : 0 ≤ i
    · rw [w64 (show -9223372036854775808 ≤ a + i by omega) (by omega)]
      have t1 : idx l a = some (el l a) := idx_at (by omega) (by omega)
      have t2 : idx l (a + i) = some (el l (a + i)) := idx_at (by omega) (by omega)
      have t3 : ∀ x, idx (l.set a.toNat x) (a + i) = some (el (l.set a.toNat x) (a + i)) := fun x => idx_set_at (by omega) (by omega)
      simp only [hi, decide_true, cond_true, t1, t2, t3, Option.bind_some]
      rw [show (l.set a.toNat (el l (a + i))).set (a + i).toNat (el l a) = sw l a (a + i) from rfl]
      have hRs : Rg a (a + (i + 1)) l (sw l a (a + i)) := Rg.swap ha (by omega) (by omega) (by omega) (by omega) (by omega)
      have sat : ∀ k, 0 ≤ k → at' (sw l a (a + i)) (a + k) = if k = i then at' l a else if k = 0 then at' l (a + i) else at' l (a + k) := fun k hk => by
        rw [sw_at (by omega) (by omega) (by omega) (by omega) (by omega)]
        by_cases c1 : k = i
        · subst c1; simp
        · rw [if_neg (show ¬ a + k = a + i by omega), if_neg c1]
          by_cases c2 : k = 0
          · subst c2; simp
          · rw [if_neg (show ¬ a + k = a by omega), if_neg c2]
      have hroot : ∀ k, 0 ≤ k → k ≤ i → at' l (a + k) ≤ at' l a := fun k k1 k2 => by
        have := heap_root (hi := i + 1) (fun p c h1 h2 h3 => g3 p c h1 h2 (by omega)) k.toNat k (Nat.le_refl _) k1 (by omega)
        rwa [Int.add_zero] at this
      have hsl : (sw l a (a + i)).length = l.length := sw_len _ _ _
      obtain ⟨l', e, r1, r2⟩ := siftDown_spec (sw l a (a + i)) (hRs.good (hR.good hG)) 0 i a (Int.le_refl _) ha hi (by omega) (by omega) (fun p c h1 h2 h3 => by
        have hc : p < c := by unfold kid at h2; omega
        rw [sat c (by omega), sat p (by omega), if_neg (by omega), if_neg (by omega), if_neg (by omega), if_neg (by omega)]
        exact g3 p c (by omega) h2 (by omega))
      rw [e, Option.bind_some, w64 (show -9223372036854775808 ≤ i - 1 by omega) (by omega)]
      rw [Int.add_zero] at r1
      have same : ∀ k, i ≤ k → at' l' (a + k) = at' (sw l a (a + i)) (a + k) := fun k hk => r1.out (a + k) (by omega) (.inr (by omega))
      have big : ∀ k, i < k → k < b - a → at' l' (a + k) = at' l (a + k) := fun k hk hk2 => by
        rw [same k (by omega), sat k (by omega), if_neg (by omega), if_neg (by omega)]
      have ati : at' l' (a + i) = at' l a := by rw [same i (Int.le_refl _), sat i hi, if_pos rfl]
      have low : ∀ Q : Int → Prop, (∀ k, 0 ≤ k → k ≤ i → Q (at' l (a + k))) → ∀ k, 0 ≤ k → k < i → Q (at' l' (a + k)) := fun Q hQ k k1 k2 =>
        r1.all Q (fun m m1 m2 => by
          have h1 := sat (m - a) (by omega)
          rw [show a + (m - a) = m by omega] at h1
          rw [h1]
          split
          · have := hQ 0 (by omega) hi; rwa [Int.add_zero] at this
          · split
            · exact hQ i hi (Int.le_refl _)
            · have := hQ (m - a) (by omega) (by omega); rwa [show a + (m - a) = m by omega] at this) (a + k) (by omega) (by omega)
      refine ⟨_, rfl, ⟨hR.trans ((hRs.widen (Int.le_refl a) (by omega) ha).trans (r1.widen (Int.le_refl a) (by omega) ha)), by dsimp only; omega, by dsimp only; omega, fun p c h1 h2 h3 => ?_, fun p q h1 h2 h3 => ?_, fun p q h1 h2 h3 h4 => ?_⟩, by dsimp only; omega⟩
      · dsimp only at h3 ⊢; exact r2 p c h1 h2 (by omega)
      · dsimp only at h1 ⊢
        by_cases c1 : p = i
        · subst c1
          rw [ati, big q h2 h3]
          have := g5 0 q (Int.le_refl _) hi h2 h3
          rwa [Int.add_zero] at this
        · rw [big p (by omega) (by omega), big q (by omega) h3]
          exact g4 p q (by omega) h2 h3
      · dsimp only at h2 h3 ⊢
        by_cases c1 : q = i
        · subst c1
          rw [ati]
          exact low (fun x => x ≤ at' l a) hroot p h1 (by omega)
        · rw [big q (by omega) h4]
          exact low (fun x => x ≤ at' l (a + q)) (fun k k1 k2 => g5 k q k1 k2 (by omega) h4) p h1 (by omega)
    · simp only [hi, decide_false, cond_false]
      refine ⟨_, rfl, hR, fun p q h1 h2 h3 => ?_⟩
      have := g4 (p - a) (q - a) (by omega) (by omega) (by omega)
      rwa [show a + (p - a) = p by omega, show a + (q - a) = q by omega] at this
end Go.Sx.Gs
