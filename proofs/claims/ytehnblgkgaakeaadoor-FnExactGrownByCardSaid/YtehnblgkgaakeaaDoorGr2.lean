/- Parts of the proof: DC4, SxH, SxP, KAD, KBD, KCD, KDD, KHandA, KHandB. -/
import Derived.Test.YtehnblgkgaakeaaDoorGr1
import Derived.Shelf.Small.Bits
import Derived.Test.YtehnblgkgaakeaaDoorProg
import Derived.RangeFuncBox
import Derived.RangeFuncLeaves
import Derived.Shelf.Abstract
import Derived.WalkKit
import Derived.OwnWalkIn
import Derived.TacticsInMore
import Derived.LoopNIn
import Derived.LoopIn
import Derived.Maps.AppendAt
set_option linter.unusedVariables false
set_option linter.unusedSimpArgs false
set_option linter.unusedSectionVars false
namespace Go.Sx

noncomputable def D.laws_szPruneS (x0 : (List (Int × Int × Int))) (x1 : Int) : Option (Int) :=
  cond (decide ((IntKind.i64.wrap (x1 - (x0.length : Int))) < 0)) (some (-1)) (some (IntKind.i64.wrap (x1 - (x0.length : Int))))

noncomputable def D.laws_toPrune (x0_0 : Int) (x0_1 : Int) (x0_2 : Int) : Option (Int × Int × Int) :=
  some (x0_0, x0_1, x0_2)

noncomputable def D.laws_toPruneS (x0 : (List (Int × Int × Int))) : Option (((List (Int × Int × Int)))) :=
  (makeD ((0, 0, 0) : (Int × Int × Int)) (x0.length : Int) (x0.length : Int)).bind fun l_1 => (loopF (σ := (List (Int × Int × Int)) × Int) (ρ := ((List (Int × Int × Int)))) (fun (s_52 : (List (Int × Int × Int)) × Int) => match s_52 with | (l_55, x_58) => cond (decide (x_58 < (x0.length : Int))) ((idx x0 x_58).bind fun e_84 => (D.laws_toPrune e_84.1 e_84.2.1 e_84.2.2).bind fun y_88 => (idx l_55 x_58).bind fun e_95 => some (.inl ((l_55.set (Int.toNat x_58) (y_88.1, y_88.2.1, y_88.2.2)), (IntKind.i64.wrap (x_58 + 1))))) (some (.inr l_55))) (l_1, 0)).bind fun l_79 => some l_79

noncomputable def D.spec_l18Grow (x0_0 : (List (List Int))) (x1_0 : Int) (x1_1 : Int) (x1_2 : Int) : Option (((List (List Int)))) :=
  ((cond ((x1_2 == 3) || (x1_2 == 4)) ((idx x0_0 x1_1).bind fun e_42 => (D.spec_l1Copy e_42).bind fun y_48 => some y_48) (some ([] : List Int)) : Option ((List Int)))).bind fun l_35 => ((cond ((x1_2 == 2) || (x1_2 == 4)) ((D.spec_l1Into l_35 x1_1).bind fun y_86 => some y_86) (some l_35) : Option ((List Int)))).bind fun l_78 => (idx x0_0 x1_0).bind fun e_98 => (loopF (σ := (List (List Int)) × Int) (ρ := ((List (List Int)))) (fun (s_191 : (List (List Int)) × Int) => match s_191 with | (l_194, x_197) => cond (decide (x_197 < (l_78.length : Int))) ((idx l_78 x_197).bind fun e_244 => (idx l_78 x_197).bind fun e_250 => (idx l_194 e_250).bind fun e_256 => (D.spec_l1Into e_256 x1_0).bind fun y_265 => (idx l_194 e_244).bind fun e_274 => some (.inl ((l_194.set (Int.toNat e_244) y_265), (IntKind.i64.wrap (x_197 + 1))))) (some (.inr l_194))) ((x0_0.set (Int.toNat x1_0) l_78), 0)).bind fun l_239 => some l_239

noncomputable def D.spec_l16All (x0_0 : (List (List Int))) : Option (((List Int))) :=
  (loopF (σ := (List Int) × Int) (ρ := ((List Int))) (fun (s_40 : (List Int) × Int) => match s_40 with | (l_43, x_48) => cond (decide (x_48 < (x0_0.length : Int))) ((appendD l_43 ([x_48] : List Int)).bind fun l_73 => some (.inl (l_73, (IntKind.i64.wrap (x_48 + 1))))) (some (.inr l_43))) (([] : List Int), 0)).bind fun l_62 => some l_62

noncomputable def D.spec_l18Near (x0_0 : (List (List Int))) (x1 : (List Int)) (x2 : Int) (x3 : Int) : Option (((List Int))) :=
  (loopF (σ := (List Int) × Int) (ρ := ((List Int))) (fun (s_130 : (List Int) × Int) => match s_130 with | (l_133, x_138) => (idx x0_0 x2).bind fun e_203 => cond (decide (x_138 < (e_203.length : Int))) ((idx x0_0 x2).bind fun e_210 => (idx e_210 x_138).bind fun e_216 => (cond (e_216 != x3) ((D.spec_l1Has x1 e_216).bind fun y_241 => some y_241) (some false)).bind fun b_239 => cond b_239 ((appendD l_133 ([e_216] : List Int)).bind fun l_253 => some (.inl (l_253, (IntKind.i64.wrap (x_138 + 1))))) (some (.inl (l_133, (IntKind.i64.wrap (x_138 + 1)))))) (some (.inr l_133))) (([] : List Int), 0)).bind fun l_197 => some l_197

noncomputable def D.spec_l1Same (x0 : (List Int)) (x1 : (List Int)) : Option (Bool) :=
  cond ((x0.length : Int) != (x1.length : Int)) (some false) ((loopF (σ := Int) (ρ := (Unit) ⊕ (Bool)) (fun (x_43 : Int) => cond (decide (x_43 < (x0.length : Int))) ((idx x0 x_43).bind fun e_64 => (idx x1 x_43).bind fun e_70 => cond (e_64 != e_70) (some (.inr (.inr false))) (some (.inl (IntKind.i64.wrap (x_43 + 1))))) (some (.inr (.inl ())))) 0).bind fun zz => match zz with | .inl _ => (some true) | .inr z => (some z))

noncomputable def D.spec_l18Goes (x0_0 : (List (List Int))) (x1 : (List Int)) (x2_0 : Int) (x2_1 : Int) (x2_2 : Int) : Option (Bool) :=
  (D.spec_l18Near x0_0 x1 x2_0 x2_1).bind fun y_5 => cond (x2_2 == 1) (some ((x2_1 == (-1)) && ((y_5.length : Int) == 0))) ((cond (x2_1 == x2_0) (some true) ((D.spec_l1Has x1 x2_1).bind fun y_39 => some (!y_39))).bind fun b_37 => cond b_37 (some false) ((idx x0_0 x2_0).bind fun e_47 => (D.spec_l1Has e_47 x2_1).bind fun y_53 => cond (x2_2 == 2) (some (y_53 && ((y_5.length : Int) == 0))) (cond (x2_2 == 3) ((cond (!y_53) ((D.spec_l18Near x0_0 x1 x2_1 x2_0).bind fun y_116 => (D.spec_l1Same y_5 y_116).bind fun y_127 => some y_127) (some false)).bind fun b_114 => some b_114) (cond (x2_2 == 4) ((cond y_53 ((D.spec_l18Near x0_0 x1 x2_1 x2_0).bind fun y_194 => (D.spec_l1Same y_5 y_194).bind fun y_205 => some y_205) (some false)).bind fun b_192 => some b_192) (some false)))))

noncomputable def D.spec_l19Less (x0 : (List Int)) (x1 : Int) : Option (((List Int))) :=
  (loopF (σ := (List Int) × Int) (ρ := ((List Int))) (fun (s_64 : (List Int) × Int) => match s_64 with | (l_67, x_72) => cond (decide (x_72 < (x0.length : Int))) ((idx x0 x_72).bind fun e_106 => cond (e_106 != x1) ((idx x0 x_72).bind fun e_113 => (appendD l_67 ([e_113] : List Int)).bind fun l_123 => some (.inl (l_123, (IntKind.i64.wrap (x_72 + 1))))) (some (.inl (l_67, (IntKind.i64.wrap (x_72 + 1)))))) (some (.inr l_67))) (([] : List Int), 0)).bind fun l_99 => some l_99

noncomputable def D.spec_PrunesOk (x0_0 : (List (List Int))) (x1 : (List (Int × Int × Int))) : Option (Bool) :=
  (D.spec_GraphOk x0_0).bind fun y_3 => cond ((!y_3) || (decide ((16 : Int) < (x1.length : Int)))) (some false) ((D.spec_l16All x0_0).bind fun y_14 => (loopF (σ := (List Int) × Int) (ρ := (Unit) ⊕ (Bool)) (fun (s_156 : (List Int) × Int) => match s_156 with | (l_159, x_164) => cond (decide (x_164 < (x1.length : Int))) ((idx x1 x_164).bind fun e_229 => (D.spec_l1Has l_159 e_229.1).bind fun y_235 => (cond (!y_235) (some true) ((idx x1 x_164).bind fun e_255 => (D.spec_l18Goes x0_0 l_159 e_255.1 e_255.2.1 e_255.2.2).bind fun y_259 => some (!y_259))).bind fun b_253 => cond b_253 (some (.inr (.inr false))) ((idx x1 x_164).bind fun e_268 => (D.spec_l19Less l_159 e_268.1).bind fun y_274 => some (.inl (y_274, (IntKind.i64.wrap (x_164 + 1)))))) (some (.inr (.inl ())))) (y_14, 0)).bind fun zz => match zz with | .inl _ => (some true) | .inr z => (some z))

noncomputable def D.spec_GrownBy (x0 : (List (Int × Int × Int))) : Option (((List (List Int))) × Bool) :=
  (D.spec_l1In (x0.length : Int) 1 16).bind fun y_3 => cond (!y_3) (some (([] : List (List Int)), false)) ((makeD (([] : (List Int)) : (List Int)) (x0.length : Int) (x0.length : Int)).bind fun l_16 => (loopF (σ := (List Int) × Int × (List (List Int))) (ρ := ((List (List Int))) ⊕ (((List (List Int))) × Bool)) (fun (s_424 : (List Int) × Int × (List (List Int))) => match s_424 with | (l_430, x_433, l_434) => cond (decide ((0 : Int) ≤ x_433)) ((idx x0 x_433).bind fun e_616 => (D.spec_l1In e_616.1 0 (IntKind.i64.wrap ((x0.length : Int) - 1))).bind fun y_622 => (cond (!y_622) (some true) ((D.spec_l1Has l_430 e_616.1).bind fun y_648 => some y_648)).bind fun b_646 => (cond b_646 (some true) ((D.spec_l1In e_616.2.2 1 4).bind fun y_674 => some (!y_674))).bind fun b_672 => (cond (b_672 || ((e_616.2.1 == (-1)) != (e_616.2.2 == 1))) (some true) ((cond (e_616.2.1 != (-1)) ((D.spec_l1Has l_430 e_616.2.1).bind fun y_760 => some (!y_760)) (some false)).bind fun b_758 => some b_758)).bind fun b_739 => cond b_739 (some (.inr (.inr (([] : List (List Int)), false)))) ((D.spec_l18Grow l_434 e_616.1 e_616.2.1 e_616.2.2).bind fun y_773 => (D.spec_l1Into l_430 e_616.1).bind fun y_782 => some (.inl (y_782, (IntKind.i64.wrap (x_433 - 1)), y_773)))) (some (.inr (.inl l_434)))) (([] : List Int), (IntKind.i64.wrap ((x0.length : Int) - 1)), l_16)).bind fun zz => match zz with | .inl l_611 => ((D.spec_PrunesOk l_611 x0).bind fun y_791 => cond (!y_791) (some (([] : List (List Int)), false)) (some (l_611, true))) | .inr z => (some z))

noncomputable def D.impl_nets_join (x0 : (List Int)) (x1 : Int) (x2 : Int) : Option (((List Int))) :=
  (idx x0 x1).bind fun e_1 => (D.impl_one x2).bind fun y_7 => (idx x0 x1).bind fun e_10 => (idx (x0.set (Int.toNat x1) (ior .u32 e_1 y_7)) x2).bind fun e_18 => (D.impl_one x1).bind fun y_24 => (idx (x0.set (Int.toNat x1) (ior .u32 e_1 y_7)) x2).bind fun e_27 => some ((x0.set (Int.toNat x1) (ior .u32 e_1 y_7)).set (Int.toNat x2) (ior .u32 e_18 y_24))

noncomputable def D.impl_canPrune (x0 : (List Int)) (x1 : Int) (x2 : Int) (x3 : Int) (x4 : Int) : Option (Bool) :=
  (idx x0 x2).bind fun e_1 => cond (x4 == 1) (some ((x3 == (-1)) && ((iand .u32 e_1 x1) == 0))) ((D.impl_inRange x3 0 (IntKind.i64.wrap ((x0.length : Int) - 1))).bind fun y_11 => (cond ((!y_11) || (x3 == x2)) (some true) ((D.impl_vset_has x1 x3).bind fun y_40 => some (!y_40))).bind fun b_38 => cond b_38 (some false) ((idx x0 x3).bind fun e_48 => cond (x4 == 2) ((D.impl_one x3).bind fun y_55 => some ((iand .u32 e_1 x1) == y_55)) (cond (x4 == 3) (some ((iand .u32 e_1 x1) == (iand .u32 e_48 x1))) (cond (x4 == 4) ((D.impl_vset_has (iand .u32 e_1 x1) x3).bind fun y_64 => (cond y_64 ((D.impl_one x3).bind fun y_104 => (D.impl_one x2).bind fun y_111 => some ((iandNot .u32 (iand .u32 e_1 x1) y_104) == (iandNot .u32 (iand .u32 e_48 x1) y_111))) (some false)).bind fun b_102 => some b_102) (some false)))))

noncomputable def D.impl_PrunesOk (x0_0 : (List (List Int))) (x1 : (List (Int × Int × Int))) : Option (Bool) :=
  (D.impl_GraphOk x0_0).bind fun y_3 => cond ((!y_3) || (decide ((16 : Int) < (x1.length : Int)))) (some false) ((D.impl_netsOf x0_0).bind fun y_14 => (D.impl_nets_all y_14).bind fun y_25 => (loopF (σ := Int × Int) (ρ := (Unit) ⊕ (Bool)) (fun (s_208 : Int × Int) => match s_208 with | (x_211, x_212) => cond (decide (x_212 < (x1.length : Int))) ((idx x1 x_212).bind fun e_300 => (D.impl_inRange e_300.1 0 (IntKind.i64.wrap ((y_14.length : Int) - 1))).bind fun y_306 => (cond (!y_306) (some true) ((D.impl_vset_has x_211 e_300.1).bind fun y_332 => some (!y_332))).bind fun b_330 => (cond b_330 (some true) ((D.impl_canPrune y_14 x_211 e_300.1 e_300.2.1 e_300.2.2).bind fun y_364 => some (!y_364))).bind fun b_362 => cond b_362 (some (.inr (.inr false))) ((D.impl_one e_300.1).bind fun y_375 => some (.inl ((iandNot .u32 x_211 y_375), (IntKind.i64.wrap (x_212 + 1)))))) (some (.inr (.inl ())))) (y_25, 0)).bind fun zz => match zz with | .inl _ => (some true) | .inr z => (some z))

noncomputable def D.impl_nets_graph__deep (x0 : (List Int)) : Option (((List (List Int)))) :=
  (loopF (σ := Int × (List (List Int))) (ρ := ((List (List Int)))) (fun (s_92 : Int × (List (List Int))) => match s_92 with | (x_98, l_99) => cond (decide (x_98 < (x0.length : Int))) ((idx x0 x_98).bind fun e_149 => (D.impl_vset_numbers e_149).bind fun y_158 => (appendD l_99 [y_158]).bind fun l_178 => some (.inl ((IntKind.i64.wrap (x_98 + 1)), l_178))) (some (.inr l_99))) (0, ([] : List (List Int)))).bind fun l_142 => some l_142

noncomputable def D.impl_GrownBy (x0 : (List (Int × Int × Int))) : Option (((List (List Int))) × Bool) :=
  (loopF (σ := (List Int) × Int) (ρ := ((List Int))) (fun (s_52 : (List Int) × Int) => match s_52 with | (l_55, x_60) => cond (decide (x_60 < (x0.length : Int))) ((idx x0 x_60).bind fun e_87 => (appendD l_55 ([e_87.1] : List Int)).bind fun l_97 => some (.inl (l_97, (IntKind.i64.wrap (x_60 + 1))))) (some (.inr l_55))) (([] : List Int), 0)).bind fun l_80 => (cond ((decide ((x0.length : Int) < 1)) || (decide ((16 : Int) < (x0.length : Int)))) (some true) ((D.slices_Sorted_int64 l_80).bind fun y_209 => (D.impl_increasing y_209 (x0.length : Int)).bind fun y_220 => some (!y_220))).bind fun b_200 => cond b_200 (some (([] : List (List Int)), false)) ((makeD (0 : Int) (x0.length : Int) (x0.length : Int)).bind fun l_236 => (loopF (σ := (List Int) × Int × Int) (ρ := ((List Int)) ⊕ (((List (List Int))) × Bool)) (fun (s_716 : (List Int) × Int × Int) => match s_716 with | (l_719, x_722, x_723) => cond (decide ((0 : Int) ≤ x_723)) ((idx x0 x_723).bind fun e_963 => ((cond (e_963.2.2 != 1) ((D.impl_inRange e_963.2.1 0 (IntKind.i64.wrap ((x0.length : Int) - 1))).bind fun y_1033 => (cond (!y_1033) (some true) ((D.impl_vset_has x_722 e_963.2.1).bind fun y_1059 => some (!y_1059))).bind fun b_1057 => cond b_1057 (some (.inr (([] : List (List Int)), false))) ((D.impl_one e_963.2.1).bind fun y_1072 => cond (e_963.2.2 == 2) (some (.inl y_1072)) (cond (e_963.2.2 == 3) ((idx l_719 e_963.2.1).bind fun e_1081 => some (.inl e_1081)) (cond (e_963.2.2 == 4) ((idx l_719 e_963.2.1).bind fun e_1088 => some (.inl (ior .u32 e_1088 y_1072))) (some (.inl 0)))))) (some (.inl 0)) : Option (Int ⊕ (((List (List Int))) × Bool)))).bind fun q => match q with | .inl x_1030 => ((D.impl_vset_list x_1030).bind fun y_1094 => (loopF (σ := (List Int) × Int) (ρ := ((List Int))) (fun (s_1146 : (List Int) × Int) => match s_1146 with | (l_1149, x_1152) => cond (decide (x_1152 < (y_1094.length : Int))) ((idx y_1094 x_1152).bind fun e_1176 => (D.impl_nets_join l_1149 e_963.1 e_1176).bind fun y_1182 => some (.inl (y_1182, (IntKind.i64.wrap (x_1152 + 1))))) (some (.inr l_1149))) (l_719, 0)).bind fun l_1171 => (D.impl_one e_963.1).bind fun y_1191 => some (.inl (l_1171, (ior .u32 x_722 y_1191), (IntKind.i64.wrap (x_723 - 1))))) | .inr q => (some (.inr (.inr q)))) (some (.inr (.inl l_719)))) (l_236, 0, (IntKind.i64.wrap ((x0.length : Int) - 1)))).bind fun zz => match zz with | .inl l_958 => ((D.impl_nets_graph__deep l_958).bind fun y_1198 => (D.impl_PrunesOk y_1198 x0).bind fun y_1214 => cond (!y_1214) (some (([] : List (List Int)), false)) (some (y_1198, true))) | .inr z => (some z))

noncomputable def D.laws_eqPrune (x0_0 : Int) (x0_1 : Int) (x0_2 : Int) (x1_0 : Int) (x1_1 : Int) (x1_2 : Int) : Option (Bool) :=
  cond (x0_0 != x1_0) (some false) (cond (x0_1 != x1_1) (some false) (cond (x0_2 != x1_2) (some false) (some true)))

noncomputable def D.laws_eqPruneS (x0 : (List (Int × Int × Int))) (x1 : (List (Int × Int × Int))) : Option (Bool) :=
  cond ((x0.length : Int) != (x1.length : Int)) (some false) ((loopF (σ := Int) (ρ := (Unit) ⊕ (Bool)) (fun (x_41 : Int) => cond (decide (x_41 < (x0.length : Int))) ((idx x0 x_41).bind fun e_61 => (idx x1 x_41).bind fun e_65 => (D.laws_eqPrune e_61.1 e_61.2.1 e_61.2.2 e_65.1 e_65.2.1 e_65.2.2).bind fun y_69 => cond (!y_69) (some (.inr (.inr false))) (some (.inl (IntKind.i64.wrap (x_41 + 1))))) (some (.inr (.inl ())))) 0).bind fun zz => match zz with | .inl _ => (some true) | .inr z => (some z))

noncomputable def D.laws_markPruneS (x0 : (List (Int × Int × Int))) (x1 : Int) : Option (Int × ((List (Int × Int × Int)))) :=
  (loopF (σ := (List (Int × Int × Int)) × Int × Int) (ρ := ((List (Int × Int × Int)) × Int)) (fun (s_61 : (List (Int × Int × Int)) × Int × Int) => match s_61 with | (l_64, x_67, x_68) => cond (decide (x_68 < (l_64.length : Int))) ((idx l_64 x_68).bind fun e_102 => (idx (l_64.set (Int.toNat x_68) (x_67, e_102.2.1, e_102.2.2)) x_68).bind fun e_110 => (idx ((l_64.set (Int.toNat x_68) (x_67, e_102.2.1, e_102.2.2)).set (Int.toNat x_68) (e_110.1, (IntKind.i64.wrap (x_67 + 1)), e_110.2.2)) x_68).bind fun e_118 => some (.inl ((((l_64.set (Int.toNat x_68) (x_67, e_102.2.1, e_102.2.2)).set (Int.toNat x_68) (e_110.1, (IntKind.i64.wrap (x_67 + 1)), e_110.2.2)).set (Int.toNat x_68) (e_118.1, e_118.2.1, (IntKind.i64.wrap ((IntKind.i64.wrap (x_67 + 1)) + 1)))), (IntKind.i64.wrap ((IntKind.i64.wrap ((IntKind.i64.wrap (x_67 + 1)) + 1)) + 1)), (IntKind.i64.wrap (x_68 + 1))))) (some (.inr (l_64, x_67)))) (x0, x1, 0)).bind fun (l_96, x_99) => some (x_99, l_96)

noncomputable def D.laws_heldGraph (x0_0 : (List (List Int))) (x1 : Int) : Option (Int) :=
  (D.laws_heldInt64SS x0_0 x1).bind fun y_3 => cond (decide (y_3 < 0)) (some (-1)) (some y_3)

noncomputable def D.laws_FnExactGrownBy (x0 : (List (Int × Int × Int))) : Option (Bool) :=
  (D.laws_szPruneS x0 1048576).bind fun y_1 => cond (decide (y_1 < 0)) (some true) ((D.laws_toPruneS x0).bind fun y_9 => (D.spec_GrownBy y_9).bind fun y_23 => (D.laws_toPruneS x0).bind fun y_36 => (D.impl_GrownBy y_36).bind fun y_47 => (D.laws_eqGraph y_47.1 y_23.1).bind fun y_63 => cond ((!y_63) || (y_47.2 != y_23.2)) (some false) ((D.laws_toPruneS x0).bind fun y_80 => (D.laws_eqPruneS y_36 y_80).bind fun y_91 => cond (!y_91) (some false) ((D.laws_markPruneS y_36 1).bind fun y_105 => (cond (decide (y_105.1 < 0)) (some true) ((D.laws_eqGraph y_47.1 y_23.1).bind fun y_145 => some (!y_145))).bind fun b_143 => cond (b_143 || (y_47.2 != y_23.2)) (some false) ((D.laws_markGraph y_47.1 1).bind fun y_162 => (D.laws_heldGraph y_162.2 1).bind fun y_171 => cond (decide (y_171 < 0)) (some false) (cond (y_171 != y_162.1) (some false) ((D.laws_toPruneS x0).bind fun y_183 => (D.impl_GrownBy y_183).bind fun y_194 => (D.laws_eqGraph y_194.1 y_23.1).bind fun y_210 => cond ((!y_210) || (y_194.2 != y_23.2)) (some false) ((D.laws_heldGraph y_162.2 1).bind fun y_227 => cond (decide (y_227 < 0)) (some false) (cond (y_227 != y_162.1) (some false) (some true)))))))))
end Go.Sx

/- A row of own rows of which one is out of it, and comes back. Regions whose order is drawn, beside what they write. -/
namespace Go.Sx
section
variable {W w : World} {G : GH} {H : List Itm}
theorem hole_atom {v : Value} {t1 t2 : TypeId} {rows : List (Value × List Value)} {k i : Nat} {h : Itm} (hi : ((parts v t1 t2 rows).eraseIdx k)[i]? = some h) : h.foot = h.foot0 ∧ ∀ w, h.ok w ↔ h.ok0 w := by
  rw [List.getElem?_eraseIdx] at hi
  split at hi
  · exact parts_atom hi
  · exact parts_atom hi
theorem Mem.hole {v : Value} {t1 t2 : TypeId} {rows : List (Value × List Value)} {k : Nat} : Mem W G w (.hole v t1 t2 rows k :: H) ↔ Mem W G w ((parts v t1 t2 rows).eraseIdx (k + 1) ++ H) := by
  refine Mem.group (fun x => ?_) ?_
  · show x ∈ ((parts v t1 t2 rows).eraseIdx (k + 1)).flatMap Itm.foot0 ↔ _
    rw [List.mem_flatMap]
    constructor
    · rintro ⟨h, hh, hx⟩
      obtain ⟨i, hi, he⟩ := List.getElem_of_mem hh
      have hi' : ((parts v t1 t2 rows).eraseIdx (k + 1))[i]? = some h := by rw [List.getElem?_eq_getElem hi, he]
      exact ⟨i, h, hi', by rw [(hole_atom hi').1]; exact hx⟩
    · rintro ⟨i, h, hi, hx⟩
      exact ⟨h, List.mem_of_getElem? hi, by rw [← (hole_atom hi).1]; exact hx⟩
  · constructor
    · rintro ⟨h1, h2⟩
      exact ⟨fun i h hi => ((hole_atom hi).2 w).2 (h1 i h hi), fun i j a b hij ha hb => by rw [(hole_atom ha).1, (hole_atom hb).1]; exact h2 i j a b hij ha hb⟩
    · rintro ⟨h1, h2⟩
      exact ⟨fun i h hi => ((hole_atom hi).2 w).1 (h1 i h hi), fun i j a b hij ha hb => by rw [← (hole_atom ha).1, ← (hole_atom hb).1]; exact h2 i j a b hij ha hb⟩
end

/-- own rows, of which the one at i is elsewhere -/
def OwH {α : Type} (R : Rep α) (t1 t2 : TypeId) (i : Int) (G : GH) (it : Itm) (v : Value) (xs : List (List α)) : Prop :=
  ∃ rows : List (Value × List Value), it = .hole v t1 t2 rows i.toNat ∧ 0 ≤ i ∧ i.toNat < xs.length ∧ rows.length = xs.length ∧ ∀ (k : Nat) (r : Value × List Value) (x : List α), k ≠ i.toNat → rows[k]? = some r → xs[k]? = some x → All2 (R G) r.2 x

section
variable {α : Type} {R : Rep α} {t1 t2 : TypeId} {W w : World} {G : GH} {it : Itm} {H : List Itm} {v c : Value} {xs : List (List α)} {e : List α} {i : Int}
theorem OwH.mono (hR : Mono R) {G' : GH} (hG : GLe G G') (h : OwH R t1 t2 i G it v xs) : OwH R t1 t2 i G' it v xs := by
  obtain ⟨rows, h1, h2, h3, h4, h5⟩ := h
  exact ⟨rows, h1, h2, h3, h4, fun k r x hk hr hx => (h5 k r x hk hr hx).mono (fun v x => hR G G' v x hG)⟩
/-- one of the rows goes out -/
theorem Ow2.out (h : Ow2 R t1 t2 G it v xs) (m : Mem W G w (it :: H)) (hi : idx xs i = some e) (hc : Head it i c) :
    ∃ it' inn, Mem W G w (it' :: inn :: H) ∧ OwH R t1 t2 i G it' v xs ∧ Ow R t2 G inn c e := by
  obtain ⟨rows, rfl, hl, hA⟩ := h
  obtain ⟨v0, s1, s2, rows0, r, e0, hr, rfl⟩ := hc
  cases e0
  obtain ⟨g0, g1, g2⟩ := idx_some hi
  have hlt : i.toNat < rows.length := by omega
  have m2 := Mem.deep.1 m
  have hpl : i.toNat + 1 < (parts v t1 t2 rows).length := by simp [parts]; omega
  have hp : (parts v t1 t2 rows ++ H)[i.toNat + 1]? = some (inner t2 r) := by
    rw [List.getElem?_append_left hpl]; simp [parts, hr]
  have m3 := m2.front (i.toNat + 1) hp
  rw [eraseIdx_append_left' hpl] at m3
  have m4 : Mem W G w ((parts v t1 t2 rows).eraseIdx (i.toNat + 1) ++ (inner t2 r :: H)) := by
    have hll : (((parts v t1 t2 rows).eraseIdx (i.toNat + 1))).length ≤ ((parts v t1 t2 rows).eraseIdx (i.toNat + 1) ++ H).length := by simp
    have := m3.back _ hll
    rwa [List.take_left, List.drop_left] at this
  have hAr := hA _ r e hr g2
  exact ⟨_, _, Mem.hole.2 m4, ⟨rows, rfl, g0, by omega, hl, fun k r x _ hr hx => hA k r x hr hx⟩, ⟨r.2, by simp [inner, hAr.1], hAr⟩⟩
end

section
variable {P : Program} {ops : Array Oper} {rest : List Oper} {n r : Assn} {x : List (Nat × Assn)} {a : Act} {w W : World} {G : GH} {H : List Itm} {N : Nat} {L : Slots}
variable {d : Nat} {t : TypeId} {pos : String} {af : Array Edge} {α : Type} {R : Rep α} {t1 t2 : TypeId} {xs : List (List α)} {v : Value}

end

end Go.Sx

/- Rows of records: each thing takes some cells, and there is no memory in them. -/
namespace Go.Sx
structure Rec (α : Type) where
  m : Nat
  enc : α → List Value
  len : ∀ x, (enc x).length = m
  pos : 0 < m
  one : ∀ x c, c ∈ enc x → c.oneCell' = true
def P3 : Rec (Int × Int × Int) := ⟨3, fun x => [.int .i64 x.1, .int .i64 x.2.1, .int .i64 x.2.2], fun _ => rfl, by decide, fun x c h => by simp at h; rcases h with rfl | rfl | rfl <;> rfl⟩
section
variable {α : Type} (E : Rec α)
theorem Rec.size (xs : List α) : (xs.flatMap E.enc).length = xs.length * E.m := by
  induction xs with
  | nil => simp
  | cons x xs ih => rw [List.flatMap_cons, List.length_append, ih, E.len, List.length_cons, Nat.succ_mul]; omega
theorem Rec.get : ∀ (xs : List α) (i : Nat) (x : α) (j : Nat) (c : Value), xs[i]? = some x → (E.enc x)[j]? = some c → (xs.flatMap E.enc)[i * E.m + j]? = some c
  | [], i, x, j, c, hx, _ => by simp at hx
  | y :: xs, 0, x, j, c, hx, hc => by
    simp at hx; subst hx
    have hj := (List.getElem?_eq_some_iff.1 hc).1
    rw [List.flatMap_cons, Nat.zero_mul, Nat.zero_add, List.getElem?_append_left hj]; exact hc
  | y :: xs, i + 1, x, j, c, hx, hc => by
    simp at hx
    have ih := Rec.get xs i x j c hx hc
    rw [List.flatMap_cons, List.getElem?_append_right (by rw [E.len, Nat.succ_mul]; omega), E.len, Nat.succ_mul]
    rwa [show i * E.m + E.m + j - E.m = i * E.m + j by omega]
theorem Rec.put : ∀ (xs : List α) (i : Nat) (x y : α) (f : Nat) (ds : List Value), xs[i]? = some x → f + ds.length ≤ E.m → E.enc y = (E.enc x).take f ++ ds ++ (E.enc x).drop (f + ds.length) →
    (xs.flatMap E.enc).take (i * E.m + f) ++ ds ++ (xs.flatMap E.enc).drop (i * E.m + f + ds.length) = (xs.set i y).flatMap E.enc
  | [], i, x, y, f, ds, hx, _, _ => by simp at hx
  | z :: xs, 0, x, y, f, ds, hx, hf, hE => by
    simp at hx; subst hx
    have hl := E.len z
    rw [List.flatMap_cons, Nat.zero_mul, Nat.zero_add, List.set_cons_zero, List.flatMap_cons, hE, List.take_append_of_le_length (by omega), List.drop_append_of_le_length (by omega)]
    simp
  | z :: xs, i + 1, x, y, f, ds, hx, hf, hE => by
    simp at hx
    have ih := Rec.put xs i x y f ds hx hf hE
    have hl := E.len z
    rw [List.flatMap_cons, List.set_cons_succ, List.flatMap_cons, ← ih, Nat.succ_mul]
    have e1 : i * E.m + E.m + f = (E.enc z).length + (i * E.m + f) := by omega
    have e2 : i * E.m + E.m + f + ds.length = (E.enc z).length + (i * E.m + f + ds.length) := by omega
    rw [e1, List.take_length_add_append, ← e1, e2, List.drop_length_add_append]
    simp
end

/-- a slice of records in the sealed part -/
def RSr {α : Type} (E : Rec α) : Rep (List α) := fun G v xs =>
  (v = .slice none 0 0 ∧ xs = []) ∨ ∃ a cap, v = .slice (some a) xs.length cap ∧ xs.length ≤ cap ∧ cap ≤ maxLen ∧
    ∀ (k : Nat) (c : Value), (xs.flatMap E.enc)[k]? = some c → a.spot = Option.none ∧ Cell G a.block (a.off + k) c
section
variable {α : Type} {E : Rec α}
theorem RSr.mono (_ : True) : Mono (RSr E) := by
  rintro G G' v xs hG (h | ⟨a, cap, h1, h2, h3, h4⟩)
  · exact .inl h
  · exact .inr ⟨a, cap, h1, h2, h3, fun k c hc => ⟨(h4 k c hc).1, (h4 k c hc).2.mono hG⟩⟩
theorem RSr.nil (E : Rec α) (G : GH) : RSr E G (.slice none 0 0) [] := .inl ⟨rfl, rfl⟩
theorem RSr.len {G : GH} {v : Value} {xs : List α} (h : RSr E G v xs) : ∃ a c, v = .slice a xs.length c ∧ xs.length ≤ c ∧ c ≤ maxLen := by
  rcases h with ⟨rfl, rfl⟩ | ⟨a, cap, rfl, h1, h2, _⟩
  · exact ⟨none, 0, rfl, by simp, by simp [maxLen]⟩
  · exact ⟨_, cap, rfl, h1, h2⟩
theorem RSr.le {G : GH} {v : Value} {xs : List α} (h : RSr E G v xs) : (xs.length : Int) ≤ 9223372036854775807 := by
  obtain ⟨a, c, _, h1, h2⟩ := h.len
  have : maxLen ≤ 9223372036854775807 := by unfold maxLen; omega
  omega
theorem RSr.cells {G : GH} {v : Value} {xs : List α} (h : RSr E G v xs) : v.cells = #[v] := by obtain ⟨a, c, rfl, _⟩ := h.len; rfl
theorem RSr.one1 {G : GH} {v : Value} {xs : List α} (h : RSr E G v xs) : v.oneCell' = true := by obtain ⟨a, c, rfl, _⟩ := h.len; rfl

/-- the place of a record that is read -/
def AtR (E : Rec α) (G : GH) (p : Value) (x : α) : Prop := ∃ b o, p = .pointer (some ⟨b, o, none⟩) ∧ ∀ (j : Nat) (c : Value), (E.enc x)[j]? = some c → Cell G b (o + j) c
theorem AtR.mono {G G' : GH} (h : GLe G G') {p : Value} {x : α} (k : AtR E G p x) : AtR E G' p x := by
  obtain ⟨b, o, e, hc⟩ := k
  exact ⟨b, o, e, fun j c hj => (hc j c hj).mono h⟩
theorem RSr.at {G : GH} {v : Value} {xs : List α} (h : RSr E G v xs) {i : Int} {x : α} (he : idx xs i = some x) :
    ∃ b off n c, v = .slice (some ⟨b, off, none⟩) n c ∧ 0 ≤ i ∧ i < n ∧ ∀ (j : Nat) (c : Value), (E.enc x)[j]? = some c → Cell G b (off + i.toNat * E.m + j) c := by
  obtain ⟨h0, h1, h2⟩ := idx_some he
  rcases h with ⟨_, rfl⟩ | ⟨⟨b, off, sp⟩, cap, rfl, _, _, h4⟩
  · simp at h2
  · have hl0 : 0 < (E.enc x).length := by rw [E.len]; exact E.pos
    have hs := (h4 _ _ (E.get xs _ x 0 (E.enc x)[0] h2 (by simp [hl0]))).1
    dsimp only at hs h4
    subst hs
    refine ⟨b, off, _, cap, rfl, h0, h1, fun j c hc => ?_⟩
    rw [Nat.add_assoc]
    exact (h4 _ c (E.get xs _ x j c h2 hc)).2

/-- an owned slice of records -/
def OwR (E : Rec α) (t : TypeId) (_ : GH) (it : Itm) (v : Value) (xs : List α) : Prop := it = .row v t E.m xs.length (xs.flatMap E.enc)
theorem OwR.mono (_ : True) {t : TypeId} {G G' : GH} {it : Itm} {v : Value} {xs : List α} (_ : GLe G G') (h : OwR E t G it v xs) : OwR E t G' it v xs := h
theorem OwR.free (_ : True) {t : TypeId} {G : GH} (G' : GH) {it : Itm} {v : Value} {xs : List α} (h : OwR E t G it v xs) : OwR E t G' it v xs := h
theorem OwR.has {t : TypeId} {W w : World} {G G' : GH} {it : Itm} {H : List Itm} {v : Value} {xs : List α} (h : OwR E t G it v xs) (m : Mem W G' w H) {j : Nat} (hj : H[j]? = some it) : w.ownsRow 0 t E.m v xs.length (xs.flatMap E.enc) := by
  subst h; exact m.items j _ hj
theorem OwR.len {t : TypeId} {W w : World} {G G' : GH} {it : Itm} {H : List Itm} {v : Value} {xs : List α} (h : OwR E t G it v xs) (m : Mem W G' w H) {j : Nat} (hj : H[j]? = some it) :
    ∃ a c, v = .slice a xs.length c ∧ xs.length ≤ c ∧ c ≤ maxLen := by
  rcases (h.has m hj).2 with ⟨h1, h2⟩ | ⟨g, cap, cur, h1, _, _, h2, h3, _⟩
  · exact ⟨none, 0, by rw [h1, h2], by omega, by simp [maxLen]⟩
  · exact ⟨_, cap, h1, h2, h3⟩
theorem OwR.cells {t : TypeId} {W w : World} {G : GH} {it : Itm} {H : List Itm} {v : Value} {xs : List α} (j : Nat) (m : Mem W G w H) (h : OwR E t G it v xs) (hj : H[j]? = some it) : v.cells = #[v] := by
  obtain ⟨a, c, rfl, _⟩ := h.len m hj; rfl
theorem OwR.one1 {t : TypeId} {W w : World} {G : GH} {it : Itm} {H : List Itm} {v : Value} {xs : List α} (j : Nat) (m : Mem W G w H) (h : OwR E t G it v xs) (hj : H[j]? = some it) : v.oneCell' = true := by
  obtain ⟨a, c, rfl, _⟩ := h.len m hj; rfl
theorem OwR.nil (E : Rec α) (t : TypeId) {W w : World} {G : GH} {H : List Itm} (m : Mem W G w H) : ∃ it, Mem W G w (it :: H) ∧ OwR E t G it (.slice none 0 0) [] :=
  ⟨_, m.nilrow t E.m, by simp [OwR]⟩
/-- what is owned reads, once it is sealed -/
theorem OwR.reads {t : TypeId} {w : World} {G' : GH} {it : Itm} {v : Value} {xs : List α} (h : it = .row v t E.m xs.length (xs.flatMap E.enc)) (hok : it.ok w) (hG : ∀ x ∈ it.foot, G' x = w.heap[x]?) : RSr E G' v xs := by
  subst h
  have this : w.ownsRow 0 t E.m v xs.length (xs.flatMap E.enc) := hok
  rcases this.2 with ⟨e1, e2⟩ | ⟨g, cap, cur, e1, _, eh, e2, e3, e4, e5⟩
  · exact .inl ⟨e1, List.eq_nil_of_length_eq_zero e2⟩
  · refine .inr ⟨⟨g, 0, none⟩, cap, e1, e2, e3, fun k c hc => ⟨rfl, cur, t, (0, 0), ?_, ?_⟩⟩
    · rw [hG g (by rw [e1]; simp [Itm.foot, Value.ownBlock]), eh]
    · rw [← e5, List.getElem?_take] at hc
      split at hc
      · simpa using hc
      · cases hc
theorem OwR.stamp (_ : True) {t : TypeId} {W w : World} {G : GH} {it : Itm} {H : List Itm} {v : Value} {xs : List α} (h : OwR E t G it v xs) (m : Mem W G w (it :: H)) :
    ∃ G', GLe G G' ∧ Mem W G' w H ∧ RSr E G' v xs := by
  obtain ⟨G', h1, h2, h3, _⟩ := m.stamp
  exact ⟨G', h1, h2, OwR.reads h (m.items 0 it (by simp)) h3⟩
theorem OwR.lend {t : TypeId} {W w : World} {G : GH} {it : Itm} {H : List Itm} {v : Value} {xs : List α} (h : OwR E t G it v xs) (m : Mem W G w (it :: H)) :
    ∃ G', GLe G G' ∧ Mem W G' w H ∧ RSr E G' v xs ∧
      ∀ G'' w' H', GLe G' G'' → Mem W G'' w' H' → ∃ G₃, GLe G G₃ ∧ Mem W G₃ w' (it :: H') ∧ OwR E t G₃ it v xs := by
  obtain ⟨G', h1, h2, h3, h4⟩ := m.stamp
  have hok : it.ok w := m.items 0 it (by simp)
  have hap : ∀ x ∈ it.foot, G x = none := m.apart 0 it (by simp)
  have hlt := Itm.lt hok
  refine ⟨G', h1, h2, OwR.reads h hok h3, fun G'' w' H' hle m' => ?_⟩
  have hx : ∀ x ∈ it.foot, G'' x = w.heap[x]? := fun x hx => by
    have hl := hlt x hx
    have : G' x = some w.heap[x] := by rw [h3 x hx]; simp [hl]
    rw [hle x _ this]; simp [hl]
  refine ⟨_, fun b o k => ?_, m'.unstamp hx hok (fun i z hz x hxz hxi => ?_) (fun x hxi => ?_), h⟩
  · have : b ∉ it.foot := fun hx => by rw [hap b hx] at k; cases k
    simp [this, hle b o (h1 b o k)]
  · have h5 := m'.apart i z hz x hxz
    have hl := hlt x hxi
    rw [hx x hxi] at h5
    simp [hl] at h5
  · cases hg : W.heap[x]? with
    | none => rfl
    | some o => have h5 := m.base x o hg; rw [hap x hxi] at h5; cases h5
theorem OwR.lendCall {P : Program} {g : FuncId} {args : Array Value} (_ : True) {t : TypeId} {W w : World} {G : GH} {it : Itm} {H : List Itm} {v : Value} {xs : List α} {Q : GH → List Itm → Value → Prop} (j : Nat)
    (h : OwR E t G it v xs) (m : Mem W G w H) (hj : H[j]? = some it)
    (hc : ∀ G₁, GLe G G₁ → Mem W G₁ w (H.eraseIdx j) → RSr E G₁ v xs → Calls P g args w (Res W G₁ (H.eraseIdx j) Q)) (hQ : ∀ G G' Ho v, Q G Ho v → Q G' Ho v) : Calls P g args w (Res W G H Q) := by
  obtain ⟨G₁, h1, m1, h2, back⟩ := h.lend (m.front j hj)
  refine (hc G₁ h1 m1 h2).mono fun e w' ⟨r, he, G₂, Ho, h3, m2, hq⟩ => ?_
  obtain ⟨G₃, h4, m3, _⟩ := back G₂ w' _ h3 m2
  refine ⟨r, he, G₃, Ho, h4, ?_, hQ _ _ _ _ hq⟩
  have hl : j < H.length := (List.getElem?_eq_some_iff.1 hj).1
  have m4 := m3.back (Ho.length + j) (by simp [List.length_eraseIdx, hl]; omega)
  have e : (Ho ++ H.eraseIdx j).take (Ho.length + j) ++ it :: (Ho ++ H.eraseIdx j).drop (Ho.length + j) = Ho ++ H := by
    rw [List.take_length_add_append, List.drop_length_add_append, List.append_assoc]
    congr 1
    rw [set_eq_erase H j it hl]
    apply List.ext_getElem?
    intro k
    rw [List.getElem?_set]
    split
    · rename_i e; subst e; simp [hl] at hj ⊢; exact hj.symm
    · rfl
  rwa [e] at m4
end

/-- the place of an owned record, or of a part of it -/
def OwnAtR (mm : Nat) (v p : Value) (i : Int) (f : Nat) : Prop := ∃ b n c, v = .slice (some ⟨b, 0, none⟩) n c ∧ p = .pointer (some ⟨b, i.toNat * mm + f, none⟩)

section
variable {P : Program} {ops : Array Oper} {rest : List Oper} {n r : Assn} {x : List (Nat × Assn)} {a : Act} {w : World} {N : Nat} {L : Slots}
variable {d : Nat} {t : TypeId} {pos : String} {af : Array Edge} {W : World} {G : GH} {H : List Itm} {α : Type} {E : Rec α}

theorem l_lenR {v : Value} {xs : List α} {u e : Nat} {xo : Operand} (hu : P.underlying u = some (.slice e)) (f : Fr a N L) (hN : Nat.blt d N = true) (hx : evalL L xo = some v) (h : RSr E G v xs)
    (q : ∀ a', Fr a' N ((d, .int .i64 (xs.length : Int)) :: L) → wpList P ops (Qk n x r) rest a' w) :
    wpList P ops (Qk n x r) (⟨some d, .call { callee := .builtin .len, args := #[xo], argTypes := #[u] }, t, pos, af, none⟩ :: rest) a w := by
  obtain ⟨b, c, rfl, _⟩ := h.len
  exact l_op f rfl rfl hN (r_len (f.eval hx) hu) q
theorem l_ownR_len {tt : TypeId} {it : Itm} {v : Value} {xs : List α} {u e : Nat} {xo : Operand} (j : Nat) (m : Mem W G w H) (h : OwR E tt G it v xs) (hj : H[j]? = some it)
    (hu : P.underlying u = some (.slice e)) (f : Fr a N L) (hN : Nat.blt d N = true) (hx : evalL L xo = some v)
    (q : ∀ a', Fr a' N ((d, .int .i64 (xs.length : Int)) :: L) → wpList P ops (Qk n x r) rest a' w) :
    wpList P ops (Qk n x r) (⟨some d, .call { callee := .builtin .len, args := #[xo], argTypes := #[u] }, t, pos, af, none⟩ :: rest) a w := by
  obtain ⟨b, c, rfl, _⟩ := h.len m hj
  exact l_op f rfl rfl hN (r_len (f.eval hx) hu) q
theorem l_atR {v : Value} {xs : List α} {u e bytes : Nat} {z : Value} {xo io : Operand} {k : IntKind} {i : Int} {e' : α}
    (hu : SlT P u e E.m bytes z) (f : Fr a N L) (hN : Nat.blt d N = true) (hx : evalL L xo = some v) (hi : evalL L io = some (.int k i)) (h : RSr E G v xs) (he : idx xs i = some e')
    (q : ∀ p a', AtR E G p e' → Fr a' N ((d, p) :: L) → wpList P ops (Qk n x r) rest a' w) :
    wpList P ops (Qk n x r) (⟨some d, .indexAddr u xo io, t, pos, af, none⟩ :: rest) a w := by
  obtain ⟨b, off, m, c, rfl, h0, h1, hc⟩ := h.at he
  refine l_op f rfl rfl hN (r_indexAddr (f.eval hx) (f.eval hi) hu h0 h1) fun a' f' => ?_
  exact q _ a' ⟨b, off + i.toNat * E.m, addr_add b off _ ▸ rfl, hc⟩ f'
theorem AtR.cell {p : Value} {y : α} (h : AtR E G p y) {fo : Nat} {c : Value} (hc : (E.enc y)[fo]? = some c) : ∃ b o, p = .pointer (some ⟨b, o, none⟩) ∧ Cell G b (o + fo) c := by
  obtain ⟨b, o, e, hh⟩ := h
  exact ⟨b, o, e, hh fo c hc⟩
theorem l_loadR {u : TypeId} {xo : Operand} {p : Value} {y : α} (cs : List Value) (m : Mem W G w H) (hp : Agg P u E.m) (f : Fr a N L) (hN : Nat.blt d N = true) (hx : evalL L xo = some p) (h : AtR E G p y) (hcs : E.enc y = cs)
    (q : ∀ a', Fr a' N ((d, .agg cs.toArray) :: L) → wpList P ops (Qk n x r) rest a' w) :
    wpList P ops (Qk n x r) (⟨some d, .load u xo, t, pos, af, none⟩ :: rest) a w := by
  subst hcs
  obtain ⟨b, o, rfl, hc⟩ := h
  exact l_op f rfl rfl hN (r_loadAgg (f.eval hx) hp (E.len y) (fun j c hj => by rw [addr_add]; exact (hc j c hj).get m)) q
theorem l_fieldR {s fi : Nat} {fs : Array Field} {fl : Field} {sz : Nat} {xo : Operand} {p c : Value} {y : α} (hs : P.underlying s = some (.struct fs)) (hf : fs[fi]? = some fl)
    (hz : ∀ w, (sizeOf fl.type).run P w = .ok sz w) (hz0 : sz ≠ 0) (f : Fr a N L) (hN : Nat.blt d N = true) (hx : evalL L xo = some p) (h : AtR E G p y) (hc : (E.enc y)[fl.offset]? = some c)
    (q : ∀ p' a', At G p' c → Fr a' N ((d, p') :: L) → wpList P ops (Qk n x r) rest a' w) :
    wpList P ops (Qk n x r) (⟨some d, .fieldAddr s xo fi, t, pos, af, none⟩ :: rest) a w := by
  obtain ⟨b, o, rfl, hh⟩ := h.cell hc
  refine l_op f rfl rfl hN (r_fieldAddr (f.eval hx) hs hf hz hz0) fun a' f' => ?_
  exact q _ a' ⟨b, o + fl.offset, by rw [addr_add], hh⟩ f'
theorem l_ownR_at {tt : TypeId} {it : Itm} {v : Value} {xs : List α} {u e bytes : Nat} {z : Value} {xo io : Operand} {k : IntKind} {i : Int} {y : α} (j : Nat) (m : Mem W G w H) (h : OwR E tt G it v xs) (hj : H[j]? = some it)
    (hu : SlT P u e E.m bytes z) (f : Fr a N L) (hN : Nat.blt d N = true) (hx : evalL L xo = some v) (hi : evalL L io = some (.int k i)) (he : idx xs i = some y)
    (q : ∀ p a', OwnAtR E.m v p i 0 → Fr a' N ((d, p) :: L) → wpList P ops (Qk n x r) rest a' w) :
    wpList P ops (Qk n x r) (⟨some d, .indexAddr u xo io, t, pos, af, none⟩ :: rest) a w := by
  obtain ⟨g0, g1, _⟩ := idx_some he
  rcases (h.has m hj).2 with ⟨_, e2⟩ | ⟨g, cap, cur, e1, _⟩
  · omega
  · subst e1
    refine l_op f rfl rfl hN (r_indexAddr (f.eval hx) (f.eval hi) hu g0 g1) fun a' f' => ?_
    exact q _ a' ⟨g, _, cap, rfl, by rw [addr_add, Nat.zero_add]; rfl⟩ f'
theorem l_ownR_field {mm : Nat} {v p : Value} {i : Int} {s fi : Nat} {fs : Array Field} {fl : Field} {sz : Nat} {xo : Operand} (hs : P.underlying s = some (.struct fs)) (hf : fs[fi]? = some fl)
    (hz : ∀ w, (sizeOf fl.type).run P w = .ok sz w) (hz0 : sz ≠ 0) (f : Fr a N L) (hN : Nat.blt d N = true) (hx : evalL L xo = some p) (h : OwnAtR mm v p i 0)
    (q : ∀ p' a', OwnAtR mm v p' i fl.offset → Fr a' N ((d, p') :: L) → wpList P ops (Qk n x r) rest a' w) :
    wpList P ops (Qk n x r) (⟨some d, .fieldAddr s xo fi, t, pos, af, none⟩ :: rest) a w := by
  obtain ⟨b, k, c, rfl, rfl⟩ := h
  refine l_op f rfl rfl hN (r_fieldAddr (f.eval hx) hs hf hz hz0) fun a' f' => ?_
  exact q _ a' ⟨b, k, c, rfl, by rw [addr_add]; rfl⟩ f'
theorem l_ownR_store {tt : TypeId} {it : Itm} {v p c : Value} {xs : List α} {u : Nat} {xo yo : Operand} {i : Int} {y y' : α} {fo : Nat} (ds : List Value) (j : Nat) (m : Mem W G w H) (h : OwR E tt G it v xs) (hj : H[j]? = some it)
    (hz : ∀ w, (sizeOf u).run P w = .ok ds.length w) (f : Fr a N L) (hx : evalL L xo = some p) (hy : evalL L yo = some c) (ha : OwnAtR E.m v p i fo) (he : idx xs i = some y) (hc : c.cells = ds.toArray) (h1c : ∀ c ∈ ds, c.oneCell' = true)
    (hl : fo + ds.length ≤ E.m) (hE : E.enc y' = (E.enc y).take fo ++ ds ++ (E.enc y).drop (fo + ds.length))
    (q : ∀ it' w', Mem W G w' (H.set j it') → OwR E tt G it' v (xs.set i.toNat y') → wpList P ops (Qk n x r) rest a w') :
    wpList P ops (Qk n x r) (⟨none, .store u xo yo, t, pos, af, none⟩ :: rest) a w := by
  obtain ⟨b, mm, cc, e1, rfl⟩ := ha
  obtain ⟨g0, g1, g2⟩ := idx_some he
  have hh := h.has m hj
  rcases hh.2 with ⟨_, e2⟩ | ⟨g, cap, cur, e1', _, hg, h2, h3, h4, h5⟩
  · omega
  · rw [e1'] at e1
    cases e1
    have hsz : xs.length * E.m ≤ cc * E.m := Nat.mul_le_mul_right _ h2
    have hin : i.toNat * E.m + E.m ≤ xs.length * E.m := by
      have : (i.toNat + 1) * E.m ≤ xs.length * E.m := Nat.mul_le_mul_right _ (by omega)
      rw [Nat.succ_mul] at this; exact this
    have hr := r_store (P := P) (ρ := a.eval) (w := w) (d := none) (t := t) (pos := pos) (af := af) (gd := none) (u := u) (off := i.toNat * E.m + fo) (f.eval hx) (f.eval hy) (by rw [hc]; exact hz) hg (by rw [hc]; simp; omega) (by rw [hc]; simpa using h1c)
    refine l_void rfl rfl hr ?_
    rw [hc]
    simp only [List.size_toArray]
    have hput := E.put xs i.toNat y y' fo ds g2 hl hE
    have hcut : (cur.toList.take (i.toNat * E.m + fo) ++ ds ++ cur.toList.drop (i.toNat * E.m + fo + ds.length)).take (xs.length * E.m) = (xs.set i.toNat y').flatMap E.enc := by
      rw [← hput, ← h5]
      have hA : cur.toList.length = cc * E.m := by simpa using h4
      have ho : i.toNat * E.m + fo + ds.length ≤ xs.length * E.m := by omega
      have hKA : xs.length * E.m ≤ cur.toList.length := by omega
      clear hput hr hin hsz
      generalize xs.length * E.m = K at ho hKA ⊢
      generalize i.toNat * E.m + fo = o at ho ⊢
      generalize cur.toList = A at hKA ⊢
      apply List.ext_getElem?
      intro k
      simp only [List.getElem?_take, List.getElem?_append, List.length_append, List.length_take, List.getElem?_drop]
      have h6 : min o A.length = o := by omega
      have h7 : min o (min K A.length) = o := by omega
      rw [h6, h7]
      by_cases hk : k < K
      · rw [if_pos hk]
        by_cases c1 : k < o + ds.length
        · rw [if_pos c1, if_pos c1]
          by_cases c2 : k < o
          · rw [if_pos c2, if_pos c2, if_pos c2, if_pos c2, if_pos hk]
          · rw [if_neg c2, if_neg c2]
        · rw [if_neg c1, if_neg c1]
          rw [if_pos (show o + ds.length + (k - (o + ds.length)) < K by omega)]
      · rw [if_neg hk]
        rw [if_neg (show ¬ k < o + ds.length by omega)]
        rw [if_neg (show ¬ o + ds.length + (k - (o + ds.length)) < K by omega)]
    refine q (.row v tt E.m (xs.set i.toNat y').length ((xs.set i.toNat y').flatMap E.enc)) _ (m.changeAt j hj rfl rfl rfl (fun z _ hz' => setRow_other w b z _ (by subst h; simpa [Itm.foot, e1', Value.ownBlock] using hz')) ⟨by rw [E.size], .inr ⟨b, cc, _, by rw [e1']; simp, Nat.zero_le _, setRow_heap w b cur _ tt _ hg, by simpa using h2, h3, ?_, ?_⟩⟩ (fun z hz' => .inl (by subst h; exact hz'))) rfl
    · simp only [List.size_toArray, List.length_append, List.length_take, List.length_drop, Array.length_toList, h4]
      omega
    · rw [List.length_set]; exact hcut
theorem l_makeR {tt u bytes : Nat} {z : Value} {zz : α} {k1 k2 : IntKind} {nn cc : Int} {zs : List α} {lo co : Operand} (m : Mem W G w H)
    (hu : SlT P u tt E.m bytes z) (hzc : z.cells = (E.enc zz).toArray) (hb : bytes ≤ 32768) (f : Fr a N L) (hN : Nat.blt d N = true) (hs : evalL L lo = some (.int k1 nn)) (hx : evalL L co = some (.int k2 cc))
    (hz : makeD zz nn cc = some zs)
    (k : ∀ it v w' a', Mem W G w' (it :: H) → OwR E tt G it v zs → Fr a' N ((d, v) :: L) → wpList P ops (Qk n x r) rest a' w') :
    wpList P ops (Qk n x r) (⟨some d, .makeSlice u lo co, t, pos, af, none⟩ :: rest) a w := by
  unfold makeD at hz
  split at hz
  · rename_i hc
    obtain ⟨h0, h1, h2⟩ := hc
    cases hz
    obtain ⟨ti, hi1, hi2, hi3, hi4⟩ := hu.info
    have hr := run_make (P := P) w u tt ti z hu.und hi1 hi4 k1 k2 nn cc h0 h1 (by
      rw [hi3]
      have : (bytes : Int) * cc ≤ 32768 * 4294967296 := Int.mul_le_mul (by omega) h2 (by omega) (by omega)
      omega) (by omega)
    have hpos := E.pos
    have hlen := E.len zz
    have hget : ∀ (q : Nat) (y : Nat), y < q * E.m → ((List.replicate q zz).flatMap E.enc)[y]? = (E.enc zz)[y % E.m]? := fun q y hy => by
      have hlt : y / E.m < q := Nat.div_lt_of_lt_mul (by rw [Nat.mul_comm]; exact hy)
      have hm : y % E.m < (E.enc zz).length := by rw [hlen]; exact Nat.mod_lt _ hpos
      have := E.get (List.replicate q zz) (y / E.m) zz (y % E.m) (E.enc zz)[y % E.m] (by simp [hlt]) (by simp [hm])
      rw [show y / E.m * E.m + y % E.m = y by rw [Nat.mul_comm]; exact Nat.div_add_mod _ _] at this
      rw [this]; simp [hm]
    have hcells : madeCells z.cells (cc.toNat * ti.size) = ((List.replicate cc.toNat zz).flatMap E.enc).toArray := by
      rw [hzc, hi2]
      apply Array.ext
      · simp [madeCells, E.size]
      · intro i h1 h2
        have hi : i < cc.toNat * E.m := by simpa [madeCells] using h1
        have hm : i % E.m < (E.enc zz).length := by rw [hlen]; exact Nat.mod_lt _ hpos
        have e := hget cc.toNat i hi
        rw [List.getElem?_eq_getElem hm] at e
        have e3 : ((List.replicate cc.toNat zz).flatMap E.enc)[i]'(by simpa using h2) = (E.enc zz)[i % E.m] := by
          have := (List.getElem?_eq_some_iff.1 e).2
          exact this
        simp only [madeCells, Array.getElem_map, Array.getElem_range, List.size_toArray, hlen, List.getElem_toArray, e3]
        simp [hm]
    rw [hcells] at hr
    refine l_op f rfl rfl hN (r_make (f.eval hs) (f.eval hx) hr) (fun a' f' => k (.row (.slice (some ⟨w.heap.size, 0, none⟩) nn.toNat cc.toNat) tt E.m (List.replicate nn.toNat zz).length ((List.replicate nn.toNat zz).flatMap E.enc)) _ _ a' ?_ rfl f')
    refine m.add rfl rfl rfl (fun q hq => by first | exact heap_alloc_old w _ q hq | exact heap_alloc_old w _ hq) ⟨by rw [E.size], .inr ⟨w.heap.size, cc.toNat, _, by simp, Nat.zero_le _, heap_alloc_new w _, by simp; omega, by simp only [maxLen]; omega, by simp [E.size], ?_⟩⟩ (fun q hq => by simp [Itm.foot, Value.ownBlock] at hq; omega)
    obtain ⟨p, hp⟩ : ∃ p, cc.toNat = nn.toNat + p := ⟨cc.toNat - nn.toNat, by omega⟩
    rw [hp, ← List.replicate_append_replicate, List.flatMap_append]
    simp only [List.length_replicate]
    exact List.take_left' (by rw [E.size]; simp)
  · cases hz
end

section
variable {P : Program} {ops : Array Oper} {nn r : Assn} {x : List (Nat × Assn)} {T : Act → World → Prop} {W : World} {G : GH} {E H : List Itm} {N : Nat} {L : Slots} {a : Act} {fuel : Nat} {listed listed' : Array Bool}
variable {t : TypeId} {pos : String} {af : Array Edge} {gd : Option (Nat × Bool)} {d i : Nat} {α : Type} {C : Rec α}

theorem q_atR {v : Value} {xs : List α} {u e bytes : Nat} {z : Value} {xo io : Operand} {k0 : IntKind} {j : Int} {e' : α} (n : Nat) (hu : SlT P u e C.m bytes z) (h : RSr C G v xs) (he : idx xs j = some e')
    (hi : ops[i]? = some ⟨some d, .indexAddr u xo io, t, pos, af, gd⟩) (hck : takeB ops n fuel listed i = true) (hl : listed.setIfInBounds i true = listed') (f : Fr a N L)
    (hw : Region.wanted ⟨some d, .indexAddr u xo io, t, pos, af, gd⟩ (yielded ops a.tmps) = true) (hN : Nat.blt d N = true) (hx : evalL L xo = some v) (hio : evalL L io = some (.int k0 j))
    (k : ∀ p a', AtR C G p e' → Fr a' N ((d, p) :: L) → AnyB W P ops (Qk nn x r) T H fuel G E listed' a') : AnyB W P ops (Qk nn x r) T H (fuel + 1) G E listed a := by
  obtain ⟨b, off, m, c, rfl, h0, h1, hc⟩ := h.at he
  refine q_op n hi hck hl f hw rfl hN (fun _ _ _ _ _ => r_indexAddr (f.eval hx) (f.eval hio) hu h0 h1) fun a' f' => ?_
  exact k _ a' ⟨b, off + j.toNat * C.m, addr_add b off _ ▸ rfl, hc⟩ f'
theorem q_loadR {u : TypeId} {xo : Operand} {p : Value} {y : α} (cs : List Value) (n : Nat) (hp : Agg P u C.m) (h : AtR C G p y) (hcs : C.enc y = cs)
    (hi : ops[i]? = some ⟨some d, .load u xo, t, pos, af, gd⟩) (hck : takeB ops n fuel listed i = true) (hl : listed.setIfInBounds i true = listed') (f : Fr a N L)
    (hw : Region.wanted ⟨some d, .load u xo, t, pos, af, gd⟩ (yielded ops a.tmps) = true) (hN : Nat.blt d N = true) (hx : evalL L xo = some p)
    (k : ∀ a', Fr a' N ((d, .agg cs.toArray) :: L) → AnyB W P ops (Qk nn x r) T H fuel G E listed' a') : AnyB W P ops (Qk nn x r) T H (fuel + 1) G E listed a := by
  subst hcs
  obtain ⟨b, o, rfl, hc⟩ := h
  exact q_op n hi hck hl f hw rfl hN (fun _ _ _ hG m => r_loadAgg (f.eval hx) hp (C.len y) (fun j c hj => by rw [addr_add]; exact ((hc j c hj).mono hG).get m)) k
theorem q_fieldR {s fi : Nat} {fs : Array Field} {fl : Field} {sz : Nat} {xo : Operand} {p c : Value} {y : α} (n : Nat) (hs : P.underlying s = some (.struct fs)) (hf : fs[fi]? = some fl)
    (hz : ∀ w, (sizeOf fl.type).run P w = .ok sz w) (hz0 : sz ≠ 0) (h : AtR C G p y) (hc : (C.enc y)[fl.offset]? = some c)
    (hi : ops[i]? = some ⟨some d, .fieldAddr s xo fi, t, pos, af, gd⟩) (hck : takeB ops n fuel listed i = true) (hl : listed.setIfInBounds i true = listed') (f : Fr a N L)
    (hw : Region.wanted ⟨some d, .fieldAddr s xo fi, t, pos, af, gd⟩ (yielded ops a.tmps) = true) (hN : Nat.blt d N = true) (hx : evalL L xo = some p)
    (k : ∀ p' a', At G p' c → Fr a' N ((d, p') :: L) → AnyB W P ops (Qk nn x r) T H fuel G E listed' a') : AnyB W P ops (Qk nn x r) T H (fuel + 1) G E listed a := by
  obtain ⟨b, o, rfl, hh⟩ := h.cell hc
  refine q_op n hi hck hl f hw rfl hN (fun _ _ _ _ _ => r_fieldAddr (f.eval hx) hs hf hz hz0) fun a' f' => ?_
  exact k _ a' ⟨b, o + fl.offset, by rw [addr_add], hh⟩ f'
end
end Go.Sx

namespace Go.Sx


end Go.Sx

namespace Go.Sx


end Go.Sx

namespace Go.Sx


end Go.Sx

namespace Go.Sx


end Go.Sx

namespace Go.Proofs
open Go.Shelf
def Tryd.lays125_ren : Go.Shelf.Ren := ⟨fun | 125 => 129 | 128 => 141 | 129 => 142 | n => n, fun | 46 => 111 | 3 => 3 | 51 => 65 | 53 => 26 | 4 => 4 | 5 => 5 | 9 => 9 | n => n, fun | n => n⟩
theorem Tryd.lays125 : Go.Proofs.Lays.n125 Tryd.prog Tryd.lays125_ren := {
  mixed := by kernel_rfl
  f125 := Tryd.func129.trans (congrArg some (by kernel_rfl))
  f128 := Tryd.func141.trans (congrArg some (by kernel_rfl))
  f129 := Tryd.func142.trans (congrArg some (by kernel_rfl))
  t3 := Tryd.underlying3
  a3 := Tryd.isAgg3
  z3 := Tryd.sizeOf3
  v3 := Tryd.zeroValue3
  t4 := Tryd.underlying4
  a4 := Tryd.isAgg4
  z4 := Tryd.sizeOf4
  v4 := Tryd.zeroValue4
  t5 := Tryd.underlying5
  a5 := Tryd.isAgg5
  z5 := Tryd.sizeOf5
  v5 := Tryd.zeroValue5
  t9 := Tryd.underlying9
  a9 := Tryd.isAgg9
  z9 := Tryd.sizeOf9
  v9 := Tryd.zeroValue9
  t46 := Tryd.underlying111
  a46 := Tryd.isAgg111
  z46 := Tryd.sizeOf111
  v46 := Tryd.zeroValue111
  t51 := Tryd.underlying65
  a51 := Tryd.isAgg65
  z51 := Tryd.sizeOf65
  v51 := Tryd.zeroValue65
  t53 := Tryd.underlying26
  a53 := Tryd.isAgg26
  z53 := Tryd.sizeOf26
  v53 := Tryd.zeroValue26 }
theorem Tryd.bits_Len (x : Int) (w : World) (h0 : 0 ≤ x) (h1 : x ≤ 18446744073709551615) :
    Calls Tryd.prog 129 #[.int .u64 x] w fun e w' => e = .returned (.int .i64 (Lib.bitLen x.toNat)) ∧ w' = w := Any.bits_Len Tryd.lays125 x w h0 h1
end Go.Proofs
namespace Go.Proofs.YtehnblgkgaakeaaDoor
open Go Go.Sx
theorem Wk.math_bits_Len {W w : World} {G : GH} {H : List Itm} {x0 : Int} (m : Mem W G w H) {y : Int} (hd : D.math_bits_Len x0 = some y) :
    Calls Tryd.prog 129 #[(.int .u64 x0)] w (Res W G H (fun _ Ho v => Ho = [] ∧ v = (.int .i64 y))) := by
  unfold D.math_bits_Len at hd
  split at hd
  · rename_i h
    obtain rfl := Option.some.inj hd
    exact (Tryd.bits_Len x0 w h.1 h.2).mono (fun e w' ⟨he, hw⟩ => by subst hw; exact ⟨_, he, G, [], GLe.refl G, m, rfl, rfl⟩)
  · cases hd
end Go.Proofs.YtehnblgkgaakeaaDoor

namespace Go.Proofs
open Go.RowKit Go.Shelf
attribute [local go_sem] Oper.semAt_some
namespace YtehnblgkgaakeaaDoor

def upto {α : Type} (f : Nat → α) (k : Nat) : List α := (List.range k).map f
theorem upto_succ {α : Type} (f : Nat → α) (k : Nat) : upto f (k + 1) = upto f k ++ [f k] := by simp [upto, List.range_succ]
theorem upto_length {α : Type} (f : Nat → α) (k : Nat) : (upto f k).length = k := by simp [upto]
theorem upto_all (zs : List Int) : upto (fun j => zs[j]?.getD 0) zs.length = zs := by
  apply List.ext_getElem
  · simp [upto]
  · intro i h1 h2
    simp [upto, h2]
theorem upto_take (zs : List Int) {k : Nat} (hk : k ≤ zs.length) : upto (fun j => zs[j]?.getD 0) k = zs.take k := by
  apply List.ext_getElem
  · simp [upto, hk]
  · intro i h1 h2
    have : i < zs.length := by simp [upto] at h1; omega
    simp [upto, this]

set_option maxRecDepth 100000 in
set_option maxHeartbeats 2000000 in
theorem values1_in (F : Fence) (n : Nat) (h7 : F.fn 112) (hro : F.round = none) (hn : 1 ≤ n) (l Bs n₀ b off len cap : Nat) (zs : List Int) (hreach : len * 8 ≤ 140737488351232) (hb : len = 0 ∨ b < n₀) (J Jx : List Int → World → Prop)
    (hY : ∀ pre x W, J pre W → pre.length < len → YieldAt F (n - 1) Tryd.prog l #[.int .i64 x] W fun e W' =>
      (e = .returned (.bool true) ∧ J (pre ++ [x]) W' ∧ Below n₀ W W') ∨ (e = .returned (.bool false) ∧ Jx (pre ++ [x]) W'))
    (W : World) (hBs : W.cell? ⟨Bs, 0, none⟩ = some (.slice (some ⟨b, off, none⟩) len cap)) (hc : ∀ j, j < len → W.cell? ⟨b, off + j, none⟩ = some (.int .i64 (zs[j]?.getD 0))) (h0 : J [] W) :
    CallsIn F n Tryd.prog 112 #[.func (.yield l) #[] #[], .pointer (some ⟨Bs, 0, none⟩)] W fun e W' => (∃ v, e = .returned v) ∧
      ((∃ ys, ys = upto (fun j => zs[j]?.getD 0) len ∧ J ys W') ∨ (∃ pre, (∃ k, k ≤ len ∧ pre = upto (fun j => zs[j]?.getD 0) k) ∧ Jx pre W')) := by
  refine callsIn_of_wp Tryd.func112 rfl h7 ?_ hro
  simp only [Tryd.ntmps112, List.size_toArray, List.length_cons, List.length_nil, Nat.reduceAdd, Nat.reduceSub, Array.replicate_succ, Array.replicate_zero, List.push_toArray, List.append_toArray, List.nil_append, List.cons_append]
  gi_wp2
  gi_loopw [7] (fun i wr => ∃ k : Nat, k ≤ len ∧ i = .int .i64 k ∧ J (upto (fun j => zs[j]?.getD 0) k) wr ∧ Below n₀ W wr)
    (fun i _ => len - (intOf i).toNat)
  case atStart => exact ⟨0, Nat.zero_le _, rfl, h0, Below.refl _ _⟩
  case round =>
    obtain ⟨k, hk, rfl, hJs, hnx⟩ := hrel
    have hcx : k < len → wr.cell? ⟨b, off + k, none⟩ = some (.int .i64 (zs[k]?.getD 0)) := fun h => (hnx.cell (p := ⟨b, off + k, none⟩) (hb.resolve_left (by omega))).trans (hc k h)
    by_cases hlt : k < len
    · obtain ⟨fn, tmps, assign, body, hy, hR⟩ := hY _ (zs[k]?.getD 0) wr hJs (by rw [upto_length]; exact hlt)
      have hcx' := hcx hlt
      gi_wp2
      refine hR.mono ?_
      rintro e W3 (⟨rfl, hJ3, hk3⟩ | ⟨rfl, hJx3⟩)
      · gi_wp2
        go_roundw
        case rel => exact ⟨k + 1, by omega, by simp, by rw [upto_succ]; exact hJ3, hnx.trans hk3⟩
        case measure => simp [intOf]; omega
      · gi_wp2
        refine bodyPost_ret (results_none rfl _ _ _) rfl ?_
        exact ⟨⟨_, rfl⟩, .inr ⟨_, ⟨k + 1, by omega, (upto_succ _ _).symm⟩, hJx3⟩⟩
    · obtain rfl : k = len := by omega
      gi_wp2
      go_end0
      exact ⟨⟨_, rfl⟩, .inl ⟨_, rfl, hJs⟩⟩

def Ints (n₀ : Nat) (W : World) (sv : Value) (zs : List Int) : Prop :=
  ((∃ a c, sv = .slice a 0 c) ∧ zs = []) ∨ ∃ b off cap, sv = .slice (some ⟨b, off, none⟩) zs.length cap ∧ (zs.length = 0 ∨ b < n₀) ∧ ∀ j, j < zs.length → W.cell? ⟨b, off + j, none⟩ = some (.int .i64 (zs[j]?.getD 0))
theorem Ints.below {n₀ : Nat} {A B : World} (h : Below n₀ A B) {sv : Value} {zs : List Int} : Ints n₀ A sv zs → Ints n₀ B sv zs
  | .inl e => .inl e
  | .inr ⟨b, off, cap, e, hb, hc⟩ => .inr ⟨b, off, cap, e, hb, fun j hj => (h.cell (p := ⟨b, off + j, none⟩) (hb.resolve_left (by omega))).trans (hc j hj)⟩

set_option maxRecDepth 100000 in
set_option maxHeartbeats 1000000 in
theorem values1_nil_in (F : Fence) (n : Nat) (h7 : F.fn 112) (hro : F.round = none) (l Bs : Nat) (J : List Int → World → Prop) (W : World) (a : Option Addr) (c : Nat) (hBs : W.cell? ⟨Bs, 0, none⟩ = some (.slice a 0 c)) (h0 : J [] W) :
    CallsIn F n Tryd.prog 112 #[.func (.yield l) #[] #[], .pointer (some ⟨Bs, 0, none⟩)] W fun e W' => (∃ v, e = .returned v) ∧ J [] W' := by
  refine callsIn_of_wp Tryd.func112 rfl h7 ?_ hro
  simp only [Tryd.ntmps112, List.size_toArray, List.length_cons, List.length_nil, Nat.reduceAdd, Nat.reduceSub, Array.replicate_succ, Array.replicate_zero, List.push_toArray, List.append_toArray, List.nil_append, List.cons_append]
  gi_wp2
  gi_loopw [7] (fun i wr => i = .int .i64 0 ∧ J [] wr) (fun _ _ => 0)
  case atStart => exact ⟨rfl, h0⟩
  case round =>
    obtain ⟨rfl, hJs⟩ := hrel
    gi_wp2
    go_end0
    exact ⟨⟨_, rfl⟩, hJs⟩

theorem values_stops (F : Fence) (n : Nat) (h7 : F.fn 112) (hro : F.round = none) (hn : 1 ≤ n) (Bs n₀ : Nat) (sv : Value) (zs : List Int) (hreach : zs.length * 8 ≤ 140737488351232) (w : World) (hBs : Bs < w.heap.size) (hn₀ : n₀ ≤ w.heap.size)
    (hc : w.cell? ⟨Bs, 0, none⟩ = some sv) (hI : Ints n₀ w sv zs) :
    SeqStopsK F n Tryd.prog 112 #[.pointer (some ⟨Bs, 0, none⟩)] (fun x : Int => #[Value.int .i64 x]) (Below n₀) (fun ys => ys = zs) (fun pre => pre <+: zs) zs.length w := fun l J Jx W hW _ _ hY h0 => by
  have hc' := (hW.cell (p := ⟨Bs, 0, none⟩) hBs).trans hc
  rcases hI.below (hW.mono hn₀) with ⟨⟨a, c, rfl⟩, rfl⟩ | ⟨b, off, cap, rfl, hb, hcs⟩
  · exact (values1_nil_in F n h7 hro l Bs J W a c hc' h0).mono fun e W' ⟨he, hj⟩ => ⟨he, .inl ⟨_, rfl, hj⟩⟩
  · refine (values1_in F n h7 hro hn l Bs n₀ b off zs.length cap zs hreach hb J Jx hY W hc' hcs h0).mono ?_
    rintro e W' ⟨he, ⟨ys, rfl, hj⟩ | ⟨pre, ⟨k, hk, rfl⟩, hj⟩⟩
    · exact ⟨he, .inl ⟨_, upto_all zs, hj⟩⟩
    · exact ⟨he, .inr ⟨_, by rw [upto_take zs hk]; exact List.take_prefix _ _, hj⟩⟩

theorem info2 : (Tryd.prog.info? 2).map (fun i => (i.zero, i.size, i.bytes)) = some (some (.int .i64 0), 1, 8) := by kernel_rfl

set_option maxRecDepth 100000 in
set_option maxHeartbeats 4000000 in
theorem AppendSeq_in (F : Fence) (n : Nat) (h3 : F.fn 127) (h5 : F.fn 112) (hro : F.round = none) (hn : 3 ≤ n) (Bs : Nat) (sv : Value) (xs : List Int) (hlen : xs.length ≤ maxLen) (hbytes : xs.length * 8 ≤ 140737488351232) (w : World) (hBs : Bs < w.heap.size) (hc : w.cell? ⟨Bs, 0, none⟩ = some sv) (hL : Ints w.heap.size w sv xs) :
    CallsIn F n Tryd.prog 127 #[.slice none 0 0, .func (.func 112) #[] #[.pointer (some ⟨Bs, 0, none⟩)]] w fun e W' => ∃ v, e = .returned v ∧ W'.ownsRow w.heap.size 2 1 v xs.length (xs.map (Value.int .i64)) ∧ Below w.heap.size w W' := by
  have h1 : 1 ≤ n := by omega
  obtain ⟨i0, hi, hz0, hz1, hz2⟩ := info_parts info2
  refine callsIn_of_wp_marks Tryd.func127 rfl h3 ?_ hro
  simp only [Tryd.ntmps127, List.size_toArray, List.length_cons, List.length_nil, Nat.reduceAdd, Nat.reduceSub, Array.replicate_succ, Array.replicate_zero, List.push_toArray, List.append_toArray, List.nil_append, List.cons_append]
  gi_wp2
  have bO := Boxed.new w 31 (.slice none 0 0)
  have hB0 : Below w.heap.size w (w.alloc (.cells #[.slice none 0 0] 31)) := (Below.refl _ w).alloc (Nat.le_refl _) _
  refine wpIn_rangeFunc_ownG hro h1 (gf := 112) (lb := #[.pointer (some ⟨Bs, 0, none⟩)]) rfl h5 (enters_of Tryd.func112 (by kernel_rfl) rfl)
    (values_stops F (n - 1) h5 hro (by omega) Bs w.heap.size sv xs hbytes _ (by simp; omega) (by simp) ((hB0.cell (p := ⟨Bs, 0, none⟩) hBs).trans hc) (hL.below hB0)) belowK_t (belowK_b (by simp)) (Below.refl _ _) (fun _ => rfl)
    (fun pre W => (∃ v, Boxed W w.heap.size 31 v ∧ W.ownsRow w.heap.size 2 1 v pre.length (pre.map (Value.int .i64)) ∧ (v = .slice none 0 0 ↔ pre = [])) ∧ Below w.heap.size w W)
    (fun _ _ _ => False)
    (OwnFrom.and (Own.from (holdsRow_own w.heap.size w.heap.size 31 2 1 (fun pre => pre.length) (fun pre => pre.map (Value.int .i64)) (fun pre v => v = .slice none 0 0 ↔ pre = [])) _) (ownFrom_below (Nat.le_refl _) (by simp)))
    (fun _ _ _ _ _ hs _ _ => hs)
    ⟨⟨_, bO, World.ownsRow_nil _ _ _ _, by simp⟩, hB0⟩
    (fun x => { tmps := #[.slice none 0 0, .func (.func 112) #[] #[.pointer (some ⟨Bs, 0, none⟩)], .pointer (some ⟨w.heap.size, 0, none⟩), undef, .slice none 0 0, .int .i64 x, .func (.func 112) #[] #[.pointer (some ⟨Bs, 0, none⟩)], .int .i64 x, undef, undef, undef, undef, undef], defers := [] }) ?assign ?body ?done ?stop
  case assign =>
    intro l x W K hK
    gi_wp2
    exact hK
  case body =>
    rintro l pre x W ⟨⟨v, hv, hrow, hnil⟩, hB⟩ hlt
    have hc := hv.cell
    gi_wp2_with (gi_at_builtin; refine wpListIn_append_own _ rfl _ _ 31 rfl w.heap.size 2 i0 (.int .i64 0) 1 8 Tryd.underlying31 hi hz0 hz1 hz2 rfl (by decide) _ _ _ rfl (hrow.alloc _) ⟨W.heap.size, 0, none⟩ 1 1 [.int .i64 x] rfl rfl (cell_one_new _ _ _) (by simp [Value.oneCell']) (by omega) (by omega) (by have := hB.size; simp; omega) ?_; intro v' w1 hown' hgrow _; obtain ⟨g', cap', rfl⟩ := ownsRow_succ hown'; obtain ⟨hv1, hv2, hr2, hk2, hb2⟩ := hv.appended (by decide) hrow hB.size (Nat.le_refl _) hown' hgrow; have hc1 := hv1.cell; have hf1 := hv1.frozen)
    exact ⟨hk2.from _, hb2, ⟨_, hv2, by simpa using hr2, by simp⟩, hB.trans hb2⟩
  case done =>
    rintro D ys W hD rfl ⟨⟨v, hv, hrow, hnil⟩, hB⟩ hK
    have hc := hv.cell
    gi_wp2
    refine ⟨by simp, .inl ⟨_, _, rfl, run_takeDeferred hK, ?_⟩⟩
    exact ⟨_, results_tmp rfl _ _ _, v, rfl, ownsRow_putObj hrow _ hK rfl, hB.trans (belowK_b (w := w) (Nat.le_refl _) W D _ _ (by simp at hD; omega) hK rfl rfl)⟩
  case stop =>
    rintro D c pre W _ _ h _
    exact h.elim

set_option maxHeartbeats 1000000 in
theorem values_in (F : Fence) (n : Nat) (h5 : F.fn 74) (hro : F.round = none) (a : Option Addr) (len cap : Nat) (w : World) :
    CallsIn F n Tryd.prog 74 #[.slice a len cap] w fun e w' => e = .returned (.func (.func 112) #[] #[.pointer (some ⟨w.heap.size, 0, none⟩)]) ∧ w' = w.alloc (.cells #[.slice a len cap] 31) := by
  refine callsIn_of_wp Tryd.func74 rfl h5 ?_ hro
  simp only [Tryd.ntmps74, List.size_toArray, List.length_cons, List.length_nil, Nat.reduceAdd, Nat.reduceSub, Array.replicate_succ, Array.replicate_zero, List.push_toArray, List.append_toArray, List.nil_append, List.cons_append]
  gi_wp2
  go_ret
  exact ⟨rfl, rfl⟩

open Go.Sx in
theorem Wk.slices_Values_int64_int64 {W w : World} {G : GH} {H : List Itm} {v : Value} {x : List Int} (m : Mem W G w H) (h : RSl (RI .i64) G v x) :
    Calls Tryd.prog 74 #[v] w (Res W G H (fun _ Ho r => ∃ b, Ho = [Itm.box b 31 [v]] ∧ .func (.func 112) #[] #[.pointer (some ⟨b, 0, none⟩)] = r)) := by
  obtain ⟨a, c, rfl, _, _⟩ := h.len
  refine (callsIn_wide (n := 3)).1 ((values_in Fence.wide 3 trivial rfl a x.length c w).mono ?_)
  rintro e w' ⟨rfl, rfl⟩
  exact ⟨_, rfl, G, [.box w.heap.size 31 [.slice a x.length c]], GLe.refl G, m.alloc 31 [.slice a x.length c], _, rfl, rfl⟩

open Go.Sx in
theorem Wk.slices_AppendSeq_int64_int64 {W w : World} {G : GH} {H : List Itm} {b0 : Nat} {v : Value} {x y : List Int} (m : Mem W G w (Itm.box b0 31 [v] :: H)) (h : RSl (RI .i64) G v x) (hy : D.slices_AppendSeq_int64_int64 x = some y) :
    Calls Tryd.prog 127 #[.slice none 0 0, .func (.func 112) #[] #[.pointer (some ⟨b0, 0, none⟩)]] w (Res W G H (fun G' Ho r => ∃ r' it, Ho = [it] ∧ r' = r ∧ Go.Sx.Ow (RI .i64) 2 G' it r' y)) := by
  unfold D.slices_AppendSeq_int64_int64 at hy
  split at hy
  · rename_i hx
    obtain rfl := Option.some.inj hy
    have hb0 : w.heap[b0]? = some (.cells #[v] 31 (0, 0)) := m.items 0 (.box b0 31 [v]) rfl
    have hc : w.cell? ⟨b0, 0, none⟩ = some v := by simp [World.cell?, hb0]
    have hl : b0 < w.heap.size := (Array.getElem?_eq_some_iff.1 hb0).1
    have hI : Ints w.heap.size w v x := by
      obtain ⟨vs, hA, h⟩ := h
      rcases h with ⟨rfl, rfl⟩ | ⟨⟨b, off, sp⟩, cap, rfl, h1, h2, h3⟩
      · exact .inl ⟨⟨_, _, rfl⟩, rfl⟩
      · rcases Nat.eq_zero_or_pos x.length with h0 | h0
        · refine .inl ⟨⟨_, _, by rw [h0]⟩, List.eq_nil_of_length_eq_zero h0⟩
        · obtain ⟨c, hc, _⟩ := hA.get (i := 0) (x := x[0]) (by simp [h0])
          obtain ⟨rfl, cs, t, f, k1, _⟩ := h3 0 c hc
          refine .inr ⟨b, off, cap, rfl, .inr (m.glt k1), fun j hj => ?_⟩
          obtain ⟨c, hc, hR⟩ := hA.get (i := j) (x := x[j]) (by simp [hj])
          have := (h3 j c hc).2.get m
          rw [this, show c = .int .i64 x[j] from hR]
          simp [hj]
    refine (callsIn_wide (n := 3)).1 ((AppendSeq_in Fence.wide 3 trivial trivial rfl (by omega) b0 v x (by unfold maxLen; omega) (by omega) w hl hc hI).mono ?_)
    rintro e w' ⟨r, rfl, hrow, hB⟩
    refine ⟨_, rfl, G, [.row r 2 1 x.length (x.map (Value.int .i64))], GLe.refl G, ?_, r, _, rfl, rfl, x.map (Value.int .i64), rfl, by simp, fun i c z h1 h2 => ?_⟩
    · refine m.tail.add hB.os hB.tape hB.output (fun z hz => hB.block z hz) ?_ ?_
      · refine ⟨hrow.1, ?_⟩
        rcases hrow.2 with hn | ⟨g, cap, cur, e1, _, e3⟩
        · exact .inl hn
        · exact .inr ⟨g, cap, cur, e1, Nat.zero_le _, e3⟩
      · intro z hz
        rcases hrow.2 with ⟨rfl, _⟩ | ⟨g, cap, cur, rfl, e2, e3⟩
        · simp [Itm.foot, Value.ownBlock] at hz
        · simp [Itm.foot, Value.ownBlock] at hz; omega
    · rw [List.getElem?_map, h2] at h1
      exact (Option.some.inj h1).symm
  · cases hy
end YtehnblgkgaakeaaDoor
end Go.Proofs
