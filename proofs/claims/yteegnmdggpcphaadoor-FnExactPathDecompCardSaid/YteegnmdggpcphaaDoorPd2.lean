/- Parts of the proof: T1D, U1D, HandA, HandB. -/
import Derived.Test.YteegnmdggpcphaaDoorPd1
import Derived.Shelf.Small.Bits
import Derived.Test.YteegnmdggpcphaaDoorProg
import Derived.RangeFuncBox
import Derived.RangeFuncLeaves
import Derived.Shelf.Abstract
import Derived.WalkKit
import Derived.OwnWalkIn
import Derived.TacticsInMore
import Derived.LoopNIn
import Derived.LoopIn
import Derived.Maps.AppendAt
set_option linter.unusedVariables false
set_option linter.unusedSimpArgs false
set_option linter.unusedSectionVars false
namespace Go.Sx

noncomputable def D.spec_l1In (x0 : Int) (x1 : Int) (x2 : Int) : Option (Bool) :=
  some ((decide (x1 ≤ x0)) && (decide (x0 ≤ x2)))

noncomputable def D.spec_l1Has (x0 : (List Int)) (x1 : Int) : Option (Bool) :=
  (loopF (σ := Int) (ρ := (Unit) ⊕ (Bool)) (fun (x_26 : Int) => cond (decide (x_26 < (x0.length : Int))) ((idx x0 x_26).bind fun e_39 => cond (e_39 == x1) (some (.inr (.inr true))) (some (.inl (IntKind.i64.wrap (x_26 + 1))))) (some (.inr (.inl ())))) 0).bind fun zz => match zz with | .inl _ => (some false) | .inr z => (some z)

noncomputable def D.spec_l1Size (x0_0 : (List (List Int))) : Option (Int) :=
  some (x0_0.length : Int)

noncomputable def D.spec_l1Copy (x0 : (List Int)) : Option (((List Int))) :=
  (appendD ([] : List Int) x0).bind fun l_5 => some l_5

noncomputable def D.spec_l1Set (x0 : (List Int)) (x1 : Int) : Option (Bool) :=
  cond (decide (x1 < (x0.length : Int))) (some false) ((loopF (σ := Int) (ρ := (Unit) ⊕ (Bool)) (fun (x_157 : Int) => cond (decide (x_157 < (x0.length : Int))) ((idx x0 x_157).bind fun e_235 => (D.spec_l1In e_235 0 (IntKind.i64.wrap (x1 - 1))).bind fun y_241 => (cond (!y_241) (some true) ((cond (decide ((0 : Int) < x_157)) ((idx x0 x_157).bind fun e_292 => (idx x0 (IntKind.i64.wrap (x_157 - 1))).bind fun e_298 => some (decide (e_292 ≤ e_298))) (some false)).bind fun b_290 => some b_290)).bind fun b_274 => cond b_274 (some (.inr (.inr false))) (some (.inl (IntKind.i64.wrap (x_157 + 1))))) (some (.inr (.inl ())))) 0).bind fun zz => match zz with | .inl _ => (some true) | .inr z => (some z))

noncomputable def D.spec_GraphOk (x0_0 : (List (List Int))) : Option (Bool) :=
  (D.spec_l1Size x0_0).bind fun y_3 => (D.spec_l1In y_3 1 16).bind fun y_10 => cond (!y_10) (some false) ((loopF (σ := Int) (ρ := (Unit) ⊕ (Bool)) (fun (x_145 : Int) => cond (decide (x_145 < y_3)) ((idx x0_0 x_145).bind fun e_209 => (D.spec_l1Set e_209 y_3).bind fun y_215 => (cond (!y_215) (some true) ((idx x0_0 x_145).bind fun e_253 => (D.spec_l1Has e_253 x_145).bind fun y_259 => some y_259)).bind fun b_251 => cond b_251 (some (.inr (.inr false))) (some (.inl (IntKind.i64.wrap (x_145 + 1))))) (some (.inr (.inl ())))) 0).bind fun zz => match zz with | .inl _ => ((loopF (σ := Int) (ρ := (Unit) ⊕ (Bool)) (fun (x_552 : Int) => cond (decide (x_552 < y_3)) ((loopF (σ := Int) (ρ := (Unit) ⊕ (Bool)) (fun (x_766 : Int) => (idx x0_0 x_552).bind fun e_801 => cond (decide (x_766 < (e_801.length : Int))) ((idx x0_0 x_552).bind fun e_808 => (idx e_808 x_766).bind fun e_814 => (idx x0_0 e_814).bind fun e_820 => (D.spec_l1Has e_820 x_552).bind fun y_826 => cond (!y_826) (some (.inr (.inr false))) (some (.inl (IntKind.i64.wrap (x_766 + 1))))) (some (.inr (.inl ())))) 0).bind fun zz => match zz with | .inl _ => (some (.inl (IntKind.i64.wrap (x_552 + 1)))) | .inr z => (some (.inr (.inr z)))) (some (.inr (.inl ())))) 0).bind fun zz => match zz with | .inl _ => (some true) | .inr z => (some z)) | .inr z => (some z))

noncomputable def D.spec_l1There (x0_0 : (List (List Int))) (x1 : Int) : Option (Bool) :=
  (D.spec_l1Size x0_0).bind fun y_3 => (D.spec_l1In x1 0 (IntKind.i64.wrap (y_3 - 1))).bind fun y_10 => some y_10

noncomputable def D.spec_l1Order (x0_0 : (List (List Int))) (x1 : (List Int)) : Option (Bool) :=
  (D.spec_l1Size x0_0).bind fun y_3 => cond ((x1.length : Int) != y_3) (some false) ((loopF (σ := Int) (ρ := (Unit) ⊕ (Bool)) (fun (x_106 : Int) => cond (decide (x_106 < (x1.length : Int))) ((idx x1 x_106).bind fun e_154 => (D.spec_l1There x0_0 e_154).bind fun y_160 => (cond (!y_160) (some true) ((sliceD x1 0 x_106).bind fun l_180 => (idx x1 x_106).bind fun e_184 => (D.spec_l1Has l_180 e_184).bind fun y_190 => some y_190)).bind fun b_178 => cond b_178 (some (.inr (.inr false))) (some (.inl (IntKind.i64.wrap (x_106 + 1))))) (some (.inr (.inl ())))) 0).bind fun zz => match zz with | .inl _ => (some true) | .inr z => (some z))

noncomputable def D.spec_OrderOk (x0_0 : (List (List Int))) (x1 : (List Int)) : Option (Bool) :=
  (D.spec_GraphOk x0_0).bind fun y_3 => (cond y_3 ((D.spec_l1Order x0_0 x1).bind fun y_29 => some y_29) (some false)).bind fun b_27 => some b_27

noncomputable def D.spec_l1Into (x0 : (List Int)) (x1 : Int) : Option (((List Int))) :=
  (loopF (σ := Int) (ρ := (Int)) (fun (x_58 : Int) => (cond (decide (x_58 < (x0.length : Int))) ((idx x0 x_58).bind fun e_104 => some (decide (e_104 < x1))) (some false)).bind fun b_102 => cond b_102 (some (.inl (IntKind.i64.wrap (x_58 + 1)))) (some (.inr x_58))) 0).bind fun x_85 => (cond (decide (x_85 < (x0.length : Int))) ((idx x0 x_85).bind fun e_128 => some (e_128 == x1)) (some false)).bind fun b_126 => cond b_126 (some x0) ((sliceD x0 0 x_85).bind fun l_135 => (D.spec_l1Copy l_135).bind fun y_139 => (appendD y_139 ([x1] : List Int)).bind fun l_154 => (sliceD x0 x_85 (x0.length : Int)).bind fun l_160 => (appendD l_154 l_160).bind fun l_164 => some l_164)

noncomputable def D.spec_l12Open (x0_0 : (List (List Int))) (x1 : (List Int)) : Option (((List Int))) :=
  (loopF (σ := (List Int) × Int) (ρ := ((List Int))) (fun (s_500 : (List Int) × Int) => match s_500 with | (l_506, x_509) => cond (decide (x_509 < (x1.length : Int))) ((loopF (σ := (List Int) × Int) (ρ := ((List Int))) (fun (s_873 : (List Int) × Int) => match s_873 with | (l_876, x_879) => (idx x1 x_509).bind fun e_940 => (idx x0_0 e_940).bind fun e_946 => cond (decide (x_879 < (e_946.length : Int))) ((idx x1 x_509).bind fun e_955 => (idx x0_0 e_955).bind fun e_961 => (idx e_961 x_879).bind fun e_967 => (D.spec_l1Has x1 e_967).bind fun y_973 => cond (!y_973) ((idx x1 x_509).bind fun e_979 => (D.spec_l1Into l_876 e_979).bind fun y_985 => some (.inl (y_985, (IntKind.i64.wrap (x_879 + 1))))) (some (.inl (l_876, (IntKind.i64.wrap (x_879 + 1)))))) (some (.inr l_876))) (l_506, 0)).bind fun l_936 => some (.inl (l_936, (IntKind.i64.wrap (x_509 + 1))))) (some (.inr l_506))) (([] : List Int), 0)).bind fun l_751 => some l_751

noncomputable def D.spec_l12Bags (x0_0 : (List (List Int))) (x1 : (List Int)) : Option (((List (List Int)))) :=
  (loopF (σ := (List (List Int)) × Int) (ρ := ((List (List Int)))) (fun (s_120 : (List (List Int)) × Int) => match s_120 with | (l_123, x_128) => cond (decide (x_128 < (x1.length : Int))) ((sliceD x1 0 x_128).bind fun l_189 => (idx x1 x_128).bind fun e_193 => (D.spec_l12Open x0_0 l_189).bind fun y_199 => (D.spec_l1Into y_199 e_193).bind fun y_212 => (appendD l_123 ([y_212] : List (List Int))).bind fun l_233 => some (.inl (l_233, (IntKind.i64.wrap (x_128 + 1))))) (some (.inr l_123))) (([] : List (List Int)), 0)).bind fun l_182 => some l_182

noncomputable def D.spec_PathDecomp (x0_0 : (List (List Int))) (x1 : (List Int)) : Option (((List (List Int))) × ((List (List Int))) × Bool) :=
  (D.spec_GraphOk x0_0).bind fun y_5 => (cond (!y_5) (some true) ((D.spec_OrderOk x0_0 x1).bind fun y_31 => some (!y_31))).bind fun b_29 => cond b_29 (some (([] : List (List Int)), ([] : List (List Int)), false)) ((D.spec_l12Bags x0_0 x1).bind fun y_47 => (loopF (σ := Int × (List (List Int))) (ρ := ((List (List Int)))) (fun (s_111 : Int × (List (List Int))) => match s_111 with | (x_117, l_118) => cond (decide (x_117 < (x1.length : Int))) ((appendD l_118 ([([(IntKind.i64.wrap (x_117 - 1)), x_117] : List Int)] : List (List Int))).bind fun l_161 => some (.inl ((IntKind.i64.wrap (x_117 + 1)), l_161))) (some (.inr l_118))) (1, ([] : List (List Int)))).bind fun l_143 => some (y_47, l_143, true))

noncomputable def D.impl_inRange (x0 : Int) (x1 : Int) (x2 : Int) : Option (Bool) :=
  some ((decide (x1 ≤ x0)) && (decide (x0 ≤ x2)))

noncomputable def D.impl_increasing (x0 : (List Int)) (x1 : Int) : Option (Bool) :=
  (loopF (σ := Int) (ρ := (Unit) ⊕ (Bool)) (fun (x_188 : Int) => cond (decide (x_188 < (x0.length : Int))) ((idx x0 x_188).bind fun e_282 => (D.impl_inRange e_282 0 (IntKind.i64.wrap (x1 - 1))).bind fun y_288 => (cond (!y_288) (some true) ((cond (decide ((0 : Int) < x_188)) ((idx x0 (IntKind.i64.wrap (x_188 - 1))).bind fun e_363 => some (decide (e_282 ≤ e_363))) (some false)).bind fun b_361 => some b_361)).bind fun b_344 => cond b_344 (some (.inr (.inr false))) (some (.inl (IntKind.i64.wrap (x_188 + 1))))) (some (.inr (.inl ())))) 0).bind fun zz => match zz with | .inl _ => (some true) | .inr z => (some z)

noncomputable def D.slices_Index_int64_int64 (x0 : (List Int)) (x1 : Int) : Option (Int) :=
  (loopF (σ := Int) (ρ := (Unit) ⊕ (Int)) (fun (x_26 : Int) => cond (decide (x_26 < (x0.length : Int))) ((idx x0 x_26).bind fun e_39 => cond (x1 == e_39) (some (.inr (.inr x_26))) (some (.inl (IntKind.i64.wrap (x_26 + 1))))) (some (.inr (.inl ())))) 0).bind fun zz => match zz with | .inl _ => (some (-1)) | .inr z => (some z)

noncomputable def D.slices_Contains_int64_int64 (x0 : (List Int)) (x1 : Int) : Option (Bool) :=
  (D.slices_Index_int64_int64 x0 x1).bind fun y_1 => some (decide ((0 : Int) ≤ y_1))

noncomputable def D.impl_GraphOk (x0_0 : (List (List Int))) : Option (Bool) :=
  cond ((decide ((x0_0.length : Int) < 1)) || (decide ((16 : Int) < (x0_0.length : Int)))) (some false) ((loopF (σ := Int) (ρ := (Unit) ⊕ (Bool)) (fun (x_98 : Int) => cond (decide (x_98 < (x0_0.length : Int))) ((idx x0_0 x_98).bind fun e_144 => (D.impl_increasing e_144 (x0_0.length : Int)).bind fun y_150 => (cond (!y_150) (some true) ((D.slices_Contains_int64_int64 e_144 x_98).bind fun y_176 => some y_176)).bind fun b_174 => cond b_174 (some (.inr (.inr false))) (some (.inl (IntKind.i64.wrap (x_98 + 1))))) (some (.inr (.inl ())))) 0).bind fun zz => match zz with | .inl _ => ((loopF (σ := Int) (ρ := (Unit) ⊕ (Bool)) (fun (x_401 : Int) => cond (decide (x_401 < (x0_0.length : Int))) ((idx x0_0 x_401).bind fun e_510 => (loopF (σ := Int) (ρ := (Unit) ⊕ (Bool)) (fun (x_567 : Int) => cond (decide (x_567 < (e_510.length : Int))) ((idx e_510 x_567).bind fun e_593 => (idx x0_0 e_593).bind fun e_599 => (D.slices_Contains_int64_int64 e_599 x_401).bind fun y_605 => cond (!y_605) (some (.inr (.inr false))) (some (.inl (IntKind.i64.wrap (x_567 + 1))))) (some (.inr (.inl ())))) 0).bind fun zz => match zz with | .inl _ => (some (.inl (IntKind.i64.wrap (x_401 + 1)))) | .inr z => (some (.inr (.inr z)))) (some (.inr (.inl ())))) 0).bind fun zz => match zz with | .inl _ => (some true) | .inr z => (some z)) | .inr z => (some z))

noncomputable def D.impl_one (x0 : Int) : Option (Int) :=
  cond (decide (x0 < 0)) none (some (ishl .u32 1 x0))

noncomputable def D.impl_maskOf (x0 : (List Int)) : Option (Int) :=
  (loopF (σ := Int × Int) (ρ := (Int)) (fun (s_36 : Int × Int) => match s_36 with | (x_39, x_40) => cond (decide (x_40 < (x0.length : Int))) ((idx x0 x_40).bind fun e_60 => (D.impl_one e_60).bind fun y_66 => some (.inl ((ior .u32 x_39 y_66), (IntKind.i64.wrap (x_40 + 1))))) (some (.inr x_39))) (0, 0)).bind fun x_57 => some x_57

noncomputable def D.impl_netsOf (x0_0 : (List (List Int))) : Option (((List Int))) :=
  (loopF (σ := (List Int) × Int) (ρ := ((List Int))) (fun (s_66 : (List Int) × Int) => match s_66 with | (l_69, x_74) => cond (decide (x_74 < (x0_0.length : Int))) ((idx x0_0 x_74).bind fun e_108 => (D.impl_maskOf e_108).bind fun y_114 => (appendD l_69 ([y_114] : List Int)).bind fun l_125 => some (.inl (l_125, (IntKind.i64.wrap (x_74 + 1))))) (some (.inr l_69))) (([] : List Int), 0)).bind fun l_101 => some l_101

noncomputable def D.impl_narrow (x0 : (List Int)) : Option (((List Int))) :=
  (makeD (0 : Int) 0 (x0.length : Int)).bind fun l_1 => (loopF (σ := (List Int) × Int) (ρ := ((List Int))) (fun (s_52 : (List Int) × Int) => match s_52 with | (l_55, x_60) => cond (decide (x_60 < (x0.length : Int))) ((idx x0 x_60).bind fun e_87 => (appendD l_55 ([e_87] : List Int)).bind fun l_97 => some (.inl (l_97, (IntKind.i64.wrap (x_60 + 1))))) (some (.inr l_55))) (l_1, 0)).bind fun l_80 => some l_80

noncomputable def D.math_bits_TrailingZeros32 (x0 : Int) : Option (Int) :=
  cond (x0 == 0) (some 32) ((idx tab32 (ishr .u32 (IntKind.u32.wrap ((iand .u32 x0 (IntKind.u32.wrap (0 - x0))) * 125613361)) 27)).bind fun e_3 => some (IntKind.i64.wrap e_3))

noncomputable def D.impl_vset_least (x0 : Int) : Option (Int) :=
  (D.math_bits_TrailingZeros32 x0).bind fun y_1 => some y_1

noncomputable def D.impl_vset_list (x0 : Int) : Option (((List Int))) :=
  (loopF (σ := Int × (List Int)) (ρ := ((List Int))) (fun (s_52 : Int × (List Int)) => match s_52 with | (x_55, l_56) => cond (x_55 != 0) ((D.impl_vset_least x_55).bind fun y_88 => (appendD l_56 ([y_88] : List Int)).bind fun l_99 => some (.inl ((iand .u32 x_55 (IntKind.u32.wrap (x_55 - 1))), l_99))) (some (.inr l_56))) (x0, ([] : List Int))).bind fun l_81 => some l_81

noncomputable def D.impl_openOf (x0 : (List Int)) (x1 : Int) : Option (Int) :=
  (D.impl_vset_list x1).bind fun y_1 => (loopF (σ := Int × Int) (ρ := (Int)) (fun (s_61 : Int × Int) => match s_61 with | (x_64, x_65) => cond (decide (x_65 < (y_1.length : Int))) ((idx y_1 x_65).bind fun e_92 => (idx x0 e_92).bind fun e_98 => cond ((iandNot .u32 e_98 x1) != 0) ((D.impl_one e_92).bind fun y_105 => some (.inl ((ior .u32 x_64 y_105), (IntKind.i64.wrap (x_65 + 1))))) (some (.inl (x_64, (IntKind.i64.wrap (x_65 + 1)))))) (some (.inr x_64))) (0, 0)).bind fun x_89 => some x_89

noncomputable def D.impl_pathBags (x0 : (List Int)) (x1 : (List Int)) : Option (((List Int))) :=
  (loopF (σ := (List Int) × Int × Int) (ρ := ((List Int))) (fun (s_93 : (List Int) × Int × Int) => match s_93 with | (l_96, x_101, x_102) => cond (decide (x_102 < (x1.length : Int))) ((idx x1 x_102).bind fun e_150 => (D.impl_openOf x0 x_101).bind fun y_156 => (D.impl_one e_150).bind fun y_163 => (appendD l_96 ([(ior .u32 y_156 y_163)] : List Int)).bind fun l_174 => (D.impl_one e_150).bind fun y_180 => some (.inl (l_174, (ior .u32 x_101 y_180), (IntKind.i64.wrap (x_102 + 1))))) (some (.inr l_96))) (([] : List Int), 0, 0)).bind fun l_143 => some l_143

noncomputable def D.impl_wide (x0 : (List Int)) : Option (((List Int))) :=
  (makeD (0 : Int) 0 (x0.length : Int)).bind fun l_1 => (loopF (σ := (List Int) × Int) (ρ := ((List Int))) (fun (s_52 : (List Int) × Int) => match s_52 with | (l_55, x_60) => cond (decide (x_60 < (x0.length : Int))) ((idx x0 x_60).bind fun e_87 => (appendD l_55 ([e_87] : List Int)).bind fun l_97 => some (.inl (l_97, (IntKind.i64.wrap (x_60 + 1))))) (some (.inr l_55))) (l_1, 0)).bind fun l_80 => some l_80

noncomputable def D.impl_vset_numbers (x0 : Int) : Option (((List Int))) :=
  (D.impl_vset_list x0).bind fun y_1 => (D.impl_wide y_1).bind fun y_12 => some y_12

noncomputable def D.impl_results (x0 : (List Int)) : Option (((List (List Int)))) :=
  (loopF (σ := (List (List Int)) × Int) (ρ := ((List (List Int)))) (fun (s_74 : (List (List Int)) × Int) => match s_74 with | (l_77, x_82) => cond (decide (x_82 < (x0.length : Int))) ((idx x0 x_82).bind fun e_120 => (D.impl_vset_numbers e_120).bind fun y_126 => (appendD l_77 [y_126]).bind fun l_141 => some (.inl (l_141, (IntKind.i64.wrap (x_82 + 1))))) (some (.inr l_77))) (([] : List (List Int)), 0)).bind fun l_113 => some l_113

noncomputable def D.impl_sortedLink (x0 : Int) (x1 : Int) : Option (((List Int))) :=
  some ([(if x1 < x0 then x1 else x0), (if x0 < x1 then x1 else x0)] : List Int)

noncomputable def D.laws_eqInt64S (x0 : (List Int)) (x1 : (List Int)) : Option (Bool) :=
  cond ((x0.length : Int) != (x1.length : Int)) (some false) ((loopF (σ := Int) (ρ := (Unit) ⊕ (Bool)) (fun (x_43 : Int) => cond (decide (x_43 < (x0.length : Int))) ((idx x0 x_43).bind fun e_64 => (idx x1 x_43).bind fun e_70 => cond (e_64 != e_70) (some (.inr (.inr false))) (some (.inl (IntKind.i64.wrap (x_43 + 1))))) (some (.inr (.inl ())))) 0).bind fun zz => match zz with | .inl _ => (some true) | .inr z => (some z))

noncomputable def D.laws_eqInt64SS (x0 : (List (List Int))) (x1 : (List (List Int))) : Option (Bool) :=
  cond ((x0.length : Int) != (x1.length : Int)) (some false) ((loopF (σ := Int) (ρ := (Unit) ⊕ (Bool)) (fun (x_49 : Int) => cond (decide (x_49 < (x0.length : Int))) ((idx x0 x_49).bind fun e_73 => (idx x1 x_49).bind fun e_79 => (D.laws_eqInt64S e_73 e_79).bind fun y_85 => cond (!y_85) (some (.inr (.inr false))) (some (.inl (IntKind.i64.wrap (x_49 + 1))))) (some (.inr (.inl ())))) 0).bind fun zz => match zz with | .inl _ => (some true) | .inr z => (some z))

noncomputable def D.laws_eqDecomp (x0_0 : (List (List Int))) (x0_1 : (List (List Int))) (x1_0 : (List (List Int))) (x1_1 : (List (List Int))) : Option (Bool) :=
  (D.laws_eqInt64SS x0_0 x1_0).bind fun y_5 => cond (!y_5) (some false) ((D.laws_eqInt64SS x0_1 x1_1).bind fun y_13 => cond (!y_13) (some false) (some true))

noncomputable def D.laws_eqGraph (x0_0 : (List (List Int))) (x1_0 : (List (List Int))) : Option (Bool) :=
  (D.laws_eqInt64SS x0_0 x1_0).bind fun y_5 => cond (!y_5) (some false) (some true)

noncomputable def D.laws_szInt64S (x0 : (List Int)) (x1 : Int) : Option (Int) :=
  cond (decide ((IntKind.i64.wrap (x1 - (x0.length : Int))) < 0)) (some (-1)) (some (IntKind.i64.wrap (x1 - (x0.length : Int))))

noncomputable def D.laws_szInt64SS (x0 : (List (List Int))) (x1 : Int) : Option (Int) :=
  cond (decide ((IntKind.i64.wrap (x1 - (x0.length : Int))) < 0)) (some (-1)) ((loopF (σ := Int × Int) (ρ := (Int) ⊕ (Int)) (fun (s_39 : Int × Int) => match s_39 with | (x_42, x_43) => cond (decide (x_43 < (x0.length : Int))) ((idx x0 x_43).bind fun e_64 => (D.laws_szInt64S e_64 x_42).bind fun y_70 => cond (decide (y_70 < 0)) (some (.inr (.inr (-1)))) (some (.inl (y_70, (IntKind.i64.wrap (x_43 + 1)))))) (some (.inr (.inl x_42)))) ((IntKind.i64.wrap (x1 - (x0.length : Int))), 0)).bind fun zz => match zz with | .inl x_61 => (some x_61) | .inr z => (some z))

noncomputable def D.laws_szGraph (x0_0 : (List (List Int))) (x1 : Int) : Option (Int) :=
  (D.laws_szInt64SS x0_0 x1).bind fun y_3 => cond (decide (y_3 < 0)) (some (-1)) (some y_3)

noncomputable def D.laws_heldInt64S (x0 : (List Int)) (x1 : Int) : Option (Int) :=
  (loopF (σ := Int × Int) (ρ := (Int) ⊕ (Int)) (fun (s_24 : Int × Int) => match s_24 with | (x_27, x_28) => cond (decide (x_28 < (x0.length : Int))) ((idx x0 x_28).bind fun e_42 => cond (e_42 != x_27) (some (.inr (.inr (-1)))) (some (.inl ((IntKind.i64.wrap (x_27 + 1)), (IntKind.i64.wrap (x_28 + 1)))))) (some (.inr (.inl x_27)))) (x1, 0)).bind fun zz => match zz with | .inl x_39 => (some x_39) | .inr z => (some z)

noncomputable def D.laws_heldInt64SS (x0 : (List (List Int))) (x1 : Int) : Option (Int) :=
  (loopF (σ := Int × Int) (ρ := (Int) ⊕ (Int)) (fun (s_38 : Int × Int) => match s_38 with | (x_41, x_42) => cond (decide (x_42 < (x0.length : Int))) ((idx x0 x_42).bind fun e_63 => (D.laws_heldInt64S e_63 x_41).bind fun y_69 => cond (decide (y_69 < 0)) (some (.inr (.inr (-1)))) (some (.inl (y_69, (IntKind.i64.wrap (x_42 + 1)))))) (some (.inr (.inl x_41)))) (x1, 0)).bind fun zz => match zz with | .inl x_60 => (some x_60) | .inr z => (some z)

noncomputable def D.laws_heldDecomp (x0_0 : (List (List Int))) (x0_1 : (List (List Int))) (x1 : Int) : Option (Int) :=
  (D.laws_heldInt64SS x0_0 x1).bind fun y_3 => cond (decide (y_3 < 0)) (some (-1)) ((D.laws_heldInt64SS x0_1 y_3).bind fun y_11 => cond (decide (y_11 < 0)) (some (-1)) (some y_11))

noncomputable def D.laws_toInt64S (x0 : (List Int)) : Option (((List Int))) :=
  (makeD (0 : Int) (x0.length : Int) (x0.length : Int)).bind fun l_1 => (loopF (σ := (List Int) × Int) (ρ := ((List Int))) (fun (s_42 : (List Int) × Int) => match s_42 with | (l_45, x_48) => cond (decide (x_48 < (x0.length : Int))) ((idx x0 x_48).bind fun e_69 => (idx l_45 x_48).bind fun e_75 => some (.inl ((l_45.set (Int.toNat x_48) e_69), (IntKind.i64.wrap (x_48 + 1))))) (some (.inr l_45))) (l_1, 0)).bind fun l_64 => some l_64

noncomputable def D.impl_OrderOk (x0_0 : (List (List Int))) (x1 : (List Int)) : Option (Bool) :=
  (D.impl_GraphOk x0_0).bind fun y_3 => cond ((!y_3) || ((x1.length : Int) != (x0_0.length : Int))) (some false) ((D.slices_Sorted_int64 x1).bind fun y_21 => (D.impl_increasing y_21 (x0_0.length : Int)).bind fun y_32 => some y_32)

noncomputable def D.impl_PathBags (x0_0 : (List (List Int))) (x1 : (List Int)) : Option (((List (List Int)))) :=
  (D.impl_OrderOk x0_0 x1).bind fun y_3 => cond (!y_3) (some ([] : List (List Int))) ((D.impl_netsOf x0_0).bind fun y_14 => (D.impl_narrow x1).bind fun y_25 => (D.impl_pathBags y_14 y_25).bind fun y_36 => (D.impl_results y_36).bind fun y_53 => some y_53)

noncomputable def D.impl_PathDecomp (x0_0 : (List (List Int))) (x1 : (List Int)) : Option (((List (List Int))) × ((List (List Int))) × Bool) :=
  (D.impl_OrderOk x0_0 x1).bind fun y_5 => cond (!y_5) (some (([] : List (List Int)), ([] : List (List Int)), false)) ((D.impl_PathBags x0_0 x1).bind fun y_21 => (loopF (σ := Int × (List (List Int))) (ρ := ((List (List Int)))) (fun (s_109 : Int × (List (List Int))) => match s_109 with | (x_115, l_116) => cond (decide (x_115 < (y_21.length : Int))) ((D.impl_sortedLink (IntKind.i64.wrap (x_115 - 1)) x_115).bind fun y_160 => (appendD l_116 [y_160]).bind fun l_183 => some (.inl ((IntKind.i64.wrap (x_115 + 1)), l_183))) (some (.inr l_116))) (1, ([] : List (List Int)))).bind fun l_153 => some (y_21, l_153, true))

noncomputable def D.laws_toInt64SS (x0 : (List (List Int))) : Option (((List (List Int)))) :=
  (makeD (([] : (List Int)) : (List Int)) (x0.length : Int) (x0.length : Int)).bind fun l_1 => (loopF (σ := (List (List Int)) × Int) (ρ := ((List (List Int)))) (fun (s_64 : (List (List Int)) × Int) => match s_64 with | (l_67, x_70) => cond (decide (x_70 < (x0.length : Int))) ((idx x0 x_70).bind fun e_102 => (D.laws_toInt64S e_102).bind fun y_108 => (idx l_67 x_70).bind fun e_119 => some (.inl ((l_67.set (Int.toNat x_70) y_108), (IntKind.i64.wrap (x_70 + 1))))) (some (.inr l_67))) (l_1, 0)).bind fun l_97 => some l_97

noncomputable def D.laws_toGraph (x0_0 : (List (List Int))) : Option (((List (List Int)))) :=
  (D.laws_toInt64SS x0_0).bind fun y_7 => some y_7

noncomputable def D.laws_markInt64S (x0 : (List Int)) (x1 : Int) : Option (Int × ((List Int))) :=
  (loopF (σ := (List Int) × Int × Int) (ρ := ((List Int) × Int)) (fun (s_25 : (List Int) × Int × Int) => match s_25 with | (l_28, x_31, x_32) => cond (decide (x_32 < (l_28.length : Int))) ((idx l_28 x_32).bind fun e_48 => some (.inl ((l_28.set (Int.toNat x_32) x_31), (IntKind.i64.wrap (x_31 + 1)), (IntKind.i64.wrap (x_32 + 1))))) (some (.inr (l_28, x_31)))) (x0, x1, 0)).bind fun (l_42, x_45) => some (x_45, l_42)

noncomputable def D.laws_markInt64SS (x0 : (List (List Int))) (x1 : Int) : Option (Int × ((List (List Int)))) :=
  (loopF (σ := (List (List Int)) × Int × Int) (ρ := ((List (List Int)) × Int)) (fun (s_43 : (List (List Int)) × Int × Int) => match s_43 with | (l_46, x_49, x_50) => cond (decide (x_50 < (l_46.length : Int))) ((idx l_46 x_50).bind fun e_75 => (D.laws_markInt64S e_75 x_49).bind fun y_81 => some (.inl ((l_46.set (Int.toNat x_50) y_81.2), y_81.1, (IntKind.i64.wrap (x_50 + 1))))) (some (.inr (l_46, x_49)))) (x0, x1, 0)).bind fun (l_69, x_72) => some (x_72, l_69)

noncomputable def D.laws_markGraph (x0_0 : (List (List Int))) (x1 : Int) : Option (Int × ((List (List Int)))) :=
  (D.laws_markInt64SS x0_0 x1).bind fun y_3 => some (y_3.1, y_3.2)

noncomputable def D.laws_markDecomp (x0_0 : (List (List Int))) (x0_1 : (List (List Int))) (x1 : Int) : Option (Int × ((List (List Int))) × ((List (List Int)))) :=
  (D.laws_markInt64SS x0_0 x1).bind fun y_3 => (D.laws_markInt64SS x0_1 y_3.1).bind fun y_12 => some (y_12.1, y_3.2, y_12.2)
end Go.Sx

namespace Go.Sx

noncomputable def D.laws_FnExactPathDecomp (x0_0 : (List (List Int))) (x1 : (List Int)) : Option (Bool) :=
  cond (decide ((1048576 : Int) < (x1.length : Int))) (some true) ((D.laws_szGraph x0_0 1048576).bind fun y_4 => cond (decide (y_4 < 0)) (some true) ((D.laws_toGraph x0_0).bind fun y_12 => (D.laws_toInt64S x1).bind fun y_23 => (D.spec_PathDecomp y_12 y_23).bind fun y_40 => (D.laws_toGraph x0_0).bind fun y_57 => (D.laws_toInt64S x1).bind fun y_70 => (D.impl_PathDecomp y_57 y_70).bind fun y_81 => (D.laws_eqDecomp y_81.1 y_81.2.1 y_40.1 y_40.2.1).bind fun y_104 => cond ((!y_104) || (y_81.2.2 != y_40.2.2)) (some false) ((D.laws_toGraph x0_0).bind fun y_127 => (D.laws_eqGraph y_57 y_127).bind fun y_142 => cond (!y_142) (some false) ((D.laws_toInt64S x1).bind fun y_154 => (D.laws_eqInt64S y_70 y_154).bind fun y_165 => cond (!y_165) (some false) ((D.laws_markGraph y_57 1).bind fun y_179 => (D.laws_markInt64S y_70 y_179.1).bind fun y_188 => (cond (decide (y_188.1 < 0)) (some true) ((D.laws_eqDecomp y_81.1 y_81.2.1 y_40.1 y_40.2.1).bind fun y_240 => some (!y_240))).bind fun b_238 => cond (b_238 || (y_81.2.2 != y_40.2.2)) (some false) ((D.laws_markDecomp y_81.1 y_81.2.1 1).bind fun y_263 => (D.laws_heldDecomp y_263.2.1 y_263.2.2 1).bind fun y_274 => cond (decide (y_274 < 0)) (some false) (cond (y_274 != y_263.1) (some false) ((D.laws_toGraph x0_0).bind fun y_289 => (D.laws_toInt64S x1).bind fun y_300 => (D.impl_PathDecomp y_289 y_300).bind fun y_311 => (D.laws_eqDecomp y_311.1 y_311.2.1 y_40.1 y_40.2.1).bind fun y_334 => cond ((!y_334) || (y_311.2.2 != y_40.2.2)) (some false) ((D.laws_heldDecomp y_263.2.1 y_263.2.2 1).bind fun y_357 => cond (decide (y_357 < 0)) (some false) (cond (y_357 != y_263.1) (some false) (some true)))))))))))
end Go.Sx

namespace Go.Proofs
open Go.Shelf
def Tryd.lays125_ren : Go.Shelf.Ren := ⟨fun | 125 => 194 | 128 => 264 | 129 => 265 | n => n, fun | 46 => 96 | 3 => 3 | 51 => 105 | 53 => 49 | 4 => 4 | 5 => 5 | 9 => 9 | n => n, fun | n => n⟩
theorem Tryd.lays125 : Go.Proofs.Lays.n125 Tryd.prog Tryd.lays125_ren := {
  mixed := by kernel_rfl
  f125 := Tryd.func194.trans (congrArg some (by kernel_rfl))
  f128 := Tryd.func264.trans (congrArg some (by kernel_rfl))
  f129 := Tryd.func265.trans (congrArg some (by kernel_rfl))
  t3 := Tryd.underlying3
  a3 := Tryd.isAgg3
  z3 := Tryd.sizeOf3
  v3 := Tryd.zeroValue3
  t4 := Tryd.underlying4
  a4 := Tryd.isAgg4
  z4 := Tryd.sizeOf4
  v4 := Tryd.zeroValue4
  t5 := Tryd.underlying5
  a5 := Tryd.isAgg5
  z5 := Tryd.sizeOf5
  v5 := Tryd.zeroValue5
  t9 := Tryd.underlying9
  a9 := Tryd.isAgg9
  z9 := Tryd.sizeOf9
  v9 := Tryd.zeroValue9
  t46 := Tryd.underlying96
  a46 := Tryd.isAgg96
  z46 := Tryd.sizeOf96
  v46 := Tryd.zeroValue96
  t51 := Tryd.underlying105
  a51 := Tryd.isAgg105
  z51 := Tryd.sizeOf105
  v51 := Tryd.zeroValue105
  t53 := Tryd.underlying49
  a53 := Tryd.isAgg49
  z53 := Tryd.sizeOf49
  v53 := Tryd.zeroValue49 }
theorem Tryd.bits_Len (x : Int) (w : World) (h0 : 0 ≤ x) (h1 : x ≤ 18446744073709551615) :
    Calls Tryd.prog 194 #[.int .u64 x] w fun e w' => e = .returned (.int .i64 (Lib.bitLen x.toNat)) ∧ w' = w := Any.bits_Len Tryd.lays125 x w h0 h1
end Go.Proofs
namespace Go.Proofs.YteegnmdggpcphaaDoor
open Go Go.Sx
theorem Wk.math_bits_Len {W w : World} {G : GH} {H : List Itm} {x0 : Int} (m : Mem W G w H) {y : Int} (hd : D.math_bits_Len x0 = some y) :
    Calls Tryd.prog 194 #[(.int .u64 x0)] w (Res W G H (fun _ Ho v => Ho = [] ∧ v = (.int .i64 y))) := by
  unfold D.math_bits_Len at hd
  split at hd
  · rename_i h
    obtain rfl := Option.some.inj hd
    exact (Tryd.bits_Len x0 w h.1 h.2).mono (fun e w' ⟨he, hw⟩ => by subst hw; exact ⟨_, he, G, [], GLe.refl G, m, rfl, rfl⟩)
  · cases hd
end Go.Proofs.YteegnmdggpcphaaDoor

namespace Go.Proofs
open Go.RowKit Go.Shelf
attribute [local go_sem] Oper.semAt_some
namespace YteegnmdggpcphaaDoor

def upto {α : Type} (f : Nat → α) (k : Nat) : List α := (List.range k).map f
theorem upto_succ {α : Type} (f : Nat → α) (k : Nat) : upto f (k + 1) = upto f k ++ [f k] := by simp [upto, List.range_succ]
theorem upto_length {α : Type} (f : Nat → α) (k : Nat) : (upto f k).length = k := by simp [upto]
theorem upto_all (zs : List Int) : upto (fun j => zs[j]?.getD 0) zs.length = zs := by
  apply List.ext_getElem
  · simp [upto]
  · intro i h1 h2
    simp [upto, h2]
theorem upto_take (zs : List Int) {k : Nat} (hk : k ≤ zs.length) : upto (fun j => zs[j]?.getD 0) k = zs.take k := by
  apply List.ext_getElem
  · simp [upto, hk]
  · intro i h1 h2
    have : i < zs.length := by simp [upto] at h1; omega
    simp [upto, this]

set_option maxRecDepth 100000 in
set_option maxHeartbeats 2000000 in
theorem values1_in (F : Fence) (n : Nat) (h7 : F.fn 219) (hro : F.round = none) (hn : 1 ≤ n) (l Bs n₀ b off len cap : Nat) (zs : List Int) (hreach : len * 8 ≤ 140737488351232) (hb : len = 0 ∨ b < n₀) (J Jx : List Int → World → Prop)
    (hY : ∀ pre x W, J pre W → pre.length < len → YieldAt F (n - 1) Tryd.prog l #[.int .i64 x] W fun e W' =>
      (e = .returned (.bool true) ∧ J (pre ++ [x]) W' ∧ Below n₀ W W') ∨ (e = .returned (.bool false) ∧ Jx (pre ++ [x]) W'))
    (W : World) (hBs : W.cell? ⟨Bs, 0, none⟩ = some (.slice (some ⟨b, off, none⟩) len cap)) (hc : ∀ j, j < len → W.cell? ⟨b, off + j, none⟩ = some (.int .i64 (zs[j]?.getD 0))) (h0 : J [] W) :
    CallsIn F n Tryd.prog 219 #[.func (.yield l) #[] #[], .pointer (some ⟨Bs, 0, none⟩)] W fun e W' => (∃ v, e = .returned v) ∧
      ((∃ ys, ys = upto (fun j => zs[j]?.getD 0) len ∧ J ys W') ∨ (∃ pre, (∃ k, k ≤ len ∧ pre = upto (fun j => zs[j]?.getD 0) k) ∧ Jx pre W')) := by
  refine callsIn_of_wp Tryd.func219 rfl h7 ?_ hro
  simp only [Tryd.ntmps219, List.size_toArray, List.length_cons, List.length_nil, Nat.reduceAdd, Nat.reduceSub, Array.replicate_succ, Array.replicate_zero, List.push_toArray, List.append_toArray, List.nil_append, List.cons_append]
  gi_wp2
  gi_loopw [7] (fun i wr => ∃ k : Nat, k ≤ len ∧ i = .int .i64 k ∧ J (upto (fun j => zs[j]?.getD 0) k) wr ∧ Below n₀ W wr)
    (fun i _ => len - (intOf i).toNat)
  case atStart => exact ⟨0, Nat.zero_le _, rfl, h0, Below.refl _ _⟩
  case round =>
    obtain ⟨k, hk, rfl, hJs, hnx⟩ := hrel
    have hcx : k < len → wr.cell? ⟨b, off + k, none⟩ = some (.int .i64 (zs[k]?.getD 0)) := fun h => (hnx.cell (p := ⟨b, off + k, none⟩) (hb.resolve_left (by omega))).trans (hc k h)
    by_cases hlt : k < len
    · obtain ⟨fn, tmps, assign, body, hy, hR⟩ := hY _ (zs[k]?.getD 0) wr hJs (by rw [upto_length]; exact hlt)
      have hcx' := hcx hlt
      gi_wp2
      refine hR.mono ?_
      rintro e W3 (⟨rfl, hJ3, hk3⟩ | ⟨rfl, hJx3⟩)
      · gi_wp2
        go_roundw
        case rel => exact ⟨k + 1, by omega, by simp, by rw [upto_succ]; exact hJ3, hnx.trans hk3⟩
        case measure => simp [intOf]; omega
      · gi_wp2
        refine bodyPost_ret (results_none rfl _ _ _) rfl ?_
        exact ⟨⟨_, rfl⟩, .inr ⟨_, ⟨k + 1, by omega, (upto_succ _ _).symm⟩, hJx3⟩⟩
    · obtain rfl : k = len := by omega
      gi_wp2
      go_end0
      exact ⟨⟨_, rfl⟩, .inl ⟨_, rfl, hJs⟩⟩

def Ints (n₀ : Nat) (W : World) (sv : Value) (zs : List Int) : Prop :=
  ((∃ a c, sv = .slice a 0 c) ∧ zs = []) ∨ ∃ b off cap, sv = .slice (some ⟨b, off, none⟩) zs.length cap ∧ (zs.length = 0 ∨ b < n₀) ∧ ∀ j, j < zs.length → W.cell? ⟨b, off + j, none⟩ = some (.int .i64 (zs[j]?.getD 0))
theorem Ints.below {n₀ : Nat} {A B : World} (h : Below n₀ A B) {sv : Value} {zs : List Int} : Ints n₀ A sv zs → Ints n₀ B sv zs
  | .inl e => .inl e
  | .inr ⟨b, off, cap, e, hb, hc⟩ => .inr ⟨b, off, cap, e, hb, fun j hj => (h.cell (p := ⟨b, off + j, none⟩) (hb.resolve_left (by omega))).trans (hc j hj)⟩

set_option maxRecDepth 100000 in
set_option maxHeartbeats 1000000 in
theorem values1_nil_in (F : Fence) (n : Nat) (h7 : F.fn 219) (hro : F.round = none) (l Bs : Nat) (J : List Int → World → Prop) (W : World) (a : Option Addr) (c : Nat) (hBs : W.cell? ⟨Bs, 0, none⟩ = some (.slice a 0 c)) (h0 : J [] W) :
    CallsIn F n Tryd.prog 219 #[.func (.yield l) #[] #[], .pointer (some ⟨Bs, 0, none⟩)] W fun e W' => (∃ v, e = .returned v) ∧ J [] W' := by
  refine callsIn_of_wp Tryd.func219 rfl h7 ?_ hro
  simp only [Tryd.ntmps219, List.size_toArray, List.length_cons, List.length_nil, Nat.reduceAdd, Nat.reduceSub, Array.replicate_succ, Array.replicate_zero, List.push_toArray, List.append_toArray, List.nil_append, List.cons_append]
  gi_wp2
  gi_loopw [7] (fun i wr => i = .int .i64 0 ∧ J [] wr) (fun _ _ => 0)
  case atStart => exact ⟨rfl, h0⟩
  case round =>
    obtain ⟨rfl, hJs⟩ := hrel
    gi_wp2
    go_end0
    exact ⟨⟨_, rfl⟩, hJs⟩

theorem values_stops (F : Fence) (n : Nat) (h7 : F.fn 219) (hro : F.round = none) (hn : 1 ≤ n) (Bs n₀ : Nat) (sv : Value) (zs : List Int) (hreach : zs.length * 8 ≤ 140737488351232) (w : World) (hBs : Bs < w.heap.size) (hn₀ : n₀ ≤ w.heap.size)
    (hc : w.cell? ⟨Bs, 0, none⟩ = some sv) (hI : Ints n₀ w sv zs) :
    SeqStopsK F n Tryd.prog 219 #[.pointer (some ⟨Bs, 0, none⟩)] (fun x : Int => #[Value.int .i64 x]) (Below n₀) (fun ys => ys = zs) (fun pre => pre <+: zs) zs.length w := fun l J Jx W hW _ _ hY h0 => by
  have hc' := (hW.cell (p := ⟨Bs, 0, none⟩) hBs).trans hc
  rcases hI.below (hW.mono hn₀) with ⟨⟨a, c, rfl⟩, rfl⟩ | ⟨b, off, cap, rfl, hb, hcs⟩
  · exact (values1_nil_in F n h7 hro l Bs J W a c hc' h0).mono fun e W' ⟨he, hj⟩ => ⟨he, .inl ⟨_, rfl, hj⟩⟩
  · refine (values1_in F n h7 hro hn l Bs n₀ b off zs.length cap zs hreach hb J Jx hY W hc' hcs h0).mono ?_
    rintro e W' ⟨he, ⟨ys, rfl, hj⟩ | ⟨pre, ⟨k, hk, rfl⟩, hj⟩⟩
    · exact ⟨he, .inl ⟨_, upto_all zs, hj⟩⟩
    · exact ⟨he, .inr ⟨_, by rw [upto_take zs hk]; exact List.take_prefix _ _, hj⟩⟩

theorem info2 : (Tryd.prog.info? 2).map (fun i => (i.zero, i.size, i.bytes)) = some (some (.int .i64 0), 1, 8) := by kernel_rfl

set_option maxRecDepth 100000 in
set_option maxHeartbeats 4000000 in
theorem AppendSeq_in (F : Fence) (n : Nat) (h3 : F.fn 279) (h5 : F.fn 219) (hro : F.round = none) (hn : 3 ≤ n) (Bs : Nat) (sv : Value) (xs : List Int) (hlen : xs.length ≤ maxLen) (hbytes : xs.length * 8 ≤ 140737488351232) (w : World) (hBs : Bs < w.heap.size) (hc : w.cell? ⟨Bs, 0, none⟩ = some sv) (hL : Ints w.heap.size w sv xs) :
    CallsIn F n Tryd.prog 279 #[.slice none 0 0, .func (.func 219) #[] #[.pointer (some ⟨Bs, 0, none⟩)]] w fun e W' => ∃ v, e = .returned v ∧ W'.ownsRow w.heap.size 2 1 v xs.length (xs.map (Value.int .i64)) ∧ Below w.heap.size w W' := by
  have h1 : 1 ≤ n := by omega
  obtain ⟨i0, hi, hz0, hz1, hz2⟩ := info_parts info2
  refine callsIn_of_wp_marks Tryd.func279 rfl h3 ?_ hro
  simp only [Tryd.ntmps279, List.size_toArray, List.length_cons, List.length_nil, Nat.reduceAdd, Nat.reduceSub, Array.replicate_succ, Array.replicate_zero, List.push_toArray, List.append_toArray, List.nil_append, List.cons_append]
  gi_wp2
  have bO := Boxed.new w 25 (.slice none 0 0)
  have hB0 : Below w.heap.size w (w.alloc (.cells #[.slice none 0 0] 25)) := (Below.refl _ w).alloc (Nat.le_refl _) _
  refine wpIn_rangeFunc_ownG hro h1 (gf := 219) (lb := #[.pointer (some ⟨Bs, 0, none⟩)]) rfl h5 (enters_of Tryd.func219 (by kernel_rfl) rfl)
    (values_stops F (n - 1) h5 hro (by omega) Bs w.heap.size sv xs hbytes _ (by simp; omega) (by simp) ((hB0.cell (p := ⟨Bs, 0, none⟩) hBs).trans hc) (hL.below hB0)) belowK_t (belowK_b (by simp)) (Below.refl _ _) (fun _ => rfl)
    (fun pre W => (∃ v, Boxed W w.heap.size 25 v ∧ W.ownsRow w.heap.size 2 1 v pre.length (pre.map (Value.int .i64)) ∧ (v = .slice none 0 0 ↔ pre = [])) ∧ Below w.heap.size w W)
    (fun _ _ _ => False)
    (OwnFrom.and (Own.from (holdsRow_own w.heap.size w.heap.size 25 2 1 (fun pre => pre.length) (fun pre => pre.map (Value.int .i64)) (fun pre v => v = .slice none 0 0 ↔ pre = [])) _) (ownFrom_below (Nat.le_refl _) (by simp)))
    (fun _ _ _ _ _ hs _ _ => hs)
    ⟨⟨_, bO, World.ownsRow_nil _ _ _ _, by simp⟩, hB0⟩
    (fun x => { tmps := #[.slice none 0 0, .func (.func 219) #[] #[.pointer (some ⟨Bs, 0, none⟩)], .pointer (some ⟨w.heap.size, 0, none⟩), undef, .slice none 0 0, .int .i64 x, .func (.func 219) #[] #[.pointer (some ⟨Bs, 0, none⟩)], .int .i64 x, undef, undef, undef, undef, undef], defers := [] }) ?assign ?body ?done ?stop
  case assign =>
    intro l x W K hK
    gi_wp2
    exact hK
  case body =>
    rintro l pre x W ⟨⟨v, hv, hrow, hnil⟩, hB⟩ hlt
    have hc := hv.cell
    gi_wp2_with (gi_at_builtin; refine wpListIn_append_own _ rfl _ _ 25 rfl w.heap.size 2 i0 (.int .i64 0) 1 8 Tryd.underlying25 hi hz0 hz1 hz2 rfl (by decide) _ _ _ rfl (hrow.alloc _) ⟨W.heap.size, 0, none⟩ 1 1 [.int .i64 x] rfl rfl (cell_one_new _ _ _) (by simp [Value.oneCell']) (by omega) (by omega) (by have := hB.size; simp; omega) ?_; intro v' w1 hown' hgrow _; obtain ⟨g', cap', rfl⟩ := ownsRow_succ hown'; obtain ⟨hv1, hv2, hr2, hk2, hb2⟩ := hv.appended (by decide) hrow hB.size (Nat.le_refl _) hown' hgrow; have hc1 := hv1.cell; have hf1 := hv1.frozen)
    exact ⟨hk2.from _, hb2, ⟨_, hv2, by simpa using hr2, by simp⟩, hB.trans hb2⟩
  case done =>
    rintro D ys W hD rfl ⟨⟨v, hv, hrow, hnil⟩, hB⟩ hK
    have hc := hv.cell
    gi_wp2
    refine ⟨by simp, .inl ⟨_, _, rfl, run_takeDeferred hK, ?_⟩⟩
    exact ⟨_, results_tmp rfl _ _ _, v, rfl, ownsRow_putObj hrow _ hK rfl, hB.trans (belowK_b (w := w) (Nat.le_refl _) W D _ _ (by simp at hD; omega) hK rfl rfl)⟩
  case stop =>
    rintro D c pre W _ _ h _
    exact h.elim

set_option maxHeartbeats 1000000 in
theorem values_in (F : Fence) (n : Nat) (h5 : F.fn 141) (hro : F.round = none) (a : Option Addr) (len cap : Nat) (w : World) :
    CallsIn F n Tryd.prog 141 #[.slice a len cap] w fun e w' => e = .returned (.func (.func 219) #[] #[.pointer (some ⟨w.heap.size, 0, none⟩)]) ∧ w' = w.alloc (.cells #[.slice a len cap] 25) := by
  refine callsIn_of_wp Tryd.func141 rfl h5 ?_ hro
  simp only [Tryd.ntmps141, List.size_toArray, List.length_cons, List.length_nil, Nat.reduceAdd, Nat.reduceSub, Array.replicate_succ, Array.replicate_zero, List.push_toArray, List.append_toArray, List.nil_append, List.cons_append]
  gi_wp2
  go_ret
  exact ⟨rfl, rfl⟩

open Go.Sx in
theorem Wk.slices_Values_int64_int64 {W w : World} {G : GH} {H : List Itm} {v : Value} {x : List Int} (m : Mem W G w H) (h : RSl (RI .i64) G v x) :
    Calls Tryd.prog 141 #[v] w (Res W G H (fun _ Ho r => ∃ b, Ho = [Itm.box b 25 [v]] ∧ .func (.func 219) #[] #[.pointer (some ⟨b, 0, none⟩)] = r)) := by
  obtain ⟨a, c, rfl, _, _⟩ := h.len
  refine (callsIn_wide (n := 3)).1 ((values_in Fence.wide 3 trivial rfl a x.length c w).mono ?_)
  rintro e w' ⟨rfl, rfl⟩
  exact ⟨_, rfl, G, [.box w.heap.size 25 [.slice a x.length c]], GLe.refl G, m.alloc 25 [.slice a x.length c], _, rfl, rfl⟩

open Go.Sx in
theorem Wk.slices_AppendSeq_int64_int64 {W w : World} {G : GH} {H : List Itm} {b0 : Nat} {v : Value} {x y : List Int} (m : Mem W G w (Itm.box b0 25 [v] :: H)) (h : RSl (RI .i64) G v x) (hy : D.slices_AppendSeq_int64_int64 x = some y) :
    Calls Tryd.prog 279 #[.slice none 0 0, .func (.func 219) #[] #[.pointer (some ⟨b0, 0, none⟩)]] w (Res W G H (fun G' Ho r => ∃ r' it, Ho = [it] ∧ r' = r ∧ Go.Sx.Ow (RI .i64) 2 G' it r' y)) := by
  unfold D.slices_AppendSeq_int64_int64 at hy
  split at hy
  · rename_i hx
    obtain rfl := Option.some.inj hy
    have hb0 : w.heap[b0]? = some (.cells #[v] 25 (0, 0)) := m.items 0 (.box b0 25 [v]) rfl
    have hc : w.cell? ⟨b0, 0, none⟩ = some v := by simp [World.cell?, hb0]
    have hl : b0 < w.heap.size := (Array.getElem?_eq_some_iff.1 hb0).1
    have hI : Ints w.heap.size w v x := by
      obtain ⟨vs, hA, h⟩ := h
      rcases h with ⟨rfl, rfl⟩ | ⟨⟨b, off, sp⟩, cap, rfl, h1, h2, h3⟩
      · exact .inl ⟨⟨_, _, rfl⟩, rfl⟩
      · rcases Nat.eq_zero_or_pos x.length with h0 | h0
        · refine .inl ⟨⟨_, _, by rw [h0]⟩, List.eq_nil_of_length_eq_zero h0⟩
        · obtain ⟨c, hc, _⟩ := hA.get (i := 0) (x := x[0]) (by simp [h0])
          obtain ⟨rfl, cs, t, f, k1, _⟩ := h3 0 c hc
          refine .inr ⟨b, off, cap, rfl, .inr (m.glt k1), fun j hj => ?_⟩
          obtain ⟨c, hc, hR⟩ := hA.get (i := j) (x := x[j]) (by simp [hj])
          have := (h3 j c hc).2.get m
          rw [this, show c = .int .i64 x[j] from hR]
          simp [hj]
    refine (callsIn_wide (n := 3)).1 ((AppendSeq_in Fence.wide 3 trivial trivial rfl (by omega) b0 v x (by unfold maxLen; omega) (by omega) w hl hc hI).mono ?_)
    rintro e w' ⟨r, rfl, hrow, hB⟩
    refine ⟨_, rfl, G, [.row r 2 1 x.length (x.map (Value.int .i64))], GLe.refl G, ?_, r, _, rfl, rfl, x.map (Value.int .i64), rfl, by simp, fun i c z h1 h2 => ?_⟩
    · refine m.tail.add hB.os hB.tape hB.output (fun z hz => hB.block z hz) ?_ ?_
      · refine ⟨hrow.1, ?_⟩
        rcases hrow.2 with hn | ⟨g, cap, cur, e1, _, e3⟩
        · exact .inl hn
        · exact .inr ⟨g, cap, cur, e1, Nat.zero_le _, e3⟩
      · intro z hz
        rcases hrow.2 with ⟨rfl, _⟩ | ⟨g, cap, cur, rfl, e2, e3⟩
        · simp [Itm.foot, Value.ownBlock] at hz
        · simp [Itm.foot, Value.ownBlock] at hz; omega
    · rw [List.getElem?_map, h2] at h1
      exact (Option.some.inj h1).symm
  · cases hy
end YteegnmdggpcphaaDoor
end Go.Proofs
