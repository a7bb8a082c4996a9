/- Parts of the proof: EED, EHandA, EHandB. -/
import Derived.Test.YtehnblgkgaakeaaDoorPb1
import Derived.Shelf.Small.Bits
import Derived.Test.YtehnblgkgaakeaaDoorProg
import Derived.RangeFuncBox
import Derived.RangeFuncLeaves
import Derived.Shelf.Abstract
import Derived.WalkKit
import Derived.OwnWalkIn
import Derived.TacticsInMore
import Derived.LoopNIn
import Derived.LoopIn
import Derived.Maps.AppendAt
set_option linter.unusedVariables false
set_option linter.unusedSimpArgs false
set_option linter.unusedSectionVars false
namespace Go.Sx

noncomputable def D.impl_Separation (x0_0 : (List (List Int))) (x1 : (List Int)) : Option (Int) :=
  (D.impl_OrderOk x0_0 x1).bind fun y_3 => cond (!y_3) (some (-1)) ((D.impl_netsOf x0_0).bind fun y_11 => (loopF (σ := Int × Int × Int) (ρ := (Int)) (fun (s_92 : Int × Int × Int) => match s_92 with | (x_95, x_96, x_97) => cond (decide (x_97 < (x1.length : Int))) ((idx x1 x_97).bind fun e_134 => (D.impl_one e_134).bind fun y_140 => (D.impl_openOf y_11 (ior .u32 x_95 y_140)).bind fun y_147 => (D.impl_vset_size y_147).bind fun y_157 => some (.inl ((ior .u32 x_95 y_140), (if x_96 < y_157 then y_157 else x_96), (IntKind.i64.wrap (x_97 + 1))))) (some (.inr x_96))) (0, 0, 0)).bind fun x_131 => some x_131)

noncomputable def D.spec_SetOk (x0_0 : (List (List Int))) (x1 : (List Int)) : Option (Bool) :=
  (D.spec_GraphOk x0_0).bind fun y_3 => (cond y_3 ((D.spec_l1Size x0_0).bind fun y_43 => (D.spec_l1Set x1 y_43).bind fun y_50 => some y_50) (some false)).bind fun b_41 => some b_41

noncomputable def D.spec_l12Whole (x0 : (List (List Int))) (x1 : Int) : Option (Bool) :=
  (loopF (σ := Int × Int × Int × Int) (ρ := (Int × Int × Int)) (fun (s_42 : Int × Int × Int × Int) => match s_42 with | (x_45, x_46, x_47, x_48) => cond (decide (x_48 < (x0.length : Int))) ((idx x0 x_48).bind fun e_72 => (D.spec_l1Has e_72 x1).bind fun y_78 => cond y_78 (cond (decide (x_45 < 0)) (some (.inl (x_48, x_48, (IntKind.i64.wrap (x_47 + 1)), (IntKind.i64.wrap (x_48 + 1))))) (some (.inl (x_45, x_48, (IntKind.i64.wrap (x_47 + 1)), (IntKind.i64.wrap (x_48 + 1)))))) (some (.inl (x_45, x_46, x_47, (IntKind.i64.wrap (x_48 + 1)))))) (some (.inr (x_45, x_46, x_47)))) ((-1), (-1), 0, 0)).bind fun (x_67, x_68, x_69) => some ((decide ((0 : Int) < x_69)) && ((IntKind.i64.wrap ((IntKind.i64.wrap (x_68 - x_67)) + 1)) == x_69))

noncomputable def D.spec_l12Bag (x0 : (List (List Int))) (x1 : Int) (x2 : Int) : Option (Bool) :=
  (loopF (σ := Int) (ρ := (Unit) ⊕ (Bool)) (fun (x_128 : Int) => cond (decide (x_128 < (x0.length : Int))) ((idx x0 x_128).bind fun e_192 => (D.spec_l1Has e_192 x1).bind fun y_198 => (cond y_198 ((idx x0 x_128).bind fun e_236 => (D.spec_l1Has e_236 x2).bind fun y_242 => some y_242) (some false)).bind fun b_234 => cond b_234 (some (.inr (.inr true))) (some (.inl (IntKind.i64.wrap (x_128 + 1))))) (some (.inr (.inl ())))) 0).bind fun zz => match zz with | .inl _ => (some false) | .inr z => (some z)

noncomputable def D.spec_PathBagsOk (x0_0 : (List (List Int))) (x1 : (List (List Int))) : Option (Bool) :=
  (D.spec_GraphOk x0_0).bind fun y_3 => cond ((!y_3) || (decide ((16 : Int) < (x1.length : Int)))) (some false) ((loopF (σ := Int) (ρ := (Unit) ⊕ (Bool)) (fun (x_81 : Int) => cond (decide (x_81 < (x1.length : Int))) ((idx x1 x_81).bind fun e_115 => (D.spec_SetOk x0_0 e_115).bind fun y_121 => (cond (!y_121) (some true) ((idx x1 x_81).bind fun e_134 => some ((e_134.length : Int) == 0))).bind fun b_132 => cond b_132 (some (.inr (.inr false))) (some (.inl (IntKind.i64.wrap (x_81 + 1))))) (some (.inr (.inl ())))) 0).bind fun zz => match zz with | .inl _ => ((loopF (σ := Int) (ρ := (Unit) ⊕ (Bool)) (fun (x_412 : Int) => cond (decide (x_412 < (x0_0.length : Int))) ((D.spec_l12Whole x1 x_412).bind fun y_547 => cond (!y_547) (some (.inr (.inr false))) ((loopF (σ := Int) (ρ := (Unit) ⊕ (Bool)) (fun (x_618 : Int) => (idx x0_0 x_412).bind fun e_649 => cond (decide (x_618 < (e_649.length : Int))) ((idx x0_0 x_412).bind fun e_656 => (idx e_656 x_618).bind fun e_662 => (D.spec_l12Bag x1 x_412 e_662).bind fun y_668 => cond (!y_668) (some (.inr (.inr false))) (some (.inl (IntKind.i64.wrap (x_618 + 1))))) (some (.inr (.inl ())))) 0).bind fun zz => match zz with | .inl _ => (some (.inl (IntKind.i64.wrap (x_412 + 1)))) | .inr z => (some (.inr (.inr z))))) (some (.inr (.inl ())))) 0).bind fun zz => match zz with | .inl _ => (some true) | .inr z => (some z)) | .inr z => (some z))

noncomputable def D.impl_bagMasks (x0 : (List (List Int))) : Option (((List Int))) :=
  (loopF (σ := (List Int) × Int) (ρ := ((List Int))) (fun (s_64 : (List Int) × Int) => match s_64 with | (l_67, x_72) => cond (decide (x_72 < (x0.length : Int))) ((idx x0 x_72).bind fun e_106 => (D.impl_maskOf e_106).bind fun y_112 => (appendD l_67 ([y_112] : List Int)).bind fun l_123 => some (.inl (l_123, (IntKind.i64.wrap (x_72 + 1))))) (some (.inr l_67))) (([] : List Int), 0)).bind fun l_99 => some l_99

noncomputable def D.impl_vset_has (x0 : Int) (x1 : Int) : Option (Bool) :=
  cond (decide (x1 < 0)) none (some ((iand .u32 (ishr .u32 x0 x1) 1) == 1))

noncomputable def D.impl_coversEdges (x0 : (List Int)) (x1 : (List Int)) : Option (Bool) :=
  (loopF (σ := Int) (ρ := (Unit) ⊕ (Bool)) (fun (x_198 : Int) => cond (decide (x_198 < (x0.length : Int))) ((idx x0 x_198).bind fun e_297 => (loopF (σ := Int × Int) (ρ := (Int)) (fun (s_340 : Int × Int) => match s_340 with | (x_343, x_344) => cond (decide (x_344 < (x1.length : Int))) ((idx x1 x_344).bind fun e_365 => (D.impl_vset_has e_365 x_198).bind fun y_371 => cond y_371 (some (.inl ((ior .u32 x_343 e_365), (IntKind.i64.wrap (x_344 + 1))))) (some (.inl (x_343, (IntKind.i64.wrap (x_344 + 1)))))) (some (.inr x_343))) (0, 0)).bind fun x_362 => (D.impl_vset_has x_362 x_198).bind fun y_379 => cond ((!y_379) || ((iandNot .u32 e_297 x_362) != 0)) (some (.inr (.inr false))) (some (.inl (IntKind.i64.wrap (x_198 + 1))))) (some (.inr (.inl ())))) 0).bind fun zz => match zz with | .inl _ => (some true) | .inr z => (some z)

noncomputable def D.impl_PathBagsOk (x0_0 : (List (List Int))) (x1 : (List (List Int))) : Option (Bool) :=
  (D.impl_GraphOk x0_0).bind fun y_3 => cond ((!y_3) || (decide ((16 : Int) < (x1.length : Int)))) (some false) ((loopF (σ := Int) (ρ := (Unit) ⊕ (Bool)) (fun (x_91 : Int) => cond (decide (x_91 < (x1.length : Int))) ((idx x1 x_91).bind fun e_130 => (cond ((e_130.length : Int) == 0) (some true) ((D.impl_increasing e_130 (x0_0.length : Int)).bind fun y_155 => some (!y_155))).bind fun b_153 => cond b_153 (some (.inr (.inr false))) (some (.inl (IntKind.i64.wrap (x_91 + 1))))) (some (.inr (.inl ())))) 0).bind fun zz => match zz with | .inl _ => ((D.impl_bagMasks x1).bind fun y_163 => (loopF (σ := Int × Int × Int) (ρ := (Unit) ⊕ (Bool)) (fun (s_198 : Int × Int × Int) => match s_198 with | (x_201, x_202, x_203) => cond (decide (x_203 < (y_163.length : Int))) ((idx y_163 x_203).bind fun e_216 => cond ((iand .u32 e_216 x_202) != 0) (some (.inr (.inr false))) (some (.inl (e_216, (ior .u32 x_202 (iandNot .u32 x_201 e_216)), (IntKind.i64.wrap (x_203 + 1)))))) (some (.inr (.inl ())))) (0, 0, 0)).bind fun zz => match zz with | .inl _ => ((D.impl_netsOf x0_0).bind fun y_223 => (D.impl_coversEdges y_223 y_163).bind fun y_234 => some y_234) | .inr z => (some z)) | .inr z => (some z))

noncomputable def D.impl_BagsWidth_1 (x0 : (List Int)) : Option (Bool) :=
  some (decide ((16 : Int) < (x0.length : Int)))

noncomputable def D.impl_largestBag (x0 : (List (List Int))) : Option (Int) :=
  cond ((decide ((x0.length : Int) < 1)) || (decide ((16 : Int) < (x0.length : Int)))) (some (-1)) ((loopF (σ := Int × Int) (ρ := (Int)) (fun (s_26 : Int × Int) => match s_26 with | (x_29, x_30) => cond (decide (x_30 < (x0.length : Int))) ((idx x0 x_30).bind fun e_43 => some (.inl ((if x_29 < (e_43.length : Int) then (e_43.length : Int) else x_29), (IntKind.i64.wrap (x_30 + 1))))) (some (.inr x_29))) (0, 0)).bind fun x_40 => some (IntKind.i64.wrap (x_40 - 1)))

noncomputable def D.slices_IndexFunc_int64_int64__impl_BagsWidth_1 (x0 : (List (List Int))) : Option (Int) :=
  (loopF (σ := Int) (ρ := (Unit) ⊕ (Int)) (fun (x_40 : Int) => cond (decide (x_40 < (x0.length : Int))) ((idx x0 x_40).bind fun e_60 => (D.impl_BagsWidth_1 e_60).bind fun y_66 => cond y_66 (some (.inr (.inr x_40))) (some (.inl (IntKind.i64.wrap (x_40 + 1))))) (some (.inr (.inl ())))) 0).bind fun zz => match zz with | .inl _ => (some (-1)) | .inr z => (some z)

noncomputable def D.slices_ContainsFunc_int64_int64__impl_BagsWidth_1 (x0 : (List (List Int))) : Option (Bool) :=
  (D.slices_IndexFunc_int64_int64__impl_BagsWidth_1 x0).bind fun y_1 => some (decide ((0 : Int) ≤ y_1))

noncomputable def D.impl_BagsWidth (x0 : (List (List Int))) : Option (Int) :=
  (D.slices_ContainsFunc_int64_int64__impl_BagsWidth_1 x0).bind fun y_1 => cond y_1 (some (-1)) ((D.impl_largestBag x0).bind fun y_9 => some y_9)

noncomputable def D.impl_OrderOfBags (x0_0 : (List (List Int))) (x1 : (List (List Int))) : Option (((List Int))) :=
  (D.impl_PathBagsOk x0_0 x1).bind fun y_3 => cond (!y_3) (some ([] : List Int)) ((D.impl_bagMasks x1).bind fun y_18 => (loopF (σ := (List Int) × Int × Int) (ρ := ((List Int))) (fun (s_89 : (List Int) × Int × Int) => match s_89 with | (l_92, x_97, x_98) => cond (decide (x_98 < (y_18.length : Int))) ((idx y_18 x_98).bind fun e_132 => (D.impl_vset_list (iandNot .u32 e_132 x_97)).bind fun y_138 => (appendD l_92 y_138).bind fun l_149 => some (.inl (l_149, (ior .u32 x_97 e_132), (IntKind.i64.wrap (x_98 + 1))))) (some (.inr l_92))) (([] : List Int), 0, 0)).bind fun l_125 => (D.impl_wide l_125).bind fun y_155 => some y_155)

noncomputable def D.spec_OpenOf (x0_0 : (List (List Int))) (x1 : (List Int)) : Option (((List Int))) :=
  (D.spec_GraphOk x0_0).bind fun y_3 => (cond (!y_3) (some true) ((D.spec_SetOk x0_0 x1).bind fun y_29 => some (!y_29))).bind fun b_27 => cond b_27 (some ([] : List Int)) ((D.spec_l12Open x0_0 x1).bind fun y_44 => some y_44)

noncomputable def D.laws_FnPathBags (x0 : (List Int)) : Option (Bool) :=
  (D.laws_big x0).bind fun y_1 => cond y_1 (some true) ((D.laws_roll x0 1001).bind fun y_9 => (D.laws_w9Graph y_9.1 y_9.2.1 y_9.2.2 7).bind fun y_20 => (D.laws_w9Order y_20.2.1 y_20.2.2.1 y_20.2.2.2 (y_20.1.length : Int)).bind fun y_35 => (D.impl_PathBags y_20.1 y_35.1).bind fun y_48 => (D.impl_Separation y_20.1 y_35.1).bind fun y_65 => (D.spec_PathBagsOk y_20.1 y_48).bind fun y_78 => (cond (!y_78) (some true) ((D.impl_PathBagsOk y_20.1 y_48).bind fun y_122 => some (!y_122))).bind fun b_120 => (cond b_120 (some true) ((D.impl_BagsWidth y_48).bind fun y_160 => some (y_160 != y_65))).bind fun b_158 => cond b_158 (some false) ((D.impl_OrderOfBags y_20.1 y_48).bind fun y_171 => (D.spec_OrderOk y_20.1 y_171).bind fun y_280 => (cond y_280 ((D.spec_Separation y_20.1 y_171).bind fun y_296 => some (decide (y_296 ≤ y_65))) (some false)).bind fun b_294 => cond b_294 ((sliceD y_35.1 0 1).bind fun l_303 => (D.spec_OpenOf y_20.1 l_303).bind fun y_310 => some (decide ((y_310.length : Int) ≤ y_65))) (some false)))
end Go.Sx

namespace Go.Proofs
open Go.Shelf
def Tryd.lays125_ren : Go.Shelf.Ren := ⟨fun | 125 => 129 | 128 => 141 | 129 => 142 | n => n, fun | 46 => 111 | 3 => 3 | 51 => 65 | 53 => 26 | 4 => 4 | 5 => 5 | 9 => 9 | n => n, fun | n => n⟩
theorem Tryd.lays125 : Go.Proofs.Lays.n125 Tryd.prog Tryd.lays125_ren := {
  mixed := by kernel_rfl
  f125 := Tryd.func129.trans (congrArg some (by kernel_rfl))
  f128 := Tryd.func141.trans (congrArg some (by kernel_rfl))
  f129 := Tryd.func142.trans (congrArg some (by kernel_rfl))
  t3 := Tryd.underlying3
  a3 := Tryd.isAgg3
  z3 := Tryd.sizeOf3
  v3 := Tryd.zeroValue3
  t4 := Tryd.underlying4
  a4 := Tryd.isAgg4
  z4 := Tryd.sizeOf4
  v4 := Tryd.zeroValue4
  t5 := Tryd.underlying5
  a5 := Tryd.isAgg5
  z5 := Tryd.sizeOf5
  v5 := Tryd.zeroValue5
  t9 := Tryd.underlying9
  a9 := Tryd.isAgg9
  z9 := Tryd.sizeOf9
  v9 := Tryd.zeroValue9
  t46 := Tryd.underlying111
  a46 := Tryd.isAgg111
  z46 := Tryd.sizeOf111
  v46 := Tryd.zeroValue111
  t51 := Tryd.underlying65
  a51 := Tryd.isAgg65
  z51 := Tryd.sizeOf65
  v51 := Tryd.zeroValue65
  t53 := Tryd.underlying26
  a53 := Tryd.isAgg26
  z53 := Tryd.sizeOf26
  v53 := Tryd.zeroValue26 }
theorem Tryd.bits_Len (x : Int) (w : World) (h0 : 0 ≤ x) (h1 : x ≤ 18446744073709551615) :
    Calls Tryd.prog 129 #[.int .u64 x] w fun e w' => e = .returned (.int .i64 (Lib.bitLen x.toNat)) ∧ w' = w := Any.bits_Len Tryd.lays125 x w h0 h1
end Go.Proofs
namespace Go.Proofs.YtehnblgkgaakeaaDoor
open Go Go.Sx
theorem Wk.math_bits_Len {W w : World} {G : GH} {H : List Itm} {x0 : Int} (m : Mem W G w H) {y : Int} (hd : D.math_bits_Len x0 = some y) :
    Calls Tryd.prog 129 #[(.int .u64 x0)] w (Res W G H (fun _ Ho v => Ho = [] ∧ v = (.int .i64 y))) := by
  unfold D.math_bits_Len at hd
  split at hd
  · rename_i h
    obtain rfl := Option.some.inj hd
    exact (Tryd.bits_Len x0 w h.1 h.2).mono (fun e w' ⟨he, hw⟩ => by subst hw; exact ⟨_, he, G, [], GLe.refl G, m, rfl, rfl⟩)
  · cases hd
end Go.Proofs.YtehnblgkgaakeaaDoor

namespace Go.Proofs
open Go.RowKit Go.Shelf
attribute [local go_sem] Oper.semAt_some
namespace YtehnblgkgaakeaaDoor

def upto {α : Type} (f : Nat → α) (k : Nat) : List α := (List.range k).map f
theorem upto_succ {α : Type} (f : Nat → α) (k : Nat) : upto f (k + 1) = upto f k ++ [f k] := by simp [upto, List.range_succ]
theorem upto_length {α : Type} (f : Nat → α) (k : Nat) : (upto f k).length = k := by simp [upto]
theorem upto_all (zs : List Int) : upto (fun j => zs[j]?.getD 0) zs.length = zs := by
  apply List.ext_getElem
  · simp [upto]
  · intro i h1 h2
    simp [upto, h2]
theorem upto_take (zs : List Int) {k : Nat} (hk : k ≤ zs.length) : upto (fun j => zs[j]?.getD 0) k = zs.take k := by
  apply List.ext_getElem
  · simp [upto, hk]
  · intro i h1 h2
    have : i < zs.length := by simp [upto] at h1; omega
    simp [upto, this]

set_option maxRecDepth 100000 in
set_option maxHeartbeats 2000000 in
theorem values1_in (F : Fence) (n : Nat) (h7 : F.fn 112) (hro : F.round = none) (hn : 1 ≤ n) (l Bs n₀ b off len cap : Nat) (zs : List Int) (hreach : len * 8 ≤ 140737488351232) (hb : len = 0 ∨ b < n₀) (J Jx : List Int → World → Prop)
    (hY : ∀ pre x W, J pre W → pre.length < len → YieldAt F (n - 1) Tryd.prog l #[.int .i64 x] W fun e W' =>
      (e = .returned (.bool true) ∧ J (pre ++ [x]) W' ∧ Below n₀ W W') ∨ (e = .returned (.bool false) ∧ Jx (pre ++ [x]) W'))
    (W : World) (hBs : W.cell? ⟨Bs, 0, none⟩ = some (.slice (some ⟨b, off, none⟩) len cap)) (hc : ∀ j, j < len → W.cell? ⟨b, off + j, none⟩ = some (.int .i64 (zs[j]?.getD 0))) (h0 : J [] W) :
    CallsIn F n Tryd.prog 112 #[.func (.yield l) #[] #[], .pointer (some ⟨Bs, 0, none⟩)] W fun e W' => (∃ v, e = .returned v) ∧
      ((∃ ys, ys = upto (fun j => zs[j]?.getD 0) len ∧ J ys W') ∨ (∃ pre, (∃ k, k ≤ len ∧ pre = upto (fun j => zs[j]?.getD 0) k) ∧ Jx pre W')) := by
  refine callsIn_of_wp Tryd.func112 rfl h7 ?_ hro
  simp only [Tryd.ntmps112, List.size_toArray, List.length_cons, List.length_nil, Nat.reduceAdd, Nat.reduceSub, Array.replicate_succ, Array.replicate_zero, List.push_toArray, List.append_toArray, List.nil_append, List.cons_append]
  gi_wp2
  gi_loopw [7] (fun i wr => ∃ k : Nat, k ≤ len ∧ i = .int .i64 k ∧ J (upto (fun j => zs[j]?.getD 0) k) wr ∧ Below n₀ W wr)
    (fun i _ => len - (intOf i).toNat)
  case atStart => exact ⟨0, Nat.zero_le _, rfl, h0, Below.refl _ _⟩
  case round =>
    obtain ⟨k, hk, rfl, hJs, hnx⟩ := hrel
    have hcx : k < len → wr.cell? ⟨b, off + k, none⟩ = some (.int .i64 (zs[k]?.getD 0)) := fun h => (hnx.cell (p := ⟨b, off + k, none⟩) (hb.resolve_left (by omega))).trans (hc k h)
    by_cases hlt : k < len
    · obtain ⟨fn, tmps, assign, body, hy, hR⟩ := hY _ (zs[k]?.getD 0) wr hJs (by rw [upto_length]; exact hlt)
      have hcx' := hcx hlt
      gi_wp2
      refine hR.mono ?_
      rintro e W3 (⟨rfl, hJ3, hk3⟩ | ⟨rfl, hJx3⟩)
      · gi_wp2
        go_roundw
        case rel => exact ⟨k + 1, by omega, by simp, by rw [upto_succ]; exact hJ3, hnx.trans hk3⟩
        case measure => simp [intOf]; omega
      · gi_wp2
        refine bodyPost_ret (results_none rfl _ _ _) rfl ?_
        exact ⟨⟨_, rfl⟩, .inr ⟨_, ⟨k + 1, by omega, (upto_succ _ _).symm⟩, hJx3⟩⟩
    · obtain rfl : k = len := by omega
      gi_wp2
      go_end0
      exact ⟨⟨_, rfl⟩, .inl ⟨_, rfl, hJs⟩⟩

def Ints (n₀ : Nat) (W : World) (sv : Value) (zs : List Int) : Prop :=
  ((∃ a c, sv = .slice a 0 c) ∧ zs = []) ∨ ∃ b off cap, sv = .slice (some ⟨b, off, none⟩) zs.length cap ∧ (zs.length = 0 ∨ b < n₀) ∧ ∀ j, j < zs.length → W.cell? ⟨b, off + j, none⟩ = some (.int .i64 (zs[j]?.getD 0))
theorem Ints.below {n₀ : Nat} {A B : World} (h : Below n₀ A B) {sv : Value} {zs : List Int} : Ints n₀ A sv zs → Ints n₀ B sv zs
  | .inl e => .inl e
  | .inr ⟨b, off, cap, e, hb, hc⟩ => .inr ⟨b, off, cap, e, hb, fun j hj => (h.cell (p := ⟨b, off + j, none⟩) (hb.resolve_left (by omega))).trans (hc j hj)⟩

set_option maxRecDepth 100000 in
set_option maxHeartbeats 1000000 in
theorem values1_nil_in (F : Fence) (n : Nat) (h7 : F.fn 112) (hro : F.round = none) (l Bs : Nat) (J : List Int → World → Prop) (W : World) (a : Option Addr) (c : Nat) (hBs : W.cell? ⟨Bs, 0, none⟩ = some (.slice a 0 c)) (h0 : J [] W) :
    CallsIn F n Tryd.prog 112 #[.func (.yield l) #[] #[], .pointer (some ⟨Bs, 0, none⟩)] W fun e W' => (∃ v, e = .returned v) ∧ J [] W' := by
  refine callsIn_of_wp Tryd.func112 rfl h7 ?_ hro
  simp only [Tryd.ntmps112, List.size_toArray, List.length_cons, List.length_nil, Nat.reduceAdd, Nat.reduceSub, Array.replicate_succ, Array.replicate_zero, List.push_toArray, List.append_toArray, List.nil_append, List.cons_append]
  gi_wp2
  gi_loopw [7] (fun i wr => i = .int .i64 0 ∧ J [] wr) (fun _ _ => 0)
  case atStart => exact ⟨rfl, h0⟩
  case round =>
    obtain ⟨rfl, hJs⟩ := hrel
    gi_wp2
    go_end0
    exact ⟨⟨_, rfl⟩, hJs⟩

theorem values_stops (F : Fence) (n : Nat) (h7 : F.fn 112) (hro : F.round = none) (hn : 1 ≤ n) (Bs n₀ : Nat) (sv : Value) (zs : List Int) (hreach : zs.length * 8 ≤ 140737488351232) (w : World) (hBs : Bs < w.heap.size) (hn₀ : n₀ ≤ w.heap.size)
    (hc : w.cell? ⟨Bs, 0, none⟩ = some sv) (hI : Ints n₀ w sv zs) :
    SeqStopsK F n Tryd.prog 112 #[.pointer (some ⟨Bs, 0, none⟩)] (fun x : Int => #[Value.int .i64 x]) (Below n₀) (fun ys => ys = zs) (fun pre => pre <+: zs) zs.length w := fun l J Jx W hW _ _ hY h0 => by
  have hc' := (hW.cell (p := ⟨Bs, 0, none⟩) hBs).trans hc
  rcases hI.below (hW.mono hn₀) with ⟨⟨a, c, rfl⟩, rfl⟩ | ⟨b, off, cap, rfl, hb, hcs⟩
  · exact (values1_nil_in F n h7 hro l Bs J W a c hc' h0).mono fun e W' ⟨he, hj⟩ => ⟨he, .inl ⟨_, rfl, hj⟩⟩
  · refine (values1_in F n h7 hro hn l Bs n₀ b off zs.length cap zs hreach hb J Jx hY W hc' hcs h0).mono ?_
    rintro e W' ⟨he, ⟨ys, rfl, hj⟩ | ⟨pre, ⟨k, hk, rfl⟩, hj⟩⟩
    · exact ⟨he, .inl ⟨_, upto_all zs, hj⟩⟩
    · exact ⟨he, .inr ⟨_, by rw [upto_take zs hk]; exact List.take_prefix _ _, hj⟩⟩

theorem info2 : (Tryd.prog.info? 2).map (fun i => (i.zero, i.size, i.bytes)) = some (some (.int .i64 0), 1, 8) := by kernel_rfl

set_option maxRecDepth 100000 in
set_option maxHeartbeats 4000000 in
theorem AppendSeq_in (F : Fence) (n : Nat) (h3 : F.fn 127) (h5 : F.fn 112) (hro : F.round = none) (hn : 3 ≤ n) (Bs : Nat) (sv : Value) (xs : List Int) (hlen : xs.length ≤ maxLen) (hbytes : xs.length * 8 ≤ 140737488351232) (w : World) (hBs : Bs < w.heap.size) (hc : w.cell? ⟨Bs, 0, none⟩ = some sv) (hL : Ints w.heap.size w sv xs) :
    CallsIn F n Tryd.prog 127 #[.slice none 0 0, .func (.func 112) #[] #[.pointer (some ⟨Bs, 0, none⟩)]] w fun e W' => ∃ v, e = .returned v ∧ W'.ownsRow w.heap.size 2 1 v xs.length (xs.map (Value.int .i64)) ∧ Below w.heap.size w W' := by
  have h1 : 1 ≤ n := by omega
  obtain ⟨i0, hi, hz0, hz1, hz2⟩ := info_parts info2
  refine callsIn_of_wp_marks Tryd.func127 rfl h3 ?_ hro
  simp only [Tryd.ntmps127, List.size_toArray, List.length_cons, List.length_nil, Nat.reduceAdd, Nat.reduceSub, Array.replicate_succ, Array.replicate_zero, List.push_toArray, List.append_toArray, List.nil_append, List.cons_append]
  gi_wp2
  have bO := Boxed.new w 31 (.slice none 0 0)
  have hB0 : Below w.heap.size w (w.alloc (.cells #[.slice none 0 0] 31)) := (Below.refl _ w).alloc (Nat.le_refl _) _
  refine wpIn_rangeFunc_ownG hro h1 (gf := 112) (lb := #[.pointer (some ⟨Bs, 0, none⟩)]) rfl h5 (enters_of Tryd.func112 (by kernel_rfl) rfl)
    (values_stops F (n - 1) h5 hro (by omega) Bs w.heap.size sv xs hbytes _ (by simp; omega) (by simp) ((hB0.cell (p := ⟨Bs, 0, none⟩) hBs).trans hc) (hL.below hB0)) belowK_t (belowK_b (by simp)) (Below.refl _ _) (fun _ => rfl)
    (fun pre W => (∃ v, Boxed W w.heap.size 31 v ∧ W.ownsRow w.heap.size 2 1 v pre.length (pre.map (Value.int .i64)) ∧ (v = .slice none 0 0 ↔ pre = [])) ∧ Below w.heap.size w W)
    (fun _ _ _ => False)
    (OwnFrom.and (Own.from (holdsRow_own w.heap.size w.heap.size 31 2 1 (fun pre => pre.length) (fun pre => pre.map (Value.int .i64)) (fun pre v => v = .slice none 0 0 ↔ pre = [])) _) (ownFrom_below (Nat.le_refl _) (by simp)))
    (fun _ _ _ _ _ hs _ _ => hs)
    ⟨⟨_, bO, World.ownsRow_nil _ _ _ _, by simp⟩, hB0⟩
    (fun x => { tmps := #[.slice none 0 0, .func (.func 112) #[] #[.pointer (some ⟨Bs, 0, none⟩)], .pointer (some ⟨w.heap.size, 0, none⟩), undef, .slice none 0 0, .int .i64 x, .func (.func 112) #[] #[.pointer (some ⟨Bs, 0, none⟩)], .int .i64 x, undef, undef, undef, undef, undef], defers := [] }) ?assign ?body ?done ?stop
  case assign =>
    intro l x W K hK
    gi_wp2
    exact hK
  case body =>
    rintro l pre x W ⟨⟨v, hv, hrow, hnil⟩, hB⟩ hlt
    have hc := hv.cell
    gi_wp2_with (gi_at_builtin; refine wpListIn_append_own _ rfl _ _ 31 rfl w.heap.size 2 i0 (.int .i64 0) 1 8 Tryd.underlying31 hi hz0 hz1 hz2 rfl (by decide) _ _ _ rfl (hrow.alloc _) ⟨W.heap.size, 0, none⟩ 1 1 [.int .i64 x] rfl rfl (cell_one_new _ _ _) (by simp [Value.oneCell']) (by omega) (by omega) (by have := hB.size; simp; omega) ?_; intro v' w1 hown' hgrow _; obtain ⟨g', cap', rfl⟩ := ownsRow_succ hown'; obtain ⟨hv1, hv2, hr2, hk2, hb2⟩ := hv.appended (by decide) hrow hB.size (Nat.le_refl _) hown' hgrow; have hc1 := hv1.cell; have hf1 := hv1.frozen)
    exact ⟨hk2.from _, hb2, ⟨_, hv2, by simpa using hr2, by simp⟩, hB.trans hb2⟩
  case done =>
    rintro D ys W hD rfl ⟨⟨v, hv, hrow, hnil⟩, hB⟩ hK
    have hc := hv.cell
    gi_wp2
    refine ⟨by simp, .inl ⟨_, _, rfl, run_takeDeferred hK, ?_⟩⟩
    exact ⟨_, results_tmp rfl _ _ _, v, rfl, ownsRow_putObj hrow _ hK rfl, hB.trans (belowK_b (w := w) (Nat.le_refl _) W D _ _ (by simp at hD; omega) hK rfl rfl)⟩
  case stop =>
    rintro D c pre W _ _ h _
    exact h.elim

set_option maxHeartbeats 1000000 in
theorem values_in (F : Fence) (n : Nat) (h5 : F.fn 74) (hro : F.round = none) (a : Option Addr) (len cap : Nat) (w : World) :
    CallsIn F n Tryd.prog 74 #[.slice a len cap] w fun e w' => e = .returned (.func (.func 112) #[] #[.pointer (some ⟨w.heap.size, 0, none⟩)]) ∧ w' = w.alloc (.cells #[.slice a len cap] 31) := by
  refine callsIn_of_wp Tryd.func74 rfl h5 ?_ hro
  simp only [Tryd.ntmps74, List.size_toArray, List.length_cons, List.length_nil, Nat.reduceAdd, Nat.reduceSub, Array.replicate_succ, Array.replicate_zero, List.push_toArray, List.append_toArray, List.nil_append, List.cons_append]
  gi_wp2
  go_ret
  exact ⟨rfl, rfl⟩

open Go.Sx in
theorem Wk.slices_Values_int64_int64 {W w : World} {G : GH} {H : List Itm} {v : Value} {x : List Int} (m : Mem W G w H) (h : RSl (RI .i64) G v x) :
    Calls Tryd.prog 74 #[v] w (Res W G H (fun _ Ho r => ∃ b, Ho = [Itm.box b 31 [v]] ∧ .func (.func 112) #[] #[.pointer (some ⟨b, 0, none⟩)] = r)) := by
  obtain ⟨a, c, rfl, _, _⟩ := h.len
  refine (callsIn_wide (n := 3)).1 ((values_in Fence.wide 3 trivial rfl a x.length c w).mono ?_)
  rintro e w' ⟨rfl, rfl⟩
  exact ⟨_, rfl, G, [.box w.heap.size 31 [.slice a x.length c]], GLe.refl G, m.alloc 31 [.slice a x.length c], _, rfl, rfl⟩

open Go.Sx in
theorem Wk.slices_AppendSeq_int64_int64 {W w : World} {G : GH} {H : List Itm} {b0 : Nat} {v : Value} {x y : List Int} (m : Mem W G w (Itm.box b0 31 [v] :: H)) (h : RSl (RI .i64) G v x) (hy : D.slices_AppendSeq_int64_int64 x = some y) :
    Calls Tryd.prog 127 #[.slice none 0 0, .func (.func 112) #[] #[.pointer (some ⟨b0, 0, none⟩)]] w (Res W G H (fun G' Ho r => ∃ r' it, Ho = [it] ∧ r' = r ∧ Go.Sx.Ow (RI .i64) 2 G' it r' y)) := by
  unfold D.slices_AppendSeq_int64_int64 at hy
  split at hy
  · rename_i hx
    obtain rfl := Option.some.inj hy
    have hb0 : w.heap[b0]? = some (.cells #[v] 31 (0, 0)) := m.items 0 (.box b0 31 [v]) rfl
    have hc : w.cell? ⟨b0, 0, none⟩ = some v := by simp [World.cell?, hb0]
    have hl : b0 < w.heap.size := (Array.getElem?_eq_some_iff.1 hb0).1
    have hI : Ints w.heap.size w v x := by
      obtain ⟨vs, hA, h⟩ := h
      rcases h with ⟨rfl, rfl⟩ | ⟨⟨b, off, sp⟩, cap, rfl, h1, h2, h3⟩
      · exact .inl ⟨⟨_, _, rfl⟩, rfl⟩
      · rcases Nat.eq_zero_or_pos x.length with h0 | h0
        · refine .inl ⟨⟨_, _, by rw [h0]⟩, List.eq_nil_of_length_eq_zero h0⟩
        · obtain ⟨c, hc, _⟩ := hA.get (i := 0) (x := x[0]) (by simp [h0])
          obtain ⟨rfl, cs, t, f, k1, _⟩ := h3 0 c hc
          refine .inr ⟨b, off, cap, rfl, .inr (m.glt k1), fun j hj => ?_⟩
          obtain ⟨c, hc, hR⟩ := hA.get (i := j) (x := x[j]) (by simp [hj])
          have := (h3 j c hc).2.get m
          rw [this, show c = .int .i64 x[j] from hR]
          simp [hj]
    refine (callsIn_wide (n := 3)).1 ((AppendSeq_in Fence.wide 3 trivial trivial rfl (by omega) b0 v x (by unfold maxLen; omega) (by omega) w hl hc hI).mono ?_)
    rintro e w' ⟨r, rfl, hrow, hB⟩
    refine ⟨_, rfl, G, [.row r 2 1 x.length (x.map (Value.int .i64))], GLe.refl G, ?_, r, _, rfl, rfl, x.map (Value.int .i64), rfl, by simp, fun i c z h1 h2 => ?_⟩
    · refine m.tail.add hB.os hB.tape hB.output (fun z hz => hB.block z hz) ?_ ?_
      · refine ⟨hrow.1, ?_⟩
        rcases hrow.2 with hn | ⟨g, cap, cur, e1, _, e3⟩
        · exact .inl hn
        · exact .inr ⟨g, cap, cur, e1, Nat.zero_le _, e3⟩
      · intro z hz
        rcases hrow.2 with ⟨rfl, _⟩ | ⟨g, cap, cur, rfl, e2, e3⟩
        · simp [Itm.foot, Value.ownBlock] at hz
        · simp [Itm.foot, Value.ownBlock] at hz; omega
    · rw [List.getElem?_map, h2] at h1
      exact (Option.some.inj h1).symm
  · cases hy
end YtehnblgkgaakeaaDoor
end Go.Proofs
