/- Parts of the proof: DC4, SxH, SxP, SxG, Sr, DF1, SxN, SxDel, DF2, DF3, Sll, DF4, DG1, Spr, SxPA, DG2, DH1, Swd, PAD, PBD, PCD, PDD, PED, PHandA, PHandB, Qa, S1D, Ga, Gb, Gc, Gd, Ge, Pa, Pb, Pc, Pd, Pe, Gf, Gh, Gg, Xb. -/
import Derived.Test.YtkffjeaefgfnnaaDoorPr1
import Derived.Maps.AppendAt
import Derived.Shelf.Small.Bits
import Derived.Test.YtkffjeaefgfnnaaDoorProg
import Derived.RangeFuncBox
import Derived.RangeFuncLeaves
import Derived.Shelf.Abstract
import Derived.WalkKit
import Derived.OwnWalkIn
import Derived.TacticsInMore
import Derived.LoopNIn
import Derived.LoopIn
import Derived.KernelRfl
set_option linter.unusedVariables false
set_option linter.unusedSimpArgs false
set_option linter.unusedSectionVars false
namespace Go.Sx

noncomputable def D.b0 (x0_0 : (List (List Int))) : Option (((List Int))) :=
  (loopF (σ := (List Int) × Int) (ρ := ((List Int))) (fun (s_40 : (List Int) × Int) => match s_40 with | (l_43, x_48) => cond (decide (x_48 < (x0_0.length : Int))) ((appendD l_43 ([x_48] : List Int)).bind fun l_73 => some (.inl (l_73, (IntKind.i64.wrap (x_48 + 1))))) (some (.inr l_43))) (([] : List Int), 0)).bind fun l_62 => some l_62

noncomputable def D.u (x0_0 : (List (List Int))) (x1 : (List Int)) (x2 : Int) (x3 : Int) : Option (((List Int))) :=
  (loopF (σ := (List Int) × Int) (ρ := ((List Int))) (fun (s_130 : (List Int) × Int) => match s_130 with | (l_133, x_138) => (idx x0_0 x2).bind fun e_203 => cond (decide (x_138 < (e_203.length : Int))) ((idx x0_0 x2).bind fun e_210 => (idx e_210 x_138).bind fun e_216 => (cond (e_216 != x3) ((D.e x1 e_216).bind fun y_241 => some y_241) (some false)).bind fun b_239 => cond b_239 ((appendD l_133 ([e_216] : List Int)).bind fun l_253 => some (.inl (l_253, (IntKind.i64.wrap (x_138 + 1))))) (some (.inl (l_133, (IntKind.i64.wrap (x_138 + 1)))))) (some (.inr l_133))) (([] : List Int), 0)).bind fun l_197 => some l_197

noncomputable def D.f (x0 : (List Int)) (x1 : (List Int)) : Option (Bool) :=
  cond ((x0.length : Int) != (x1.length : Int)) (some false) ((loopF (σ := Int) (ρ := (Unit) ⊕ (Bool)) (fun (x_43 : Int) => cond (decide (x_43 < (x0.length : Int))) ((idx x0 x_43).bind fun e_64 => (idx x1 x_43).bind fun e_70 => cond (e_64 != e_70) (some (.inr (.inr false))) (some (.inl (IntKind.i64.wrap (x_43 + 1))))) (some (.inr (.inl ())))) 0).bind fun zz => match zz with | .inl _ => (some true) | .inr z => (some z))

noncomputable def D.T (x0_0 : (List (List Int))) (x1 : (List Int)) (x2_0 : Int) (x2_1 : Int) (x2_2 : Int) : Option (Bool) :=
  (D.u x0_0 x1 x2_0 x2_1).bind fun y_5 => cond (x2_2 == 1) (some ((x2_1 == (-1)) && ((y_5.length : Int) == 0))) ((cond (x2_1 == x2_0) (some true) ((D.e x1 x2_1).bind fun y_39 => some (!y_39))).bind fun b_37 => cond b_37 (some false) ((idx x0_0 x2_0).bind fun e_47 => (D.e e_47 x2_1).bind fun y_53 => cond (x2_2 == 2) (some (y_53 && ((y_5.length : Int) == 0))) (cond (x2_2 == 3) ((cond (!y_53) ((D.u x0_0 x1 x2_1 x2_0).bind fun y_116 => (D.f y_5 y_116).bind fun y_127 => some y_127) (some false)).bind fun b_114 => some b_114) (cond (x2_2 == 4) ((cond y_53 ((D.u x0_0 x1 x2_1 x2_0).bind fun y_194 => (D.f y_5 y_194).bind fun y_205 => some y_205) (some false)).bind fun b_192 => some b_192) (some false)))))

noncomputable def D.O (x0 : (List Int)) (x1 : Int) : Option (((List Int))) :=
  (loopF (σ := (List Int) × Int) (ρ := ((List Int))) (fun (s_64 : (List Int) × Int) => match s_64 with | (l_67, x_72) => cond (decide (x_72 < (x0.length : Int))) ((idx x0 x_72).bind fun e_106 => cond (e_106 != x1) ((idx x0 x_72).bind fun e_113 => (appendD l_67 ([e_113] : List Int)).bind fun l_123 => some (.inl (l_123, (IntKind.i64.wrap (x_72 + 1))))) (some (.inl (l_67, (IntKind.i64.wrap (x_72 + 1)))))) (some (.inr l_67))) (([] : List Int), 0)).bind fun l_99 => some l_99

noncomputable def D.P (x0_0 : (List (List Int))) (x1 : (List (Int × Int × Int))) : Option (Bool) :=
  (D.m x0_0).bind fun y_3 => cond ((!y_3) || (decide ((16 : Int) < (x1.length : Int)))) (some false) ((D.b0 x0_0).bind fun y_14 => (loopF (σ := (List Int) × Int) (ρ := (Unit) ⊕ (Bool)) (fun (s_156 : (List Int) × Int) => match s_156 with | (l_159, x_164) => cond (decide (x_164 < (x1.length : Int))) ((idx x1 x_164).bind fun e_229 => (D.e l_159 e_229.1).bind fun y_235 => (cond (!y_235) (some true) ((idx x1 x_164).bind fun e_255 => (D.T x0_0 l_159 e_255.1 e_255.2.1 e_255.2.2).bind fun y_259 => some (!y_259))).bind fun b_253 => cond b_253 (some (.inr (.inr false))) ((idx x1 x_164).bind fun e_268 => (D.O l_159 e_268.1).bind fun y_274 => some (.inl (y_274, (IntKind.i64.wrap (x_164 + 1)))))) (some (.inr (.inl ())))) (y_14, 0)).bind fun zz => match zz with | .inl _ => (some true) | .inr z => (some z))

noncomputable def D.r (x0 : (List Int)) (x1 : Int) (x2 : Int) : Option (((List Int))) :=
  (idx x0 x1).bind fun e_1 => (D.b x2).bind fun y_7 => (idx x0 x1).bind fun e_10 => (idx (x0.set (Int.toNat x1) (ior .u32 e_1 y_7)) x2).bind fun e_18 => (D.b x1).bind fun y_24 => (idx (x0.set (Int.toNat x1) (ior .u32 e_1 y_7)) x2).bind fun e_27 => some ((x0.set (Int.toNat x1) (ior .u32 e_1 y_7)).set (Int.toNat x2) (ior .u32 e_18 y_24))

noncomputable def D.A (x0 : (List Int)) (x1 : Int) (x2 : Int) (x3 : Int) (x4 : Int) : Option (Bool) :=
  (idx x0 x2).bind fun e_1 => cond (x4 == 1) (some ((x3 == (-1)) && ((iand .u32 e_1 x1) == 0))) ((D.i x3 0 (IntKind.i64.wrap ((x0.length : Int) - 1))).bind fun y_11 => (cond ((!y_11) || (x3 == x2)) (some true) ((D.g x1 x3).bind fun y_40 => some (!y_40))).bind fun b_38 => cond b_38 (some false) ((idx x0 x3).bind fun e_48 => cond (x4 == 2) ((D.b x3).bind fun y_55 => some ((iand .u32 e_1 x1) == y_55)) (cond (x4 == 3) (some ((iand .u32 e_1 x1) == (iand .u32 e_48 x1))) (cond (x4 == 4) ((D.g (iand .u32 e_1 x1) x3).bind fun y_64 => (cond y_64 ((D.b x3).bind fun y_104 => (D.b x2).bind fun y_111 => some ((iandNot .u32 (iand .u32 e_1 x1) y_104) == (iandNot .u32 (iand .u32 e_48 x1) y_111))) (some false)).bind fun b_102 => some b_102) (some false)))))

noncomputable def D.z (x0_0 : (List (List Int))) (x1 : (List (Int × Int × Int))) : Option (Bool) :=
  (D.l x0_0).bind fun y_3 => cond ((!y_3) || (decide ((16 : Int) < (x1.length : Int)))) (some false) ((D.v x0_0).bind fun y_14 => (D.B y_14).bind fun y_25 => (loopF (σ := Int × Int) (ρ := (Unit) ⊕ (Bool)) (fun (s_208 : Int × Int) => match s_208 with | (x_211, x_212) => cond (decide (x_212 < (x1.length : Int))) ((idx x1 x_212).bind fun e_300 => (D.i e_300.1 0 (IntKind.i64.wrap ((y_14.length : Int) - 1))).bind fun y_306 => (cond (!y_306) (some true) ((D.g x_211 e_300.1).bind fun y_332 => some (!y_332))).bind fun b_330 => (cond b_330 (some true) ((D.A y_14 x_211 e_300.1 e_300.2.1 e_300.2.2).bind fun y_364 => some (!y_364))).bind fun b_362 => cond b_362 (some (.inr (.inr false))) ((D.b e_300.1).bind fun y_375 => some (.inl ((iandNot .u32 x_211 y_375), (IntKind.i64.wrap (x_212 + 1)))))) (some (.inr (.inl ())))) (y_25, 0)).bind fun zz => match zz with | .inl _ => (some true) | .inr z => (some z))

noncomputable def D.w0 (x0 : (List Int)) : Option (((List (List Int)))) :=
  (loopF (σ := Int × (List (List Int))) (ρ := ((List (List Int)))) (fun (s_92 : Int × (List (List Int))) => match s_92 with | (x_98, l_99) => cond (decide (x_98 < (x0.length : Int))) ((idx x0 x_98).bind fun e_149 => (D.x e_149).bind fun y_158 => (appendD l_99 [y_158]).bind fun l_178 => some (.inl ((IntKind.i64.wrap (x_98 + 1)), l_178))) (some (.inr l_99))) (0, ([] : List (List Int)))).bind fun l_142 => some l_142

noncomputable def D.k0 (x0 : (List (Int × Int × Int))) : Option (((List (List Int))) × Bool) :=
  (loopF (σ := (List Int) × Int) (ρ := ((List Int))) (fun (s_52 : (List Int) × Int) => match s_52 with | (l_55, x_60) => cond (decide (x_60 < (x0.length : Int))) ((idx x0 x_60).bind fun e_87 => (appendD l_55 ([e_87.1] : List Int)).bind fun l_97 => some (.inl (l_97, (IntKind.i64.wrap (x_60 + 1))))) (some (.inr l_55))) (([] : List Int), 0)).bind fun l_80 => (cond ((decide ((x0.length : Int) < 1)) || (decide ((16 : Int) < (x0.length : Int)))) (some true) ((D.N l_80).bind fun y_209 => (D.q y_209 (x0.length : Int)).bind fun y_220 => some (!y_220))).bind fun b_200 => cond b_200 (some (([] : List (List Int)), false)) ((makeD (0 : Int) (x0.length : Int) (x0.length : Int)).bind fun l_236 => (loopF (σ := (List Int) × Int × Int) (ρ := ((List Int)) ⊕ (((List (List Int))) × Bool)) (fun (s_716 : (List Int) × Int × Int) => match s_716 with | (l_719, x_722, x_723) => cond (decide ((0 : Int) ≤ x_723)) ((idx x0 x_723).bind fun e_963 => ((cond (e_963.2.2 != 1) ((D.i e_963.2.1 0 (IntKind.i64.wrap ((x0.length : Int) - 1))).bind fun y_1033 => (cond (!y_1033) (some true) ((D.g x_722 e_963.2.1).bind fun y_1059 => some (!y_1059))).bind fun b_1057 => cond b_1057 (some (.inr (([] : List (List Int)), false))) ((D.b e_963.2.1).bind fun y_1072 => cond (e_963.2.2 == 2) (some (.inl y_1072)) (cond (e_963.2.2 == 3) ((idx l_719 e_963.2.1).bind fun e_1081 => some (.inl e_1081)) (cond (e_963.2.2 == 4) ((idx l_719 e_963.2.1).bind fun e_1088 => some (.inl (ior .u32 e_1088 y_1072))) (some (.inl 0)))))) (some (.inl 0)) : Option (Int ⊕ (((List (List Int))) × Bool)))).bind fun q => match q with | .inl x_1030 => ((D.n x_1030).bind fun y_1094 => (loopF (σ := (List Int) × Int) (ρ := ((List Int))) (fun (s_1146 : (List Int) × Int) => match s_1146 with | (l_1149, x_1152) => cond (decide (x_1152 < (y_1094.length : Int))) ((idx y_1094 x_1152).bind fun e_1176 => (D.r l_1149 e_963.1 e_1176).bind fun y_1182 => some (.inl (y_1182, (IntKind.i64.wrap (x_1152 + 1))))) (some (.inr l_1149))) (l_719, 0)).bind fun l_1171 => (D.b e_963.1).bind fun y_1191 => some (.inl (l_1171, (ior .u32 x_722 y_1191), (IntKind.i64.wrap (x_723 - 1))))) | .inr q => (some (.inr (.inr q)))) (some (.inr (.inl l_719)))) (l_236, 0, (IntKind.i64.wrap ((x0.length : Int) - 1)))).bind fun zz => match zz with | .inl l_958 => ((D.w0 l_958).bind fun y_1198 => (D.z y_1198 x0).bind fun y_1214 => cond (!y_1214) (some (([] : List (List Int)), false)) (some (y_1198, true))) | .inr z => (some z))

end Go.Sx

/- A row of own rows of which one is out of it, and comes back. Regions whose order is drawn, beside what they write. -/
namespace Go.Sx
section
variable {W w : World} {G : GH} {H : List Itm}
theorem hole_atom {v : Value} {t1 t2 : TypeId} {rows : List (Value × List Value)} {k i : Nat} {h : Itm} (hi : ((parts v t1 t2 rows).eraseIdx k)[i]? = some h) : h.foot = h.foot0 ∧ ∀ w, h.ok w ↔ h.ok0 w := by
  rw [List.getElem?_eraseIdx] at hi
  split at hi
  · exact parts_atom hi
  · exact parts_atom hi
theorem Mem.hole {v : Value} {t1 t2 : TypeId} {rows : List (Value × List Value)} {k : Nat} : Mem W G w (.hole v t1 t2 rows k :: H) ↔ Mem W G w ((parts v t1 t2 rows).eraseIdx (k + 1) ++ H) := by
  refine Mem.group (fun x => ?_) ?_
  · show x ∈ ((parts v t1 t2 rows).eraseIdx (k + 1)).flatMap Itm.foot0 ↔ _
    rw [List.mem_flatMap]
    constructor
    · rintro ⟨h, hh, hx⟩
      obtain ⟨i, hi, he⟩ := List.getElem_of_mem hh
      have hi' : ((parts v t1 t2 rows).eraseIdx (k + 1))[i]? = some h := by rw [List.getElem?_eq_getElem hi, he]
      exact ⟨i, h, hi', by rw [(hole_atom hi').1]; exact hx⟩
    · rintro ⟨i, h, hi, hx⟩
      exact ⟨h, List.mem_of_getElem? hi, by rw [← (hole_atom hi).1]; exact hx⟩
  · constructor
    · rintro ⟨h1, h2⟩
      exact ⟨fun i h hi => ((hole_atom hi).2 w).2 (h1 i h hi), fun i j a b hij ha hb => by rw [(hole_atom ha).1, (hole_atom hb).1]; exact h2 i j a b hij ha hb⟩
    · rintro ⟨h1, h2⟩
      exact ⟨fun i h hi => ((hole_atom hi).2 w).1 (h1 i h hi), fun i j a b hij ha hb => by rw [← (hole_atom ha).1, ← (hole_atom hb).1]; exact h2 i j a b hij ha hb⟩
end

/-- own rows, of which the one at i is elsewhere -/
def OwH {α : Type} (R : Rep α) (t1 t2 : TypeId) (i : Int) (G : GH) (it : Itm) (v : Value) (xs : List (List α)) : Prop :=
  ∃ rows : List (Value × List Value), it = .hole v t1 t2 rows i.toNat ∧ 0 ≤ i ∧ i.toNat < xs.length ∧ rows.length = xs.length ∧ ∀ (k : Nat) (r : Value × List Value) (x : List α), k ≠ i.toNat → rows[k]? = some r → xs[k]? = some x → All2 (R G) r.2 x

section
variable {α : Type} {R : Rep α} {t1 t2 : TypeId} {W w : World} {G : GH} {it : Itm} {H : List Itm} {v c : Value} {xs : List (List α)} {e : List α} {i : Int}
theorem OwH.mono (hR : Mono R) {G' : GH} (hG : GLe G G') (h : OwH R t1 t2 i G it v xs) : OwH R t1 t2 i G' it v xs := by
  obtain ⟨rows, h1, h2, h3, h4, h5⟩ := h
  exact ⟨rows, h1, h2, h3, h4, fun k r x hk hr hx => (h5 k r x hk hr hx).mono (fun v x => hR G G' v x hG)⟩
/-- one of the rows goes out -/
theorem Ow2.out (h : Ow2 R t1 t2 G it v xs) (m : Mem W G w (it :: H)) (hi : idx xs i = some e) (hc : Head it i c) :
    ∃ it' inn, Mem W G w (it' :: inn :: H) ∧ OwH R t1 t2 i G it' v xs ∧ Ow R t2 G inn c e := by
  obtain ⟨rows, rfl, hl, hA⟩ := h
  obtain ⟨v0, s1, s2, rows0, r, e0, hr, rfl⟩ := hc
  cases e0
  obtain ⟨g0, g1, g2⟩ := idx_some hi
  have hlt : i.toNat < rows.length := by omega
  have m2 := Mem.deep.1 m
  have hpl : i.toNat + 1 < (parts v t1 t2 rows).length := by simp [parts]; omega
  have hp : (parts v t1 t2 rows ++ H)[i.toNat + 1]? = some (inner t2 r) := by
    rw [List.getElem?_append_left hpl]; simp [parts, hr]
  have m3 := m2.front (i.toNat + 1) hp
  rw [eraseIdx_append_left' hpl] at m3
  have m4 : Mem W G w ((parts v t1 t2 rows).eraseIdx (i.toNat + 1) ++ (inner t2 r :: H)) := by
    have hll : (((parts v t1 t2 rows).eraseIdx (i.toNat + 1))).length ≤ ((parts v t1 t2 rows).eraseIdx (i.toNat + 1) ++ H).length := by simp
    have := m3.back _ hll
    rwa [List.take_left, List.drop_left] at this
  have hAr := hA _ r e hr g2
  exact ⟨_, _, Mem.hole.2 m4, ⟨rows, rfl, g0, by omega, hl, fun k r x _ hr hx => hA k r x hr hx⟩, ⟨r.2, by simp [inner, hAr.1], hAr⟩⟩
end

section
variable {P : Program} {ops : Array Oper} {rest : List Oper} {n r : Assn} {x : List (Nat × Assn)} {a : Act} {w W : World} {G : GH} {H : List Itm} {N : Nat} {L : Slots}
variable {d : Nat} {t : TypeId} {pos : String} {af : Array Edge} {α : Type} {R : Rep α} {t1 t2 : TypeId} {xs : List (List α)} {v : Value}

end

/-- a drawn region that writes some of what is there -/
theorem k_drawE {P : Program} {id : Nat} {l : List Oper} {nn r : Assn} {x : List (Nat × Assn)} {a : Act} {w W : World} {G : GH} (E H : List Itm) (n : Nat) (hm : P.follows .mixedOrders = true) (hb : bodyB l.toArray n [] = true) (m : Mem W G w (E ++ H))
    (h : AnyB W P l.toArray (Qk nn x r) (fun a w => wpList P l.toArray (Qk nn x r) (l.drop n) a w) H n G E (Array.replicate l.length false) a) : (Code.region id l.toArray true).wp P (Qk nn x r) a w := by
  have hn := (bodyB_spec hb).2.1
  refine wp_region_any hm ?_
  have hcl : Cl W G (E ++ H) { w with drawn := w.drawn + 1 } := ⟨G, GLe.refl G, m.congr rfl rfl rfl rfl⟩
  have hzero : ∀ k, (Array.replicate l.length false).getD k true = if k < l.length then false else true := fun k => by
    by_cases hk : k < l.length
    · simp [hk]
    · simp [hk]
  have hun : ∀ k, k ≤ l.length → unl (Array.replicate l.length false) k = k := by
    intro k
    induction k with
    | zero => intro _; rfl
    | succ k ih => intro hk; simp only [unl, ih (by omega), hzero]; rw [if_pos (show k < l.length from by omega)]; rfl
  have L : Lst l.toArray n [] n (Array.replicate l.length false) := ⟨by simp, by simp, hun n (by simpa using hn), fun t _ h2 => by rw [hzero, if_pos (by simpa using h2)], fun j hj hl => by
    rw [hzero, if_pos (by have : n ≤ l.length := by simpa using hn
                          omega)] at hl; cases hl⟩
  have := AnyB.sound (P := P) (W := W) (Q := Qk nn x r) hb (l.toArray.size - n) (T := fun a w => wpList P l.toArray (Qk nn x r) (l.drop n) a w) (fun listed a w L h =>
    tail_list hb (l.toArray.size - n) n listed a w (Nat.le_refl _) rfl hn L.size (unl_zero L.count) L.tail (by simpa using h)) n G E _ a _ L hcl h
  have e : n + (l.toArray.size - n) = l.toArray.size := by omega
  rw [e] at this
  simpa using this
end Go.Sx

/- Rows of records: each thing takes some cells, and there is no memory in them. -/
namespace Go.Sx
structure Rec (α : Type) where
  m : Nat
  enc : α → List Value
  len : ∀ x, (enc x).length = m
  pos : 0 < m
  one : ∀ x c, c ∈ enc x → c.oneCell' = true
def P3 : Rec (Int × Int × Int) := ⟨3, fun x => [.int .i64 x.1, .int .i64 x.2.1, .int .i64 x.2.2], fun _ => rfl, by decide, fun x c h => by simp at h; rcases h with rfl | rfl | rfl <;> rfl⟩
section
variable {α : Type} (E : Rec α)
theorem Rec.size (xs : List α) : (xs.flatMap E.enc).length = xs.length * E.m := by
  induction xs with
  | nil => simp
  | cons x xs ih => rw [List.flatMap_cons, List.length_append, ih, E.len, List.length_cons, Nat.succ_mul]; omega
theorem Rec.get : ∀ (xs : List α) (i : Nat) (x : α) (j : Nat) (c : Value), xs[i]? = some x → (E.enc x)[j]? = some c → (xs.flatMap E.enc)[i * E.m + j]? = some c
  | [], i, x, j, c, hx, _ => by simp at hx
  | y :: xs, 0, x, j, c, hx, hc => by
    simp at hx; subst hx
    have hj := (List.getElem?_eq_some_iff.1 hc).1
    rw [List.flatMap_cons, Nat.zero_mul, Nat.zero_add, List.getElem?_append_left hj]; exact hc
  | y :: xs, i + 1, x, j, c, hx, hc => by
    simp at hx
    have ih := Rec.get xs i x j c hx hc
    rw [List.flatMap_cons, List.getElem?_append_right (by rw [E.len, Nat.succ_mul]; omega), E.len, Nat.succ_mul]
    rwa [show i * E.m + E.m + j - E.m = i * E.m + j by omega]
theorem Rec.put : ∀ (xs : List α) (i : Nat) (x y : α) (f : Nat) (ds : List Value), xs[i]? = some x → f + ds.length ≤ E.m → E.enc y = (E.enc x).take f ++ ds ++ (E.enc x).drop (f + ds.length) →
    (xs.flatMap E.enc).take (i * E.m + f) ++ ds ++ (xs.flatMap E.enc).drop (i * E.m + f + ds.length) = (xs.set i y).flatMap E.enc
  | [], i, x, y, f, ds, hx, _, _ => by simp at hx
  | z :: xs, 0, x, y, f, ds, hx, hf, hE => by
    simp at hx; subst hx
    have hl := E.len z
    rw [List.flatMap_cons, Nat.zero_mul, Nat.zero_add, List.set_cons_zero, List.flatMap_cons, hE, List.take_append_of_le_length (by omega), List.drop_append_of_le_length (by omega)]
    simp
  | z :: xs, i + 1, x, y, f, ds, hx, hf, hE => by
    simp at hx
    have ih := Rec.put xs i x y f ds hx hf hE
    have hl := E.len z
    rw [List.flatMap_cons, List.set_cons_succ, List.flatMap_cons, ← ih, Nat.succ_mul]
    have e1 : i * E.m + E.m + f = (E.enc z).length + (i * E.m + f) := by omega
    have e2 : i * E.m + E.m + f + ds.length = (E.enc z).length + (i * E.m + f + ds.length) := by omega
    rw [e1, List.take_length_add_append, ← e1, e2, List.drop_length_add_append]
    simp
end

/-- a slice of records in the sealed part -/
def RSr {α : Type} (E : Rec α) : Rep (List α) := fun G v xs =>
  (v = .slice none 0 0 ∧ xs = []) ∨ ∃ a cap, v = .slice (some a) xs.length cap ∧ xs.length ≤ cap ∧ cap ≤ maxLen ∧
    ∀ (k : Nat) (c : Value), (xs.flatMap E.enc)[k]? = some c → a.spot = Option.none ∧ Cell G a.block (a.off + k) c
section
variable {α : Type} {E : Rec α}
theorem RSr.mono (_ : True) : Mono (RSr E) := by
  rintro G G' v xs hG (h | ⟨a, cap, h1, h2, h3, h4⟩)
  · exact .inl h
  · exact .inr ⟨a, cap, h1, h2, h3, fun k c hc => ⟨(h4 k c hc).1, (h4 k c hc).2.mono hG⟩⟩
theorem RSr.nil (E : Rec α) (G : GH) : RSr E G (.slice none 0 0) [] := .inl ⟨rfl, rfl⟩
theorem RSr.len {G : GH} {v : Value} {xs : List α} (h : RSr E G v xs) : ∃ a c, v = .slice a xs.length c ∧ xs.length ≤ c ∧ c ≤ maxLen := by
  rcases h with ⟨rfl, rfl⟩ | ⟨a, cap, rfl, h1, h2, _⟩
  · exact ⟨none, 0, rfl, by simp, by simp [maxLen]⟩
  · exact ⟨_, cap, rfl, h1, h2⟩
theorem RSr.cells {G : GH} {v : Value} {xs : List α} (h : RSr E G v xs) : v.cells = #[v] := by obtain ⟨a, c, rfl, _⟩ := h.len; rfl
theorem RSr.one1 {G : GH} {v : Value} {xs : List α} (h : RSr E G v xs) : v.oneCell' = true := by obtain ⟨a, c, rfl, _⟩ := h.len; rfl

/-- the place of a record that is read -/
def AtR (E : Rec α) (G : GH) (p : Value) (x : α) : Prop := ∃ b o, p = .pointer (some ⟨b, o, none⟩) ∧ ∀ (j : Nat) (c : Value), (E.enc x)[j]? = some c → Cell G b (o + j) c
theorem AtR.mono {G G' : GH} (h : GLe G G') {p : Value} {x : α} (k : AtR E G p x) : AtR E G' p x := by
  obtain ⟨b, o, e, hc⟩ := k
  exact ⟨b, o, e, fun j c hj => (hc j c hj).mono h⟩
theorem RSr.at {G : GH} {v : Value} {xs : List α} (h : RSr E G v xs) {i : Int} {x : α} (he : idx xs i = some x) :
    ∃ b off n c, v = .slice (some ⟨b, off, none⟩) n c ∧ 0 ≤ i ∧ i < n ∧ ∀ (j : Nat) (c : Value), (E.enc x)[j]? = some c → Cell G b (off + i.toNat * E.m + j) c := by
  obtain ⟨h0, h1, h2⟩ := idx_some he
  rcases h with ⟨_, rfl⟩ | ⟨⟨b, off, sp⟩, cap, rfl, _, _, h4⟩
  · simp at h2
  · have hl0 : 0 < (E.enc x).length := by rw [E.len]; exact E.pos
    have hs := (h4 _ _ (E.get xs _ x 0 (E.enc x)[0] h2 (by simp [hl0]))).1
    dsimp only at hs h4
    subst hs
    refine ⟨b, off, _, cap, rfl, h0, h1, fun j c hc => ?_⟩
    rw [Nat.add_assoc]
    exact (h4 _ c (E.get xs _ x j c h2 hc)).2

/-- an owned slice of records -/
def OwR (E : Rec α) (t : TypeId) (_ : GH) (it : Itm) (v : Value) (xs : List α) : Prop := it = .row v t E.m xs.length (xs.flatMap E.enc)
theorem OwR.mono (_ : True) {t : TypeId} {G G' : GH} {it : Itm} {v : Value} {xs : List α} (_ : GLe G G') (h : OwR E t G it v xs) : OwR E t G' it v xs := h
theorem OwR.free (_ : True) {t : TypeId} {G : GH} (G' : GH) {it : Itm} {v : Value} {xs : List α} (h : OwR E t G it v xs) : OwR E t G' it v xs := h
theorem OwR.has {t : TypeId} {W w : World} {G G' : GH} {it : Itm} {H : List Itm} {v : Value} {xs : List α} (h : OwR E t G it v xs) (m : Mem W G' w H) {j : Nat} (hj : H[j]? = some it) : w.ownsRow 0 t E.m v xs.length (xs.flatMap E.enc) := by
  subst h; exact m.items j _ hj
theorem OwR.len {t : TypeId} {W w : World} {G G' : GH} {it : Itm} {H : List Itm} {v : Value} {xs : List α} (h : OwR E t G it v xs) (m : Mem W G' w H) {j : Nat} (hj : H[j]? = some it) :
    ∃ a c, v = .slice a xs.length c ∧ xs.length ≤ c ∧ c ≤ maxLen := by
  rcases (h.has m hj).2 with ⟨h1, h2⟩ | ⟨g, cap, cur, h1, _, _, h2, h3, _⟩
  · exact ⟨none, 0, by rw [h1, h2], by omega, by simp [maxLen]⟩
  · exact ⟨_, cap, h1, h2, h3⟩
theorem OwR.cells {t : TypeId} {W w : World} {G : GH} {it : Itm} {H : List Itm} {v : Value} {xs : List α} (j : Nat) (m : Mem W G w H) (h : OwR E t G it v xs) (hj : H[j]? = some it) : v.cells = #[v] := by
  obtain ⟨a, c, rfl, _⟩ := h.len m hj; rfl
theorem OwR.one1 {t : TypeId} {W w : World} {G : GH} {it : Itm} {H : List Itm} {v : Value} {xs : List α} (j : Nat) (m : Mem W G w H) (h : OwR E t G it v xs) (hj : H[j]? = some it) : v.oneCell' = true := by
  obtain ⟨a, c, rfl, _⟩ := h.len m hj; rfl
theorem OwR.nil (E : Rec α) (t : TypeId) {W w : World} {G : GH} {H : List Itm} (m : Mem W G w H) : ∃ it, Mem W G w (it :: H) ∧ OwR E t G it (.slice none 0 0) [] :=
  ⟨_, m.nilrow t E.m, by simp [OwR]⟩
/-- what is owned reads, once it is sealed -/
theorem OwR.reads {t : TypeId} {w : World} {G' : GH} {it : Itm} {v : Value} {xs : List α} (h : it = .row v t E.m xs.length (xs.flatMap E.enc)) (hok : it.ok w) (hG : ∀ x ∈ it.foot, G' x = w.heap[x]?) : RSr E G' v xs := by
  subst h
  have this : w.ownsRow 0 t E.m v xs.length (xs.flatMap E.enc) := hok
  rcases this.2 with ⟨e1, e2⟩ | ⟨g, cap, cur, e1, _, eh, e2, e3, e4, e5⟩
  · exact .inl ⟨e1, List.eq_nil_of_length_eq_zero e2⟩
  · refine .inr ⟨⟨g, 0, none⟩, cap, e1, e2, e3, fun k c hc => ⟨rfl, cur, t, (0, 0), ?_, ?_⟩⟩
    · rw [hG g (by rw [e1]; simp [Itm.foot, Value.ownBlock]), eh]
    · rw [← e5, List.getElem?_take] at hc
      split at hc
      · simpa using hc
      · cases hc
theorem OwR.stamp (_ : True) {t : TypeId} {W w : World} {G : GH} {it : Itm} {H : List Itm} {v : Value} {xs : List α} (h : OwR E t G it v xs) (m : Mem W G w (it :: H)) :
    ∃ G', GLe G G' ∧ Mem W G' w H ∧ RSr E G' v xs := by
  obtain ⟨G', h1, h2, h3, _⟩ := m.stamp
  exact ⟨G', h1, h2, OwR.reads h (m.items 0 it (by simp)) h3⟩
theorem OwR.lend {t : TypeId} {W w : World} {G : GH} {it : Itm} {H : List Itm} {v : Value} {xs : List α} (h : OwR E t G it v xs) (m : Mem W G w (it :: H)) :
    ∃ G', GLe G G' ∧ Mem W G' w H ∧ RSr E G' v xs ∧
      ∀ G'' w' H', GLe G' G'' → Mem W G'' w' H' → ∃ G₃, GLe G G₃ ∧ Mem W G₃ w' (it :: H') ∧ OwR E t G₃ it v xs := by
  obtain ⟨G', h1, h2, h3, h4⟩ := m.stamp
  have hok : it.ok w := m.items 0 it (by simp)
  have hap : ∀ x ∈ it.foot, G x = none := m.apart 0 it (by simp)
  have hlt := Itm.lt hok
  refine ⟨G', h1, h2, OwR.reads h hok h3, fun G'' w' H' hle m' => ?_⟩
  have hx : ∀ x ∈ it.foot, G'' x = w.heap[x]? := fun x hx => by
    have hl := hlt x hx
    have : G' x = some w.heap[x] := by rw [h3 x hx]; simp [hl]
    rw [hle x _ this]; simp [hl]
  refine ⟨_, fun b o k => ?_, m'.unstamp hx hok (fun i z hz x hxz hxi => ?_) (fun x hxi => ?_), h⟩
  · have : b ∉ it.foot := fun hx => by rw [hap b hx] at k; cases k
    simp [this, hle b o (h1 b o k)]
  · have h5 := m'.apart i z hz x hxz
    have hl := hlt x hxi
    rw [hx x hxi] at h5
    simp [hl] at h5
  · cases hg : W.heap[x]? with
    | none => rfl
    | some o => have h5 := m.base x o hg; rw [hap x hxi] at h5; cases h5
theorem OwR.lendCall {P : Program} {g : FuncId} {args : Array Value} (_ : True) {t : TypeId} {W w : World} {G : GH} {it : Itm} {H : List Itm} {v : Value} {xs : List α} {Q : GH → List Itm → Value → Prop} (j : Nat)
    (h : OwR E t G it v xs) (m : Mem W G w H) (hj : H[j]? = some it)
    (hc : ∀ G₁, GLe G G₁ → Mem W G₁ w (H.eraseIdx j) → RSr E G₁ v xs → Calls P g args w (Res W G₁ (H.eraseIdx j) Q)) (hQ : ∀ G G' Ho v, Q G Ho v → Q G' Ho v) : Calls P g args w (Res W G H Q) := by
  obtain ⟨G₁, h1, m1, h2, back⟩ := h.lend (m.front j hj)
  refine (hc G₁ h1 m1 h2).mono fun e w' ⟨r, he, G₂, Ho, h3, m2, hq⟩ => ?_
  obtain ⟨G₃, h4, m3, _⟩ := back G₂ w' _ h3 m2
  refine ⟨r, he, G₃, Ho, h4, ?_, hQ _ _ _ _ hq⟩
  have hl : j < H.length := (List.getElem?_eq_some_iff.1 hj).1
  have m4 := m3.back (Ho.length + j) (by simp [List.length_eraseIdx, hl]; omega)
  have e : (Ho ++ H.eraseIdx j).take (Ho.length + j) ++ it :: (Ho ++ H.eraseIdx j).drop (Ho.length + j) = Ho ++ H := by
    rw [List.take_length_add_append, List.drop_length_add_append, List.append_assoc]
    congr 1
    rw [set_eq_erase H j it hl]
    apply List.ext_getElem?
    intro k
    rw [List.getElem?_set]
    split
    · rename_i e; subst e; simp [hl] at hj ⊢; exact hj.symm
    · rfl
  rwa [e] at m4
end

section
variable {P : Program} {ops : Array Oper} {rest : List Oper} {n r : Assn} {x : List (Nat × Assn)} {a : Act} {w : World} {N : Nat} {L : Slots}
variable {d : Nat} {t : TypeId} {pos : String} {af : Array Edge} {W : World} {G : GH} {H : List Itm} {α : Type} {E : Rec α}

theorem l_lenR {v : Value} {xs : List α} {u e : Nat} {xo : Operand} (hu : P.underlying u = some (.slice e)) (f : Fr a N L) (hN : Nat.blt d N = true) (hx : evalL L xo = some v) (h : RSr E G v xs)
    (q : ∀ a', Fr a' N ((d, .int .i64 (xs.length : Int)) :: L) → wpList P ops (Qk n x r) rest a' w) :
    wpList P ops (Qk n x r) (⟨some d, .call { callee := .builtin .len, args := #[xo], argTypes := #[u] }, t, pos, af, none⟩ :: rest) a w := by
  obtain ⟨b, c, rfl, _⟩ := h.len
  exact l_op f rfl rfl hN (r_len (f.eval hx) hu) q
theorem l_atR {v : Value} {xs : List α} {u e bytes : Nat} {z : Value} {xo io : Operand} {k : IntKind} {i : Int} {e' : α}
    (hu : SlT P u e E.m bytes z) (f : Fr a N L) (hN : Nat.blt d N = true) (hx : evalL L xo = some v) (hi : evalL L io = some (.int k i)) (h : RSr E G v xs) (he : idx xs i = some e')
    (q : ∀ p a', AtR E G p e' → Fr a' N ((d, p) :: L) → wpList P ops (Qk n x r) rest a' w) :
    wpList P ops (Qk n x r) (⟨some d, .indexAddr u xo io, t, pos, af, none⟩ :: rest) a w := by
  obtain ⟨b, off, m, c, rfl, h0, h1, hc⟩ := h.at he
  refine l_op f rfl rfl hN (r_indexAddr (f.eval hx) (f.eval hi) hu h0 h1) fun a' f' => ?_
  exact q _ a' ⟨b, off + i.toNat * E.m, addr_add b off _ ▸ rfl, hc⟩ f'
theorem AtR.cell {p : Value} {y : α} (h : AtR E G p y) {fo : Nat} {c : Value} (hc : (E.enc y)[fo]? = some c) : ∃ b o, p = .pointer (some ⟨b, o, none⟩) ∧ Cell G b (o + fo) c := by
  obtain ⟨b, o, e, hh⟩ := h
  exact ⟨b, o, e, hh fo c hc⟩
theorem l_loadR {u : TypeId} {xo : Operand} {p : Value} {y : α} (cs : List Value) (m : Mem W G w H) (hp : Agg P u E.m) (f : Fr a N L) (hN : Nat.blt d N = true) (hx : evalL L xo = some p) (h : AtR E G p y) (hcs : E.enc y = cs)
    (q : ∀ a', Fr a' N ((d, .agg cs.toArray) :: L) → wpList P ops (Qk n x r) rest a' w) :
    wpList P ops (Qk n x r) (⟨some d, .load u xo, t, pos, af, none⟩ :: rest) a w := by
  subst hcs
  obtain ⟨b, o, rfl, hc⟩ := h
  exact l_op f rfl rfl hN (r_loadAgg (f.eval hx) hp (E.len y) (fun j c hj => by rw [addr_add]; exact (hc j c hj).get m)) q
theorem l_fieldR {s fi : Nat} {fs : Array Field} {fl : Field} {sz : Nat} {xo : Operand} {p c : Value} {y : α} (hs : P.underlying s = some (.struct fs)) (hf : fs[fi]? = some fl)
    (hz : ∀ w, (sizeOf fl.type).run P w = .ok sz w) (hz0 : sz ≠ 0) (f : Fr a N L) (hN : Nat.blt d N = true) (hx : evalL L xo = some p) (h : AtR E G p y) (hc : (E.enc y)[fl.offset]? = some c)
    (q : ∀ p' a', At G p' c → Fr a' N ((d, p') :: L) → wpList P ops (Qk n x r) rest a' w) :
    wpList P ops (Qk n x r) (⟨some d, .fieldAddr s xo fi, t, pos, af, none⟩ :: rest) a w := by
  obtain ⟨b, o, rfl, hh⟩ := h.cell hc
  refine l_op f rfl rfl hN (r_fieldAddr (f.eval hx) hs hf hz hz0) fun a' f' => ?_
  exact q _ a' ⟨b, o + fl.offset, by rw [addr_add], hh⟩ f'
end

section
variable {P : Program} {ops : Array Oper} {nn r : Assn} {x : List (Nat × Assn)} {T : Act → World → Prop} {W : World} {G : GH} {E H : List Itm} {N : Nat} {L : Slots} {a : Act} {fuel : Nat} {listed listed' : Array Bool}
variable {t : TypeId} {pos : String} {af : Array Edge} {gd : Option (Nat × Bool)} {d i : Nat} {α : Type} {C : Rec α}

theorem q_atR {v : Value} {xs : List α} {u e bytes : Nat} {z : Value} {xo io : Operand} {k0 : IntKind} {j : Int} {e' : α} (n : Nat) (hu : SlT P u e C.m bytes z) (h : RSr C G v xs) (he : idx xs j = some e')
    (hi : ops[i]? = some ⟨some d, .indexAddr u xo io, t, pos, af, gd⟩) (hck : takeB ops n fuel listed i = true) (hl : listed.setIfInBounds i true = listed') (f : Fr a N L)
    (hw : Region.wanted ⟨some d, .indexAddr u xo io, t, pos, af, gd⟩ (yielded ops a.tmps) = true) (hN : Nat.blt d N = true) (hx : evalL L xo = some v) (hio : evalL L io = some (.int k0 j))
    (k : ∀ p a', AtR C G p e' → Fr a' N ((d, p) :: L) → AnyB W P ops (Qk nn x r) T H fuel G E listed' a') : AnyB W P ops (Qk nn x r) T H (fuel + 1) G E listed a := by
  obtain ⟨b, off, m, c, rfl, h0, h1, hc⟩ := h.at he
  refine q_op n hi hck hl f hw rfl hN (fun _ _ _ _ _ => r_indexAddr (f.eval hx) (f.eval hio) hu h0 h1) fun a' f' => ?_
  exact k _ a' ⟨b, off + j.toNat * C.m, addr_add b off _ ▸ rfl, hc⟩ f'
theorem q_loadR {u : TypeId} {xo : Operand} {p : Value} {y : α} (cs : List Value) (n : Nat) (hp : Agg P u C.m) (h : AtR C G p y) (hcs : C.enc y = cs)
    (hi : ops[i]? = some ⟨some d, .load u xo, t, pos, af, gd⟩) (hck : takeB ops n fuel listed i = true) (hl : listed.setIfInBounds i true = listed') (f : Fr a N L)
    (hw : Region.wanted ⟨some d, .load u xo, t, pos, af, gd⟩ (yielded ops a.tmps) = true) (hN : Nat.blt d N = true) (hx : evalL L xo = some p)
    (k : ∀ a', Fr a' N ((d, .agg cs.toArray) :: L) → AnyB W P ops (Qk nn x r) T H fuel G E listed' a') : AnyB W P ops (Qk nn x r) T H (fuel + 1) G E listed a := by
  subst hcs
  obtain ⟨b, o, rfl, hc⟩ := h
  exact q_op n hi hck hl f hw rfl hN (fun _ _ _ hG m => r_loadAgg (f.eval hx) hp (C.len y) (fun j c hj => by rw [addr_add]; exact ((hc j c hj).mono hG).get m)) k
theorem q_fieldR {s fi : Nat} {fs : Array Field} {fl : Field} {sz : Nat} {xo : Operand} {p c : Value} {y : α} (n : Nat) (hs : P.underlying s = some (.struct fs)) (hf : fs[fi]? = some fl)
    (hz : ∀ w, (sizeOf fl.type).run P w = .ok sz w) (hz0 : sz ≠ 0) (h : AtR C G p y) (hc : (C.enc y)[fl.offset]? = some c)
    (hi : ops[i]? = some ⟨some d, .fieldAddr s xo fi, t, pos, af, gd⟩) (hck : takeB ops n fuel listed i = true) (hl : listed.setIfInBounds i true = listed') (f : Fr a N L)
    (hw : Region.wanted ⟨some d, .fieldAddr s xo fi, t, pos, af, gd⟩ (yielded ops a.tmps) = true) (hN : Nat.blt d N = true) (hx : evalL L xo = some p)
    (k : ∀ p' a', At G p' c → Fr a' N ((d, p') :: L) → AnyB W P ops (Qk nn x r) T H fuel G E listed' a') : AnyB W P ops (Qk nn x r) T H (fuel + 1) G E listed a := by
  obtain ⟨b, o, rfl, hh⟩ := h.cell hc
  refine q_op n hi hck hl f hw rfl hN (fun _ _ _ _ _ => r_fieldAddr (f.eval hx) hs hf hz hz0) fun a' f' => ?_
  exact k _ a' ⟨b, o + fl.offset, by rw [addr_add], hh⟩ f'
end
end Go.Sx

/- Rows of own rows are sorted: while they are moved, what lies behind them is sealed, and each carries its header. Over any program. -/
namespace Go.Sx

/-- an element that is a header, and how what lies behind it reads -/
def RTg {α : Type} (R : Rep α) : Rep (Value × List α) := fun G v x => v = x.1 ∧ RSl R G v x.2
theorem RTg.mono {α : Type} {R : Rep α} (hR : Mono R) : Mono (RTg R) := fun _ _ _ _ hG h => ⟨h.1, RSl.mono hR _ _ _ _ hG h.2⟩
theorem RTg.one {α : Type} (R : Rep α) : One (RTg R) := fun _ _ _ h => RSl.one R _ _ _ h.2
theorem RTg.cells {α : Type} {R : Rep α} {G : GH} {v : Value} {x : Value × List α} (h : RTg R G v x) : v.cells = #[v] := h.2.cells
theorem RTg.one1 {α : Type} {R : Rep α} {G : GH} {v : Value} {x : Value × List α} (h : RTg R G v x) : v.oneCell' = true := h.2.one1

section
variable {W w : World} {G : GH} {H : List Itm}

theorem Mem.flip {A : List Itm} {x y : Itm} (m : Mem W G w (A ++ x :: y :: H)) : Mem W G w (A ++ y :: x :: H) := by
  refine m.inj (fun k => if k = A.length then A.length + 1 else if k = A.length + 1 then A.length else k) (by intro a b; split <;> split <;> (repeat' split) <;> omega) ?_
  intro k z hz
  by_cases h1 : k = A.length
  · subst h1; simp at hz ⊢; exact hz
  · by_cases h2 : k = A.length + 1
    · subst h2
      simp only [Nat.succ_ne_self, if_false, if_true]
      rw [List.getElem?_append_right (by omega)] at hz
      simp at hz ⊢; exact hz
    · simp only [h1, h2, if_false]
      by_cases h3 : k < A.length
      · rw [List.getElem?_append_left h3] at hz ⊢; exact hz
      · rw [List.getElem?_append_right (by omega)] at hz ⊢
        obtain ⟨q, hq⟩ : ∃ q, k - A.length = q + 2 := ⟨k - A.length - 2, by omega⟩
        rw [hq] at hz ⊢; exact hz

theorem Mem.perm {L L' : List Itm} (p : L.Perm L') : ∀ (A H : List Itm), Mem W G w (A ++ L ++ H) → Mem W G w (A ++ L' ++ H) := by
  induction p with
  | nil => exact fun _ _ m => m
  | cons x _ ih => intro A H m; have := ih (A ++ [x]) H (by simpa using m); simpa using this
  | swap x y l => intro A H m; have := Mem.flip (A := A) (H := l ++ H) (x := y) (y := x) (by simpa using m); simpa using this
  | trans _ _ i1 i2 => exact fun A H m => i2 A H (i1 A H m)

end

section
variable {P : Program} {g : FuncId} {args : Array Value} {α : Type} {R : Rep α} {t1 t2 : TypeId} {W w : World} {G : GH} {it : Itm} {H : List Itm} {v : Value} {xs ys : List (List α)}

end
end Go.Sx

/- Links, sorted: by their first numbers, then by their second ones. Plain. -/
namespace Go.Sx
end Go.Sx

namespace Go.Sx

end Go.Sx

/- A slice held against nil. Over any program. -/
namespace Go.Sx
section
variable {P : Program} {ρ : Operand → Value} {w : World} {d : Option Tmp} {t : TypeId} {pos : String} {af : Array Edge} {gd : Option (Nat × Bool)}
end
section
variable {P : Program} {ops : Array Oper} {rest : List Oper} {n r : Assn} {x : List (Nat × Assn)} {a : Act} {w : World} {N : Nat} {L : Slots} {d : Nat} {t : TypeId} {pos : String} {af : Array Edge}
end
end Go.Sx

/- Elements go out of an owned slice in place, and what stays behind them is wiped. Over any program. -/
namespace Go.Sx
section
variable {P : Program} {ops : Array Oper} {rest : List Oper} {n r : Assn} {x : List (Nat × Assn)} {a : Act} {w w' W : World} {G : GH} {H : List Itm} {N : Nat} {L : Slots}
variable {d : Nat} {t : TypeId} {pos : String} {af : Array Edge}
theorem Ow.block {α : Type} {R : Rep α} {tt : TypeId} {it : Itm} {v : Value} {xs : List α} (m : Mem W G w (it :: H)) (o : Ow R tt G it v xs) (hx : 0 < xs.length) : ∃ b c, v = .slice (some ⟨b, 0, none⟩) xs.length c ∧ xs.length ≤ c := by
  obtain ⟨vs, rfl, hA⟩ := o
  have ok := m.items 0 _ rfl
  rcases ok.2 with ⟨rfl, e⟩ | ⟨g, cap, cur, rfl, _, _, e2, _⟩
  · omega
  · exact ⟨g, cap, rfl, e2⟩

end
end Go.Sx

namespace Go.Sx
end Go.Sx

namespace Go.Sx
noncomputable def D.C0 (x0_0 : (List (List Int))) (x1 : Int) : Option (Bool) :=
  (D.l x0_0).bind fun y_3 => (cond y_3 ((D.i x1 0 (IntKind.i64.wrap ((x0_0.length : Int) - 1))).bind fun y_29 => some y_29) (some false)).bind fun b_27 => some b_27

end Go.Sx

/- 'longestLists', plain: what its closure and it compute, with what is known already. -/
namespace Go.Sx
end Go.Sx

namespace Go.Sx
end Go.Sx

namespace Go.Sx
noncomputable def D.n0 (x0 : (List Int)) (x1 : Int) : Option (((List Int))) :=
  (loopF (σ := (List Int) × Bool × Int) (ρ := ((List Int) × Bool)) (fun (s_207 : (List Int) × Bool × Int) => match s_207 with | (l_210, b_215, x_216) => cond (decide (x_216 < (x0.length : Int))) ((cond (!b_215) ((idx x0 x_216).bind fun e_339 => some (decide (x1 < e_339))) (some false)).bind fun b_337 => ((cond b_337 ((appendD l_210 ([x1] : List Int)).bind fun l_371 => some (l_371, true)) (some (l_210, b_215)) : Option ((List Int) × Bool))).bind fun (l_359, b_364) => (cond b_364 (some true) ((idx x0 x_216).bind fun e_394 => some (e_394 == x1))).bind fun b_392 => (idx x0 x_216).bind fun e_400 => (appendD l_359 ([e_400] : List Int)).bind fun l_410 => some (.inl (l_410, b_392, (IntKind.i64.wrap (x_216 + 1))))) (some (.inr (l_210, b_215)))) (([] : List Int), false, 0)).bind fun (l_314, b_319) => cond (!b_319) ((appendD l_314 ([x1] : List Int)).bind fun l_421 => some l_421) (some l_314)

noncomputable def D.y (x0_0 : (List (List Int))) (x1 : (List Int)) : Option (((List (List Int))) × Bool) :=
  (D.Z x0_0 x1).bind fun y_5 => (cond (!y_5) (some true) ((D.c x0_0).bind fun y_31 => some (y_31 == 16))).bind fun b_29 => cond b_29 (some (([] : List (List Int)), false)) ((D.r0 x0_0).bind fun y_44 => (appendD y_44 ([([] : List Int)] : List (List Int))).bind fun l_68 => (loopF (σ := Int × (List (List Int))) (ρ := ((List (List Int)))) (fun (s_125 : Int × (List (List Int))) => match s_125 with | (x_128, l_129) => cond (decide (x_128 < (x1.length : Int))) ((idx x1 x_128).bind fun e_160 => (D.c x0_0).bind fun y_166 => (D.o l_129 e_160 y_166).bind fun y_171 => some (.inl ((IntKind.i64.wrap (x_128 + 1)), y_171))) (some (.inr l_129))) (0, l_68)).bind fun l_155 => some (l_155, true))

noncomputable def D.a0 (x0_0 : (List Int)) (x0_1 : Int) (x0_2 : Int) (x1 : Int) (x2 : Int) : Option (((List (List Int))) × ((List Int)) × Int × Int) :=
  (D.R 1 ([] : List (List Int))).bind fun y_10 => (D.k x0_0 x0_1 x0_2 x1).bind fun y_23 => (loopF (σ := Int × (List Int) × Int × Int × (List (List Int))) (ρ := ((List (List Int)) × (List Int) × Int × Int)) (fun (s_344 : Int × (List Int) × Int × Int × (List (List Int))) => match s_344 with | (x_347, l_348, x_351, x_352, l_353) => cond (decide ((0 : Int) < x_347)) ((D.k l_348 x_351 x_352 (l_353.length : Int)).bind fun y_520 => (D.k y_520.2.1 y_520.2.2.1 y_520.2.2.2 (IntKind.i64.wrap (5 - x2))).bind fun y_533 => ((cond ((IntKind.i64.wrap (x2 + y_533.1)) != 2) ((idx l_353 y_520.1).bind fun e_573 => (appendD ([] : List Int) e_573).bind fun l_579 => some l_579) (some ([y_520.1] : List Int)) : Option ((List Int)))).bind fun l_562 => ((cond ((IntKind.i64.wrap (x2 + y_533.1)) == 4) ((D.n0 l_562 y_520.1).bind fun y_610 => some y_610) (some l_562) : Option ((List Int)))).bind fun l_603 => cond ((IntKind.i64.wrap (x2 + y_533.1)) == 1) ((D.y l_353 ([] : List Int)).bind fun y_635 => some (.inl ((IntKind.i64.wrap (x_347 - 1)), y_533.2.1, y_533.2.2.1, y_533.2.2.2, y_635.1))) ((D.y l_353 l_603).bind fun y_654 => some (.inl ((IntKind.i64.wrap (x_347 - 1)), y_533.2.1, y_533.2.2.1, y_533.2.2.2, y_654.1)))) (some (.inr (l_353, l_348, x_351, x_352)))) (y_23.1, y_23.2.1, y_23.2.2.1, y_23.2.2.2, y_10.1)).bind fun (l_508, l_513, x_516, x_517) => some (l_508, l_513, x_516, x_517)

noncomputable def D.K (x0 : (List Int)) (x1 : Int) (x2 : Int) : Option (Int × Int × Int × Bool) :=
  (loopF (σ := Int) (ρ := (Unit) ⊕ (Int × Int × Int × Bool)) (fun (x_120 : Int) => cond (decide (x_120 ≤ 4)) ((loopF (σ := Int) (ρ := (Unit) ⊕ (Int × Int × Int × Bool)) (fun (x_208 : Int) => cond (decide (x_208 < (x0.length : Int))) ((D.A x0 x1 x2 x_208 x_120).bind fun y_223 => cond y_223 (some (.inr (.inr (x2, x_208, x_120, true)))) (some (.inl (IntKind.i64.wrap (x_208 + 1))))) (some (.inr (.inl ())))) (-1)).bind fun zz => match zz with | .inl _ => (some (.inl (IntKind.i64.wrap (x_120 + 1)))) | .inr z => (some (.inr (.inr z)))) (some (.inr (.inl ())))) 1).bind fun zz => match zz with | .inl _ => (some (0, 0, 0, false)) | .inr z => (some z)

noncomputable def D.v0 (x0_0 : (List (List Int))) (x1_0 : (List (List Int))) : Option (Bool) :=
  cond ((x0_0.length : Int) != (x1_0.length : Int)) (some false) ((loopF (σ := Int) (ρ := (Unit) ⊕ (Bool)) (fun (x_53 : Int) => cond (decide (x_53 < (x0_0.length : Int))) ((idx x0_0 x_53).bind fun e_77 => (idx x1_0 x_53).bind fun e_83 => (D.f e_77 e_83).bind fun y_89 => cond (!y_89) (some (.inr (.inr false))) (some (.inl (IntKind.i64.wrap (x_53 + 1))))) (some (.inr (.inl ())))) 0).bind fun zz => match zz with | .inl _ => (some true) | .inr z => (some z))

noncomputable def D.d0 (x0_0 : (List (List Int))) (x1_0 : (List (List Int))) : Option (Bool) :=
  (D.m x0_0).bind fun y_5 => (cond y_5 ((D.m x1_0).bind fun y_31 => some y_31) (some false)).bind fun b_29 => (cond b_29 ((D.v0 x0_0 x1_0).bind fun y_57 => some y_57) (some false)).bind fun b_55 => some b_55

noncomputable def D.M (x0_0 : (List (List Int))) (x1 : (List Int)) (x2 : Int) : Option (Int × Int × Int × Bool) :=
  (D.C0 x0_0 x2).bind fun y_5 => (cond (!y_5) (some true) ((D.e0 x0_0 x1).bind fun y_31 => some (!y_31))).bind fun b_29 => (cond b_29 (some true) ((D.t x1).bind fun y_71 => (D.g y_71 x2).bind fun y_78 => some (!y_78))).bind fun b_69 => cond b_69 (some (0, 0, 0, false)) ((D.v x0_0).bind fun y_88 => (D.t x1).bind fun y_99 => (D.K y_88 y_99 x2).bind fun y_106 => some (y_106.1, y_106.2.1, y_106.2.2.1, y_106.2.2.2))

noncomputable def D.B0 (x0 : (List Int)) (x1 : Int) : Option (((List Int))) :=
  (loopF (σ := (List Int) × Int) (ρ := ((List Int))) (fun (s_64 : (List Int) × Int) => match s_64 with | (l_67, x_72) => cond (decide (x_72 < (x0.length : Int))) ((idx x0 x_72).bind fun e_106 => cond (e_106 != x1) ((idx x0 x_72).bind fun e_113 => (appendD l_67 ([e_113] : List Int)).bind fun l_123 => some (.inl (l_123, (IntKind.i64.wrap (x_72 + 1))))) (some (.inl (l_67, (IntKind.i64.wrap (x_72 + 1)))))) (some (.inr l_67))) (([] : List Int), 0)).bind fun l_99 => some l_99

noncomputable def D.f0 (x0_0 : (List (List Int))) (x1 : (List Int)) : Option (((List (List Int)))) :=
  (D.D (x1.length : Int)).bind fun y_5 => (loopF (σ := Int × (List (List Int))) (ρ := ((List (List Int)))) (fun (s_297 : Int × (List (List Int))) => match s_297 with | (x_300, l_301) => cond (decide (x_300 < (x1.length : Int))) ((loopF (σ := Int × (List (List Int))) (ρ := ((List (List Int)))) (fun (s_511 : Int × (List (List Int))) => match s_511 with | (x_514, l_515) => cond (decide (x_514 < x_300)) ((idx x1 x_300).bind fun e_553 => (idx x1 x_514).bind fun e_559 => (D.Y x0_0 e_553 e_559).bind fun y_565 => cond y_565 ((D.o l_515 x_514 x_300).bind fun y_571 => some (.inl ((IntKind.i64.wrap (x_514 + 1)), y_571))) (some (.inl ((IntKind.i64.wrap (x_514 + 1)), l_515)))) (some (.inr l_515))) (0, l_301)).bind fun l_548 => some (.inl ((IntKind.i64.wrap (x_300 + 1)), l_548))) (some (.inr l_301))) (0, y_5)).bind fun l_441 => some l_441

noncomputable def D.q0 (x0_0 : (List (List Int))) (x1 : Int) : Option (((List (List Int))) × Bool) :=
  (D.m x0_0).bind fun y_5 => (cond (!y_5) (some true) ((D.l0 x0_0 x1).bind fun y_31 => some (!y_31))).bind fun b_29 => (cond b_29 (some true) ((D.c x0_0).bind fun y_57 => some (y_57 == 1))).bind fun b_55 => cond b_55 (some (([] : List (List Int)), false)) ((D.c x0_0).bind fun y_70 => (D.g0 y_70).bind fun y_76 => (D.B0 y_76 x1).bind fun y_90 => (D.f0 x0_0 y_90).bind fun y_110 => some (y_110, true))
end Go.Sx

/- 'prunedOf', plain: what is pruned in one round, and until none can be. -/
namespace Go.Sx
/-- one round over those that are left -/
noncomputable def D.I0 (a us : List Int) (out : List (Int × Int × Int)) (left : Int) (i : Int) : Option (Int ⊕ (List (Int × Int × Int) × Int × Bool)) :=
  cond (decide (i < (us.length : Int))) ((idx us i).bind fun v => (D.K a left v).bind fun p => cond p.2.2.2 ((appendD out [(p.1, p.2.1, p.2.2.1)]).bind fun o => (D.b v).bind fun b => some (.inr (o, iandNot .u32 left b, true))) (some (.inl (IntKind.i64.wrap (i + 1))))) (some (.inr (out, left, false)))
noncomputable def D.H0 (a : List Int) (s : List (Int × Int × Int) × Int × Bool) : Option ((List (Int × Int × Int) × Int × Bool) ⊕ (List (Int × Int × Int) × Int)) :=
  cond s.2.2 ((D.n s.2.1).bind fun us => (loopF (D.I0 a us s.1 s.2.1) 0).bind fun q => some (.inl q)) (some (.inr (s.1, s.2.1)))
noncomputable def D.o0 (a : List Int) (left : Int) : Option (List (Int × Int × Int) × Int) := loopF (D.H0 a) ([], left, true)
end Go.Sx

/- Rows of records: one written out, appended to. Over any program. -/
namespace Go.Sx
theorem foldl_cells : ∀ (l : List Value) (k : Nat) (cells : Array Value), k + l.length = cells.size → (l.zipIdx k).foldl (fun cs p => cs.setIfInBounds p.2 p.1) cells = (cells.toList.take k ++ l).toArray
  | [], k, cells, h => by
    simp only [List.zipIdx_nil, List.foldl_nil, List.append_nil]
    rw [List.take_of_length_le (by simp at h ⊢; omega)]
  | v :: l, k, cells, h => by
    simp only [List.length_cons] at h
    rw [List.zipIdx_cons, List.foldl_cons, foldl_cells l (k + 1) _ (by simp; omega)]
    simp only [Array.toList_setIfInBounds]
    rw [List.take_add_one, List.take_set_of_le (Nat.le_refl _)]
    have hlk : k < cells.size := by omega
    simp [List.getElem?_set, hlk]
section
variable {P : Program} {ops : Array Oper} {rest : List Oper} {n r : Assn} {x : List (Nat × Assn)} {a : Act} {w : World} {N : Nat} {L : Slots}
variable {d : Nat} {t : TypeId} {pos : String} {af : Array Edge} {W : World} {G : GH} {H : List Itm} {α : Type} {E : Rec α}
theorem l_slitR {tt u bytes : Nat} {z : Value} {xo : Operand} {cs : List Value} {y : α} (m : Mem W G w H) (hu : SlT P u tt E.m bytes z) (f : Fr a N L) (hN : Nat.blt d N = true) (hx : evalL L xo = some (.agg cs.toArray)) (hcs : E.enc y = cs) (hm : E.m ≤ 16777216)
    (k : ∀ it v w' a', Mem W G w' (it :: H) → OwR E tt G it v [y] → Fr a' N ((d, v) :: L) → wpList P ops (Qk n x r) rest a' w') :
    wpList P ops (Qk n x r) (⟨some d, .buildSlice u 1 #[(0, xo)], t, pos, af, none⟩ :: rest) a w := by
  obtain ⟨ti, hi1, hi2, hi3, hi4⟩ := hu.info
  have hl : cs.length = E.m := by rw [← hcs, E.len]
  have hpos := E.pos
  have hfold : ∀ cells : Array Value, cells.size = E.m → (Value.agg cs.toArray).cells.zipIdx.foldl (fun cs (c, j) => cs.setIfInBounds (0 * ti.size + j) c) cells = cs.toArray := fun cells hc => by
    have := foldl_cells cs 0 cells (by omega)
    simp only [List.take_zero, List.nil_append] at this
    refine Eq.trans ?_ this
    simp [Value.cells]
  have hr : (execOp a.eval ⟨some d, .buildSlice u 1 #[(0, xo)], t, pos, af, none⟩).run P w = .ok (.value (.slice (some ⟨w.heap.size, 0, none⟩) 1 1)) (w.alloc (.cells cs.toArray tt)) := by
    have h0 : ¬ (16777216 < ti.size) := by omega
    have h1 : ti.size ≠ 0 := by omega
    have hfill : Instr.fill (fun i => some (i * ti.size, ti.size)) ((Array.range (1 * ti.size)).map (z.cells[· % z.cells.size]!)) [(0, Value.agg cs.toArray)] = some cs.toArray := by
      unfold Instr.fill
      simp only []
      rw [if_neg (by simp [Value.cells]; omega), hfold _ (by simp; omega)]
      rfl
    simp only [Nat.one_mul] at hfill
    simp [execOp, Instr.buildSlice, run_underlying hu.und, sizeOf, typeInfo, zeroValue, hi1, hi4, h0, h1, f.eval hx, newRow, hfill]
  refine l_op f rfl rfl hN hr (fun a' f' => k (.row (.slice (some ⟨w.heap.size, 0, none⟩) 1 1) tt E.m [y].length ([y].flatMap E.enc)) _ _ a' ?_ rfl f')
  refine m.add rfl rfl rfl (fun q hq => by first | exact heap_alloc_old w _ q hq | exact heap_alloc_old w _ hq) ⟨by rw [E.size], .inr ⟨w.heap.size, 1, _, by simp, Nat.zero_le _, heap_alloc_new w _, by simp, by simp [maxLen], by simp [hl], by simp [hcs, ← hl]⟩⟩ (fun q hq => by simp [Itm.foot, Value.ownBlock] at hq; omega)
theorem l_slitR0 {tt u bytes : Nat} {z : Value} (m : Mem W G w H) (hu : SlT P u tt E.m bytes z) (f : Fr a N L) (hN : Nat.blt d N = true)
    (k : ∀ it v w' a', Mem W G w' (it :: H) → OwR E tt G it v [] → Fr a' N ((d, v) :: L) → wpList P ops (Qk n x r) rest a' w') :
    wpList P ops (Qk n x r) (⟨some d, .buildSlice u 0 #[], t, pos, af, none⟩ :: rest) a w := by
  obtain ⟨ti, hi1, hi2, hi3, hi4⟩ := hu.info
  have hr : (execOp a.eval ⟨some d, .buildSlice u 0 #[], t, pos, af, none⟩).run P w = .ok (.value (.slice (some ⟨w.heap.size, 0, none⟩) 0 0)) (w.alloc (.cells #[] tt)) := by
    simp [execOp, Instr.buildSlice, run_underlying hu.und, sizeOf, typeInfo, hi1, newRow, Instr.fill, Array.range_zero']
  refine l_op f rfl rfl hN hr (fun a' f' => k (.row (.slice (some ⟨w.heap.size, 0, none⟩) 0 0) tt E.m ([] : List α).length (([] : List α).flatMap E.enc)) _ _ a' ?_ rfl f')
  refine m.add rfl rfl rfl (fun q hq => by first | exact heap_alloc_old w _ q hq | exact heap_alloc_old w _ hq) ⟨by simp, .inr ⟨w.heap.size, 0, _, by simp, Nat.zero_le _, heap_alloc_new w _, by simp, by simp [maxLen], by simp, by simp⟩⟩ (fun q hq => by simp [Itm.foot, Value.ownBlock] at hq; omega)
theorem l_appendR {tt u bytes : Nat} {z : Value} {it itS : Itm} {v y : Value} {xs ys zs : List α} {s xo : Operand} (j j2 : Nat) (m : Mem W G w H) (h : OwR E tt G it v xs) (hj : H[j]? = some it) (h2 : OwR E tt G itS y ys) (hj2 : H[j2]? = some itS) (hne : ys ≠ [])
    (hu : SlT P u tt E.m bytes z) (hzc : z.cells.size = E.m) (hb : bytes ≤ 32768) (f : Fr a N L) (hN : Nat.blt d N = true) (hs : evalL L s = some v) (hx : evalL L xo = some y) (hz : appendD xs ys = some zs)
    (k : ∀ it' v' w' a', Mem W G w' (H.set j it') → OwR E tt G it' v' zs → Fr a' N ((d, v') :: L) → wpList P ops (Qk n x r) rest a' w') :
    wpList P ops (Qk n x r) (⟨some d, .call { callee := .builtin .append, args := #[s, xo], argTypes := #[u, u] }, t, pos, af, none⟩ :: rest) a w := by
  obtain ⟨ti, hi1, hi2, hi3, hi4⟩ := hu.info
  unfold appendD at hz
  split at hz
  · rename_i hle
    obtain rfl := Option.some.inj hz
    rcases (h2.has m hj2).2 with ⟨_, e0⟩ | ⟨g, cap, cur, e1, _, eh, e2, e3, e4, e5⟩
    · exact absurd (List.eq_nil_of_length_eq_zero e0) hne
    · obtain ⟨v', w', hr, hown, hg, _, hblk⟩ := run_append_own_at (P := P) (w := w) 0 u t tt ti z E.m bytes hu.und hi1 hi4 hi2 hi3 hzc E.pos v xs.length (xs.flatMap E.enc) (h.has m hj) ⟨g, 0, none⟩ ys.length cap (ys.flatMap E.enc) (by rw [E.size]) (fun k c hk => by
          rw [addr_add]
          rw [← e5, List.getElem?_take] at hk
          split at hk
          · simp only [World.cell?, eh, Nat.zero_add]; simpa using hk
          · cases hk) (fun c hc => by
          obtain ⟨q, _, hq⟩ := List.mem_flatMap.1 hc
          exact E.one q c hq) (by simp only [maxLen]; omega) (by
          have : (xs.length + ys.length) * bytes ≤ 4294967296 * 32768 := Nat.mul_le_mul hle hb
          omega) (Nat.zero_le _)
      have hit : it = .row v tt E.m xs.length (xs.flatMap E.enc) := h
      refine l_op f rfl rfl hN (r_append (f.eval hs) (f.eval hx) (by rw [e1]; exact hr)) (fun a' f' => k (.row v' tt E.m (xs ++ ys).length ((xs ++ ys).flatMap E.enc)) v' w' a' ?_ rfl f')
      refine m.changeAt j hj hg.os hg.tape hg.output (fun q hq hqn => hg.block q hq (fun e => hqn ?_)) ?_ (fun q hq => ?_)
      · rw [hit]; simp [Itm.foot, ← e]
      · show w'.ownsRow 0 tt E.m v' (xs ++ ys).length ((xs ++ ys).flatMap E.enc)
        rw [List.length_append, List.flatMap_append]; exact hown
      · have hq : q ∈ v'.ownBlock.toList := hq
        rcases hblk with e | e
        · rw [e] at hq; left; rw [hit]; exact hq
        · rw [e] at hq; right; simp at hq; omega
  · cases hz
end
end Go.Sx

namespace Go.Sx
noncomputable def D.I (x0_0 : (List (List Int))) : Option (((List (Int × Int × Int))) × ((List Int))) :=
  (D.l x0_0).bind fun y_3 => cond (!y_3) (some (([] : List (Int × Int × Int)), ([] : List Int))) ((D.v x0_0).bind fun y_17 => (D.B y_17).bind fun y_28 => (D.o0 y_17 y_28).bind fun y_38 => (D.x y_38.2).bind fun y_52 => some (y_38.1, y_52))

noncomputable def D.E (x0_0 : (List (List Int))) : Option (Bool) :=
  (D.l x0_0).bind fun y_3 => cond (!y_3) (some false) ((D.I x0_0).bind fun y_11 => some ((y_11.2.length : Int) == 0))

noncomputable def D.z0 (x0 : (List Int)) : Option (Bool) :=
  (D.A0 x0).bind fun y_1 => cond y_1 (some true) ((D.p0 x0 1016).bind fun y_9 => (D.a0 y_9.1 y_9.2.1 y_9.2.2 7 1).bind fun y_20 => (D.I y_20.1).bind fun y_35 => (cond (decide ((0 : Int) < (y_35.2.length : Int))) (some true) ((D.E y_20.1).bind fun y_78 => some (!y_78))).bind fun b_76 => (cond b_76 (some true) ((D.P y_20.1 y_35.1).bind fun y_119 => some (!y_119))).bind fun b_117 => (cond b_117 (some true) ((D.z y_20.1 y_35.1).bind fun y_163 => some (!y_163))).bind fun b_161 => cond b_161 (some false) ((D.k0 y_35.1).bind fun y_177 => (cond (!y_177.2) (some true) ((D.d0 y_177.1 y_20.1).bind fun y_224 => some (!y_224))).bind fun b_222 => cond b_222 (some false) ((loopF (σ := (List Int) × Int) (ρ := ((List Int))) (fun (s_275 : (List Int) × Int) => match s_275 with | (l_278, x_283) => cond (decide (x_283 < (y_20.1.length : Int))) ((appendD l_278 ([x_283] : List Int)).bind fun l_308 => some (.inl (l_308, (IntKind.i64.wrap (x_283 + 1))))) (some (.inr l_278))) (([] : List Int), 0)).bind fun l_297 => (((D.k y_20.2.1 y_20.2.2.1 y_20.2.2.2 (y_20.1.length : Int)).bind fun y_389 => (D.M y_20.1 l_297 y_389.1).bind fun y_401 => some (y_401.1, y_401.2.1, y_401.2.2.1, y_401.2.2.2) : Option (Int × Int × Int × Bool))).bind fun (x_369, x_370, x_371, b_372) => cond ((!b_372) || ((y_20.1.length : Int) == 1)) (some (b_372 || (decide ((1 : Int) < (y_20.1.length : Int))))) ((D.q0 y_20.1 x_369).bind fun y_434 => (D.E y_434.1).bind fun y_447 => some y_447))))
end Go.Sx

namespace Go.Sx
end Go.Sx

/- The widths that are remembered, plain: what is computed, without the memory. -/
namespace Go.Sx
end Go.Sx

namespace Go.Sx


end Go.Sx

namespace Go.Sx


end Go.Sx

namespace Go.Sx


end Go.Sx

namespace Go.Sx


end Go.Sx

namespace Go.Sx


end Go.Sx

namespace Go.Proofs
open Go.Shelf
def Tryd.lays125_ren : Go.Shelf.Ren := ⟨fun | 125 => 91 | 128 => 111 | 129 => 112 | n => n, fun | 46 => 84 | 3 => 3 | 51 => 58 | 53 => 26 | 4 => 4 | 5 => 5 | 9 => 9 | n => n, fun | n => n⟩
theorem Tryd.lays125 : Go.Proofs.Lays.n125 Tryd.prog Tryd.lays125_ren := {
  mixed := by kernel_rfl
  f125 := Tryd.func91.trans (congrArg some (by kernel_rfl))
  f128 := Tryd.func111.trans (congrArg some (by kernel_rfl))
  f129 := Tryd.func112.trans (congrArg some (by kernel_rfl))
  t3 := Tryd.underlying3
  a3 := Tryd.isAgg3
  z3 := Tryd.sizeOf3
  v3 := Tryd.zeroValue3
  t4 := Tryd.underlying4
  a4 := Tryd.isAgg4
  z4 := Tryd.sizeOf4
  v4 := Tryd.zeroValue4
  t5 := Tryd.underlying5
  a5 := Tryd.isAgg5
  z5 := Tryd.sizeOf5
  v5 := Tryd.zeroValue5
  t9 := Tryd.underlying9
  a9 := Tryd.isAgg9
  z9 := Tryd.sizeOf9
  v9 := Tryd.zeroValue9
  t46 := Tryd.underlying84
  a46 := Tryd.isAgg84
  z46 := Tryd.sizeOf84
  v46 := Tryd.zeroValue84
  t51 := Tryd.underlying58
  a51 := Tryd.isAgg58
  z51 := Tryd.sizeOf58
  v51 := Tryd.zeroValue58
  t53 := Tryd.underlying26
  a53 := Tryd.isAgg26
  z53 := Tryd.sizeOf26
  v53 := Tryd.zeroValue26 }
theorem Tryd.bits_Len (x : Int) (w : World) (h0 : 0 ≤ x) (h1 : x ≤ 18446744073709551615) :
    Calls Tryd.prog 91 #[.int .u64 x] w fun e w' => e = .returned (.int .i64 (Lib.bitLen x.toNat)) ∧ w' = w := Any.bits_Len Tryd.lays125 x w h0 h1
end Go.Proofs
namespace Go.Proofs.YtkffjeaefgfnnaaDoor
open Go Go.Sx
theorem Wk.G {W w : World} {G : GH} {H : List Itm} {x0 : Int} (m : Mem W G w H) {y : Int} (hd : D.G x0 = some y) :
    Calls Tryd.prog 91 #[(.int .u64 x0)] w (Res W G H (fun _ Ho v => Ho = [] ∧ v = (.int .i64 y))) := by
  unfold D.G at hd
  split at hd
  · rename_i h
    obtain rfl := Option.some.inj hd
    exact (Tryd.bits_Len x0 w h.1 h.2).mono (fun e w' ⟨he, hw⟩ => by subst hw; exact ⟨_, he, G, [], GLe.refl G, m, rfl, rfl⟩)
  · cases hd
end Go.Proofs.YtkffjeaefgfnnaaDoor

namespace Go.Proofs
open Go.RowKit Go.Shelf
attribute [local go_sem] Oper.semAt_some
namespace YtkffjeaefgfnnaaDoor

def upto {α : Type} (f : Nat → α) (k : Nat) : List α := (List.range k).map f
theorem upto_succ {α : Type} (f : Nat → α) (k : Nat) : upto f (k + 1) = upto f k ++ [f k] := by simp [upto, List.range_succ]
theorem upto_length {α : Type} (f : Nat → α) (k : Nat) : (upto f k).length = k := by simp [upto]
theorem upto_all (zs : List Int) : upto (fun j => zs[j]?.getD 0) zs.length = zs := by
  apply List.ext_getElem
  · simp [upto]
  · intro i h1 h2
    simp [upto, h2]
theorem upto_take (zs : List Int) {k : Nat} (hk : k ≤ zs.length) : upto (fun j => zs[j]?.getD 0) k = zs.take k := by
  apply List.ext_getElem
  · simp [upto, hk]
  · intro i h1 h2
    have : i < zs.length := by simp [upto] at h1; omega
    simp [upto, this]

set_option maxRecDepth 100000 in
set_option maxHeartbeats 2000000 in
theorem values1_in (F : Fence) (n : Nat) (h7 : F.fn 75) (hro : F.round = none) (hn : 1 ≤ n) (l Bs n₀ b off len cap : Nat) (zs : List Int) (hreach : len * 8 ≤ 140737488351232) (hb : len = 0 ∨ b < n₀) (J Jx : List Int → World → Prop)
    (hY : ∀ pre x W, J pre W → pre.length < len → YieldAt F (n - 1) Tryd.prog l #[.int .i64 x] W fun e W' =>
      (e = .returned (.bool true) ∧ J (pre ++ [x]) W' ∧ Below n₀ W W') ∨ (e = .returned (.bool false) ∧ Jx (pre ++ [x]) W'))
    (W : World) (hBs : W.cell? ⟨Bs, 0, none⟩ = some (.slice (some ⟨b, off, none⟩) len cap)) (hc : ∀ j, j < len → W.cell? ⟨b, off + j, none⟩ = some (.int .i64 (zs[j]?.getD 0))) (h0 : J [] W) :
    CallsIn F n Tryd.prog 75 #[.func (.yield l) #[] #[], .pointer (some ⟨Bs, 0, none⟩)] W fun e W' => (∃ v, e = .returned v) ∧
      ((∃ ys, ys = upto (fun j => zs[j]?.getD 0) len ∧ J ys W') ∨ (∃ pre, (∃ k, k ≤ len ∧ pre = upto (fun j => zs[j]?.getD 0) k) ∧ Jx pre W')) := by
  refine callsIn_of_wp Tryd.func75 rfl h7 ?_ hro
  simp only [Tryd.ntmps75, List.size_toArray, List.length_cons, List.length_nil, Nat.reduceAdd, Nat.reduceSub, Array.replicate_succ, Array.replicate_zero, List.push_toArray, List.append_toArray, List.nil_append, List.cons_append]
  gi_wp2
  gi_loopw [7] (fun i wr => ∃ k : Nat, k ≤ len ∧ i = .int .i64 k ∧ J (upto (fun j => zs[j]?.getD 0) k) wr ∧ Below n₀ W wr)
    (fun i _ => len - (intOf i).toNat)
  case atStart => exact ⟨0, Nat.zero_le _, rfl, h0, Below.refl _ _⟩
  case round =>
    obtain ⟨k, hk, rfl, hJs, hnx⟩ := hrel
    have hcx : k < len → wr.cell? ⟨b, off + k, none⟩ = some (.int .i64 (zs[k]?.getD 0)) := fun h => (hnx.cell (p := ⟨b, off + k, none⟩) (hb.resolve_left (by omega))).trans (hc k h)
    by_cases hlt : k < len
    · obtain ⟨fn, tmps, assign, body, hy, hR⟩ := hY _ (zs[k]?.getD 0) wr hJs (by rw [upto_length]; exact hlt)
      have hcx' := hcx hlt
      gi_wp2
      refine hR.mono ?_
      rintro e W3 (⟨rfl, hJ3, hk3⟩ | ⟨rfl, hJx3⟩)
      · gi_wp2
        go_roundw
        case rel => exact ⟨k + 1, by omega, by simp, by rw [upto_succ]; exact hJ3, hnx.trans hk3⟩
        case measure => simp [intOf]; omega
      · gi_wp2
        refine bodyPost_ret (results_none rfl _ _ _) rfl ?_
        exact ⟨⟨_, rfl⟩, .inr ⟨_, ⟨k + 1, by omega, (upto_succ _ _).symm⟩, hJx3⟩⟩
    · obtain rfl : k = len := by omega
      gi_wp2
      go_end0
      exact ⟨⟨_, rfl⟩, .inl ⟨_, rfl, hJs⟩⟩

def Ints (n₀ : Nat) (W : World) (sv : Value) (zs : List Int) : Prop :=
  ((∃ a c, sv = .slice a 0 c) ∧ zs = []) ∨ ∃ b off cap, sv = .slice (some ⟨b, off, none⟩) zs.length cap ∧ (zs.length = 0 ∨ b < n₀) ∧ ∀ j, j < zs.length → W.cell? ⟨b, off + j, none⟩ = some (.int .i64 (zs[j]?.getD 0))
theorem Ints.below {n₀ : Nat} {A B : World} (h : Below n₀ A B) {sv : Value} {zs : List Int} : Ints n₀ A sv zs → Ints n₀ B sv zs
  | .inl e => .inl e
  | .inr ⟨b, off, cap, e, hb, hc⟩ => .inr ⟨b, off, cap, e, hb, fun j hj => (h.cell (p := ⟨b, off + j, none⟩) (hb.resolve_left (by omega))).trans (hc j hj)⟩

set_option maxRecDepth 100000 in
set_option maxHeartbeats 1000000 in
theorem values1_nil_in (F : Fence) (n : Nat) (h7 : F.fn 75) (hro : F.round = none) (l Bs : Nat) (J : List Int → World → Prop) (W : World) (a : Option Addr) (c : Nat) (hBs : W.cell? ⟨Bs, 0, none⟩ = some (.slice a 0 c)) (h0 : J [] W) :
    CallsIn F n Tryd.prog 75 #[.func (.yield l) #[] #[], .pointer (some ⟨Bs, 0, none⟩)] W fun e W' => (∃ v, e = .returned v) ∧ J [] W' := by
  refine callsIn_of_wp Tryd.func75 rfl h7 ?_ hro
  simp only [Tryd.ntmps75, List.size_toArray, List.length_cons, List.length_nil, Nat.reduceAdd, Nat.reduceSub, Array.replicate_succ, Array.replicate_zero, List.push_toArray, List.append_toArray, List.nil_append, List.cons_append]
  gi_wp2
  gi_loopw [7] (fun i wr => i = .int .i64 0 ∧ J [] wr) (fun _ _ => 0)
  case atStart => exact ⟨rfl, h0⟩
  case round =>
    obtain ⟨rfl, hJs⟩ := hrel
    gi_wp2
    go_end0
    exact ⟨⟨_, rfl⟩, hJs⟩

theorem values_stops (F : Fence) (n : Nat) (h7 : F.fn 75) (hro : F.round = none) (hn : 1 ≤ n) (Bs n₀ : Nat) (sv : Value) (zs : List Int) (hreach : zs.length * 8 ≤ 140737488351232) (w : World) (hBs : Bs < w.heap.size) (hn₀ : n₀ ≤ w.heap.size)
    (hc : w.cell? ⟨Bs, 0, none⟩ = some sv) (hI : Ints n₀ w sv zs) :
    SeqStopsK F n Tryd.prog 75 #[.pointer (some ⟨Bs, 0, none⟩)] (fun x : Int => #[Value.int .i64 x]) (Below n₀) (fun ys => ys = zs) (fun pre => pre <+: zs) zs.length w := fun l J Jx W hW _ _ hY h0 => by
  have hc' := (hW.cell (p := ⟨Bs, 0, none⟩) hBs).trans hc
  rcases hI.below (hW.mono hn₀) with ⟨⟨a, c, rfl⟩, rfl⟩ | ⟨b, off, cap, rfl, hb, hcs⟩
  · exact (values1_nil_in F n h7 hro l Bs J W a c hc' h0).mono fun e W' ⟨he, hj⟩ => ⟨he, .inl ⟨_, rfl, hj⟩⟩
  · refine (values1_in F n h7 hro hn l Bs n₀ b off zs.length cap zs hreach hb J Jx hY W hc' hcs h0).mono ?_
    rintro e W' ⟨he, ⟨ys, rfl, hj⟩ | ⟨pre, ⟨k, hk, rfl⟩, hj⟩⟩
    · exact ⟨he, .inl ⟨_, upto_all zs, hj⟩⟩
    · exact ⟨he, .inr ⟨_, by rw [upto_take zs hk]; exact List.take_prefix _ _, hj⟩⟩

theorem info2 : (Tryd.prog.info? 2).map (fun i => (i.zero, i.size, i.bytes)) = some (some (.int .i64 0), 1, 8) := by kernel_rfl

set_option maxRecDepth 100000 in
set_option maxHeartbeats 4000000 in
theorem AppendSeq_in (F : Fence) (n : Nat) (h3 : F.fn 89) (h5 : F.fn 75) (hro : F.round = none) (hn : 3 ≤ n) (Bs : Nat) (sv : Value) (xs : List Int) (hlen : xs.length ≤ maxLen) (hbytes : xs.length * 8 ≤ 140737488351232) (w : World) (hBs : Bs < w.heap.size) (hc : w.cell? ⟨Bs, 0, none⟩ = some sv) (hL : Ints w.heap.size w sv xs) :
    CallsIn F n Tryd.prog 89 #[.slice none 0 0, .func (.func 75) #[] #[.pointer (some ⟨Bs, 0, none⟩)]] w fun e W' => ∃ v, e = .returned v ∧ W'.ownsRow w.heap.size 2 1 v xs.length (xs.map (Value.int .i64)) ∧ Below w.heap.size w W' := by
  have h1 : 1 ≤ n := by omega
  obtain ⟨i0, hi, hz0, hz1, hz2⟩ := info_parts info2
  refine callsIn_of_wp_marks Tryd.func89 rfl h3 ?_ hro
  simp only [Tryd.ntmps89, List.size_toArray, List.length_cons, List.length_nil, Nat.reduceAdd, Nat.reduceSub, Array.replicate_succ, Array.replicate_zero, List.push_toArray, List.append_toArray, List.nil_append, List.cons_append]
  gi_wp2
  have bO := Boxed.new w 32 (.slice none 0 0)
  have hB0 : Below w.heap.size w (w.alloc (.cells #[.slice none 0 0] 32)) := (Below.refl _ w).alloc (Nat.le_refl _) _
  refine wpIn_rangeFunc_ownG hro h1 (gf := 75) (lb := #[.pointer (some ⟨Bs, 0, none⟩)]) rfl h5 (enters_of Tryd.func75 (by kernel_rfl) rfl)
    (values_stops F (n - 1) h5 hro (by omega) Bs w.heap.size sv xs hbytes _ (by simp; omega) (by simp) ((hB0.cell (p := ⟨Bs, 0, none⟩) hBs).trans hc) (hL.below hB0)) belowK_t (belowK_b (by simp)) (Below.refl _ _) (fun _ => rfl)
    (fun pre W => (∃ v, Boxed W w.heap.size 32 v ∧ W.ownsRow w.heap.size 2 1 v pre.length (pre.map (Value.int .i64)) ∧ (v = .slice none 0 0 ↔ pre = [])) ∧ Below w.heap.size w W)
    (fun _ _ _ => False)
    (OwnFrom.and (Own.from (holdsRow_own w.heap.size w.heap.size 32 2 1 (fun pre => pre.length) (fun pre => pre.map (Value.int .i64)) (fun pre v => v = .slice none 0 0 ↔ pre = [])) _) (ownFrom_below (Nat.le_refl _) (by simp)))
    (fun _ _ _ _ _ hs _ _ => hs)
    ⟨⟨_, bO, World.ownsRow_nil _ _ _ _, by simp⟩, hB0⟩
    (fun x => { tmps := #[.slice none 0 0, .func (.func 75) #[] #[.pointer (some ⟨Bs, 0, none⟩)], .pointer (some ⟨w.heap.size, 0, none⟩), undef, .slice none 0 0, .int .i64 x, .func (.func 75) #[] #[.pointer (some ⟨Bs, 0, none⟩)], .int .i64 x, undef, undef, undef, undef, undef], defers := [] }) ?assign ?body ?done ?stop
  case assign =>
    intro l x W K hK
    gi_wp2
    exact hK
  case body =>
    rintro l pre x W ⟨⟨v, hv, hrow, hnil⟩, hB⟩ hlt
    have hc := hv.cell
    gi_wp2_with (gi_at_builtin; refine wpListIn_append_own _ rfl _ _ 32 rfl w.heap.size 2 i0 (.int .i64 0) 1 8 Tryd.underlying32 hi hz0 hz1 hz2 rfl (by decide) _ _ _ rfl (hrow.alloc _) ⟨W.heap.size, 0, none⟩ 1 1 [.int .i64 x] rfl rfl (cell_one_new _ _ _) (by simp [Value.oneCell']) (by omega) (by omega) (by have := hB.size; simp; omega) ?_; intro v' w1 hown' hgrow _; obtain ⟨g', cap', rfl⟩ := ownsRow_succ hown'; obtain ⟨hv1, hv2, hr2, hk2, hb2⟩ := hv.appended (by decide) hrow hB.size (Nat.le_refl _) hown' hgrow; have hc1 := hv1.cell; have hf1 := hv1.frozen)
    exact ⟨hk2.from _, hb2, ⟨_, hv2, by simpa using hr2, by simp⟩, hB.trans hb2⟩
  case done =>
    rintro D ys W hD rfl ⟨⟨v, hv, hrow, hnil⟩, hB⟩ hK
    have hc := hv.cell
    gi_wp2
    refine ⟨by simp, .inl ⟨_, _, rfl, run_takeDeferred hK, ?_⟩⟩
    exact ⟨_, results_tmp rfl _ _ _, v, rfl, ownsRow_putObj hrow _ hK rfl, hB.trans (belowK_b (w := w) (Nat.le_refl _) W D _ _ (by simp at hD; omega) hK rfl rfl)⟩
  case stop =>
    rintro D c pre W _ _ h _
    exact h.elim

set_option maxHeartbeats 1000000 in
theorem values_in (F : Fence) (n : Nat) (h5 : F.fn 41) (hro : F.round = none) (a : Option Addr) (len cap : Nat) (w : World) :
    CallsIn F n Tryd.prog 41 #[.slice a len cap] w fun e w' => e = .returned (.func (.func 75) #[] #[.pointer (some ⟨w.heap.size, 0, none⟩)]) ∧ w' = w.alloc (.cells #[.slice a len cap] 32) := by
  refine callsIn_of_wp Tryd.func41 rfl h5 ?_ hro
  simp only [Tryd.ntmps41, List.size_toArray, List.length_cons, List.length_nil, Nat.reduceAdd, Nat.reduceSub, Array.replicate_succ, Array.replicate_zero, List.push_toArray, List.append_toArray, List.nil_append, List.cons_append]
  gi_wp2
  go_ret
  exact ⟨rfl, rfl⟩

open Go.Sx in
theorem Wk.J0 {W w : World} {G : GH} {H : List Itm} {v : Value} {x : List Int} (m : Mem W G w H) (h : RSl (RI .i64) G v x) :
    Calls Tryd.prog 41 #[v] w (Res W G H (fun _ Ho r => ∃ b, Ho = [Itm.box b 32 [v]] ∧ .func (.func 75) #[] #[.pointer (some ⟨b, 0, none⟩)] = r)) := by
  obtain ⟨a, c, rfl, _, _⟩ := h.len
  refine (callsIn_wide (n := 3)).1 ((values_in Fence.wide 3 trivial rfl a x.length c w).mono ?_)
  rintro e w' ⟨rfl, rfl⟩
  exact ⟨_, rfl, G, [.box w.heap.size 32 [.slice a x.length c]], GLe.refl G, m.alloc 32 [.slice a x.length c], _, rfl, rfl⟩

open Go.Sx in
theorem Wk.D0 {W w : World} {G : GH} {H : List Itm} {b0 : Nat} {v : Value} {x y : List Int} (m : Mem W G w (Itm.box b0 32 [v] :: H)) (h : RSl (RI .i64) G v x) (hy : D.D0 x = some y) :
    Calls Tryd.prog 89 #[.slice none 0 0, .func (.func 75) #[] #[.pointer (some ⟨b0, 0, none⟩)]] w (Res W G H (fun G' Ho r => ∃ r' it, Ho = [it] ∧ r' = r ∧ Go.Sx.Ow (RI .i64) 2 G' it r' y)) := by
  unfold D.D0 at hy
  split at hy
  · rename_i hx
    obtain rfl := Option.some.inj hy
    have hb0 : w.heap[b0]? = some (.cells #[v] 32 (0, 0)) := m.items 0 (.box b0 32 [v]) rfl
    have hc : w.cell? ⟨b0, 0, none⟩ = some v := by simp [World.cell?, hb0]
    have hl : b0 < w.heap.size := (Array.getElem?_eq_some_iff.1 hb0).1
    have hI : Ints w.heap.size w v x := by
      obtain ⟨vs, hA, h⟩ := h
      rcases h with ⟨rfl, rfl⟩ | ⟨⟨b, off, sp⟩, cap, rfl, h1, h2, h3⟩
      · exact .inl ⟨⟨_, _, rfl⟩, rfl⟩
      · rcases Nat.eq_zero_or_pos x.length with h0 | h0
        · refine .inl ⟨⟨_, _, by rw [h0]⟩, List.eq_nil_of_length_eq_zero h0⟩
        · obtain ⟨c, hc, _⟩ := hA.get (i := 0) (x := x[0]) (by simp [h0])
          obtain ⟨rfl, cs, t, f, k1, _⟩ := h3 0 c hc
          refine .inr ⟨b, off, cap, rfl, .inr (m.glt k1), fun j hj => ?_⟩
          obtain ⟨c, hc, hR⟩ := hA.get (i := j) (x := x[j]) (by simp [hj])
          have := (h3 j c hc).2.get m
          rw [this, show c = .int .i64 x[j] from hR]
          simp [hj]
    refine (callsIn_wide (n := 3)).1 ((AppendSeq_in Fence.wide 3 trivial trivial rfl (by omega) b0 v x (by unfold maxLen; omega) (by omega) w hl hc hI).mono ?_)
    rintro e w' ⟨r, rfl, hrow, hB⟩
    refine ⟨_, rfl, G, [.row r 2 1 x.length (x.map (Value.int .i64))], GLe.refl G, ?_, r, _, rfl, rfl, x.map (Value.int .i64), rfl, by simp, fun i c z h1 h2 => ?_⟩
    · refine m.tail.add hB.os hB.tape hB.output (fun z hz => hB.block z hz) ?_ ?_
      · refine ⟨hrow.1, ?_⟩
        rcases hrow.2 with hn | ⟨g, cap, cur, e1, _, e3⟩
        · exact .inl hn
        · exact .inr ⟨g, cap, cur, e1, Nat.zero_le _, e3⟩
      · intro z hz
        rcases hrow.2 with ⟨rfl, _⟩ | ⟨g, cap, cur, rfl, e2, e3⟩
        · simp [Itm.foot, Value.ownBlock] at hz
        · simp [Itm.foot, Value.ownBlock] at hz; omega
    · rw [List.getElem?_map, h2] at h1
      exact (Option.some.inj h1).symm
  · cases hy
end YtkffjeaefgfnnaaDoor
end Go.Proofs

/- Loops in closed form: over the elements of a list, over the numbers below one, with a way out. Plain facts, no program in sight. -/
namespace Go.Sx
theorem w64 {x : Int} (h1 : -9223372036854775808 ≤ x) (h2 : x < 9223372036854775808) : IntKind.i64.wrap x = x := by
  simp only [IntKind.wrap, IntKind.bits, IntKind.signed]
  have e : (2 : Int) ^ 64 = 18446744073709551616 := by decide
  have e' : (2 : Int) ^ (64 - 1) = 9223372036854775808 := by decide
  simp
  omega

theorem dlt {i n : Nat} (h : i < n) : decide ((i : Int) < (n : Int)) = true := by simp; omega
theorem dnlt {n : Nat} : decide ((n : Int) < (n : Int)) = false := by simp
theorem idx_nat {α : Type} {xs : List α} {i : Nat} (h : i < xs.length) : idx xs (i : Int) = some xs[i] := by
  unfold idx; rw [if_pos (by omega)]; simp [h]
theorem idx_int {α : Type} {xs : List α} {i : Int} (h0 : 0 ≤ i) (h : i < xs.length) : idx xs i = some (xs[i.toNat]'(by omega)) := by
  unfold idx; rw [if_pos h0]; simp
theorem wi {i : Nat} (h : i < 4611686018427387904) : IntKind.i64.wrap ((i : Int) + 1) = ((i + 1 : Nat) : Int) := by
  rw [w64 (by omega) (by omega)]; rfl
theorem wi' {i n : Nat} (h : i < n) (hn : n ≤ 4611686018427387904) : IntKind.i64.wrap ((i : Int) + 1) = ((i + 1 : Nat) : Int) := wi (by omega)
theorem getD_lt {α : Type} {xs : List α} {i : Nat} (h : i < xs.length) (d : α) : xs.getD i d = xs[i] := by simp [h]
theorem appendD_ok {α : Type} {xs ys : List α} (h : xs.length + ys.length ≤ 4294967296) : appendD xs ys = some (xs ++ ys) := by
  unfold appendD; rw [if_pos h]
theorem sliceD_pre {α : Type} {xs : List α} {i : Nat} (h : i ≤ xs.length) : sliceD xs 0 (i : Int) = some (xs.take i) := by
  unfold sliceD; rw [if_pos ⟨by omega, by omega, by omega⟩]; simp
theorem sliceD_post {α : Type} {xs : List α} {i : Nat} (h : i ≤ xs.length) : sliceD xs (i : Int) (xs.length : Int) = some (xs.drop i) := by
  unfold sliceD; rw [if_pos ⟨by omega, by omega, by omega⟩]; simp
theorem makeD_ok {α : Type} {z : α} {n : Nat} {c : Int} (h : (n : Int) ≤ c) (h2 : c ≤ 4294967296) : makeD z (n : Int) c = some (List.replicate n z) := by
  unfold makeD; rw [if_pos ⟨by omega, h, h2⟩]; simp
theorem makeD_zero {α : Type} {z : α} {c : Int} (h : 0 ≤ c) (h2 : c ≤ 4294967296) : makeD z 0 c = some [] := by
  unfold makeD; rw [if_pos ⟨by omega, h, h2⟩]; simp

/-- a round either goes on, nearer to the end, or leaves with what was promised -/
def Stp {σ ρ : Type} (I : σ → Prop) (μ : σ → Nat) (Post : ρ → Prop) (s : σ) : σ ⊕ ρ → Prop
  | .inl s' => I s' ∧ μ s' < μ s
  | .inr r => Post r

theorem loop_then {σ ρ β : Type} {step : σ → Option (σ ⊕ ρ)} {s : σ} {k : ρ → Option β} {Q : β → Prop} (I : σ → Prop) (μ : σ → Nat) (Post : ρ → Prop)
    (hstep : ∀ s, I s → ∃ y, step s = some y ∧ Stp I μ Post s y) (h0 : I s) (hk : ∀ r, Post r → ∃ y, k r = some y ∧ Q y) : ∃ y, (loopF step s).bind k = some y ∧ Q y := by
  obtain ⟨r, hr, hp⟩ := loopF_inv (step := step) I μ Post (fun s hs => by
    obtain ⟨y, hy, hq⟩ := hstep s hs
    cases y with
    | inl s' => exact .inl ⟨s', hy, hq.1, hq.2⟩
    | inr r => exact .inr ⟨r, hy, hq⟩) s h0
  rw [hr]
  exact hk r hp
theorem bind_then {α β : Type} {e : Option α} {k : α → Option β} {Q : β → Prop} (R : α → Prop) (h : ∃ x, e = some x ∧ R x) (hk : ∀ x, R x → ∃ y, k x = some y ∧ Q y) : ∃ y, e.bind k = some y ∧ Q y := by
  obtain ⟨x, rfl, hx⟩ := h
  exact hk x hx

/-- from state a to state b in so many rounds -/
theorem loop_steps {S ρ : Type} {step : S → Option (S ⊕ ρ)} (st : Nat → S) (n : Nat) (h : ∀ i, i < n → step (st i) = some (.inl (st (i + 1)))) : loopF step (st 0) = loopF step (st n) := by
  have key : ∀ k, k ≤ n → loopF step (st 0) = loopF step (st k) := by
    intro k
    induction k with
    | zero => intro _; rfl
    | succ k ih => intro hk; rw [ih (by omega), loopF_more (h k (by omega))]
  exact key n (Nat.le_refl n)

/-- and out of it -/
theorem loop_to {S ρ β : Type} {step : S → Option (S ⊕ ρ)} {k : ρ → Option β} {s0 : S} (st : Nat → S) (n : Nat) (r : ρ) (h0 : st 0 = s0) (h : ∀ i, i < n → step (st i) = some (.inl (st (i + 1)))) (he : step (st n) = some (.inr r)) :
    (loopF step s0).bind k = k r := by
  rw [← h0, loop_steps st n h, loopF_done he]; rfl

/-- a loop over the elements of a list, that goes to its end -/
theorem loop_list {α σ S ρ : Type} {step : S → Option (S ⊕ ρ)} (xs : List α) (enc : σ → Int → S) (f : σ → α → σ) (fin : σ → ρ) (I : σ → Prop) (s0 : σ)
    (h0 : I s0) (hstep : ∀ s (i : Nat) (h : i < xs.length), I s → step (enc s i) = some (.inl (enc (f s xs[i]) ((i + 1 : Nat) : Int))) ∧ I (f s xs[i]))
    (hend : ∀ s, I s → step (enc s xs.length) = some (.inr (fin s))) : loopF step (enc s0 0) = some (fin (xs.foldl f s0)) ∧ I (xs.foldl f s0) := by
  have key : ∀ (k i : Nat) (s : σ), i + k = xs.length → I s → loopF step (enc s i) = some (fin ((xs.drop i).foldl f s)) ∧ I ((xs.drop i).foldl f s) := by
    intro k
    induction k with
    | zero =>
      intro i s hk hs
      obtain rfl : i = xs.length := by omega
      simp only [List.drop_length, List.foldl_nil]
      exact ⟨loopF_done (hend s hs), hs⟩
    | succ k ih =>
      intro i s hk hs
      have hi : i < xs.length := by omega
      obtain ⟨h1, h2⟩ := hstep s i hi hs
      rw [loopF_more h1, List.drop_eq_getElem_cons hi, List.foldl_cons]
      exact ih (i + 1) _ (by omega) h2
  have := key xs.length 0 s0 (by omega) h0
  simpa using this

/-- and what comes behind -/
theorem loop_listb {α σ S ρ β : Type} {step : S → Option (S ⊕ ρ)} {k : ρ → Option β} (xs : List α) (enc : σ → Int → S) (f : σ → α → σ) (fin : σ → ρ) (I : σ → Prop) (s0 : σ)
    (h0 : I s0) (hstep : ∀ s (i : Nat) (h : i < xs.length), I s → step (enc s i) = some (.inl (enc (f s xs[i]) ((i + 1 : Nat) : Int))) ∧ I (f s xs[i]))
    (hend : ∀ s, I s → step (enc s xs.length) = some (.inr (fin s))) : (loopF step (enc s0 0)).bind k = k (fin (xs.foldl f s0)) := by
  rw [(loop_list xs enc f fin I s0 h0 hstep hend).1]; rfl

/-- a loop that makes one element for each element -/
theorem loop_map {α β γ S : Type} {step : S → Option (S ⊕ List β)} {k : List β → Option γ} (xs : List α) (enc : List β → Int → S) (f : α → β) (hx : xs.length ≤ 4294967296)
    (hstep : ∀ s (i : Nat) (h : i < xs.length), s.length = i → step (enc s i) = (appendD s [f xs[i]]).bind fun l => some (.inl (enc l ((i + 1 : Nat) : Int))))
    (hend : ∀ s, step (enc s xs.length) = some (.inr s)) : (loopF step (enc [] 0)).bind k = k (xs.map f) := by
  have key : ∀ i, i ≤ xs.length → loopF step (enc [] 0) = loopF step (enc ((xs.take i).map f) i) := by
    intro i
    induction i with
    | zero => intro _; simp
    | succ i ih =>
      intro hi
      rw [ih (by omega)]
      have h1 := hstep ((xs.take i).map f) i (by omega) (by simp; omega)
      have h2 : appendD ((xs.take i).map f) [f xs[i]] = some ((xs.take (i + 1)).map f) := by
        unfold appendD
        rw [if_pos (by simp; omega)]
        rw [List.take_succ_eq_append_getElem (show i < xs.length by omega), List.map_append]; rfl
      rw [h2] at h1
      rw [loopF_more h1]
  rw [key xs.length (Nat.le_refl _), List.take_length, loopF_done (hend _)]; rfl

/-- a loop that looks for the first place where something is so -/
theorem loop_find {ρ : Type} {step : Int → Option (Int ⊕ ρ)} (n : Nat) (c : Nat → Option ρ) (fin : ρ)
    (hstep : ∀ i, i < n → step (i : Int) = match c i with | some r => some (.inr r) | none => some (.inl ((i + 1 : Nat) : Int)))
    (hend : step (n : Int) = some (.inr fin)) : loopF step 0 = some (((List.range n).findSome? c).getD fin) := by
  have key : ∀ (k i : Nat), i + k = n → loopF step (i : Int) = some (((List.range' i k).findSome? c).getD fin) := by
    intro k
    induction k with
    | zero => intro i h; obtain rfl : i = n := by omega
              simpa using loopF_done hend
    | succ k ih =>
      intro i h
      have h1 := hstep i (by omega)
      rw [List.range'_succ, List.findSome?_cons]
      cases hc : c i with
      | some r => rw [hc] at h1; simpa using loopF_done h1
      | none => rw [hc] at h1; rw [loopF_more h1]; exact ih (i + 1) (by omega)
  have := key n 0 (by omega)
  simpa [List.range_eq_range'] using this

/-- all places are good, or the first bad one ends it -/
theorem loop_allb {β : Type} {step : Int → Option (Int ⊕ (Unit ⊕ β))} {k : Unit ⊕ β → Option Bool} (n : Nat) (c : Nat → Bool) (bad : β)
    (hstep : ∀ i, i < n → step (i : Int) = if c i then some (.inl ((i + 1 : Nat) : Int)) else some (.inr (.inr bad)))
    (hend : step (n : Int) = some (.inr (.inl ()))) (hk1 : k (.inl ()) = some true) (hk2 : k (.inr bad) = some false) :
    (loopF step 0).bind k = some ((List.range n).all c) := by
  rw [loop_find n (fun i => if c i then none else some (.inr bad)) (.inl ()) (fun i hi => by rw [hstep i hi]; cases c i <;> rfl) hend]
  simp only [Option.bind_some]
  cases h : (List.range n).all c with
  | true =>
    rw [List.findSome?_eq_none_iff.2 (fun x hx => by rw [if_pos (List.all_eq_true.1 h x hx)])]
    exact hk1
  | false =>
    cases h2 : (List.range n).findSome? (fun i => if c i then none else some (Sum.inr bad)) with
    | none =>
      rw [List.findSome?_eq_none_iff] at h2
      have : (List.range n).all c = true := List.all_eq_true.2 fun x hx => by
        have := h2 x hx
        cases hc : c x
        · rw [hc] at this; cases this
        · rfl
      rw [this] at h; cases h
    | some r =>
      obtain ⟨x, _, hx⟩ := List.exists_of_findSome?_eq_some h2
      cases hc : c x
      · rw [hc] at hx; simp at hx; subst hx; exact hk2
      · rw [hc] at hx; simp at hx

/-- all places are good, or the first bad one ends it: what comes behind -/
theorem loop_ck {ρ β : Type} {step : Int → Option (Int ⊕ ρ)} {k : ρ → Option β} (n : Nat) (c : Nat → Bool) (fine bad : ρ)
    (hstep : ∀ i, i < n → step (i : Int) = if c i then some (.inl ((i + 1 : Nat) : Int)) else some (.inr bad))
    (hend : step (n : Int) = some (.inr fine)) : (loopF step 0).bind k = cond ((List.range n).all c) (k fine) (k bad) := by
  rw [loop_find n (fun i => if c i then none else some bad) fine (fun i hi => by rw [hstep i hi]; cases c i <;> rfl) hend]
  simp only [Option.bind_some]
  cases h : (List.range n).all c with
  | true =>
    rw [List.findSome?_eq_none_iff.2 (fun x hx => by rw [if_pos (List.all_eq_true.1 h x hx)])]
    rfl
  | false =>
    cases h2 : (List.range n).findSome? (fun i => if c i then none else some bad) with
    | none =>
      rw [List.findSome?_eq_none_iff] at h2
      have : (List.range n).all c = true := List.all_eq_true.2 fun x hx => by
        have := h2 x hx
        cases hc : c x
        · rw [hc] at this; cases this
        · rfl
      rw [this] at h; cases h
    | some r =>
      obtain ⟨x, _, hx⟩ := List.exists_of_findSome?_eq_some h2
      cases hc : c x
      · rw [hc] at hx; simp at hx; subst hx; rfl
      · rw [hc] at hx; simp at hx

/-- some place is so -/
theorem loop_anyb {β : Type} {step : Int → Option (Int ⊕ (Unit ⊕ β))} {k : Unit ⊕ β → Option Bool} (n : Nat) (c : Nat → Bool) (good : β)
    (hstep : ∀ i, i < n → step (i : Int) = if c i then some (.inr (.inr good)) else some (.inl ((i + 1 : Nat) : Int)))
    (hend : step (n : Int) = some (.inr (.inl ()))) (hk1 : k (.inl ()) = some false) (hk2 : k (.inr good) = some true) :
    (loopF step 0).bind k = some ((List.range n).any c) := by
  rw [loop_find n (fun i => if c i then some (.inr good) else none) (.inl ()) (fun i hi => by rw [hstep i hi]; cases c i <;> rfl) hend]
  simp only [Option.bind_some]
  cases h : (List.range n).any c with
  | false =>
    rw [List.findSome?_eq_none_iff.2 (fun x hx => by
      have : c x = false := by
        cases hc : c x
        · rfl
        · rw [List.any_eq_true.2 ⟨x, hx, hc⟩] at h; cases h
      rw [this]; rfl)]
    exact hk1
  | true =>
    obtain ⟨x, hx, hc⟩ := List.any_eq_true.1 h
    cases h2 : (List.range n).findSome? (fun i => if c i then some (Sum.inr good) else none) with
    | none =>
      rw [List.findSome?_eq_none_iff] at h2
      have := h2 x hx
      rw [hc] at this; cases this
    | some r =>
      obtain ⟨y, _, hy⟩ := List.exists_of_findSome?_eq_some h2
      cases hc : c y
      · rw [hc] at hy; simp at hy
      · rw [hc] at hy; simp at hy; subst hy; exact hk2

theorem range_all_list {α : Type} (xs : List α) (p : α → Bool) (c : Nat → Bool) (h : ∀ i (hi : i < xs.length), c i = p xs[i]) : (List.range xs.length).all c = xs.all p := by
  rw [Bool.eq_iff_iff, List.all_eq_true, List.all_eq_true]
  constructor
  · intro hh x hx
    obtain ⟨i, hi, rfl⟩ := List.getElem_of_mem hx
    rw [← h i hi]; exact hh i (List.mem_range.2 hi)
  · intro hh i hi
    have hi' := List.mem_range.1 hi
    rw [h i hi']; exact hh _ (List.getElem_mem _)
theorem range_any_list {α : Type} (xs : List α) (p : α → Bool) (c : Nat → Bool) (h : ∀ i (hi : i < xs.length), c i = p xs[i]) : (List.range xs.length).any c = xs.any p := by
  rw [Bool.eq_iff_iff, List.any_eq_true, List.any_eq_true]
  constructor
  · rintro ⟨i, hi, hc⟩
    have hi' := List.mem_range.1 hi
    exact ⟨_, List.getElem_mem hi', by rw [← h i hi']; exact hc⟩
  · rintro ⟨x, hx, hc⟩
    obtain ⟨i, hi, rfl⟩ := List.getElem_of_mem hx
    exact ⟨i, List.mem_range.2 hi, by rw [h i hi]; exact hc⟩
theorem all_forall (n : Nat) (c : Nat → Bool) : (List.range n).all c = true ↔ ∀ i, i < n → c i = true := by
  rw [List.all_eq_true]
  exact ⟨fun h i hi => h i (List.mem_range.2 hi), fun h i hi => h i (List.mem_range.1 hi)⟩

end Go.Sx



/- Go's sort by a comparison (slices.SortFunc), whatever is sorted: its parts as plain functions, made by program out of one instance. -/
namespace Go.Sx

end Go.Sx

/- Lists of things that have a key: reading, swapping, what a sort may do. Plain. -/
namespace Go.Sx.Gs
/-- what is sorted: things with a key, of which some are good, and a comparison that tells of good things which key is less -/
class Srtd (α : Type) where
  dflt : α
  key : α → Int
  good : α → Prop
  cmp : α → α → Option Int
  law : ∀ x y, good x → good y → ∃ v, cmp x y = some v ∧ decide (v < 0) = decide (key x < key y)
variable {α : Type} [Srtd α]
def el (l : List α) (i : Int) : α := l.getD i.toNat Srtd.dflt
def at' (l : List α) (i : Int) : Int := Srtd.key (el l i)
theorem el_set {l : List α} {i k : Int} {x : α} (h0 : 0 ≤ i) (h1 : i < l.length) (hk : 0 ≤ k) : el (l.set i.toNat x) k = if k = i then x else el l k := by
  unfold el
  by_cases h : k = i
  · subst h
    have : k.toNat < l.length := by omega
    simp [this]
  · rw [if_neg h]
    have : i.toNat ≠ k.toNat := by omega
    simp [List.getD_eq_getElem?_getD, List.getElem?_set_ne this]

def sw (l : List α) (i j : Int) : List α := (l.set i.toNat (el l j)).set j.toNat (el l i)
theorem sw_len (l : List α) (i j : Int) : (sw l i j).length = l.length := by simp [sw]
theorem sw_at {l : List α} {i j k : Int} (hi : 0 ≤ i) (hi' : i < l.length) (hj : 0 ≤ j) (hj' : j < l.length) (hk : 0 ≤ k) :
    at' (sw l i j) k = if k = j then at' l i else if k = i then at' l j else at' l k := by
  unfold sw at'
  rw [el_set hj (by simpa using hj') hk]
  split
  · rfl
  · rw [el_set hi hi' hk]
    split <;> rfl

omit [Srtd α] in
theorem set_perm_erase (z : α) : ∀ (l : List α) (j : Nat), j < l.length → List.Perm (l.set j z) (z :: l.eraseIdx j)
  | [], j, h => by simp at h
  | x :: l, 0, _ => by simp
  | x :: l, j + 1, h => by
    simp only [List.set_cons_succ, List.eraseIdx_cons_succ]
    exact ((set_perm_erase z l j (by simpa using h)).cons x).trans (List.Perm.swap _ _ _)
omit [Srtd α] in
theorem perm_erase (l : List α) (j : Nat) (h : j < l.length) : List.Perm l (l[j] :: l.eraseIdx j) := by
  have := set_perm_erase l[j] l j h
  rwa [List.set_getElem_self] at this

omit [Srtd α] in
theorem set_perm : ∀ (l : List α) (i j : Nat) (x y : α), l[i]? = some x → l[j]? = some y → List.Perm ((l.set i y).set j x) l
  | [], i, j, x, y, h, _ => by simp at h
  | z :: l, 0, 0, x, y, h, h' => by simp at h h'; subst h; simp
  | z :: l, 0, j + 1, x, y, h, h' => by
    simp at h h'
    subst h
    simp only [List.set_cons_zero, List.set_cons_succ]
    obtain ⟨hj, rfl⟩ := List.getElem?_eq_some_iff.1 h'
    have h1 := set_perm_erase z l j hj
    have h2 := perm_erase l j hj
    exact ((h1.cons _).trans (List.Perm.swap _ _ _)).trans (h2.symm.cons z)
  | z :: l, i + 1, 0, x, y, h, h' => by
    simp at h h'
    subst h'
    simp only [List.set_cons_zero, List.set_cons_succ]
    obtain ⟨hj, rfl⟩ := List.getElem?_eq_some_iff.1 h
    have h1 := set_perm_erase z l i hj
    have h2 := perm_erase l i hj
    exact ((h1.cons _).trans (List.Perm.swap _ _ _)).trans (h2.symm.cons z)
  | z :: l, i + 1, j + 1, x, y, h, h' => by
    simp at h h'
    simp only [List.set_cons_succ]
    exact (set_perm l i j x y h h').cons z

theorem sw_perm {l : List α} {i j : Int} (hi : 0 ≤ i) (hi' : i < l.length) (hj : 0 ≤ j) (hj' : j < l.length) : List.Perm (sw l i j) l := by
  have h1 : i.toNat < l.length := by omega
  have h2 : j.toNat < l.length := by omega
  exact set_perm l i.toNat j.toNat _ _ (by simp [el, h1]) (by simp [el, h2])

/-- what a sort may do to the places from a to b -/
structure Rg (a b : Int) (l l' : List α) : Prop where
  len : l'.length = l.length
  perm : List.Perm l' l
  out : ∀ k, 0 ≤ k → (k < a ∨ b ≤ k) → at' l' k = at' l k
  all : ∀ Q : Int → Prop, (∀ k, a ≤ k → k < b → Q (at' l k)) → ∀ k, a ≤ k → k < b → Q (at' l' k)

theorem Rg.refl (a b : Int) (l : List α) : Rg a b l l := ⟨rfl, List.Perm.refl _, fun _ _ _ => rfl, fun _ h => h⟩
theorem Rg.trans {a b : Int} {l l' l'' : List α} (h : Rg a b l l') (h' : Rg a b l' l'') : Rg a b l l'' :=
  ⟨h'.len.trans h.len, h'.perm.trans h.perm, fun k h0 hk => (h'.out k h0 hk).trans (h.out k h0 hk), fun Q hQ => h'.all Q (h.all Q hQ)⟩
theorem Rg.swap {a b i j : Int} {l : List α} (ha : 0 ≤ a) (hb : b ≤ l.length) (hi : a ≤ i) (hi' : i < b) (hj : a ≤ j) (hj' : j < b) : Rg a b l (sw l i j) := by
  refine ⟨sw_len _ _ _, sw_perm (by omega) (by omega) (by omega) (by omega), fun k h0 hk => ?_, fun Q hQ k h1 h2 => ?_⟩
  · rw [sw_at (by omega) (by omega) (by omega) (by omega) h0, if_neg (by omega), if_neg (by omega)]
  · rw [sw_at (by omega) (by omega) (by omega) (by omega) (by omega)]
    split
    · exact hQ i hi hi'
    · split
      · exact hQ j hj hj'
      · exact hQ k h1 h2
end Go.Sx.Gs

/- insertion sort. Plain. -/
namespace Go.Sx.Gs
variable {α : Type} [Srtd α]
end Go.Sx.Gs

/- reversal, scans, partition. Plain. -/
namespace Go.Sx.Gs
variable {α : Type} [Srtd α]
/-- what a partition comes to -/
structure Parted (l0 l' : List α) (a b mid : Int) : Prop where
  rg : Rg a b l0 l'
  lo : a ≤ mid
  hi : mid < b
  left : ∀ k, a ≤ k → k < mid → at' l' k ≤ at' l' mid
  right : ∀ k, mid < k → k < b → at' l' mid ≤ at' l' k

end Go.Sx.Gs

/- partition by what is equal; medians; the pivot; partial insertion. Plain. -/
namespace Go.Sx.Gs
variable {α : Type} [Srtd α]
end Go.Sx.Gs

/- Plain facts on lists of numbers: reading, swapping, what a sort may do. No program in sight. -/
namespace Go.Sx
def at' (l : List Int) (i : Int) : Int := l.getD i.toNat 0
theorem idx_at {l : List Int} {i : Int} (h0 : 0 ≤ i) (h1 : i < l.length) : idx l i = some (at' l i) := by
  unfold idx at'
  rw [if_pos h0]
  have : i.toNat < l.length := by omega
  simp [this]
theorem at_set {l : List Int} {i k x : Int} (h0 : 0 ≤ i) (h1 : i < l.length) (hk : 0 ≤ k) : at' (l.set i.toNat x) k = if k = i then x else at' l k := by
  unfold at'
  by_cases h : k = i
  · subst h
    have : k.toNat < l.length := by omega
    simp [this]
  · rw [if_neg h]
    have : i.toNat ≠ k.toNat := by omega
    simp [List.getD_eq_getElem?_getD, List.getElem?_set_ne this]

def sw (l : List Int) (i j : Int) : List Int := (l.set i.toNat (at' l j)).set j.toNat (at' l i)
theorem sw_len (l : List Int) (i j : Int) : (sw l i j).length = l.length := by simp [sw]
theorem sw_at {l : List Int} {i j k : Int} (hi : 0 ≤ i) (hi' : i < l.length) (hj : 0 ≤ j) (hj' : j < l.length) (hk : 0 ≤ k) :
    at' (sw l i j) k = if k = j then at' l i else if k = i then at' l j else at' l k := by
  unfold sw
  rw [at_set hj (by simpa using hj') hk]
  split
  · rfl
  · rw [at_set hi hi' hk]

theorem set_perm_erase (z : Int) : ∀ (l : List Int) (j : Nat), j < l.length → List.Perm (l.set j z) (z :: l.eraseIdx j)
  | [], j, h => by simp at h
  | x :: l, 0, _ => by simp
  | x :: l, j + 1, h => by
    simp only [List.set_cons_succ, List.eraseIdx_cons_succ]
    exact ((set_perm_erase z l j (by simpa using h)).cons x).trans (List.Perm.swap _ _ _)
theorem perm_erase (l : List Int) (j : Nat) (h : j < l.length) : List.Perm l (l[j] :: l.eraseIdx j) := by
  have := set_perm_erase l[j] l j h
  rwa [List.set_getElem_self] at this

theorem set_perm : ∀ (l : List Int) (i j : Nat) (x y : Int), l[i]? = some x → l[j]? = some y → List.Perm ((l.set i y).set j x) l
  | [], i, j, x, y, h, _ => by simp at h
  | z :: l, 0, 0, x, y, h, h' => by simp at h h'; subst h; simp
  | z :: l, 0, j + 1, x, y, h, h' => by
    simp at h h'
    subst h
    simp only [List.set_cons_zero, List.set_cons_succ]
    obtain ⟨hj, rfl⟩ := List.getElem?_eq_some_iff.1 h'
    have h1 := set_perm_erase z l j hj
    have h2 := perm_erase l j hj
    exact ((h1.cons _).trans (List.Perm.swap _ _ _)).trans (h2.symm.cons z)
  | z :: l, i + 1, 0, x, y, h, h' => by
    simp at h h'
    subst h'
    simp only [List.set_cons_zero, List.set_cons_succ]
    obtain ⟨hj, rfl⟩ := List.getElem?_eq_some_iff.1 h
    have h1 := set_perm_erase z l i hj
    have h2 := perm_erase l i hj
    exact ((h1.cons _).trans (List.Perm.swap _ _ _)).trans (h2.symm.cons z)
  | z :: l, i + 1, j + 1, x, y, h, h' => by
    simp at h h'
    simp only [List.set_cons_succ]
    exact (set_perm l i j x y h h').cons z

theorem sw_perm {l : List Int} {i j : Int} (hi : 0 ≤ i) (hi' : i < l.length) (hj : 0 ≤ j) (hj' : j < l.length) : List.Perm (sw l i j) l := by
  have h1 : i.toNat < l.length := by omega
  have h2 : j.toNat < l.length := by omega
  exact set_perm l i.toNat j.toNat _ _ (by simp [at', h1]) (by simp [at', h2])

/-- what a sort may do to the places from a to b -/
structure Rg (a b : Int) (l l' : List Int) : Prop where
  len : l'.length = l.length
  perm : List.Perm l' l
  out : ∀ k, 0 ≤ k → (k < a ∨ b ≤ k) → at' l' k = at' l k
  all : ∀ Q : Int → Prop, (∀ k, a ≤ k → k < b → Q (at' l k)) → ∀ k, a ≤ k → k < b → Q (at' l' k)

theorem Rg.refl (a b : Int) (l : List Int) : Rg a b l l := ⟨rfl, List.Perm.refl _, fun _ _ _ => rfl, fun _ h => h⟩
theorem Rg.trans {a b : Int} {l l' l'' : List Int} (h : Rg a b l l') (h' : Rg a b l' l'') : Rg a b l l'' :=
  ⟨h'.len.trans h.len, h'.perm.trans h.perm, fun k h0 hk => (h'.out k h0 hk).trans (h.out k h0 hk), fun Q hQ => h'.all Q (h.all Q hQ)⟩
theorem Rg.swap {a b i j : Int} {l : List Int} (ha : 0 ≤ a) (hb : b ≤ l.length) (hi : a ≤ i) (hi' : i < b) (hj : a ≤ j) (hj' : j < b) : Rg a b l (sw l i j) := by
  refine ⟨sw_len _ _ _, sw_perm (by omega) (by omega) (by omega) (by omega), fun k h0 hk => ?_, fun Q hQ k h1 h2 => ?_⟩
  · rw [sw_at (by omega) (by omega) (by omega) (by omega) h0, if_neg (by omega), if_neg (by omega)]
  · rw [sw_at (by omega) (by omega) (by omega) (by omega) (by omega)]
    split
    · exact hQ i hi hi'
    · split
      · exact hQ j hj hj'
      · exact hQ k h1 h2
theorem Rg.widen {a b a' b' : Int} {l l' : List Int} (h : Rg a b l l') (ha : a' ≤ a) (hb : b ≤ b') (h0 : 0 ≤ a') : Rg a' b' l l' := by
  refine ⟨h.len, h.perm, fun k h0 hk => h.out k h0 (by omega), fun Q hQ k h1 h2 => ?_⟩
  by_cases hk : a ≤ k ∧ k < b
  · exact h.all Q (fun k h3 h4 => hQ k (by omega) (by omega)) k hk.1 hk.2
  · rw [h.out k (by omega) (by omega)]; exact hQ k h1 h2

/-- sorted from a to b -/
def Srt (l : List Int) (a b : Int) : Prop := ∀ i j, a ≤ i → i < j → j < b → at' l i ≤ at' l j

end Go.Sx

/- What Go's sort at []int64 comes to. Plain. -/
namespace Go.Sx
theorem less_eq (x y : Int) : D.a x y = some (decide (x < y)) := by
  simp [D.a, D.Q]

theorem idx_set_at {l : List Int} {i j x : Int} (h0 : 0 ≤ i) (h1 : i < l.length) : idx (l.set j.toNat x) i = some (at' (l.set j.toNat x) i) := idx_at h0 (by simpa using h1)

theorem insertionSort_spec (l0 : List Int) (a b : Int) (ha : 0 ≤ a) (hab : a ≤ b) (hb : b ≤ l0.length) (hlen : l0.length ≤ 1000000) :
    ∃ l', D.V l0 a b = some l' ∧ Rg a b l0 l' ∧ Srt l' a b := by
  unfold D.V
  rw [w64 (show -9223372036854775808 ≤ a + 1 by omega) (by omega)]
  refine loop_then (fun s => Rg a b l0 s.1 ∧ Srt s.1 a s.2 ∧ a + 1 ≤ s.2 ∧ s.2 ≤ b + 1) (fun s => (b - s.2).toNat) (fun r => Rg a b l0 r ∧ Srt r a b) ?_ ?_ ?_
  · rintro ⟨l, i⟩ ⟨hR, hS, h1, h2⟩
    dsimp only at hR hS h1 h2 ⊢
    have hll := hR.len
    by_cases hi : i < b
    · simp only [hi, decide_true, cond_true]
      rw [w64 (show -9223372036854775808 ≤ i + 1 by omega) (by omega)]
      refine loop_then (fun s => Rg a b l0 s.1 ∧ a ≤ s.2 ∧ s.2 ≤ i ∧ ∀ p q, a ≤ p → p < q → q ≤ i → q ≠ s.2 → at' s.1 p ≤ at' s.1 q) (fun s => (s.2 - a).toNat) (fun r => Rg a b l0 r ∧ Srt r a (i + 1)) ?_ ?_ ?_
      · rintro ⟨m, j⟩ ⟨hR', g1, g2, hS'⟩
        dsimp only at hR' g1 g2 hS' ⊢
        have hml := hR'.len
        rw [w64 (show -9223372036854775808 ≤ j - 1 by omega) (by omega)]
        by_cases hj : a < j
        · have r1 : idx m j = some (at' m j) := idx_at (by omega) (by omega)
          have r2 : idx m (j - 1) = some (at' m (j - 1)) := idx_at (by omega) (by omega)
          have r3 : ∀ x, idx (m.set j.toNat x) (j - 1) = some (at' (m.set j.toNat x) (j - 1)) := fun x => idx_set_at (by omega) (by omega)
          by_cases hlt : at' m j < at' m (j - 1)
          · refine ⟨.inl (sw m j (j - 1), j - 1), ?_, ⟨hR'.trans (Rg.swap ha (by omega) (by omega) (by omega) (by omega) (by omega)), by dsimp only; omega, by dsimp only; omega, ?_⟩, by dsimp only; omega⟩
            · simp only [r1, r2, r3, hj, less_eq, hlt, decide_true, cond_true, Option.bind_some]
              rfl
            · intro p q k1 k2 k3 k4
              dsimp only at k4 ⊢
              rw [sw_at (by omega) (by omega) (by omega) (by omega) (by omega), sw_at (by omega) (by omega) (by omega) (by omega) (by omega)]
              by_cases c1 : q = j
              · subst c1
                rw [if_neg (show ¬ q = q - 1 by omega), if_pos rfl]
                by_cases c2 : p = q - 1
                · rw [if_pos c2]; omega
                · rw [if_neg c2, if_neg (by omega)]
                  exact hS' p (q - 1) k1 (by omega) (by omega) (by omega)
              · rw [if_neg (show ¬ q = j - 1 by omega), if_neg c1]
                by_cases c2 : p = j - 1
                · rw [if_pos c2]
                  exact hS' j q (by omega) (by omega) k3 c1
                · rw [if_neg c2]
                  by_cases c3 : p = j
                  · rw [if_pos c3]
                    exact hS' (j - 1) q (by omega) (by omega) k3 c1
                  · rw [if_neg c3]
                    exact hS' p q k1 k2 k3 c1
          · refine ⟨.inr m, ?_, hR', ?_⟩
            · simp only [r1, r2, hj, less_eq, hlt, decide_true, decide_false, cond_true, cond_false, Option.bind_some]
            · intro p q k1 k2 k3
              by_cases c1 : q = j
              · subst c1
                by_cases c2 : p = q - 1
                · subst c2; omega
                · have := hS' p (q - 1) k1 (by omega) (by omega) (by omega)
                  omega
              · exact hS' p q k1 k2 (by omega) c1
        · refine ⟨.inr m, ?_, hR', ?_⟩
          · simp only [hj, decide_false, cond_false, Option.bind_some]
          · intro p q k1 k2 k3
            exact hS' p q k1 k2 (by omega) (by omega)
      · exact ⟨hR, by dsimp only; omega, Int.le_refl _, fun p q k1 k2 k3 k4 => hS p q k1 k2 (by dsimp only at k4 ⊢; omega)⟩
      · rintro r ⟨hR', hS'⟩
        exact ⟨.inl (r, i + 1), rfl, ⟨hR', hS', by dsimp only; omega, by dsimp only; omega⟩, by dsimp only; omega⟩
    · refine ⟨.inr l, by simp only [hi, decide_false, cond_false], hR, ?_⟩
      intro p q k1 k2 k3
      exact hS p q k1 k2 (by omega)
  · exact ⟨Rg.refl _ _ _, fun p q k1 k2 k3 => by dsimp only at k3; omega, by dsimp only; omega, by dsimp only; omega⟩
  · rintro r hr
    exact ⟨r, rfl, hr⟩
end Go.Sx

namespace Go.Sx
theorem reverseRange_spec (l0 : List Int) (a b : Int) (ha : 0 ≤ a) (hab : a ≤ b) (hb : b ≤ l0.length) (hlen : l0.length ≤ 1000000) :
    ∃ l', D.X l0 a b = some l' ∧ Rg a b l0 l' := by
  unfold D.X
  rw [w64 (show -9223372036854775808 ≤ b - 1 by omega) (by omega)]
  refine loop_then (fun s => Rg a b l0 s.1 ∧ a ≤ s.2.1 ∧ s.2.1 ≤ b ∧ s.2.2 < b ∧ a - 1 ≤ s.2.2) (fun s => (s.2.2 - s.2.1).toNat) (fun r => Rg a b l0 r) ?_ ?_ ?_
  · rintro ⟨l, i, j⟩ ⟨hR, h1, h2, h3, h4⟩
    dsimp only at hR h1 h2 h3 h4 ⊢
    have hll := hR.len
    by_cases hi : i < j
    · have r1 : idx l i = some (at' l i) := idx_at (by omega) (by omega)
      have r2 : idx l j = some (at' l j) := idx_at (by omega) (by omega)
      have r3 : ∀ x, idx (l.set i.toNat x) j = some (at' (l.set i.toNat x) j) := fun x => idx_set_at (by omega) (by omega)
      rw [w64 (show -9223372036854775808 ≤ i + 1 by omega) (by omega), w64 (show -9223372036854775808 ≤ j - 1 by omega) (by omega)]
      refine ⟨.inl (sw l i j, i + 1, j - 1), ?_, ⟨hR.trans (Rg.swap ha (by omega) (by omega) (by omega) (by omega) (by omega)), by dsimp only; omega, by dsimp only; omega, by dsimp only; omega, by dsimp only; omega⟩, by dsimp only; omega⟩
      simp only [r1, r2, r3, hi, decide_true, cond_true, Option.bind_some]
      rfl
    · exact ⟨.inr l, by simp only [hi, decide_false, cond_false], hR⟩
  · exact ⟨Rg.refl _ _ _, by dsimp only; omega, by dsimp only; omega, by dsimp only; omega, by dsimp only; omega⟩
  · rintro r hr
    exact ⟨r, rfl, hr⟩

/-- up, while what is read is less than the pivot -/
theorem scanUp {β : Type} {k : Int → Option β} {Q : β → Prop} (l : List Int) (a hi i0 : Int) (ha : 0 ≤ a) (ha' : a < l.length) (h0 : 0 ≤ i0) (h1 : i0 ≤ hi + 1) (h2 : hi < l.length) (hlen : l.length ≤ 1000000)
    (hk : ∀ i, i0 ≤ i → i ≤ hi + 1 → (∀ q, i0 ≤ q → q < i → at' l q < at' l a) → (i ≤ hi → ¬ at' l i < at' l a) → ∃ y, k i = some y ∧ Q y) :
    ∃ y, (loopF (σ := Int) (ρ := (Int)) (fun (x : Int) => (cond (decide (x ≤ hi)) ((idx l x).bind fun e => (idx l a).bind fun e' => (D.a e e').bind fun y => some y) (some false)).bind fun b => cond b (some (.inl (IntKind.i64.wrap (x + 1)))) (some (.inr x))) i0).bind k = some y ∧ Q y := by
  refine loop_then (fun i => i0 ≤ i ∧ i ≤ hi + 1 ∧ ∀ q, i0 ≤ q → q < i → at' l q < at' l a) (fun i => (hi + 1 - i).toNat) (fun i => i0 ≤ i ∧ i ≤ hi + 1 ∧ (∀ q, i0 ≤ q → q < i → at' l q < at' l a) ∧ (i ≤ hi → ¬ at' l i < at' l a)) ?_ ?_ ?_
  · rintro i ⟨g1, g2, g3⟩
    by_cases hi' : i ≤ hi
    · have r1 : idx l i = some (at' l i) := idx_at (by omega) (by omega)
      have r2 : idx l a = some (at' l a) := idx_at (by omega) (by omega)
      by_cases hlt : at' l i < at' l a
      · refine ⟨.inl (i + 1), ?_, ⟨by omega, by omega, fun q q1 q2 => ?_⟩, by dsimp only; omega⟩
        · simp only [r1, r2, hi', less_eq, hlt, decide_true, cond_true, Option.bind_some]
          rw [w64 (by omega) (by omega)]
        · by_cases e : q = i
          · rw [e]; exact hlt
          · exact g3 q q1 (by omega)
      · exact ⟨.inr i, by simp only [r1, r2, hi', less_eq, hlt, decide_true, decide_false, cond_true, cond_false, Option.bind_some], g1, g2, g3, fun _ => hlt⟩
    · exact ⟨.inr i, by simp only [hi', decide_false, cond_false, Option.bind_some], g1, g2, g3, fun h => absurd h hi'⟩
  · exact ⟨Int.le_refl _, h1, fun q q1 q2 => by omega⟩
  · rintro i ⟨g1, g2, g3, g4⟩
    exact hk i g1 g2 g3 g4

/-- down, while what is read is not less than the pivot -/
theorem scanDown {β : Type} {k : Int → Option β} {Q : β → Prop} (l : List Int) (a lo j0 : Int) (ha : 0 ≤ a) (ha' : a < l.length) (h0 : 0 ≤ lo) (h1 : lo ≤ j0 + 1) (h2 : j0 < l.length) (hlen : l.length ≤ 1000000)
    (hk : ∀ j, lo ≤ j + 1 → j ≤ j0 → (∀ q, j < q → q ≤ j0 → ¬ at' l q < at' l a) → (lo ≤ j → at' l j < at' l a) → ∃ y, k j = some y ∧ Q y) :
    ∃ y, (loopF (σ := Int) (ρ := (Int)) (fun (x : Int) => (cond (decide (lo ≤ x)) ((idx l x).bind fun e => (idx l a).bind fun e' => (D.a e e').bind fun y => some (!y)) (some false)).bind fun b => cond b (some (.inl (IntKind.i64.wrap (x - 1)))) (some (.inr x))) j0).bind k = some y ∧ Q y := by
  refine loop_then (fun j => lo ≤ j + 1 ∧ j ≤ j0 ∧ ∀ q, j < q → q ≤ j0 → ¬ at' l q < at' l a) (fun j => (j + 1 - lo).toNat) (fun j => lo ≤ j + 1 ∧ j ≤ j0 ∧ (∀ q, j < q → q ≤ j0 → ¬ at' l q < at' l a) ∧ (lo ≤ j → at' l j < at' l a)) ?_ ?_ ?_
  · rintro j ⟨g1, g2, g3⟩
    by_cases hi' : lo ≤ j
    · have r1 : idx l j = some (at' l j) := idx_at (by omega) (by omega)
      have r2 : idx l a = some (at' l a) := idx_at (by omega) (by omega)
      by_cases hlt : at' l j < at' l a
      · exact ⟨.inr j, by simp only [r1, r2, hi', less_eq, hlt, decide_true, Bool.not_true, cond_true, cond_false, Option.bind_some], g1, g2, g3, fun _ => hlt⟩
      · refine ⟨.inl (j - 1), ?_, ⟨by omega, by omega, fun q q1 q2 => ?_⟩, by dsimp only; omega⟩
        · simp only [r1, r2, hi', less_eq, hlt, decide_true, decide_false, Bool.not_false, cond_true, Option.bind_some]
          rw [w64 (by omega) (by omega)]
        · by_cases e : q = j
          · rw [e]; exact hlt
          · exact g3 q (by omega) q2
    · exact ⟨.inr j, by simp only [hi', decide_false, cond_false, Option.bind_some], g1, g2, g3, fun h => absurd h hi'⟩
  · exact ⟨h1, Int.le_refl _, fun q q1 q2 => by omega⟩
  · rintro j ⟨g1, g2, g3, g4⟩
    exact hk j g1 g2 g3 g4

/-- what a partition comes to -/
structure Parted (l0 l' : List Int) (a b mid : Int) : Prop where
  rg : Rg a b l0 l'
  lo : a ≤ mid
  hi : mid < b
  left : ∀ k, a ≤ k → k < mid → at' l' k ≤ at' l' mid
  right : ∀ k, mid < k → k < b → at' l' mid ≤ at' l' k

theorem partition_spec (l0 : List Int) (a b p : Int) (ha : 0 ≤ a) (hb : b ≤ l0.length) (hlen : l0.length ≤ 1000000) (hp : a ≤ p) (hp' : p < b) :
    ∃ y, D.s0 l0 a b p = some y ∧ Parted l0 y.2.2 a b y.1 := by
  unfold D.s0
  have r1 : idx l0 p = some (at' l0 p) := idx_at (by omega) (by omega)
  have r2 : idx l0 a = some (at' l0 a) := idx_at (by omega) (by omega)
  have r3 : ∀ x, idx (l0.set a.toNat x) p = some (at' (l0.set a.toNat x) p) := fun x => idx_set_at (by omega) (by omega)
  simp only [r1, r2, r3, Option.bind_some]
  rw [show (l0.set a.toNat (at' l0 p)).set p.toNat (at' l0 a) = sw l0 a p from rfl]
  have hR0 : Rg a b l0 (sw l0 a p) := Rg.swap ha hb (by omega) (by omega) hp hp'
  generalize sw l0 a p = m0 at hR0 ⊢
  have hm0 := hR0.len
  rw [w64 (show -9223372036854775808 ≤ b - 1 by omega) (by omega), w64 (show -9223372036854775808 ≤ a + 1 by omega) (by omega)]
  refine scanUp m0 a (b - 1) (a + 1) ha (by omega) (by omega) (by omega) (by omega) (by omega) (fun i i1 i2 i3 i4 => ?_)
  refine scanDown m0 a i (b - 1) ha (by omega) (by omega) (by omega) (by omega) (by omega) (fun j j1 j2 j3 j4 => ?_)
  have q1 : idx m0 a = some (at' m0 a) := idx_at (by omega) (by omega)
  have q2 : idx m0 j = some (at' m0 j) := idx_at (by omega) (by omega)
  by_cases hij : j < i
  · have q3 : ∀ x, idx (m0.set j.toNat x) a = some (at' (m0.set j.toNat x) a) := fun x => idx_set_at (by omega) (by omega)
    refine ⟨(j, true, sw m0 j a), ?_, ⟨hR0.trans (Rg.swap ha (by omega) (by omega) (by omega) (by omega) (by omega)), by dsimp only; omega, by dsimp only; omega, fun k k1 k2 => ?_, fun k k1 k2 => ?_⟩⟩
    · simp only [q1, q2, q3, hij, decide_true, cond_true, Option.bind_some]
      rfl
    · dsimp only at k1 k2 ⊢
      rw [sw_at (by omega) (by omega) (by omega) (by omega) (by omega), sw_at (by omega) (by omega) (by omega) (by omega) (by omega)]
      rw [if_neg (show ¬ j = a by omega), if_pos rfl]
      by_cases e : k = a
      · rw [if_pos e]
        have := i3 j (by omega) (by omega); omega
      · rw [if_neg e, if_neg (by omega)]
        have := i3 k (by omega) (by omega); omega
    · dsimp only at k1 k2 ⊢
      rw [sw_at (by omega) (by omega) (by omega) (by omega) (by omega), sw_at (by omega) (by omega) (by omega) (by omega) (by omega)]
      rw [if_neg (show ¬ k = a by omega), if_neg (show ¬ k = j by omega)]
      have hk := j3 k (by omega) (by omega)
      by_cases e : j = a
      · rw [if_pos e]; subst e; omega
      · rw [if_neg e, if_pos rfl]; omega
  · have q4 : idx m0 i = some (at' m0 i) := idx_at (by omega) (by omega)
    have q5 : ∀ x, idx (m0.set i.toNat x) j = some (at' (m0.set i.toNat x) j) := fun x => idx_set_at (by omega) (by omega)
    simp only [q1, q2, q4, q5, hij, decide_false, cond_false, Option.bind_some]
    rw [show (m0.set i.toNat (at' m0 j)).set j.toNat (at' m0 i) = sw m0 i j from rfl]
    have hia := i4 (by omega)
    have hja := j4 (by omega)
    have hne : i < j := by
      rcases Int.lt_or_eq_of_le (show i ≤ j by omega) with h | h
      · exact h
      · subst h; exact absurd hja hia
    have hR1 : Rg a b l0 (sw m0 i j) := hR0.trans (Rg.swap ha (by omega) (by omega) (by omega) (by omega) (by omega))
    have ea : at' (sw m0 i j) a = at' m0 a := by rw [sw_at (by omega) (by omega) (by omega) (by omega) (by omega), if_neg (by omega), if_neg (by omega)]
    have hlo : ∀ q, a + 1 ≤ q → q < i + 1 → at' (sw m0 i j) q < at' (sw m0 i j) a := fun q h1 h2 => by
      rw [ea, sw_at (by omega) (by omega) (by omega) (by omega) (by omega), if_neg (by omega)]
      by_cases e : q = i
      · rw [if_pos e]; exact hja
      · rw [if_neg e]; exact i3 q h1 (by omega)
    have hhi : ∀ q, j - 1 < q → q < b → ¬ at' (sw m0 i j) q < at' (sw m0 i j) a := fun q h1 h2 => by
      rw [ea, sw_at (by omega) (by omega) (by omega) (by omega) (by omega)]
      by_cases e : q = j
      · rw [if_pos e]; exact hia
      · rw [if_neg e, if_neg (by omega)]; exact j3 q (by omega) (by omega)
    rw [w64 (show -9223372036854775808 ≤ i + 1 by omega) (by omega), w64 (show -9223372036854775808 ≤ j - 1 by omega) (by omega)]
    generalize sw m0 i j = m1 at hR1 hlo hhi ⊢
    refine loop_then (fun s => Rg a b l0 s.1 ∧ a + 1 ≤ s.2.1 ∧ s.2.1 ≤ s.2.2 + 1 ∧ s.2.2 < b ∧ (∀ q, a + 1 ≤ q → q < s.2.1 → at' s.1 q < at' s.1 a) ∧ (∀ q, s.2.2 < q → q < b → ¬ at' s.1 q < at' s.1 a)) (fun s => (s.2.2 + 1 - s.2.1).toNat)
      (fun s => Rg a b l0 s.1 ∧ a ≤ s.2 ∧ s.2 < b ∧ (∀ q, a + 1 ≤ q → q ≤ s.2 → at' s.1 q < at' s.1 a) ∧ (∀ q, s.2 < q → q < b → ¬ at' s.1 q < at' s.1 a)) ?_ ?_ ?_
    · rintro ⟨m, u, v⟩ ⟨hR, g1, g2, g3, g4, g5⟩
      dsimp only at hR g1 g2 g3 g4 g5 ⊢
      have hml := hR.len
      refine scanUp m a v u ha (by omega) (by omega) (by omega) (by omega) (by omega) (fun i i1 i2 i3 i4 => ?_)
      refine scanDown m a i v ha (by omega) (by omega) (by omega) (by omega) (by omega) (fun j j1 j2 j3 j4 => ?_)
      have f1 : ∀ q, a + 1 ≤ q → q < i → at' m q < at' m a := fun q h1 h2 => by
        by_cases h : q < u
        · exact g4 q h1 h
        · exact i3 q (by omega) h2
      have f2 : ∀ q, j < q → q < b → ¬ at' m q < at' m a := fun q h1 h2 => by
        by_cases h : q ≤ v
        · exact j3 q h1 h
        · exact g5 q (by omega) h2
      by_cases hij : j < i
      · exact ⟨.inr (m, j), by simp only [hij, decide_true, cond_true], hR, by dsimp only; omega, by dsimp only; omega, fun q h1 h2 => f1 q h1 (by dsimp only at h2; omega), f2⟩
      · have t1 : idx m i = some (at' m i) := idx_at (by omega) (by omega)
        have t2 : idx m j = some (at' m j) := idx_at (by omega) (by omega)
        have t3 : ∀ x, idx (m.set i.toNat x) j = some (at' (m.set i.toNat x) j) := fun x => idx_set_at (by omega) (by omega)
        have hia := i4 (by omega)
        have hja := j4 (by omega)
        have hne : i < j := by
          rcases Int.lt_or_eq_of_le (show i ≤ j by omega) with h | h
          · exact h
          · subst h; exact absurd hja hia
        have ea : at' (sw m i j) a = at' m a := by rw [sw_at (by omega) (by omega) (by omega) (by omega) (by omega), if_neg (by omega), if_neg (by omega)]
        rw [w64 (show -9223372036854775808 ≤ i + 1 by omega) (by omega), w64 (show -9223372036854775808 ≤ j - 1 by omega) (by omega)]
        refine ⟨.inl (sw m i j, i + 1, j - 1), ?_, ⟨hR.trans (Rg.swap ha (by omega) (by omega) (by omega) (by omega) (by omega)), by dsimp only; omega, by dsimp only; omega, by dsimp only; omega, fun q h1 h2 => ?_, fun q h1 h2 => ?_⟩, by dsimp only; omega⟩
        · simp only [t1, t2, t3, hij, decide_false, cond_false, Option.bind_some]
          rfl
        · dsimp only at h2 ⊢
          rw [ea, sw_at (by omega) (by omega) (by omega) (by omega) (by omega), if_neg (by omega)]
          by_cases e : q = i
          · rw [if_pos e]; exact hja
          · rw [if_neg e]; exact f1 q h1 (by omega)
        · dsimp only at h1 ⊢
          rw [ea, sw_at (by omega) (by omega) (by omega) (by omega) (by omega)]
          by_cases e : q = j
          · rw [if_pos e]; exact hia
          · rw [if_neg e, if_neg (by omega)]; exact f2 q (by omega) h2
    · exact ⟨hR1, by dsimp only; omega, by dsimp only; omega, by dsimp only; omega, hlo, hhi⟩
    · rintro ⟨m, v⟩ ⟨hR, g1, g2, g3, g4⟩
      dsimp only at hR g1 g2 g3 g4 ⊢
      have hml := hR.len
      have t1 : idx m a = some (at' m a) := idx_at (by omega) (by omega)
      have t2 : idx m v = some (at' m v) := idx_at (by omega) (by omega)
      have t3 : ∀ x, idx (m.set v.toNat x) a = some (at' (m.set v.toNat x) a) := fun x => idx_set_at (by omega) (by omega)
      refine ⟨(v, false, sw m v a), ?_, ⟨hR.trans (Rg.swap ha (by omega) (by omega) (by omega) (by omega) (by omega)), g1, g2, fun k k1 k2 => ?_, fun k k1 k2 => ?_⟩⟩
      · simp only [t1, t2, t3, Option.bind_some]
        rfl
      · dsimp only at k1 k2 ⊢
        rw [sw_at (by omega) (by omega) (by omega) (by omega) (by omega), sw_at (by omega) (by omega) (by omega) (by omega) (by omega)]
        rw [if_neg (show ¬ v = a by omega), if_pos rfl]
        by_cases e : k = a
        · rw [if_pos e]
          have := g3 v (by omega) (by omega); omega
        · rw [if_neg e, if_neg (by omega)]
          have := g3 k (by omega) (by omega); omega
      · dsimp only at k1 k2 ⊢
        rw [sw_at (by omega) (by omega) (by omega) (by omega) (by omega), sw_at (by omega) (by omega) (by omega) (by omega) (by omega)]
        rw [if_neg (show ¬ k = a by omega), if_neg (show ¬ k = v by omega)]
        have hk := g4 k (by omega) (by omega)
        by_cases e : v = a
        · rw [if_pos e]; subst e; omega
        · rw [if_neg e, if_pos rfl]; omega
end Go.Sx

namespace Go.Sx
/-- up, while the pivot is not less than what is read -/
theorem scanUp2 {β : Type} {k : Int → Option β} {Q : β → Prop} (l : List Int) (a hi i0 : Int) (ha : 0 ≤ a) (ha' : a < l.length) (h0 : 0 ≤ i0) (h1 : i0 ≤ hi + 1) (h2 : hi < l.length) (hlen : l.length ≤ 1000000)
    (hk : ∀ i, i0 ≤ i → i ≤ hi + 1 → (∀ q, i0 ≤ q → q < i → ¬ at' l a < at' l q) → (i ≤ hi → at' l a < at' l i) → ∃ y, k i = some y ∧ Q y) :
    ∃ y, (loopF (σ := Int) (ρ := (Int)) (fun (x : Int) => (cond (decide (x ≤ hi)) ((idx l a).bind fun e => (idx l x).bind fun e' => (D.a e e').bind fun y => some (!y)) (some false)).bind fun b => cond b (some (.inl (IntKind.i64.wrap (x + 1)))) (some (.inr x))) i0).bind k = some y ∧ Q y := by
  refine loop_then (fun i => i0 ≤ i ∧ i ≤ hi + 1 ∧ ∀ q, i0 ≤ q → q < i → ¬ at' l a < at' l q) (fun i => (hi + 1 - i).toNat) (fun i => i0 ≤ i ∧ i ≤ hi + 1 ∧ (∀ q, i0 ≤ q → q < i → ¬ at' l a < at' l q) ∧ (i ≤ hi → at' l a < at' l i)) ?_ ?_ ?_
  · rintro i ⟨g1, g2, g3⟩
    by_cases hi' : i ≤ hi
    · have r1 : idx l i = some (at' l i) := idx_at (by omega) (by omega)
      have r2 : idx l a = some (at' l a) := idx_at (by omega) (by omega)
      by_cases hlt : at' l a < at' l i
      · exact ⟨.inr i, by simp only [r1, r2, hi', less_eq, hlt, decide_true, Bool.not_true, cond_true, cond_false, Option.bind_some], g1, g2, g3, fun _ => hlt⟩
      · refine ⟨.inl (i + 1), ?_, ⟨by omega, by omega, fun q q1 q2 => ?_⟩, by dsimp only; omega⟩
        · simp only [r1, r2, hi', less_eq, hlt, decide_true, decide_false, Bool.not_false, cond_true, Option.bind_some]
          rw [w64 (by omega) (by omega)]
        · by_cases e : q = i
          · rw [e]; exact hlt
          · exact g3 q q1 (by omega)
    · exact ⟨.inr i, by simp only [hi', decide_false, cond_false, Option.bind_some], g1, g2, g3, fun h => absurd h hi'⟩
  · exact ⟨Int.le_refl _, h1, fun q q1 q2 => by omega⟩
  · rintro i ⟨g1, g2, g3, g4⟩
    exact hk i g1 g2 g3 g4

/-- down, while the pivot is less than what is read -/
theorem scanDown2 {β : Type} {k : Int → Option β} {Q : β → Prop} (l : List Int) (a lo j0 : Int) (ha : 0 ≤ a) (ha' : a < l.length) (h0 : 0 ≤ lo) (h1 : lo ≤ j0 + 1) (h2 : j0 < l.length) (hlen : l.length ≤ 1000000)
    (hk : ∀ j, lo ≤ j + 1 → j ≤ j0 → (∀ q, j < q → q ≤ j0 → at' l a < at' l q) → (lo ≤ j → ¬ at' l a < at' l j) → ∃ y, k j = some y ∧ Q y) :
    ∃ y, (loopF (σ := Int) (ρ := (Int)) (fun (x : Int) => (cond (decide (lo ≤ x)) ((idx l a).bind fun e => (idx l x).bind fun e' => (D.a e e').bind fun y => some y) (some false)).bind fun b => cond b (some (.inl (IntKind.i64.wrap (x - 1)))) (some (.inr x))) j0).bind k = some y ∧ Q y := by
  refine loop_then (fun j => lo ≤ j + 1 ∧ j ≤ j0 ∧ ∀ q, j < q → q ≤ j0 → at' l a < at' l q) (fun j => (j + 1 - lo).toNat) (fun j => lo ≤ j + 1 ∧ j ≤ j0 ∧ (∀ q, j < q → q ≤ j0 → at' l a < at' l q) ∧ (lo ≤ j → ¬ at' l a < at' l j)) ?_ ?_ ?_
  · rintro j ⟨g1, g2, g3⟩
    by_cases hi' : lo ≤ j
    · have r1 : idx l j = some (at' l j) := idx_at (by omega) (by omega)
      have r2 : idx l a = some (at' l a) := idx_at (by omega) (by omega)
      by_cases hlt : at' l a < at' l j
      · refine ⟨.inl (j - 1), ?_, ⟨by omega, by omega, fun q q1 q2 => ?_⟩, by dsimp only; omega⟩
        · simp only [r1, r2, hi', less_eq, hlt, decide_true, cond_true, Option.bind_some]
          rw [w64 (by omega) (by omega)]
        · by_cases e : q = j
          · rw [e]; exact hlt
          · exact g3 q (by omega) q2
      · exact ⟨.inr j, by simp only [r1, r2, hi', less_eq, hlt, decide_true, decide_false, cond_true, cond_false, Option.bind_some], g1, g2, g3, fun _ => hlt⟩
    · exact ⟨.inr j, by simp only [hi', decide_false, cond_false, Option.bind_some], g1, g2, g3, fun h => absurd h hi'⟩
  · exact ⟨h1, Int.le_refl _, fun q q1 q2 => by omega⟩
  · rintro j ⟨g1, g2, g3, g4⟩
    exact hk j g1 g2 g3 g4

theorem partitionEqual_spec (l0 : List Int) (a b p : Int) (ha : 0 ≤ a) (hb : b ≤ l0.length) (hlen : l0.length ≤ 1000000) (hp : a ≤ p) (hp' : p < b) :
    ∃ y, D.i0 l0 a b p = some y ∧ Rg a b l0 y.2 ∧ a < y.1 ∧ y.1 ≤ b ∧ (∀ k, a ≤ k → k < y.1 → at' y.2 k ≤ at' l0 p) ∧ (∀ k, y.1 ≤ k → k < b → at' l0 p < at' y.2 k) := by
  unfold D.i0
  have r1 : idx l0 p = some (at' l0 p) := idx_at (by omega) (by omega)
  have r2 : idx l0 a = some (at' l0 a) := idx_at (by omega) (by omega)
  have r3 : ∀ x, idx (l0.set a.toNat x) p = some (at' (l0.set a.toNat x) p) := fun x => idx_set_at (by omega) (by omega)
  simp only [r1, r2, r3, Option.bind_some]
  rw [show (l0.set a.toNat (at' l0 p)).set p.toNat (at' l0 a) = sw l0 a p from rfl]
  have hR0 : Rg a b l0 (sw l0 a p) := Rg.swap ha hb (by omega) (by omega) hp hp'
  have ep : at' (sw l0 a p) a = at' l0 p := by
    rw [sw_at (by omega) (by omega) (by omega) (by omega) (by omega)]
    by_cases e : a = p
    · rw [if_pos e, e]
    · rw [if_neg e, if_pos rfl]
  generalize sw l0 a p = m0 at hR0 ep ⊢
  rw [w64 (show -9223372036854775808 ≤ b - 1 by omega) (by omega), w64 (show -9223372036854775808 ≤ a + 1 by omega) (by omega)]
  refine loop_then (fun s => Rg a b l0 s.1 ∧ a + 1 ≤ s.2.1 ∧ s.2.1 ≤ s.2.2 + 1 ∧ s.2.2 < b ∧ at' s.1 a = at' l0 p ∧ (∀ q, a + 1 ≤ q → q < s.2.1 → ¬ at' s.1 a < at' s.1 q) ∧ (∀ q, s.2.2 < q → q < b → at' s.1 a < at' s.1 q)) (fun s => (s.2.2 + 1 - s.2.1).toNat)
    (fun s => Rg a b l0 s.1 ∧ a + 1 ≤ s.2 ∧ s.2 ≤ b ∧ at' s.1 a = at' l0 p ∧ (∀ q, a + 1 ≤ q → q < s.2 → ¬ at' s.1 a < at' s.1 q) ∧ (∀ q, s.2 ≤ q → q < b → at' s.1 a < at' s.1 q)) ?_ ?_ ?_
  · rintro ⟨m, u, v⟩ ⟨hR, g1, g2, g3, g6, g4, g5⟩
    dsimp only at hR g1 g2 g3 g4 g5 g6 ⊢
    have hml := hR.len
    refine scanUp2 m a v u ha (by omega) (by omega) (by omega) (by omega) (by omega) (fun i i1 i2 i3 i4 => ?_)
    refine scanDown2 m a i v ha (by omega) (by omega) (by omega) (by omega) (by omega) (fun j j1 j2 j3 j4 => ?_)
    have f1 : ∀ q, a + 1 ≤ q → q < i → ¬ at' m a < at' m q := fun q h1 h2 => by
      by_cases h : q < u
      · exact g4 q h1 h
      · exact i3 q (by omega) h2
    have f2 : ∀ q, j < q → q < b → at' m a < at' m q := fun q h1 h2 => by
      by_cases h : q ≤ v
      · exact j3 q h1 h
      · exact g5 q (by omega) h2
    by_cases hij : j < i
    · exact ⟨.inr (m, i), by simp only [hij, decide_true, cond_true], hR, by dsimp only; omega, by dsimp only; omega, g6, f1, fun q h1 h2 => f2 q (by dsimp only at h1; omega) h2⟩
    · have t1 : idx m i = some (at' m i) := idx_at (by omega) (by omega)
      have t2 : idx m j = some (at' m j) := idx_at (by omega) (by omega)
      have t3 : ∀ x, idx (m.set i.toNat x) j = some (at' (m.set i.toNat x) j) := fun x => idx_set_at (by omega) (by omega)
      have hia := i4 (by omega)
      have hja := j4 (by omega)
      have hne : i < j := by
        rcases Int.lt_or_eq_of_le (show i ≤ j by omega) with h | h
        · exact h
        · subst h; exact absurd hia hja
      have ea : at' (sw m i j) a = at' m a := by rw [sw_at (by omega) (by omega) (by omega) (by omega) (by omega), if_neg (by omega), if_neg (by omega)]
      rw [w64 (show -9223372036854775808 ≤ i + 1 by omega) (by omega), w64 (show -9223372036854775808 ≤ j - 1 by omega) (by omega)]
      refine ⟨.inl (sw m i j, i + 1, j - 1), ?_, ⟨hR.trans (Rg.swap ha (by omega) (by omega) (by omega) (by omega) (by omega)), by dsimp only; omega, by dsimp only; omega, by dsimp only; omega, by dsimp only; rw [ea]; exact g6, fun q h1 h2 => ?_, fun q h1 h2 => ?_⟩, by dsimp only; omega⟩
      · simp only [t1, t2, t3, hij, decide_false, cond_false, Option.bind_some]
        rfl
      · dsimp only at h2 ⊢
        rw [ea, sw_at (by omega) (by omega) (by omega) (by omega) (by omega), if_neg (by omega)]
        by_cases e : q = i
        · rw [if_pos e]; exact hja
        · rw [if_neg e]; exact f1 q h1 (by omega)
      · dsimp only at h1 ⊢
        rw [ea, sw_at (by omega) (by omega) (by omega) (by omega) (by omega)]
        by_cases e : q = j
        · rw [if_pos e]; exact hia
        · rw [if_neg e, if_neg (by omega)]; exact f2 q (by omega) h2
  · exact ⟨hR0, by dsimp only; omega, by dsimp only; omega, by dsimp only; omega, ep, fun q h1 h2 => by dsimp only at h2; omega, fun q h1 h2 => by dsimp only at h1; omega⟩
  · rintro ⟨m, v⟩ ⟨hR, g1, g2, g3, g4, g5⟩
    refine ⟨(v, m), rfl, hR, by dsimp only at *; omega, g2, fun k k1 k2 => ?_, fun k k1 k2 => ?_⟩
    · dsimp only at *
      by_cases e : k = a
      · rw [e, g3]; exact Int.le_refl _
      · have := g4 k (by omega) k2; omega
    · dsimp only at *
      have := g5 k k1 k2; omega

theorem order2_spec (l : List Int) (a b s : Int) (ha : 0 ≤ a) (ha' : a < l.length) (hb : 0 ≤ b) (hb' : b < l.length) :
    ∃ y, D.s l a b s = some y ∧ y.2.2.1 = l ∧ ((y.1 = a ∧ y.2.1 = b) ∨ (y.1 = b ∧ y.2.1 = a)) := by
  have r1 : idx l a = some (at' l a) := idx_at ha ha'
  have r2 : idx l b = some (at' l b) := idx_at hb hb'
  unfold D.s
  simp only [r1, r2, less_eq, Option.bind_some]
  by_cases h : at' l b < at' l a
  · simp only [h, decide_true, cond_true]; exact ⟨_, rfl, rfl, .inr ⟨rfl, rfl⟩⟩
  · simp only [h, decide_false, cond_false]; exact ⟨_, rfl, rfl, .inl ⟨rfl, rfl⟩⟩

theorem median_spec (l : List Int) (a b c s : Int) (ha : 0 ≤ a) (ha' : a < l.length) (hb : 0 ≤ b) (hb' : b < l.length) (hc : 0 ≤ c) (hc' : c < l.length) :
    ∃ y, D.C l a b c s = some y ∧ y.2.1 = l ∧ (y.1 = a ∨ y.1 = b ∨ y.1 = c) := by
  unfold D.C
  obtain ⟨y1, h1, e1, c1⟩ := order2_spec l a b s ha ha' hb hb'
  rw [h1, Option.bind_some, e1]
  have b1 : 0 ≤ y1.2.1 ∧ y1.2.1 < l.length ∧ 0 ≤ y1.1 ∧ y1.1 < l.length := by rcases c1 with ⟨c, d⟩ | ⟨c, d⟩ <;> rw [c, d] <;> exact ⟨by assumption, by assumption, by assumption, by assumption⟩
  obtain ⟨y2, h2, e2, c2⟩ := order2_spec l y1.2.1 c y1.2.2.2 b1.1 b1.2.1 hc hc'
  rw [h2, Option.bind_some, e2]
  have b2 : 0 ≤ y2.1 ∧ y2.1 < l.length := by rcases c2 with ⟨c, d⟩ | ⟨c, d⟩ <;> rw [c] <;> exact ⟨by omega, by omega⟩
  obtain ⟨y3, h3, e3, c3⟩ := order2_spec l y1.1 y2.1 y2.2.2.2 b1.2.2.1 b1.2.2.2 b2.1 b2.2
  rw [h3, Option.bind_some]
  refine ⟨_, rfl, e3, ?_⟩
  dsimp only
  omega

theorem choosePivot_spec (l : List Int) (a b : Int) (ha : 0 ≤ a) (hb : b ≤ l.length) (h8 : 8 ≤ b - a) (h50 : b - a < 50) (hlen : l.length ≤ 1000000) :
    ∃ y, D.m0 l a b = some y ∧ y.2.2 = l ∧ a ≤ y.1 ∧ y.1 < b := by
  unfold D.m0
  rw [w64 (show -9223372036854775808 ≤ b - a by omega) (by omega)]
  have e4 : (b - a).tdiv 4 = (b - a) / 4 := Int.tdiv_eq_ediv_of_nonneg (by omega)
  rw [e4, w64 (show -9223372036854775808 ≤ (b - a) / 4 by omega) (by omega)]
  rw [w64 (show -9223372036854775808 ≤ (b - a) / 4 * 1 by omega) (by omega), w64 (show -9223372036854775808 ≤ (b - a) / 4 * 2 by omega) (by omega), w64 (show -9223372036854775808 ≤ (b - a) / 4 * 3 by omega) (by omega)]
  rw [w64 (show -9223372036854775808 ≤ a + (b - a) / 4 * 1 by omega) (by omega), w64 (show -9223372036854775808 ≤ a + (b - a) / 4 * 2 by omega) (by omega), w64 (show -9223372036854775808 ≤ a + (b - a) / 4 * 3 by omega) (by omega)]
  simp only [h8, show ¬ (50 ≤ b - a) by omega, decide_true, decide_false, cond_true, cond_false, Option.bind_some]
  obtain ⟨y, h1, e1, c1⟩ := median_spec l (a + (b - a) / 4 * 1) (a + (b - a) / 4 * 2) (a + (b - a) / 4 * 3) 0 (by omega) (by omega) (by omega) (by omega) (by omega) (by omega)
  rw [h1, Option.bind_some, e1]
  have hy : a ≤ y.1 ∧ y.1 < b := by omega
  cases (y.2.2 == 0)
  · cases (y.2.2 == 12)
    · exact ⟨_, rfl, rfl, hy⟩
    · exact ⟨_, rfl, rfl, hy⟩
  · exact ⟨_, rfl, rfl, hy⟩

theorem partialInsertion_spec (l : List Int) (a b : Int) (ha : 0 ≤ a) (hab : a < b) (hb : b ≤ l.length) (h50 : b - a < 50) (hlen : l.length ≤ 1000000) :
    ∃ y, D.j0 l a b = some y ∧ y.2 = l ∧ (y.1 = true → Srt l a b) := by
  unfold D.j0
  rw [w64 (show -9223372036854775808 ≤ a + 1 by omega) (by omega)]
  refine loop_then (fun s => s = (l, a + 1, 0)) (fun _ => 0) (fun r => ∃ y : Bool × List Int, r = .inr y ∧ y.2 = l ∧ (y.1 = true → Srt l a b)) ?_ rfl ?_
  · rintro s rfl
    dsimp only
    simp only [show ((0 : Int) < 5) from by decide, decide_true, cond_true]
    refine loop_then (fun i => a + 1 ≤ i ∧ i ≤ b ∧ Srt l a i) (fun i => (b - i).toNat) (fun i => a + 1 ≤ i ∧ i ≤ b ∧ Srt l a i) ?_ ?_ ?_
    · rintro i ⟨g1, g2, g3⟩
      by_cases hi : i < b
      · have r1 : idx l i = some (at' l i) := idx_at (by omega) (by omega)
        have r2 : idx l (i - 1) = some (at' l (i - 1)) := idx_at (by omega) (by omega)
        have e1 : IntKind.i64.wrap (i - 1) = i - 1 := w64 (by omega) (by omega)
        by_cases hlt : at' l i < at' l (i - 1)
        · exact ⟨.inr i, by simp only [r1, r2, e1, hi, less_eq, hlt, decide_true, Bool.not_true, cond_true, cond_false, Option.bind_some], g1, g2, g3⟩
        · refine ⟨.inl (i + 1), ?_, ⟨by omega, by omega, fun p q k1 k2 k3 => ?_⟩, by dsimp only; omega⟩
          · simp only [r1, r2, e1, hi, less_eq, hlt, decide_true, decide_false, Bool.not_false, cond_true, Option.bind_some]
            rw [w64 (by omega) (by omega)]
          · by_cases e : q = i
            · subst e
              by_cases e2 : p = q - 1
              · subst e2; omega
              · have := g3 p (q - 1) k1 (by omega) (by omega); omega
            · exact g3 p q k1 k2 (by omega)
      · exact ⟨.inr i, by simp only [hi, decide_false, cond_false, Option.bind_some], g1, g2, g3⟩
    · exact ⟨Int.le_refl _, by omega, fun p q k1 k2 k3 => by omega⟩
    · rintro i ⟨g1, g2, g3⟩
      rw [w64 (show -9223372036854775808 ≤ b - a by omega) (by omega)]
      by_cases he : i = b
      · refine ⟨.inr (.inr (true, l)), ?_, _, rfl, rfl, fun _ => by rw [← he]; exact g3⟩
        have : (i == b) = true := by simp [he]
        simp only [this, cond_true]
      · refine ⟨.inr (.inr (false, l)), ?_, _, rfl, rfl, fun h => by cases h⟩
        have : (i == b) = false := by simp [he]
        simp only [this, h50, decide_true, cond_true, cond_false]
  · rintro r ⟨y, rfl, h1, h2⟩
    exact ⟨y, rfl, h1, h2⟩
end Go.Sx

namespace Go.Sx
theorem iand_small (y m : Int) (h0 : 0 ≤ m) (h1 : m < 4294967296) : 0 ≤ iand .u64 y m ∧ iand .u64 y m ≤ m := by
  unfold iand
  have e : (BitVec.ofInt IntKind.u64.bits y &&& BitVec.ofInt IntKind.u64.bits m).toNat ≤ (BitVec.ofInt IntKind.u64.bits m).toNat := by
    rw [BitVec.toNat_and]; exact Nat.and_le_right
  have e2 : (BitVec.ofInt IntKind.u64.bits m).toNat = m.toNat := by
    rw [BitVec.toNat_ofInt]
    show (m % (2 ^ 64 : Nat)).toNat = m.toNat
    congr 1
    omega
  rw [e2] at e
  generalize (BitVec.ofInt IntKind.u64.bits y &&& BitVec.ofInt IntKind.u64.bits m).toNat = t at e
  have : IntKind.u64.wrap (t : Int) = t := by
    simp only [IntKind.wrap, IntKind.bits, IntKind.signed]
    simp
    omega
  rw [this]
  omega

theorem wu64 {x : Int} (h1 : 0 ≤ x) (h2 : x < 18446744073709551616) : IntKind.u64.wrap x = x := by
  simp only [IntKind.wrap, IntKind.bits, IntKind.signed]
  simp
  omega

theorem pow2_spec (n : Int) (h1 : 8 ≤ n) (h2 : n ≤ 16) : ∃ y, D.U n = some y ∧ n < y ∧ y ≤ 2 * n := by
  unfold D.U
  rw [wu64 (by omega) (by omega)]
  have key : ∀ k : Int, k = 8 ∨ k = 9 ∨ k = 10 ∨ k = 11 ∨ k = 12 ∨ k = 13 ∨ k = 14 ∨ k = 15 ∨ k = 16 → k < ishl .u64 1 (Lib.bitLen k.toNat : Nat) ∧ ishl .u64 1 (Lib.bitLen k.toNat : Nat) ≤ 2 * k := by
    rintro k (rfl | rfl | rfl | rfl | rfl | rfl | rfl | rfl | rfl) <;> decide
  obtain ⟨k1, k2⟩ := key n (by omega)
  refine ⟨_, ?_, k1, k2⟩
  unfold D.G
  rw [if_pos (by omega), Option.bind_some]
  have : decide (((Lib.bitLen n.toNat : Nat) : Int) < 0) = false := by simp
  rw [this]
  rfl

theorem breakPatterns_spec (l0 : List Int) (a b : Int) (ha : 0 ≤ a) (hb : b ≤ l0.length) (h8 : 8 ≤ b - a) (h16 : b - a ≤ 16) (hlen : l0.length ≤ 1000000) :
    ∃ l', D.h0 l0 a b = some l' ∧ Rg a b l0 l' := by
  unfold D.h0
  rw [w64 (show -9223372036854775808 ≤ b - a by omega) (by omega)]
  have e4 : (b - a).tdiv 4 = (b - a) / 4 := Int.tdiv_eq_ediv_of_nonneg (by omega)
  rw [e4, w64 (show -9223372036854775808 ≤ (b - a) / 4 by omega) (by omega)]
  rw [w64 (show -9223372036854775808 ≤ (b - a) / 4 * 2 by omega) (by omega)]
  rw [w64 (show -9223372036854775808 ≤ a + (b - a) / 4 * 2 by omega) (by omega)]
  rw [w64 (show -9223372036854775808 ≤ a + (b - a) / 4 * 2 + 1 by omega) (by omega), w64 (show -9223372036854775808 ≤ a + (b - a) / 4 * 2 - 1 by omega) (by omega)]
  simp only [h8, decide_true, cond_true]
  obtain ⟨y, hy, g1, g2⟩ := pow2_spec (b - a) h8 h16
  rw [hy, Option.bind_some, wu64 (show 0 ≤ y - 1 by omega) (by omega)]
  refine loop_then (fun s => Rg a b l0 s.1 ∧ a + (b - a) / 4 * 2 - 1 ≤ s.2.1 ∧ s.2.1 ≤ a + (b - a) / 4 * 2 + 2) (fun s => (a + (b - a) / 4 * 2 + 2 - s.2.1).toNat) (fun r => Rg a b l0 r) ?_ ?_ ?_
  · rintro ⟨l, i, z⟩ ⟨hR, k1, k2⟩
    dsimp only at hR k1 k2 ⊢
    have hll := hR.len
    by_cases hi : i ≤ a + (b - a) / 4 * 2 + 1
    · simp only [hi, decide_true, cond_true, D.E0, Option.bind_some]
      obtain ⟨t1, t2⟩ := iand_small (ixor .u64 (ixor .u64 (ixor .u64 z (ishl .u64 z 13)) (ishr .u64 (ixor .u64 z (ishl .u64 z 13)) 7)) (ishl .u64 (ixor .u64 (ixor .u64 z (ishl .u64 z 13)) (ishr .u64 (ixor .u64 z (ishl .u64 z 13)) 7)) 17)) (y - 1) (by omega) (by omega)
      revert t1 t2
      generalize iand .u64 (ixor .u64 (ixor .u64 (ixor .u64 z (ishl .u64 z 13)) (ishr .u64 (ixor .u64 z (ishl .u64 z 13)) 7)) (ishl .u64 (ixor .u64 (ixor .u64 z (ishl .u64 z 13)) (ishr .u64 (ixor .u64 z (ishl .u64 z 13)) 7)) 17)) (y - 1) = t
      generalize (ixor .u64 (ixor .u64 (ixor .u64 z (ishl .u64 z 13)) (ishr .u64 (ixor .u64 z (ishl .u64 z 13)) 7)) (ishl .u64 (ixor .u64 (ixor .u64 z (ishl .u64 z 13)) (ishr .u64 (ixor .u64 z (ishl .u64 z 13)) 7)) 17)) = z'
      intro t1 t2
      rw [w64 (show -9223372036854775808 ≤ t by omega) (by omega), w64 (show -9223372036854775808 ≤ t - (b - a) by omega) (by omega)]
      have hc : ∃ o, (bif decide (b - a ≤ t) then some (t - (b - a)) else some t) = some o ∧ 0 ≤ o ∧ o < b - a := by
        by_cases h : b - a ≤ t
        · exact ⟨t - (b - a), by simp [h], by omega, by omega⟩
        · exact ⟨t, by simp [h], by omega, by omega⟩
      obtain ⟨o, ho, o1, o2⟩ := hc
      rw [ho, Option.bind_some, w64 (show -9223372036854775808 ≤ a + o by omega) (by omega), w64 (show -9223372036854775808 ≤ i + 1 by omega) (by omega)]
      have r1 : idx l i = some (at' l i) := idx_at (by omega) (by omega)
      have r2 : idx l (a + o) = some (at' l (a + o)) := idx_at (by omega) (by omega)
      have r3 : ∀ x, idx (l.set i.toNat x) (a + o) = some (at' (l.set i.toNat x) (a + o)) := fun x => idx_set_at (by omega) (by omega)
      refine ⟨.inl (sw l i (a + o), i + 1, z'), ?_, ⟨hR.trans (Rg.swap ha (by omega) (by omega) (by omega) (by omega) (by omega)), by dsimp only; omega, by dsimp only; omega⟩, by dsimp only; omega⟩
      simp only [r1, r2, r3, Option.bind_some]
      rfl
    · exact ⟨.inr l, by simp only [hi, decide_false, cond_false], hR⟩
  · exact ⟨Rg.refl _ _ _, by dsimp only; omega, by dsimp only; omega⟩
  · rintro r hr
    exact ⟨r, rfl, hr⟩
end Go.Sx

/- The steps of a sort that stir: partial insertion, broken patterns. Plain. -/
namespace Go.Sx.Gs
variable {α : Type} [Srtd α]
end Go.Sx.Gs

/- Heap sort. Plain. -/
namespace Go.Sx.Gs
variable {α : Type} [Srtd α]
end Go.Sx.Gs

/- The sort itself. Plain. -/
namespace Go.Sx.Gs
variable {α : Type} [Srtd α]
/-- from a0 to b0 all pairs are in order, but for those from a to b -/
def Out (l : List α) (a0 b0 a b : Int) : Prop := ∀ i j, a0 ≤ i → i < j → j < b0 → ¬ (a ≤ i ∧ j < b) → at' l i ≤ at' l j

theorem Out.keep {a0 a b b0 : Int} {l l' : List α} (h : Rg a b l l') (h0 : 0 ≤ a0) (ha : a0 ≤ a) (hb : b ≤ b0) (c : Out l a0 b0 a b) : Out l' a0 b0 a b := by
  intro i j h1 h2 h3 h4
  by_cases hi : a ≤ i ∧ i < b
  · rw [h.out j (by omega) (by omega)]
    exact h.all (fun x => x ≤ at' l j) (fun k k1 k2 => c k j (by omega) (by omega) h3 (by omega)) i hi.1 hi.2
  · rw [h.out i (by omega) (by omega)]
    by_cases hj : a ≤ j ∧ j < b
    · exact h.all (fun x => at' l i ≤ x) (fun k k1 k2 => c i k (by omega) (by omega) (by omega) (by omega)) j hj.1 hj.2
    · rw [h.out j (by omega) (by omega)]; exact c i j h1 h2 h3 h4

end Go.Sx.Gs

/- The sort of rows that carry their headers is the sort by any comparison; it sorts links. Plain, in part made by program. -/
namespace Go.Sx
end Go.Sx
