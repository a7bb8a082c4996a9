/- Parts. -/
import Derived.Tactics
import Derived.Laws.AppendOwn
import Derived.Laws.MakeOwn
import Derived.Laws.OwnMore
import Derived.Laws.Slices
import Derived.Below
import Derived.Deep.Quiet
import Derived.Laws.CopyRow
import Derived.Orders
import Derived.KernelRfl
import Derived.OpenShut
import Derived.Deep.Slices
import Derived.ChangeSame
import Derived.DataReads
import Derived.Maps.AppendAt
import Derived.ArgAppend
import Derived.Laws.Concat
import Derived.Laws.DeepStrings4
import Derived.Laws.IdiomStrings
import Derived.Lib.ItoaNum
import Derived.Lib.AppendStr
import Derived.Lib.UnsafeStr
import Derived.Test.YtgkgmdnjnjliiaaDoorRows
import Derived.ChangeVars
import Derived.JoinedOf
import Derived.ProofKit
import Derived.ChangeOld
import Derived.Lay
import Derived.Lib.LaidU8
import Derived.Shelf.Vars
import Derived.Handed
import Derived.ChangeMaps5
import Derived.Stop.LaidErr
import Derived.Lib.BitFns
import Derived.Laws.StructEq
import Derived.Laws.IdiomRangeMap
import Derived.WideKeyRuns
import Derived.Lib.TrailingZeros
import Derived.Lib.AppendZeros
import Derived.ChangeKeysEq
import Derived.Lib.SplitLaws
import Derived.Lib.ParseIntB
import Derived.Test.YtgkgmdnjnjliiaaDoorProg
set_option linter.unusedVariables false
set_option linter.unusedSimpArgs false
set_option linter.unusedSectionVars false
namespace Go.Sx
abbrev AG :=List (Nat×Value)
def look :AG→Nat→Option Value
 |[],_=>none
 |(k,v)::r,s=>match Nat.beq k s with|true=>some v|false=>look r s
structure Fr (a:Act)(N:Nat)(L:AG):Prop where
 defers:a.defers=[]
 size:a.tmps.size=N
 get:∀s v,look L s=some v→a.tmps.getD s undef=v
def Aq (L:AG):Operand→Option Value
 | .tmp t=>look L t
 | .const v=>some v
 | .global g=>some (.pointer (some ⟨g,0,none⟩))
 | .func f=>some (.func (.func f) #[] #[])
theorem Fr.eval {a:Act}{N:Nat}{L:AG}{x:Operand}{v:Value}(h:Fr a N L)(hx:Aq L x=some v):a.eval x=v:=by
 cases x with
 |tmp t=>exact h.get t v hx
 |const c=>simpa [Aq,Act.eval] using hx
 |global g=>simpa [Aq,Act.eval] using hx
 |func f=>simpa [Aq,Act.eval] using hx
def evalAll (L:AG):List Operand→Option (List Value)
 |[]=>some []
 |x::r=>match Aq L x,evalAll L r with
  |some v,some vs=>some (v::vs)
  |_,_=>none
theorem Fr.evalAll {a:Act}{N:Nat}{L:AG}{xs:List Operand}{vs:List Value}(h:Fr a N L)(hx:evalAll L xs=some vs):xs.map a.eval=vs:=by
 induction xs generalizing vs with
 |nil=>simpa [Sx.evalAll] using hx
 |cons x r ih=>
  simp only[Sx.evalAll] at hx
  cases h1:Aq L x with
  |none=>simp[h1] at hx
  |some v=>
   cases h2:Sx.evalAll L r with
   |none=>simp[h1,h2] at hx
   |some ws=>
    simp[h1,h2] at hx
    subst hx
    simp[h.eval h1,ih h2]
theorem Cy {k s:Nat}{v:Value}{L:AG}(h:k≠s):look ((k,v)::L) s=look L s:=by
 have:Nat.beq k s=false:=by
  cases hb:Nat.beq k s with
  |false=>rfl
  |true=>exact absurd (Nat.eq_of_beq_eq_true hb) h
 simp[look,this]
theorem Cz {k:Nat}{v:Value}{L:AG}:look ((k,v)::L) k=some v:=by
 simp[look]
theorem Fr.put {a:Act}{N:Nat}{L:AG}(h:Fr a N L){d:Nat}(hd:Nat.blt d N=true)(v:Value):Fr (a.put (some d) v) N ((d,v)::L):=by
 have hd':d<N:=by simpa [Nat.blt_eq] using hd
 refine⟨h.defers,by simp[Act.put,h.size],λs u hs=> ?_⟩
 by_cases hk:d=s
 ·subst hk
  rw[Cz] at hs
  have:d<a.tmps.size:=by rw[h.size];exact hd'
  simp[Act.put,this] at hs ⊢
  exact hs
 ·rw[Cy hk] at hs
  have:=h.get s u hs
  rw[←this]
  simp only[Act.put,Array.getD_eq_getD_getElem?,Array.getElem?_setIfInBounds_ne hk]
def Sub :AG→AG→Prop
 |[],_=>True
 |(s,v)::r,L=>look L s=some v∧Sub r L
theorem Sub.look {L' L:AG}(h:Sub L' L){s:Nat}{v:Value}(hs:look L' s=some v):look L s=some v:=by
 induction L' with
 |nil=>simp[Sx.look] at hs
 |cons p r ih=>
  obtain⟨k,u⟩:=p
  by_cases hk:k=s
  ·subst hk;rw[Cz] at hs;cases hs;exact h.1
  ·rw[Cy hk] at hs;exact ih h.2 hs
theorem Fr.weak {a:Act}{N:Nat}{L L':AG}(h:Fr a N L)(hs:Sub L' L):Fr a N L':=
 ⟨h.defers,h.size,λs v hv=>h.get s v (hs.look hv)⟩
abbrev AH :=Act→World→Prop
def CF :List (Nat×AH)→Nat→Option AH
 |[],_=>none
 |(k,v)::r,s=>match Nat.beq k s with|true=>some v|false=>CF r s
theorem lookA_eq {k:Nat}{v:AH}{L:List (Nat×AH)}:CF ((k,v)::L) k=some v:=by
 simp[CF]
theorem lookA_ne {k s:Nat}{v:AH}{L:List (Nat×AH)}(h:k≠s):CF ((k,v)::L) s=CF L s:=by
 have:Nat.beq k s=false:=by
  cases hb:Nat.beq k s with
  |false=>rfl
  |true=>exact absurd (Nat.eq_of_beq_eq_true hb) h
 simp[CF,this]
def Qk (n:AH)(x:List (Nat×AH))(r:AH):Go.Exit→Act→World→Prop
 | .normal,a,w=>n a w
 | .exit id,a,w=>∃K,CF x id=some K∧K a w
 | .ret,a,w=>r a w
 |_,_,_=>False
section
variable {P : Program} {n r : AH} {x : List (Nat × AH)} {a : Act} {w : World}
theorem Ag {c d:Code}(h:c.wp P (Qk (λa w=>d.wp P (Qk n x r) a w) x r) a w):(Code.seq c d).wp P (Qk n x r) a w:=by
 refine wp_seq (wp_mono h λe a w q=> ?_)
 cases e<;>exact q
theorem AW {c:Code}(Mid:AH)(h:c.wp P (Qk Mid x r) a w)(k:∀a w,Mid a w→n a w):c.wp P (Qk n x r) a w:=
 wp_mono h λe a w q=>by cases e<;>first|exact k _ _ q|exact q
theorem Ak (h:n a w):Code.skip.wp P (Qk n x r) a w:=wp_skip h
theorem Ao (h:r a w):Code.ret.wp P (Qk n x r) a w:=wp_ret h
theorem AL {id:Nat}{K:AH}(hk:CF x id=some K)(h:K a w):(Code.exit id).wp P (Qk n x r) a w:=wp_exit ⟨K,hk,h⟩
theorem An {id:Nat}{c:Code}(h:c.wp P (Qk n ((id,n)::x) r) a w):(Code.block id c).wp P (Qk n x r) a w:=by
 refine wp_block (wp_mono h λe a w q=> ?_)
 cases e with
 |exit i=>
  obtain⟨K,hk,q⟩:=q
  by_cases hi:id=i
  ·subst hi
   rw[lookA_eq] at hk
   cases hk
   simpa [Exit.inBlock,Qk] using q
  ·rw[lookA_ne hi] at hk
   simp only[Exit.inBlock,if_neg (Ne.symm hi)]
   exact⟨K,hk,q⟩
 |_=>exact q
theorem Ap {id:Nat}{l:List Oper}(h:wpList P l.toArray (Qk n x r) l a w):(Code.region id l.toArray false).wp P (Qk n x r) a w:=wp_region_lit h
theorem Aj {c:Operand}{p q:Code}{N:Nat}{L:AG}{b:Bool}(f:Fr a N L)(hc:Aq L c=some (.bool b))(hb:b=true)(h:p.wp P (Qk n x r) a w):
  (Code.cond c p q).wp P (Qk n x r) a w:=wp_cond_true (by rw[f.eval hc,hb]) h
theorem Ah {c:Operand}{p q:Code}{N:Nat}{L:AG}{b:Bool}(f:Fr a N L)(hc:Aq L c=some (.bool b))(hb:b=false)(h:q.wp P (Qk n x r) a w):
  (Code.cond c p q).wp P (Qk n x r) a w:=wp_cond_false (by rw[f.eval hc,hb]) h
theorem Aa {ops:Array Oper}(h:n a w):wpList P ops (Qk n x r) [] a w:=h
end
inductive Iter {σ ρ:Type}(step:σ→Option (σ ⊕ ρ)):σ→ρ→Prop
 |done {s:σ} {r:ρ}:step s=some (.inr r)→Iter step s r
 |more {s s':σ} {r:ρ}:step s=some (.inl s')→Iter step s' r→Iter step s r
theorem Iter.unique {σ ρ:Type}{step:σ→Option (σ ⊕ ρ)}{s:σ}{r r':ρ}(h:Iter step s r)(h':Iter step s r'):r=r':=by
 induction h with
 |done h=>
  cases h' with
  |done k=>rw[h] at k;cases k;rfl
  |more k _=>rw[h] at k;cases k
 |more h _ ih=>
  cases h' with
  |done k=>rw[h] at k;cases k
  |more k k'=>rw[h] at k;cases k;exact ih k'
open Classical in
noncomputable def As {σ ρ:Type}(step:σ→Option (σ ⊕ ρ))(s:σ):Option ρ:=
 if h:∃r,Iter step s r then some h.choose else none
theorem loopF_some {σ ρ:Type}{step:σ→Option (σ ⊕ ρ)}{s:σ}{r:ρ}:As step s=some r↔Iter step s r:=by
 unfold As
 split
 ·rename_i h
  constructor
  ·intro e;cases e;exact h.choose_spec
  ·intro e;rw[Iter.unique h.choose_spec e]
 ·rename_i h
  constructor
  ·intro e;cases e
  ·intro e;exact absurd ⟨r,e⟩ h
theorem A9 {σ ρ:Type}{step:σ→Option (σ ⊕ ρ)}{s:σ}{r:ρ}(h:step s=some (.inr r)):As step s=some r:=
 loopF_some.2 (.done h)
theorem A0 {σ ρ:Type}{step:σ→Option (σ ⊕ ρ)}{s s':σ}(h:step s=some (.inl s')):As step s=As step s':=by
 cases h1:As step s' with
 |some r=>exact loopF_some.2 (.more h (loopF_some.1 h1))
 |none=>
  cases h2:As step s with
  |none=>rfl
  |some r=>
   cases loopF_some.1 h2 with
   |done k=>rw[h] at k;cases k
   |more k k'=>rw[h] at k;cases k;rw[loopF_some.2 k'] at h1;cases h1
theorem loopF_inv {σ ρ:Type}{step:σ→Option (σ ⊕ ρ)}(I:σ→Prop)(μ:σ→Nat)(Post:ρ→Prop)
  (hstep:∀s,I s→(∃s',step s=some (.inl s')∧I s'∧μ s'<μ s)∨(∃r,step s=some (.inr r)∧Post r)) (s:σ) (h0:I s):
  ∃r,As step s=some r∧Post r:=by
 generalize hn:μ s=k
 induction k using Nat.strongRecOn generalizing s with
 |_ k ih=>
  rcases hstep s h0 with⟨s',h1,h2,h3⟩|⟨r,h1,h2⟩
  ·obtain⟨r,h4,h5⟩:=ih (μ s') (by omega) s' h2 rfl
   exact⟨r,by rw[A0 h1];exact h4,h5⟩
  ·exact⟨r,A9 h1,h2⟩
theorem AN {P:Program}{n r:AH}{x:List (Nat×AH)}{a:Act}{w:World}{c:Code}{σ ρ:Type}{step:σ→Option (σ ⊕ ρ)}{s₀:σ}{rr:ρ}
  (Inv:σ→AH) (hl:As step s₀=some rr) (h0:Inv s₀ a w)
  (round:∀s o,step s=some o→(∀q,o= .inr q→q=rr)→∀a w,Inv s a w→c.wp P (Qk (λa w=>∃s',o= .inl s'∧Inv s' a w) x r) a w):
  (Code.loop c).wp P (Qk n x r) a w:=by
 intro b k cs
 have key:∀s,Iter step s rr→∀a w,Inv s a w→
   ∃e a' w',Qk n x r e a' w'∧Arrives P (lone (b.at a (.code c:: .inLoop c::k)) cs w) b k cs e a' w':=by
  intro s hs
  generalize hrr:rr=q at hs
  induction hs with
  | @done s q h=>
   subst hrr
   intro a w hI
   obtain⟨e,a₁,w₁,hq,harr⟩:=round s (.inr rr) h (λq hq=>by cases hq;rfl) a w hI b (.inLoop c::k) cs
   cases e with
   |normal=>obtain⟨s',hs',_⟩:=hq;cases hs'
   |exit id=>exact⟨.exit id,a₁,w₁,hq,.pass (x:= .inLoop c) rfl (λ_ _=> .inl (by simp)) harr⟩
   |ret=>exact⟨.ret,a₁,w₁,hq,.pass (x:= .inLoop c) rfl (λ_ _=> .inl (by simp)) harr⟩
   |goto l=>exact hq.elim
   |panic ch=>exact hq.elim
   |outgrown=>exact hq.elim
  | @more s s' q h _ ih=>
   intro a w hI
   obtain⟨e,a₁,w₁,hq,harr⟩:=round s (.inl s') h (λq hq=>by cases hq) a w hI b (.inLoop c::k) cs
   cases e with
   |normal=>
    obtain⟨s'',hs',hI'⟩:=hq
    cases hs'
    obtain⟨e₂,a₂,w₂,hq₂,harr₂⟩:=ih hrr a₁ w₁ hI'
    exact⟨e₂,a₂,w₂,hq₂,.of_steps (Steps.trans harr (.one step_inLoop)) harr₂⟩
   |exit id=>exact⟨.exit id,a₁,w₁,hq,.pass (x:= .inLoop c) rfl (λ_ _=> .inl (by simp)) harr⟩
   |ret=>exact⟨.ret,a₁,w₁,hq,.pass (x:= .inLoop c) rfl (λ_ _=> .inl (by simp)) harr⟩
   |goto l=>exact hq.elim
   |panic ch=>exact hq.elim
   |outgrown=>exact hq.elim
 obtain⟨e,a',w',hq,harr⟩:=key s₀ (loopF_some.1 hl) a w h0
 exact⟨e,a',w',hq,.of_steps (.one step_loop) harr⟩
def recFuel :Nat:=4611686018427387904
attribute [irreducible] recFuel
end Go.Sx

namespace Go.Sx
abbrev GH :=Nat→Option Obj
def GLe (G G':GH):Prop:=∀b o,G b=some o→G' b=some o
theorem GLe.refl (G:GH):GLe G G:=λ_ _ h=>h
theorem GLe.trans {G G' G'':GH}(h:GLe G G')(h':GLe G' G''):GLe G G'':=λb o k=>h' b o (h b o k)
inductive Itm
 |box (b:Nat) (t:TypeId) (cs:List Value)
 |row (v:Value) (t:TypeId) (sz n:Nat) (vs:List Value)
 |deep (v:Value) (t1 t2:TypeId) (rows:List (Value×List Value))
 |hole (v:Value) (t1 t2:TypeId) (rows:List (Value×List Value)) (i:Nat)
 |obj (b:Nat) (o:Obj)
def B1 (t2:TypeId)(r:Value×List Value):Itm:= .row r.1 t2 1 r.2.length r.2
def parts (v:Value)(t1 t2:TypeId)(rows:List (Value×List Value)):List Itm:=
 .row v t1 1 rows.length (rows.map (·.1))::rows.map (B1 t2)
def Itm.foot0 :Itm→List Nat
 | .box b _ _=>[b]
 | .row v _ _ _ _=>v.ownBlock.toList
 | .deep .. =>[]
 | .hole .. =>[]
 | .obj b _=>[b]
def Itm.ok0 (w:World):Itm→Prop
 | .box b t cs=>w.heap[b]? =some (.cells cs.toArray t (0,0))
 | .row v t sz n vs=>w.ownsRow 0 t sz v n vs
 | .deep .. =>True
 | .hole .. =>True
 | .obj b o=>w.heap[b]? =some o
def Itm.foot :Itm→List Nat
 | .box b _ _=>[b]
 | .row v _ _ _ _=>v.ownBlock.toList
 | .deep v t1 t2 rows=>(parts v t1 t2 rows).flatMap Itm.foot0
 | .hole v t1 t2 rows i=>((parts v t1 t2 rows).eraseIdx (i+1)).flatMap Itm.foot0
 | .obj b _=>[b]
def Itm.ok (w:World):Itm→Prop
 | .box b t cs=>w.heap[b]? =some (.cells cs.toArray t (0,0))
 | .row v t sz n vs=>w.ownsRow 0 t sz v n vs
 | .deep v t1 t2 rows=>(∀(i:Nat) (h:Itm),(parts v t1 t2 rows)[i]? =some h→h.ok0 w)∧
   ∀(i j:Nat) (a b:Itm),i≠j→(parts v t1 t2 rows)[i]? =some a→(parts v t1 t2 rows)[j]? =some b→∀x∈a.foot0,x∉b.foot0
 | .hole v t1 t2 rows k=>(∀(i:Nat) (h:Itm),((parts v t1 t2 rows).eraseIdx (k+1))[i]? =some h→h.ok0 w)∧
   ∀(i j:Nat) (a b:Itm),i≠j→((parts v t1 t2 rows).eraseIdx (k+1))[i]? =some a→((parts v t1 t2 rows).eraseIdx (k+1))[j]? =some b→∀x∈a.foot0,x∉b.foot0
 | .obj b o=>w.heap[b]? =some o
theorem ownsRow_of {w w':World}{v:Value}{t:TypeId}{sz n:Nat}{vs:List Value}(ok:w.ownsRow 0 t sz v n vs)(hb:∀x∈v.ownBlock.toList,w'.heap[x]? =w.heap[x]?):w'.ownsRow 0 t sz v n vs:=by
 refine⟨ok.1,?_⟩
 rcases ok.2 with hn|⟨g,cap,cur,rfl,hg0,hg,rest⟩
 ·exact .inl hn
 ·exact .inr ⟨g,cap,cur,rfl,hg0,by rw[hb g (by simp[Value.ownBlock])];exact hg,rest⟩
theorem Itm.lt0 {w:World}{h:Itm}(ok:h.ok0 w):∀x∈h.foot0,x<w.heap.size:=by
 cases h with
 |box b t cs=>
  intro x hx;simp[Itm.foot0] at hx;subst hx
  exact(Array.getElem?_eq_some_iff.1 ok).1
 |row v t sz n vs=>
  intro x hx;simp[Itm.foot0] at hx
  exact(World.ownsRow.lt ok x hx).2
 |deep=>intro x hx;simp[Itm.foot0] at hx
 |hole=>intro x hx;simp[Itm.foot0] at hx
 |obj b o=>
  intro x hx;simp[Itm.foot0] at hx;subst hx
  exact(Array.getElem?_eq_some_iff.1 ok).1
theorem Itm.ok0_of {w w':World}{h:Itm}(ok:h.ok0 w)(hb:∀x∈h.foot0,w'.heap[x]? =w.heap[x]?):h.ok0 w':=by
 cases h with
 |box b t cs=>simp only[Itm.ok0] at ok ⊢;rw[hb b (by simp[Itm.foot0])];exact ok
 |row v t sz n vs=>exact ownsRow_of ok hb
 |deep=>trivial
 |hole=>trivial
 |obj b o=>simp only[Itm.ok0] at ok ⊢;rw[hb b (by simp[Itm.foot0])];exact ok
theorem Itm.lt {w:World}{h:Itm}(ok:h.ok w):∀x∈h.foot,x<w.heap.size:=by
 cases h with
 |box b t cs=>exact Itm.lt0 (h:= .box b t cs) ok
 |row v t sz n vs=>exact Itm.lt0 (h:= .row v t sz n vs) ok
 |deep v t1 t2 rows=>
  intro x hx
  obtain⟨h,hh,hxh⟩:=List.mem_flatMap.1 hx
  obtain⟨i,hi,he⟩:=List.getElem_of_mem hh
  exact Itm.lt0 (ok.1 i h (by simp[hi,he])) x hxh
 |hole v t1 t2 rows k=>
  intro x hx
  obtain⟨h,hh,hxh⟩:=List.mem_flatMap.1 hx
  obtain⟨i,hi,he⟩:=List.getElem_of_mem hh
  exact Itm.lt0 (ok.1 i h (by rw[List.getElem?_eq_getElem hi,he])) x hxh
 |obj b o=>exact Itm.lt0 (h:= .obj b o) ok
theorem Itm.ok_of {w w':World}{h:Itm}(ok:h.ok w)(hb:∀x∈h.foot,w'.heap[x]? =w.heap[x]?):h.ok w':=by
 cases h with
 |box b t cs=>exact Itm.ok0_of (h:= .box b t cs) ok hb
 |row v t sz n vs=>exact Itm.ok0_of (h:= .row v t sz n vs) ok hb
 |deep v t1 t2 rows=>exact⟨λi h hi=>Itm.ok0_of (ok.1 i h hi) (λx hx=>hb x (List.mem_flatMap.2 ⟨h,List.mem_of_getElem? hi,hx⟩)),ok.2⟩
 |hole v t1 t2 rows k=>exact⟨λi h hi=>Itm.ok0_of (ok.1 i h hi) (λx hx=>hb x (List.mem_flatMap.2 ⟨h,List.mem_of_getElem? hi,hx⟩)),ok.2⟩
 |obj b o=>exact Itm.ok0_of (h:= .obj b o) ok hb
structure Mem (W : World) (G : GH) (w : World) (H : List Itm) : Prop where
  os : w.os = W.os
  tape : w.tape = W.tape
  output : w.output = W.output
  sealed : ∀ b o, G b = some o → w.heap[b]? = some o
  items : ∀ (i : Nat) (h : Itm), H[i]? = some h → h.ok w
  disj : ∀ (i j : Nat) (a b : Itm), i ≠ j → H[i]? = some a → H[j]? = some b → ∀ x ∈ a.foot, x ∉ b.foot
  apart : ∀ (i : Nat) (h : Itm), H[i]? = some h → ∀ x ∈ h.foot, G x = none
  base : ∀ (b : Nat) (o : Obj), W.heap[b]? = some o → G b = some o
section
variable {W w w' : World} {G G' : GH} {H H' : List Itm}
theorem Mem.start (w : World) : Mem w (fun b => w.heap[b]?) w [] :=
  ⟨rfl, rfl, rfl, fun _ _ h => h, by simp, by simp, by simp, fun _ _ h => h⟩
theorem Mem.congr (m:Mem W G w H)(h:w'.heap=w.heap)(ho:w'.os=w.os)(ht:w'.tape=w.tape)(hu:w'.output=w.output):Mem W G w' H:=
 ⟨ho.trans m.os,ht.trans m.tape,hu.trans m.output,λb o k=>by rw[h];exact m.sealed b o k,λi x k=>Itm.ok_of (m.items i x k) (λ_ _=>by rw[h]),m.disj,m.apart,m.base⟩
theorem Mem.inj (m:Mem W G w H)(φ:Nat→Nat)(hφ:∀i j,φ i=φ j→i=j)(h:∀(i:Nat) (x:Itm),H'[i]? =some x→H[φ i]? =some x):Mem W G w H':=
 ⟨m.os,m.tape,m.output,m.sealed,λi x k=>m.items _ x (h i x k),λi j a b hij ha hb=>m.disj (φ i) (φ j) a b (λe=>hij (hφ i j e)) (h i a ha) (h j b hb),λi x k=>m.apart _ x (h i x k),m.base⟩
theorem Mem.tail {x:Itm}(m:Mem W G w (x::H)):Mem W G w H:=
 m.inj (·+1) (by omega) (by simp)
theorem Mem.drop (m : Mem W G w (H' ++ H)) : Mem W G w H :=
  m.inj (· + H'.length) (by omega) (fun i x h => by rw [List.getElem?_append_right (by omega)]; simpa using h)
theorem Mem.front (m:Mem W G w H)(j:Nat){x:Itm}(hj:H[j]? =some x):Mem W G w (x::H.eraseIdx j):=by
 refine m.inj (λi=>if i=0 then j else if i≤j then i-1 else i) (by intro i k;split<;>split<;>(repeat' split)<;>omega) ?_
 intro i z h
 match i with
 |0=>simp at h;subst h;simpa using hj
 |i+1=>
  simp only[List.getElem?_cons_succ,List.getElem?_eraseIdx] at h
  split at h
  ·rw[if_neg (by omega),if_pos (by omega)];simpa using h
  ·rw[if_neg (by omega),if_neg (by omega)];exact h
theorem Mem.back {x:Itm}(m:Mem W G w (x::H))(j:Nat)(h:j≤H.length):Mem W G w (H.take j++x::H.drop j):=by
 refine m.inj (λi=>if i<j then i+1 else if i=j then 0 else i) (by intro i k;split<;>split<;>(repeat' split)<;>omega) ?_
 intro i z hz
 by_cases h1:i<j
 ·rw[List.getElem?_append_left (by simp;omega),List.getElem?_take,if_pos h1] at hz
  simp only[if_pos h1]
  simpa using hz
 ·rw[List.getElem?_append_right (by simp;omega)] at hz
  simp only[List.length_take,Nat.min_eq_left h] at hz
  simp only[if_neg h1]
  by_cases h2:i=j
  ·subst h2;simpa using hz
  ·rw[if_neg h2]
   obtain⟨k,hk⟩:∃k,i-j=k+1:=⟨i-j-1,by omega⟩
   rw[hk] at hz
   simp only[List.getElem?_cons_succ,List.getElem?_drop] at hz
   obtain⟨k2,rfl⟩:∃k2,i=k2+1:=⟨i-1,by omega⟩
   simp only[List.getElem?_cons_succ]
   rw[←hz];congr 1;omega
theorem Mem.lt (m:Mem W G w H){i:Nat}{h:Itm}(hi:H[i]? =some h):∀x∈h.foot,x<w.heap.size:=Itm.lt (m.items i h hi)
theorem Mem.glt (m:Mem W G w H){b:Nat}{o:Obj}(h:G b=some o):b<w.heap.size:=
 (Array.getElem?_eq_some_iff.1 (m.sealed b o h)).1
theorem Mem.change {h h':Itm}(m:Mem W G w (h::H))(ho:w'.os=w.os)(ht:w'.tape=w.tape)(hu:w'.output=w.output)
  (hb:∀x,x<w.heap.size→x∉h.foot→w'.heap[x]? =w.heap[x]?) (hok:h'.ok w') (hf:∀x∈h'.foot,x∈h.foot∨w.heap.size≤x):Mem W G w' (h'::H):=by
 have hd:∀(i:Nat) (z:Itm),H[i]? =some z→∀x∈z.foot,x∉h.foot:=λi z hz=>m.disj (i+1) 0 z h (by omega) (by simpa using hz) (by simp)
 have hl:∀(i:Nat) (z:Itm),H[i]? =some z→∀x∈z.foot,x<w.heap.size:=λi z hz=>m.lt (i:=i+1) (by simpa using hz)
 refine⟨ho.trans m.os,ht.trans m.tape,hu.trans m.output,λb o k=> ?_,λi z k=> ?_,λi j a b hij ha hbb=> ?_,λi z k=> ?_,m.base⟩
 ·rw[hb b (m.glt k) (λhx=>by have:=m.apart 0 h (by simp) b hx;rw[this] at k;cases k)]
  exact m.sealed b o k
 ·cases i with
  |zero=>simp at k;subst k;exact hok
  |succ i=>
   have k':H[i]? =some z:=by simpa using k
   exact Itm.ok_of (m.items (i+1) z k) (λx hx=>hb x (hl i z k' x hx) (hd i z k' x hx))
 ·cases i with
  |zero=>
   simp at ha;subst ha
   cases j with
   |zero=>omega
   |succ j=>
    have k':H[j]? =some b:=by simpa using hbb
    intro x hx hx'
    rcases hf x hx with h1|h1
    ·exact hd j b k' x hx' h1
    ·exact absurd (hl j b k' x hx') (by omega)
  |succ i=>
   have k':H[i]? =some a:=by simpa using ha
   cases j with
   |zero=>
    simp at hbb;subst hbb
    intro x hx hx'
    rcases hf x hx' with h1|h1
    ·exact hd i a k' x hx h1
    ·exact absurd (hl i a k' x hx) (by omega)
   |succ j=>exact m.disj (i+1) (j+1) a b hij (by simpa using ha) (by simpa using hbb)
 ·cases i with
  |zero=>
   simp at k;subst k
   intro x hx
   rcases hf x hx with h1|h1
   ·exact m.apart 0 h (by simp) x h1
   ·cases hg:G x with
    |none=>rfl
    |some o=>exact absurd (m.glt hg) (by omega)
  |succ i=>exact m.apart (i+1) z (by simpa using k)
theorem Mem.nilrow (m:Mem W G w H)(t:TypeId)(sz:Nat):Mem W G w (.row (.slice none 0 0) t sz 0 []::H):=by
 refine⟨m.os,m.tape,m.output,m.sealed,λi z k=> ?_,λi j a b hij ha hb=> ?_,λi z k=> ?_,m.base⟩
 ·cases i with
  |zero=>simp at k;subst k;exact World.ownsRow_nil w 0 t sz
  |succ i=>exact m.items i z (by simpa using k)
 ·cases i with
  |zero=>simp at ha;subst ha;intro x hx;simp[Itm.foot,Value.ownBlock] at hx
  |succ i=>
   cases j with
   |zero=>simp at hb;subst hb;intro x _ hx;simp[Itm.foot,Value.ownBlock] at hx
   |succ j=>exact m.disj i j a b (by omega) (by simpa using ha) (by simpa using hb)
 ·cases i with
  |zero=>simp at k;subst k;intro x hx;simp[Itm.foot,Value.ownBlock] at hx
  |succ i=>exact m.apart i z (by simpa using k)
theorem Mem.add {h':Itm}(m:Mem W G w H)(ho:w'.os=w.os)(ht:w'.tape=w.tape)(hu:w'.output=w.output)
  (hb:∀x,x<w.heap.size→w'.heap[x]? =w.heap[x]?) (hok:h'.ok w') (hf:∀x∈h'.foot,w.heap.size≤x):Mem W G w' (h'::H):=
 (m.nilrow 0 0).change ho ht hu (λx hx _=>hb x hx) hok (λx hx=> .inr (hf x hx))
theorem Mem.alloc (m:Mem W G w H)(t:TypeId)(cs:List Value):Mem W G (w.alloc (.cells cs.toArray t)) (.box w.heap.size t cs::H):=
 m.add rfl rfl rfl (λx hx=>by first|exact heap_alloc_old w _ x hx|exact heap_alloc_old w _ hx) (heap_alloc_new w _) (λx hx=>by simp[Itm.foot] at hx;omega)
theorem Mem.stamp {h:Itm}(m:Mem W G w (h::H)):∃G',GLe G G'∧Mem W G' w H∧(∀x∈h.foot,G' x=w.heap[x]?)∧(∀x,x∉h.foot→G' x=G x):=by
 refine⟨λx=>if x∈h.foot then w.heap[x]? else G x,λb o k=> ?_,⟨m.os,m.tape,m.output,λb o k=> ?_,λi z k=>m.items (i+1) z (by simpa using k),λi j a b hij ha hb=>m.disj (i+1) (j+1) a b (by omega) (by simpa using ha) (by simpa using hb),λi z k x hx=> ?_,λb o k=> ?_⟩,λx hx=>by simp[hx],λx hx=>by simp[hx]⟩
 ·have:b∉h.foot:=λhx=>by have:=m.apart 0 h (by simp) b hx;rw[this] at k;cases k
  simp[this,k]
 ·by_cases hx:b∈h.foot
  ·simp[hx] at k;exact k
  ·simp[hx] at k;exact m.sealed b o k
 ·have h1:x∉h.foot:=m.disj (i+1) 0 z h (by omega) (by simpa using k) (by simp) x hx
  simp[h1]
  exact m.apart (i+1) z (by simpa using k) x hx
 ·have k':=m.base b o k
  have:b∉h.foot:=λhx=>by have:=m.apart 0 h (by simp) b hx;rw[this] at k';cases k'
  simp[this,k']
theorem Mem.unstamp {h:Itm}(m:Mem W G w H)(hx:∀x∈h.foot,G x=w'.heap[x]?)(hok:h.ok w')(hH:∀(i:Nat) (z:Itm),H[i]? =some z→∀x∈z.foot,x∉h.foot)(hW:∀x∈h.foot,W.heap[x]? =none):
  Mem W (λx=>if x∈h.foot then none else G x) w (h::H):=by
 have hold:∀x∈h.foot,w.heap[x]? =w'.heap[x]? :=λx hxf=>by
  have h1:=hx x hxf
  have hlt:=Itm.lt hok x hxf
  have h2:G x=some w'.heap[x]:=by rw[h1];simp[hlt]
  rw[m.sealed x _ h2,←h1,h2]
 refine⟨m.os,m.tape,m.output,λb o k=> ?_,λi z k=> ?_,λi j a b hij ha hb=> ?_,λi z k x hxf=> ?_,λb o k=> ?_⟩
 ·by_cases hxf:b∈h.foot
  ·simp[hxf] at k
  ·simp[hxf] at k;exact m.sealed b o k
 ·cases i with
  |zero=>simp at k;subst k;exact Itm.ok_of hok (λx hxf=>hold x hxf)
  |succ i=>exact m.items i z (by simpa using k)
 ·cases i with
  |zero=>
   simp at ha;subst ha
   cases j with
   |zero=>omega
   |succ j=>exact λx hx hx'=>hH j b (by simpa using hb) x hx' hx
  |succ i=>
   cases j with
   |zero=>simp at hb;subst hb;exact hH i a (by simpa using ha)
   |succ j=>exact m.disj i j a b (by omega) (by simpa using ha) (by simpa using hb)
 ·by_cases hxh:x∈h.foot
  ·simp[hxh]
  ·simp only[hxh,if_false]
   cases i with
   |zero=>simp at k;subst k;exact absurd hxf hxh
   |succ i=>exact m.apart i z (by simpa using k) x hxf
 ·have:b∉h.foot:=λhx=>by rw[hW b hx] at k;cases k
  simp[this,m.base b o k]
end
def Cell (G:GH)(b o:Nat)(c:Value):Prop:=∃cs t f,G b=some (.cells cs t f)∧cs[o]? =some c
theorem Cell.mono {G G':GH}(h:GLe G G'){b o:Nat}{c:Value}(k:Cell G b o c):Cell G' b o c:=by
 obtain⟨cs,t,f,h1,h2⟩:=k
 exact⟨cs,t,f,h _ _ h1,h2⟩
theorem Cell.get {W w:World}{G:GH}{H:List Itm}(m:Mem W G w H){b o:Nat}{c:Value}(k:Cell G b o c):w.cell? ⟨b,o,none⟩=some c:=by
 obtain⟨cs,t,f,h1,h2⟩:=k
 simp[World.cell?,m.sealed _ _ h1,h2]
abbrev Rep (α:Type):=GH→Value→α→Prop
def Cd {α:Type}(R:Rep α):Prop:=∀G G' v x,GLe G G'→R G v x→R G' v x
def RI (k:IntKind):Rep Int:=λ_ v n=>v= .int k n
theorem RI.mono (k:IntKind):Cd (RI k):=λ_ _ _ _ _ h=>h
def All2 {α:Type}(A:Value→α→Prop)(vs:List Value)(xs:List α):Prop:=
 vs.length=xs.length∧∀(i:Nat) (c:Value) (x:α),vs[i]? =some c→xs[i]? =some x→A c x
theorem All2.nil {α:Type}(A:Value→α→Prop):All2 A [] []:=⟨rfl,by simp⟩
theorem All2.get {α:Type}{A:Value→α→Prop}{vs:List Value}{xs:List α}(h:All2 A vs xs){i:Nat}{x:α}(hx:xs[i]? =some x):∃c,vs[i]? =some c∧A c x:=by
 have hi:i<vs.length:=by rw[h.1];exact(List.getElem?_eq_some_iff.1 hx).1
 exact⟨vs[i],by simp[hi],h.2 i _ x (by simp[hi]) hx⟩
theorem All2.mono {α:Type}{A A':Value→α→Prop}{vs:List Value}{xs:List α}(h:All2 A vs xs)(hA:∀v x,A v x→A' v x):All2 A' vs xs:=
 ⟨h.1,λi c x h1 h2=>hA _ _ (h.2 i c x h1 h2)⟩
theorem All2.append {α:Type}{A:Value→α→Prop}{vs vs':List Value}{xs xs':List α}(h:All2 A vs xs)(h':All2 A vs' xs'):All2 A (vs++vs') (xs++xs'):=by
 refine⟨by simp[h.1,h'.1],λi c x h1 h2=> ?_⟩
 by_cases hi:i<vs.length
 ·rw[List.getElem?_append_left hi] at h1
  rw[List.getElem?_append_left (by rw[←h.1];exact hi)] at h2
  exact h.2 i c x h1 h2
 ·rw[List.getElem?_append_right (by omega)] at h1
  rw[List.getElem?_append_right (by rw[←h.1];omega),←h.1] at h2
  exact h'.2 _ c x h1 h2
theorem All2.set {α:Type}{A:Value→α→Prop}{vs:List Value}{xs:List α}(h:All2 A vs xs)(i:Nat){c:Value}{x:α}(hc:A c x):All2 A (vs.set i c) (xs.set i x):=by
 refine⟨by simp[h.1],λj d y h1 h2=> ?_⟩
 rw[List.getElem?_set] at h1 h2
 by_cases hij:i=j
 ·subst hij
  simp only[if_true] at h1 h2
  split at h1
  ·split at h2
   ·cases h1;cases h2;exact hc
   ·cases h2
  ·cases h1
 ·rw[if_neg hij] at h1 h2
  exact h.2 j d y h1 h2
theorem All2.take {α:Type}{A:Value→α→Prop}{vs:List Value}{xs:List α}(h:All2 A vs xs)(n:Nat):All2 A (vs.take n) (xs.take n):=by
 refine⟨by simp[h.1],λj d y h1 h2=> ?_⟩
 rw[List.getElem?_take] at h1 h2
 split at h1
 ·rename_i hj;rw[if_pos hj] at h2;exact h.2 j d y h1 h2
 ·cases h1
theorem All2.drop {α:Type}{A:Value→α→Prop}{vs:List Value}{xs:List α}(h:All2 A vs xs)(n:Nat):All2 A (vs.drop n) (xs.drop n):=by
 refine⟨by simp[h.1],λj d y h1 h2=> ?_⟩
 rw[List.getElem?_drop] at h1 h2
 exact h.2 _ d y h1 h2
theorem All2.one {α:Type}{A:Value→α→Prop}{c:Value}{x:α}(h:A c x):All2 A [c] [x]:=by
 refine⟨rfl,λi d y h1 h2=> ?_⟩
 match i with
 |0=>simp at h1 h2;subst h1;subst h2;exact h
 |i+1=>simp at h1
theorem All2.cons {α:Type}{A:Value→α→Prop}{c:Value}{x:α}{vs:List Value}{xs:List α}(h:A c x)(h':All2 A vs xs):All2 A (c::vs) (x::xs):=
 All2.append (All2.one h) h'
theorem All2.replicate {α:Type}{A:Value→α→Prop}{c:Value}{x:α}(h:A c x)(n:Nat):All2 A (List.replicate n c) (List.replicate n x):=by
 induction n with
 |zero=>exact All2.nil A
 |succ n ih=>exact All2.cons h ih
def RSl {α:Type}(R:Rep α):Rep (List α):=λG v xs=>
 ∃vs,All2 (R G) vs xs∧((v= .slice none 0 0∧xs=[])∨
  ∃a cap,v= .slice (some a) xs.length cap∧xs.length≤cap∧cap≤maxLen∧∀(j:Nat) (c:Value),vs[j]? =some c→a.spot=Option.none∧Cell G a.block (a.off+j) c)
theorem RSl.mono {α : Type} {R : Rep α} (hR : Cd R) : Cd (RSl R) := by
  rintro G G' v xs hG ⟨vs, h1, h2⟩
  refine ⟨vs, h1.mono (fun v x => hR G G' v x hG), ?_⟩
  rcases h2 with h2 | ⟨a, cap, e1, e2, e3, e4⟩
  · exact .inl h2
  · exact .inr ⟨a, cap, e1, e2, e3, fun j c hc => ⟨(e4 j c hc).1, (e4 j c hc).2.mono hG⟩⟩
theorem RSl.len {α:Type}{R:Rep α}{G:GH}{v:Value}{xs:List α}(h:RSl R G v xs):∃a c,v= .slice a xs.length c∧xs.length≤c∧c≤maxLen:=by
 obtain⟨vs,_,h⟩:=h
 rcases h with⟨rfl,rfl⟩|⟨a,cap,rfl,h1,h2,_⟩
 ·exact⟨none,0,rfl,by simp,by simp[maxLen]⟩
 ·exact⟨_,cap,rfl,h1,h2⟩
def Ow {α:Type}(R:Rep α)(t:TypeId)(G:GH)(it:Itm)(v:Value)(xs:List α):Prop:=
 ∃vs,it= .row v t 1 xs.length vs∧All2 (R G) vs xs
theorem Ow.mono {α : Type} {R : Rep α} (hR : Cd R) {t : TypeId} {G G' : GH} {it : Itm} {v : Value} {xs : List α} (hG : GLe G G') (h : Ow R t G it v xs) : Ow R t G' it v xs := by
  obtain ⟨vs, h1, h2⟩ := h
  exact ⟨vs, h1, h2.mono (fun v x => hR G G' v x hG)⟩
theorem Ow.len {α:Type}{R:Rep α}{t:TypeId}{W w:World}{G G':GH}{it:Itm}{H:List Itm}{v:Value}{xs:List α}(h:Ow R t G it v xs)(m:Mem W G' w (it::H)):
  ∃a c,v= .slice a xs.length c∧xs.length≤c∧c≤maxLen:=by
 obtain⟨vs,rfl,_⟩:=h
 have this:w.ownsRow 0 t 1 v xs.length vs:=m.items 0 (.row v t 1 xs.length vs) (by simp)
 rcases this.2 with⟨h1,h2⟩|⟨g,cap,cur,h1,_,_,h2,h3,_⟩
 ·exact⟨none,0,by rw[h1,h2],by omega,by simp[maxLen]⟩
 ·exact⟨_,cap,h1,h2,h3⟩
theorem Ow.stamp {α:Type}{R:Rep α}(hR:Cd R){t:TypeId}{W w:World}{G:GH}{it:Itm}{H:List Itm}{v:Value}{xs:List α}(h:Ow R t G it v xs)(m:Mem W G w (it::H)):
  ∃G',GLe G G'∧Mem W G' w H∧RSl R G' v xs:=by
 obtain⟨G',h1,h2,h3,_⟩:=m.stamp
 refine⟨G',h1,h2,?_⟩
 obtain⟨vs,rfl,hA⟩:=h
 refine⟨vs,hA.mono (λv x=>hR G G' v x h1),?_⟩
 have this:w.ownsRow 0 t 1 v xs.length vs:=m.items 0 (.row v t 1 xs.length vs) (by simp)
 rcases this.2 with⟨e1,e2⟩|⟨g,cap,cur,e1,_,eh,e2,e3,e4,e5⟩
 ·exact .inl ⟨e1,List.eq_nil_of_length_eq_zero e2⟩
 ·refine .inr ⟨⟨g,0,none⟩,cap,e1,e2,e3,λj c hc=>⟨rfl,cur,t,(0,0),?_,?_⟩⟩
  ·rw[h3 g (by rw[e1];simp[Itm.foot,Value.ownBlock]),eh]
  ·rw[←e5,List.getElem?_take] at hc
   split at hc
   ·simpa using hc
   ·cases hc
theorem Ow.nil {α:Type}(R:Rep α)(t:TypeId){W w:World}{G:GH}{H:List Itm}(m:Mem W G w H):
  ∃it,Mem W G w (it::H)∧Ow R t G it (.slice none 0 0) []:=
 ⟨_,m.nilrow t 1,[],rfl,All2.nil _⟩
theorem Ow.lend {α:Type}{R:Rep α}(hR:Cd R){t:TypeId}{W w:World}{G:GH}{it:Itm}{H:List Itm}{v:Value}{xs:List α}(h:Ow R t G it v xs)(m:Mem W G w (it::H)):
  ∃G',GLe G G'∧Mem W G' w H∧RSl R G' v xs∧
   ∀G'' w' H',GLe G' G''→Mem W G'' w' H'→∃G₃,GLe G G₃∧Mem W G₃ w' (it::H')∧Ow R t G₃ it v xs:=by
 obtain⟨G',h1,h2,h3,h4⟩:=m.stamp
 have hok:it.ok w:=m.items 0 it (by simp)
 have hap:∀x∈it.foot,G x=none:=m.apart 0 it (by simp)
 have hlt:=Itm.lt hok
 obtain⟨G1,e1,e2,e3⟩:=h.stamp hR m
 refine⟨G',h1,h2,?_,λG'' w' H' hle m'=> ?_⟩
 ·obtain⟨vs,rfl,hA⟩:=h
  refine⟨vs,hA.mono (λv x=>hR G G' v x h1),?_⟩
  have this:w.ownsRow 0 t 1 v xs.length vs:=hok
  rcases this.2 with⟨e1,e2⟩|⟨g,cap,cur,e1,_,eh,e2,e3,e4,e5⟩
  ·exact .inl ⟨e1,List.eq_nil_of_length_eq_zero e2⟩
  ·refine .inr ⟨⟨g,0,none⟩,cap,e1,e2,e3,λj c hc=>⟨rfl,cur,t,(0,0),?_,?_⟩⟩
   ·rw[h3 g (by rw[e1];simp[Itm.foot,Value.ownBlock]),eh]
   ·rw[←e5,List.getElem?_take] at hc
    split at hc
    ·simpa using hc
    ·cases hc
 ·have hx:∀x∈it.foot,G'' x=w.heap[x]? :=λx hx=>by
   have hl:=hlt x hx
   have:G' x=some w.heap[x]:=by rw[h3 x hx];simp[hl]
   rw[hle x _ this];simp[hl]
  refine⟨_,λb o k=> ?_,m'.unstamp hx hok (λi z hz x hxz hxi=> ?_) (λx hxi=> ?_),?_⟩
  ·have:b∉it.foot:=λhx=>by rw[hap b hx] at k;cases k
   simp[this,hle b o (h1 b o k)]
  ·have h5:=m'.apart i z hz x hxz
   have hl:=hlt x hxi
   rw[hx x hxi] at h5
   simp[hl] at h5
  ·cases hg:W.heap[x]? with
   |none=>rfl
   |some o=>have h5:=m.base x o hg;rw[hap x hxi] at h5;cases h5
  ·refine h.mono hR (λb o k=> ?_)
   have:b∉it.foot:=λhx=>by rw[hap b hx] at k;cases k
   simp[this,hle b o (h1 b o k)]
end Go.Sx

namespace Go.Sx
section
variable {W w w' : World} {G G' : GH} {H H' : List Itm}
theorem B9 {α:Type}(H:List α)(j:Nat)(x:α)(hj:j<H.length):(H.eraseIdx j).take j++x::(H.eraseIdx j).drop j=H.set j x:=by
 apply List.ext_getElem?
 intro i
 have hl:((H.eraseIdx j).take j).length=j:=by simp[List.length_eraseIdx,hj];omega
 by_cases h1:i<j
 ·rw[List.getElem?_append_left (by omega),List.getElem?_take,if_pos h1,List.getElem?_eraseIdx,if_pos h1,List.getElem?_set,if_neg (by omega)]
 ·rw[List.getElem?_append_right (by omega),hl]
  by_cases h2:i=j
  ·subst h2;simp[hj]
  ·obtain⟨k,hk⟩:∃k,i-j=k+1:=⟨i-j-1,by omega⟩
   rw[hk,List.getElem?_cons_succ,List.getElem?_drop,List.getElem?_eraseIdx,if_neg (by omega),List.getElem?_set,if_neg (by omega)]
   congr 1;omega
theorem Mem.changeAt {h' h:Itm}(m:Mem W G w H)(j:Nat)(hj:H[j]? =some h)(ho:w'.os=w.os)(ht:w'.tape=w.tape)(hu:w'.output=w.output)
  (hb:∀x,x<w.heap.size→x∉h.foot→w'.heap[x]? =w.heap[x]?) (hok:h'.ok w') (hf:∀x∈h'.foot,x∈h.foot∨w.heap.size≤x):Mem W G w' (H.set j h'):=by
 have hl:j<H.length:=(List.getElem?_eq_some_iff.1 hj).1
 have m1:=((m.front j hj).change ho ht hu hb hok hf).back j (by simp[List.length_eraseIdx,hl];omega)
 rwa [B9 H j h' hl] at m1
theorem Mem.eraseAt (m:Mem W G w H)(j:Nat):Mem W G w (H.eraseIdx j):=by
 refine m.inj (λi=>if i<j then i else i+1) (by intro i k;split<;>split<;>omega) (λi x h=> ?_)
 rw[List.getElem?_eraseIdx] at h
 split<;>simp_all
theorem Mem.boxCell (m:Mem W G w H)(j:Nat){b:Nat}{t:TypeId}{cs:List Value}(hj:H[j]? =some (.box b t cs)){i:Nat}{c:Value}(hc:cs[i]? =some c):w.cell? ⟨b,i,none⟩=some c:=by
 have h:w.heap[b]? =some (.cells cs.toArray t (0,0)):=m.items j _ hj
 simp[World.cell?,h,hc]
theorem Mem.boxStore (m:Mem W G w H)(j:Nat){b:Nat}{t:TypeId}{cs:List Value}(hj:H[j]? =some (.box b t cs))(cs':List Value):
  Mem W G (w.setRow b cs'.toArray) (H.set j (.box b t cs')):=by
 have h:w.heap[b]? =some (.cells cs.toArray t (0,0)):=m.items j _ hj
 exact m.changeAt j hj rfl rfl rfl (λx _ hx=>setRow_other w b x _ (by simpa [Itm.foot] using hx)) (setRow_heap w b _ _ t _ h) (λx hx=> .inl hx)
end
section
variable {P : Program} {ops : Array Oper} {rest : List Oper} {n r : AH} {x : List (Nat × AH)} {a : Act} {w w' : World} {N : Nat} {L : AG}
theorem Bp {o:Oper}{d:Nat}{v:Value}(f:Fr a N L)(hg:o.guard=none)(hd:o.dst=some d)(hN:Nat.blt d N=true)
  (hr:(execOp a.eval o).run P w= .ok (.value v) w') (k:∀a',Fr a' N ((d,v)::L)→wpList P ops (Qk n x r) rest a' w'):
  wpList P ops (Qk n x r) (o::rest) a w:=by
 refine wpList_plain hg λK hK=> ?_
 unfold Oper.wp
 rw[hr]
 simp only[Oper.upon,hd]
 exact hK _ _ (k _ (f.put hN v))
theorem l_void {o:Oper}(hg:o.guard=none)(hd:o.dst=none)
  (hr:(execOp a.eval o).run P w= .ok .skip w') (k:wpList P ops (Qk n x r) rest a w'):
  wpList P ops (Qk n x r) (o::rest) a w:=by
 refine wpList_plain hg λK hK=> ?_
 unfold Oper.wp
 rw[hr]
 simp only[Oper.upon,hd]
 exact hK _ _ k
theorem Ct {j s:Nat}{b:Bool}(f:Fr a N L)(hj:(ops[j]?).bind (·.dst)=some s)(hs:look L s=some (.bool b)):yielded ops a.tmps j=some b:=by
 have h:=f.get s _ hs
 unfold yielded
 rw[hj]
 rcases Nat.lt_or_ge s a.tmps.size with h1|h1
 ·simp[Array.getD_eq_getD_getElem?,h1] at h
  simp[h1,h]
 ·simp[Array.getD_eq_getD_getElem?,Array.getElem?_eq_none h1,undef] at h
theorem l_run {dst:Option Tmp}{op:Op}{t:TypeId}{pos:String}{af:Array Edge}{j s:Nat}{b c:Bool}(f:Fr a N L)(hj:(ops[j]?).bind (·.dst)=some s)
  (hs:look L s=some (.bool c)) (hc:c=b) (k:wpList P ops (Qk n x r) (⟨dst,op,t,pos,af,none⟩::rest) a w):
  wpList P ops (Qk n x r) (⟨dst,op,t,pos,af,some (j,b)⟩::rest) a w:=by
 have hy:=Ct (ops:=ops) f hj hs
 unfold wpList at k ⊢
 rw[if_pos (by simp[Region.wanted])] at k
 rw[if_pos (by simp[Region.wanted,hy,hc])]
 exact k
theorem l_not {dst:Option Tmp}{op:Op}{t:TypeId}{pos:String}{af:Array Edge}{j s:Nat}{b c:Bool}(f:Fr a N L)(hj:(ops[j]?).bind (·.dst)=some s)
  (hs:look L s=some (.bool c)) (hc:c= !b) (k:wpList P ops (Qk n x r) rest (a.put dst undef) w):
  wpList P ops (Qk n x r) (⟨dst,op,t,pos,af,some (j,b)⟩::rest) a w:=by
 have hy:=Ct (ops:=ops) f hj hs
 unfold wpList
 simp only[Region.wanted,hy,hc]
 cases b<;>simpa using k
theorem l_not' {d:Nat}{op:Op}{t:TypeId}{pos:String}{af:Array Edge}{j s:Nat}{b c:Bool}(f:Fr a N L)(hN:Nat.blt d N=true)(hj:(ops[j]?).bind (·.dst)=some s)
  (hs:look L s=some (.bool c)) (hc:c= !b) (k:∀a',Fr a' N ((d,undef)::L)→wpList P ops (Qk n x r) rest a' w):
  wpList P ops (Qk n x r) (⟨some d,op,t,pos,af,some (j,b)⟩::rest) a w:=
 l_not f hj hs hc (k _ (f.put hN undef))
theorem l_call {d:Nat}{g:FuncId}{args:List Operand}{tys:Array TypeId}{vs:List Value}{t:TypeId}{pos:String}{af:Array Edge}(R:Value→World→Prop)(f:Fr a N L)
  (hN:Nat.blt d N=true) (hargs:evalAll L args=some vs) (hcall:∀(ars:Array Value) (w:World),(callFunc g ars).run P w= .ok (.enter g ars) w)
  (hc:Calls P g vs.toArray w λe w'=>∃v,e= .returned v∧R v w')
  (k:∀v w',R v w'→∀a',Fr a' N ((d,v)::L)→wpList P ops (Qk n x r) rest a' w'):
  wpList P ops (Qk n x r) (⟨some d,.call {callee:= .value (.func g),args:=args.toArray,argTypes:=tys},t,pos,af,none⟩::rest) a w:=by
 refine wpList_plain rfl λK hK=> ?_
 unfold Oper.wp
 have hargs':(args.toArray.map a.eval)=vs.toArray:=by rw[List.map_toArray,f.evalAll hargs]
 have hr:(execOp a.eval ⟨some d,.call {callee:= .value (.func g),args:=args.toArray,argTypes:=tys},t,pos,af,none⟩).run P w= .ok (.enter g vs.toArray) w:=by
  simp only[execOp,resolve,Deferred.ofValue,Act.eval,Sem.run_bind,Sem.run_pure,Result.andThen_ok,invoke,hargs']
  have:=hcall vs.toArray w
  simpa using this
 rw[hr]
 simp only[Oper.upon]
 refine hc.mono λe w' ⟨v,he,hR⟩=> ?_
 subst he
 exact hK _ _ (k v w' hR _ (f.put hN v))
end
structure SlT (P:Program)(t e sz bytes:Nat)(z:Value):Prop where
 und:P.underlying t=some (.slice e)
 info:∃i,P.info? e=some i∧i.size=sz∧i.bytes=bytes∧i.zero=some z
def Br (P:Program)(t:TypeId):Prop:=∀w,(isAgg t).run P w= .ok false w
def Agg (P:Program)(t n:Nat):Prop:=(∀w,(isAgg t).run P w= .ok true w)∧∀w,(sizeOf t).run P w= .ok n w
section
variable {P : Program} {ρ : Operand → Value} {w : World} {d : Option Tmp} {t : TypeId} {pos : String} {af : Array Edge} {gd : Option (Nat × Bool)}
theorem r_move {x:Operand}{v:Value}(h:ρ x=v):(execOp ρ ⟨d,.move x,t,pos,af,gd⟩).run P w= .ok (.value v) w:=by rw[←h];rfl
theorem CS {x:Operand}{v:Value}(h:ρ x=v):(execOp ρ ⟨d,.assign x,t,pos,af,gd⟩).run P w= .ok (.value v) w:=by rw[←h];rfl
theorem r_pick {c x y:Operand}{b:Bool}{v:Value}(hc:ρ c= .bool b)(h:(if b then ρ x else ρ y)=v):(execOp ρ ⟨d,.pick c x y,t,pos,af,gd⟩).run P w= .ok (.value v) w:=by
 rw[←h];simp[execOp,hc,asBool]
theorem BY {op:BinOp}{k:IntKind}{u u':TypeId}{x y:Operand}{m n:Int}{v:Value}(hx:ρ x= .int k m)(hy:ρ y= .int k n)
  (h:∀w,(binOp op u (.int k m) (.int k n)).run P w= .ok v w):(execOp ρ ⟨d,.binOp op u x y u',t,pos,af,gd⟩).run P w= .ok (.value v) w:=by
 have hg:(eqGuard op u x y (.int k m) (.int k n)).run P w= .ok () w:=by
  unfold eqGuard
  cases op<;>rfl
 simp[execOp,hx,hy,hg,h w]
theorem AJ {k:IntKind}{u:TypeId}{m n:Int}(w:World):(binOp .add u (.int k m) (.int k n)).run P w= .ok (.int k (k.wrap (m+n))) w:=by simp[binOp,Op.intArith]
theorem CH {k:IntKind}{u:TypeId}{m n:Int}(w:World):(binOp .sub u (.int k m) (.int k n)).run P w= .ok (.int k (k.wrap (m-n))) w:=by simp[binOp,Op.intArith]
theorem b_mul {k:IntKind}{u:TypeId}{m n:Int}(w:World):(binOp .mul u (.int k m) (.int k n)).run P w= .ok (.int k (k.wrap (m*n))) w:=by simp[binOp,Op.intArith]
theorem AF {k:IntKind}{u:TypeId}{m n:Int}(w:World):(binOp .lss u (.int k m) (.int k n)).run P w= .ok (.bool (decide (m<n))) w:=by simp[binOp,Op.intCmp]
theorem b_leq {k:IntKind}{u:TypeId}{m n:Int}(w:World):(binOp .leq u (.int k m) (.int k n)).run P w= .ok (.bool (decide (m≤n))) w:=by simp[binOp,Op.intCmp]
theorem BO {k:IntKind}{u:TypeId}{m n:Int}(w:World):(binOp .gtr u (.int k m) (.int k n)).run P w= .ok (.bool (decide (n<m))) w:=by simp[binOp,Op.intCmp]
theorem b_geq {k:IntKind}{u:TypeId}{m n:Int}(w:World):(binOp .geq u (.int k m) (.int k n)).run P w= .ok (.bool (decide (n≤m))) w:=by simp[binOp,Op.intCmp]
theorem b_eql {k:IntKind}{u:TypeId}{m n:Int}(w:World):(binOp .eql u (.int k m) (.int k n)).run P w= .ok (.bool (m==n)) w:=by simp[binOp,Op.intCmp]
theorem BZ {k:IntKind}{u:TypeId}{m n:Int}(w:World):(binOp .neq u (.int k m) (.int k n)).run P w= .ok (.bool (m !=n)) w:=by simp[binOp,Op.intCmp]
def iand (k:IntKind)(m n:Int):Int:=k.wrap (BitVec.ofInt k.bits m&&&BitVec.ofInt k.bits n).toNat
def ior (k:IntKind)(m n:Int):Int:=k.wrap (BitVec.ofInt k.bits m|||BitVec.ofInt k.bits n).toNat
def Di (k:IntKind)(m n:Int):Int:=k.wrap (BitVec.ofInt k.bits m&&& ~~~(BitVec.ofInt k.bits n)).toNat
theorem b_and {k:IntKind}{u:TypeId}{m n:Int}(w:World):(binOp .and u (.int k m) (.int k n)).run P w= .ok (.int k (iand k m n)) w:=by simp[binOp,Op.intBits,iand]
theorem b_or {k:IntKind}{u:TypeId}{m n:Int}(w:World):(binOp .or u (.int k m) (.int k n)).run P w= .ok (.int k (ior k m n)) w:=by simp[binOp,Op.intBits,ior]
theorem b_quo {k:IntKind}{u:TypeId}{m n:Int}(h:(n==0)=false)(w:World):(binOp .quo u (.int k m) (.int k n)).run P w= .ok (.int k (k.wrap (m.tdiv n))) w:=by
 have:n≠0:=by simpa using h
 simp[binOp,Op.intDiv,this]
theorem b_rem {k:IntKind}{u:TypeId}{m n:Int}(h:(n==0)=false)(w:World):(binOp .rem u (.int k m) (.int k n)).run P w= .ok (.int k (m.tmod n)) w:=by
 have:n≠0:=by simpa using h
 simp[binOp,Op.intDiv,this]
def ishl (k:IntKind)(m n:Int):Int:=k.wrap (m*2^(min n.toNat k.bits))
def ishr (k:IntKind)(m n:Int):Int:=m.fdiv (2^(min n.toNat k.bits))
theorem r_shl {k k':IntKind}{u u':TypeId}{x y:Operand}{m n:Int}(hx:ρ x= .int k m)(hy:ρ y= .int k' n)(h:decide (n<0)=false):
  (execOp ρ ⟨d,.binOp .shl u x y u',t,pos,af,gd⟩).run P w= .ok (.value (.int k (ishl k m n))) w:=by
 have h':¬n<0:=by simpa using h
 simp[execOp,hx,hy,eqGuard,binOp,Op.shift,h',ishl]
theorem r_shr {k k':IntKind}{u u':TypeId}{x y:Operand}{m n:Int}(hx:ρ x= .int k m)(hy:ρ y= .int k' n)(h:decide (n<0)=false):
  (execOp ρ ⟨d,.binOp .shr u x y u',t,pos,af,gd⟩).run P w= .ok (.value (.int k (ishr k m n))) w:=by
 have h':¬n<0:=by simpa using h
 simp[execOp,hx,hy,eqGuard,binOp,Op.shift,h',ishr]
theorem Bf {u:TypeId}{x:Operand}{b:Bool}(hx:ρ x= .bool b):(execOp ρ ⟨d,.unOp .not u x,t,pos,af,gd⟩).run P w= .ok (.value (.bool (!b))) w:=by
 simp[execOp,hx,Op.unary]
theorem r_neg {u:TypeId}{x:Operand}{k:IntKind}{m:Int}(hx:ρ x= .int k m):(execOp ρ ⟨d,.unOp .neg u x,t,pos,af,gd⟩).run P w= .ok (.value (.int k (k.wrap (0-m)))) w:=by
 simp[execOp,hx,Op.unary,Op.intArith]
theorem r_conv {s u:TypeId}{x:Operand}{k k':IntKind}{m:Int}(hx:ρ x= .int k m)(hs:∃q,P.underlying s=some q)(hu:P.underlying u=some (.int k')):
  (execOp ρ ⟨d,.convert s u x,t,pos,af,gd⟩).run P w= .ok (.value (.int k' (k'.wrap m))) w:=by
 obtain⟨q,hq⟩:=hs
 simp[execOp,hx,convert,run_underlying hq,run_underlying hu,Conv.intToInt]
theorem r_len {x:Operand}{u e:TypeId}{a:Option Addr}{n c:Nat}(hx:ρ x= .slice a n c)(hu:P.underlying u=some (.slice e)):
  (execOp ρ ⟨d,.call {callee:= .builtin .len,args:= #[x],argTypes:= #[u]},t,pos,af,gd⟩).run P w= .ok (.value (.int .i64 n)) w:=by
 simp[execOp,resolve,invoke,builtin,Builtin.len_,run_underlying hu,hx,goInt]
theorem Az {x:Operand}{vs:Array Value}{i:Nat}{v:Value}(hx:ρ x= .tuple vs)(hi:vs[i]? =some v):(execOp ρ ⟨d,.extract x i,t,pos,af,gd⟩).run P w= .ok (.value v) w:=by
 simp[execOp,hx,Instr.extract,hi]
theorem Cs {x:Operand}{a:Addr}(hx:ρ x= .pointer (some a)):(execOp ρ ⟨d,.nilCheck x,t,pos,af,gd⟩).run P w= .ok (.value (.pointer (some a))) w:=by
 simp[execOp,hx]
theorem CL {x:Operand}{u:TypeId}{a:Addr}{c:Value}(hx:ρ x= .pointer (some a))(hp:Br P u)(hc:w.cell? a=some c):
  (execOp ρ ⟨d,.load u x,t,pos,af,gd⟩).run P w= .ok (.value c) w:=by
 simp[execOp,hx,Instr.loadAt,Instr.sureAddr,loadVar,hp w,hc]
theorem r_loadAgg {x:Operand}{u n:Nat}{a:Addr}{cs:List Value}(hx:ρ x= .pointer (some a))(hp:Agg P u n)(hn:cs.length=n)(hc:∀j v,cs[j]? =some v→w.cell? (a.add j)=some v):
  (execOp ρ ⟨d,.load u x,t,pos,af,gd⟩).run P w= .ok (.value (.agg cs.toArray)) w:=by
 subst hn
 simp[execOp,hx,Instr.loadAt,Instr.sureAddr,loadVar,hp.1 w,hp.2 w,run_loadCells_list w a cs hc]
theorem Dp {x:Operand}{s fi:Nat}{a:Addr}{fs:Array Field}{fl:Field}{sz:Nat}(hx:ρ x= .pointer (some a))(hs:P.underlying s=some (.struct fs))(hf:fs[fi]? =some fl)
  (hz:∀w,(sizeOf fl.type).run P w= .ok sz w) (hz0:sz≠0):(execOp ρ ⟨d,.fieldAddr s x fi,t,pos,af,gd⟩).run P w= .ok (.value (.pointer (some (a.add fl.offset)))) w:=by
 simp[execOp,hx,Instr.fieldAt,Instr.sureAddr,run_underlying hs,hf,fieldPlace,hz w,hz0]
theorem r_box {x:Operand}{u:TypeId}{v:Value}(hx:ρ x=v):(execOp ρ ⟨d,.box u x,t,pos,af,gd⟩).run P w= .ok (.value (.pointer (some ⟨w.heap.size,0,none⟩))) (w.alloc (.cells v.cells u)):=by
 simp[execOp,hx,Instr.box,newVar,newRow]
theorem r_alloc {u:TypeId}{z:Value}(hz:∀w,(zeroValue u).run P w= .ok z w):(execOp ρ ⟨d,.alloc u,t,pos,af,gd⟩).run P w= .ok (.value (.pointer (some ⟨w.heap.size,0,none⟩))) (w.alloc (.cells z.cells u)):=by
 simp[execOp,Instr.alloc,hz w,newVar,newRow]
theorem Ch {x i:Operand}{u e:Nat}{bytes:Nat}{z:Value}{sz:Nat}{k:IntKind}{j:Int}{a:Addr}{n c:Nat}(hx:ρ x= .slice (some a) n c)(hi:ρ i= .int k j)(hu:SlT P u e sz bytes z)
  (h0:0≤j) (h1:j<n):(execOp ρ ⟨d,.indexAddr u x i,t,pos,af,gd⟩).run P w= .ok (.value (.pointer (some (a.add (j.toNat*sz))))) w:=by
 obtain⟨ti,h2,h3,_⟩:=hu.info
 simp[execOp,hx,hi,Instr.indexAt,asIntOf,run_underlying hu.und,h0,h1,sizeOf,typeInfo,h2,h3]
theorem r_store {x y:Operand}{u:TypeId}{b off:Nat}{tt:TypeId}{cur:Array Value}{v:Value}(hx:ρ x= .pointer (some ⟨b,off,none⟩))(hy:ρ y=v)(hz:∀w,(sizeOf u).run P w= .ok v.cells.size w)
  (hg:w.heap[b]? =some (.cells cur tt (0,0))) (hl:off+v.cells.size≤cur.size) (h1:∀c∈v.cells.toList,c.oneCell'=true):
  (execOp ρ ⟨d,.store u x y,t,pos,af,gd⟩).run P w= .ok .skip (w.setRow b (cur.toList.take off++v.cells.toList++cur.toList.drop (off+v.cells.size)).toArray):=by
 have:=run_storeCells_at P b off tt v.cells.toList 0 cur w hg (by simpa using hl) h1
 simp only[Nat.add_zero,Array.length_toList] at this
 simp[execOp,hx,hy,Instr.storeAt,Instr.sureAddr,storeVar,hz w,this]
end
end Go.Sx

namespace Go.Sx
def enum (k:Nat):List Value→AG
 |[]=>[]
 |v::r=>(k,v)::enum (k+1) r
theorem look_enum {k s:Nat}{l:List Value}{v:Value}(h:look (enum k l) s=some v):k≤s∧l[s-k]? =some v:=by
 induction l generalizing k with
 |nil=>simp[enum,look] at h
 |cons u r ih=>
  by_cases hk:k=s
  ·subst hk;rw[enum,Cz] at h;cases h;simp
  ·rw[enum,Cy hk] at h
   obtain⟨h1,h2⟩:=ih h
   refine⟨by omega,?_⟩
   obtain⟨j,hj⟩:∃j,s-k=j+1:=⟨s-k-1,by omega⟩
   rw[hj,List.getElem?_cons_succ,←h2];congr 1;omega
theorem Fr.start {args:List Value}{N:Nat}(h:args.length≤N):Fr {tmps:=args.toArray++Array.replicate (N-args.toArray.size) undef,defers:=[]} N (enum 0 args):=by
 refine⟨rfl,by simp;omega,λs v hs=> ?_⟩
 obtain⟨_,h2⟩:=look_enum hs
 simp only[Nat.sub_zero] at h2
 have hl:=(List.getElem?_eq_some_iff.1 h2).1
 simp[Array.getD_eq_getD_getElem?,Array.getElem?_append,hl]
 exact(List.getElem?_eq_some_iff.1 h2).2
theorem calls_k {P:Program}{g:FuncId}{fn:Func}{c:Code}{args:List Value}{w:World}{R:Ending→World→Prop}{N:Nat}(r:AH)
  (hf:P.funcs[g]? =some fn) (hb:fn.body=some c) (hN:fn.ntmps=N) (hl:args.length≤N)
  (h:∀a,Fr a N (enum 0 args)→c.wp P (Qk r [] r) a w)
  (hr:∀a w,r a w→a.defers=[]∧∃v,(results fn a.tmps).run P w= .ok v w∧R (.returned v) w):Calls P g args.toArray w R:=by
 refine calls_of_wp hf hb ?_
 rw[hN]
 refine wp_mono (h _ (Fr.start hl)) λe a w q=> ?_
 cases e with
 |normal=>exact hr _ _ q
 |ret=>exact hr _ _ q
 |exit id=>obtain⟨K,hk,_⟩:=q;cases hk
 |goto l=>exact q.elim
 |panic ch=>exact q.elim
 |outgrown=>exact q.elim
def Res (W : World) (G : GH) (H : List Itm) (Q : GH → List Itm → Value → Prop) : Ending → World → Prop := fun e w' =>
  ∃ v, e = .returned v ∧ ∃ G' Ho, GLe G G' ∧ Mem W G' w' (Ho ++ H) ∧ Q G' Ho v
def idx {α:Type}(xs:List α)(i:Int):Option α:=if 0≤i then xs[i.toNat]? else none
theorem BL {α:Type}{xs:List α}{i:Int}{x:α}(h:idx xs i=some x):0≤i∧i<xs.length∧xs[i.toNat]? =some x:=by
 unfold idx at h
 split at h
 ·rename_i h0
  have:=(List.getElem?_eq_some_iff.1 h).1
  exact⟨h0,by omega,h⟩
 ·cases h
theorem Af {α:Type}{c:Bool}{p q:Option α}{y:α}(h:cond c p q=some y):(c=true∧p=some y)∨(c=false∧q=some y):=by
 cases c
 ·exact .inr ⟨rfl,h⟩
 ·exact .inl ⟨rfl,h⟩
theorem bind_some {α β:Type}{p:Option α}{q:α→Option β}{y:β}(h:p.bind q=some y):∃x,p=some x∧q x=some y:=Option.bind_eq_some_iff.1 h
theorem RSl.at {α:Type}{R:Rep α}{G:GH}{v:Value}{xs:List α}(h:RSl R G v xs){i:Int}{x:α}(hi:idx xs i=some x):
  ∃a n c off u,v= .slice (some ⟨a,off,none⟩) n c∧0≤i∧i<n∧Cell G a (off+i.toNat) u∧R G u x:=by
 obtain⟨h0,h1,h2⟩:=BL hi
 obtain⟨vs,hA,h3⟩:=h
 rcases h3 with⟨rfl,rfl⟩|⟨⟨b,off,sp⟩,cap,rfl,h4,h5,h6⟩
 ·simp at h2
 ·obtain⟨c,hc,hR⟩:=hA.get h2
  obtain⟨rfl,h7⟩:=h6 _ _ hc
  exact⟨b,xs.length,cap,off,c,rfl,h0,h1,h7,hR⟩
def At (G:GH)(p c:Value):Prop:=∃b o,p= .pointer (some ⟨b,o,none⟩)∧Cell G b o c
theorem Bi (b o n:Nat):(⟨b,o,none⟩:Addr).add n=⟨b,o+n,none⟩:=by
 unfold Addr.add;split
 ·rename_i h;subst h;rfl
 ·rfl
section
variable {P : Program} {ops : Array Oper} {rest : List Oper} {n r : AH} {x : List (Nat × AH)} {a : Act} {w : World} {N : Nat} {L : AG}
theorem Bx {α:Type}{R:Rep α}{G:GH}{v:Value}{xs:List α}{d:Nat}{u e bytes:Nat}{z:Value}{xo io:Operand}{k:IntKind}{i:Int}{e':α}{t:TypeId}{pos:String}{af:Array Edge}
  (hu:SlT P u e 1 bytes z) (f:Fr a N L) (hN:Nat.blt d N=true) (hx:Aq L xo=some v) (hi:Aq L io=some (.int k i)) (h:RSl R G v xs) (he:idx xs i=some e')
  (q:∀p c a',At G p c→R G c e'→Fr a' N ((d,p)::L)→wpList P ops (Qk n x r) rest a' w):
  wpList P ops (Qk n x r) (⟨some d,.indexAddr u xo io,t,pos,af,none⟩::rest) a w:=by
 obtain⟨b,m,c,off,cv,rfl,h0,h1,hc,hR⟩:=h.at he
 refine Bp f rfl rfl hN (Ch (f.eval hx) (f.eval hi) hu h0 h1) λa' f'=> ?_
 refine q _ cv a' ⟨b,off+i.toNat,?_,hc⟩ hR f'
 rw[Bi,Nat.mul_one]
theorem AM {W:World}{H:List Itm}{G:GH}(m:Mem W G w H){d:Nat}{u:TypeId}{xo:Operand}{p c:Value}{t:TypeId}{pos:String}{af:Array Edge}
  (hp:Br P u) (f:Fr a N L) (hN:Nat.blt d N=true) (hx:Aq L xo=some p) (h:At G p c)
  (q:∀a',Fr a' N ((d,c)::L)→wpList P ops (Qk n x r) rest a' w):
  wpList P ops (Qk n x r) (⟨some d,.load u xo,t,pos,af,none⟩::rest) a w:=by
 obtain⟨b,o,rfl,hc⟩:=h
 exact Bp f rfl rfl hN (CL (f.eval hx) hp (hc.get m)) q
theorem AZ {α:Type}{R:Rep α}{G:GH}{v:Value}{xs:List α}{d:Nat}{u e:Nat}{xo:Operand}{t:TypeId}{pos:String}{af:Array Edge}
  (hu:P.underlying u=some (.slice e)) (f:Fr a N L) (hN:Nat.blt d N=true) (hx:Aq L xo=some v) (h:RSl R G v xs)
  (q:∀a',Fr a' N ((d,.int .i64 (xs.length:Int))::L)→wpList P ops (Qk n x r) rest a' w):
  wpList P ops (Qk n x r) (⟨some d,.call {callee:= .builtin .len,args:= #[xo],argTypes:= #[u]},t,pos,af,none⟩::rest) a w:=by
 obtain⟨b,c,rfl,_⟩:=h.len
 exact Bp f rfl rfl hN (r_len (f.eval hx) hu) q
end
end Go.Sx

namespace Go.Sx
section
variable {P : Program} {ops : Array Oper} {rest l : List Oper} {n r : AH} {x : List (Nat × AH)} {a : Act} {w : World} {N : Nat} {L : AG}
variable {W : World} {G : GH} {H : List Itm}
variable {d : Nat} {t : TypeId} {pos : String} {af : Array Edge}
theorem A3 (j:Nat)(Mid:AH)(h:wpList P ops (Qk Mid x r) (l.take j) a w)(k:∀a w,Mid a w→wpList P ops (Qk n x r) (l.drop j) a w):wpList P ops (Qk n x r) l a w:=by
 induction l generalizing j a w with
 |nil=>
  have h':Mid a w:=by rw[List.take_nil] at h;exact h
  have:=k a w h'
  rwa [List.drop_nil] at this
 |cons o l ih=>
  cases j with
  |zero=>exact k a w h
  |succ j=>
   simp only[List.take_succ_cons,List.drop_succ_cons] at h k
   unfold wpList at h ⊢
   have mono:∀a w,wpList P ops (Qk Mid x r) (l.take j) a w→wpList P ops (Qk n x r) l a w:=λa w h=>ih j h k
   split at h
   ·rename_i hw
    rw[if_pos hw]
    rcases h with h|⟨h1,h2⟩
    ·left
     unfold Oper.wp at*
     generalize (execOp a.eval o).run P w=res at*
     cases res with
     |ok nx w'=>
      cases nx<;>simp only[Oper.upon] at h ⊢<;>
       first
        |exact mono _ _ h
        |exact Calls.mono h (λe w'' he=>by
          cases e
          ·exact mono _ _ he
          ·exact he
          ·obtain⟨_,_,q⟩:=he;exact q.elim)
        |exact Rows.mono h (λ_ _ he=>mono _ _ he)
     |halt hh w'=>cases hh<;>simp only[Oper.upon] at h ⊢<;>exact h
    ·obtain⟨_,_,q⟩:=h2
     exact q.elim
   ·rename_i hw
    rw[if_neg hw]
    exact mono _ _ h
theorem l_res {g:FuncId}{args:List Operand}{tys:Array TypeId}{vs:List Value}{Q:GH→List Itm→Value→Prop}(f:Fr a N L)
  (hN:Nat.blt d N=true) (hargs:evalAll L args=some vs) (hcall:∀(ars:Array Value) (w:World),(callFunc g ars).run P w= .ok (.enter g ars) w)
  (hc:Calls P g vs.toArray w (Res W G H Q))
  (k:∀v G' Ho w',GLe G G'→Mem W G' w' (Ho++H)→Q G' Ho v→∀a',Fr a' N ((d,v)::L)→wpList P ops (Qk n x r) rest a' w'):
  wpList P ops (Qk n x r) (⟨some d,.call {callee:= .value (.func g),args:=args.toArray,argTypes:=tys},t,pos,af,none⟩::rest) a w:=
 l_call (R:=λv w'=>∃G' Ho,GLe G G'∧Mem W G' w' (Ho++H)∧Q G' Ho v) f hN hargs hcall hc (λv w' ⟨G',Ho,h1,h2,h3⟩=>k v G' Ho w' h1 h2 h3)
theorem B8 {u:TypeId}{xo:Operand}{v:Value}{cs:List Value}(m:Mem W G w H)(f:Fr a N L)(hN:Nat.blt d N=true)(hx:Aq L xo=some v)(hv:v.cells=cs.toArray)
  (k:∀b w' a',Mem W G w' (.box b u cs::H)→Fr a' N ((d,.pointer (some ⟨b,0,none⟩))::L)→wpList P ops (Qk n x r) rest a' w'):
  wpList P ops (Qk n x r) (⟨some d,.box u xo,t,pos,af,none⟩::rest) a w:=
 Bp f rfl rfl hN (r_box (f.eval hx)) (λa' f'=>k w.heap.size _ a' (by rw[hv];exact m.alloc u cs) f')
theorem Bg {u:TypeId}{z:Value}{cs:List Value}(hz:∀w,(zeroValue u).run P w= .ok z w)(m:Mem W G w H)(f:Fr a N L)(hN:Nat.blt d N=true)(hv:z.cells=cs.toArray)
  (k:∀b w' a',Mem W G w' (.box b u cs::H)→Fr a' N ((d,.pointer (some ⟨b,0,none⟩))::L)→wpList P ops (Qk n x r) rest a' w'):
  wpList P ops (Qk n x r) (⟨some d,.alloc u,t,pos,af,none⟩::rest) a w:=
 Bp f rfl rfl hN (r_alloc hz) (λa' f'=>k w.heap.size _ a' (by rw[hv];exact m.alloc u cs) f')
theorem A4 (j i:Nat){b:Nat}{tt:TypeId}{cs:List Value}{u:TypeId}{xo:Operand}{c:Value}(m:Mem W G w H)(hp:Br P u)(f:Fr a N L)(hN:Nat.blt d N=true)
  (hx:Aq L xo=some (.pointer (some ⟨b,i,none⟩))) (hj:H[j]? =some (.box b tt cs)) (hc:cs[i]? =some c)
  (k:∀a',Fr a' N ((d,c)::L)→wpList P ops (Qk n x r) rest a' w):
  wpList P ops (Qk n x r) (⟨some d,.load u xo,t,pos,af,none⟩::rest) a w:=
 Bp f rfl rfl hN (CL (f.eval hx) hp (m.boxCell j hj hc)) k
theorem AR (j i:Nat){b nn:Nat}{tt:TypeId}{cs ds:List Value}{u:TypeId}{xo:Operand}(m:Mem W G w H)(hp:Agg P u nn)(f:Fr a N L)(hN:Nat.blt d N=true)
  (hx:Aq L xo=some (.pointer (some ⟨b,i,none⟩))) (hj:H[j]? =some (.box b tt cs)) (hds:(cs.drop i).take nn=ds) (hl:ds.length=nn)
  (k:∀a',Fr a' N ((d,.agg ds.toArray)::L)→wpList P ops (Qk n x r) rest a' w):
  wpList P ops (Qk n x r) (⟨some d,.load u xo,t,pos,af,none⟩::rest) a w:=by
 refine Bp f rfl rfl hN (r_loadAgg (f.eval hx) hp hl (λj' v hv=> ?_)) k
 rw[Bi]
 refine m.boxCell j hj ?_
 rw[←hds,List.getElem?_take] at hv
 split at hv
 ·rwa [List.getElem?_drop] at hv
 ·cases hv
theorem l_fieldAddr {b i:Nat}{s fi:Nat}{fs:Array Field}{fl:Field}{sz:Nat}{xo:Operand}(hs:P.underlying s=some (.struct fs))(hf:fs[fi]? =some fl)
  (hz:∀w,(sizeOf fl.type).run P w= .ok sz w) (hz0:sz≠0) (f:Fr a N L) (hN:Nat.blt d N=true) (hx:Aq L xo=some (.pointer (some ⟨b,i,none⟩)))
  (k:∀a',Fr a' N ((d,.pointer (some ⟨b,i+fl.offset,none⟩))::L)→wpList P ops (Qk n x r) rest a' w):
  wpList P ops (Qk n x r) (⟨some d,.fieldAddr s xo fi,t,pos,af,none⟩::rest) a w:=by
 refine Bp f rfl rfl hN (Dp (f.eval hx) hs hf hz hz0) ?_
 rw[Bi]
 exact k
theorem Au (j i:Nat){b:Nat}{tt:TypeId}{cs ds cs':List Value}{u:TypeId}{xo yo:Operand}{v:Value}(m:Mem W G w H)(hz:∀w,(sizeOf u).run P w= .ok ds.length w)(f:Fr a N L)
  (hx:Aq L xo=some (.pointer (some ⟨b,i,none⟩))) (hy:Aq L yo=some v) (hv:v.cells=ds.toArray) (h1:∀c∈ds,c.oneCell'=true) (hj:H[j]? =some (.box b tt cs))
  (hl:i+ds.length≤cs.length) (hcs:cs.take i++ds++cs.drop (i+ds.length)=cs')
  (k:∀w',Mem W G w' (H.set j (.box b tt cs'))→wpList P ops (Qk n x r) rest a w'):
  wpList P ops (Qk n x r) (⟨none,.store u xo yo,t,pos,af,none⟩::rest) a w:=by
 have hg:w.heap[b]? =some (.cells cs.toArray tt (0,0)):=m.items j _ hj
 have hsz:v.cells.size=ds.length:=by rw[hv];simp
 have hr:=r_store (P:=P) (ρ:=a.eval) (w:=w) (d:=none) (t:=t) (pos:=pos) (af:=af) (gd:=none) (u:=u) (off:=i) (f.eval hx) (f.eval hy) (by rw[hsz];exact hz) hg (by rw[hsz];simpa using hl) (by rw[hv];simpa using h1)
 refine l_void rfl rfl hr ?_
 rw[hsz,hv]
 simp only[]
 rw[hcs]
 exact k _ (m.boxStore j hj cs')
theorem Ow.at' {α:Type}{R:Rep α}{tt:TypeId}{G':GH}{it:Itm}{v:Value}{xs:List α}(h:Ow R tt G it v xs)(m:Mem W G' w H){j:Nat}(hj:H[j]? =some it){i:Int}{y:α}(hi:idx xs i=some y):
  ∃b c cur vs,it= .row v tt 1 xs.length vs∧v= .slice (some ⟨b,0,none⟩) xs.length c∧0≤i∧i<xs.length∧w.heap[b]? =some (.cells cur tt (0,0))∧xs.length≤c∧c≤maxLen∧cur.size=c∧cur.toList.take xs.length=vs∧All2 (R G) vs xs:=by
 obtain⟨h0,h1,h2⟩:=BL hi
 obtain⟨vs,rfl,hA⟩:=h
 have ok:w.ownsRow 0 tt 1 v xs.length vs:=m.items j _ hj
 rcases ok.2 with⟨_,e2⟩|⟨g,cap,cur,e1,_,eh,e2,e3,e4,e5⟩
 ·omega
 ·exact⟨g,cap,cur,vs,rfl,e1,h0,h1,eh,e2,e3,by simpa using e4,by simpa using e5,hA⟩
def Cr (v p:Value)(i:Int):Prop:=∃b m c,v= .slice (some ⟨b,0,none⟩) m c∧p= .pointer (some ⟨b,i.toNat,none⟩)
theorem B4 {α:Type}{R:Rep α}{tt:TypeId}{it:Itm}{v:Value}{xs:List α}{u e:Nat}{xo:Operand}(j:Nat)(m:Mem W G w H)(h:Ow R tt G it v xs)(hj:H[j]? =some it)
  (hu:P.underlying u=some (.slice e)) (f:Fr a N L) (hN:Nat.blt d N=true) (hx:Aq L xo=some v)
  (q:∀a',Fr a' N ((d,.int .i64 (xs.length:Int))::L)→wpList P ops (Qk n x r) rest a' w):
  wpList P ops (Qk n x r) (⟨some d,.call {callee:= .builtin .len,args:= #[xo],argTypes:= #[u]},t,pos,af,none⟩::rest) a w:=by
 obtain⟨b,c,rfl,_⟩:=h.len (m.front j hj)
 exact Bp f rfl rfl hN (r_len (f.eval hx) hu) q
theorem B2 {α:Type}{R:Rep α}{tt:TypeId}{it:Itm}{v:Value}{xs:List α}{u e bytes:Nat}{z:Value}{xo io:Operand}{k:IntKind}{i:Int}{y:α}(j:Nat)(m:Mem W G w H)(h:Ow R tt G it v xs)(hj:H[j]? =some it)
  (hu:SlT P u e 1 bytes z) (f:Fr a N L) (hN:Nat.blt d N=true) (hx:Aq L xo=some v) (hi:Aq L io=some (.int k i)) (he:idx xs i=some y)
  (q:∀p a',Cr v p i→Fr a' N ((d,p)::L)→wpList P ops (Qk n x r) rest a' w):
  wpList P ops (Qk n x r) (⟨some d,.indexAddr u xo io,t,pos,af,none⟩::rest) a w:=by
 obtain⟨b,c,cur,vs,rfl,rfl,h0,h1,hg,_⟩:=h.at' m hj he
 refine Bp f rfl rfl hN (Ch (f.eval hx) (f.eval hi) hu h0 h1) λa' f'=> ?_
 exact q _ a' ⟨b,_,c,rfl,by rw[Bi,Nat.mul_one,Nat.zero_add]⟩ f'
theorem BR {α:Type}{R:Rep α}{tt:TypeId}{it:Itm}{v p:Value}{xs:List α}{u:Nat}{xo:Operand}{i:Int}{y:α}(j:Nat)(m:Mem W G w H)(h:Ow R tt G it v xs)(hj:H[j]? =some it)
  (hp:Br P u) (f:Fr a N L) (hN:Nat.blt d N=true) (hx:Aq L xo=some p) (ha:Cr v p i) (he:idx xs i=some y)
  (q:∀c a',R G c y→Fr a' N ((d,c)::L)→wpList P ops (Qk n x r) rest a' w):
  wpList P ops (Qk n x r) (⟨some d,.load u xo,t,pos,af,none⟩::rest) a w:=by
 obtain⟨b,mm,c,e1,rfl⟩:=ha
 obtain⟨b',c',cur,vs,rfl,e2,h0,h1,hg,h2,h3,h4,h5,hA⟩:=h.at' m hj he
 rw[e2] at e1
 cases e1
 obtain⟨_,_,h6⟩:=BL he
 obtain⟨cv,h7,hR⟩:=hA.get h6
 refine Bp f rfl rfl hN (CL (f.eval hx) hp (c:=cv) ?_) (λa' f'=>q cv a' hR f')
 rw[←h5,List.getElem?_take] at h7
 split at h7
 ·simp only[World.cell?,hg];simpa using h7
 ·cases h7
theorem BW {α:Type}{R:Rep α}{tt:TypeId}{it:Itm}{v p c:Value}{xs:List α}{u:Nat}{xo yo:Operand}{i:Int}{y y':α}(j:Nat)(m:Mem W G w H)(h:Ow R tt G it v xs)(hj:H[j]? =some it)
  (hz:∀w,(sizeOf u).run P w= .ok 1 w) (f:Fr a N L) (hx:Aq L xo=some p) (hy:Aq L yo=some c) (ha:Cr v p i) (he:idx xs i=some y) (hc:c.cells= #[c]) (h1c:c.oneCell'=true) (hR:R G c y')
  (q:∀it' w',Mem W G w' (H.set j it')→Ow R tt G it' v (xs.set i.toNat y')→wpList P ops (Qk n x r) rest a w'):
  wpList P ops (Qk n x r) (⟨none,.store u xo yo,t,pos,af,none⟩::rest) a w:=by
 obtain⟨b,mm,cc,e1,rfl⟩:=ha
 obtain⟨b',c',cur,vs,rfl,e2,h0,h1,hg,h2,h3,h4,h5,hA⟩:=h.at' m hj he
 rw[e2] at e1
 cases e1
 have hlt:i.toNat<xs.length:=by omega
 have hr:=r_store (P:=P) (ρ:=a.eval) (w:=w) (d:=none) (t:=t) (pos:=pos) (af:=af) (gd:=none) (u:=u) (off:=i.toNat) (f.eval hx) (f.eval hy) (by rw[hc];exact hz) hg (by rw[hc];simp;omega) (by rw[hc];simpa using h1c)
 refine l_void rfl rfl hr ?_
 rw[hc]
 simp only[List.size_toArray,List.length_cons,List.length_nil,Nat.zero_add]
 have hset:cur.toList.take i.toNat++[c]++cur.toList.drop (i.toNat+1)=cur.toList.set i.toNat c:=by
  rw[List.set_eq_take_append_cons_drop,if_pos (by simp;omega)];simp
 rw[hset]
 refine q (.row v tt 1 xs.length (vs.set i.toNat c)) _ (m.changeAt j hj rfl rfl rfl (λz _ hz'=>setRow_other w b z _ (by simpa [Itm.foot,e2,Value.ownBlock] using hz')) ⟨by simp[←h5];omega,.inr ⟨b,cc,_,e2,Nat.zero_le _,setRow_heap w b cur _ tt _ hg,h2,h3,by simp[h4],?_⟩⟩ (λz hz'=> .inl hz')) ⟨_,by simp,hA.set _ hR⟩
 simp only[Nat.mul_one]
 rw[←h5,List.take_set]
def Src (w:World)(v:Value)(n:Nat)(vs:List Value):Prop:=
 vs.length=n∧((v= .slice none 0 0∧n=0)∨∃a c,v= .slice (some a) n c∧(∀(j:Nat) u,vs[j]? =some u→w.cell? (a.add j)=some u))
def Ay {α:Type}(xs ys:List α):Option (List α):=if xs.length+ys.length≤4294967296 then some (xs++ys) else none
theorem run_appended {α:Type}{R:Rep α}{tt ty u bytes:Nat}{z:Value}{it:Itm}{v s:Value}{xs ys zs:List α}(j:Nat)(m:Mem W G w H)(h:Ow R tt G it v xs)(hj:H[j]? =some it)
  (hu:SlT P u tt 1 bytes z) (hzc:z.cells.size=1) (hb:bytes≤32768) {vs:List Value} (hs:Src w s ys.length vs) (h1:∀c∈vs,c.oneCell'=true) (hA:All2 (R G) vs ys) (hz:Ay xs ys=some zs):
  ∃it' v' w',(Builtin.append_ #[u,u] ty #[v,s]).run P w= .ok v' w'∧Mem W G w' (H.set j it')∧Ow R tt G it' v' zs:=by
 unfold Ay at hz
 split at hz
 ·rename_i hle
  cases hz
  obtain⟨vs0,rfl,hA0⟩:=h
  obtain⟨ti,hi1,hi2,hi3,hi4⟩:=hu.info
  have ok:w.ownsRow 0 tt 1 v xs.length vs0:=m.items j _ hj
  rcases hs.2 with⟨rfl,h0⟩|⟨ad,c,rfl,hcells⟩
  ·have hys:ys=[]:=List.eq_nil_of_length_eq_zero h0
   subst hys
   have hr:=run_append_owned_none (P:=P) (w:=w) 0 u ty tt ti 1 hu.und hi1 v xs.length vs0 ok
   refine⟨.row v tt 1 (xs++[]).length vs0,v,w,hr,?_,vs0,rfl,by simpa using hA0⟩
   have:H.set j (.row v tt 1 (xs++[]).length vs0)=H:=by
    apply List.ext_getElem?
    intro k
    rw[List.getElem?_set]
    split
    ·rename_i e;subst e
     have hl:=(List.getElem?_eq_some_iff.1 hj).1
     simp[hl] at hj ⊢
     exact hj.symm
    ·rfl
   simp only[List.append_nil] at this ⊢
   rw[this];exact m
  ·have hbytes:(xs.length+ys.length)*bytes≤140737488355328:=by
    have:(xs.length+ys.length)*bytes≤4294967296*32768:=Nat.mul_le_mul hle hb
    omega
   have hnews:∀(k:Nat) q,vs[k]? =some q→w.cell? (ad.add k)=some q:=λk q hk=>hcells k q hk
   have hl0:vs0.length=xs.length:=hA0.1
   have hlv:vs.length=ys.length:=hs.1
   have fresh:∀(old:Nat),old<xs.length+ys.length→
     Mem W G (w.drew.alloc (.cells (vs0.toArray++vs.toArray++Builtin.zeroCells z.cells (grownCap w (xs.length+ys.length) old tt-(xs.length+ys.length))) tt))
      (H.set j (.row (.slice (some ⟨w.heap.size,0,none⟩) (xs.length+ys.length) (grownCap w (xs.length+ys.length) old tt)) tt 1 (xs++ys).length (vs0++vs))):=by
    intro old hold
    have hge:=grownCap_ge w (xs.length+ys.length) old tt
    have hcm:grownCap w (xs.length+ys.length) old tt≤maxLen:=grownCap_le_maxLen w _ old tt (by simp only[maxLen];omega)
    refine m.changeAt j hj rfl rfl rfl (λq hq _=>by first|exact heap_alloc_old w.drew _ q hq|exact heap_alloc_old w.drew _ hq) ⟨by simp[hl0,hlv],.inr ⟨w.heap.size,_,_,by simp,Nat.zero_le _,heap_alloc_new w.drew _,by simpa using hge,hcm,?_,?_⟩⟩ (λq hq=> .inr ?_)
    ·simp only[Array.size_append,List.size_toArray,size_zeroCells,hzc,hl0,hlv,Nat.mul_one]
     omega
    ·simp only[Array.toList_append,List.append_assoc,List.length_append,Nat.mul_one]
     rw[←List.append_assoc,←hl0,←hlv,←List.length_append]
     exact List.take_left
    ·simp[Itm.foot,Value.ownBlock] at hq;omega
   rcases ok.2 with⟨rfl,e0⟩|⟨g,cap,cur,e1,_,eh,e2,e3,e4,e5⟩
   ·have hxs:xs=[]:=List.eq_nil_of_length_eq_zero e0
    subst hxs
    have hvs0:vs0=[]:=List.eq_nil_of_length_eq_zero hl0
    subst hvs0
    by_cases hy0:ys.length=0
    ·have hys:ys=[]:=List.eq_nil_of_length_eq_zero hy0
     subst hys
     have hvs:vs=[]:=List.eq_nil_of_length_eq_zero hlv
     subst hvs
     refine⟨.row (.slice none 0 0) tt 1 ([]++[]:List α).length [],.slice none 0 0,w,?_,?_,[],rfl,All2.nil _⟩
     ·simp[Builtin.append_,run_underlying hu.und,sizeOf,typeInfo,hi1,Builtin.lenOf,Builtin.firstCells,loadCells,loadCellsFrom]
     ·have:H.set j (.row (.slice none 0 0) tt 1 ([]++[]:List α).length [])=H:=by
       apply List.ext_getElem?
       intro k
       rw[List.getElem?_set]
       split
       ·rename_i e;subst e
        have hl:=(List.getElem?_eq_some_iff.1 hj).1
        simp[hl] at hj ⊢
        exact hj.symm
       ·rfl
      rw[this];exact m
    ·have hr:=run_append_nil (P:=P) w u ty tt ti z hu.und hi1 hi4 ad ys.length c vs (by rw[hlv,hi2,Nat.mul_one]) hnews (by omega) (by omega) (by
      rw[hi3]
      simp only[List.length_nil,Nat.zero_add] at hbytes;omega)
     have hfr:=fresh 0 (by simp;omega)
     simp only[List.length_nil,Nat.zero_add,List.nil_append,Array.empty_append] at hfr
     refine⟨_,_,_,hr,by simpa using hfr,vs,by simp,by simpa using hA⟩
   ·subst e1
    by_cases hroom:xs.length+ys.length≤cap
    ·have hr:=run_append_room (P:=P) w u ty tt ti hu.und hi1 g xs.length cap cur eh ad ys.length c vs (by rw[hlv,hi2,Nat.mul_one]) hnews h1 hroom (by rw[hi2,hlv];omega)
     refine⟨.row (.slice (some ⟨g,0,none⟩) (xs.length+ys.length) cap) tt 1 (xs++ys).length (vs0++vs),_,_,hr,m.changeAt j hj rfl rfl rfl (λq _ hq=>setRow_other w g q _ (λe=>hq (by simp[Itm.foot,Value.ownBlock,e])))
      ⟨by simp[hl0,hlv],.inr ⟨g,cap,_,by simp,Nat.zero_le _,setRow_heap w g cur _ tt _ eh,by simpa using hroom,e3,?_,?_⟩⟩ (λq hq=> .inl (by simpa [Itm.foot,Value.ownBlock] using hq)),_,rfl,hA0.append hA⟩
     ·simp only[List.size_toArray,List.length_append,List.length_take,List.length_drop,Array.length_toList,hi2]
      omega
     ·simp only[hi2,Nat.mul_one] at e5 ⊢
      rw[e5,List.length_append,←hl0,←hlv,←List.length_append]
      exact List.take_left
    ·have holds:∀(k:Nat) q,vs0[k]? =some q→w.cell? ((⟨g,0,none⟩:Addr).add k)=some q:=World.ownsRow.cells ok (g:=g) rfl
     have hr:=run_append_grow (P:=P) w u ty tt ti z hu.und hi1 hi4 ⟨g,0,none⟩ xs.length cap vs0 (by rw[hl0,hi2,Nat.mul_one]) holds ad ys.length c vs (by rw[hlv,hi2,Nat.mul_one]) hnews (by omega) (by omega) (by rw[hi3];exact growslice_fits (by omega) hbytes)
     exact⟨_,_,_,hr,fresh cap (by omega),_,rfl,hA0.append hA⟩
 ·cases hz
end
end Go.Sx

namespace Go.Sx
def RStr :Rep ByteArray:=λ_ v s=>v= .string s
theorem RStr.mono :Cd RStr:=λ_ _ _ _ _ h=>h
def One {α:Type}(R:Rep α):Prop:=∀G v x,R G v x→v.oneCell'=true∧v.cells= #[v]
theorem RI.one (k:IntKind):One (RI k):=λ_ v x h=>by cases h;exact⟨rfl,rfl⟩
theorem RStr.one :One RStr:=λ_ v x h=>by cases h;exact⟨rfl,rfl⟩
theorem RSl.one {α:Type}(R:Rep α):One (RSl R):=λ_ v x h=>by obtain⟨a,c,rfl,_⟩:=h.len;exact⟨rfl,rfl⟩
theorem RSl.cells {α:Type}{R:Rep α}{G:GH}{v:Value}{xs:List α}(h:RSl R G v xs):v.cells= #[v]:=(RSl.one R _ _ _ h).2
theorem RSl.one1 {α:Type}{R:Rep α}{G:GH}{v:Value}{xs:List α}(h:RSl R G v xs):v.oneCell'=true:=(RSl.one R _ _ _ h).1
theorem Ow.cells {α:Type}{R:Rep α}{t:TypeId}{W w:World}{G:GH}{it:Itm}{H:List Itm}{v:Value}{xs:List α}(j:Nat)(m:Mem W G w H)(h:Ow R t G it v xs)(hj:H[j]? =some it):v.cells= #[v]:=by
 obtain⟨a,c,rfl,_⟩:=h.len (m.front j hj);rfl
theorem Ow.one1 {α:Type}{R:Rep α}{t:TypeId}{W w:World}{G:GH}{it:Itm}{H:List Itm}{v:Value}{xs:List α}(j:Nat)(m:Mem W G w H)(h:Ow R t G it v xs)(hj:H[j]? =some it):v.oneCell'=true:=by
 obtain⟨a,c,rfl,_⟩:=h.len (m.front j hj);rfl
theorem All2.ones {α:Type}{R:Rep α}(hO:One R){G:GH}{vs:List Value}{xs:List α}(h:All2 (R G) vs xs):∀c∈vs,c.oneCell'=true:=by
 intro c hc
 obtain⟨i,hi,rfl⟩:=List.mem_iff_getElem.1 hc
 have hx:i<xs.length:=by rw[←h.1];exact hi
 exact(hO _ _ _ (h.2 i vs[i] xs[i] (by simp[hi]) (by simp[hx]))).1
theorem RSl.src {α:Type}{R:Rep α}{W w:World}{G:GH}{H:List Itm}{v:Value}{xs:List α}(h:RSl R G v xs)(m:Mem W G w H):∃vs,Src w v xs.length vs∧All2 (R G) vs xs:=by
 obtain⟨vs,hA,h2⟩:=h
 refine⟨vs,⟨hA.1,?_⟩,hA⟩
 rcases h2 with⟨rfl,rfl⟩|⟨⟨b,off,sp⟩,cap,rfl,_,_,hc⟩
 ·exact .inl ⟨rfl,rfl⟩
 ·exact .inr ⟨_,cap,rfl,λj u hu=>by
   obtain⟨rfl,h7⟩:=hc j u hu
   rw[Bi];exact h7.get m⟩
theorem Ow.src {α:Type}{R:Rep α}{tt:TypeId}{W w:World}{G:GH}{H:List Itm}{it:Itm}{v:Value}{xs:List α}(h:Ow R tt G it v xs)(m:Mem W G w H){j:Nat}(hj:H[j]? =some it):∃vs,Src w v xs.length vs∧All2 (R G) vs xs:=by
 obtain⟨vs,rfl,hA⟩:=h
 refine⟨vs,⟨hA.1,?_⟩,hA⟩
 have ok:w.ownsRow 0 tt 1 v xs.length vs:=m.items j _ hj
 rcases ok.2 with⟨e1,e2⟩|⟨g,cap,cur,e1,_,eh,e2,e3,e4,e5⟩
 ·exact .inl ⟨e1,e2⟩
 ·refine .inr ⟨⟨g,0,none⟩,cap,e1,λk u hu=> ?_⟩
  rw[Bi]
  rw[←e5,List.getElem?_take] at hu
  split at hu
  ·simp only[World.cell?,eh,Nat.zero_add];simpa using hu
  ·cases hu
section
variable {P : Program} {ops : Array Oper} {rest l : List Oper} {n r : AH} {x : List (Nat × AH)} {a : Act} {w : World} {N : Nat} {L : AG}
variable {W : World} {G : GH} {H : List Itm}
variable {d : Nat} {t : TypeId} {pos : String} {af : Array Edge}
theorem r_append {ρ:Operand→Value}{s xo:Operand}{u:TypeId}{v y v':Value}{w':World}{dd:Option Tmp}{gd:Option (Nat×Bool)}(hs:ρ s=v)(hx:ρ xo=y)(h:(Builtin.append_ #[u,u] t #[v,y]).run P w= .ok v' w'):
  (execOp ρ ⟨dd,.call {callee:= .builtin .append,args:= #[s,xo],argTypes:= #[u,u]},t,pos,af,gd⟩).run P w= .ok (.value v') w':=by
 simp[execOp,resolve,invoke,builtin,hs,hx,h]
theorem Bw {α:Type}{R:Rep α}(hO:One R){tt u bytes:Nat}{z:Value}{it:Itm}{v y:Value}{xs ys zs:List α}{s xo:Operand}(j:Nat)(m:Mem W G w H)(h:Ow R tt G it v xs)(hj:H[j]? =some it)
  (hu:SlT P u tt 1 bytes z) (hzc:z.cells.size=1) (hb:bytes≤32768) (f:Fr a N L) (hN:Nat.blt d N=true) (hs:Aq L s=some v) (hx:Aq L xo=some y)
  (hsrc:∃vs,Src w y ys.length vs∧All2 (R G) vs ys) (hz:Ay xs ys=some zs)
  (k:∀it' v' w' a',Mem W G w' (H.set j it')→Ow R tt G it' v' zs→Fr a' N ((d,v')::L)→wpList P ops (Qk n x r) rest a' w'):
  wpList P ops (Qk n x r) (⟨some d,.call {callee:= .builtin .append,args:= #[s,xo],argTypes:= #[u,u]},t,pos,af,none⟩::rest) a w:=by
 obtain⟨vs,h1,h2⟩:=hsrc
 obtain⟨it',v',w',hr,h3,h4⟩:=run_appended (P:=P) (ty:=t) j m h hj hu hzc hb h1 (h2.ones hO) h2 hz
 exact Bp f rfl rfl hN (r_append (f.eval hs) (f.eval hx) hr) (λa' f'=>k it' v' w' a' h3 h4 f')
def CG {α:Type}(z:α)(n c:Int):Option (List α):=if 0≤n∧n≤c∧c≤4294967296 then some (List.replicate n.toNat z) else none
theorem r_make {ρ:Operand→Value}{lo co:Operand}{u:TypeId}{v':Value}{v1 v2:Value}{w':World}{dd:Option Tmp}{gd:Option (Nat×Bool)}(hs:ρ lo=v1)(hx:ρ co=v2)(h:(Instr.makeSlice u v1 v2).run P w= .ok v' w'):
  (execOp ρ ⟨dd,.makeSlice u lo co,t,pos,af,gd⟩).run P w= .ok (.value v') w':=by
 simp[execOp,hs,hx,h]
theorem l_make {α:Type}{R:Rep α}{tt u bytes:Nat}{z:Value}{zz:α}{k1 k2:IntKind}{nn cc:Int}{zs:List α}{lo co:Operand}(m:Mem W G w H)
  (hu:SlT P u tt 1 bytes z) (hzc:z.cells= #[z]) (hb:bytes≤32768) (hR:R G z zz) (f:Fr a N L) (hN:Nat.blt d N=true) (hs:Aq L lo=some (.int k1 nn)) (hx:Aq L co=some (.int k2 cc))
  (hz:CG zz nn cc=some zs)
  (k:∀it v w' a',Mem W G w' (it::H)→Ow R tt G it v zs→Fr a' N ((d,v)::L)→wpList P ops (Qk n x r) rest a' w'):
  wpList P ops (Qk n x r) (⟨some d,.makeSlice u lo co,t,pos,af,none⟩::rest) a w:=by
 unfold CG at hz
 split at hz
 ·rename_i hc
  obtain⟨h0,h1,h2⟩:=hc
  cases hz
  obtain⟨ti,hi1,hi2,hi3,hi4⟩:=hu.info
  have hr:=run_make (P:=P) w u tt ti z hu.und hi1 hi4 k1 k2 nn cc h0 h1 (by
   rw[hi3]
   have:(bytes:Int)*cc≤32768*4294967296:=Int.mul_le_mul (by omega) h2 (by omega) (by omega)
   omega) (by omega)
  have hcells:madeCells z.cells (cc.toNat*ti.size)=(List.replicate cc.toNat z).toArray:=by
   rw[hzc,hi2,Nat.mul_one]
   apply Array.ext
   ·simp[madeCells]
   ·intro i h1 h2
    simp[madeCells,Nat.mod_one]
  rw[hcells] at hr
  refine Bp f rfl rfl hN (r_make (f.eval hs) (f.eval hx) hr) (λa' f'=>k (.row (.slice (some ⟨w.heap.size,0,none⟩) nn.toNat cc.toNat) tt 1 (List.replicate nn.toNat zz).length (List.replicate nn.toNat z)) _ _ a' ?_ ⟨_,rfl,All2.replicate hR _⟩ f')
  refine m.add rfl rfl rfl (λq hq=>by first|exact heap_alloc_old w _ q hq|exact heap_alloc_old w _ hq) ⟨by simp,.inr ⟨w.heap.size,cc.toNat,_,by simp,Nat.zero_le _,heap_alloc_new w _,by simp;omega,by simp only[maxLen];omega,by simp,?_⟩⟩ (λq hq=>by simp[Itm.foot,Value.ownBlock] at hq;omega)
  simp
  omega
 ·cases hz
def nums (k:Nat):List Value→List (Nat×Value)
 |[]=>[]
 |v::r=>(k,v)::nums (k+1) r
theorem fill_nums (vs:List Value)(h1:∀c∈vs,c.cells= #[c]):∀(k:Nat) (cells:Array Value),cells.size=k+vs.length→
  Instr.fill (λi=>some (i*1,1)) cells (nums k vs)=some (cells.toList.take k++vs).toArray:=by
 induction vs with
 |nil=>
  intro k cells hk
  simp only[nums,Instr.fill,List.append_nil]
  rw[List.take_of_length_le (by simp at hk ⊢;omega)]
 |cons v r ih=>
  intro k cells hk
  have hv:=h1 v (by simp)
  simp only[List.length_cons] at hk
  have hfold:v.cells.zipIdx.foldl (λcs (c,j)=>cs.setIfInBounds (k*1+j) c) cells=cells.setIfInBounds k v:=by
   rw[hv];simp
  have hstep:Instr.fill (λi=>some (i*1,1)) cells (nums k (v::r))=Instr.fill (λi=>some (i*1,1)) (cells.setIfInBounds k v) (nums (k+1) r):=by
   rw[nums,Instr.fill]
   simp only[]
   rw[if_neg (by rw[hv];simp;omega),hfold]
  rw[hstep,ih (λc hc=>h1 c (by simp[hc])) (k+1) (cells.setIfInBounds k v) (by simp;omega)]
  congr 2
  simp only[Array.toList_setIfInBounds]
  rw[List.take_add_one,List.take_set_of_le (Nat.le_refl _)]
  have hlk:k<cells.size:=by omega
  simp[List.getElem?_set,hlk]
theorem r_slit {ρ:Operand→Value}{u tt bytes nn:Nat}{z:Value}{parts:Array (Nat×Operand)}{vs:List Value}{dd:Option Tmp}{gd:Option (Nat×Bool)}(hu:SlT P u tt 1 bytes z)
  (hp:(parts.map fun(i,x)=>(i,ρ x)).toList=nums 0 vs) (hl:vs.length=nn) (hn:nn≤16777216) (h1:∀c∈vs,c.cells= #[c]):
  (execOp ρ ⟨dd,.buildSlice u nn parts,t,pos,af,gd⟩).run P w= .ok (.value (.slice (some ⟨w.heap.size,0,none⟩) nn nn)) (w.alloc (.cells vs.toArray tt)):=by
 obtain⟨ti,hi1,hi2,hi3,hi4⟩:=hu.info
 subst hl
 have hsz:((Array.range (vs.length*1)).map (λi=>(if vs.length*1=0 then #[] else z.cells)[i%(if vs.length*1=0 then #[] else z.cells).size]!)).size=0+vs.length:=by simp
 have hf:=fill_nums vs h1 0 _ hsz
 have hn':¬(16777216<vs.length):=by omega
 by_cases h0:vs.length=0
 ·have hvs:vs=[]:=List.eq_nil_of_length_eq_zero h0
  subst hvs
  simp only[nums,List.map_eq_nil_iff,Array.toList_map] at hp
  simp[execOp,Instr.buildSlice,run_underlying hu.und,sizeOf,typeInfo,hi1,hi2,hp,Instr.fill,newRow,Array.range_zero']
 ·simp only[h0,Nat.mul_one,if_false,List.take_zero,List.nil_append] at hf
  simp[execOp,Instr.buildSlice,run_underlying hu.und,sizeOf,typeInfo,zeroValue,hi1,hi2,hi4,h0,hn',newRow]
  simp only[Array.toList_map] at hp
  rw[hp,hf]
  rfl
theorem A1 {α:Type}{R:Rep α}(hO:One R){tt u bytes nn:Nat}{z:Value}{xs:List α}{parts:Array (Nat×Operand)}{vs:List Value}(m:Mem W G w H)
  (hu:SlT P u tt 1 bytes z) (f:Fr a N L) (hN:Nat.blt d N=true) (hp:evalAll L (parts.toList.map (·.2))=some vs) (hnum:parts.toList.map (·.1)=List.range nn) (hn:nn≤16777216)
  (hA:All2 (R G) vs xs)
  (k:∀it v w' a',Mem W G w' (it::H)→Ow R tt G it v xs→Fr a' N ((d,v)::L)→wpList P ops (Qk n x r) rest a' w'):
  wpList P ops (Qk n x r) (⟨some d,.buildSlice u nn parts,t,pos,af,none⟩::rest) a w:=by
 have hl:vs.length=nn:=by
  have h1:=congrArg List.length (f.evalAll hp)
  have h2:=congrArg List.length hnum
  simp at h1 h2
  omega
 have hlx:xs.length=nn:=by rw[←hA.1,hl]
 have hparts:∀(k:Nat) (ps:List (Nat×Operand)) (us:List Value),evalAll L (ps.map (·.2))=some us→ps.map (·.1)=List.range' k ps.length→ps.map (fun(i,x)=>(i,a.eval x))=nums k us:=by
  intro k ps
  induction ps generalizing k with
  |nil=>intro us h1 _;simp[evalAll] at h1;subst h1;rfl
  |cons p ps ih=>
   intro us h1 h2
   obtain⟨i,o⟩:=p
   simp only[List.map_cons,evalAll] at h1
   simp only[List.map_cons,List.length_cons,List.range'_succ,List.cons.injEq] at h2
   cases h3:Aq L o with
   |none=>simp[h3] at h1
   |some u0=>
    cases h4:evalAll L (ps.map (·.2)) with
    |none=>simp[h3,h4] at h1
    |some u1=>
     simp[h3,h4] at h1
     subst h1
     simp only[List.map_cons,nums]
     rw[ih (k+1) u1 h4 h2.2,h2.1,f.eval h3]
 have hp':(parts.map fun(i,x)=>(i,a.eval x)).toList=nums 0 vs:=by
  rw[Array.toList_map]
  refine hparts 0 parts.toList vs hp ?_
  have h2:=congrArg List.length hnum
  simp at h2
  rw[hnum,List.range_eq_range',←h2];simp
 have hr:=r_slit (P:=P) (ρ:=a.eval) (w:=w) (t:=t) (pos:=pos) (af:=af) (dd:=some d) (gd:=none) hu hp' hl hn (λc hc=>by
  obtain⟨i,hi,rfl⟩:=List.mem_iff_getElem.1 hc
  have hx:i<xs.length:=by rw[←hA.1];exact hi
  exact(hO _ _ _ (hA.2 i vs[i] xs[i] (by simp[hi]) (by simp[hx]))).2)
 refine Bp f rfl rfl hN hr (λa' f'=>k (.row (.slice (some ⟨w.heap.size,0,none⟩) nn nn) tt 1 xs.length vs) _ _ a' ?_ ⟨vs,rfl,hA⟩ f')
 refine m.add rfl rfl rfl (λq hq=>by first|exact heap_alloc_old w _ q hq|exact heap_alloc_old w _ hq) ⟨by simp[hl,hlx],.inr ⟨w.heap.size,nn,_,by rw[hlx],Nat.zero_le _,heap_alloc_new w _,by omega,by simp only[maxLen];omega,by simp[hl],?_⟩⟩ (λq hq=>by simp[Itm.foot,Value.ownBlock] at hq;omega)
 simp[hlx,←hl]
def BG {α:Type}(xs:List α)(lo hi:Int):Option (List α):=if 0≤lo∧lo≤hi∧hi≤xs.length then some ((xs.take hi.toNat).drop lo.toNat) else none
theorem sliceD_len {α:Type}{xs ys:List α}{lo hi:Int}(h:BG xs lo hi=some ys):0≤lo∧lo≤hi∧hi≤xs.length∧ys=(xs.take hi.toNat).drop lo.toNat∧ys.length=hi.toNat-lo.toNat:=by
 unfold BG at h
 split at h
 ·rename_i hc
  cases h
  refine⟨hc.1,hc.2.1,hc.2.2,rfl,?_⟩
  simp;omega
 ·cases h
theorem r_slice {ρ:Operand→Value}{u e sz bytes:Nat}{z:Value}{xo:Operand}{lo hi:Option Operand}{av:Option Addr}{nn c:Nat}{i j:Int}{dd:Option Tmp}{gd:Option (Nat×Bool)}(hu:SlT P u e sz bytes z)
  (hx:ρ xo= .slice av nn c) (hlo:(lo=none∧i=0)∨∃o k,lo=some o∧ρ o= .int k i) (hhi:(hi=none∧j=nn)∨∃o k,hi=some o∧ρ o= .int k j) (h0:0≤i) (h1:i≤j) (h2:j≤c):
  (execOp ρ ⟨dd,.slice u xo lo hi none,t,pos,af,gd⟩).run P w= .ok (.value (.slice (if c=i.toNat then av else av.map (·.add (i.toNat*sz))) (j.toNat-i.toNat) (c-i.toNat))) w:=by
 obtain⟨ti,hi1,hi2,hi3,hi4⟩:=hu.info
 have hj0:0≤j:=by omega
 have ej:(j.toNat:Int)=j:=by omega
 rcases hlo with⟨rfl,rfl⟩|⟨o,k,rfl,ho⟩
 ·rcases hhi with⟨rfl,rfl⟩|⟨o2,k2,rfl,ho2⟩
  ·simp[execOp,hx,Instr.sliceAt,Instr.slice,run_underlying hu.und,Instr.sliceBounds,sizeOf,typeInfo,hi1,hi2]
  ·simp[execOp,hx,ho2,Instr.sliceAt,Instr.slice,run_underlying hu.und,Instr.sliceBounds,Instr.sliceBound,asIntOf,hj0,h2,sizeOf,typeInfo,hi1,hi2]
 ·rcases hhi with⟨rfl,rfl⟩|⟨o2,k2,rfl,ho2⟩
  ·simp[execOp,hx,ho,Instr.sliceAt,Instr.slice,run_underlying hu.und,Instr.sliceBounds,Instr.sliceBound,asIntOf,h0,h1,sizeOf,typeInfo,hi1,hi2]
  ·simp[execOp,hx,ho,ho2,Instr.sliceAt,Instr.slice,run_underlying hu.und,Instr.sliceBounds,Instr.sliceBound,asIntOf,hj0,h2,h0,h1,ej,sizeOf,typeInfo,hi1,hi2]
theorem RSl.sub {α:Type}{R:Rep α}{G:GH}{av:Option Addr}{c:Nat}{xs ys:List α}{lo hi:Int}(h:RSl R G (.slice av xs.length c) xs)(hs:BG xs lo hi=some ys):
  RSl R G (.slice (if c=lo.toNat then av else av.map (·.add (lo.toNat*1))) (hi.toNat-lo.toNat) (c-lo.toNat)) ys∧hi≤c:=by
 obtain⟨h0,h1,h2,rfl,hl⟩:=sliceD_len hs
 obtain⟨vs,hA,h3⟩:=h
 rcases h3 with⟨e,rfl⟩|⟨⟨b,off,sp⟩,cap,e,h4,h5,h6⟩
 ·cases e
  simp only[List.length_nil] at h2
  have e1:lo=0:=by omega
  have e2:hi=0:=by omega
  subst e1;subst e2
  exact⟨⟨[],by simpa using All2.nil _,.inl ⟨by simp,by simp⟩⟩,by omega⟩
 ·cases e
  refine⟨⟨(vs.take hi.toNat).drop lo.toNat,(hA.take _).drop _,.inr ?_⟩,by omega⟩
  by_cases hc:c=lo.toNat
  ·refine⟨⟨b,off,sp⟩,c-lo.toNat,?_,?_,by omega,λj u hu=> ?_⟩
   ·rw[if_pos hc,hl]
   ·rw[hl];omega
   ·exfalso
    have hj:=(List.getElem?_eq_some_iff.1 hu).1
    simp at hj;omega
  ·refine⟨(⟨b,off,sp⟩:Addr).add (lo.toNat*1),c-lo.toNat,?_,?_,by omega,λj u hu=> ?_⟩
   ·rw[if_neg hc,hl];rfl
   ·rw[hl];omega
   ·rw[List.getElem?_drop,List.getElem?_take] at hu
    split at hu
    ·obtain⟨h7,h8⟩:=h6 _ _ hu
     subst h7
     rw[Bi]
     refine⟨rfl,?_⟩
     rw[Nat.mul_one]
     rwa [Nat.add_assoc]
    ·cases hu
theorem l_slice {α:Type}{R:Rep α}{u e bytes:Nat}{z:Value}{v:Value}{xs ys:List α}{xo:Operand}{lo hi:Option Operand}{i j:Int}(hu:SlT P u e 1 bytes z)(f:Fr a N L)(hN:Nat.blt d N=true)
  (hx:Aq L xo=some v) (h:RSl R G v xs) (hlo:(lo=none∧i=0)∨∃o k,lo=some o∧Aq L o=some (.int k i)) (hhi:(hi=none∧j=xs.length)∨∃o k,hi=some o∧Aq L o=some (.int k j)) (hs:BG xs i j=some ys)
  (k:∀v' a',RSl R G v' ys→Fr a' N ((d,v')::L)→wpList P ops (Qk n x r) rest a' w):
  wpList P ops (Qk n x r) (⟨some d,.slice u xo lo hi none,t,pos,af,none⟩::rest) a w:=by
 obtain⟨av,c,rfl,h1,h2⟩:=h.len
 obtain⟨h3,h4,h5,_,_⟩:=sliceD_len hs
 obtain⟨h6,h7⟩:=h.sub hs
 refine Bp f rfl rfl hN (r_slice (i:=i) (j:=j) hu (f.eval hx) ?_ ?_ h3 h4 h7) (λa' f'=>k _ a' h6 f')
 ·rcases hlo with h|⟨o,kk,h8,h9⟩
  ·exact .inl h
  ·exact .inr ⟨o,kk,h8,f.eval h9⟩
 ·rcases hhi with h|⟨o,kk,h8,h9⟩
  ·exact .inl h
  ·exact .inr ⟨o,kk,h8,f.eval h9⟩
end
end Go.Sx

namespace Go.Sx
def Cl (W:World)(G:GH)(H:List Itm):World→Prop:=λw=>∃G',GLe G G'∧Mem W G' w H
section
variable {P : Program} {ops : Array Oper} {Q : Go.Exit → Act → World → Prop} {T : Act → World → Prop} {W : World}
def AnyB (W:World)(P:Program)(ops:Array Oper)(Q:Go.Exit→Act→World→Prop)(T:Act→World→Prop)(B:List Itm):Nat→GH→List Itm→Array Bool→Act→Prop
 |0,G,E,_,a=>∀w,Cl W G (E++B) w→T a w
 |fuel+1,G,E,listed,a=>∀w,Cl W G (E++B) w→∀i∈Region.ready .any ops listed,
   wpOp P ops Q i (λa' w'=>∃G' E',GLe G G'∧Cl W G' (E'++B) w'∧AnyB W P ops Q T B fuel G' E' (listed.setIfInBounds i true) a') a w
def Yl (W:World)(P:Program)(ops:Array Oper)(G:GH)(H:List Itm)(o:Oper)(v:Value)(a:Act):Prop:=
 (Region.wanted o (yielded ops a.tmps)=true∧∀G' Ho w,GLe G G'→Cl W G' (Ho++H) w→o.quietAt P a (Cl W G' (Ho++H)) w v)∨
 (Region.wanted o (yielded ops a.tmps)=false∧v=undef)
theorem Yl.up {G G':GH}{H:List Itm}{o:Oper}{v:Value}{a:Act}(h:Yl W P ops G H o v a)(hG:GLe G G'):Yl W P ops G' H o v a:=by
 rcases h with⟨h1,h2⟩|h
 ·exact .inl ⟨h1,λG₂ Ho₂ w hG₂ hw=>h2 G₂ Ho₂ w (hG.trans hG₂) hw⟩
 ·exact .inr h
theorem Yl.of_same {G:GH}{H:List Itm}{o:Oper}{v:Value}{a a':Act}(hy:Yl W P ops G H o v a)(he:execOp a'.eval o=execOp a.eval o)
  (hw:Region.wanted o (yielded ops a'.tmps)=Region.wanted o (yielded ops a.tmps)):Yl W P ops G H o v a':=by
 unfold Yl Oper.quietAt at*
 rw[he,hw]
 exact hy
theorem Yl.go {G:GH}{E H:List Itm}{i:Nat}{o:Oper}{v:Value}{a:Act}{w:World}(hi:ops[i]? =some o)(hy:Yl W P ops G H o v a)(hw:Cl W G (E++H) w){K:Act→World→Prop}(h:∀w,Cl W G (E++H) w→K (a.put o.dst v) w):wpOp P ops Q i K a w:=by
 unfold Go.wpOp
 simp only[hi]
 rcases hy with⟨h1,h2⟩|⟨h1,rfl⟩
 ·simp only[h1,if_true]
  left
  have h3:=h2 G E w (GLe.refl G) hw
  unfold Oper.quietAt at h3
  unfold Oper.wp
  generalize (execOp a.eval o).run P w=r at*
  cases r with
  |ok n w'=>
   cases n<;>simp only[Oper.quietUpon] at h3<;>simp only[Oper.upon]
   case value u=>obtain⟨rfl,rfl⟩:=h3;exact h _ hw
   case skip=>obtain⟨rfl,rfl⟩:=h3;exact h _ hw
   case enter f args=>
    obtain⟨rfl,hc⟩:=h3
    exact hc.mono λe w'' ⟨he,hw''⟩=>by subst he;exact h _ hw''
  |halt x w'=>simp only[Oper.quietUpon] at h3
 ·simp only[h1,Bool.false_eq_true,if_false]
  exact h _ hw
theorem Yl.put {G:GH}{H:List Itm}{j:Nat}{oi oj:Oper}{v:Value}(hj:ops[j]? =some oj)(hap:oi.apart ops oj=true)
  (hsi:∀cs b,oi.op≠ .select cs b) (hsj:∀cs b,oj.op≠ .select cs b)
  (hQ:∀c a w,¬Q (.panic c) a w) (hO:¬LetsOut Q) {K:Act→World→Prop} {a:Act} {w:World}
  (hy:Yl W P ops G H oi v a) (h:wpOp P ops Q j K (a.put oi.dst v) w):
  wpOp P ops Q j (λa' w'=>Yl W P ops G H oi v a'∧K (a'.put oi.dst v) w') a w:=by
 obtain⟨h1,h2,h3⟩:=Oper.apart_spec hap
 have keep:∀(a:Act),Yl W P ops G H oi v a→∀u,Yl W P ops G H oi v (a.put oj.dst u):=λa hy u=>
  hy.of_same (execOp_put oi hsi a oj.dst u h3) (wanted_put oi a oj.dst u h3)
 have keepd:∀(a:Act) (df:Deferred),Yl W P ops G H oi v a→Yl W P ops G H oi v {a with defers:=df::a.defers}:=λa df hy=>
  hy.of_same rfl rfl
 have step:∀(u:Value) w',K ((a.put oi.dst v).put oj.dst u) w'→Yl W P ops G H oi v (a.put oj.dst u)∧K ((a.put oj.dst u).put oi.dst v) w':=λu w' hk=>
  ⟨keep a hy u,by rw[←Act.put_comm a v u h2];exact hk⟩
 unfold Go.wpOp at*
 simp only[hj] at*
 rw[wanted_put oj a oi.dst v h1] at h
 split
 ·rename_i hw
  simp only[hw,if_true] at h
  rcases h with h|⟨_,h⟩
  ·left
   unfold Oper.wp at*
   rw[execOp_put oj hsj a oi.dst v h1] at h
   generalize (execOp a.eval oj).run P w=r at*
   cases r with
   |ok n w'=>
    cases n<;>simp only[Oper.upon] at h ⊢
    case value u=>exact step u _ h
    case skip=>exact step undef _ h
    case enter f args=>
     refine h.mono λe w'' he=> ?_
     cases e with
     |returned u=>exact step u _ he
     |panicked c=>exact absurd he (hQ _ _ _)
     |outgrown=>exact absurd he hO
    case row rw args=>exact Rows.mono h λu w'' he=>step u _ he
    case defer df=>
     have e1:({(a.put oi.dst v) with defers:=df::(a.put oi.dst v).defers}:Act)=({a with defers:=df::a.defers}:Act).put oi.dst v:=by
      cases oi.dst<;>rfl
     rw[e1,Act.put_comm _ v undef h2] at h
     exact⟨keep _ (keepd a df hy) undef,h⟩
   |halt x w'=>cases x<;>simp only[Oper.upon] at h ⊢;exact absurd h (hQ _ _ _)
  ·exact absurd h hO
 ·rename_i hw
  simp only[hw] at h
  exact step undef _ h
def unl (listed:Array Bool):Nat→Nat
 |0=>0
 |n+1=>unl listed n+if listed.getD n true then 0 else 1
theorem unl_set {listed:Array Bool}{j:Nat}(h:listed.getD j true=false):∀n,unl (listed.setIfInBounds j true) n+(if j<n then 1 else 0)=unl listed n
 |0=>by simp[unl]
 |n+1=>by
  have ih:=unl_set h n
  have hj:j<listed.size:=by
   rcases Nat.lt_or_ge j listed.size with h1|h1
   ·exact h1
   ·simp[Array.getElem?_eq_none h1] at h
  by_cases e:j=n
  ·subst e
   have e1:(listed.setIfInBounds j true).getD j true=true:=by simp[hj]
   simp only[unl,e1,h,if_true] at ih ⊢
   simp at ih ⊢
   omega
  ·have e1:(listed.setIfInBounds j true).getD n true=listed.getD n true:=getD_set_ne true e
   simp only[unl,e1]
   by_cases h2:j<n
   ·rw[if_pos h2] at ih;rw[if_pos (show j<n+1 from by omega)];omega
   ·rw[if_neg h2] at ih;rw[if_neg (show¬j<n+1 from by omega)];omega
theorem Dj {listed:Array Bool}:∀{n j:Nat},j<n→listed.getD j true=false→0<unl listed n
 |n+1,j,hj,h=>by
  simp only[unl]
  by_cases e:j=n
  ·subst e;simp[h]
  ·have:=Dj (listed:=listed) (n:=n) (j:=j) (by omega) h;omega
theorem unl_get {listed:Array Bool}:∀{n:Nat},0<unl listed n→∃j,j<n∧listed.getD j true=false∧∀k,k<j→listed.getD k true=true
 |n+1,h=>by
  simp only[unl] at h
  by_cases h1:0<unl listed n
  ·obtain⟨j,h2,h3⟩:=unl_get h1;exact⟨j,by omega,h3⟩
  ·have h0:unl listed n=0:=by omega
   refine⟨n,by omega,?_,λk hk=> ?_⟩
   ·cases hg:listed.getD n true with
    |false=>rfl
    |true=>simp[hg] at h;omega
   ·cases hg:listed.getD k true with
    |true=>rfl
    |false=>have:=Dj hk hg;omega
def Cc (ops:Array Oper)(t:Nat):List Nat:=match ops[t]? with
 |none=>[]
 |some o=>(o.after.toList.filter λe=>Region.binds .any e).map (·.on)
def closeD (ops:Array Oper):Nat→List Nat→List Nat
 |0,S=>S
 |t+1,S=>closeD ops t (if S.contains t then S++(Cc ops t).filter (λi=> !S.contains i) else S)
def B0 (ops:Array Oper)(n:Nat)(base:List Nat):Bool:=
 Region.noSelect ops&&decide (n≤ops.size)&&(decide (n=ops.size)||(List.range n).all λi=>base.contains i||(closeD ops n (Cc ops n)).contains i)&&
 (List.range ops.size).all λt=>match ops[t]? with
  |none=>false
  |some o=>(o.after.all λe=> !Region.binds .any e||decide (e.on<t))&&
   (if t≤n then true else o.after.any λe=>Region.binds .any e&&e.on==t-1)
structure Lst (ops:Array Oper)(n:Nat)(base:List Nat)(fuel:Nat)(listed:Array Bool):Prop where
 based:∀i∈base,listed.getD i true=true
 size:listed.size=ops.size
 count:unl listed n=fuel
 tail:∀t,n≤t→t<ops.size→listed.getD t true=false
 closed:∀(j:Nat),j<n→listed.getD j true=true→∀i∈Cc ops j,listed.getD i true=true
theorem mem_depsOf {t i:Nat}{o:Oper}(ho:ops[t]? =some o):i∈Cc ops t↔∃e∈o.after,Region.binds .any e=true∧e.on=i:=by
 simp only[Cc,ho,List.mem_map,List.mem_filter,Array.mem_toList_iff]
 constructor
 ·rintro⟨e,⟨h1,h2⟩,h3⟩;exact⟨e,h1,h2,h3⟩
 ·rintro⟨e,h1,h2,h3⟩;exact⟨e,⟨h1,h2⟩,h3⟩
theorem closeD_all (p:Nat→Prop){ops:Array Oper}:∀(t:Nat) (S:List Nat),(∀i∈S,p i)→(∀j,j<t→p j→∀i∈Cc ops j,p i)→∀i∈closeD ops t S,p i
 |0,S,hS,_=>hS
 |t+1,S,hS,hstep=>by
  unfold closeD
  refine closeD_all p t _ (λi hi=> ?_) (λj hj=>hstep j (by omega))
  split at hi
  ·rename_i hc
   rcases List.mem_append.1 hi with h|h
   ·exact hS i h
   ·exact hstep t (by omega) (hS t (by simpa using hc)) i (List.mem_filter.1 h).1
  ·exact hS i hi
theorem Cb {n:Nat}{base:List Nat}(h:B0 ops n base=true):Region.noSelect ops=true∧n≤ops.size∧∀t o,ops[t]? =some o→(∀e∈o.after,Region.binds .any e=true→e.on<t)∧
  (t=n→∀i,i<n→i∈base∨i∈closeD ops n (Cc ops n))∧(n<t→∃e∈o.after,Region.binds .any e=true∧e.on=t-1):=by
 simp only[B0,Bool.and_eq_true,decide_eq_true_eq,List.all_eq_true,List.mem_range,Bool.or_eq_true] at h
 refine⟨h.1.1.1,h.1.1.2,λt o ho=> ?_⟩
 have ht:=(Array.getElem?_eq_some_iff.1 ho).1
 have h1:=h.2 t ht
 simp only[ho,Bool.and_eq_true] at h1
 refine⟨λe he hb=> ?_,λe i hi=> ?_,λhn=> ?_⟩
 ·have:=Array.all_eq_true_iff_forall_mem.1 h1.1 e he
  simpa [hb] using this
 ·rcases h.1.2 with h2|h2
  ·omega
  ·simpa using h2 i hi
 ·have h2:=h1.2
  rw[if_neg (by omega)] at h2
  obtain⟨e,he,hb⟩:=Array.any_eq_true'.1 h2
  simp only[Bool.and_eq_true,beq_iff_eq] at hb
  exact⟨e,he,hb⟩
theorem CP {listed:Array Bool}{i:Nat}(h:listed.getD i true=false):listed.getD i false=false:=by
 rcases Nat.lt_or_ge i listed.size with h'|h'
 ·simp[h'] at h ⊢;exact h
 ·simp[Array.getElem?_eq_none h'] at h
theorem Lst.body {n fuel:Nat}{base:List Nat}{listed:Array Bool}(hb:B0 ops n base=true)(L:Lst ops n base (fuel+1) listed){j:Nat}(hj:j∈Region.ready .any ops listed):j<n:=by
 obtain⟨hun,o,ho,hall⟩:=mem_ready.1 hj
 obtain⟨_,hn,hs⟩:=Cb hb
 obtain⟨h1,h2,h3⟩:=hs j o ho
 have hjs:=(Array.getElem?_eq_some_iff.1 ho).1
 rcases Nat.lt_or_ge j n with h|h
 ·exact h
 ·exfalso
  obtain⟨i,hi,hi2,_⟩:=unl_get (listed:=listed) (n:=n) (by rw[L.count];omega)
  by_cases e:j=n
  ·have hc:=closeD_all (λk=>listed.getD k true=true) n (Cc ops n) (λk hk=>by
    subst e
    obtain⟨ed,he,hbd,hon⟩:=(mem_depsOf ho).1 hk
    have:=hall ed he hbd
    cases hg:listed.getD k true with
    |true=>rfl
    |false=>rw[hon,CP hg] at this;cases this) (λj' hj' hp=>L.closed j' hj' hp) i
   have hc:=(h2 e i hi).elim (L.based i) hc
   rw[hi2] at hc
   cases hc
  ·obtain⟨ed,he,hbd,hon⟩:=h3 (by omega)
   have:=hall ed he hbd
   rw[hon,CP (L.tail (j-1) (by omega) (by omega))] at this
   cases this
theorem Lst.set {n fuel:Nat}{base:List Nat}{listed:Array Bool}(hb:B0 ops n base=true)(L:Lst ops n base (fuel+1) listed){j:Nat}(hj:j∈Region.ready .any ops listed):Lst ops n base fuel (listed.setIfInBounds j true):=by
 have hjn:=L.body hb hj
 have hun:=(mem_ready.1 hj).1
 refine⟨λi hi=>by
  by_cases e:j=i
  ·subst e;rw[L.based _ hi] at hun;cases hun
  ·rw[getD_set_ne true e];exact L.based i hi,by simp[L.size],?_,λt h1 h2=>by rw[getD_set_ne true (by omega)];exact L.tail t h1 h2,λj' hj' hl i hi=> ?_⟩
 rotate_left
 ·have mono:∀k,listed.getD k true=true→(listed.setIfInBounds j true).getD k true=true:=λk hk=>by
   by_cases e:j=k
   ·subst e;rw[hk] at hun;cases hun
   ·rw[getD_set_ne true e];exact hk
  by_cases e:j=j'
  ·subst e
   obtain⟨_,o,ho,hall⟩:=mem_ready.1 hj
   obtain⟨ed,he,hbd,hon⟩:=(mem_depsOf ho).1 hi
   have:=hall ed he hbd
   refine mono i ?_
   cases hg:listed.getD i true with
   |true=>rfl
   |false=>rw[hon,CP hg] at this;cases this
  ·rw[getD_set_ne true e] at hl
   exact mono i (L.closed j' hj' hl i hi)
 have:=unl_set hun n
 rw[if_pos hjn,L.count] at this
 omega
theorem Lst.ready_ne {n fuel:Nat}{base:List Nat}{listed:Array Bool}(hb:B0 ops n base=true)(L:Lst ops n base (fuel+1) listed):Region.ready .any ops listed≠[]:=by
 obtain⟨_,hn,hs⟩:=Cb hb
 obtain⟨i,hi,hi2,hi3⟩:=unl_get (listed:=listed) (n:=n) (by rw[L.count];omega)
 have hlt:i<ops.size:=by omega
 have ho:ops[i]? =some ops[i]:=by simp[hlt]
 have:i∈Region.ready .any ops listed:=mem_ready.2 ⟨hi2,_,ho,λe he hbd=>by
  have h1:=(hs i _ ho).1 e he hbd
  have h2:=hi3 e.on h1
  have h3:e.on<listed.size:=by rw[L.size];omega
  simp[h3] at h2 ⊢;exact h2⟩
 intro h
 rw[h] at this
 cases this
theorem AnyB.first {n i:Nat}{base:List Nat}{oi:Oper}{v:Value}{H:List Itm}(hi:ops[i]? =some oi)(hb:B0 ops n base=true)
  (hQ:∀c a w,¬Q (.panic c) a w) (hO:¬LetsOut Q):
  ∀(fuel:Nat) (G:GH) (E:List Itm) (listed:Array Bool) (a:Act),Lst ops n base (fuel+1) listed→
   (∀j oj,ops[j]? =some oj→j≠i→listed.getD j true=false→(∀e∈oj.after,Region.binds .any e=true→e.on≠i)→oi.apart ops oj=true)→
   i∈Region.ready .any ops listed→Yl W P ops G H oi v a→
   AnyB W P ops Q T H fuel G E (listed.setIfInBounds i true) (a.put oi.dst v)→AnyB W P ops Q T H (fuel+1) G E listed a:=by
 have hsel:=Region.noSelect_spec (Cb hb).1
 intro fuel
 induction fuel with
 |zero=>
  intro G E listed a L _ hr hy hH w hw j hj
  have hji:j=i:=by
   refine Decidable.byContradiction λhne=> ?_
   have h1:=unl_set (mem_ready.1 hj).1 n
   have h2:=Dj (listed:=listed.setIfInBounds j true) (L.body hb hr) (by rw[getD_set_ne true hne];exact(mem_ready.1 hr).1)
   rw[if_pos (L.body hb hj),L.count] at h1
   omega
  subst hji
  exact hy.go hi hw (λw' hw'=>⟨G,E,GLe.refl G,hw',hH⟩)
 |succ fuel ih=>
  intro G E listed a L hfree hr hy hH w hw j hj
  by_cases hji:j=i
  ·subst hji
   exact hy.go hi hw (λw' hw'=>⟨G,E,GLe.refl G,hw',hH⟩)
  ·have h1:=hH w hw j (ready_mono hj hji)
   obtain⟨hjun,oj,hoj,hall⟩:=mem_ready.1 hj
   have hnot:∀e∈oj.after,Region.binds .any e=true→e.on≠i:=λe he hbd heq=>by
    have h1:=hall e he hbd
    rw[heq,CP (mem_ready.1 hr).1] at h1
    cases h1
   have h2:=Yl.put hoj (hfree j oj hoj hji hjun hnot) (λcs b=>hsel i oi cs b hi) (λcs b=>hsel j oj cs b hoj) hQ hO hy h1
   have hfree':∀k ok,ops[k]? =some ok→k≠i→(listed.setIfInBounds j true).getD k true=false→
     (∀e∈ok.after,Region.binds .any e=true→e.on≠i)→oi.apart ops ok=true:=λk ok hk hki hun hno=>by
    refine hfree k ok hk hki ?_ hno
    by_cases hjk:j=k
    ·subst hjk;exact hjun
    ·rw[getD_set_ne true hjk] at hun;exact hun
   refine wpOp_mono (λa' w' ⟨hy',G',Ho,hG,hC,hA⟩=>⟨G',Ho,hG,hC,?_⟩) h2
   refine ih G' Ho (listed.setIfInBounds j true) a' (L.set hb hj) hfree' (ready_mono hr (Ne.symm hji)) (hy'.up hG) ?_
   rw[Array.setIfInBounds_comm _ _ hji]
   exact hA
theorem AnyB.sound {n:Nat}{base:List Nat}{B:List Itm}(hb:B0 ops n base=true)(k:Nat)(hT:∀(listed:Array Bool) a w,Lst ops n base 0 listed→T a w→wpAny P .any ops Q k listed a w):
  ∀(fuel:Nat) (G:GH) (H:List Itm) (listed:Array Bool) (a:Act) (w:World),Lst ops n base fuel listed→Cl W G (H++B) w→AnyB W P ops Q T B fuel G H listed a→wpAny P .any ops Q (fuel+k) listed a w
 |0,G,H,listed,a,w,L,hw,h=>by rw[Nat.zero_add];exact hT listed a w L (h w hw)
 |fuel+1,G,H,listed,a,w,L,hw,h=>by
  rw[show fuel+1+k=(fuel+k)+1 by omega]
  refine⟨λh0=>absurd h0 (L.ready_ne hb),λi hi=>wpOp_mono (λa' w' ⟨G',Ho,hG,hC,hA⟩=> ?_) (h w hw i hi)⟩
  exact AnyB.sound hb k hT fuel G' Ho _ a' w' (L.set hb hi) hC hA
end
theorem unl_zero {listed:Array Bool}{n:Nat}(h:unl listed n=0):∀k,k<n→listed.getD k true=true:=λk hk=>by
 cases hg:listed.getD k true with
 |true=>rfl
 |false=>have:=Dj hk hg;omega
theorem tail_list {P:Program}{ops:Array Oper}{Q:Go.Exit→Act→World→Prop}{n:Nat}{base:List Nat}(hb:B0 ops n base=true):
  ∀(k m:Nat) (listed:Array Bool) (a:Act) (w:World),n≤m→ops.size-m=k→m≤ops.size→listed.size=ops.size→(∀i,i<m→listed.getD i true=true)→(∀t,m≤t→t<ops.size→listed.getD t true=false)→
   wpList P ops Q (ops.toList.drop m) a w→wpAny P .any ops Q k listed a w:=by
 obtain⟨_,hn,hs⟩:=Cb hb
 intro k
 induction k with
 |zero=>
  intro m listed a w hnm hk hm hsz hl hu h
  have e:m=ops.size:=by omega
  subst e
  refine⟨?_,by rw[List.drop_eq_nil_of_le (by simp)] at h;exact h⟩
  rw[List.eq_nil_iff_forall_not_mem]
  intro j hj
  obtain⟨h0,o,ho,_⟩:=mem_ready.1 hj
  rw[hl j (Array.getElem?_eq_some_iff.1 ho).1] at h0
  cases h0
 |succ k ih=>
  intro m listed a w hnm hk hm hsz hl hu h
  have hlt:m<ops.size:=by omega
  have ho:ops[m]? =some ops[m]:=by simp[hlt]
  have hget:∀i,i<m→listed.getD i false=true:=λi hi=>by
   have h1:=hl i hi
   have h2:i<listed.size:=by rw[hsz];omega
   simp[h2] at h1 ⊢;exact h1
  have hready:m∈Region.ready .any ops listed:=mem_ready.2 ⟨hu m (Nat.le_refl _) hlt,_,ho,λe he hbd=>hget _ ((hs m _ ho).1 e he hbd)⟩
  refine⟨λh0=>(by rw[h0] at hready;cases hready),λj hj=> ?_⟩
  have hj2:=hj
  obtain⟨hun,oj,hoj,hall⟩:=mem_ready.1 hj2
  have hjs:=(Array.getElem?_eq_some_iff.1 hoj).1
  have hjm:j=m:=by
   rcases Nat.lt_trichotomy j m with h1|h1|h1
   ·rw[hl j h1] at hun;cases hun
   ·exact h1
   ·exfalso
    obtain⟨e,he,hbd,hon⟩:=(hs j oj hoj).2.2 (by omega)
    have:=hall e he hbd
    rw[hon,CP (hu (j-1) (by omega) (by omega))] at this
    cases this
  subst hjm
  rw[List.drop_eq_getElem_cons (by simpa using hlt)] at h
  have hstep:∀a w,wpList P ops Q (ops.toList.drop (j+1)) a w→wpAny P .any ops Q k (listed.setIfInBounds j true) a w:=λa w h=>
   ih (j+1) _ a w (by omega) (by omega) (by omega) (by simp[hsz]) (λi hi=>by
    by_cases e:j=i
    ·subst e;have:j<listed.size:=by rw[hsz];exact hlt
     simp[this]
    ·rw[getD_set_ne true e];exact hl i (by omega)) (λt h1 h2=>by rw[getD_set_ne true (by omega)];exact hu t (by omega) h2) h
  have hel:ops.toList[j]'(by simpa using hlt)=ops[j]:=by simp
  rw[hel] at h
  unfold wpList at h
  unfold wpOp
  simp only[ho]
  split at h
  ·rename_i hw
   rw[if_pos hw]
   exact h.imp (Oper.wp_mono hstep) id
  ·rename_i hw
   rw[if_neg hw]
   exact hstep _ _ h
theorem Bq {P : Program} {id : Nat} {l : List Oper} {nn r : AH} {x : List (Nat × AH)} {a : Act} {w W : World} {G : GH} {H : List Itm} (n : Nat) (hm : P.follows .mixedOrders = true) (hb : B0 l.toArray n [] = true) (m : Mem W G w H)
    (h : AnyB W P l.toArray (Qk nn x r) (fun a w => wpList P l.toArray (Qk nn x r) (l.drop n) a w) H n G [] (Array.replicate l.length false) a) : (Code.region id l.toArray true).wp P (Qk nn x r) a w := by
  have hn := (Cb hb).2.1
  refine wp_region_any hm ?_
  have hcl : Cl W G H { w with drawn := w.drawn + 1 } := ⟨G, GLe.refl G, m.congr rfl rfl rfl rfl⟩
  have hzero : ∀ k, (Array.replicate l.length false).getD k true = if k < l.length then false else true := fun k => by
    by_cases hk : k < l.length
    · simp [hk]
    · simp [hk]
  have hun : ∀ k, k ≤ l.length → unl (Array.replicate l.length false) k = k := by
    intro k
    induction k with
    | zero => intro _; rfl
    | succ k ih => intro hk; simp only [unl, ih (by omega), hzero]; rw [if_pos (show k < l.length from by omega)]; rfl
  have L : Lst l.toArray n [] n (Array.replicate l.length false) := ⟨by simp, by simp, hun n (by simpa using hn), fun t _ h2 => by rw [hzero, if_pos (by simpa using h2)], fun j hj hl => by
    rw [hzero, if_pos (by have : n ≤ l.length := by simpa using hn
                          omega)] at hl; cases hl⟩
  have := AnyB.sound (P := P) (W := W) (Q := Qk nn x r) hb (l.toArray.size - n) (T := fun a w => wpList P l.toArray (Qk nn x r) (l.drop n) a w) (fun listed a w L h =>
    tail_list hb (l.toArray.size - n) n listed a w (Nat.le_refl _) rfl hn L.size (unl_zero L.count) L.tail (by simpa using h)) n G [] _ a _ L hcl h
  have e : n + (l.toArray.size - n) = l.toArray.size := by omega
  rw [e] at this
  simpa using this
section
variable {P : Program} {ops : Array Oper} {nn r : AH} {x : List (Nat × AH)} {T : Act → World → Prop} {W : World} {G : GH} {E H : List Itm} {N : Nat} {L : AG} {a : Act} {fuel : Nat} {n : Nat} {listed listed' : Array Bool}
def pOf (n:Nat):Nat:=n%1000
def CK (n:Nat):List Nat:=(List.range (pOf n)).filter λi=>(n/1000).testBit i
def lstB (ops:Array Oper)(n:Nat)(fuel:Nat)(listed:Array Bool):Bool:=
 B0 ops (pOf n) (CK n)&&((CK n).all λi=>listed.getD i true)&&(listed.size==ops.size)&&(unl listed (pOf n)==fuel)&&((List.range ops.size).all λt=>decide (t<(pOf n))|| !listed.getD t true)&&((List.range (pOf n)).all λj=> !listed.getD j true||(Cc ops j).all λi=>listed.getD i true)
theorem lstB_spec (h:lstB ops n fuel listed=true):B0 ops (pOf n) (CK n)=true∧Lst ops (pOf n) (CK n) fuel listed:=by
 simp only[lstB,Bool.and_eq_true,beq_iff_eq,List.all_eq_true,List.mem_range,Bool.or_eq_true,decide_eq_true_eq,Bool.not_eq_true'] at h
 obtain⟨⟨⟨⟨⟨h1,h0⟩,h2⟩,h3⟩,h4⟩,h7⟩:=h
 exact⟨h1,h0,h2,h3,λt ht1 ht2=>(h4 t ht2).resolve_left (by omega),λj hj hl i hi=>by
  rcases h7 j hj with h|h
  ·rw[h] at hl;cases hl
  ·exact h i hi⟩
def Bb (ops:Array Oper)(n:Nat)(fuel:Nat)(listed:Array Bool)(i:Nat):Bool:=
 lstB ops n (fuel+1) listed&&(Region.ready .any ops listed).contains i&&Region.free .any ops listed i
theorem Qk_panic {c:List PanicEntry}{a:Act}{w:World}:¬Qk nn x r (.panic c) a w:=λh=>h
theorem Qk_out :¬LetsOut (Qk nn x r):=fun⟨_,_,h⟩=>h
theorem takeB_spec {i:Nat}(h:Bb ops n fuel listed i=true):B0 ops (pOf n) (CK n)=true∧Lst ops (pOf n) (CK n) (fuel+1) listed∧i∈Region.ready .any ops listed∧Region.free .any ops listed i=true:=by
 simp only[Bb,Bool.and_eq_true,List.contains_iff_mem] at h
 obtain⟨h1,h2⟩:=lstB_spec h.1.1
 exact⟨h1,h2,h.1.2,h.2⟩
theorem q_take {i:Nat}{o:Oper}{v:Value}(n:Nat)(hi:ops[i]? =some o)(hck:Bb ops n fuel listed i=true)(hl:listed.setIfInBounds i true=listed')(hy:Yl W P ops G H o v a)
  (k:AnyB W P ops (Qk nn x r) T H fuel G E listed' (a.put o.dst v)):AnyB W P ops (Qk nn x r) T H (fuel+1) G E listed a:=by
 obtain⟨h1,h2,h3,h4⟩:=takeB_spec hck
 subst hl
 exact AnyB.first hi h1 (λ_ _ _=>Qk_panic) Qk_out fuel G E listed a h2 (Region.free_spec hi h4) h3 hy k
theorem wanted_of {j s:Nat}{b c:Bool}{o:Oper}(f:Fr a N L)(hg:o.guard=some (j,b))(hj:(ops[j]?).bind (·.dst)=some s)(hs:look L s=some (.bool c))(hc:c=b):
  Region.wanted o (yielded ops a.tmps)=true:=by
 have hy:=Ct (ops:=ops) f hj hs
 simp[Region.wanted,hg,hy,hc]
theorem q_op {i d:Nat}{o:Oper}{v:Value}(n:Nat)(hi:ops[i]? =some o)(hck:Bb ops n fuel listed i=true)(hl:listed.setIfInBounds i true=listed')(f:Fr a N L)(hw:Region.wanted o (yielded ops a.tmps)=true)(hd:o.dst=some d)(hN:Nat.blt d N=true)
  (hr:∀G' Ho w,GLe G G'→Mem W G' w (Ho++H)→(execOp a.eval o).run P w= .ok (.value v) w)
  (k:∀a',Fr a' N ((d,v)::L)→AnyB W P ops (Qk nn x r) T H fuel G E listed' a'):AnyB W P ops (Qk nn x r) T H (fuel+1) G E listed a:=by
 refine q_take n hi hck hl (.inl ⟨hw,λG' Ho w hG ⟨G₂,h2,m⟩=> ?_⟩) (by rw[hd];exact k _ (f.put hN v))
 unfold Oper.quietAt
 rw[hr G₂ Ho w (hG.trans h2) m]
 exact⟨rfl,rfl⟩
theorem q_not {i j s d:Nat}{b c:Bool}{o:Oper}(n:Nat)(hi:ops[i]? =some o)(hck:Bb ops n fuel listed i=true)(hl:listed.setIfInBounds i true=listed')(f:Fr a N L)(hg:o.guard=some (j,b))(hj:(ops[j]?).bind (·.dst)=some s)
  (hs:look L s=some (.bool c)) (hc:c= !b) (hd:o.dst=some d) (hN:Nat.blt d N=true)
  (k:∀a',Fr a' N ((d,undef)::L)→AnyB W P ops (Qk nn x r) T H fuel G E listed' a'):AnyB W P ops (Qk nn x r) T H (fuel+1) G E listed a:=by
 have hy:=Ct (ops:=ops) f hj hs
 refine q_take n hi hck hl (.inr ⟨?_,rfl⟩) (by rw[hd];exact k _ (f.put hN undef))
 simp only[Region.wanted,hg,hy,hc]
 cases b<;>rfl
theorem C2 {j s:Nat}(f:Fr a N L)(hj:(ops[j]?).bind (·.dst)=some s)(hs:look L s=some undef):yielded ops a.tmps j=none:=by
 have h:=f.get s _ hs
 unfold yielded
 rw[hj]
 rcases Nat.lt_or_ge s a.tmps.size with h1|h1
 ·simp[Array.getD_eq_getD_getElem?,h1] at h
  simp[h1,h,undef]
 ·simp[Array.getElem?_eq_none h1]
theorem q_notU {i j s d:Nat}{b:Bool}{o:Oper}(n:Nat)(hi:ops[i]? =some o)(hck:Bb ops n fuel listed i=true)(hl:listed.setIfInBounds i true=listed')(f:Fr a N L)(hg:o.guard=some (j,b))(hj:(ops[j]?).bind (·.dst)=some s)
  (hs:look L s=some undef) (hd:o.dst=some d) (hN:Nat.blt d N=true)
  (k:∀a',Fr a' N ((d,undef)::L)→AnyB W P ops (Qk nn x r) T H fuel G E listed' a'):AnyB W P ops (Qk nn x r) T H (fuel+1) G E listed a:=by
 have hy:=C2 (ops:=ops) f hj hs
 refine q_take n hi hck hl (.inr ⟨?_,rfl⟩) (by rw[hd];exact k _ (f.put hN undef))
 simp[Region.wanted,hg,hy]
theorem BV {rest:List Oper}{w:World}{d:Nat}{op:Op}{t:TypeId}{pos:String}{af:Array Edge}{j s:Nat}{b:Bool}(f:Fr a N L)(hN:Nat.blt d N=true)(hj:(ops[j]?).bind (·.dst)=some s)
  (hs:look L s=some undef) (k:∀a',Fr a' N ((d,undef)::L)→wpList P ops (Qk nn x r) rest a' w):
  wpList P ops (Qk nn x r) (⟨some d,op,t,pos,af,some (j,b)⟩::rest) a w:=by
 have hy:=C2 (ops:=ops) f hj hs
 unfold wpList
 simp only[Region.wanted,hy]
 exact k _ (f.put hN undef)
theorem Ca {i d:Nat}{g:FuncId}{args:List Operand}{tys:Array TypeId}{vs:List Value}{t:TypeId}{pos:String}{af:Array Edge}{gd:Option (Nat×Bool)}{v:Value}(n:Nat)
  (hi:ops[i]? =some ⟨some d,.call {callee:= .value (.func g),args:=args.toArray,argTypes:=tys},t,pos,af,gd⟩) (hck:Bb ops n fuel listed i=true) (hl:listed.setIfInBounds i true=listed') (f:Fr a N L)
  (hw:Region.wanted ⟨some d,.call {callee:= .value (.func g),args:=args.toArray,argTypes:=tys},t,pos,af,gd⟩ (yielded ops a.tmps)=true)
  (hN:Nat.blt d N=true) (hargs:evalAll L args=some vs) (hcall:∀(ars:Array Value) (w:World),(callFunc g ars).run P w= .ok (.enter g ars) w)
  (hc:∀G' Ho w,GLe G G'→Mem W G' w (Ho++H)→Calls P g vs.toArray w (Res W G' (Ho++H) λ_ Ho' v'=>Ho'=[]∧v'=v))
  (k:∀a',Fr a' N ((d,v)::L)→AnyB W P ops (Qk nn x r) T H fuel G E listed' a'):AnyB W P ops (Qk nn x r) T H (fuel+1) G E listed a:=by
 refine q_take n hi hck hl (.inl ⟨hw,λG' Ho w hG ⟨G₂,h2,m⟩=> ?_⟩) (k _ (f.put hN v))
 have hargs':(args.toArray.map a.eval)=vs.toArray:=by rw[List.map_toArray,f.evalAll hargs]
 have hr:(execOp a.eval ⟨some d,.call {callee:= .value (.func g),args:=args.toArray,argTypes:=tys},t,pos,af,gd⟩).run P w= .ok (.enter g vs.toArray) w:=by
  simp only[execOp,resolve,Deferred.ofValue,Act.eval,Sem.run_bind,Sem.run_pure,Result.andThen_ok,invoke,hargs']
  have:=hcall vs.toArray w
  simpa using this
 unfold Oper.quietAt
 rw[hr]
 refine⟨rfl,(hc G₂ Ho w (hG.trans h2) m).mono λe w' ⟨v',he,G₃,Ho',h3,m',h4,h5⟩=> ?_⟩
 subst h4 h5
 exact⟨he,G₃,h2.trans h3,m'⟩
def Step1 (W:World)(P:Program)(ops:Array Oper)(Q:Go.Exit→Act→World→Prop)(T:Act→World→Prop)(H:List Itm)(fuel:Nat)(G:GH)(E:List Itm)(listed:Array Bool)(a:Act)(i:Nat):Prop:=
 ∃o,ops[i]? =some o∧∀G₁ w,GLe G G₁→Mem W G₁ w (E++H)→∀K:Act→World→Prop,
  (∀G' E' a' w',GLe G₁ G'→Mem W G' w' (E'++H)→AnyB W P ops Q T H fuel G' E' (listed.setIfInBounds i true) a'→K a' w')→wpList P ops (Qk (λa' w'=>K a' w') [] (λ_ _=>False)) [o] a w
theorem q_each {is:List Nat}(hready:Region.ready .any ops listed=is)(h:∀i∈is,Step1 W P ops (Qk nn x r) T H fuel G E listed a i):AnyB W P ops (Qk nn x r) T H (fuel+1) G E listed a:=by
 intro w ⟨G₁,h1,m⟩ i hi
 rw[hready] at hi
 obtain⟨o,ho,hs⟩:=h i hi
 have key:=hs G₁ w h1 m (λa' w'=>∃G' E',GLe G G'∧Cl W G' (E'++H) w'∧AnyB W P ops (Qk nn x r) T H fuel G' E' (listed.setIfInBounds i true) a')
  (λG' E' a' w' h2 m' hA=>⟨G',E',h1.trans h2,⟨G',GLe.refl _,m'⟩,hA⟩)
 unfold wpOp
 simp only[ho]
 unfold wpList at key
 split at key
 ·rename_i hw
  rw[if_pos hw]
  rcases key with key|⟨_,_,_,q⟩
  ·left
   unfold Oper.wp at*
   generalize (execOp a.eval o).run P w=res at*
   cases res with
   |ok n' w'=>
    cases n'<;>simp only[Oper.upon] at key ⊢<;>
     first
      |exact key
      |exact Calls.mono key (λe w'' he=>by
        cases e
        ·exact he
        ·exact he.elim
        ·obtain⟨_,_,q⟩:=he;exact q.elim)
      |exact Rows.mono key (λ_ _ he=>he)
   |halt hh w'=>cases hh<;>simp only[Oper.upon] at key ⊢<;>exact key.elim
  ·exact q.elim
 ·rename_i hw
  rw[if_neg hw]
  exact key
theorem q_one {i:Nat}{o:Oper}(hi:ops[i]? =some o)(hready:Region.ready .any ops listed=[i])(hl:listed.setIfInBounds i true=listed')
  (h:∀G₁ w,GLe G G₁→Mem W G₁ w (E++H)→∀K:Act→World→Prop,(∀G' E' a' w',GLe G₁ G'→Mem W G' w' (E'++H)→AnyB W P ops (Qk nn x r) T H fuel G' E' listed' a'→K a' w')→wpList P ops (Qk (λa' w'=>K a' w') [] (λ_ _=>False)) [o] a w):
  AnyB W P ops (Qk nn x r) T H (fuel+1) G E listed a:=by
 subst hl
 refine q_each hready λj hj=> ?_
 simp at hj;subst hj
 exact⟨o,hi,h⟩
section
variable {t : TypeId} {pos : String} {af : Array Edge} {gd : Option (Nat × Bool)} {d i : Nat}
theorem q_at {α:Type}{R:Rep α}{v:Value}{xs:List α}{u e bytes:Nat}{z:Value}{xo io:Operand}{k0:IntKind}{j:Int}{e':α}(n:Nat)(hu:SlT P u e 1 bytes z)(h:RSl R G v xs)(he:idx xs j=some e')
  (hi:ops[i]? =some ⟨some d,.indexAddr u xo io,t,pos,af,gd⟩) (hck:Bb ops n fuel listed i=true) (hl:listed.setIfInBounds i true=listed') (f:Fr a N L)
  (hw:Region.wanted ⟨some d,.indexAddr u xo io,t,pos,af,gd⟩ (yielded ops a.tmps)=true) (hN:Nat.blt d N=true) (hx:Aq L xo=some v) (hio:Aq L io=some (.int k0 j))
  (k:∀p c a',At G p c→R G c e'→Fr a' N ((d,p)::L)→AnyB W P ops (Qk nn x r) T H fuel G E listed' a'):AnyB W P ops (Qk nn x r) T H (fuel+1) G E listed a:=by
 obtain⟨b,m,c,off,cv,rfl,h0,h1,hc,hR⟩:=h.at he
 refine q_op n hi hck hl f hw rfl hN (λ_ _ _ _ _=>Ch (f.eval hx) (f.eval hio) hu h0 h1) λa' f'=> ?_
 refine k _ cv a' ⟨b,off+j.toNat,?_,hc⟩ hR f'
 rw[Bi,Nat.mul_one]
theorem q_loadAt {u:TypeId}{xo:Operand}{p c:Value}(n:Nat)(hp:Br P u)(h:At G p c)
  (hi:ops[i]? =some ⟨some d,.load u xo,t,pos,af,gd⟩) (hck:Bb ops n fuel listed i=true) (hl:listed.setIfInBounds i true=listed') (f:Fr a N L)
  (hw:Region.wanted ⟨some d,.load u xo,t,pos,af,gd⟩ (yielded ops a.tmps)=true) (hN:Nat.blt d N=true) (hx:Aq L xo=some p)
  (k:∀a',Fr a' N ((d,c)::L)→AnyB W P ops (Qk nn x r) T H fuel G E listed' a'):AnyB W P ops (Qk nn x r) T H (fuel+1) G E listed a:=by
 obtain⟨b,o,rfl,hc⟩:=h
 exact q_op n hi hck hl f hw rfl hN (λ_ _ _ hG m=>CL (f.eval hx) hp ((hc.mono hG).get m)) k
theorem q_boxCell {b ix:Nat}{tt:TypeId}{cs:List Value}{u:TypeId}{xo:Operand}{c:Value}(n:Nat)(j:Nat)(hp:Br P u)(hj:H[j]? =some (.box b tt cs))(hc:cs[ix]? =some c)
  (hi:ops[i]? =some ⟨some d,.load u xo,t,pos,af,gd⟩) (hck:Bb ops n fuel listed i=true) (hl:listed.setIfInBounds i true=listed') (f:Fr a N L)
  (hw:Region.wanted ⟨some d,.load u xo,t,pos,af,gd⟩ (yielded ops a.tmps)=true) (hN:Nat.blt d N=true) (hx:Aq L xo=some (.pointer (some ⟨b,ix,none⟩)))
  (k:∀a',Fr a' N ((d,c)::L)→AnyB W P ops (Qk nn x r) T H fuel G E listed' a'):AnyB W P ops (Qk nn x r) T H (fuel+1) G E listed a:=
 q_op n hi hck hl f hw rfl hN (λ_ _ _ _ m=>CL (f.eval hx) hp (m.drop.boxCell j hj hc)) k
theorem q_boxAgg {b ix nn':Nat}{tt:TypeId}{cs ds:List Value}{u:TypeId}{xo:Operand}(n:Nat)(j:Nat)(hp:Agg P u nn')(hj:H[j]? =some (.box b tt cs))(hds:(cs.drop ix).take nn'=ds)(hln:ds.length=nn')
  (hi:ops[i]? =some ⟨some d,.load u xo,t,pos,af,gd⟩) (hck:Bb ops n fuel listed i=true) (hl:listed.setIfInBounds i true=listed') (f:Fr a N L)
  (hw:Region.wanted ⟨some d,.load u xo,t,pos,af,gd⟩ (yielded ops a.tmps)=true) (hN:Nat.blt d N=true) (hx:Aq L xo=some (.pointer (some ⟨b,ix,none⟩)))
  (k:∀a',Fr a' N ((d,.agg ds.toArray)::L)→AnyB W P ops (Qk nn x r) T H fuel G E listed' a'):AnyB W P ops (Qk nn x r) T H (fuel+1) G E listed a:=by
 refine q_op n hi hck hl f hw rfl hN (λ_ _ _ _ m=>r_loadAgg (f.eval hx) hp hln (λj' v hv=> ?_)) k
 rw[Bi]
 refine m.drop.boxCell j hj ?_
 rw[←hds,List.getElem?_take] at hv
 split at hv
 ·rwa [List.getElem?_drop] at hv
 ·cases hv
theorem q_fieldAddr {b ix:Nat}{s fi:Nat}{fs:Array Field}{fl:Field}{sz:Nat}{xo:Operand}(n:Nat)(hs:P.underlying s=some (.struct fs))(hf:fs[fi]? =some fl)
  (hz:∀w,(sizeOf fl.type).run P w= .ok sz w) (hz0:sz≠0)
  (hi:ops[i]? =some ⟨some d,.fieldAddr s xo fi,t,pos,af,gd⟩) (hck:Bb ops n fuel listed i=true) (hl:listed.setIfInBounds i true=listed') (f:Fr a N L)
  (hw:Region.wanted ⟨some d,.fieldAddr s xo fi,t,pos,af,gd⟩ (yielded ops a.tmps)=true) (hN:Nat.blt d N=true) (hx:Aq L xo=some (.pointer (some ⟨b,ix,none⟩)))
  (k:∀a',Fr a' N ((d,.pointer (some ⟨b,ix+fl.offset,none⟩))::L)→AnyB W P ops (Qk nn x r) T H fuel G E listed' a'):AnyB W P ops (Qk nn x r) T H (fuel+1) G E listed a:=by
 refine q_op n hi hck hl f hw rfl hN (λ_ _ _ _ _=>Dp (f.eval hx) hs hf hz hz0) ?_
 rw[Bi]
 exact k
theorem q_own_at {α:Type}{R:Rep α}{tt:TypeId}{it:Itm}{v:Value}{xs:List α}{u e bytes:Nat}{z:Value}{xo io:Operand}{k0:IntKind}{jx:Int}{y:α}{w₀:World}{G₀:GH}{H₀:List Itm}(n:Nat)(j:Nat)(m:Mem W G₀ w₀ H₀)(h:Ow R tt G it v xs)(hj:H₀[j]? =some it)
  (hu:SlT P u e 1 bytes z) (he:idx xs jx=some y)
  (hi:ops[i]? =some ⟨some d,.indexAddr u xo io,t,pos,af,gd⟩) (hck:Bb ops n fuel listed i=true) (hl:listed.setIfInBounds i true=listed') (f:Fr a N L)
  (hw:Region.wanted ⟨some d,.indexAddr u xo io,t,pos,af,gd⟩ (yielded ops a.tmps)=true) (hN:Nat.blt d N=true) (hx:Aq L xo=some v) (hio:Aq L io=some (.int k0 jx))
  (k:∀p a',Cr v p jx→Fr a' N ((d,p)::L)→AnyB W P ops (Qk nn x r) T H fuel G E listed' a'):AnyB W P ops (Qk nn x r) T H (fuel+1) G E listed a:=by
 obtain⟨b,c,cur,vs,rfl,rfl,h0,h1,hg,_⟩:=h.at' m hj he
 refine q_op n hi hck hl f hw rfl hN (λ_ _ _ _ _=>Ch (f.eval hx) (f.eval hio) hu h0 h1) λa' f'=> ?_
 exact k _ a' ⟨b,_,c,rfl,by rw[Bi,Nat.mul_one,Nat.zero_add]⟩ f'
theorem q_own_load {α:Type}{R:Rep α}{tt:TypeId}{it:Itm}{v p:Value}{xs:List α}{u:Nat}{xo:Operand}{jx:Int}{y:α}(n:Nat)(j:Nat)(h:Ow R tt G it v xs)(hj:H[j]? =some it)
  (hp:Br P u) (ha:Cr v p jx) (he:idx xs jx=some y)
  (hi:ops[i]? =some ⟨some d,.load u xo,t,pos,af,gd⟩) (hck:Bb ops n fuel listed i=true) (hl:listed.setIfInBounds i true=listed') (f:Fr a N L)
  (hw:Region.wanted ⟨some d,.load u xo,t,pos,af,gd⟩ (yielded ops a.tmps)=true) (hN:Nat.blt d N=true) (hx:Aq L xo=some p)
  (k:∀c a',R G c y→Fr a' N ((d,c)::L)→AnyB W P ops (Qk nn x r) T H fuel G E listed' a'):AnyB W P ops (Qk nn x r) T H (fuel+1) G E listed a:=by
 obtain⟨b,mm,c,e1,rfl⟩:=ha
 obtain⟨vs,rfl,hA⟩:=h
 obtain⟨h0,h1,h2⟩:=BL he
 obtain⟨cv,h7,hR⟩:=hA.get h2
 refine q_op (v:=cv) n hi hck hl f hw rfl hN (λ_ _ w _ m=>CL (f.eval hx) hp ?_) (λa' f'=>k cv a' hR f')
 have ok:w.ownsRow 0 tt 1 v xs.length vs:=m.drop.items j _ hj
 rcases ok.2 with⟨e2,e3⟩|⟨g,cap,cur,e2,_,eh,e4,e5,e6,e7⟩
 ·omega
 ·rw[e2] at e1
  cases e1
  rw[←e7,List.getElem?_take] at h7
  split at h7
  ·simp only[World.cell?,eh];simpa using h7
  ·cases h7
end
theorem q_cut {fuel':Nat}{listed':Array Bool}(Mid:Act→Prop)(k:∀a,Mid a→AnyB W P ops (Qk nn x r) T H fuel' G E listed' a)
  (h:(∀a,Mid a→AnyB W P ops (Qk nn x r) T H fuel' G E listed' a)→AnyB W P ops (Qk nn x r) T H fuel G E listed a):AnyB W P ops (Qk nn x r) T H fuel G E listed a:=h k
theorem BB (h:∀G₁ w,GLe G G₁→Mem W G₁ w (E++H)→T a w):AnyB W P ops (Qk nn x r) T H 0 G E listed a:=λw ⟨G₁,h1,m⟩=>h G₁ w h1 m
end
end Go.Sx

namespace Go.Sx
def tupleOf :List Value→Value
 |[v]=>v
 |vs=> .tuple vs.toArray
theorem AB :∀c∈([]:List Value),c.oneCell'=true:=by simp
theorem Ax {c:Value}{cs:List Value}(h:c.oneCell'=true)(h':∀c∈cs,c.oneCell'=true):∀x∈c::cs,x.oneCell'=true:=by
 intro x hx;rcases List.mem_cons.1 hx with rfl|hx
 ·exact h
 ·exact h' x hx
def Free {α:Type}(R:Rep α):Prop:=∀G G' v x,R G v x→R G' v x
theorem RI.free (k:IntKind):Free (RI k):=λ_ _ _ _ h=>h
theorem Ow.free {α:Type}{R:Rep α}(hR:Free R){t:TypeId}{G:GH}(G':GH){it:Itm}{v:Value}{xs:List α}(h:Ow R t G it v xs):Ow R t G' it v xs:=by
 obtain⟨vs,h1,h2⟩:=h
 exact⟨vs,h1,h2.mono (λv x=>hR G G' v x)⟩
theorem At.mono {G G':GH}(h:GLe G G'){p c:Value}(k:At G p c):At G' p c:=by
 obtain⟨b,o,e,hc⟩:=k
 exact⟨b,o,e,hc.mono h⟩
theorem Ow.lendCall {P:Program}{g:FuncId}{args:Array Value}{α:Type}{R:Rep α}(hR:Cd R){t:TypeId}{W w:World}{G:GH}{it:Itm}{H:List Itm}{v:Value}{xs:List α}{Q:GH→List Itm→Value→Prop}(j:Nat)
  (h:Ow R t G it v xs) (m:Mem W G w H) (hj:H[j]? =some it)
  (hc:∀G₁,GLe G G₁→Mem W G₁ w (H.eraseIdx j)→RSl R G₁ v xs→Calls P g args w (Res W G₁ (H.eraseIdx j) Q)) (hQ:∀G G' Ho v,Q G Ho v→Q G' Ho v):Calls P g args w (Res W G H Q):=by
 obtain⟨G₁,h1,m1,h2,back⟩:=h.lend hR (m.front j hj)
 refine(hc G₁ h1 m1 h2).mono λe w' ⟨r,he,G₂,Ho,h3,m2,hq⟩=> ?_
 obtain⟨G₃,h4,m3,_⟩:=back G₂ w' _ h3 m2
 refine⟨r,he,G₃,Ho,h4,?_,hQ _ _ _ _ hq⟩
 have hl:j<H.length:=(List.getElem?_eq_some_iff.1 hj).1
 have m4:=m3.back (Ho.length+j) (by simp[List.length_eraseIdx,hl];omega)
 have e:(Ho++H.eraseIdx j).take (Ho.length+j)++it::(Ho++H.eraseIdx j).drop (Ho.length+j)=Ho++H:=by
  rw[List.take_length_add_append,List.drop_length_add_append,List.append_assoc]
  congr 1
  rw[B9 H j it hl]
  apply List.ext_getElem?
  intro k
  rw[List.getElem?_set]
  split
  ·rename_i e;subst e;simp[hl] at hj ⊢;exact hj.symm
  ·rfl
 rwa [e] at m4
theorem cond_none {α:Type}{c:Bool}{q:Option α}{y:α}(h:cond c none q=some y):c=false∧q=some y:=by
 cases c
 ·exact⟨rfl,h⟩
 ·cases h
theorem A6 {k:IntKind}{n:Int}:(Value.int k n).cells= #[.int k n]:=rfl
theorem A2 {b:Bool}:(Value.bool b).cells= #[.bool b]:=rfl
theorem AQ {b:ByteArray}:(Value.string b).cells= #[.string b]:=rfl
theorem AU {a:Option Addr}{n c:Nat}:(Value.slice a n c).cells= #[.slice a n c]:=rfl
theorem AK {a:Option Addr}:(Value.pointer a).cells= #[.pointer a]:=rfl
theorem A7 {cs:Array Value}:(Value.agg cs).cells=cs:=rfl
section
variable {P : Program} {ops : Array Oper} {rest l : List Oper} {n r : AH} {x : List (Nat × AH)} {a : Act} {w : World} {N : Nat} {L : AG}
variable {d : Nat} {t : TypeId} {pos : String} {af : Array Edge}
theorem Bo {u:TypeId}{parts:Array (Nat×Operand)}{vs:List (Nat×Value)}{v:Value}(f:Fr a N L)(hN:Nat.blt d N=true)
  (hp:(parts.toList.map λp=>(p.1,Aq L p.2))=vs.map λp=>(p.1,some p.2)) (hb:∀w,(Instr.build u vs.toArray).run P w= .ok v w)
  (k:∀a',Fr a' N ((d,v)::L)→wpList P ops (Qk n x r) rest a' w):
  wpList P ops (Qk n x r) (⟨some d,.build u parts,t,pos,af,none⟩::rest) a w:=by
 have key:∀(ps:List (Nat×Operand)) (vs:List (Nat×Value)),(ps.map λp=>(p.1,Aq L p.2))=vs.map (λp=>(p.1,some p.2))→ps.map (fun(i,x)=>(i,a.eval x))=vs:=by
  intro ps
  induction ps with
  |nil=>intro vs h;cases vs with
   |nil=>rfl
   |cons _ _=>simp at h
  |cons p ps ih=>
   intro vs h
   cases vs with
   |nil=>simp at h
   |cons q vs=>
    simp only[List.map_cons,List.cons.injEq,Prod.mk.injEq] at h
    simp only[List.map_cons,ih vs h.2,f.eval h.1.2,h.1.1]
 have e:(parts.map fun(i,x)=>(i,a.eval x))=vs.toArray:=by
  apply Array.toList_inj.1
  rw[Array.toList_map,key parts.toList vs hp]
 refine Bp f rfl rfl hN (v:=v) ?_ k
 simp[execOp,e,hb]
end
def RR (P:Program)(a:Act)(w:World):List ResultVar→List Value→Prop
 |[],[]=>True
 | .tmp s::rs,v::vs=>a.tmps.getD s undef=v∧RR P a w rs vs
 | .cell s t::rs,v::vs=>(do loadVar t (←asAddr (a.tmps.getD s undef)):Sem Value).run P w= .ok v w∧RR P a w rs vs
 |_,_=>False
theorem RR.run {P:Program}{a:Act}{w:World}{fn:Func}{rs:List ResultVar}{vs:List Value}(h:RR P a w rs vs)(hr:fn.results=rs.toArray):(results fn a.tmps).run P w= .ok (tupleOf vs) w:=by
 have key:∀(rs:List ResultVar) (vs:List Value),RR P a w rs vs→
   (rs.mapM (λr:ResultVar=>(match r with
    | .tmp t=>pure (a.tmps.getD t undef)
    | .cell a' t=>do loadVar t (←asAddr (a.tmps.getD a' undef)):Sem Value))).run P w= .ok vs w:=by
  intro rs
  induction rs with
  |nil=>intro vs h;cases vs with
   |nil=>simp
   |cons _ _=>exact h.elim
  |cons r rs ih=>
   intro vs h
   cases vs with
   |nil=>cases r<;>exact h.elim
   |cons v vs=>
    cases r with
    |tmp t=>
     have h2:=ih vs h.2
     simp only[List.mapM_cons,Sem.run_bind,Sem.run_pure,Result.andThen_ok,h.1,h2]
    |cell s t=>
     have h2:=ih vs h.2
     have h1:=h.1
     simp only[Sem.run_bind] at h1
     simp only[List.mapM_cons,Sem.run_bind,Sem.run_pure,h1,Result.andThen_ok,h2]
 have hk:=key rs vs h
 unfold results
 rw[hr]
 simp only[List.mapM_toArray,Sem.run_bind,Sem.run_map,Sem.run_pure]
 refine(congrArg (λr:Result (List Value)=>((r.andThen λa w'=>Result.ok a.toArray w').andThen λa w'=>Result.ok (if h:a.size=1 then a[0] else Value.tuple a) w')) (show _=Result.ok vs w from hk)).trans ?_
 match vs with
 |[]=>rfl
 |[v]=>rfl
 |v::u::t=>rfl
theorem Bc {P:Program}{a:Act}{w W:World}{G:GH}{H:List Itm}{N:Nat}{L:AG}{s b t n:Nat}{cs:List Value}(j:Nat)(m:Mem W G w H)(hp:Agg P t n)(f:Fr a N L)(hs:look L s=some (.pointer (some ⟨b,0,none⟩)))(hj:H[j]? =some (.box b t cs))(hl:cs.length=n):
  (do loadVar t (←asAddr (a.tmps.getD s undef)):Sem Value).run P w= .ok (.agg cs.toArray) w:=by
 rw[f.get s _ hs]
 have:=run_loadCells_list (P:=P) w ⟨b,0,none⟩ cs (λj' v hv=>by rw[Bi,Nat.zero_add];exact m.boxCell j hj hv)
 subst hl
 simp[asAddr,loadVar,hp.1 w,hp.2 w,this]
def RetB (P:Program)(W:World)(G:GH)(H:List Itm)(rs:List ResultVar)(Q:GH→List Itm→Value→Prop):AH:=λa w=>
 ∃vs:List Value,RR P a w rs vs∧a.defers=[]∧∃G' Ho,GLe G G'∧Mem W G' w (Ho++H)∧Q G' Ho (tupleOf vs)
theorem Aw {P:Program}{g:FuncId}{fn:Func}{c:Code}{args:List Value}{w:World}{N:Nat}{W:World}{G:GH}{H:List Itm}{Q:GH→List Itm→Value→Prop}(rs:List ResultVar)
  (hf:P.funcs[g]? =some fn) (hb:fn.body=some c) (hN:fn.ntmps=N) (hl:args.length≤N) (hr:fn.results=rs.toArray)
  (h:∀a,Fr a N (enum 0 args)→c.wp P (Qk (RetB P W G H rs Q) [] (RetB P W G H rs Q)) a w):Calls P g args.toArray w (Res W G H Q):=
 calls_k (N:=N) (RetB P W G H rs Q) hf hb hN hl h (λa w ⟨vs,h1,hd,G',Ho,h2,m,h3⟩=>⟨hd,tupleOf vs,h1.run hr,_,rfl,G',Ho,h2,m,h3⟩)
def tab32 :List Int:=[0,1,28,2,29,14,24,3,30,22,20,15,25,17,4,8,31,27,13,23,21,19,16,7,26,12,18,6,11,5,10,9]
section
variable {P : Program} {ρ : Operand → Value} {w : World} {d : Option Tmp} {t : TypeId} {pos : String} {af : Array Edge} {gd : Option (Nat × Bool)}
theorem AD {c x y:Operand}{b:Bool}{v:Value}(hc:ρ c= .bool b)(hb:b=true)(h:ρ x=v):(execOp ρ ⟨d,.pick c x y,t,pos,af,gd⟩).run P w= .ok (.value v) w:=
 r_pick hc (by rw[hb];exact h)
theorem AE {c x y:Operand}{b:Bool}{v:Value}(hc:ρ c= .bool b)(hb:b=false)(h:ρ y=v):(execOp ρ ⟨d,.pick c x y,t,pos,af,gd⟩).run P w= .ok (.value v) w:=
 r_pick hc (by rw[hb];exact h)
theorem Bu {x:Operand}{u:TypeId}{s:ByteArray}(hx:ρ x= .string s)(hu:P.underlying u=some .string):
  (execOp ρ ⟨d,.call {callee:= .builtin .len,args:= #[x],argTypes:= #[u]},t,pos,af,gd⟩).run P w= .ok (.value (.int .i64 s.size)) w:=by
 simp[execOp,resolve,invoke,builtin,Builtin.len_,run_underlying hu,hx,goInt]
end
section
variable {P : Program} {ρ : Operand → Value} {w : World} {d : Option Tmp} {t : TypeId} {pos : String} {af : Array Edge} {gd : Option (Nat × Bool)}
theorem Dv (dd:Nat){u:TypeId}{m n:Bool}(hu:P.underlying u=some .bool):(Op.equalIn (dd+1) u (.bool m) (.bool n)).run P w= .ok (m==n) w:=by
 simp[Op.equalIn,run_underlying hu]
theorem run_eq_bool {u:TypeId}{m n:Bool}(hu:P.underlying u=some .bool):(Op.equal u (.bool m) (.bool n)).run P w= .ok (m==n) w:=Dv 9999 hu
theorem r_bool_neq {u u':TypeId}{x y:Operand}{m n:Bool}(hx:ρ x= .bool m)(hy:ρ y= .bool n)(hu:P.underlying u=some .bool):
  (execOp ρ ⟨d,.binOp .neq u x y u',t,pos,af,gd⟩).run P w= .ok (.value (.bool (m !=n))) w:=by
 have hg:(eqGuard .neq u x y (.bool m) (.bool n)).run P w= .ok () w:=by
  unfold eqGuard
  rfl
 simp[execOp,hx,hy,hg,binOp,run_eq_bool hu]
 cases m<;>cases n<;>rfl
end
end Go.Sx

namespace Go.Sx
theorem Bz {v:Value}{t1 t2:TypeId}{rows:List (Value×List Value)}{i:Nat}{h:Itm}(hi:(parts v t1 t2 rows)[i]? =some h):h.foot=h.foot0∧∀w,h.ok w↔h.ok0 w:=by
 cases i with
 |zero=>simp[parts] at hi;subst hi;exact⟨rfl,λ_=>Iff.rfl⟩
 |succ i=>
  simp only[parts,List.getElem?_cons_succ,List.getElem?_map] at hi
  cases hr:rows[i]? with
  |none=>simp[hr] at hi
  |some r=>simp[hr] at hi;subst hi;exact⟨rfl,λ_=>Iff.rfl⟩
section
variable {W w : World} {G : GH} {H : List Itm}
theorem Mem.group {g:Itm}{l:List Itm}(hf:∀x,x∈g.foot↔∃(i:Nat) (h:Itm),l[i]? =some h∧x∈h.foot)
  (hok:g.ok w↔(∀(i:Nat) (h:Itm),l[i]? =some h→h.ok w)∧∀(i j:Nat) (a b:Itm),i≠j→l[i]? =some a→l[j]? =some b→∀x∈a.foot,x∉b.foot):
  Mem W G w (g::H)↔Mem W G w (l++H):=by
 constructor
 ·intro m
  obtain⟨k1,k2⟩:=hok.1 (m.items 0 g rfl)
  have hH:∀(i:Nat) (z:Itm),H[i]? =some z→∀x∈z.foot,x∉g.foot:=λi z hz=>m.disj (i+1) 0 z g (by omega) (by simpa using hz) rfl
  refine⟨m.os,m.tape,m.output,m.sealed,λi z k=> ?_,λi j a b hij ha hb=> ?_,λi z k x hx=> ?_,m.base⟩
  ·by_cases hi:i<l.length
   ·rw[List.getElem?_append_left hi] at k;exact k1 i z k
   ·rw[List.getElem?_append_right (by omega)] at k;exact m.items (i-l.length+1) z (by simpa using k)
  ·by_cases hi:i<l.length
   ·rw[List.getElem?_append_left hi] at ha
    by_cases hj:j<l.length
    ·rw[List.getElem?_append_left hj] at hb;exact k2 i j a b hij ha hb
    ·rw[List.getElem?_append_right (by omega)] at hb
     exact λx hx hx'=>hH _ b hb x hx' ((hf x).2 ⟨i,a,ha,hx⟩)
   ·rw[List.getElem?_append_right (by omega)] at ha
    by_cases hj:j<l.length
    ·rw[List.getElem?_append_left hj] at hb
     exact λx hx hx'=>hH _ a ha x hx ((hf x).2 ⟨j,b,hb,hx'⟩)
    ·rw[List.getElem?_append_right (by omega)] at hb
     exact m.disj (i-l.length+1) (j-l.length+1) a b (by omega) (by simpa using ha) (by simpa using hb)
  ·by_cases hi:i<l.length
   ·rw[List.getElem?_append_left hi] at k;exact m.apart 0 g rfl x ((hf x).2 ⟨i,z,k,hx⟩)
   ·rw[List.getElem?_append_right (by omega)] at k;exact m.apart (i-l.length+1) z (by simpa using k) x hx
 ·intro m
  have hl:∀(i:Nat) (z:Itm),l[i]? =some z→(l++H)[i]? =some z:=λi z k=>by
   rw[List.getElem?_append_left (List.getElem?_eq_some_iff.1 k).1];exact k
  have hr:∀(i:Nat) (z:Itm),H[i]? =some z→(l++H)[l.length+i]? =some z:=λi z k=>by
   rw[List.getElem?_append_right (by omega)];simpa using k
  refine⟨m.os,m.tape,m.output,m.sealed,λi z k=> ?_,λi j a b hij ha hb=> ?_,λi z k x hx=> ?_,m.base⟩
  ·cases i with
   |zero=>
    simp at k;subst k
    exact hok.2 ⟨λi h hi=>m.items i h (hl i h hi),λi j a b hij ha hb=>m.disj i j a b hij (hl i a ha) (hl j b hb)⟩
   |succ i=>exact m.items _ z (hr i z (by simpa using k))
  ·cases i with
   |zero=>
    simp at ha;subst ha
    cases j with
    |zero=>omega
    |succ j=>
     intro x hx hx'
     obtain⟨k,h,hk,hxh⟩:=(hf x).1 hx
     have hkl:=(List.getElem?_eq_some_iff.1 hk).1
     exact m.disj k (l.length+j) h b (by omega) (hl k h hk) (hr j b (by simpa using hb)) x hxh hx'
   |succ i=>
    have ha':=hr i a (by simpa using ha)
    cases j with
    |zero=>
     simp at hb;subst hb
     intro x hx hx'
     obtain⟨k,h,hk,hxh⟩:=(hf x).1 hx'
     have hkl:=(List.getElem?_eq_some_iff.1 hk).1
     exact m.disj (l.length+i) k a h (by omega) ha' (hl k h hk) x hx hxh
    |succ j=>exact m.disj (l.length+i) (l.length+j) a b (by omega) ha' (hr j b (by simpa using hb))
  ·cases i with
   |zero=>
    simp at k;subst k
    obtain⟨k,h,hk,hxh⟩:=(hf x).1 hx
    exact m.apart k h (hl k h hk) x hxh
   |succ i=>exact m.apart _ z (hr i z (by simpa using k)) x hx
theorem Mem.deep {v:Value}{t1 t2:TypeId}{rows:List (Value×List Value)}:Mem W G w (.deep v t1 t2 rows::H)↔Mem W G w (parts v t1 t2 rows++H):=by
 refine Mem.group (λx=> ?_) ?_
 ·show x∈(parts v t1 t2 rows).flatMap Itm.foot0↔_
  rw[List.mem_flatMap]
  constructor
  ·rintro⟨h,hh,hx⟩
   obtain⟨i,hi,he⟩:=List.getElem_of_mem hh
   have hi':(parts v t1 t2 rows)[i]? =some h:=by simp[hi,he]
   exact⟨i,h,hi',by rw[(Bz hi').1];exact hx⟩
  ·rintro⟨i,h,hi,hx⟩
   exact⟨h,List.mem_of_getElem? hi,by rw[←(Bz hi).1];exact hx⟩
 ·constructor
  ·rintro⟨h1,h2⟩
   exact⟨λi h hi=>((Bz hi).2 w).2 (h1 i h hi),λi j a b hij ha hb=>by rw[(Bz ha).1,(Bz hb).1];exact h2 i j a b hij ha hb⟩
  ·rintro⟨h1,h2⟩
   exact⟨λi h hi=>((Bz hi).2 w).1 (h1 i h hi),λi j a b hij ha hb=>by rw[←(Bz ha).1,←(Bz hb).1];exact h2 i j a b hij ha hb⟩
end
def Ow2 {α:Type}(R:Rep α)(t1 t2:TypeId)(G:GH)(it:Itm)(v:Value)(xs:List (List α)):Prop:=
 ∃rows:List (Value×List Value),it= .deep v t1 t2 rows∧rows.length=xs.length∧∀(i:Nat) (r:Value×List Value) (x:List α),rows[i]? =some r→xs[i]? =some x→All2 (R G) r.2 x
section
variable {α : Type} {R : Rep α} {t1 t2 : TypeId} {W w : World} {G : GH} {it : Itm} {H : List Itm} {v : Value} {xs : List (List α)}
theorem Ow2.mono (hR:Cd R){G':GH}(hG:GLe G G')(h:Ow2 R t1 t2 G it v xs):Ow2 R t1 t2 G' it v xs:=by
 obtain⟨rows,h1,h2,h3⟩:=h
 exact⟨rows,h1,h2,λi r x hr hx=>(h3 i r x hr hx).mono (λv x=>hR G G' v x hG)⟩
theorem Ow2.outer {G':GH}(h:Ow2 R t1 t2 G it v xs){j:Nat}(m:Mem W G' w H)(hj:H[j]? =some it):∃rows,it= .deep v t1 t2 rows∧rows.length=xs.length∧w.ownsRow 0 t1 1 v xs.length (rows.map (·.1)):=by
 obtain⟨rows,rfl,h2,_⟩:=h
 refine⟨rows,rfl,h2,?_⟩
 have:=(m.items j _ hj).1 0 _ rfl
 rw[←h2];exact this
theorem Ow2.len {G':GH}(h:Ow2 R t1 t2 G it v xs){j:Nat}(m:Mem W G' w H)(hj:H[j]? =some it):
  ∃a c,v= .slice a xs.length c∧xs.length≤c∧c≤maxLen:=by
 obtain⟨rows,rfl,h2,this⟩:=h.outer m hj
 rcases this.2 with⟨h1,h2⟩|⟨g,cap,cur,h1,_,_,h2,h3,_⟩
 ·exact⟨none,0,by rw[h1,h2],by omega,by simp[maxLen]⟩
 ·exact⟨_,cap,h1,h2,h3⟩
theorem Ow2.cells (j:Nat)(m:Mem W G w H)(h:Ow2 R t1 t2 G it v xs)(hj:H[j]? =some it):v.cells= #[v]:=by
 obtain⟨a,c,rfl,_⟩:=h.len m hj;rfl
theorem Ow2.one1 (j:Nat)(m:Mem W G w H)(h:Ow2 R t1 t2 G it v xs)(hj:H[j]? =some it):v.oneCell'=true:=by
 obtain⟨a,c,rfl,_⟩:=h.len m hj;rfl
theorem rsl_of_row {G':GH}{β:Type}{S:Rep β}{t:TypeId}{v:Value}{n:Nat}{vs:List Value}{ys:List β}(hn:n=ys.length)(this:w.ownsRow 0 t 1 v n vs)(hg:∀x∈v.ownBlock.toList,G' x=w.heap[x]?)(hA:All2 (S G') vs ys):RSl S G' v ys:=by
 subst hn
 refine⟨vs,hA,?_⟩
 rcases this.2 with⟨e1,e2⟩|⟨g,cap,cur,e1,_,eh,e2,e3,e4,e5⟩
 ·exact .inl ⟨e1,List.eq_nil_of_length_eq_zero e2⟩
 ·refine .inr ⟨⟨g,0,none⟩,cap,e1,e2,e3,λj c hc=>⟨rfl,cur,t,(0,0),?_,?_⟩⟩
  ·rw[hg g (by rw[e1];simp[Value.ownBlock]),eh]
  ·rw[←e5,List.getElem?_take] at hc
   split at hc
   ·simpa using hc
   ·cases hc
theorem Ow2.read (hR:Cd R){G':GH}(hG:GLe G G')(h:Ow2 R t1 t2 G it v xs)(ok:it.ok w)(hg:∀x∈it.foot,G' x=w.heap[x]?):RSl (RSl R) G' v xs:=by
 obtain⟨rows,rfl,h2,h3⟩:=h
 have hf:∀(i:Nat) (p:Itm),(parts v t1 t2 rows)[i]? =some p→∀x∈p.foot0,G' x=w.heap[x]? :=λi p hp x hx=>hg x (List.mem_flatMap.2 ⟨p,List.mem_of_getElem? hp,hx⟩)
 refine rsl_of_row h2 (ok.1 0 _ rfl) (hf 0 _ rfl) ⟨by simp[h2],λi c x hc hx=> ?_⟩
 rw[List.getElem?_map] at hc
 cases hr:rows[i]? with
 |none=>simp[hr] at hc
 |some r=>
  simp[hr] at hc;subst hc
  have hp:(parts v t1 t2 rows)[i+1]? =some (B1 t2 r):=by simp[parts,hr]
  have hA:=(h3 i r x hr hx).mono (λv x=>hR G G' v x hG)
  exact rsl_of_row hA.1 (ok.1 _ _ hp) (hf _ _ hp) hA
theorem Ow2.nil {α:Type}(R:Rep α)(t1 t2:TypeId){W w:World}{G:GH}{H:List Itm}(m:Mem W G w H):
  ∃it,Mem W G w (it::H)∧Ow2 R t1 t2 G it (.slice none 0 0) []:=
 ⟨.deep (.slice none 0 0) t1 t2 [],Mem.deep.2 (m.nilrow t1 1),[],rfl,rfl,by simp⟩
theorem Ow2.lend (hR:Cd R)(h:Ow2 R t1 t2 G it v xs)(m:Mem W G w (it::H)):
  ∃G',GLe G G'∧Mem W G' w H∧RSl (RSl R) G' v xs∧
   ∀G'' w' H',GLe G' G''→Mem W G'' w' H'→∃G₃,GLe G G₃∧Mem W G₃ w' (it::H')∧Ow2 R t1 t2 G₃ it v xs:=by
 obtain⟨G',h1,h2,h3,h4⟩:=m.stamp
 have hok:it.ok w:=m.items 0 it (by simp)
 have hap:∀x∈it.foot,G x=none:=m.apart 0 it (by simp)
 have hlt:=Itm.lt hok
 refine⟨G',h1,h2,h.read hR h1 hok h3,λG'' w' H' hle m'=> ?_⟩
 have hx:∀x∈it.foot,G'' x=w.heap[x]? :=λx hx=>by
  have hl:=hlt x hx
  have:G' x=some w.heap[x]:=by rw[h3 x hx];simp[hl]
  rw[hle x _ this];simp[hl]
 refine⟨_,λb o k=> ?_,m'.unstamp hx hok (λi z hz x hxz hxi=> ?_) (λx hxi=> ?_),?_⟩
 ·have:b∉it.foot:=λhx=>by rw[hap b hx] at k;cases k
  simp[this,hle b o (h1 b o k)]
 ·have h5:=m'.apart i z hz x hxz
  have hl:=hlt x hxi
  rw[hx x hxi] at h5
  simp[hl] at h5
 ·cases hg:W.heap[x]? with
  |none=>rfl
  |some o=>have h5:=m.base x o hg;rw[hap x hxi] at h5;cases h5
 ·refine h.mono hR (λb o k=> ?_)
  have:b∉it.foot:=λhx=>by rw[hap b hx] at k;cases k
  simp[this,hle b o (h1 b o k)]
theorem Ow2.lendCall {P:Program}{g:FuncId}{args:Array Value}(hR:Cd R){Q:GH→List Itm→Value→Prop}(j:Nat)
  (h:Ow2 R t1 t2 G it v xs) (m:Mem W G w H) (hj:H[j]? =some it)
  (hc:∀G₁,GLe G G₁→Mem W G₁ w (H.eraseIdx j)→RSl (RSl R) G₁ v xs→Calls P g args w (Res W G₁ (H.eraseIdx j) Q)) (hQ:∀G G' Ho v,Q G Ho v→Q G' Ho v):Calls P g args w (Res W G H Q):=by
 obtain⟨G₁,h1,m1,h2,back⟩:=h.lend hR (m.front j hj)
 refine(hc G₁ h1 m1 h2).mono λe w' ⟨r,he,G₂,Ho,h3,m2,hq⟩=> ?_
 obtain⟨G₃,h4,m3,_⟩:=back G₂ w' _ h3 m2
 refine⟨r,he,G₃,Ho,h4,?_,hQ _ _ _ _ hq⟩
 have hl:j<H.length:=(List.getElem?_eq_some_iff.1 hj).1
 have m4:=m3.back (Ho.length+j) (by simp[List.length_eraseIdx,hl];omega)
 have e:(Ho++H.eraseIdx j).take (Ho.length+j)++it::(Ho++H.eraseIdx j).drop (Ho.length+j)=Ho++H:=by
  rw[List.take_length_add_append,List.drop_length_add_append,List.append_assoc]
  congr 1
  rw[B9 H j it hl]
  apply List.ext_getElem?
  intro k
  rw[List.getElem?_set]
  split
  ·rename_i e;subst e;simp[hl] at hj ⊢;exact hj.symm
  ·rfl
 rw[e] at m4
 exact m4
end
theorem Ow2.free {α:Type}{R:Rep α}(hR:Free R){t1 t2:TypeId}{G:GH}(G':GH){it:Itm}{v:Value}{xs:List (List α)}(h:Ow2 R t1 t2 G it v xs):Ow2 R t1 t2 G' it v xs:=by
 obtain⟨rows,h1,h2,h3⟩:=h
 exact⟨rows,h1,h2,λi r x hr hx=>(h3 i r x hr hx).mono (λv x=>hR G G' v x)⟩
def RawS :Rep Value:=λ_ v x=>v=x∧v.oneCell'=true∧v.cells= #[v]
theorem RawS.mono :Cd RawS:=λ_ _ _ _ _ h=>h
theorem RawS.one :One RawS:=λ_ v x h=>h.2
theorem raw_of {vs:List Value}{G:GH}(h:∀c∈vs,c.oneCell'=true∧c.cells= #[c]):All2 (RawS G) vs vs:=
 ⟨rfl,λi c x h1 h2=>by rw[h1] at h2;cases h2;exact⟨rfl,h c (List.mem_of_getElem? h1)⟩⟩
theorem raw_eq {vs xs:List Value}{G:GH}(h:All2 (RawS G) vs xs):vs=xs:=by
 apply List.ext_getElem h.1
 intro i h1 h2
 exact(h.2 i vs[i] xs[i] (by simp[h1]) (by simp[h2])).1
theorem inner_of {α:Type}{R:Rep α}{t2:TypeId}{G:GH}{it:Itm}{h:Value}{e:List α}(k:Ow R t2 G it h e):∃vs,it=B1 t2 (h,vs)∧All2 (R G) vs e:=by
 obtain⟨vs,rfl,hA⟩:=k
 exact⟨vs,by simp[B1,hA.1],hA⟩
theorem one_of_row {w:World}{t:TypeId}{v:Value}{n:Nat}{vs:List Value}(h:w.ownsRow 0 t 1 v n vs):v.oneCell'=true∧v.cells= #[v]:=by
 rcases h.2 with⟨rfl,_⟩|⟨g,cap,cur,rfl,_⟩<;>exact⟨rfl,rfl⟩
theorem heads_one {W w:World}{G:GH}{H:List Itm}{v:Value}{t1 t2:TypeId}{rows:List (Value×List Value)}(m:Mem W G w (parts v t1 t2 rows++H)):∀c∈rows.map (·.1),c.oneCell'=true∧c.cells= #[c]:=by
 intro c hc
 obtain⟨r,hr,rfl⟩:=List.mem_map.1 hc
 obtain⟨i,hi,he⟩:=List.getElem_of_mem hr
 have hp:(parts v t1 t2 rows++H)[i+1]? =some (B1 t2 r):=by
  rw[List.getElem?_append_left (by simp[parts];omega)];simp[parts,hi,he]
 exact one_of_row (m.items _ _ hp)
theorem ow_outer {W w:World}{G:GH}{H:List Itm}{v:Value}{t1 t2:TypeId}{rows:List (Value×List Value)}(m:Mem W G w (parts v t1 t2 rows++H)):Ow RawS t1 G (.row v t1 1 rows.length (rows.map (·.1))) v (rows.map (·.1)):=
 ⟨rows.map (·.1),by simp,raw_of (heads_one m)⟩
section
variable {P : Program} {ops : Array Oper} {rest : List Oper} {n r : AH} {x : List (Nat × AH)} {a : Act} {w W : World} {G : GH} {H : List Itm} {N : Nat} {L : AG}
variable {d : Nat} {t : TypeId} {pos : String} {af : Array Edge} {α : Type} {R : Rep α} {t1 t2 : TypeId} {xs : List (List α)} {v : Value}
theorem l_own2_len {it:Itm}{u e:Nat}{xo:Operand}(j:Nat)(m:Mem W G w H)(h:Ow2 R t1 t2 G it v xs)(hj:H[j]? =some it)
  (hu:P.underlying u=some (.slice e)) (f:Fr a N L) (hN:Nat.blt d N=true) (hx:Aq L xo=some v)
  (q:∀a',Fr a' N ((d,.int .i64 (xs.length:Int))::L)→wpList P ops (Qk n x r) rest a' w):
  wpList P ops (Qk n x r) (⟨some d,.call {callee:= .builtin .len,args:= #[xo],argTypes:= #[u]},t,pos,af,none⟩::rest) a w:=by
 obtain⟨b,c,rfl,_⟩:=h.len m hj
 exact Bp f rfl rfl hN (r_len (f.eval hx) hu) q
theorem l_append2 {u bytes:Nat}{z:Value}{dp inn src:Itm}{y h:Value}{e:List α}{zs:List (List α)}{s xo:Operand}(m:Mem W G w (dp::inn::src::H))(hd:Ow2 R t1 t2 G dp v xs)(hi:Ow R t2 G inn h e)(hs0:Ow RawS t1 G src y [h])
  (hu:SlT P u t1 1 bytes z) (hzc:z.cells.size=1) (hb:bytes≤32768) (f:Fr a N L) (hN:Nat.blt d N=true) (hs:Aq L s=some v) (hx:Aq L xo=some y) (hz:Ay xs [e]=some zs)
  (k:∀dp' v' w' a',Mem W G w' (dp'::H)→Ow2 R t1 t2 G dp' v' zs→Fr a' N ((d,v')::L)→wpList P ops (Qk n x r) rest a' w'):
  wpList P ops (Qk n x r) (⟨some d,.call {callee:= .builtin .append,args:= #[s,xo],argTypes:= #[u,u]},t,pos,af,none⟩::rest) a w:=by
 obtain⟨rows,rfl,hl,hA⟩:=hd
 obtain⟨vs,rfl,hiA⟩:=inner_of hi
 have m2:=Mem.deep.1 m
 have ho:=ow_outer m2
 have hsrc:∃vs,Src w y [h].length vs∧All2 (RawS G) vs [h]:=Ow.src (j:=2) hs0 m rfl
 unfold Ay at hz
 split at hz
 ·rename_i hle
  obtain rfl:=Option.some.inj hz
  refine Bw RawS.one 0 m2 ho rfl hu hzc hb f hN hs hx (ys:=[h]) (zs:=rows.map (·.1)++[h]) hsrc (by simp[Ay] at hle ⊢;omega) (λit' v' w' a' m3 ho' f'=> ?_)
  obtain⟨vs',rfl,hR⟩:=ho'
  obtain rfl:=raw_eq hR
  have e1:(parts v t1 t2 rows++B1 t2 (h,vs)::src::H).set 0 (.row v' t1 1 (rows.map (·.1)++[h]).length (rows.map (·.1)++[h]))=parts v' t1 t2 (rows++[(h,vs)])++src::H:=by
   simp[parts]
  rw[e1] at m3
  have m4:Mem W G w' (.deep v' t1 t2 (rows++[(h,vs)])::src::H):=Mem.deep.2 m3
  refine k _ v' w' a' (m4.eraseAt 1) ⟨_,rfl,by simp[hl],λi r0 x0 hr hx0=> ?_⟩ f'
  by_cases hi:i<rows.length
  ·rw[List.getElem?_append_left hi] at hr
   rw[List.getElem?_append_left (by omega)] at hx0
   exact hA i r0 x0 hr hx0
  ·rw[List.getElem?_append_right (by omega)] at hr
   rw[List.getElem?_append_right (by omega)] at hx0
   have hi0:i=rows.length:=by
    have:=(List.getElem?_eq_some_iff.1 hr).1
    simp at this;omega
   subst hi0
   simp at hr;subst hr
   rw[hl] at hx0
   simp at hx0;subst hx0
   exact hiA
 ·cases hz
theorem l_own2_at {it:Itm}{u e bytes:Nat}{z:Value}{xo io:Operand}{k:IntKind}{i:Int}{y:List α}(j:Nat)(m:Mem W G w H)(h:Ow2 R t1 t2 G it v xs)(hj:H[j]? =some it)
  (hu:SlT P u e 1 bytes z) (f:Fr a N L) (hN:Nat.blt d N=true) (hx:Aq L xo=some v) (hi:Aq L io=some (.int k i)) (he:idx xs i=some y)
  (q:∀p a',Cr v p i→Fr a' N ((d,p)::L)→wpList P ops (Qk n x r) rest a' w):
  wpList P ops (Qk n x r) (⟨some d,.indexAddr u xo io,t,pos,af,none⟩::rest) a w:=by
 obtain⟨g0,g1,_⟩:=BL he
 obtain⟨rows,rfl,hl,_⟩:=h
 have m2:=Mem.deep.1 (m.front j hj)
 have hlt:i.toNat<rows.length:=by omega
 exact B2 0 m2 (ow_outer m2) rfl hu f hN hx hi (y:=(rows[i.toNat]'hlt).1) (by unfold idx;rw[if_pos g0];simp[hlt]) q
def Head (it:Itm)(i:Int)(c:Value):Prop:=∃v t1 t2 rows r,it= .deep v t1 t2 rows∧rows[i.toNat]? =some r∧c=r.1
theorem l_own2_load {it:Itm}{u:Nat}{p:Value}{xo:Operand}{i:Int}{y:List α}(j:Nat)(m:Mem W G w H)(h:Ow2 R t1 t2 G it v xs)(hj:H[j]? =some it)
  (hp:Br P u) (f:Fr a N L) (hN:Nat.blt d N=true) (hx:Aq L xo=some p) (ha:Cr v p i) (he:idx xs i=some y)
  (q:∀c a',Head it i c→Fr a' N ((d,c)::L)→wpList P ops (Qk n x r) rest a' w):
  wpList P ops (Qk n x r) (⟨some d,.load u xo,t,pos,af,none⟩::rest) a w:=by
 obtain⟨g0,g1,_⟩:=BL he
 obtain⟨rows,rfl,hl,_⟩:=h
 have m2:=Mem.deep.1 (m.front j hj)
 have hlt:i.toNat<rows.length:=by omega
 exact BR 0 m2 (ow_outer m2) rfl hp f hN hx ha (y:=(rows[i.toNat]'hlt).1) (by unfold idx;rw[if_pos g0];simp[hlt]) (λc a' hc f'=>q c a' ⟨v,t1,t2,rows,rows[i.toNat],rfl,by simp[hlt],hc.1⟩ f')
end
theorem Ow2.callAt {P:Program}{g:FuncId}{args:Array Value}{α:Type}{R:Rep α}{t1 t2:TypeId}{W w:World}{G:GH}{H:List Itm}{it:Itm}{v c val:Value}{xs:List (List α)}{e e':List α}{i:Int}
  (h:Ow2 R t1 t2 G it v xs) (hR:Cd R) (m:Mem W G w (it::H)) (hi:idx xs i=some e) (hc:Head it i c)
  (k:∀inn Hs,Mem W G w (inn::Hs)→Ow R t2 G inn c e→Calls P g args w (Res W G Hs (λG' Ho r=>∃i0,Ho=[i0]∧r=val∧Ow R t2 G' i0 c e'))):
  Calls P g args w (Res W G H (λG' Ho r=>∃i0,Ho=[i0]∧r=val∧Ow2 R t1 t2 G' i0 v (xs.set i.toNat e'))):=by
 obtain⟨rows,rfl,hl,hA⟩:=h
 obtain⟨v0,s1,s2,rows0,r,e0,hr,rfl⟩:=hc
 cases e0
 obtain⟨g0,g1,g2⟩:=BL hi
 have hlt:i.toNat<rows.length:=by omega
 have m2:=Mem.deep.1 m
 have hp:(parts v t1 t2 rows++H)[i.toNat+1]? =some (B1 t2 r):=by
  rw[List.getElem?_append_left (by simp[parts];omega)];simp[parts,hr]
 have m3:=m2.front (i.toNat+1) hp
 have hAr:=hA _ r e hr g2
 refine(k (B1 t2 r) _ m3 ⟨r.2,by simp[B1,hAr.1],hAr⟩).mono λen w' ⟨u,he,G',Ho,hG,m4,i0,e1,e2,ho⟩=> ?_
 subst e1 e2
 obtain⟨vs,rfl,hiA⟩:=inner_of ho
 have m4':Mem W G' w' (B1 t2 (r.1,vs)::(parts v t1 t2 rows++H).eraseIdx (i.toNat+1)):=m4
 have m5:=m4'.back (i.toNat+1) (by rw[List.length_eraseIdx,if_pos (by simp[parts];omega)];simp[parts];omega)
 have e3:((parts v t1 t2 rows++H).eraseIdx (i.toNat+1)).take (i.toNat+1)++B1 t2 (r.1,vs)::((parts v t1 t2 rows++H).eraseIdx (i.toNat+1)).drop (i.toNat+1)=parts v t1 t2 (rows.set i.toNat (r.1,vs))++H:=by
  have:=B9 (parts v t1 t2 rows++H) (i.toNat+1) (B1 t2 (r.1,vs)) (by simp[parts];omega)
  rw[this,List.set_append,if_pos (by simp[parts];omega)]
  congr 1
  have e4:(rows.map (·.1)).set i.toNat r.1=rows.map (·.1):=by
   apply List.ext_getElem?
   intro k
   rw[List.getElem?_set]
   split
   ·rename_i hk;subst hk;simp[hlt];exact((List.getElem?_eq_some_iff.1 hr).2▸rfl)
   ·rfl
  simp[parts,List.map_set,e4]
 rw[e3] at m5
 refine⟨u,he,G',[.deep v t1 t2 (rows.set i.toNat (r.1,vs))],hG,Mem.deep.2 m5,_,rfl,rfl,_,rfl,by simp[hl],λk' r0 x0 hr0 hx0=> ?_⟩
 rw[List.getElem?_set] at hr0 hx0
 by_cases hk:i.toNat=k'
 ·subst hk
  simp[hlt] at hr0
  rw[if_pos rfl,if_pos (by omega)] at hx0
  subst hr0;cases hx0
  exact hiA
 ·rw[if_neg hk] at hr0 hx0
  exact(hA k' r0 x0 hr0 hx0).mono (λv x=>hR G G' v x hG)
theorem Ow2.of_empty {α:Type}(R:Rep α){t1:TypeId}(t2:TypeId){W w:World}{G:GH}{H:List Itm}{it:Itm}{v:Value}(m:Mem W G w (it::H))(h:Ow RawS t1 G it v []):∃it',Mem W G w (it'::H)∧Ow2 R t1 t2 G it' v []:=by
 obtain⟨vs,rfl,hA⟩:=h
 obtain rfl:=raw_eq hA
 exact⟨.deep v t1 t2 [],Mem.deep.2 m,[],rfl,rfl,by simp⟩
end Go.Sx

namespace Go.Sx
def Be (s:ByteArray)(i:Int):Option Int:=if 0≤i then(s[i.toNat]?).map (λb=>(b.toNat:Int)) else none
theorem Cv {P:Program}{ρ:Operand→Value}{w:World}{d:Option Tmp}{t:TypeId}{pos:String}{af:Array Edge}{gd:Option (Nat×Bool)}{u:TypeId}{x io:Operand}{s:ByteArray}{k:IntKind}{i y:Int}
  (hx:ρ x= .string s) (hi:ρ io= .int k i) (hu:P.underlying u=some .string) (h:Be s i=some y):
  (execOp ρ ⟨d,.index u x io,t,pos,af,gd⟩).run P w= .ok (.value (.int .u8 y)) w:=by
 unfold Be at h
 split at h
 ·rename_i h0
  cases hb:s[i.toNat]? with
  |none=>rw[hb] at h;cases h
  |some b=>
   rw[hb] at h
   simp only[Option.map_some,Option.some.injEq] at h
   subst h
   simp[execOp,hx,hi,Instr.index,asIntOf,run_underlying hu,h0,hb]
 ·cases h
abbrev iv (x:Int):Value:= .int .i64 x
abbrev pb (b:Nat):Value:= .pointer (some ⟨b,0,none⟩)
abbrev sn :Value:= .slice none 0 0
abbrev LI :=List Int
abbrev LL :=List (List Int)
abbrev R0 :Rep Int:=RI .i64
abbrev R1 :Rep (List Int):=RSl (RI .i64)
abbrev R2 :Rep (List (List Int)):=RSl (RSl (RI .i64))
theorem cT {α:Type}{a b:α}:cond true a b=a:=rfl
theorem cF {α:Type}{a b:α}:cond false a b=b:=rfl
theorem lb {n m:Nat}(h:Nat.ble n m=true):n≤m:=Nat.le_of_ble_eq_true h
abbrev ib (b:Nat)(t:TypeId)(cs:List Value):Itm:= .box b t cs
theorem bs {α β : Type} {a : α} {f : α → Option β} : (some a).bind f = f a := rfl
theorem wq (i:Nat)(h:i<4611686018427387904:=by omega):IntKind.i64.wrap ((i:Int)+1)=((i+1:Nat):Int):=by
 simp[IntKind.wrap,IntKind.signed,IntKind.bits];omega
theorem Bd {α β:Type}{o:Option α}{f:α→Option β}{y:β}{P:Prop}(h:o.bind f=some y)(k:∀x,o=some x→f x=some y→P):P:=by
 obtain⟨x,h1,h2⟩:=bind_some h
 exact k x h1 h2
theorem sj {α:Type}{x y:α}(h:some x=some y):x=y:=Option.some.inj h
theorem Z {α:Sort _}{a:α}:a=a:=rfl
def sbl (L:AG):AG→List (Option Value)
 |[]=>[]
 |(k,_)::r=>look L k::sbl L r
def sov :AG→List (Option Value)
 |[]=>[]
 |(_,v)::r=>some v::sov r
theorem Mem.fr {W w:World}{G:GH}{H:List Itm}(m:Mem W G w H)(j:Nat){x:Itm}(h:H[j]? =some x:=by rfl):Mem W G w (x::H.eraseIdx j):=m.front j h
theorem Mem.dp {W w : World} {G : GH} {H : List Itm} (m : Mem W G w H) (k : Nat) : Mem W G w (H.drop k) := Mem.drop (H' := H.take k) (by rw [List.take_append_drop]; exact m)
theorem sub_of {L:AG}:∀{L':AG},sbl L L'=sov L'→Sub L' L
 |[],_=>trivial
 |(k,v)::r,h=>by
  unfold sbl sov at h
  injection h with h1 h2
  exact⟨h1,sub_of h2⟩
theorem Fr.k {a:Act}{N:Nat}{L L':AG}(f:Fr a N L)(h:sbl L L'=sov L'):Fr a N L':=f.weak (sub_of h)
theorem Fr.g {a:Act}{N:Nat}{L:AG}(f:Fr a N L){s:Nat}{v:Value}(h:look L s=some v):a.tmps.getD s undef=v∧True:=⟨f.get s v h,trivial⟩
theorem Fr.d {a:Act}{N:Nat}{L:AG}(f:Fr a N L):a.defers=[]:=f.defers
theorem Fr.e {a:Act}{N:Nat}{L:AG}{x:Operand}{v:Value}(f:Fr a N L)(h:Aq L x=some v):a.eval x=v:=f.eval h
section
variable {P : Program} {ops : Array Oper} {rest : List Oper} {n r : AH} {x : List (Nat × AH)} {a : Act} {w : World} {N : Nat} {L : AG} {d : Nat} {t : TypeId} {pos : String} {af : Array Edge} {v : Value} {xo yo : Operand}
theorem Ab (f:Fr a N L)(hx:Aq L xo=some v)(k:∀a',Fr a' N ((d,v)::L)→wpList P ops (Qk n x r) rest a' w)(hN:Nat.blt d N=true:=by rfl):
  wpList P ops (Qk n x r) (⟨some d,.move xo,t,pos,af,none⟩::rest) a w:=Bp f rfl rfl hN (r_move (f.eval hx)) k
theorem Ac (f:Fr a N L)(hx:Aq L xo=some v)(k:∀a',Fr a' N ((d,v)::L)→wpList P ops (Qk n x r) rest a' w)(hN:Nat.blt d N=true:=by rfl):
  wpList P ops (Qk n x r) (⟨some d,.assign xo,t,pos,af,none⟩::rest) a w:=Bp f rfl rfl hN (CS (f.eval hx)) k
theorem Ai {op:BinOp}{k:IntKind}{u:TypeId}{m q:Int}(f:Fr a N L)(hx:Aq L xo=some (.int k m))(hy:Aq L yo=some (.int k q))(h:∀w,(binOp op u (.int k m) (.int k q)).run P w= .ok v w)
  {u':TypeId} (k:∀a',Fr a' N ((d,v)::L)→wpList P ops (Qk n x r) rest a' w) (hN:Nat.blt d N=true:=by rfl):wpList P ops (Qk n x r) (⟨some d,.binOp op u xo yo u',t,pos,af,none⟩::rest) a w:=
 Bp f rfl rfl hN (BY (f.eval hx) (f.eval hy) h) k
theorem l_o {op:Op}(f:Fr a N L)(hr:(execOp a.eval ⟨some d,op,t,pos,af,none⟩).run P w= .ok (.value v) w)
  (k:∀a',Fr a' N ((d,v)::L)→wpList P ops (Qk n x r) rest a' w) (hN:Nat.blt d N=true:=by rfl):wpList P ops (Qk n x r) (⟨some d,op,t,pos,af,none⟩::rest) a w:=
 Bp f rfl rfl hN hr k
theorem gs_of {j:Nat}{b:Value}(h:((ops[j]?).bind (·.dst)).bind (look L)=some b):∃s,(ops[j]?).bind (·.dst)=some s∧look L s=some b:=Option.bind_eq_some_iff.1 h
theorem Am {op:Op}{j:Nat}{b c:Bool}(f:Fr a N L)(hc:c= !b)(k:∀a',Fr a' N ((d,undef)::L)→wpList P ops (Qk n x r) rest a' w)
  (hs:((ops[j]?).bind (·.dst)).bind (look L)=some (.bool c):=by rfl) (hN:Nat.blt d N=true:=by rfl):
  wpList P ops (Qk n x r) (⟨some d,op,t,pos,af,some (j,b)⟩::rest) a w:=by
 obtain⟨s,h1,h2⟩:=gs_of hs
 exact l_not' f hN h1 h2 hc k
theorem Al {dst:Option Tmp}{op:Op}{j:Nat}{b c:Bool}(f:Fr a N L)(hc:c=b)(k:wpList P ops (Qk n x r) (⟨dst,op,t,pos,af,none⟩::rest) a w)
  (hs:((ops[j]?).bind (·.dst)).bind (look L)=some (.bool c):=by rfl):
  wpList P ops (Qk n x r) (⟨dst,op,t,pos,af,some (j,b)⟩::rest) a w:=by
 obtain⟨s,h1,h2⟩:=gs_of hs
 exact l_run f h1 h2 hc k
theorem BJ {b i:Nat}{s fi:Nat}{fs:Array Field}{fl:Field}{sz:Nat}(hs:P.underlying s=some (.struct fs))(hf:fs[fi]? =some fl)
  (hz:∀w,(sizeOf fl.type).run P w= .ok sz w) (f:Fr a N L) (hx:Aq L xo=some (.pointer (some ⟨b,i,none⟩)))
  (k:∀a',Fr a' N ((d,.pointer (some ⟨b,i+fl.offset,none⟩))::L)→wpList P ops (Qk n x r) rest a' w) (hz0:sz≠0:=by decide) (hN:Nat.blt d N=true:=by rfl):
  wpList P ops (Qk n x r) (⟨some d,.fieldAddr s xo fi,t,pos,af,none⟩::rest) a w:=l_fieldAddr hs hf hz hz0 f hN hx k
theorem Bs {W:World}{G:GH}{H:List Itm}{g:FuncId}{args:List Operand}{tys:Array TypeId}{vs:List Value}{Q:GH→List Itm→Value→Prop}(f:Fr a N L)
  (hargs:evalAll L args=some vs) (hcall:∀(ars:Array Value) (w:World),(callFunc g ars).run P w= .ok (.enter g ars) w)
  (hc:Calls P g vs.toArray w (Res W G H Q))
  (k:∀v G' Ho w',GLe G G'→Mem W G' w' (Ho++H)→Q G' Ho v→∀a',Fr a' N ((d,v)::L)→wpList P ops (Qk n x r) rest a' w') (hN:Nat.blt d N=true:=by rfl):
  wpList P ops (Qk n x r) (⟨some d,.call {callee:= .value (.func g),args:=args.toArray,argTypes:=tys},t,pos,af,none⟩::rest) a w:=l_res f hN hargs hcall hc k
theorem Bh {W:World}{G:GH}{H:List Itm}{g:FuncId}{args:List Operand}{tys:Array TypeId}{vs:List Value}{z:Value}(f:Fr a N L)
  (hargs:evalAll L args=some vs) (hcall:∀(ars:Array Value) (w:World),(callFunc g ars).run P w= .ok (.enter g ars) w)
  (hc:Calls P g vs.toArray w (Res W G H λ_ Ho v=>Ho=[]∧v=z))
  (k:∀G' w',GLe G G'→Mem W G' w' H→∀a',Fr a' N ((d,z)::L)→wpList P ops (Qk n x r) rest a' w') (hN:Nat.blt d N=true:=by rfl):
  wpList P ops (Qk n x r) (⟨some d,.call {callee:= .value (.func g),args:=args.toArray,argTypes:=tys},t,pos,af,none⟩::rest) a w:=
 l_res f hN hargs hcall hc λv G' Ho w' hl m hQ a' f'=>by obtain⟨rfl,rfl⟩:=hQ;exact k G' w' hl m a' f'
theorem l_ro {W : World} {G : GH} {H : List Itm} {g : FuncId} {args : List Operand} {tys : Array TypeId} {vs : List Value} {Q : GH → Itm → Value → Prop} (f : Fr a N L)
    (hargs : evalAll L args = some vs) (hcall : ∀ (ars : Array Value) (w : World), (callFunc g ars).run P w = .ok (.enter g ars) w)
    (hc : Calls P g vs.toArray w (Res W G H fun G' Ho v => ∃ r0 : Value, ∃ i0 : Itm, Ho = [i0] ∧ r0 = v ∧ Q G' i0 r0))
    (k : ∀ v it G' w', GLe G G' → Mem W G' w' (it :: H) → Q G' it v → ∀ a', Fr a' N ((d, v) :: L) → wpList P ops (Qk n x r) rest a' w') (hN : Nat.blt d N = true := by rfl) :
    wpList P ops (Qk n x r) (⟨some d, .call { callee := .value (.func g), args := args.toArray, argTypes := tys }, t, pos, af, none⟩ :: rest) a w :=
  l_res f hN hargs hcall hc fun v G' Ho w' hl m hQ a' f' => by obtain ⟨v, it, rfl, rfl, h⟩ := hQ; exact k v it G' w' hl m h a' f'
theorem Ae {id:Nat}{c:Code}{l:List Oper}(h:wpList P l.toArray (Qk (λa w=>c.wp P (Qk n x r) a w) x r) l a w):(Code.seq (.region id l.toArray false) c).wp P (Qk n x r) a w:=Ag (Ap h)
theorem AI {id:Nat}{c:Code}{l:List Oper}{x':List (Nat×AH)}{r':AH}(h:wpList P l.toArray (Qk (λa w=>c.wp P (Qk n x r) a w) x r) l a w):wpList P ops (Qk (λa w=>(Code.seq (.region id l.toArray false) c).wp P (Qk n x r) a w) x' r') [] a w:=Aa (Ae h)
end
section
variable {P : Program} {ops : Array Oper} {nn r : AH} {x : List (Nat × AH)} {a : Act} {W : World} {T : Act → World → Prop} {H E : List Itm} {G : GH} {N fuel : Nat} {L : AG} {listed : Array Bool} {d : Nat} {t : TypeId} {pos : String} {af : Array Edge} {v : Value} {xo yo io : Operand} {g : Option (Nat × Bool)}
theorem wo {op:Op}{j:Nat}{b c:Bool}(f:Fr a N L)(hc:c=b)(hs:((ops[j]?).bind (·.dst)).bind (look L)=some (.bool c):=by rfl):
  Region.wanted ⟨some d,op,t,pos,af,some (j,b)⟩ (yielded ops a.tmps)=true:=by
 obtain⟨s,h1,h2⟩:=gs_of hs
 exact wanted_of f rfl h1 h2 hc
theorem AC (i n:Nat)(hi:ops[i]? =some ⟨some d,.move xo,t,pos,af,g⟩)(f:Fr a N L)(hx:Aq L xo=some v)
  (k:∀a',Fr a' N ((d,v)::L)→AnyB W P ops (Qk nn x r) T H fuel G E (listed.setIfInBounds i true) a')
  (hck:Bb ops n fuel listed i=true:=by as_aux_lemma=>kernel_rfl) (hw:Region.wanted ⟨some d,.move xo,t,pos,af,g⟩ (yielded ops a.tmps)=true:=by rfl) (hN:Nat.blt d N=true:=by rfl):AnyB W P ops (Qk nn x r) T H (fuel+1) G E listed a:=
 q_op n hi hck rfl f hw rfl hN (λ_ _ _ _ _=>r_move (f.eval hx)) k
theorem q_p {op:Op}(i n:Nat)(hi:ops[i]? =some ⟨some d,op,t,pos,af,g⟩)(f:Fr a N L)(hr:∀w,(execOp a.eval ⟨some d,op,t,pos,af,g⟩).run P w= .ok (.value v) w)
  (k:∀a',Fr a' N ((d,v)::L)→AnyB W P ops (Qk nn x r) T H fuel G E (listed.setIfInBounds i true) a')
  (hck:Bb ops n fuel listed i=true:=by as_aux_lemma=>kernel_rfl) (hw:Region.wanted ⟨some d,op,t,pos,af,g⟩ (yielded ops a.tmps)=true:=by rfl) (hN:Nat.blt d N=true:=by rfl):AnyB W P ops (Qk nn x r) T H (fuel+1) G E listed a:=
 q_op n hi hck rfl f hw rfl hN (λ_ _ w _ _=>hr w) k
theorem Bt {op:Op}{j:Nat}{b c:Bool}(i n:Nat)(hi:ops[i]? =some ⟨some d,op,t,pos,af,some (j,b)⟩)(f:Fr a N L)(hc:c= !b)
  (k:∀a',Fr a' N ((d,undef)::L)→AnyB W P ops (Qk nn x r) T H fuel G E (listed.setIfInBounds i true) a')
  (hs:((ops[j]?).bind (·.dst)).bind (look L)=some (.bool c):=by rfl) (hck:Bb ops n fuel listed i=true:=by as_aux_lemma=>kernel_rfl) (hN:Nat.blt d N=true:=by rfl):AnyB W P ops (Qk nn x r) T H (fuel+1) G E listed a:=by
 obtain⟨s,h1,h2⟩:=gs_of hs
 exact q_not n hi hck rfl f rfl h1 h2 hc rfl hN k
theorem q_nu {op:Op}{j:Nat}{b:Bool}(i n:Nat)(hi:ops[i]? =some ⟨some d,op,t,pos,af,some (j,b)⟩)(f:Fr a N L)
  (k:∀a',Fr a' N ((d,undef)::L)→AnyB W P ops (Qk nn x r) T H fuel G E (listed.setIfInBounds i true) a')
  (hs:((ops[j]?).bind (·.dst)).bind (look L)=some undef:=by rfl) (hck:Bb ops n fuel listed i=true:=by as_aux_lemma=>kernel_rfl) (hN:Nat.blt d N=true:=by rfl):AnyB W P ops (Qk nn x r) T H (fuel+1) G E listed a:=by
 obtain⟨s,h1,h2⟩:=gs_of hs
 exact q_notU n hi hck rfl f rfl h1 h2 rfl hN k
theorem B3 {α:Type}{R:Rep α}{tt:TypeId}{it:Itm}{xs:List α}{u e bytes:Nat}{z:Value}{k0:IntKind}{jx:Int}{y:α}{w₀:World}{G₀:GH}{H₀:List Itm}(i n j:Nat)(m:Mem W G₀ w₀ H₀)(h:Ow R tt G it v xs)
  (hu:SlT P u e 1 bytes z) (he:idx xs jx=some y) (hi:ops[i]? =some ⟨some d,.indexAddr u xo io,t,pos,af,g⟩) (f:Fr a N L) (hx:Aq L xo=some v) (hio:Aq L io=some (.int k0 jx))
  (k:∀p a',Cr v p jx→Fr a' N ((d,p)::L)→AnyB W P ops (Qk nn x r) T H fuel G E (listed.setIfInBounds i true) a')
  (hj:H₀[j]? =some it:=by rfl) (hck:Bb ops n fuel listed i=true:=by as_aux_lemma=>kernel_rfl) (hw:Region.wanted ⟨some d,.indexAddr u xo io,t,pos,af,g⟩ (yielded ops a.tmps)=true:=by rfl) (hN:Nat.blt d N=true:=by rfl):AnyB W P ops (Qk nn x r) T H (fuel+1) G E listed a:=
 q_own_at n j m h hj hu he hi hck rfl f hw hN hx hio k
theorem q_ol {α:Type}{R:Rep α}{tt:TypeId}{it:Itm}{p:Value}{xs:List α}{u:Nat}{jx:Int}{y:α}(i n j:Nat)(h:Ow R tt G it v xs)
  (hp:Br P u) (ha:Cr v p jx) (he:idx xs jx=some y) (hi:ops[i]? =some ⟨some d,.load u xo,t,pos,af,g⟩) (f:Fr a N L) (hx:Aq L xo=some p)
  (k:∀c a',R G c y→Fr a' N ((d,c)::L)→AnyB W P ops (Qk nn x r) T H fuel G E (listed.setIfInBounds i true) a')
  (hj:H[j]? =some it:=by rfl) (hck:Bb ops n fuel listed i=true:=by as_aux_lemma=>kernel_rfl) (hw:Region.wanted ⟨some d,.load u xo,t,pos,af,g⟩ (yielded ops a.tmps)=true:=by rfl) (hN:Nat.blt d N=true:=by rfl):AnyB W P ops (Qk nn x r) T H (fuel+1) G E listed a:=
 q_own_load n j h hj hp ha he hi hck rfl f hw hN hx k
theorem BD {α:Type}{R:Rep α}{xs:List α}{u e bytes:Nat}{z:Value}{k0:IntKind}{j:Int}{e':α}(i n:Nat)(hu:SlT P u e 1 bytes z)(h:RSl R G v xs)(he:idx xs j=some e')
  (hi:ops[i]? =some ⟨some d,.indexAddr u xo io,t,pos,af,g⟩) (f:Fr a N L) (hx:Aq L xo=some v) (hio:Aq L io=some (.int k0 j))
  (k:∀p c a',At G p c→R G c e'→Fr a' N ((d,p)::L)→AnyB W P ops (Qk nn x r) T H fuel G E (listed.setIfInBounds i true) a')
  (hck:Bb ops n fuel listed i=true:=by as_aux_lemma=>kernel_rfl) (hw:Region.wanted ⟨some d,.indexAddr u xo io,t,pos,af,g⟩ (yielded ops a.tmps)=true:=by rfl) (hN:Nat.blt d N=true:=by rfl):AnyB W P ops (Qk nn x r) T H (fuel+1) G E listed a:=
 q_at n hu h he hi hck rfl f hw hN hx hio k
theorem BC {u:TypeId}{p c:Value}(i n:Nat)(hp:Br P u)(h:At G p c)(hi:ops[i]? =some ⟨some d,.load u xo,t,pos,af,g⟩)(f:Fr a N L)(hx:Aq L xo=some p)
  (k:∀a',Fr a' N ((d,c)::L)→AnyB W P ops (Qk nn x r) T H fuel G E (listed.setIfInBounds i true) a')
  (hck:Bb ops n fuel listed i=true:=by as_aux_lemma=>kernel_rfl) (hw:Region.wanted ⟨some d,.load u xo,t,pos,af,g⟩ (yielded ops a.tmps)=true:=by rfl) (hN:Nat.blt d N=true:=by rfl):AnyB W P ops (Qk nn x r) T H (fuel+1) G E listed a:=
 q_loadAt n hp h hi hck rfl f hw hN hx k
theorem q_bc {b ix:Nat}{tt:TypeId}{cs:List Value}{u:TypeId}{c:Value}(i n j:Nat)(hp:Br P u)(hj:H[j]? =some (.box b tt cs))(hc:cs[ix]? =some c)
  (hi:ops[i]? =some ⟨some d,.load u xo,t,pos,af,g⟩) (f:Fr a N L) (hx:Aq L xo=some (.pointer (some ⟨b,ix,none⟩)))
  (k:∀a',Fr a' N ((d,c)::L)→AnyB W P ops (Qk nn x r) T H fuel G E (listed.setIfInBounds i true) a')
  (hck:Bb ops n fuel listed i=true:=by as_aux_lemma=>kernel_rfl) (hw:Region.wanted ⟨some d,.load u xo,t,pos,af,g⟩ (yielded ops a.tmps)=true:=by rfl) (hN:Nat.blt d N=true:=by rfl):AnyB W P ops (Qk nn x r) T H (fuel+1) G E listed a:=
 q_boxCell n j hp hj hc hi hck rfl f hw hN hx k
theorem q_fa {b ix:Nat}{s fi:Nat}{fs:Array Field}{fl:Field}{sz:Nat}(i n:Nat)(hs:P.underlying s=some (.struct fs))(hf:fs[fi]? =some fl)
  (hz:∀w,(sizeOf fl.type).run P w= .ok sz w) (hi:ops[i]? =some ⟨some d,.fieldAddr s xo fi,t,pos,af,g⟩) (f:Fr a N L) (hx:Aq L xo=some (.pointer (some ⟨b,ix,none⟩)))
  (k:∀a',Fr a' N ((d,.pointer (some ⟨b,ix+fl.offset,none⟩))::L)→AnyB W P ops (Qk nn x r) T H fuel G E (listed.setIfInBounds i true) a') (hz0:sz≠0:=by decide)
  (hck:Bb ops n fuel listed i=true:=by as_aux_lemma=>kernel_rfl) (hw:Region.wanted ⟨some d,.fieldAddr s xo fi,t,pos,af,g⟩ (yielded ops a.tmps)=true:=by rfl) (hN:Nat.blt d N=true:=by rfl):AnyB W P ops (Qk nn x r) T H (fuel+1) G E listed a:=
 q_fieldAddr n hs hf hz hz0 hi hck rfl f hw hN hx k
theorem q_on {o:Oper}(i:Nat)(hi:ops[i]? =some o)
  (h:∀G₁ w,GLe G G₁→Mem W G₁ w (E++H)→∀K:Act→World→Prop,(∀G' E' a' w',GLe G₁ G'→Mem W G' w' (E'++H)→AnyB W P ops (Qk nn x r) T H fuel G' E' (listed.setIfInBounds i true) a'→K a' w')→wpList P ops (Qk (λa' w'=>K a' w') [] (λ_ _=>False)) [o] a w)
  (hready:Region.ready .any ops listed=[i]:=by as_aux_lemma=>kernel_rfl):
  AnyB W P ops (Qk nn x r) T H (fuel+1) G E listed a:=q_one hi hready rfl h
end
section
variable {G G' : GH} {v : Value} {k : IntKind}
theorem rd1 {xs:List Int}(h:GLe G G')(r:RSl (RI k) G v xs):RSl (RI k) G' v xs:=RSl.mono (RI.mono _) _ _ _ _ h r
theorem rd2 {xs:List (List Int)}(h:GLe G G')(r:RSl (RSl (RI k)) G v xs):RSl (RSl (RI k)) G' v xs:=RSl.mono (RSl.mono (RI.mono _)) _ _ _ _ h r
theorem od1 {t:TypeId}{it:Itm}{xs:List Int}(h:GLe G G')(r:Ow (RI k) t G it v xs):Ow (RI k) t G' it v xs:=Ow.mono (RI.mono _) h r
theorem od2 {t t':TypeId}{it:Itm}{xs:List (List Int)}(h:GLe G G')(r:Ow2 (RI k) t t' G it v xs):Ow2 (RI k) t t' G' it v xs:=Ow2.mono (RI.mono _) h r
theorem od3 {t:TypeId}{it:Itm}{xs:List (List Int)}(h:GLe G G')(r:Ow (RSl (RI k)) t G it v xs):Ow (RSl (RI k)) t G' it v xs:=Ow.mono (RSl.mono (RI.mono _)) h r
theorem gr :GLe G G:=GLe.refl G
theorem gt {G'':GH}(h:GLe G G')(h':GLe G' G''):GLe G G'':=GLe.trans h h'
end
end Go.Sx

namespace Go.Sx
open Go.RowKit Go.ChangeShapes Go.WideShapes Go.Deep
theorem Mem.below {W w':World}{G:GH}{H:List Itm}(m:Mem W G w' H):Below W.heap.size W w':=by
 have hb:∀k,k<W.heap.size→w'.heap[k]? =W.heap[k]? :=λk hk=>by
  have h1:W.heap[k]? =some W.heap[k]:=by simp[hk]
  rw[h1]
  exact m.sealed k _ (m.base k _ h1)
 refine⟨m.os,m.tape,m.output,?_,hb⟩
 rcases Nat.eq_zero_or_pos W.heap.size with h|h
 ·omega
 ·have h1:=hb (W.heap.size-1) (by omega)
  have h2:W.heap[W.heap.size-1]? =some W.heap[W.heap.size-1]:=by simp
  rw[h2] at h1
  have:=(Array.getElem?_eq_some_iff.1 h1).1
  omega
section
variable {H : Type} {enc : TypeId × Value → H} {P : Program} {w : World} {base : Nat} {spare : Nat → Bool} {held : Bool}
theorem table_cells {t e:TypeId}{n fuel:Nat}{k:IntKind}{cs:List Value}{ns:List Int}{ps:List MemPlace}(ht:P.underlying t=some (.array n e))(he:P.underlying e=some (.int k))(hc:P.cellsOf e=1)
  (hn:P.cellsOf t=n) (h:DataW.trod enc P w base spare held fuel t cs=some (.agg (ns.map λz=> .lit (.int k z)),ps)):cs=ns.map (.int k):=by
 obtain⟨xs,m,_,hx,hl,hxl,hel⟩:=DataW.trod_array ht h
 have hx1:ns.map (λz=>(.lit (.int k z):DataW H))=xs.map (·.1):=by
  have:=congrArg Prod.fst hx
  simpa using this
 have hnl:ns.length=n:=by
  have:=congrArg List.length hx1
  simp at this;omega
 apply List.ext_getElem
 ·simp;omega
 ·intro i h1 h2
  have hi:i<n:=by omega
  have h3:=hel i hi
  rw[hc,Nat.mul_one] at h3
  have h4:(cs.drop i).take 1=[cs[i]]:=by
   rw[List.drop_eq_getElem_cons h1];rfl
  rw[h4,List.getElem?_eq_getElem (by omega)] at h3
  have h5:xs[i].1= .lit (.int k ns[i]):=by
   have h6:(ns.map (λz=>(.lit (.int k z):DataW H)))[i]? =(xs.map (·.1))[i]? :=by rw[hx1]
   rw[List.getElem?_map,List.getElem?_map,List.getElem?_eq_getElem (by omega),List.getElem?_eq_getElem (by omega)] at h6
   simp at h6;exact h6.symm
  cases m with
  |zero=>simp[DataW.trod] at h3
  |succ m=>
   cases hv:cs[i]<;>rw[hv] at h3<;>simp[DataW.trod,he] at h3
   obtain⟨⟨rfl,_⟩,h7⟩:=h3
   rw[←h7] at h5
   simp at h5
   simp[h5]
end
end Go.Sx

namespace Go.Sx
abbrev Str :=ByteArray
def Bn (a b:Str):Option Str:=if a.size+b.size≤9223372036854775807 then some (a++b) else none
def sEq (a b:Str):Bool:=a.toList==b.toList
def sPart (s:Str)(i j:Int):Option Str:=if 0≤i∧i≤j∧j≤s.size then some (s.extract i.toNat j.toNat) else none
def sOf (l:List Int):Str:=⟨(l.map λn=>UInt8.ofNat n.toNat).toArray⟩
def sBy (s:Str):List Int:=s.data.toList.map λb=>(b.toNat:Int)
section
variable {P : Program} {ρ : Operand → Value} {w : World} {d : Option Tmp} {t : TypeId} {pos : String} {af : Array Edge} {gd : Option (Nat × Bool)}
theorem BH {u u':TypeId}{x y:Operand}{a b c:Str}(hx:ρ x= .string a)(hy:ρ y= .string b)(h:Bn a b=some c):
  (execOp ρ ⟨d,.binOp .add u x y u',t,pos,af,gd⟩).run P w= .ok (.value (.string c)) w:=by
 unfold Bn at h
 split at h
 ·rename_i hs
  cases h
  have hg:(eqGuard .add u x y (.string a) (.string b)).run P w= .ok () w:=by
   unfold eqGuard;rfl
  simp[execOp,hx,hy,hg,binOp,run_string_add_sum w a b hs]
 ·cases h
theorem r_sEql {u u':TypeId}{x y:Operand}{a b:Str}(hx:ρ x= .string a)(hy:ρ y= .string b):
  (execOp ρ ⟨d,.binOp .eql u x y u',t,pos,af,gd⟩).run P w= .ok (.value (.bool (sEq a b))) w:=by
 have hg:(eqGuard .eql u x y (.string a) (.string b)).run P w= .ok () w:=by
  unfold eqGuard;rfl
 simp[execOp,hx,hy,hg,binOp,Op.stringOp,sEq]
theorem r_sNeq {u u':TypeId}{x y:Operand}{a b:Str}(hx:ρ x= .string a)(hy:ρ y= .string b):
  (execOp ρ ⟨d,.binOp .neq u x y u',t,pos,af,gd⟩).run P w= .ok (.value (.bool (!sEq a b))) w:=by
 have hg:(eqGuard .neq u x y (.string a) (.string b)).run P w= .ok () w:=by
  unfold eqGuard;rfl
 simp[execOp,hx,hy,hg,binOp,Op.stringOp,sEq]
theorem r_sPart {u:TypeId}{xo:Operand}{lo hi:Option Operand}{s c:Str}{i j:Int}(hu:P.underlying u=some .string)
  (hx:ρ xo= .string s) (hlo:(lo=none∧i=0)∨∃o k,lo=some o∧ρ o= .int k i) (hhi:(hi=none∧j=s.size)∨∃o k,hi=some o∧ρ o= .int k j) (h:sPart s i j=some c):
  (execOp ρ ⟨d,.slice u xo lo hi none,t,pos,af,gd⟩).run P w= .ok (.value (.string c)) w:=by
 unfold sPart at h
 split at h
 ·rename_i hc
  obtain⟨h0,h1,h2⟩:=hc
  cases h
  have hj0:0≤j:=by omega
  have ej:(j.toNat:Int)=j:=by omega
  rcases hlo with⟨rfl,rfl⟩|⟨o,k,rfl,ho⟩
  ·rcases hhi with⟨rfl,rfl⟩|⟨o2,k2,rfl,ho2⟩
   ·simp[execOp,hx,Instr.sliceAt,Instr.slice,run_underlying hu,Instr.sliceBounds]
   ·simp[execOp,hx,ho2,Instr.sliceAt,Instr.slice,run_underlying hu,Instr.sliceBounds,Instr.sliceBound,asIntOf,hj0,h2]
  ·rcases hhi with⟨rfl,rfl⟩|⟨o2,k2,rfl,ho2⟩
   ·simp[execOp,hx,ho,Instr.sliceAt,Instr.slice,run_underlying hu,Instr.sliceBounds,Instr.sliceBound,asIntOf,h0,h1]
   ·simp[execOp,hx,ho,ho2,Instr.sliceAt,Instr.slice,run_underlying hu,Instr.sliceBounds,Instr.sliceBound,asIntOf,hj0,h2,h0,h1,ej]
 ·cases h
end
section
variable {P : Program} {ops : Array Oper} {rest : List Oper} {n r : AH} {x : List (Nat × AH)} {a : Act} {w : World} {N : Nat} {L : AG}
variable {W : World} {G : GH} {H : List Itm}
variable {d : Nat} {t : TypeId} {pos : String} {af : Array Edge}
theorem run_sOf {src e dst:TypeId}{y:Value}{ns:List Int}(hs:P.underlying src=some (.slice e))(he:P.underlying e=some (.int .u8))(hd:P.underlying dst=some .string)
  (h:∃vs,Src w y ns.length vs∧vs=ns.map (Value.int .u8)):(convert src dst y).run P w= .ok (.string (sOf ns)) w:=by
 obtain⟨vs,⟨hl,h2⟩,rfl⟩:=h
 rcases h2 with⟨rfl,h0⟩|⟨p,cap,rfl,hc⟩
 ·have:ns=[]:=List.eq_nil_of_length_eq_zero h0
  subst this
  rw[run_convert_bytes_string w src dst e _ _ _ hs he hd]
  rfl
 ·rw[run_convert_bytes_string w src dst e _ _ _ hs he hd]
  have hll:=run_loadCells_list (P:=P) w p (ns.map (Value.int .u8)) (λj v hj=>hc j v hj)
  simp only[List.length_map] at hll
  rw[run_bytesToString w p ns.length cap ns hll]
  congr 2
  have:∀(l:List Int) (r:ByteArray),l.foldl (λr n=>r.push (UInt8.ofNat n.toNat)) r=⟨r.data++(l.map λn=>UInt8.ofNat n.toNat).toArray⟩:=by
   intro l
   induction l with
   |nil=>intro r;simp
   |cons b l ih=>intro r;simp only[List.foldl_cons,ih,List.map_cons];simp[ByteArray.push]
  have he0:ByteArray.empty.data= #[]:=rfl
  rw[this,he0]
  simp[sOf]
theorem l_sOf {src e dst:TypeId}{xo:Operand}{y:Value}{ns:List Int}(hs:P.underlying src=some (.slice e))(he:P.underlying e=some (.int .u8))(hd:P.underlying dst=some .string)
  (hsrc:∃vs,Src w y ns.length vs∧All2 (RI .u8 G) vs ns) (f:Fr a N L) (hN:Nat.blt d N=true) (hx:Aq L xo=some y)
  (k:∀a',Fr a' N ((d,.string (sOf ns))::L)→wpList P ops (Qk n x r) rest a' w):
  wpList P ops (Qk n x r) (⟨some d,.convert src dst xo,t,pos,af,none⟩::rest) a w:=by
 obtain⟨vs,h1,h2⟩:=hsrc
 have hv:vs=ns.map (Value.int .u8):=by
  apply List.ext_getElem
  ·simp[h2.1]
  ·intro i hi1 hi2
   have hi3:i<ns.length:=by rw[←h2.1];exact hi1
   have:=h2.2 i vs[i] (ns[i]'hi3) (by simp[hi1]) (by simp[hi3])
   simpa [RI] using this
 have hr:=run_sOf (P:=P) (w:=w) hs he hd ⟨vs,h1,hv⟩
 exact Bp f rfl rfl hN (by simp[execOp,f.eval hx,hr]) k
end
section
variable {W w w' : World} {G : GH} {H : List Itm}
theorem Mem.above (m:Mem W G w H)(h:Go.RowKit.Below w.heap.size w w'):Mem W G w' H:=
 ⟨h.os.trans m.os,h.tape.trans m.tape,h.output.trans m.output,λb o k=>by
   have hb:=m.sealed b o k
   rw[h.block b (Array.getElem?_eq_some_iff.1 hb).1];exact hb,
  λi x k=>Itm.ok_of (m.items i x k) (λy hy=>h.block y (Itm.lt (m.items i x k) y hy)),m.disj,m.apart,m.base⟩
theorem Mem.strs (m:Mem W G w H)(t:TypeId)(l:List Str)(hl:l.length≤4294967296):Mem W G (w.alloc (.cells (l.map Value.string).toArray t)) (.row (.slice (some ⟨w.heap.size,0,none⟩) l.length l.length) t 1 l.length (l.map Value.string)::H):=by
 refine m.add rfl rfl rfl (λq hq=>by first|exact heap_alloc_old w _ q hq|exact heap_alloc_old w _ hq) ⟨by simp,?_⟩ (λq hq=>by simp[Itm.foot,Value.ownBlock] at hq;omega)
 refine .inr ⟨w.heap.size,l.length,_,rfl,Nat.zero_le _,heap_alloc_new w _,Nat.le_refl _,by simp only[maxLen];omega,by simp,by rw[Nat.mul_one];exact List.take_of_length_le (by simp)⟩
structure TxtW (W:World):Prop where
 maxLen:∃m,W.cell? ⟨0,0,none⟩=some (.int .i64 m)
 syn:∃ev,W.cell? ⟨1,0,none⟩=some ev∧(ev= .nilIface∨∃te pe,ev= .iface te pe)
 rng:∃ev,W.cell? ⟨2,0,none⟩=some ev∧(ev= .nilIface∨∃te pe,ev= .iface te pe)
 pow:∃e fz,W.heap[3]? =some (.cells ((Lib.pow10Tab.map (Value.int .u64)).toArray) e fz)
 tab:∃e fz,W.heap[6]? =some (.cells ((tab32.map (Value.int .u8)).toArray) e fz)
end
theorem l_tab6 {P:Program}{ops:Array Oper}{rest:List Oper}{n r:AH}{x:List (Nat×AH)}{a:Act}{w:World}{N:Nat}{L:AG}{d:Nat}{t:TypeId}{pos:String}{af:Array Edge}{W:World}{G:GH}{H:List Itm}{u e:Nat}{io:Operand}{k:IntKind}{i y:Int}
  (hW:TxtW W) (m:Mem W G w H) (hu:P.underlying u=some (.array 32 e)) (hz:∀w,(sizeOf e).run P w= .ok 1 w) (f:Fr a N L) (hN:Nat.blt d N=true) (hi:Aq L io=some (.int k i)) (he:idx tab32 i=some y)
  (q:∀p a',At G p (.int .u8 y)→Fr a' N ((d,p)::L)→wpList P ops (Qk n x r) rest a' w):
  wpList P ops (Qk n x r) (⟨some d,.indexAddr u (.global 6) io,t,pos,af,none⟩::rest) a w:=by
 obtain⟨h0,h1,h2⟩:=BL he
 obtain⟨ee,fz,hg⟩:=hW.tab
 have h1':i<32:=h1
 refine Bp (v:= .pointer (some ⟨6,i.toNat,none⟩)) f rfl rfl hN ?_ (λa' f'=>q _ a' ⟨6,i.toNat,rfl,_,ee,fz,m.base 6 _ hg,?_⟩ f')
 ·have hgl:a.eval (.global 6)= .pointer (some ⟨6,0,none⟩):=rfl
  simp[execOp,hgl,f.eval hi,Instr.indexAt,asIntOf,run_underlying hu,Instr.sureAddr,h0,h1',hz w,Bi]
 ·simp[h2]
end Go.Sx

namespace Go.Sx
theorem By (s:Str):(sBy s).length=s.size:=by
 rw[sBy,List.length_map,Array.length_toList];rfl
theorem sBy_cells (s:Str):(sBy s).map (Value.int .u8)=Lib.strCells s:=by
 simp[sBy,Lib.strCells]
theorem sBy_all2 {G:GH}(s:Str):All2 (RI .u8 G) (Lib.strCells s) (sBy s):=by
 refine⟨by rw[By,Lib.strCells_length],λi c x hc hx=> ?_⟩
 rw[←sBy_cells,List.getElem?_map,hx] at hc
 cases hc;rfl
section
variable {P : Program} {ops : Array Oper} {rest l : List Oper} {n r : AH} {x : List (Nat × AH)} {a : Act} {w : World} {N : Nat} {L : AG}
variable {W : World} {G : GH} {H : List Itm}
variable {d : Nat} {t : TypeId} {pos : String} {af : Array Edge}
theorem run_appendS {tt ty u us:Nat}{it:Itm}{v:Value}{xs zs:List Int}{s:Str}(j:Nat)(m:Mem W G w H)(h:Ow (RI .u8) tt G it v xs)(hj:H[j]? =some it)
  (hu:SlT P u tt 1 1 (.int .u8 0)) (hus:P.underlying us=some .string) (hz:Ay xs (sBy s)=some zs):
  ∃it' v' w',(Builtin.append_ #[u,us] ty #[v,.string s]).run P w= .ok v' w'∧Mem W G w' (H.set j it')∧Ow (RI .u8) tt G it' v' zs:=by
 unfold Ay at hz
 split at hz
 ·rename_i hle
  cases hz
  rw[By] at hle
  obtain⟨vs0,rfl,hA0⟩:=h
  obtain⟨ti,hi1,hi2,hi3,hi4⟩:=hu.info
  have ok:w.ownsRow 0 tt 1 v xs.length vs0:=m.items j _ hj
  have hl0:vs0.length=xs.length:=hA0.1
  have hA:=sBy_all2 (G:=G) s
  have hlv:(Lib.strCells s).length=s.size:=Lib.strCells_length s
  have hsame:∀(v:Value),H[j]? =some (.row v tt 1 xs.length vs0)→s.size=0→H.set j (.row v tt 1 (xs++sBy s).length vs0)=H:=by
   intro v hj h0
   apply List.ext_getElem?
   intro k
   rw[List.getElem?_set]
   split
   ·rename_i e;subst e
    have hl:=(List.getElem?_eq_some_iff.1 hj).1
    have e0:(xs++sBy s).length=xs.length:=by rw[List.length_append,By,h0];omega
    rw[if_pos hl,e0]
    exact hj.symm
   ·rfl
  have hsz0:(Value.int IntKind.u8 0).cells.size=1:=rfl
  have fresh:∀(old:Nat),old<xs.length+s.size→
    Mem W G (w.drew.alloc (.cells (vs0.toArray++(Lib.strCells s).toArray++Builtin.zeroCells (Value.int IntKind.u8 0).cells (grownCap w (xs.length+s.size) old tt-(xs.length+s.size))) tt))
     (H.set j (.row (.slice (some ⟨w.heap.size,0,none⟩) (xs.length+s.size) (grownCap w (xs.length+s.size) old tt)) tt 1 (xs++sBy s).length (vs0++Lib.strCells s))):=by
   intro old hold
   have hge:=grownCap_ge w (xs.length+s.size) old tt
   have hcm:grownCap w (xs.length+s.size) old tt≤maxLen:=grownCap_le_maxLen w _ old tt (by simp only[maxLen];omega)
   refine m.changeAt j hj rfl rfl rfl (λq hq _=>by first|exact heap_alloc_old w.drew _ q hq|exact heap_alloc_old w.drew _ hq) ⟨by simp[hl0,hlv,By],.inr ⟨w.heap.size,_,_,by simp[By],Nat.zero_le _,heap_alloc_new w.drew _,by simpa [By] using hge,hcm,?_,?_⟩⟩ (λq hq=> .inr ?_)
   ·simp only[Array.size_append,List.size_toArray,size_zeroCells,hsz0,hl0,hlv,Nat.mul_one]
    omega
   ·simp only[Array.toList_append,List.append_assoc,List.length_append,Nat.mul_one,By]
    rw[←List.append_assoc,←hl0,←hlv,←List.length_append]
    exact List.take_left
   ·simp[Itm.foot,Value.ownBlock] at hq;omega
  rcases ok.2 with⟨rfl,e0⟩|⟨g,cap,cur,e1,_,eh,e2,e3,e4,e5⟩
  ·have hxs:xs=[]:=List.eq_nil_of_length_eq_zero e0
   subst hxs
   have hvs0:vs0=[]:=List.eq_nil_of_length_eq_zero hl0
   subst hvs0
   by_cases hy0:s.size=0
   ·have hn:Lib.strCells s=[]:=List.eq_nil_of_length_eq_zero (by rw[hlv];exact hy0)
    have hb:sBy s=[]:=List.eq_nil_of_length_eq_zero (by rw[By];exact hy0)
    refine⟨.row (.slice none 0 0) tt 1 (([]:List Int)++sBy s).length [],.slice none 0 0,w,?_,by rw[hsame _ hj hy0];exact m,[],rfl,by rw[hb];exact All2.nil _⟩
    have hf:=Lib.run_firstCells_string (P:=P) w 1 s
    rw[hy0] at hf
    simp[Builtin.append_,run_underlying hu.und,run_underlying hus,sizeOf,typeInfo,hi1,hi2,Builtin.lenOf,hy0,hf]
   ·have hr:=run_append_nil_string (P:=P) w u us ty tt ti (.int .u8 0) hu.und hus hi1 hi4 s (by omega) (by omega) (by rw[hi3];omega)
    have hfr:=fresh 0 (by simp;omega)
    simp only[List.length_nil,Nat.zero_add,List.nil_append,Array.empty_append] at hfr
    have e1:(s.data.map λb=>Value.int .u8 b.toNat)=(Lib.strCells s).toArray:=by
     apply Array.ext'
     simp[Lib.strCells]
    rw[e1] at hr
    exact⟨_,_,_,hr,by simpa using hfr,Lib.strCells s,by simp,by simpa using hA⟩
  ·subst e1
   by_cases hroom:xs.length+s.size≤cap
   ·have hr:=Lib.run_append_room_string (P:=P) w u us ty tt ti hu.und hus hi1 hi2 g xs.length cap cur eh s hroom (by omega)
    refine⟨.row (.slice (some ⟨g,0,none⟩) (xs.length+s.size) cap) tt 1 (xs++sBy s).length (vs0++Lib.strCells s),_,_,hr,m.changeAt j hj rfl rfl rfl (λq _ hq=>setRow_other w g q _ (λe=>hq (by simp[Itm.foot,Value.ownBlock,e])))
     ⟨by simp[hl0,hlv,By],.inr ⟨g,cap,_,by simp[By],Nat.zero_le _,setRow_heap w g cur _ tt _ eh,by simpa [By] using hroom,e3,?_,?_⟩⟩ (λq hq=> .inl (by simpa [Itm.foot,Value.ownBlock] using hq)),_,rfl,hA0.append hA⟩
    ·simp only[List.size_toArray,List.length_append,List.length_take,List.length_drop,Array.length_toList,hlv]
     omega
    ·simp only[Nat.mul_one] at e5 ⊢
     rw[e5,List.length_append,By,←hl0,←hlv,←List.length_append]
     exact List.take_left
   ·have holds:∀(k:Nat) q,vs0[k]? =some q→w.cell? ((⟨g,0,none⟩:Addr).add k)=some q:=World.ownsRow.cells ok (g:=g) rfl
    have hr:=Lib.run_append_grow_string (P:=P) w u us ty tt ti (.int .u8 0) hu.und hus hi1 hi4 ⟨g,0,none⟩ xs.length cap vs0 (by rw[hl0,hi2,Nat.mul_one]) holds s (by omega) (by omega) (by rw[hi3];exact growslice_fits (by omega) (by omega))
    exact⟨_,_,_,hr,fresh cap (by omega),_,rfl,hA0.append hA⟩
 ·cases hz
end
end Go.Sx
namespace Go.Sx
section
variable {P : Program} {ops : Array Oper} {rest l : List Oper} {n r : AH} {x : List (Nat × AH)} {a : Act} {w : World} {N : Nat} {L : AG}
variable {W : World} {G : GH} {H : List Itm}
variable {d : Nat} {t : TypeId} {pos : String} {af : Array Edge}
theorem l_appendS {tt u us:Nat}{it:Itm}{v:Value}{xs zs:List Int}{s:Str}{so xo:Operand}(j:Nat)(m:Mem W G w H)(h:Ow (RI .u8) tt G it v xs)(hj:H[j]? =some it)
  (hu:SlT P u tt 1 1 (.int .u8 0)) (hus:P.underlying us=some .string) (f:Fr a N L) (hN:Nat.blt d N=true) (hs:Aq L so=some v) (hx:Aq L xo=some (.string s)) (hz:Ay xs (sBy s)=some zs)
  (k:∀it' v' w' a',Mem W G w' (H.set j it')→Ow (RI .u8) tt G it' v' zs→Fr a' N ((d,v')::L)→wpList P ops (Qk n x r) rest a' w'):
  wpList P ops (Qk n x r) (⟨some d,.call {callee:= .builtin .append,args:= #[so,xo],argTypes:= #[u,us]},t,pos,af,none⟩::rest) a w:=by
 obtain⟨it',v',w',hr,h3,h4⟩:=run_appendS (P:=P) (ty:=t) j m h hj hu hus hz
 refine Bp (v:=v') (w':=w') f rfl rfl hN ?_ (λa' f'=>k it' v' w' a' h3 h4 f')
 have e1:=f.eval hs
 have e2:=f.eval hx
 simp[execOp,resolve,invoke,builtin,e1,e2,hr]
theorem Mem.setBox {b:Nat}{tt:TypeId}{cs:List Value}(m:Mem W G w (.box b tt cs::H))(i:Nat)(v:Value):Mem W G (w.setCell ⟨b,i,none⟩ v) (.box b tt (cs.set i v)::H):=by
 have hg:w.heap[b]? =some (.cells cs.toArray tt (0,0)):=m.items 0 _ rfl
 have hl:b<w.heap.size:=(Array.getElem?_eq_some_iff.1 hg).1
 refine m.changeAt 0 rfl rfl rfl rfl (λq _ hq=> ?_) ?_ (λq hq=> .inl hq)
 ·simp only[World.setCell,Array.getElem?_modify]
  rw[if_neg (λe=>hq (by simp[Itm.foot];exact e.symm))]
 ·show (w.setCell ⟨b,i,none⟩ v).heap[b]? =some (.cells (cs.set i v).toArray tt (0,0))
  simp only[World.setCell,Array.getElem?_modify,if_true,hg,Option.map_some]
  simp
theorem Mem.freeze {g n cap k tt:Nat}{vs:List Value}(m:Mem W G w (.row (.slice (some ⟨g,0,none⟩) n cap) tt 1 k vs::H))(c:Nat):Mem W G (w.freeze ⟨g,0,none⟩ c) H:=by
 have hg:G g=none:=m.apart 0 _ rfl g (by simp[Itm.foot,Value.ownBlock])
 have hH:∀(i:Nat) (h:Itm),H[i]? =some h→g∉h.foot:=λi h k=>m.disj 0 (i+1) _ h (by omega) rfl (by simpa using k) g (by simp[Itm.foot,Value.ownBlock])
 have m1:=m.tail
 have hb:∀q,q≠g→(w.freeze ⟨g,0,none⟩ c).heap[q]? =w.heap[q]? :=by
  intro q hq
  unfold World.freeze
  split
  ·rfl
  ·simp only[Array.getElem?_modify]
   rw[if_neg (λe=>hq e.symm)]
 have hs:(w.freeze ⟨g,0,none⟩ c).os=w.os∧(w.freeze ⟨g,0,none⟩ c).tape=w.tape∧(w.freeze ⟨g,0,none⟩ c).output=w.output:=by
  unfold World.freeze
  split<;>exact⟨rfl,rfl,rfl⟩
 refine⟨hs.1.trans m1.os,hs.2.1.trans m1.tape,hs.2.2.trans m1.output,λb o k=> ?_,λi x k=>Itm.ok_of (m1.items i x k) (λy hy=>hb y (λe=>hH i x k (e▸hy))),m1.disj,m1.apart,m1.base⟩
 rw[hb b (λe=>by rw[e,hg] at k;cases k)]
 exact m1.sealed b o k
def ErV (v:Value)(b:Bool):Prop:=(b=true∧∃t p,v= .iface t p)∨(b=false∧v= .nilIface)
theorem r_erNeq {ρ:Operand→Value}{dd:Option Tmp}{gd:Option (Nat×Bool)}{u u':TypeId}{xo:Operand}{v:Value}{b:Bool}{ms:Array (String×TypeId)}(hx:ρ xo=v)(hy:ρ (.const .nilIface)= .nilIface)(he:ErV v b)(hu:P.underlying u=some (.interface ms)):
  (execOp ρ ⟨dd,.binOp .neq u xo (.const .nilIface) u',t,pos,af,gd⟩).run P w= .ok (.value (.bool b)) w:=by
 have heq:∀dd:Nat,(Op.equalIn (dd+1) u v .nilIface).run P w= .ok (!b) w:=by
  intro dd
  rcases he with⟨rfl,tt,p,rfl⟩|⟨rfl,rfl⟩<;>simp[Op.equalIn,run_underlying hu]
 have hg:(eqGuard .neq u xo (.const .nilIface) v .nilIface).run P w= .ok () w:=by
  rcases he with⟨rfl,tt,p,rfl⟩|⟨rfl,rfl⟩
  ·unfold eqGuard;rfl
  ·unfold eqGuard;simp
 have e1:(binOp .neq u v .nilIface).run P w= .ok (.bool b) w:=by
  have h1:(Op.equal u v .nilIface).run P w= .ok (!b) w:=heq 9999
  rcases he with⟨rfl,tt,p,rfl⟩|⟨rfl,rfl⟩<;>simp[binOp,h1]
 simp[execOp,hx,hy,hg,e1]
theorem r_sliceData {ρ:Operand→Value}{dd:Option Tmp}{gd:Option (Nat×Bool)}{us:Array TypeId}{xo:Operand}{ad:Addr}{n c:Nat}(hx:ρ xo= .slice (some ad) n c)(hc:c≠0):
  (execOp ρ ⟨dd,.call {callee:= .builtin .unsafeSliceData,args:= #[xo],argTypes:=us},t,pos,af,gd⟩).run P w= .ok (.value (.pointer (some ad))) w:=by
 simp[execOp,resolve,invoke,builtin,hx,Lib.run_unsafeSliceData_row w us t ad n c hc]
theorem r_unsafeString {g cap:Nat}{tp ti ty:TypeId}{xs:List Int}(hp:P.underlying tp=some (.pointer 5))(hc:P.cellsOf 5=1)(hne:xs≠[])(hal:(xs.all λx=>decide (0≤x)&&decide (x<256))=true)
  (ok:w.ownsRow 0 5 1 (.slice (some ⟨g,0,none⟩) xs.length cap) xs.length (xs.map (Value.int .u8))):
  (Builtin.unsafeString_ #[tp,ti] ty #[.pointer (some ⟨g,0,none⟩),.int .i64 xs.length]).run P w= .ok (.string (sOf xs)) (w.freeze ⟨g,0,none⟩ xs.length):=by
 obtain⟨cur,hg,h1,h2,h3⟩:∃cur:Array Value,w.heap[g]? =some (.cells cur 5 (0,0))∧xs.length≤cap∧cap≤maxLen∧cur.size=cap*1:=by
  rcases ok.2 with⟨h,_⟩|⟨g',cap',cur,e1,_,eh,e2,e3,e4,_⟩
  ·cases h
  ·cases e1
   exact⟨cur,eh,e2,e3,e4⟩
 have hcells:=World.ownsRow.cells ok (g:=g) rfl
 have hll:(xs.map λn=>UInt8.ofNat n.toNat).length=xs.length:=by simp
 have:=Lib.run_unsafeString_row (P:=P) w tp ti ty 5 hp hc g cur.size (by simp[World.shape?,hg]) (xs.map λn=>UInt8.ofNat n.toNat) (by simpa using hne) (by rw[hll];omega) (by rw[hll];simp only[maxLen] at h2;omega) (λj q hq=>by
  rw[List.getElem?_map] at hq
  cases hx:xs[j]? with
  |none=>rw[hx] at hq;cases hq
  |some z=>
   rw[hx] at hq
   cases hq
   have hz:=List.all_eq_true.1 hal z (List.mem_of_getElem? hx)
   simp only[Bool.and_eq_true,decide_eq_true_eq] at hz
   have h4:=hcells j (.int .u8 z) (by rw[List.getElem?_map,hx];rfl)
   have h5:((UInt8.ofNat z.toNat).toNat:Int)=z:=by
    rw[UInt8.toNat_ofNat']
    omega
   rw[h5];exact h4)
 rw[hll] at this
 exact this
theorem r_unsafeS {ρ:Operand→Value}{dd:Option Tmp}{gd:Option (Nat×Bool)}{us:Array TypeId}{xo yo:Operand}{v1 v2 v':Value}{w':World}(hx:ρ xo=v1)(hy:ρ yo=v2)(h:(Builtin.unsafeString_ us t #[v1,v2]).run P w= .ok v' w'):
  (execOp ρ ⟨dd,.call {callee:= .builtin .unsafeString,args:= #[xo,yo],argTypes:=us},t,pos,af,gd⟩).run P w= .ok (.value v') w':=by
 simp[execOp,resolve,invoke,builtin,hx,hy,h]
end
end Go.Sx

namespace Go.Proofs.YtgkgmdnjnjliiaaDoor
open Go Go.ChangeShapes Go.WideShapes Go.ChangeAt Go.RowKit
abbrev laidTab :List (String×DataW Unit):=Rows.fnExactTextGraphRow.laid
theorem Tryd.ownK :ownKnob Tryd.prog.godebug=none:=by kernel_rfl
theorem Tryd.laidOutK :laidOutB Tryd.prog=true:=by kernel_rfl
theorem Tryd.cellsU8 :Tryd.prog.cellsOf 5=1:=by kernel_rfl
theorem Tryd.cellsU64 :Tryd.prog.cellsOf 85=1:=by kernel_rfl
theorem Tryd.cellsStr :Tryd.prog.cellsOf 9=1:=by kernel_rfl
theorem Tryd.cellsErr :Tryd.prog.cellsOf 119=1:=by kernel_rfl
theorem Tryd.cellsT32 :Tryd.prog.cellsOf 125=32:=by kernel_rfl
theorem Tryd.cellsPow :Tryd.prog.cellsOf 112=20:=by kernel_rfl
theorem Tryd.star : "*" ++ "errors.errorString" = "*errors.errorString" :=by decide
theorem Tryd.rowErr (u:TypeId)(h:Tryd.prog.typeName? 3 u=some "*errors.errorString"):u=117:=
 typeName_ptr_named (nm:= "errors.errorString") (by rw[Tryd.star];kernel_rfl) (by kernel_rfl) (by decide) u (by rw[Tryd.star];exact h)
theorem Tryd.g0 :((begin Tryd.prog (λ_ _=>0) default).world.heap[0]?).bind Obj.row? =some (#[.int .i64 0],3):=by kernel_rfl
theorem Tryd.wrap {H:Type}{enc:TypeId×Value→H}{a:Assume}{C:Checked}{os:Os}{f:FuncId}{fn:Func}{s:ChangeSpec}{conds:List PathCond}{apart fresh handsOn again:Bool}{X:World→Array Value→Prop}
  (hX:∀(w w':World) (args:Array Value),w.heap=w'.heap→X w args→X w' args) (own:ownKnob C.prog.godebug=none) (started:os.Started) (noInit:C.prog.inits.idxOf? f=none) (hfn:C.prog.funcs[f]? =some fn)
  (witness:∃(w:World) (tape:Tape) (i:Input),w.os=os∧(w.forCall tape i).Shaped C.prog∧i.vars=[]∧Input.okWide C.prog (w.forCall tape i) .any w.heap.size f i∧
   ((s.pre enc C.prog fn conds apart (w.forCall tape i).memory i.args∧X (w.forCall tape i).memory i.args)∧sizedMet enc C.prog fn (OpenSpec.ofChange s) apart (w.forCall tape i).memory i.args)∧a.holds C.prog (lone (Frame.enter C.prog f i.args .normal) [] (w.forCall tape i)))
  (contract:∀(W:World) (base:Nat) (args:Array Value) (ds gs:List (DataW H)) (before:List MemPlace),
   (∀(j:Nat) t v,fn.params[j]? =some t→args[j]? =some v→Value.okWide C.prog W .any base t v)→DataW.Whole enc C.prog fn.params.toList s.vars apart W args.toList ds gs before→X W args→W.ShapedOpen C.prog→
   Calls C.prog f args W λe W'=>∃v,e= .returned v∧s.post enc C.prog fn apart fresh handsOn again W args v W'):
  ReturnsInHanded a C os f .any (λw args=>(s.pre enc C.prog fn conds apart w args∧X w args)∧sizedMet enc C.prog fn (OpenSpec.ofChange s) apart w args) (s.post enc C.prog fn apart fresh handsOn again):=by
 refine returnsInHanded_of_calls own started noInit witness (λw tape i _ hsh _ hok hpre _=> ?_)
 obtain⟨_,_,_,fn',hfn',_,_,_,_,hval⟩:=hok
 obtain rfl:fn'=fn:=Option.some.inj (hfn'.symm.trans hfn)
 obtain⟨⟨⟨ds,gs,before,hw,_⟩,hx⟩,_⟩:=hpre
 refine(contract (w.forCall tape i) w.heap.size i.args ds gs before hval (DataW.Whole.of_heap (w':=w.forCall tape i) (by rfl) hw) (hX _ _ _ (by rfl) hx) hsh).mono λe W' ⟨v,he,hp⟩=> ?_
 subst he
 exact ChangeSpec.post_blind hp
theorem tab_of {W:World}{n:String}{d:DataW Unit}{g t k e:Nat}{kk:IntKind}{ns:List Int}(r:Lib.VarReads Tryd.prog W n d)(hg:Tryd.prog.globalNamed n=some g)(ht:(Tryd.prog.globals[g]?).map (·.type)=some t)
  (hu:Tryd.prog.underlying t=some (.array k e)) (he:Tryd.prog.underlying e=some (.int kk)) (hc:Tryd.prog.cellsOf e=1) (hn:Tryd.prog.cellsOf t=k) (hd:d= .agg (ns.map λz=> .lit (.int kk z))):
  ∃ty fz,W.heap[g]? =some (.cells ((ns.map (Value.int kk)).toArray) ty fz):=by
 obtain⟨g',t',cs,fuel,p,h1,h2,h3,h4⟩:=r
 obtain rfl:=Option.some.inj (hg.symm.trans h1)
 obtain rfl:=Option.some.inj (ht.symm.trans h2)
 subst hd
 have e1:cs.toList=ns.map (Value.int kk):=Sx.table_cells (H:=Unit) hu he hc hn h4
 unfold World.var? at h3
 rw[hg] at h3
 simp only[Option.bind_some] at h3
 split at h3
 ·rename_i cs' ty fz hh
  cases h3
  refine⟨ty,fz,?_⟩
  rw[hh]
  obtain⟨l⟩:=cs
  simp only at e1
  subst e1
  rfl
 ·cases h3
abbrev nm (k:Nat):String:=(laidTab.getD k default).1
theorem txtW_of_laid {W:World}(h:laidMet Tryd.prog laidTab W)(hsh:W.ShapedOpen Tryd.prog):Sx.TxtW W:=by
 refine⟨Go.Proofs.cell_of_shapedOpen_int hsh (by decide+kernel) Tryd.g0 rfl (by kernel_rfl) (by kernel_rfl) Tryd.underlying3,?_,?_,?_,?_⟩
 ·obtain⟨a,s,hv,_⟩:=laid_sentinel (n:=nm 5) h.tail.tail.tail.tail.tail (g:=1) (ti:=51) (by kernel_rfl) (by kernel_rfl) Tryd.underlying51 Tryd.rowErr Tryd.underlying117 Tryd.underlying119 rfl rfl Tryd.underlying9 Tryd.cellsErr Tryd.cellsStr
  exact⟨_,World.var?_cell (P:=Tryd.prog) (n:=nm 5) (g:=1) (by kernel_rfl) hv 0,.inr ⟨_,_,rfl⟩⟩
 ·obtain⟨a,s,hv,_⟩:=laid_sentinel (n:=nm 4) h.tail.tail.tail.tail (g:=2) (ti:=51) (by kernel_rfl) (by kernel_rfl) Tryd.underlying51 Tryd.rowErr Tryd.underlying117 Tryd.underlying119 rfl rfl Tryd.underlying9 Tryd.cellsErr Tryd.cellsStr
  exact⟨_,World.var?_cell (P:=Tryd.prog) (n:=nm 4) (g:=2) (by kernel_rfl) hv 0,.inr ⟨_,_,rfl⟩⟩
 ·exact tab_of (n:=nm 2) (Lib.laidMet.reads h (n:=nm 2) (d:=Rows.laid_internal_strconv_uint64pow10) (.tail _ (.tail _ (.head _)))) (by kernel_rfl) (by kernel_rfl) Tryd.underlying112 Tryd.underlying85 Tryd.cellsU64 Tryd.cellsPow (by kernel_rfl)
 ·exact tab_of (n:=nm 0) (Lib.laidMet.reads h (n:=nm 0) (d:=Rows.laid_math_bits_deBruijn32tab) (.head _)) (by kernel_rfl) (by kernel_rfl) Tryd.underlying125 Tryd.underlying5 Tryd.cellsU8 Tryd.cellsT32 (by kernel_rfl)
end Go.Proofs.YtgkgmdnjnjliiaaDoor

namespace Go.Sx
end Go.Sx

namespace Go.Sx
open IntKind
noncomputable section
def D.a (a b c:Int):Option (Bool):=
 some ((decide (b≤a))&&(decide (a≤c)))
def D.z (b:LI)(c:Int):Option (Bool):=
 (As (σ:=Int) (ρ:=(Unit) ⊕ (Bool)) (fun(a:Int)=>cond (decide (a<(b.length:Int))) ((idx b a).bind λd=>cond (d==c) (some (.inr (.inr true))) (some (.inl (i64.wrap (a+1))))) (some (.inr (.inl ())))) 0).bind λzz=>match zz with| .inl _=>(some false)| .inr z=>(some z)
def D.l (a:LL):Option (Int):=
 some (a.length:Int)
def D.I (a:LI):Option LI:=
 (Ay ([]:LI) a).bind λb=>some b
def D.t (b:LI)(c:Int):Option (Bool):=
 cond (decide (c<(b.length:Int))) (some false) ((As (σ:=Int) (ρ:=(Unit) ⊕ (Bool)) (fun(a:Int)=>cond (decide (a<(b.length:Int))) ((idx b a).bind λd=>(D.a d 0 (i64.wrap (c-1))).bind λe=>(cond (!e) (some true) ((cond (decide ((0:Int)<a)) ((idx b a).bind λf=>(idx b (i64.wrap (a-1))).bind λg=>some (decide (f≤g))) (some false)).bind λh=>some h)).bind λi=>cond i (some (.inr (.inr false))) (some (.inl (i64.wrap (a+1))))) (some (.inr (.inl ())))) 0).bind λzz=>match zz with| .inl _=>(some true)| .inr z=>(some z))
def D.M (a:LL):Option (Bool):=
 (D.l a).bind λd=>(D.a d 1 16).bind λf=>cond (!f) (some false) ((As (σ:=Int) (ρ:=(Unit) ⊕ (Bool)) (fun(b:Int)=>cond (decide (b<d)) ((idx a b).bind λg=>(D.t g d).bind λh=>(cond (!h) (some true) ((idx a b).bind λi=>(D.z i b).bind λj=>some j)).bind λk=>cond k (some (.inr (.inr false))) (some (.inl (i64.wrap (b+1))))) (some (.inr (.inl ())))) 0).bind λzz=>match zz with| .inl _=>((As (σ:=Int) (ρ:=(Unit) ⊕ (Bool)) (fun(c:Int)=>cond (decide (c<d)) ((As (σ:=Int) (ρ:=(Unit) ⊕ (Bool)) (fun(e:Int)=>(idx a c).bind λl=>cond (decide (e<(l.length:Int))) ((idx a c).bind λm=>(idx m e).bind λn=>(idx a n).bind λo=>(D.z o c).bind λp=>cond (!p) (some (.inr (.inr false))) (some (.inl (i64.wrap (e+1))))) (some (.inr (.inl ())))) 0).bind λzz=>match zz with| .inl _=>(some (.inl (i64.wrap (c+1))))| .inr z=>(some (.inr (.inr z)))) (some (.inr (.inl ())))) 0).bind λzz=>match zz with| .inl _=>(some true)| .inr z=>(some z))| .inr z=>(some z))
def D.u (a:LI)(d:Int):Option LI:=
 (As (σ:=Int) (ρ:=(Int)) (fun(b:Int)=>(cond (decide (b<(a.length:Int))) ((idx a b).bind λe=>some (decide (e<d))) (some false)).bind λf=>cond f (some (.inl (i64.wrap (b+1)))) (some (.inr b))) 0).bind λc=>(cond (decide (c<(a.length:Int))) ((idx a c).bind λg=>some (g==d)) (some false)).bind λh=>cond h (some a) ((BG a 0 c).bind λi=>(D.I i).bind λj=>(Ay j ([d]:LI)).bind λk=>(BG a c (a.length:Int)).bind λl=>(Ay k l).bind λm=>some m)
def D.A (a b c:Int):Option (Bool):=
 some ((decide (b≤a))&&(decide (a≤c)))
def D.Q (b:LI)(d:Int):Option (Bool):=
 (As (σ:=Int) (ρ:=(Unit) ⊕ (Bool)) (fun(a:Int)=>cond (decide (a<(b.length:Int))) ((idx b a).bind λc=>(D.A c 0 (i64.wrap (d-1))).bind λe=>(cond (!e) (some true) ((cond (decide ((0:Int)<a)) ((idx b (i64.wrap (a-1))).bind λf=>some (decide (c≤f))) (some false)).bind λg=>some g)).bind λh=>cond h (some (.inr (.inr false))) (some (.inl (i64.wrap (a+1))))) (some (.inr (.inl ())))) 0).bind λzz=>match zz with| .inl _=>(some true)| .inr z=>(some z)
def D.m (a:Int):Option (Int):=
 cond (decide (a<0)) none (some (ishl .u32 1 a))
def D.b0 (a:Int):Option (Int):=
 cond (a==0) (some 32) ((idx tab32 (ishr .u32 (IntKind.u32.wrap ((iand .u32 a (IntKind.u32.wrap (0-a)))*125613361)) 27)).bind λb=>some (i64.wrap b))
def D.E (a:Int):Option (Int):=
 (D.b0 a).bind λb=>some b
def D.v (x0 : Int) : Option ((LI)) :=
  (As (σ := Int × LI) (ρ := (LI)) (fun (s_52 : Int × LI) => match s_52 with | (x_55, l_56) => cond (x_55 != 0) ((D.E x_55).bind fun y_88 => (Ay l_56 ([y_88] : LI)).bind fun l_99 => some (.inl ((iand .u32 x_55 (IntKind.u32.wrap (x_55 - 1))), l_99))) (some (.inr l_56))) (x0, ([] : LI))).bind fun l_81 => some l_81
def D.T (a:LI):Option LI:=
 (CG (0:Int) 0 (a.length:Int)).bind λd=>(As (σ:=LI×Int) (ρ:=LI) (fun(c,b)=>cond (decide (b<(a.length:Int))) ((idx a b).bind λf=>(Ay c ([f]:LI)).bind λg=>some (.inl (g,(i64.wrap (b+1))))) (some (.inr c))) (d,0)).bind λh=>some h
def D.F (a:Int):Option LI:=
 (D.v a).bind λb=>(D.T b).bind λc=>some c
def D.i (b c:LI):Option (Bool):=
 cond ((b.length:Int) !=(c.length:Int)) (some false) ((As (σ:=Int) (ρ:=(Unit) ⊕ (Bool)) (fun(a:Int)=>cond (decide (a<(b.length:Int))) ((idx b a).bind λd=>(idx c a).bind λe=>cond (d !=e) (some (.inr (.inr false))) (some (.inl (i64.wrap (a+1))))) (some (.inr (.inl ())))) 0).bind λzz=>match zz with| .inl _=>(some true)| .inr z=>(some z))
def D.O (b c:LL):Option (Bool):=
 cond ((b.length:Int) !=(c.length:Int)) (some false) ((As (σ:=Int) (ρ:=(Unit) ⊕ (Bool)) (fun(a:Int)=>cond (decide (a<(b.length:Int))) ((idx b a).bind λd=>(idx c a).bind λe=>(D.i d e).bind λf=>cond (!f) (some (.inr (.inr false))) (some (.inl (i64.wrap (a+1))))) (some (.inr (.inl ())))) 0).bind λzz=>match zz with| .inl _=>(some true)| .inr z=>(some z))
def D.x (a b:LL):Option (Bool):=
 (D.O a b).bind λc=>cond (!c) (some false) (some true)
def D.g (c:LI)(d:Int):Option (Int):=
 (As (σ:=Int×Int) (ρ:=(Int) ⊕ (Int)) (fun(a,b)=>cond (decide (b<(c.length:Int))) ((idx c b).bind λf=>cond (f !=a) (some (.inr (.inr (-1)))) (some (.inl ((i64.wrap (a+1)),(i64.wrap (b+1)))))) (some (.inr (.inl a)))) (d,0)).bind λzz=>match zz with| .inl g=>(some g)| .inr z=>(some z)
def D.U (b:LL)(e:Int):Option (Int):=
 (As (σ:=Int×Int) (ρ:=(Int) ⊕ (Int)) (fun(c,a)=>cond (decide (a<(b.length:Int))) ((idx b a).bind λg=>(D.g g c).bind λd=>cond (decide (d<0)) (some (.inr (.inr (-1)))) (some (.inl (d,(i64.wrap (a+1)))))) (some (.inr (.inl c)))) (e,0)).bind λzz=>match zz with| .inl h=>(some h)| .inr z=>(some z)
def D.h (d:LI)(e:Int):Option (Int×LI):=
 (As (σ:=LI×Int×Int) (ρ:=(LI×Int)) (fun(a,c,b)=>cond (decide (b<(a.length:Int))) ((idx a b).bind λi=>some (.inl ((a.set (Int.toNat b) c),(i64.wrap (c+1)),(i64.wrap (b+1))))) (some (.inr (a,c)))) (d,e,0)).bind fun(g,h)=>some (h,g)
def D.J (e:LL)(f:Int):Option (Int×LL):=
 (As (σ:=LL×Int×Int) (ρ:=(LL×Int)) (fun(a,c,b)=>cond (decide (b<(a.length:Int))) ((idx a b).bind λh=>(D.h h c).bind λd=>some (.inl ((a.set (Int.toNat b) d.2),d.1,(i64.wrap (b+1))))) (some (.inr (a,c)))) (e,f,0)).bind fun(i,j)=>some (j,i)
def D.K (b:LL)(c:Int):Option (Int×LL):=
 (D.J b c).bind λa=>some (a.1,a.2)
def D.P (c:Int):Option LL:=
 (As (σ:=Int×LL) (ρ:=LL) (fun(a,b)=>cond (decide (a<c)) ((Ay b ([([]:LI)]:LL)).bind λe=>some (.inl ((i64.wrap (a+1)),e))) (some (.inr b))) (0,([]:LL))).bind λf=>some f
def D.B (b:LL)(a c:Int):Option LL:=
 (idx b a).bind λe=>(D.u e c).bind λd=>(idx b a).bind λh=>(idx (b.set (Int.toNat a) d) c).bind λf=>(D.u f a).bind λg=>(idx (b.set (Int.toNat a) d) c).bind λi=>some ((b.set (Int.toNat a) d).set (Int.toNat c) g)
def D.q (c:Int)(a:LL):Option (LL×Bool):=
 (D.a c 1 16).bind λe=>cond ((!e)||(decide ((120:Int)<(a.length:Int)))) (some (([]:LL),false)) ((D.P c).bind λf=>(As (σ:=Int×LL) (ρ:=LL ⊕ (LL×Bool)) (fun(b,d)=>cond (decide (b<(a.length:Int))) ((idx a b).bind λh=>(cond ((h.length:Int) !=2) (some true) ((idx a b).bind λi=>(D.t i c).bind λj=>some (!j))).bind λk=>cond k (some (.inr (.inr (([]:LL),false)))) ((idx a b).bind λl=>(idx l 0).bind λm=>(idx a b).bind λn=>(idx n 1).bind λo=>(D.B d m o).bind λp=>some (.inl ((i64.wrap (b+1)),p)))) (some (.inr (.inl d)))) (0,f)).bind λzz=>match zz with| .inl q=>(some (q,true))| .inr z=>(some z))
def D.V (c:LL):Option LL:=
 (As (σ:=LL×Int) (ρ:=LL) (fun(e,a)=>(D.l c).bind λg=>cond (decide (a<g)) ((As (σ:=LL×Int) (ρ:=LL) (fun(d,b)=>(idx c a).bind λi=>cond (decide (b<(i.length:Int))) ((idx c a).bind λj=>(idx j b).bind λk=>cond (decide (a<k)) ((idx c a).bind λl=>(idx l b).bind λm=>(Ay d ([([a,m]:LI)]:LL)).bind λn=>some (.inl (n,(i64.wrap (b+1))))) (some (.inl (d,(i64.wrap (b+1)))))) (some (.inr d))) (e,0)).bind λo=>some (.inl (o,(i64.wrap (a+1))))) (some (.inr e))) (([]:LL),0)).bind λp=>some p
def D.n (b:LI):Option LL:=
 (As (σ:=Int×LL) (ρ:=LL) (fun(a,c)=>cond (decide (a<(b.length:Int))) ((idx b a).bind λe=>(D.F e).bind λf=>(Ay c ([f]:LL)).bind λg=>some (.inl ((i64.wrap (a+1)),g))) (some (.inr c))) (0,([]:LL))).bind λh=>some h
def D.L (d:LL):Option LL:=
 (As (σ:=LL×Int) (ρ:=LL) (fun(e,a)=>cond (decide (a<(d.length:Int))) ((idx d a).bind λf=>(As (σ:=LL×Int) (ρ:=LL) (fun(c,b)=>cond (decide (b<(f.length:Int))) ((idx f b).bind λg=>cond (decide (a<g)) ((Ay c ([([a,g]:LI)]:LL)).bind λj=>some (.inl (j,(i64.wrap (b+1))))) (some (.inl (c,(i64.wrap (b+1)))))) (some (.inr c))) (e,0)).bind λk=>some (.inl (k,(i64.wrap (a+1))))) (some (.inr e))) (([]:LL),0)).bind λl=>some l
end
end Go.Sx

namespace Go.Sx
end Go.Sx

namespace Go.Sx
end Go.Sx

namespace Go.Sx
end Go.Sx

namespace Go.Sx
end Go.Sx

namespace Go.Sx
end Go.Sx

namespace Go.Sx
open IntKind
noncomputable section
def D.R (b:LI)(a c:Int):Option LI:=
 (idx b a).bind λd=>(D.m c).bind λe=>(idx b a).bind λh=>(idx (b.set (Int.toNat a) (ior .u32 d e)) c).bind λf=>(D.m a).bind λg=>(idx (b.set (Int.toNat a) (ior .u32 d e)) c).bind λi=>some ((b.set (Int.toNat a) (ior .u32 d e)).set (Int.toNat c) (ior .u32 f g))
def D.N (b:LI):Option LL:=
 (As (σ:=Int×LL) (ρ:=LL) (fun(a,c)=>cond (decide (a<(b.length:Int))) ((idx b a).bind λe=>(D.F e).bind λf=>(Ay c [f]).bind λg=>some (.inl ((i64.wrap (a+1)),g))) (some (.inr c))) (0,([]:LL))).bind λh=>some h
def D.y (b:LL)(c:Int):Option (Int):=
 (D.U b c).bind λa=>cond (decide (a<0)) (some (-1)) (some a)
end
end Go.Sx

namespace Go.Sx
end Go.Sx

namespace Go.Sx
end Go.Sx

namespace Go.Sx
open IntKind
noncomputable def D.d0 (x0 : LI) (x1 : Int) (x2 : Int) : Option (Int) :=
  (D.m x1).bind fun y_1 => (As (σ := Int) (ρ := (Int)) (fun (x_177 : Int) => (D.v x_177).bind fun y_179 => (As (σ := Int × Int) (ρ := (Int)) (fun (s_223 : Int × Int) => match s_223 with | (x_226, x_227) => cond (decide (x_227 < (y_179.length : Int))) ((idx y_179 x_227).bind fun e_246 => (idx x0 e_246).bind fun e_252 => some (.inl ((ior .u32 x_226 (iand .u32 e_252 x2)), (IntKind.i64.wrap (x_227 + 1))))) (some (.inr x_226))) (x_177, 0)).bind fun x_243 => cond (x_243 == x_177) (some (.inr x_177)) (some (.inl x_243))) y_1).bind fun z => some z
end Go.Sx

namespace Go.Sx
end Go.Sx

namespace Go.Sx
end Go.Sx

namespace Go.Sx
end Go.Sx

namespace Go.Sx
end Go.Sx

namespace Go.Sx
open IntKind
noncomputable def D.e0 (x0 : LI) (x1 : Int) (x2 : Int) : Option (Int) :=
  (D.m x2).bind fun y_1 => (D.d0 x0 x2 (ior .u32 x1 y_1)).bind fun y_8 => (D.v y_8).bind fun y_15 => (As (σ := Int × Int) (ρ := (Int)) (fun (s_59 : Int × Int) => match s_59 with | (x_62, x_63) => cond (decide (x_63 < (y_15.length : Int))) ((idx y_15 x_63).bind fun e_82 => (idx x0 e_82).bind fun e_88 => some (.inl ((ior .u32 x_62 e_88), (IntKind.i64.wrap (x_63 + 1))))) (some (.inr x_62))) (0, 0)).bind fun x_79 => (D.m x2).bind fun y_94 => some (Di .u32 (Di .u32 x_79 x1) y_94)
end Go.Sx

namespace Go.Sx
end Go.Sx

namespace Go.Sx
end Go.Sx

namespace Go.Sx
end Go.Sx

namespace Go.Sx
end Go.Sx

namespace Go.Sx
end Go.Sx

namespace Go.Sx
end Go.Sx

namespace Go.Sx
end Go.Sx

namespace Go.Sx
end Go.Sx

namespace Go.Sx
end Go.Sx

namespace Go.Sx
end Go.Sx

namespace Go.Sx
end Go.Sx

namespace Go.Sx
end Go.Sx

namespace Go.Sx
theorem w64 {x:Int}(h1: -9223372036854775808≤x)(h2:x<9223372036854775808):IntKind.i64.wrap x=x:=by
 simp only[IntKind.wrap,IntKind.bits,IntKind.signed]
 have e:(2:Int)^64=18446744073709551616:=by decide
 have e':(2:Int)^(64-1)=9223372036854775808:=by decide
 simp
 omega
theorem dlt {i n:Nat}(h:i<n):decide ((i:Int)<(n:Int))=true:=by simp;omega
theorem Ba {n:Nat}:decide ((n:Int)<(n:Int))=false:=by simp
theorem AA {α:Type}{xs:List α}{i:Nat}(h:i<xs.length):idx xs (i:Int)=some xs[i]:=by
 unfold idx;rw[if_pos (by omega)];simp[h]
theorem wi {i:Nat}(h:i<4611686018427387904):IntKind.i64.wrap ((i:Int)+1)=((i+1:Nat):Int):=by
 rw[w64 (by omega) (by omega)];rfl
theorem wi' {i n:Nat}(h:i<n)(hn:n≤4611686018427387904):IntKind.i64.wrap ((i:Int)+1)=((i+1:Nat):Int):=wi (by omega)
theorem AO {α:Type}{xs:List α}{i:Nat}(h:i<xs.length)(d:α):xs.getD i d=xs[i]:=by simp[h]
theorem AX {α:Type}{xs ys:List α}(h:xs.length+ys.length≤4294967296):Ay xs ys=some (xs++ys):=by
 unfold Ay;rw[if_pos h]
theorem sliceD_pre {α:Type}{xs:List α}{i:Nat}(h:i≤xs.length):BG xs 0 (i:Int)=some (xs.take i):=by
 unfold BG;rw[if_pos ⟨by omega,by omega,by omega⟩];simp
theorem sliceD_post {α:Type}{xs:List α}{i:Nat}(h:i≤xs.length):BG xs (i:Int) (xs.length:Int)=some (xs.drop i):=by
 unfold BG;rw[if_pos ⟨by omega,by omega,by omega⟩];simp
theorem makeD_ok {α:Type}{z:α}{n:Nat}{c:Int}(h:(n:Int)≤c)(h2:c≤4294967296):CG z (n:Int) c=some (List.replicate n z):=by
 unfold CG;rw[if_pos ⟨by omega,h,h2⟩];simp
theorem makeD_zero {α:Type}{z:α}{c:Int}(h:0≤c)(h2:c≤4294967296):CG z 0 c=some []:=by
 unfold CG;rw[if_pos ⟨by omega,h,h2⟩];simp
def Stp {σ ρ:Type}(I:σ→Prop)(μ:σ→Nat)(Post:ρ→Prop)(s:σ):σ ⊕ ρ→Prop
 | .inl s'=>I s'∧μ s'<μ s
 | .inr r=>Post r
theorem B6 {σ ρ β:Type}{step:σ→Option (σ ⊕ ρ)}{s:σ}{k:ρ→Option β}{Q:β→Prop}(I:σ→Prop)(μ:σ→Nat)(Post:ρ→Prop)
  (hstep:∀s,I s→∃y,step s=some y∧Stp I μ Post s y) (h0:I s) (hk:∀r,Post r→∃y,k r=some y∧Q y):∃y,(As step s).bind k=some y∧Q y:=by
 obtain⟨r,hr,hp⟩:=loopF_inv (step:=step) I μ Post (λs hs=>by
  obtain⟨y,hy,hq⟩:=hstep s hs
  cases y with
  |inl s'=>exact .inl ⟨s',hy,hq.1,hq.2⟩
  |inr r=>exact .inr ⟨r,hy,hq⟩) s h0
 rw[hr]
 exact hk r hp
theorem loop_steps {S ρ:Type}{step:S→Option (S ⊕ ρ)}(st:Nat→S)(n:Nat)(h:∀i,i<n→step (st i)=some (.inl (st (i+1)))):As step (st 0)=As step (st n):=by
 have key:∀k,k≤n→As step (st 0)=As step (st k):=by
  intro k
  induction k with
  |zero=>intro _;rfl
  |succ k ih=>intro hk;rw[ih (by omega),A0 (h k (by omega))]
 exact key n (Nat.le_refl n)
theorem BI {S ρ β:Type}{step:S→Option (S ⊕ ρ)}{k:ρ→Option β}{s0:S}(st:Nat→S)(n:Nat)(r:ρ)(h0:st 0=s0)(h:∀i,i<n→step (st i)=some (.inl (st (i+1))))(he:step (st n)=some (.inr r)):
  (As step s0).bind k=k r:=by
 rw[←h0,loop_steps st n h,A9 he];rfl
theorem loop_map {α β γ S:Type}{step:S→Option (S ⊕ List β)}{k:List β→Option γ}(xs:List α)(enc:List β→Int→S)(f:α→β)(hx:xs.length≤4294967296)
  (hstep:∀s (i:Nat) (h:i<xs.length),s.length=i→step (enc s i)=(Ay s [f xs[i]]).bind λl=>some (.inl (enc l ((i+1:Nat):Int))))
  (hend:∀s,step (enc s xs.length)=some (.inr s)):(As step (enc [] 0)).bind k=k (xs.map f):=by
 have key:∀i,i≤xs.length→As step (enc [] 0)=As step (enc ((xs.take i).map f) i):=by
  intro i
  induction i with
  |zero=>intro _;simp
  |succ i ih=>
   intro hi
   rw[ih (by omega)]
   have h1:=hstep ((xs.take i).map f) i (by omega) (by simp;omega)
   have h2:Ay ((xs.take i).map f) [f xs[i]]=some ((xs.take (i+1)).map f):=by
    unfold Ay
    rw[if_pos (by simp;omega)]
    rw[List.take_succ_eq_append_getElem (show i<xs.length by omega),List.map_append];rfl
   rw[h2] at h1
   rw[A0 h1]
 rw[key xs.length (Nat.le_refl _),List.take_length,A9 (hend _)];rfl
theorem loop_nat {σ S ρ:Type}{step:S→Option (S ⊕ ρ)}(n:Nat)(enc:σ→Int→S)(f:σ→Nat→σ)(fin:σ→ρ)(I:Nat→σ→Prop)(s0:σ)
  (h0:I 0 s0) (hstep:∀s (i:Nat),i<n→I i s→step (enc s i)=some (.inl (enc (f s i) ((i+1:Nat):Int)))∧I (i+1) (f s i))
  (hend:∀s,I n s→step (enc s n)=some (.inr (fin s))):As step (enc s0 0)=some (fin ((List.range n).foldl f s0))∧I n ((List.range n).foldl f s0):=by
 have key:∀k,k≤n→As step (enc s0 0)=As step (enc ((List.range k).foldl f s0) k)∧I k ((List.range k).foldl f s0):=by
  intro k
  induction k with
  |zero=>intro _;exact⟨rfl,h0⟩
  |succ k ih=>
   intro hk
   obtain⟨h1,h2⟩:=ih (by omega)
   obtain⟨h3,h4⟩:=hstep _ k (by omega) h2
   rw[List.range_succ,List.foldl_append,List.foldl_cons,List.foldl_nil]
   exact⟨by rw[h1,A0 h3],h4⟩
 obtain⟨h1,h2⟩:=key n (Nat.le_refl n)
 exact⟨by rw[h1,A9 (hend _ h2)],h2⟩
theorem Df {ρ : Type} {step : Int → Option (Int ⊕ ρ)} (n : Nat) (c : Nat → Option ρ) (fin : ρ)
    (hstep : ∀ i, i < n → step (i : Int) = match c i with | some r => some (.inr r) | none => some (.inl ((i + 1 : Nat) : Int)))
    (hend : step (n : Int) = some (.inr fin)) : As step 0 = some (((List.range n).findSome? c).getD fin) := by
  have key : ∀ (k i : Nat), i + k = n → As step (i : Int) = some (((List.range' i k).findSome? c).getD fin) := by
    intro k
    induction k with
    | zero => intro i h; obtain rfl : i = n := by omega
              simpa using A9 hend
    | succ k ih =>
      intro i h
      have h1 := hstep i (by omega)
      rw [List.range'_succ, List.findSome?_cons]
      cases hc : c i with
      | some r => rw [hc] at h1; simpa using A9 h1
      | none => rw [hc] at h1; rw [A0 h1]; exact ih (i + 1) (by omega)
  have := key n 0 (by omega)
  simpa [List.range_eq_range'] using this
theorem Ci {β:Type}{step:Int→Option (Int ⊕ (Unit ⊕ β))}{k:Unit ⊕ β→Option Bool}(n:Nat)(c:Nat→Bool)(bad:β)
  (hstep:∀i,i<n→step (i:Int)=if c i then some (.inl ((i+1:Nat):Int)) else some (.inr (.inr bad)))
  (hend:step (n:Int)=some (.inr (.inl ()))) (hk1:k (.inl ())=some true) (hk2:k (.inr bad)=some false):
  (As step 0).bind k=some ((List.range n).all c):=by
 rw[Df n (λi=>if c i then none else some (.inr bad)) (.inl ()) (λi hi=>by rw[hstep i hi];cases c i<;>rfl) hend]
 simp only[bs]
 cases h:(List.range n).all c with
 |true=>
  rw[List.findSome?_eq_none_iff.2 (λx hx=>by rw[if_pos (List.all_eq_true.1 h x hx)])]
  exact hk1
 |false=>
  cases h2:(List.range n).findSome? (λi=>if c i then none else some (Sum.inr bad)) with
  |none=>
   rw[List.findSome?_eq_none_iff] at h2
   have:(List.range n).all c=true:=List.all_eq_true.2 λx hx=>by
    have:=h2 x hx
    cases hc:c x
    ·rw[hc] at this;cases this
    ·rfl
   rw[this] at h;cases h
  |some r=>
   obtain⟨x,_,hx⟩:=List.exists_of_findSome?_eq_some h2
   cases hc:c x
   ·rw[hc] at hx;simp at hx;subst hx;exact hk2
   ·rw[hc] at hx;simp at hx
theorem loop_ck {ρ β:Type}{step:Int→Option (Int ⊕ ρ)}{k:ρ→Option β}(n:Nat)(c:Nat→Bool)(fine bad:ρ)
  (hstep:∀i,i<n→step (i:Int)=if c i then some (.inl ((i+1:Nat):Int)) else some (.inr bad))
  (hend:step (n:Int)=some (.inr fine)):(As step 0).bind k=cond ((List.range n).all c) (k fine) (k bad):=by
 rw[Df n (λi=>if c i then none else some bad) fine (λi hi=>by rw[hstep i hi];cases c i<;>rfl) hend]
 simp only[bs]
 cases h:(List.range n).all c with
 |true=>
  rw[List.findSome?_eq_none_iff.2 (λx hx=>by rw[if_pos (List.all_eq_true.1 h x hx)])]
  rfl
 |false=>
  cases h2:(List.range n).findSome? (λi=>if c i then none else some bad) with
  |none=>
   rw[List.findSome?_eq_none_iff] at h2
   have:(List.range n).all c=true:=List.all_eq_true.2 λx hx=>by
    have:=h2 x hx
    cases hc:c x
    ·rw[hc] at this;cases this
    ·rfl
   rw[this] at h;cases h
  |some r=>
   obtain⟨x,_,hx⟩:=List.exists_of_findSome?_eq_some h2
   cases hc:c x
   ·rw[hc] at hx;simp at hx;subst hx;rfl
   ·rw[hc] at hx;simp at hx
theorem loop_anyb {β:Type}{step:Int→Option (Int ⊕ (Unit ⊕ β))}{k:Unit ⊕ β→Option Bool}(n:Nat)(c:Nat→Bool)(good:β)
  (hstep:∀i,i<n→step (i:Int)=if c i then some (.inr (.inr good)) else some (.inl ((i+1:Nat):Int)))
  (hend:step (n:Int)=some (.inr (.inl ()))) (hk1:k (.inl ())=some false) (hk2:k (.inr good)=some true):
  (As step 0).bind k=some ((List.range n).any c):=by
 rw[Df n (λi=>if c i then some (.inr good) else none) (.inl ()) (λi hi=>by rw[hstep i hi];cases c i<;>rfl) hend]
 simp only[bs]
 cases h:(List.range n).any c with
 |false=>
  rw[List.findSome?_eq_none_iff.2 (λx hx=>by
   have:c x=false:=by
    cases hc:c x
    ·rfl
    ·rw[List.any_eq_true.2 ⟨x,hx,hc⟩] at h;cases h
   rw[this];rfl)]
  exact hk1
 |true=>
  obtain⟨x,hx,hc⟩:=List.any_eq_true.1 h
  cases h2:(List.range n).findSome? (λi=>if c i then some (Sum.inr good) else none) with
  |none=>
   rw[List.findSome?_eq_none_iff] at h2
   have:=h2 x hx
   rw[hc] at this;cases this
  |some r=>
   obtain⟨y,_,hy⟩:=List.exists_of_findSome?_eq_some h2
   cases hc:c y
   ·rw[hc] at hy;simp at hy
   ·rw[hc] at hy;simp at hy;subst hy;exact hk2
theorem range_all_list {α:Type}(xs:List α)(p:α→Bool)(c:Nat→Bool)(h:∀i (hi:i<xs.length),c i=p xs[i]):(List.range xs.length).all c=xs.all p:=by
 rw[Bool.eq_iff_iff,List.all_eq_true,List.all_eq_true]
 constructor
 ·intro hh x hx
  obtain⟨i,hi,rfl⟩:=List.getElem_of_mem hx
  rw[←h i hi];exact hh i (List.mem_range.2 hi)
 ·intro hh i hi
  have hi':=List.mem_range.1 hi
  rw[h i hi'];exact hh _ (List.getElem_mem _)
theorem range_any_list {α:Type}(xs:List α)(p:α→Bool)(c:Nat→Bool)(h:∀i (hi:i<xs.length),c i=p xs[i]):(List.range xs.length).any c=xs.any p:=by
 rw[Bool.eq_iff_iff,List.any_eq_true,List.any_eq_true]
 constructor
 ·rintro⟨i,hi,hc⟩
  have hi':=List.mem_range.1 hi
  exact⟨_,List.getElem_mem hi',by rw[←h i hi'];exact hc⟩
 ·rintro⟨x,hx,hc⟩
  obtain⟨i,hi,rfl⟩:=List.getElem_of_mem hx
  exact⟨i,List.mem_range.2 hi,by rw[h i hi];exact hc⟩
theorem CZ (n:Nat)(c:Nat→Bool):(List.range n).all c=true↔∀i,i<n→c i=true:=by
 rw[List.all_eq_true]
 exact⟨λh i hi=>h i (List.mem_range.2 hi),λh i hi=>h i (List.mem_range.1 hi)⟩
theorem CO (n:Int):IntKind.u32.wrap n=n%4294967296:=by simp[IntKind.wrap,IntKind.signed,IntKind.bits]
def VS (s:Int):Prop:=0≤s∧s<4294967296
def has (s:Int)(v:Nat):Bool:=s.toNat.testBit v
theorem VS.nat {s:Int}(h:VS s):∃n:Nat,s=n∧n<4294967296:=⟨s.toNat,by have:=h.1;omega,by have:=h.1;have:=h.2;omega⟩
theorem VS.zero :VS 0:=⟨by omega,by omega⟩
theorem VS.wrap (n:Int):VS (IntKind.u32.wrap n):=by rw[CO];exact⟨by omega,by omega⟩
theorem BT (n v:Nat):has (n:Int) v=n.testBit v:=by simp[has]
theorem Cg (v:Nat):has 0 v=false:=by simp[has]
theorem CE (n:Nat)(h:n<4294967296):(BitVec.ofInt 32 (n:Int)).toNat=n:=by
 rw[BitVec.toNat_ofInt]
 omega
theorem ior_nat {a b:Nat}(ha:a<4294967296)(hb:b<4294967296):ior .u32 (a:Int) (b:Int)=((a|||b:Nat):Int):=by
 have hw:a|||b<4294967296:=Nat.or_lt_two_pow (n:=32) ha hb
 show IntKind.u32.wrap (((BitVec.ofInt 32 (a:Int)|||BitVec.ofInt 32 (b:Int)).toNat:Nat):Int)=_
 rw[BitVec.toNat_or,CE a ha,CE b hb,CO];omega
theorem iand_nat {a b:Nat}(ha:a<4294967296)(hb:b<4294967296):iand .u32 (a:Int) (b:Int)=((a&&&b:Nat):Int):=by
 have hw:a&&&b<4294967296:=Nat.and_lt_two_pow (n:=32) _ hb
 show IntKind.u32.wrap (((BitVec.ofInt 32 (a:Int)&&&BitVec.ofInt 32 (b:Int)).toNat:Nat):Int)=_
 rw[BitVec.toNat_and,CE a ha,CE b hb,CO];omega
theorem VS.ior (a b:Int):VS (ior .u32 a b):=VS.wrap _
theorem VS.iand (a b:Int):VS (iand .u32 a b):=VS.wrap _
theorem VS.ishl (a b:Int):VS (ishl .u32 a b):=VS.wrap _
theorem has_ior {a b:Int}(ha:VS a)(hb:VS b)(v:Nat):has (ior .u32 a b) v=(has a v||has b v):=by
 obtain⟨m,rfl,hm⟩:=ha.nat;obtain⟨n,rfl,hn⟩:=hb.nat
 rw[ior_nat hm hn];simp only[BT,Nat.testBit_or]
theorem has_big {a:Int}(ha:VS a){v:Nat}(hv:32≤v):has a v=false:=by
 obtain⟨m,rfl,hm⟩:=ha.nat
 rw[BT]
 exact Nat.testBit_lt_two_pow (Nat.lt_of_lt_of_le hm (Nat.pow_le_pow_right (n:=2) (by omega) hv))
theorem VS.ext {a b:Int}(ha:VS a)(hb:VS b)(h:∀v,v<32→has a v=has b v):a=b:=by
 have:∀v,has a v=has b v:=λv=>by
  by_cases hv:v<32
  ·exact h v hv
  ·rw[has_big ha (by omega),has_big hb (by omega)]
 obtain⟨m,rfl,hm⟩:=ha.nat;obtain⟨n,rfl,hn⟩:=hb.nat
 congr 1
 apply Nat.eq_of_testBit_eq
 intro v
 have:=this v
 rwa [BT,BT] at this
theorem VS.eq_zero {a:Int}(ha:VS a):a=0↔∀v,v<32→has a v=false:=
 ⟨λh v _=>by rw[h,Cg],λh=>ha.ext VS.zero (λv hv=>by rw[h v hv,Cg])⟩
theorem one_eq {v:Nat}(hv:v<32):ishl .u32 1 (v:Int)=((2^v:Nat):Int):=by
 have h:(2:Nat)^v<2^32:=Nat.pow_lt_pow_right (by omega) hv
 have h':(2:Nat)^32=4294967296:=by decide
 rw[h'] at h
 show IntKind.u32.wrap (1*2^(min ((v:Int)).toNat 32))=_
 rw[CO,show min ((v:Int)).toNat 32=v by simp;omega,Int.one_mul]
 have e:((2^v:Nat):Int)=(2:Int)^v:=by simp
 rw[←e]
 generalize 2^v=p at h ⊢
 omega
theorem has_one {v:Nat}(hv:v<32)(u:Nat):has (ishl .u32 1 (v:Int)) u=decide (u=v):=by
 rw[one_eq hv,BT,Nat.testBit_two_pow]
 simp[eq_comm]
def AP (s : Int) : LI := ((List.range 32).filter (has s)).map Int.ofNat
theorem mem_elems {s:Int}{x:Int}:x∈AP s↔∃v:Nat,v<32∧has s v=true∧x=v:=by
 unfold AP
 rw[List.mem_map]
 constructor
 ·rintro⟨v,hv,rfl⟩
  rw[List.mem_filter,List.mem_range] at hv
  exact⟨v,hv.1,hv.2,rfl⟩
 ·rintro⟨v,h1,h2,rfl⟩
  exact⟨v,List.mem_filter.2 ⟨List.mem_range.2 h1,h2⟩,rfl⟩
theorem mem_elems_nat {s:Int}(h:VS s){v:Nat}:(v:Int)∈AP s↔has s v=true:=by
 rw[mem_elems]
 constructor
 ·rintro⟨u,_,h2,h3⟩;obtain rfl:v=u:=by omega
  exact h2
 ·intro h2
  refine⟨v,?_,h2,rfl⟩
  by_cases hv:v<32
  ·exact hv
  ·rw[has_big h (by omega)] at h2;cases h2
theorem elems_len (s:Int):(AP s).length≤32:=by
 unfold AP
 rw[List.length_map]
 exact Nat.le_trans (List.length_filter_le _ _) (by simp)
def Inc (l : LI) : Prop := l.Pairwise (· < ·)
theorem CI (s:Int):Inc (AP s):=by
 unfold AP Inc
 rw[List.pairwise_map]
 refine List.Pairwise.filter _ ?_
 refine List.Pairwise.imp ?_ (List.pairwise_lt_range (n:=32))
 intro a b h
 show (a:Int)<(b:Int)
 omega
theorem Inc.ext :∀{l l':LI},Inc l→Inc l'→(∀x,x∈l↔x∈l')→l=l'
 |[],[],_,_,_=>rfl
 |[],y::l',_,_,h=>by have:=(h y).2 (by simp);simp at this
 |x::l,[],_,_,h=>by have:=(h x).1 (by simp);simp at this
 |x::l,y::l',h1,h2,h=>by
  have h1':=List.pairwise_cons.1 h1;have h2':=List.pairwise_cons.1 h2
  have e:x=y:=by
   rcases List.mem_cons.1 ((h x).1 (by simp)) with e|e
   ·exact e
   ·rcases List.mem_cons.1 ((h y).2 (by simp)) with e'|e'
    ·exact e'.symm
    ·have:=h2'.1 x e;have:=h1'.1 y e';omega
  subst e
  have:l=l':=by
   refine Inc.ext h1'.2 h2'.2 (λz=> ?_)
   constructor
   ·intro hz
    rcases List.mem_cons.1 ((h z).1 (List.mem_cons_of_mem _ hz)) with e|e
    ·have:=h1'.1 z hz;omega
    ·exact e
   ·intro hz
    rcases List.mem_cons.1 ((h z).2 (List.mem_cons_of_mem _ hz)) with e|e
    ·have:=h2'.1 z hz;omega
    ·exact e
  rw[this]
theorem least_spec {s:Int}(h:VS s)(h0:s≠0):∃k:Nat,k<32∧has s k=true∧(∀v,v<k→has s v=false)∧
  iand .u32 s (IntKind.u32.wrap (0-s))=((2^k:Nat):Int)∧(∀v,has (iand .u32 s (IntKind.u32.wrap (s-1))) v=(has s v&& !decide (v=k))):=by
 obtain⟨m,rfl,hm⟩:=h.nat
 have hm0:m≠0:=by omega
 obtain⟨q,hq,hk⟩:=Lib.ctzFrom_spec 32 m (by omega) hm
 have hc:Lib.ctz 32 m=Lib.ctzFrom 32 m:=by unfold Lib.ctz;rw[if_neg hm0]
 obtain⟨hl,_⟩:=Lib.lowest_bit 32 m hm0 hm
 rw[hc] at hl
 generalize Lib.ctzFrom 32 m=k at*
 have hpos:0<2^k:=Nat.pow_pos (by omega)
 have hb:∀v,m.testBit v=(decide (v≥k)&&(2*q+1).testBit (v-k)):=λv=>by rw[hq,Nat.mul_comm,Nat.testBit_mul_two_pow,Bool.and_comm]
 refine⟨k,hk,?_,λv hv=> ?_,?_,λv=> ?_⟩
 ·rw[BT,hb];simp
 ·rw[BT,hb];simp;intro hc;omega
 ·have e:IntKind.u32.wrap (0-(m:Int))=((4294967296-m:Nat):Int):=by rw[CO];omega
  rw[e,iand_nat hm (by omega)]
  rw[←hl]
 ·have e:IntKind.u32.wrap ((m:Int)-1)=((m-1:Nat):Int):=by rw[CO];omega
  rw[e,iand_nat hm (by omega),BT,BT,Nat.testBit_and]
  have hm1:m-1=2^k*(2*q)+(2^k-1):=by rw[hq,Nat.mul_add];omega
  have hb1:(m-1).testBit v=if v<k then true else(2*q).testBit (v-k):=by
   rw[hm1,Nat.testBit_two_pow_mul_add _ (by omega)]
   split
   ·rename_i hv;rw[Nat.testBit_two_pow_sub_one];simp[hv]
   ·rfl
  rw[hb1,hb]
  by_cases hv:v<k
  ·simp[hv];intro hc;omega
  ·rw[if_neg hv]
   by_cases hvk:v=k
   ·subst hvk;simp
   ·obtain⟨t,ht⟩:∃t,v-k=t+1:=⟨v-k-1,by omega⟩
    rw[ht,Nat.testBit_succ,Nat.testBit_succ]
    have e1:(2*q+1)/2=q:=by omega
    have e2:2*q/2=q:=by omega
    rw[e1,e2]
    simp[hvk]
theorem elems_least {s t:Int}{k:Nat}(hk:k<32)(h1:has s k=true)(h2:∀v,v<k→has s v=false)(h3:∀v,has t v=(has s v&& !decide (v=k))):
  AP s=(k:Int)::AP t:=by
 refine Inc.ext (CI s) ?_ (λx=> ?_)
 ·refine List.pairwise_cons.2 ⟨λx hx=> ?_,CI t⟩
  obtain⟨v,hv,h4,rfl⟩:=mem_elems.1 hx
  rw[h3] at h4
  simp at h4
  by_cases hc:v<k
  ·rw[h2 v hc] at h4;simp at h4
  ·omega
 ·rw[List.mem_cons,mem_elems,mem_elems]
  constructor
  ·rintro⟨v,hv,h4,rfl⟩
   by_cases e:v=k
   ·left;omega
   ·right;exact⟨v,hv,by rw[h3,h4];simp[e],rfl⟩
  ·rintro(rfl|⟨v,hv,h4,rfl⟩)
   ·exact⟨k,hk,h1,rfl⟩
   ·rw[h3] at h4;simp at h4
    exact⟨v,hv,h4.1,rfl⟩
theorem elems_zero :AP 0=[]:=by
 unfold AP
 rw[List.filter_eq_nil_iff.2 (λv _=>by simp[Cg])];rfl
theorem tz_table :∀k:Nat,k<32→idx tab32 (ishr .u32 (IntKind.u32.wrap (((2^k:Nat):Int)*125613361)) 27)=some (k:Int):=by decide+kernel
abbrev ArM :=List ((Int×Int)×Int)
abbrev ArL :=List (Int×Int)
end Go.Sx

namespace Go.Sx
end Go.Sx

namespace Go.Sx
open Go
end Go.Sx

namespace Go.Sx
end Go.Sx

namespace Go.Sx
end Go.Sx

namespace Go.Sx
open Go
def ai (x:Nat→Int)(j:Int):Option Int:=if 0≤j∧j<16 then some (x j.toNat) else none
end Go.Sx

namespace Go.Sx
end Go.Sx

namespace Go.Sx
end Go.Sx

namespace Go.Sx
end Go.Sx

namespace Go.Sx
end Go.Sx

namespace Go.Sx
end Go.Sx

namespace Go.Sx
end Go.Sx

namespace Go.Sx
end Go.Sx

namespace Go.Sx
open Go
end Go.Sx

namespace Go.Sx
open Go
end Go.Sx

namespace Go.Sx
open Go
end Go.Sx

namespace Go.Sx
end Go.Sx

namespace Go.Sx
open Go
theorem AY {f:Fn}{a b:Array Value}:(Value.func f a b).cells= #[.func f a b]:=rfl
end Go.Sx

namespace Go.Sx
end Go.Sx

namespace Go.Sx
open Go
end Go.Sx

namespace Go.Sx
open Go
end Go.Sx

namespace Go.Sx
end Go.Sx

namespace Go.Sx
end Go.Sx

namespace Go.Sx
open Go
def D.j (s sep:ByteArray):Option (ByteArray×ByteArray×Bool):=
 if s.size<4294967281 then some (⟨(Lib.cut s.data.toList sep.data.toList).1.toArray⟩,⟨(Lib.cut s.data.toList sep.data.toList).2.1.toArray⟩,(Lib.cut s.data.toList sep.data.toList).2.2) else none
def D.r (s sep:ByteArray):Option (List ByteArray):=
 if s.size<4294967281∧1≤sep.size then some (Lib.splitB sep 0 (Lib.countB s sep) s) else none
def D.p (n:Int):Option ByteArray:=if 0≤n∧n<100 then some ⟨(Lib.decDigits n.toNat).toArray⟩ else none
def D.c (n b:Int):Option ByteArray:=
 if b=10∧-9223372036854775808≤n∧n≤9223372036854775807 then some ⟨(Lib.itoa n).toArray⟩ else none
def D.d (s:ByteArray)(b z:Int):Option (Int×Bool):=
 if b=10∧z=64∧s.size≤281474976710656 then some (match Lib.parseIntB 64 s.data.toList with
  | .ok v=>(v,false)
  | .«syntax»=>(0,true)
  | .range=>(Lib.intSat 64 s.data.toList,true)) else none
def D.Y (xs:LI):Option ByteArray:=if xs≠[]∧(xs.all λx=>decide (0≤x)&&decide (x<256))=true then some (sOf xs) else none
end Go.Sx

namespace Go.Sx
open IntKind
noncomputable section
def D.o (b:ByteArray)(e:Int):Option (((List ByteArray))):=
 (As (σ:=(List ByteArray)×Int×Int) (ρ:=((List ByteArray))) (fun(c,d,a)=>cond (decide (a≤(b.size:Int))) ((cond (a==(b.size:Int)) (some true) ((Be b a).bind λg=>some (g==e))).bind λh=>cond h ((sPart b d a).bind λi=>(Ay c ([i]:List ByteArray)).bind λj=>some (.inl (j,(i64.wrap (a+1)),(i64.wrap (a+1))))) (some (.inl (c,d,(i64.wrap (a+1)))))) (some (.inr c))) (([]:List ByteArray),0,0)).bind λk=>some k
def D.f (a:ByteArray):Option (Int×Bool):=
 (cond ((decide ((a.size:Int)<1))||(decide ((9:Int)<(a.size:Int)))) (some true) ((Be a 0).bind λd=>some ((d==48)&&(decide ((1:Int)<(a.size:Int)))))).bind λe=>cond e (some (0,false)) ((As (σ:=Int×Int) (ρ:=(Int) ⊕ (Int×Bool)) (fun(c,b)=>cond (decide (b<(a.size:Int))) ((Be a b).bind λg=>(cond (decide (g<48)) (some true) ((Be a b).bind λh=>some (decide ((57:Int)<h)))).bind λi=>cond i (some (.inr (.inr (0,false)))) ((Be a b).bind λj=>some (.inl ((i64.wrap ((i64.wrap (c*10))+(i64.wrap (IntKind.u8.wrap (j-48))))),(i64.wrap (b+1)))))) (some (.inr (.inl c)))) (0,0)).bind λzz=>match zz with| .inl k=>(some (k,true))| .inr z=>(some z))
def D.b (c:Int):Option (ByteArray):=
 (As (σ:=Int×ByteArray) (ρ:=(ByteArray)) (fun(a,b)=>cond ((sEq b (⟨#[]⟩))||(a !=0)) (cond (decide ((Int.tmod a 10)<0)) ((Bn (sOf ([(IntKind.u8.wrap (i64.wrap (48+(i64.wrap (0-(Int.tmod a 10))))))]:LI)) b).bind λf=>some (.inl ((i64.wrap (Int.tdiv a 10)),f))) ((Bn (sOf ([(IntKind.u8.wrap (i64.wrap (48+(Int.tmod a 10))))]:LI)) b).bind λg=>some (.inl ((i64.wrap (Int.tdiv a 10)),g)))) (some (.inr b))) (c,⟨#[]⟩)).bind λd=>cond (decide (c<0)) ((Bn (⟨#[45]⟩) d).bind λh=>some h) (some d)
def D.X (b:LL):Option (ByteArray):=
 (D.M b).bind λe=>cond (!e) (some (⟨#[]⟩)) ((D.l b).bind λf=>(D.b f).bind λg=>(Bn g (⟨#[58]⟩)).bind λh=>(D.V b).bind λc=>(As (σ:=ByteArray×Int) (ρ:=(ByteArray)) (fun(d,a)=>cond (decide (a<(c.length:Int))) ((Bn d (⟨#[32]⟩)).bind λj=>(idx c a).bind λk=>(idx k 0).bind λl=>(D.b l).bind λm=>(Bn j m).bind λn=>(Bn n (⟨#[45]⟩)).bind λo=>(idx c a).bind λp=>(idx p 1).bind λq=>(D.b q).bind λr=>(Bn o r).bind λs=>some (.inl (s,(i64.wrap (a+1))))) (some (.inr d))) (h,0)).bind λt=>some t)
def D.s (b:ByteArray):Option (LL×Bool):=
 cond (decide ((800:Int)<(b.size:Int))) (some (([]:LL),false)) ((D.o b 32).bind λa=>(idx a 0).bind λj=>(cond (decide ((j.size:Int)<2)) (some true) ((idx a 0).bind λk=>(idx a 0).bind λl=>(Be k (i64.wrap ((l.size:Int)-1))).bind λm=>some (m !=58))).bind λn=>cond n (some (([]:LL),false)) ((idx a 0).bind λo=>(idx a 0).bind λp=>(sPart o 0 (i64.wrap ((p.size:Int)-1))).bind λq=>(D.f q).bind λf=>(As (σ:=LL×Int) (ρ:=LL ⊕ (LL×Bool)) (fun(g,c)=>cond (decide (c<(a.length:Int))) ((idx a c).bind λs=>(D.o s 45).bind λd=>cond ((d.length:Int) !=2) (some (.inr (.inr (([]:LL),false)))) ((idx d 0).bind λt=>(D.f t).bind λh=>(idx d 1).bind λu=>(D.f u).bind λi=>cond ((!h.2)||(!i.2)) (some (.inr (.inr (([]:LL),false)))) ((Ay g ([([h.1,i.1]:LI)]:LL)).bind λv=>some (.inl (v,(i64.wrap (c+1))))))) (some (.inr (.inl g)))) (([]:LL),1)).bind λzz=>match zz with| .inl w=>((D.q f.1 w).bind λe=>(cond ((!f.2)||(!e.2)) (some true) ((D.X e.1).bind λx=>some (!sEq x b))).bind λy=>cond y (some (([]:LL),false)) (some (e.1,true)))| .inr z=>(some z)))
def D.e (a:ByteArray):Option (Int×Bool):=
 cond ((decide ((a.size:Int)<1))||(decide ((9:Int)<(a.size:Int)))) (some (0,false)) ((D.d a 10 64).bind λb=>(cond b.2 (some true) ((D.c b.1 10).bind λc=>some (!sEq c a))).bind λd=>cond d (some (0,false)) (some (b.1,true)))
def D.C (a:Int)(c:LL):Option (LL×Bool):=
 (D.A a 1 16).bind λf=>cond ((!f)||(decide ((120:Int)<(c.length:Int)))) (some (([]:LL),false)) ((CG (0:Int) a a).bind λg=>(As (σ:=LI×Int) (ρ:=LI ⊕ (LL×Bool)) (fun(e,d)=>cond (decide (d<(c.length:Int))) ((idx c d).bind λb=>(cond ((b.length:Int) !=2) (some true) ((D.Q b a).bind λi=>some (!i))).bind λj=>cond j (some (.inr (.inr (([]:LL),false)))) ((idx b 0).bind λk=>(idx b 1).bind λl=>(D.R e k l).bind λm=>some (.inl (m,(i64.wrap (d+1)))))) (some (.inr (.inl e)))) (g,0)).bind λzz=>match zz with| .inl n=>((D.N n).bind λo=>some (o,true))| .inr z=>(some z))
def D.S (b:LL):Option (ByteArray):=
 (D.p (b.length:Int)).bind λf=>(Bn f (⟨#[58]⟩)).bind λg=>(Ay ([]) (sBy g)).bind λh=>(D.L b).bind λc=>(As (σ:=Int×LI) (ρ:=LI) (fun(a,d)=>cond (decide (a<(c.length:Int))) ((idx c a).bind λe=>(idx e 0).bind λj=>(D.c j 10).bind λk=>(Bn (⟨#[32]⟩) k).bind λl=>(Bn l (⟨#[45]⟩)).bind λm=>(idx e 1).bind λn=>(D.c n 10).bind λo=>(Bn m o).bind λp=>(Ay d (sBy p)).bind λq=>some (.inl ((i64.wrap (a+1)),q))) (some (.inr d))) (0,h)).bind λr=>(D.Y r).bind λs=>some s
def D.k (b:ByteArray):Option (LL×Bool):=
 (D.j b (⟨#[58]⟩)).bind λc=>(D.e c.1).bind λf=>cond (((decide ((800:Int)<(b.size:Int)))||(!c.2.2))||(!f.2)) (some (([]:LL),false)) ((D.r c.2.1 (⟨#[32]⟩)).bind λg=>(As (σ:=LL×Int) (ρ:=LL ⊕ (LL×Bool)) (fun(d,a)=>cond (decide (a<(g.length:Int))) ((idx g a).bind λl=>cond (a==0) (some (.inl (d,(i64.wrap (a+1))))) ((D.j l (⟨#[45]⟩)).bind λh=>(D.e h.1).bind λi=>(D.e h.2.1).bind λj=>cond ((!i.2)||(!j.2)) (some (.inr (.inr (([]:LL),false)))) ((Ay d [([i.1,j.1]:LI)]).bind λm=>some (.inl (m,(i64.wrap (a+1))))))) (some (.inr (.inl d)))) (([]:LL),0)).bind λzz=>match zz with| .inl n=>((D.C f.1 n).bind λe=>(cond (!e.2) (some true) ((D.S e.1).bind λo=>some (!sEq o b))).bind λp=>cond p (some (([]:LL),false)) (some (e.1,true)))| .inr z=>(some z))
def D.a0 (a:ByteArray):Option (Bool):=
 cond (decide ((1048576:Int)<(a.size:Int))) (some true) ((D.s a).bind λb=>(D.k a).bind λd=>(D.x d.1 b.1).bind λh=>cond ((!h)||(d.2 !=b.2)) (some false) ((D.K d.1 1).bind λc=>(D.y c.2 1).bind λe=>cond (decide (e<0)) (some false) (cond (e !=c.1) (some false) ((D.k a).bind λf=>(D.x f.1 b.1).bind λi=>cond ((!i)||(f.2 !=b.2)) (some false) ((D.y c.2 1).bind λg=>cond (decide (g<0)) (some false) (cond (g !=c.1) (some false) (some true)))))))
end
end Go.Sx

namespace Go.Sx
end Go.Sx

namespace Go.Sx
end Go.Sx

namespace Go.Sx
end Go.Sx



namespace Go.Sx
end Go.Sx

namespace Go.Sx.Gs
class Srtd (α:Type) where
 dflt:α
 key:α→Int
 good:α→Prop
 cmp:α→α→Option Int
 law:∀x y,good x→good y→∃v,cmp x y=some v∧decide (v<0)=decide (key x<key y)
variable {α : Type} [Srtd α]
def el (l:List α)(i:Int):α:=l.getD i.toNat Srtd.dflt
def at' (l:List α)(i:Int):Int:=Srtd.key (el l i)
end Go.Sx.Gs

namespace Go.Sx.Gs
variable {α : Type} [Srtd α]
end Go.Sx.Gs

namespace Go.Sx.Gs
variable {α : Type} [Srtd α]
end Go.Sx.Gs

namespace Go.Sx.Gs
variable {α : Type} [Srtd α]
end Go.Sx.Gs

namespace Go.Sx
end Go.Sx

namespace Go.Sx.Gs
variable {α : Type} [Srtd α]
end Go.Sx.Gs

namespace Go.Sx.Gs
variable {α : Type} [Srtd α]
end Go.Sx.Gs

namespace Go.Sx.Gs
variable {α : Type} [Srtd α]
end Go.Sx.Gs

namespace Go.Sx
end Go.Sx

set_option maxRecDepth 100000
namespace Go.Proofs.YtgkgmdnjnjliiaaDoor
open Go Go.Sx
open Go.Proofs.Tryd Go.Proofs.YtgkgmdnjnjliiaaDoor.Tryd IntKind
variable {W w : World} {G : GH} {H : List Itm}
theorem Bk :prog.follows .mixedOrders=true:=by kernel_rfl
theorem Pl5 :Br prog 5:=isAgg5
theorem Wk.b0 {x0:Int}(hW:TxtW W)(m:Mem W G w (H)){y:Int}(hd:D.b0 x0=some y):
  Calls prog 90 #[(.int .u32 x0)] w (Res W G H (λ_ Ho v=>Ho=[]∧v=(iv y))):=by
 refine Aw (args:=[(.int .u32 x0)]) (N:=14) [.tmp 2] func90 Z Z (lb Z) Z λa f=> ?_
 unfold D.b0 at hd
 refine Ae (Ac f Z λa f=>Aa (Ag (Ae (Ab f Z λa f=>Ai f Z Z b_eql λa f=>Aa ?_))))
 rcases Af hd with⟨aa,hd⟩|⟨aa,hd⟩
 ·refine Aj f Z aa (Ae (Ac f Z λa f=>Aa (Ao ?_)))
  obtain rfl:=sj hd
  exact⟨[iv 32],f.g Z,f.d,_,[],gr,m,Z,Z⟩
 ·refine Ah f Z aa (Ak (Ae (Ab f Z λa f=>Ab f Z λa f=>l_o f (r_neg (f.e Z)) λa f=>Ai f Z Z b_and λa f=>Ai f Z Z b_mul λa f=>l_o f (r_shr (f.e Z) (f.e Z) (by decide)) λa f=>Bd hd λab ac hd=>l_tab6 hW m underlying125 sizeOf5 f Z Z ac λad a ae f=>AM m Pl5 f Z Z ae λa f=>l_o f (r_conv (f.e Z) ⟨_,underlying5⟩ underlying3) λa f=>Ac f Z λa f=>Aa (Ao ?_))))
  obtain rfl:=sj hd
  exact⟨[(iv (i64.wrap ab))],f.g Z,f.d,_,[],gr,m,Z,Z⟩
end Go.Proofs.YtgkgmdnjnjliiaaDoor
