/- Parts of the proof: SxA, SxM, SxO, SxC, SxD, SxE, SxQ, SxR, SxS, SxT, SxU, SxZ, SxRow, BRowBase, SxL, SxLB, DBase, DE1, DE2, DC1, DC2, DC3, DC4, SxH. -/
import Derived.Tactics
import Derived.Laws.AppendOwn
import Derived.Laws.MakeOwn
import Derived.Laws.OwnMore
import Derived.Laws.Slices
import Derived.Below
import Derived.Deep.Quiet
import Derived.Laws.CopyRow
import Derived.Orders
import Derived.KernelRfl
import Derived.OpenShut
import Derived.Deep.Slices
import Derived.ChangeSame
import Derived.DataReads
import Derived.Test.YtebbefpdncgoiaaGreatDoorRows
import Derived.ChangeVars
import Derived.JoinedOf
import Derived.ProofKit
import Derived.ChangeOld
import Derived.Lib.BitFns
set_option linter.unusedVariables false
set_option linter.unusedSimpArgs false
set_option linter.unusedSectionVars false
namespace Go.Sx
abbrev Br :=List (Nat×Value)
def look :Br→Nat→Option Value
 |[],_=>none
 |(k,v)::r,s=>match Nat.beq k s with|true=>some v|false=>look r s
structure Fr (a:Act)(N:Nat)(L:Br):Prop where
 defers:a.defers=[]
 size:a.tmps.size=N
 get:∀s v,look L s=some v→a.tmps.getD s undef=v
def A2 (L:Br):Operand→Option Value
 | .tmp t=>look L t
 | .const v=>some v
 | .global g=>some (.pointer (some ⟨g,0,none⟩))
 | .func f=>some (.func (.func f) #[] #[])
theorem Fr.eval {a:Act}{N:Nat}{L:Br}{x:Operand}{v:Value}(h:Fr a N L)(hx:A2 L x=some v):a.eval x=v:=by
 cases x with
 |tmp t=>exact h.get t v hx
 |const c=>simpa [A2,Act.eval] using hx
 |global g=>simpa [A2,Act.eval] using hx
 |func f=>simpa [A2,Act.eval] using hx
def evalAll (L:Br):List Operand→Option (List Value)
 |[]=>some []
 |x::r=>match A2 L x,evalAll L r with
  |some v,some vs=>some (v::vs)
  |_,_=>none
theorem Fr.evalAll {a:Act}{N:Nat}{L:Br}{xs:List Operand}{vs:List Value}(h:Fr a N L)(hx:evalAll L xs=some vs):xs.map a.eval=vs:=by
 induction xs generalizing vs with
 |nil=>simpa [Sx.evalAll] using hx
 |cons x r ih=>
  simp only[Sx.evalAll] at hx
  cases h1:A2 L x with
  |none=>simp[h1] at hx
  |some v=>
   cases h2:Sx.evalAll L r with
   |none=>simp[h1,h2] at hx
   |some ws=>
    simp[h1,h2] at hx
    subst hx
    simp[h.eval h1,ih h2]
theorem D8 {k s:Nat}{v:Value}{L:Br}(h:k≠s):look ((k,v)::L) s=look L s:=by
 have:Nat.beq k s=false:=by
  cases hb:Nat.beq k s with
  |false=>rfl
  |true=>exact absurd (Nat.eq_of_beq_eq_true hb) h
 simp[look,this]
theorem Ef {k:Nat}{v:Value}{L:Br}:look ((k,v)::L) k=some v:=by
 simp[look]
theorem Fr.put {a:Act}{N:Nat}{L:Br}(h:Fr a N L){d:Nat}(hd:Nat.blt d N=true)(v:Value):Fr (a.put (some d) v) N ((d,v)::L):=by
 have hd':d<N:=by simpa [Nat.blt_eq] using hd
 refine⟨h.defers,by simp[Act.put,h.size],fun s u hs=> ?_⟩
 by_cases hk:d=s
 ·subst hk
  rw[Ef] at hs
  have:d<a.tmps.size:=by rw[h.size];exact hd'
  simp[Act.put,this] at hs ⊢
  exact hs
 ·rw[D8 hk] at hs
  have:=h.get s u hs
  rw[←this]
  simp only[Act.put,Array.getD_eq_getD_getElem?,Array.getElem?_setIfInBounds_ne hk]
def Sub :Br→Br→Prop
 |[],_=>True
 |(s,v)::r,L=>look L s=some v∧Sub r L
theorem Sub.look {L' L:Br}(h:Sub L' L){s:Nat}{v:Value}(hs:look L' s=some v):look L s=some v:=by
 induction L' with
 |nil=>simp[Sx.look] at hs
 |cons p r ih=>
  obtain⟨k,u⟩:=p
  by_cases hk:k=s
  ·subst hk;rw[Ef] at hs;cases hs;exact h.1
  ·rw[D8 hk] at hs;exact ih h.2 hs
theorem Fr.weak {a:Act}{N:Nat}{L L':Br}(h:Fr a N L)(hs:Sub L' L):Fr a N L':=
 ⟨h.defers,h.size,fun s v hv=>h.get s v (hs.look hv)⟩
abbrev Bk :=Act→World→Prop
def Ej :List (Nat×Bk)→Nat→Option Bk
 |[],_=>none
 |(k,v)::r,s=>match Nat.beq k s with|true=>some v|false=>Ej r s
theorem lookA_eq {k:Nat}{v:Bk}{L:List (Nat×Bk)}:Ej ((k,v)::L) k=some v:=by
 simp[Ej]
theorem lookA_ne {k s:Nat}{v:Bk}{L:List (Nat×Bk)}(h:k≠s):Ej ((k,v)::L) s=Ej L s:=by
 have:Nat.beq k s=false:=by
  cases hb:Nat.beq k s with
  |false=>rfl
  |true=>exact absurd (Nat.eq_of_beq_eq_true hb) h
 simp[Ej,this]
def Qk (n:Bk)(x:List (Nat×Bk))(r:Bk):Go.Exit→Act→World→Prop
 | .normal,a,w=>n a w
 | .exit id,a,w=>∃K,Ej x id=some K∧K a w
 | .ret,a,w=>r a w
 |_,_,_=>False
section
variable {P : Program} {n r : Bk} {x : List (Nat × Bk)} {a : Act} {w : World}
theorem Af {c d:Code}(h:c.wp P (Qk (fun a w=>d.wp P (Qk n x r) a w) x r) a w):(Code.seq c d).wp P (Qk n x r) a w:=by
 refine wp_seq (wp_mono h fun e a w q=> ?_)
 cases e<;>exact q
theorem AC {c:Code}(Mid:Bk)(h:c.wp P (Qk Mid x r) a w)(k:∀a w,Mid a w→n a w):c.wp P (Qk n x r) a w:=
 wp_mono h fun e a w q=>by cases e<;>first|exact k _ _ q|exact q
theorem Am (h:n a w):Code.skip.wp P (Qk n x r) a w:=wp_skip h
theorem Aq (h:r a w):Code.ret.wp P (Qk n x r) a w:=wp_ret h
theorem Ax {id:Nat}{K:Bk}(hk:Ej x id=some K)(h:K a w):(Code.exit id).wp P (Qk n x r) a w:=wp_exit ⟨K,hk,h⟩
theorem Aj {id:Nat}{c:Code}(h:c.wp P (Qk n ((id,n)::x) r) a w):(Code.block id c).wp P (Qk n x r) a w:=by
 refine wp_block (wp_mono h fun e a w q=> ?_)
 cases e with
 |exit i=>
  obtain⟨K,hk,q⟩:=q
  by_cases hi:id=i
  ·subst hi
   rw[lookA_eq] at hk
   cases hk
   simpa [Exit.inBlock,Qk] using q
  ·rw[lookA_ne hi] at hk
   simp only[Exit.inBlock,if_neg (Ne.symm hi)]
   exact⟨K,hk,q⟩
 |_=>exact q
theorem Ak {id:Nat}{l:List Oper}(h:wpList P l.toArray (Qk n x r) l a w):(Code.region id l.toArray false).wp P (Qk n x r) a w:=wp_region_lit h
theorem Al {c:Operand}{p q:Code}{N:Nat}{L:Br}{b:Bool}(f:Fr a N L)(hc:A2 L c=some (.bool b))(hb:b=true)(h:p.wp P (Qk n x r) a w):
  (Code.cond c p q).wp P (Qk n x r) a w:=wp_cond_true (by rw[f.eval hc,hb]) h
theorem Ai {c:Operand}{p q:Code}{N:Nat}{L:Br}{b:Bool}(f:Fr a N L)(hc:A2 L c=some (.bool b))(hb:b=false)(h:q.wp P (Qk n x r) a w):
  (Code.cond c p q).wp P (Qk n x r) a w:=wp_cond_false (by rw[f.eval hc,hb]) h
theorem Aa {ops:Array Oper}(h:n a w):wpList P ops (Qk n x r) [] a w:=h
end
inductive Iter {σ ρ:Type}(step:σ→Option (σ ⊕ ρ)):σ→ρ→Prop
 |done {s:σ} {r:ρ}:step s=some (.inr r)→Iter step s r
 |more {s s':σ} {r:ρ}:step s=some (.inl s')→Iter step s' r→Iter step s r
theorem Iter.unique {σ ρ:Type}{step:σ→Option (σ ⊕ ρ)}{s:σ}{r r':ρ}(h:Iter step s r)(h':Iter step s r'):r=r':=by
 induction h with
 |done h=>
  cases h' with
  |done k=>rw[h] at k;cases k;rfl
  |more k _=>rw[h] at k;cases k
 |more h _ ih=>
  cases h' with
  |done k=>rw[h] at k;cases k
  |more k k'=>rw[h] at k;cases k;exact ih k'
open Classical in
noncomputable def Ap {σ ρ:Type}(step:σ→Option (σ ⊕ ρ))(s:σ):Option ρ:=
 if h:∃r,Iter step s r then some h.choose else none
theorem loopF_some {σ ρ:Type}{step:σ→Option (σ ⊕ ρ)}{s:σ}{r:ρ}:Ap step s=some r↔Iter step s r:=by
 unfold Ap
 split
 ·rename_i h
  constructor
  ·intro e;cases e;exact h.choose_spec
  ·intro e;rw[Iter.unique h.choose_spec e]
 ·rename_i h
  constructor
  ·intro e;cases e
  ·intro e;exact absurd ⟨r,e⟩ h
theorem Bp {σ ρ:Type}{step:σ→Option (σ ⊕ ρ)}{s:σ}{r:ρ}(h:step s=some (.inr r)):Ap step s=some r:=
 loopF_some.2 (.done h)
theorem BC {σ ρ:Type}{step:σ→Option (σ ⊕ ρ)}{s s':σ}(h:step s=some (.inl s')):Ap step s=Ap step s':=by
 cases h1:Ap step s' with
 |some r=>exact loopF_some.2 (.more h (loopF_some.1 h1))
 |none=>
  cases h2:Ap step s with
  |none=>rfl
  |some r=>
   cases loopF_some.1 h2 with
   |done k=>rw[h] at k;cases k
   |more k k'=>rw[h] at k;cases k;rw[loopF_some.2 k'] at h1;cases h1
theorem loopF_inv {σ ρ:Type}{step:σ→Option (σ ⊕ ρ)}(I:σ→Prop)(μ:σ→Nat)(Post:ρ→Prop)
  (hstep:∀s,I s→(∃s',step s=some (.inl s')∧I s'∧μ s'<μ s)∨(∃r,step s=some (.inr r)∧Post r)) (s:σ) (h0:I s):
  ∃r,Ap step s=some r∧Post r:=by
 generalize hn:μ s=k
 induction k using Nat.strongRecOn generalizing s with
 |_ k ih=>
  rcases hstep s h0 with⟨s',h1,h2,h3⟩|⟨r,h1,h2⟩
  ·obtain⟨r,h4,h5⟩:=ih (μ s') (by omega) s' h2 rfl
   exact⟨r,by rw[BC h1];exact h4,h5⟩
  ·exact⟨r,Bp h1,h2⟩
theorem AA {P:Program}{n r:Bk}{x:List (Nat×Bk)}{a:Act}{w:World}{c:Code}{σ ρ:Type}{step:σ→Option (σ ⊕ ρ)}{s₀:σ}{rr:ρ}
  (Inv:σ→Bk) (hl:Ap step s₀=some rr) (h0:Inv s₀ a w)
  (round:∀s o,step s=some o→(∀q,o= .inr q→q=rr)→∀a w,Inv s a w→c.wp P (Qk (fun a w=>∃s',o= .inl s'∧Inv s' a w) x r) a w):
  (Code.loop c).wp P (Qk n x r) a w:=by
 intro b k cs
 have key:∀s,Iter step s rr→∀a w,Inv s a w→
   ∃e a' w',Qk n x r e a' w'∧Arrives P (lone (b.at a (.code c:: .inLoop c::k)) cs w) b k cs e a' w':=by
  intro s hs
  generalize hrr:rr=q at hs
  induction hs with
  | @done s q h=>
   subst hrr
   intro a w hI
   obtain⟨e,a₁,w₁,hq,harr⟩:=round s (.inr rr) h (fun q hq=>by cases hq;rfl) a w hI b (.inLoop c::k) cs
   cases e with
   |normal=>obtain⟨s',hs',_⟩:=hq;cases hs'
   |exit id=>exact⟨.exit id,a₁,w₁,hq,.pass (x:= .inLoop c) rfl (fun _ _=> .inl (by simp)) harr⟩
   |ret=>exact⟨.ret,a₁,w₁,hq,.pass (x:= .inLoop c) rfl (fun _ _=> .inl (by simp)) harr⟩
   |goto l=>exact hq.elim
   |panic ch=>exact hq.elim
   |outgrown=>exact hq.elim
  | @more s s' q h _ ih=>
   intro a w hI
   obtain⟨e,a₁,w₁,hq,harr⟩:=round s (.inl s') h (fun q hq=>by cases hq) a w hI b (.inLoop c::k) cs
   cases e with
   |normal=>
    obtain⟨s'',hs',hI'⟩:=hq
    cases hs'
    obtain⟨e₂,a₂,w₂,hq₂,harr₂⟩:=ih hrr a₁ w₁ hI'
    exact⟨e₂,a₂,w₂,hq₂,.of_steps (Steps.trans harr (.one step_inLoop)) harr₂⟩
   |exit id=>exact⟨.exit id,a₁,w₁,hq,.pass (x:= .inLoop c) rfl (fun _ _=> .inl (by simp)) harr⟩
   |ret=>exact⟨.ret,a₁,w₁,hq,.pass (x:= .inLoop c) rfl (fun _ _=> .inl (by simp)) harr⟩
   |goto l=>exact hq.elim
   |panic ch=>exact hq.elim
   |outgrown=>exact hq.elim
 obtain⟨e,a',w',hq,harr⟩:=key s₀ (loopF_some.1 hl) a w h0
 exact⟨e,a',w',hq,.of_steps (.one step_loop) harr⟩
def CU :Nat:=4611686018427387904
theorem Ft :1000000000000≤CU:=by unfold CU;omega
attribute [irreducible] CU
end Go.Sx

namespace Go.Sx
abbrev GH :=Nat→Option Obj
def GLe (G G':GH):Prop:=∀b o,G b=some o→G' b=some o
theorem GLe.refl (G:GH):GLe G G:=fun _ _ h=>h
theorem GLe.trans {G G' G'':GH}(h:GLe G G')(h':GLe G' G''):GLe G G'':=fun b o k=>h' b o (h b o k)
inductive Itm
 |box (b:Nat) (t:TypeId) (cs:List Value)
 |row (v:Value) (t:TypeId) (sz n:Nat) (vs:List Value)
 |deep (v:Value) (t1 t2:TypeId) (rows:List (Value×List Value))
 |hole (v:Value) (t1 t2:TypeId) (rows:List (Value×List Value)) (i:Nat)
 |obj (b:Nat) (o:Obj)
def Ch (t2:TypeId)(r:Value×List Value):Itm:= .row r.1 t2 1 r.2.length r.2
def parts (v:Value)(t1 t2:TypeId)(rows:List (Value×List Value)):List Itm:=
 .row v t1 1 rows.length (rows.map (·.1))::rows.map (Ch t2)
def Itm.foot0 :Itm→List Nat
 | .box b _ _=>[b]
 | .row v _ _ _ _=>v.ownBlock.toList
 | .deep .. =>[]
 | .hole .. =>[]
 | .obj b _=>[b]
def Itm.ok0 (w:World):Itm→Prop
 | .box b t cs=>w.heap[b]? =some (.cells cs.toArray t (0,0))
 | .row v t sz n vs=>w.ownsRow 0 t sz v n vs
 | .deep .. =>True
 | .hole .. =>True
 | .obj b o=>w.heap[b]? =some o
def Itm.foot :Itm→List Nat
 | .box b _ _=>[b]
 | .row v _ _ _ _=>v.ownBlock.toList
 | .deep v t1 t2 rows=>(parts v t1 t2 rows).flatMap Itm.foot0
 | .hole v t1 t2 rows i=>((parts v t1 t2 rows).eraseIdx (i+1)).flatMap Itm.foot0
 | .obj b _=>[b]
def Itm.ok (w:World):Itm→Prop
 | .box b t cs=>w.heap[b]? =some (.cells cs.toArray t (0,0))
 | .row v t sz n vs=>w.ownsRow 0 t sz v n vs
 | .deep v t1 t2 rows=>(∀(i:Nat) (h:Itm),(parts v t1 t2 rows)[i]? =some h→h.ok0 w)∧
   ∀(i j:Nat) (a b:Itm),i≠j→(parts v t1 t2 rows)[i]? =some a→(parts v t1 t2 rows)[j]? =some b→∀x∈a.foot0,x∉b.foot0
 | .hole v t1 t2 rows k=>(∀(i:Nat) (h:Itm),((parts v t1 t2 rows).eraseIdx (k+1))[i]? =some h→h.ok0 w)∧
   ∀(i j:Nat) (a b:Itm),i≠j→((parts v t1 t2 rows).eraseIdx (k+1))[i]? =some a→((parts v t1 t2 rows).eraseIdx (k+1))[j]? =some b→∀x∈a.foot0,x∉b.foot0
 | .obj b o=>w.heap[b]? =some o
theorem ownsRow_of {w w':World}{v:Value}{t:TypeId}{sz n:Nat}{vs:List Value}(ok:w.ownsRow 0 t sz v n vs)(hb:∀x∈v.ownBlock.toList,w'.heap[x]? =w.heap[x]?):w'.ownsRow 0 t sz v n vs:=by
 refine⟨ok.1,?_⟩
 rcases ok.2 with hn|⟨g,cap,cur,rfl,hg0,hg,rest⟩
 ·exact .inl hn
 ·exact .inr ⟨g,cap,cur,rfl,hg0,by rw[hb g (by simp[Value.ownBlock])];exact hg,rest⟩
theorem Itm.lt0 {w:World}{h:Itm}(ok:h.ok0 w):∀x∈h.foot0,x<w.heap.size:=by
 cases h with
 |box b t cs=>
  intro x hx;simp[Itm.foot0] at hx;subst hx
  exact(Array.getElem?_eq_some_iff.1 ok).1
 |row v t sz n vs=>
  intro x hx;simp[Itm.foot0] at hx
  exact(World.ownsRow.lt ok x hx).2
 |deep=>intro x hx;simp[Itm.foot0] at hx
 |hole=>intro x hx;simp[Itm.foot0] at hx
 |obj b o=>
  intro x hx;simp[Itm.foot0] at hx;subst hx
  exact(Array.getElem?_eq_some_iff.1 ok).1
theorem Itm.ok0_of {w w':World}{h:Itm}(ok:h.ok0 w)(hb:∀x∈h.foot0,w'.heap[x]? =w.heap[x]?):h.ok0 w':=by
 cases h with
 |box b t cs=>simp only[Itm.ok0] at ok ⊢;rw[hb b (by simp[Itm.foot0])];exact ok
 |row v t sz n vs=>exact ownsRow_of ok hb
 |deep=>trivial
 |hole=>trivial
 |obj b o=>simp only[Itm.ok0] at ok ⊢;rw[hb b (by simp[Itm.foot0])];exact ok
theorem Itm.lt {w:World}{h:Itm}(ok:h.ok w):∀x∈h.foot,x<w.heap.size:=by
 cases h with
 |box b t cs=>exact Itm.lt0 (h:= .box b t cs) ok
 |row v t sz n vs=>exact Itm.lt0 (h:= .row v t sz n vs) ok
 |deep v t1 t2 rows=>
  intro x hx
  obtain⟨h,hh,hxh⟩:=List.mem_flatMap.1 hx
  obtain⟨i,hi,he⟩:=List.getElem_of_mem hh
  exact Itm.lt0 (ok.1 i h (by simp[hi,he])) x hxh
 |hole v t1 t2 rows k=>
  intro x hx
  obtain⟨h,hh,hxh⟩:=List.mem_flatMap.1 hx
  obtain⟨i,hi,he⟩:=List.getElem_of_mem hh
  exact Itm.lt0 (ok.1 i h (by rw[List.getElem?_eq_getElem hi,he])) x hxh
 |obj b o=>exact Itm.lt0 (h:= .obj b o) ok
theorem Itm.ok_of {w w':World}{h:Itm}(ok:h.ok w)(hb:∀x∈h.foot,w'.heap[x]? =w.heap[x]?):h.ok w':=by
 cases h with
 |box b t cs=>exact Itm.ok0_of (h:= .box b t cs) ok hb
 |row v t sz n vs=>exact Itm.ok0_of (h:= .row v t sz n vs) ok hb
 |deep v t1 t2 rows=>exact⟨fun i h hi=>Itm.ok0_of (ok.1 i h hi) (fun x hx=>hb x (List.mem_flatMap.2 ⟨h,List.mem_of_getElem? hi,hx⟩)),ok.2⟩
 |hole v t1 t2 rows k=>exact⟨fun i h hi=>Itm.ok0_of (ok.1 i h hi) (fun x hx=>hb x (List.mem_flatMap.2 ⟨h,List.mem_of_getElem? hi,hx⟩)),ok.2⟩
 |obj b o=>exact Itm.ok0_of (h:= .obj b o) ok hb
structure Mem (W:World)(G:GH)(w:World)(H:List Itm):Prop where
 os:w.os=W.os
 tape:w.tape=W.tape
 output:w.output=W.output
 sealed:∀b o,G b=some o→w.heap[b]? =some o
 items:∀(i:Nat) (h:Itm),H[i]? =some h→h.ok w
 disj:∀(i j:Nat) (a b:Itm),i≠j→H[i]? =some a→H[j]? =some b→∀x∈a.foot,x∉b.foot
 apart:∀(i:Nat) (h:Itm),H[i]? =some h→∀x∈h.foot,G x=none
 base:∀(b:Nat) (o:Obj),W.heap[b]? =some o→G b=some o
section
variable {W w w' : World} {G G' : GH} {H H' : List Itm}
theorem Mem.start (w:World):Mem w (fun b=>w.heap[b]?) w []:=
 ⟨rfl,rfl,rfl,fun _ _ h=>h,by simp,by simp,by simp,fun _ _ h=>h⟩
theorem Mem.congr (m:Mem W G w H)(h:w'.heap=w.heap)(ho:w'.os=w.os)(ht:w'.tape=w.tape)(hu:w'.output=w.output):Mem W G w' H:=
 ⟨ho.trans m.os,ht.trans m.tape,hu.trans m.output,fun b o k=>by rw[h];exact m.sealed b o k,fun i x k=>Itm.ok_of (m.items i x k) (fun _ _=>by rw[h]),m.disj,m.apart,m.base⟩
theorem Mem.drew (m:Mem W G w H):Mem W G w.drew H:=m.congr rfl rfl rfl rfl
theorem Mem.inj (m:Mem W G w H)(φ:Nat→Nat)(hφ:∀i j,φ i=φ j→i=j)(h:∀(i:Nat) (x:Itm),H'[i]? =some x→H[φ i]? =some x):Mem W G w H':=
 ⟨m.os,m.tape,m.output,m.sealed,fun i x k=>m.items _ x (h i x k),fun i j a b hij ha hb=>m.disj (φ i) (φ j) a b (fun e=>hij (hφ i j e)) (h i a ha) (h j b hb),fun i x k=>m.apart _ x (h i x k),m.base⟩
theorem Mem.tail {x:Itm}(m:Mem W G w (x::H)):Mem W G w H:=
 m.inj (·+1) (by omega) (by simp)
theorem Mem.drop (m:Mem W G w (H'++H)):Mem W G w H:=
 m.inj (·+H'.length) (by omega) (fun i x h=>by rw[List.getElem?_append_right (by omega)];simpa using h)
theorem Mem.swap {x y:Itm}(m:Mem W G w (x::y::H)):Mem W G w (y::x::H):=by
 refine m.inj (fun i=>if i=0 then 1 else if i=1 then 0 else i) (by intro i j h;by_cases a0:i=0<;>by_cases a1:i=1<;>by_cases b0:j=0<;>by_cases b1:j=1<;>simp_all<;>omega) ?_
 intro i z h
 match i with
 |0=>simpa using h
 |1=>simpa using h
 |i+2=>simpa using h
theorem Mem.front (m:Mem W G w H)(j:Nat){x:Itm}(hj:H[j]? =some x):Mem W G w (x::H.eraseIdx j):=by
 refine m.inj (fun i=>if i=0 then j else if i≤j then i-1 else i) (by intro i k;split<;>split<;>(repeat' split)<;>omega) ?_
 intro i z h
 match i with
 |0=>simp at h;subst h;simpa using hj
 |i+1=>
  simp only[List.getElem?_cons_succ,List.getElem?_eraseIdx] at h
  split at h
  ·rw[if_neg (by omega),if_pos (by omega)];simpa using h
  ·rw[if_neg (by omega),if_neg (by omega)];exact h
theorem Mem.back {x:Itm}(m:Mem W G w (x::H))(j:Nat)(h:j≤H.length):Mem W G w (H.take j++x::H.drop j):=by
 refine m.inj (fun i=>if i<j then i+1 else if i=j then 0 else i) (by intro i k;split<;>split<;>(repeat' split)<;>omega) ?_
 intro i z hz
 by_cases h1:i<j
 ·rw[List.getElem?_append_left (by simp;omega),List.getElem?_take,if_pos h1] at hz
  simp only[if_pos h1]
  simpa using hz
 ·rw[List.getElem?_append_right (by simp;omega)] at hz
  simp only[List.length_take,Nat.min_eq_left h] at hz
  simp only[if_neg h1]
  by_cases h2:i=j
  ·subst h2;simpa using hz
  ·rw[if_neg h2]
   obtain⟨k,hk⟩:∃k,i-j=k+1:=⟨i-j-1,by omega⟩
   rw[hk] at hz
   simp only[List.getElem?_cons_succ,List.getElem?_drop] at hz
   obtain⟨k2,rfl⟩:∃k2,i=k2+1:=⟨i-1,by omega⟩
   simp only[List.getElem?_cons_succ]
   rw[←hz];congr 1;omega
theorem Mem.lt (m:Mem W G w H){i:Nat}{h:Itm}(hi:H[i]? =some h):∀x∈h.foot,x<w.heap.size:=Itm.lt (m.items i h hi)
theorem Mem.glt (m:Mem W G w H){b:Nat}{o:Obj}(h:G b=some o):b<w.heap.size:=
 (Array.getElem?_eq_some_iff.1 (m.sealed b o h)).1
theorem Mem.change {h h':Itm}(m:Mem W G w (h::H))(ho:w'.os=w.os)(ht:w'.tape=w.tape)(hu:w'.output=w.output)
  (hb:∀x,x<w.heap.size→x∉h.foot→w'.heap[x]? =w.heap[x]?) (hok:h'.ok w') (hf:∀x∈h'.foot,x∈h.foot∨w.heap.size≤x):Mem W G w' (h'::H):=by
 have hd:∀(i:Nat) (z:Itm),H[i]? =some z→∀x∈z.foot,x∉h.foot:=fun i z hz=>m.disj (i+1) 0 z h (by omega) (by simpa using hz) (by simp)
 have hl:∀(i:Nat) (z:Itm),H[i]? =some z→∀x∈z.foot,x<w.heap.size:=fun i z hz=>m.lt (i:=i+1) (by simpa using hz)
 refine⟨ho.trans m.os,ht.trans m.tape,hu.trans m.output,fun b o k=> ?_,fun i z k=> ?_,fun i j a b hij ha hbb=> ?_,fun i z k=> ?_,m.base⟩
 ·rw[hb b (m.glt k) (fun hx=>by have:=m.apart 0 h (by simp) b hx;rw[this] at k;cases k)]
  exact m.sealed b o k
 ·cases i with
  |zero=>simp at k;subst k;exact hok
  |succ i=>
   have k':H[i]? =some z:=by simpa using k
   exact Itm.ok_of (m.items (i+1) z k) (fun x hx=>hb x (hl i z k' x hx) (hd i z k' x hx))
 ·cases i with
  |zero=>
   simp at ha;subst ha
   cases j with
   |zero=>omega
   |succ j=>
    have k':H[j]? =some b:=by simpa using hbb
    intro x hx hx'
    rcases hf x hx with h1|h1
    ·exact hd j b k' x hx' h1
    ·exact absurd (hl j b k' x hx') (by omega)
  |succ i=>
   have k':H[i]? =some a:=by simpa using ha
   cases j with
   |zero=>
    simp at hbb;subst hbb
    intro x hx hx'
    rcases hf x hx' with h1|h1
    ·exact hd i a k' x hx h1
    ·exact absurd (hl i a k' x hx) (by omega)
   |succ j=>exact m.disj (i+1) (j+1) a b hij (by simpa using ha) (by simpa using hbb)
 ·cases i with
  |zero=>
   simp at k;subst k
   intro x hx
   rcases hf x hx with h1|h1
   ·exact m.apart 0 h (by simp) x h1
   ·cases hg:G x with
    |none=>rfl
    |some o=>exact absurd (m.glt hg) (by omega)
  |succ i=>exact m.apart (i+1) z (by simpa using k)
theorem Mem.nilrow (m:Mem W G w H)(t:TypeId)(sz:Nat):Mem W G w (.row (.slice none 0 0) t sz 0 []::H):=by
 refine⟨m.os,m.tape,m.output,m.sealed,fun i z k=> ?_,fun i j a b hij ha hb=> ?_,fun i z k=> ?_,m.base⟩
 ·cases i with
  |zero=>simp at k;subst k;exact World.ownsRow_nil w 0 t sz
  |succ i=>exact m.items i z (by simpa using k)
 ·cases i with
  |zero=>simp at ha;subst ha;intro x hx;simp[Itm.foot,Value.ownBlock] at hx
  |succ i=>
   cases j with
   |zero=>simp at hb;subst hb;intro x _ hx;simp[Itm.foot,Value.ownBlock] at hx
   |succ j=>exact m.disj i j a b (by omega) (by simpa using ha) (by simpa using hb)
 ·cases i with
  |zero=>simp at k;subst k;intro x hx;simp[Itm.foot,Value.ownBlock] at hx
  |succ i=>exact m.apart i z (by simpa using k)
theorem Mem.add {h':Itm}(m:Mem W G w H)(ho:w'.os=w.os)(ht:w'.tape=w.tape)(hu:w'.output=w.output)
  (hb:∀x,x<w.heap.size→w'.heap[x]? =w.heap[x]?) (hok:h'.ok w') (hf:∀x∈h'.foot,w.heap.size≤x):Mem W G w' (h'::H):=
 (m.nilrow 0 0).change ho ht hu (fun x hx _=>hb x hx) hok (fun x hx=> .inr (hf x hx))
theorem Mem.alloc (m:Mem W G w H)(t:TypeId)(cs:List Value):Mem W G (w.alloc (.cells cs.toArray t)) (.box w.heap.size t cs::H):=
 m.add rfl rfl rfl (fun x hx=>heap_alloc_old w _ x hx) (heap_alloc_new w _) (fun x hx=>by simp[Itm.foot] at hx;omega)
theorem Mem.stamp {h:Itm}(m:Mem W G w (h::H)):∃G',GLe G G'∧Mem W G' w H∧(∀x∈h.foot,G' x=w.heap[x]?)∧(∀x,x∉h.foot→G' x=G x):=by
 refine⟨fun x=>if x∈h.foot then w.heap[x]? else G x,fun b o k=> ?_,⟨m.os,m.tape,m.output,fun b o k=> ?_,fun i z k=>m.items (i+1) z (by simpa using k),fun i j a b hij ha hb=>m.disj (i+1) (j+1) a b (by omega) (by simpa using ha) (by simpa using hb),fun i z k x hx=> ?_,fun b o k=> ?_⟩,fun x hx=>by simp[hx],fun x hx=>by simp[hx]⟩
 ·have:b∉h.foot:=fun hx=>by have:=m.apart 0 h (by simp) b hx;rw[this] at k;cases k
  simp[this,k]
 ·by_cases hx:b∈h.foot
  ·simp[hx] at k;exact k
  ·simp[hx] at k;exact m.sealed b o k
 ·have h1:x∉h.foot:=m.disj (i+1) 0 z h (by omega) (by simpa using k) (by simp) x hx
  simp[h1]
  exact m.apart (i+1) z (by simpa using k) x hx
 ·have k':=m.base b o k
  have:b∉h.foot:=fun hx=>by have:=m.apart 0 h (by simp) b hx;rw[this] at k';cases k'
  simp[this,k']
theorem Mem.unstamp {h:Itm}(m:Mem W G w H)(hx:∀x∈h.foot,G x=w'.heap[x]?)(hok:h.ok w')(hH:∀(i:Nat) (z:Itm),H[i]? =some z→∀x∈z.foot,x∉h.foot)(hW:∀x∈h.foot,W.heap[x]? =none):
  Mem W (fun x=>if x∈h.foot then none else G x) w (h::H):=by
 have hold:∀x∈h.foot,w.heap[x]? =w'.heap[x]? :=fun x hxf=>by
  have h1:=hx x hxf
  have hlt:=Itm.lt hok x hxf
  have h2:G x=some w'.heap[x]:=by rw[h1];simp[hlt]
  rw[m.sealed x _ h2,←h1,h2]
 refine⟨m.os,m.tape,m.output,fun b o k=> ?_,fun i z k=> ?_,fun i j a b hij ha hb=> ?_,fun i z k x hxf=> ?_,fun b o k=> ?_⟩
 ·by_cases hxf:b∈h.foot
  ·simp[hxf] at k
  ·simp[hxf] at k;exact m.sealed b o k
 ·cases i with
  |zero=>simp at k;subst k;exact Itm.ok_of hok (fun x hxf=>hold x hxf)
  |succ i=>exact m.items i z (by simpa using k)
 ·cases i with
  |zero=>
   simp at ha;subst ha
   cases j with
   |zero=>omega
   |succ j=>exact fun x hx hx'=>hH j b (by simpa using hb) x hx' hx
  |succ i=>
   cases j with
   |zero=>simp at hb;subst hb;exact hH i a (by simpa using ha)
   |succ j=>exact m.disj i j a b (by omega) (by simpa using ha) (by simpa using hb)
 ·by_cases hxh:x∈h.foot
  ·simp[hxh]
  ·simp only[hxh,if_false]
   cases i with
   |zero=>simp at k;subst k;exact absurd hxf hxh
   |succ i=>exact m.apart i z (by simpa using k) x hxf
 ·have:b∉h.foot:=fun hx=>by rw[hW b hx] at k;cases k
  simp[this,m.base b o k]
end
def Cell (G:GH)(b o:Nat)(c:Value):Prop:=∃cs t f,G b=some (.cells cs t f)∧cs[o]? =some c
theorem Cell.mono {G G':GH}(h:GLe G G'){b o:Nat}{c:Value}(k:Cell G b o c):Cell G' b o c:=by
 obtain⟨cs,t,f,h1,h2⟩:=k
 exact⟨cs,t,f,h _ _ h1,h2⟩
theorem Cell.get {W w:World}{G:GH}{H:List Itm}(m:Mem W G w H){b o:Nat}{c:Value}(k:Cell G b o c):w.cell? ⟨b,o,none⟩=some c:=by
 obtain⟨cs,t,f,h1,h2⟩:=k
 simp[World.cell?,m.sealed _ _ h1,h2]
abbrev Rep (α:Type):=GH→Value→α→Prop
def Cv {α:Type}(R:Rep α):Prop:=∀G G' v x,GLe G G'→R G v x→R G' v x
def RI (k:IntKind):Rep Int:=fun _ v n=>v= .int k n
def RB :Rep Bool:=fun _ v b=>v= .bool b
theorem RI.mono (k:IntKind):Cv (RI k):=fun _ _ _ _ _ h=>h
theorem RB.mono :Cv RB:=fun _ _ _ _ _ h=>h
def All2 {α:Type}(A:Value→α→Prop)(vs:List Value)(xs:List α):Prop:=
 vs.length=xs.length∧∀(i:Nat) (c:Value) (x:α),vs[i]? =some c→xs[i]? =some x→A c x
theorem All2.nil {α:Type}(A:Value→α→Prop):All2 A [] []:=⟨rfl,by simp⟩
theorem All2.get {α:Type}{A:Value→α→Prop}{vs:List Value}{xs:List α}(h:All2 A vs xs){i:Nat}{x:α}(hx:xs[i]? =some x):∃c,vs[i]? =some c∧A c x:=by
 have hi:i<vs.length:=by rw[h.1];exact(List.getElem?_eq_some_iff.1 hx).1
 exact⟨vs[i],by simp[hi],h.2 i _ x (by simp[hi]) hx⟩
theorem All2.mono {α:Type}{A A':Value→α→Prop}{vs:List Value}{xs:List α}(h:All2 A vs xs)(hA:∀v x,A v x→A' v x):All2 A' vs xs:=
 ⟨h.1,fun i c x h1 h2=>hA _ _ (h.2 i c x h1 h2)⟩
theorem All2.append {α:Type}{A:Value→α→Prop}{vs vs':List Value}{xs xs':List α}(h:All2 A vs xs)(h':All2 A vs' xs'):All2 A (vs++vs') (xs++xs'):=by
 refine⟨by simp[h.1,h'.1],fun i c x h1 h2=> ?_⟩
 by_cases hi:i<vs.length
 ·rw[List.getElem?_append_left hi] at h1
  rw[List.getElem?_append_left (by rw[←h.1];exact hi)] at h2
  exact h.2 i c x h1 h2
 ·rw[List.getElem?_append_right (by omega)] at h1
  rw[List.getElem?_append_right (by rw[←h.1];omega),←h.1] at h2
  exact h'.2 _ c x h1 h2
theorem All2.set {α:Type}{A:Value→α→Prop}{vs:List Value}{xs:List α}(h:All2 A vs xs)(i:Nat){c:Value}{x:α}(hc:A c x):All2 A (vs.set i c) (xs.set i x):=by
 refine⟨by simp[h.1],fun j d y h1 h2=> ?_⟩
 rw[List.getElem?_set] at h1 h2
 by_cases hij:i=j
 ·subst hij
  simp only[if_true] at h1 h2
  split at h1
  ·split at h2
   ·cases h1;cases h2;exact hc
   ·cases h2
  ·cases h1
 ·rw[if_neg hij] at h1 h2
  exact h.2 j d y h1 h2
theorem All2.take {α:Type}{A:Value→α→Prop}{vs:List Value}{xs:List α}(h:All2 A vs xs)(n:Nat):All2 A (vs.take n) (xs.take n):=by
 refine⟨by simp[h.1],fun j d y h1 h2=> ?_⟩
 rw[List.getElem?_take] at h1 h2
 split at h1
 ·rename_i hj;rw[if_pos hj] at h2;exact h.2 j d y h1 h2
 ·cases h1
theorem All2.drop {α:Type}{A:Value→α→Prop}{vs:List Value}{xs:List α}(h:All2 A vs xs)(n:Nat):All2 A (vs.drop n) (xs.drop n):=by
 refine⟨by simp[h.1],fun j d y h1 h2=> ?_⟩
 rw[List.getElem?_drop] at h1 h2
 exact h.2 _ d y h1 h2
theorem All2.one {α:Type}{A:Value→α→Prop}{c:Value}{x:α}(h:A c x):All2 A [c] [x]:=by
 refine⟨rfl,fun i d y h1 h2=> ?_⟩
 match i with
 |0=>simp at h1 h2;subst h1;subst h2;exact h
 |i+1=>simp at h1
theorem All2.cons {α:Type}{A:Value→α→Prop}{c:Value}{x:α}{vs:List Value}{xs:List α}(h:A c x)(h':All2 A vs xs):All2 A (c::vs) (x::xs):=
 All2.append (All2.one h) h'
theorem All2.replicate {α:Type}{A:Value→α→Prop}{c:Value}{x:α}(h:A c x)(n:Nat):All2 A (List.replicate n c) (List.replicate n x):=by
 induction n with
 |zero=>exact All2.nil A
 |succ n ih=>exact All2.cons h ih
def RSl {α:Type}(R:Rep α):Rep (List α):=fun G v xs=>
 ∃vs,All2 (R G) vs xs∧((v= .slice none 0 0∧xs=[])∨
  ∃a cap,v= .slice (some a) xs.length cap∧xs.length≤cap∧cap≤maxLen∧∀(j:Nat) (c:Value),vs[j]? =some c→a.spot=Option.none∧Cell G a.block (a.off+j) c)
theorem RSl.mono {α:Type}{R:Rep α}(hR:Cv R):Cv (RSl R):=by
 rintro G G' v xs hG ⟨vs,h1,h2⟩
 refine⟨vs,h1.mono (fun v x=>hR G G' v x hG),?_⟩
 rcases h2 with h2|⟨a,cap,e1,e2,e3,e4⟩
 ·exact .inl h2
 ·exact .inr ⟨a,cap,e1,e2,e3,fun j c hc=>⟨(e4 j c hc).1,(e4 j c hc).2.mono hG⟩⟩
theorem RSl.nil {α:Type}(R:Rep α)(G:GH):RSl R G (.slice none 0 0) []:=⟨[],All2.nil _,.inl ⟨rfl,rfl⟩⟩
theorem RSl.len {α:Type}{R:Rep α}{G:GH}{v:Value}{xs:List α}(h:RSl R G v xs):∃a c,v= .slice a xs.length c∧xs.length≤c∧c≤maxLen:=by
 obtain⟨vs,_,h⟩:=h
 rcases h with⟨rfl,rfl⟩|⟨a,cap,rfl,h1,h2,_⟩
 ·exact⟨none,0,rfl,by simp,by simp[maxLen]⟩
 ·exact⟨_,cap,rfl,h1,h2⟩
def Ow {α:Type}(R:Rep α)(t:TypeId)(G:GH)(it:Itm)(v:Value)(xs:List α):Prop:=
 ∃vs,it= .row v t 1 xs.length vs∧All2 (R G) vs xs
theorem Ow.mono {α:Type}{R:Rep α}(hR:Cv R){t:TypeId}{G G':GH}{it:Itm}{v:Value}{xs:List α}(hG:GLe G G')(h:Ow R t G it v xs):Ow R t G' it v xs:=by
 obtain⟨vs,h1,h2⟩:=h
 exact⟨vs,h1,h2.mono (fun v x=>hR G G' v x hG)⟩
theorem Ow.len {α:Type}{R:Rep α}{t:TypeId}{W w:World}{G G':GH}{it:Itm}{H:List Itm}{v:Value}{xs:List α}(h:Ow R t G it v xs)(m:Mem W G' w (it::H)):
  ∃a c,v= .slice a xs.length c∧xs.length≤c∧c≤maxLen:=by
 obtain⟨vs,rfl,_⟩:=h
 have this:w.ownsRow 0 t 1 v xs.length vs:=m.items 0 (.row v t 1 xs.length vs) (by simp)
 rcases this.2 with⟨h1,h2⟩|⟨g,cap,cur,h1,_,_,h2,h3,_⟩
 ·exact⟨none,0,by rw[h1,h2],by omega,by simp[maxLen]⟩
 ·exact⟨_,cap,h1,h2,h3⟩
theorem Ow.stamp {α:Type}{R:Rep α}(hR:Cv R){t:TypeId}{W w:World}{G:GH}{it:Itm}{H:List Itm}{v:Value}{xs:List α}(h:Ow R t G it v xs)(m:Mem W G w (it::H)):
  ∃G',GLe G G'∧Mem W G' w H∧RSl R G' v xs:=by
 obtain⟨G',h1,h2,h3,_⟩:=m.stamp
 refine⟨G',h1,h2,?_⟩
 obtain⟨vs,rfl,hA⟩:=h
 refine⟨vs,hA.mono (fun v x=>hR G G' v x h1),?_⟩
 have this:w.ownsRow 0 t 1 v xs.length vs:=m.items 0 (.row v t 1 xs.length vs) (by simp)
 rcases this.2 with⟨e1,e2⟩|⟨g,cap,cur,e1,_,eh,e2,e3,e4,e5⟩
 ·exact .inl ⟨e1,List.eq_nil_of_length_eq_zero e2⟩
 ·refine .inr ⟨⟨g,0,none⟩,cap,e1,e2,e3,fun j c hc=>⟨rfl,cur,t,(0,0),?_,?_⟩⟩
  ·rw[h3 g (by rw[e1];simp[Itm.foot,Value.ownBlock]),eh]
  ·rw[←e5,List.getElem?_take] at hc
   split at hc
   ·simpa using hc
   ·cases hc
theorem Ow.nil {α:Type}(R:Rep α)(t:TypeId){W w:World}{G:GH}{H:List Itm}(m:Mem W G w H):
  ∃it,Mem W G w (it::H)∧Ow R t G it (.slice none 0 0) []:=
 ⟨_,m.nilrow t 1,[],rfl,All2.nil _⟩
theorem Ow.lend {α:Type}{R:Rep α}(hR:Cv R){t:TypeId}{W w:World}{G:GH}{it:Itm}{H:List Itm}{v:Value}{xs:List α}(h:Ow R t G it v xs)(m:Mem W G w (it::H)):
  ∃G',GLe G G'∧Mem W G' w H∧RSl R G' v xs∧
   ∀G'' w' H',GLe G' G''→Mem W G'' w' H'→∃G₃,GLe G G₃∧Mem W G₃ w' (it::H')∧Ow R t G₃ it v xs:=by
 obtain⟨G',h1,h2,h3,h4⟩:=m.stamp
 have hok:it.ok w:=m.items 0 it (by simp)
 have hap:∀x∈it.foot,G x=none:=m.apart 0 it (by simp)
 have hlt:=Itm.lt hok
 obtain⟨G1,e1,e2,e3⟩:=h.stamp hR m
 refine⟨G',h1,h2,?_,fun G'' w' H' hle m'=> ?_⟩
 ·obtain⟨vs,rfl,hA⟩:=h
  refine⟨vs,hA.mono (fun v x=>hR G G' v x h1),?_⟩
  have this:w.ownsRow 0 t 1 v xs.length vs:=hok
  rcases this.2 with⟨e1,e2⟩|⟨g,cap,cur,e1,_,eh,e2,e3,e4,e5⟩
  ·exact .inl ⟨e1,List.eq_nil_of_length_eq_zero e2⟩
  ·refine .inr ⟨⟨g,0,none⟩,cap,e1,e2,e3,fun j c hc=>⟨rfl,cur,t,(0,0),?_,?_⟩⟩
   ·rw[h3 g (by rw[e1];simp[Itm.foot,Value.ownBlock]),eh]
   ·rw[←e5,List.getElem?_take] at hc
    split at hc
    ·simpa using hc
    ·cases hc
 ·have hx:∀x∈it.foot,G'' x=w.heap[x]? :=fun x hx=>by
   have hl:=hlt x hx
   have:G' x=some w.heap[x]:=by rw[h3 x hx];simp[hl]
   rw[hle x _ this];simp[hl]
  refine⟨_,fun b o k=> ?_,m'.unstamp hx hok (fun i z hz x hxz hxi=> ?_) (fun x hxi=> ?_),?_⟩
  ·have:b∉it.foot:=fun hx=>by rw[hap b hx] at k;cases k
   simp[this,hle b o (h1 b o k)]
  ·have h5:=m'.apart i z hz x hxz
   have hl:=hlt x hxi
   rw[hx x hxi] at h5
   simp[hl] at h5
  ·cases hg:W.heap[x]? with
   |none=>rfl
   |some o=>have h5:=m.base x o hg;rw[hap x hxi] at h5;cases h5
  ·refine h.mono hR (fun b o k=> ?_)
   have:b∉it.foot:=fun hx=>by rw[hap b hx] at k;cases k
   simp[this,hle b o (h1 b o k)]
end Go.Sx

namespace Go.Sx
section
variable {W w w' : World} {G G' : GH} {H H' : List Itm}
theorem Ds {α:Type}(H:List α)(j:Nat)(x:α)(hj:j<H.length):(H.eraseIdx j).take j++x::(H.eraseIdx j).drop j=H.set j x:=by
 apply List.ext_getElem?
 intro i
 have hl:((H.eraseIdx j).take j).length=j:=by simp[List.length_eraseIdx,hj];omega
 by_cases h1:i<j
 ·rw[List.getElem?_append_left (by omega),List.getElem?_take,if_pos h1,List.getElem?_eraseIdx,if_pos h1,List.getElem?_set,if_neg (by omega)]
 ·rw[List.getElem?_append_right (by omega),hl]
  by_cases h2:i=j
  ·subst h2;simp[hj]
  ·obtain⟨k,hk⟩:∃k,i-j=k+1:=⟨i-j-1,by omega⟩
   rw[hk,List.getElem?_cons_succ,List.getElem?_drop,List.getElem?_eraseIdx,if_neg (by omega),List.getElem?_set,if_neg (by omega)]
   congr 1;omega
theorem Mem.changeAt {h' h:Itm}(m:Mem W G w H)(j:Nat)(hj:H[j]? =some h)(ho:w'.os=w.os)(ht:w'.tape=w.tape)(hu:w'.output=w.output)
  (hb:∀x,x<w.heap.size→x∉h.foot→w'.heap[x]? =w.heap[x]?) (hok:h'.ok w') (hf:∀x∈h'.foot,x∈h.foot∨w.heap.size≤x):Mem W G w' (H.set j h'):=by
 have hl:j<H.length:=(List.getElem?_eq_some_iff.1 hj).1
 have m1:=((m.front j hj).change ho ht hu hb hok hf).back j (by simp[List.length_eraseIdx,hl];omega)
 rwa [Ds H j h' hl] at m1
theorem Mem.eraseAt (m:Mem W G w H)(j:Nat):Mem W G w (H.eraseIdx j):=by
 refine m.inj (fun i=>if i<j then i else i+1) (by intro i k;split<;>split<;>omega) (fun i x h=> ?_)
 rw[List.getElem?_eraseIdx] at h
 split<;>simp_all
theorem Mem.boxCell (m:Mem W G w H)(j:Nat){b:Nat}{t:TypeId}{cs:List Value}(hj:H[j]? =some (.box b t cs)){i:Nat}{c:Value}(hc:cs[i]? =some c):w.cell? ⟨b,i,none⟩=some c:=by
 have h:w.heap[b]? =some (.cells cs.toArray t (0,0)):=m.items j _ hj
 simp[World.cell?,h,hc]
theorem Mem.boxStore (m:Mem W G w H)(j:Nat){b:Nat}{t:TypeId}{cs:List Value}(hj:H[j]? =some (.box b t cs))(cs':List Value):
  Mem W G (w.setRow b cs'.toArray) (H.set j (.box b t cs')):=by
 have h:w.heap[b]? =some (.cells cs.toArray t (0,0)):=m.items j _ hj
 exact m.changeAt j hj rfl rfl rfl (fun x _ hx=>setRow_other w b x _ (by simpa [Itm.foot] using hx)) (setRow_heap w b _ _ t _ h) (fun x hx=> .inl hx)
end
section
variable {P : Program} {ops : Array Oper} {rest : List Oper} {n r : Bk} {x : List (Nat × Bk)} {a : Act} {w w' : World} {N : Nat} {L : Br}
theorem Co {o:Oper}{d:Nat}{v:Value}(f:Fr a N L)(hg:o.guard=none)(hd:o.dst=some d)(hN:Nat.blt d N=true)
  (hr:(execOp a.eval o).run P w= .ok (.value v) w') (k:∀a',Fr a' N ((d,v)::L)→wpList P ops (Qk n x r) rest a' w'):
  wpList P ops (Qk n x r) (o::rest) a w:=by
 refine wpList_plain hg fun K hK=> ?_
 unfold Oper.wp
 rw[hr]
 simp only[Oper.upon,hd]
 exact hK _ _ (k _ (f.put hN v))
theorem l_void {o:Oper}(hg:o.guard=none)(hd:o.dst=none)
  (hr:(execOp a.eval o).run P w= .ok .skip w') (k:wpList P ops (Qk n x r) rest a w'):
  wpList P ops (Qk n x r) (o::rest) a w:=by
 refine wpList_plain hg fun K hK=> ?_
 unfold Oper.wp
 rw[hr]
 simp only[Oper.upon,hd]
 exact hK _ _ k
theorem DZ {j s:Nat}{b:Bool}(f:Fr a N L)(hj:(ops[j]?).bind (·.dst)=some s)(hs:look L s=some (.bool b)):yielded ops a.tmps j=some b:=by
 have h:=f.get s _ hs
 unfold yielded
 rw[hj]
 rcases Nat.lt_or_ge s a.tmps.size with h1|h1
 ·simp[Array.getD_eq_getD_getElem?,h1] at h
  simp[h1,h]
 ·simp[Array.getD_eq_getD_getElem?,Array.getElem?_eq_none h1,undef] at h
theorem l_run {dst:Option Tmp}{op:Op}{t:TypeId}{pos:String}{af:Array Edge}{j s:Nat}{b c:Bool}(f:Fr a N L)(hj:(ops[j]?).bind (·.dst)=some s)
  (hs:look L s=some (.bool c)) (hc:c=b) (k:wpList P ops (Qk n x r) (⟨dst,op,t,pos,af,none⟩::rest) a w):
  wpList P ops (Qk n x r) (⟨dst,op,t,pos,af,some (j,b)⟩::rest) a w:=by
 have hy:=DZ (ops:=ops) f hj hs
 unfold wpList at k ⊢
 rw[if_pos (by simp[Region.wanted])] at k
 rw[if_pos (by simp[Region.wanted,hy,hc])]
 exact k
theorem l_not {dst:Option Tmp}{op:Op}{t:TypeId}{pos:String}{af:Array Edge}{j s:Nat}{b c:Bool}(f:Fr a N L)(hj:(ops[j]?).bind (·.dst)=some s)
  (hs:look L s=some (.bool c)) (hc:c= !b) (k:wpList P ops (Qk n x r) rest (a.put dst undef) w):
  wpList P ops (Qk n x r) (⟨dst,op,t,pos,af,some (j,b)⟩::rest) a w:=by
 have hy:=DZ (ops:=ops) f hj hs
 unfold wpList
 simp only[Region.wanted,hy,hc]
 cases b<;>simpa using k
theorem l_not' {d:Nat}{op:Op}{t:TypeId}{pos:String}{af:Array Edge}{j s:Nat}{b c:Bool}(f:Fr a N L)(hN:Nat.blt d N=true)(hj:(ops[j]?).bind (·.dst)=some s)
  (hs:look L s=some (.bool c)) (hc:c= !b) (k:∀a',Fr a' N ((d,undef)::L)→wpList P ops (Qk n x r) rest a' w):
  wpList P ops (Qk n x r) (⟨some d,op,t,pos,af,some (j,b)⟩::rest) a w:=
 l_not f hj hs hc (k _ (f.put hN undef))
theorem l_call {d:Nat}{g:FuncId}{args:List Operand}{tys:Array TypeId}{vs:List Value}{t:TypeId}{pos:String}{af:Array Edge}(R:Value→World→Prop)(f:Fr a N L)
  (hN:Nat.blt d N=true) (hargs:evalAll L args=some vs) (hcall:∀(ars:Array Value) (w:World),(callFunc g ars).run P w= .ok (.enter g ars) w)
  (hc:Calls P g vs.toArray w fun e w'=>∃v,e= .returned v∧R v w')
  (k:∀v w',R v w'→∀a',Fr a' N ((d,v)::L)→wpList P ops (Qk n x r) rest a' w'):
  wpList P ops (Qk n x r) (⟨some d,.call {callee:= .value (.func g),args:=args.toArray,argTypes:=tys},t,pos,af,none⟩::rest) a w:=by
 refine wpList_plain rfl fun K hK=> ?_
 unfold Oper.wp
 have hargs':(args.toArray.map a.eval)=vs.toArray:=by rw[List.map_toArray,f.evalAll hargs]
 have hr:(execOp a.eval ⟨some d,.call {callee:= .value (.func g),args:=args.toArray,argTypes:=tys},t,pos,af,none⟩).run P w= .ok (.enter g vs.toArray) w:=by
  simp only[execOp,resolve,Deferred.ofValue,Act.eval,Sem.run_bind,Sem.run_pure,Result.andThen_ok,invoke,hargs']
  have:=hcall vs.toArray w
  simpa using this
 rw[hr]
 simp only[Oper.upon]
 refine hc.mono fun e w' ⟨v,he,hR⟩=> ?_
 subst he
 exact hK _ _ (k v w' hR _ (f.put hN v))
theorem l_callv {d:Nat}{g:FuncId}{fo:Operand}{first caps:Array Value}{args:List Operand}{tys:Array TypeId}{vs:List Value}{t:TypeId}{pos:String}{af:Array Edge}(R:Value→World→Prop)(f:Fr a N L)
  (hN:Nat.blt d N=true) (hfo:A2 L fo=some (.func (.func g) first caps)) (hargs:evalAll L args=some vs) (hcall:∀(ars:Array Value) (w:World),(callFunc g ars).run P w= .ok (.enter g ars) w)
  (hc:Calls P g (first++vs.toArray++caps) w fun e w'=>∃v,e= .returned v∧R v w')
  (k:∀v w',R v w'→∀a',Fr a' N ((d,v)::L)→wpList P ops (Qk n x r) rest a' w'):
  wpList P ops (Qk n x r) (⟨some d,.call {callee:= .value fo,args:=args.toArray,argTypes:=tys},t,pos,af,none⟩::rest) a w:=by
 refine wpList_plain rfl fun K hK=> ?_
 unfold Oper.wp
 have hargs':(args.toArray.map a.eval)=vs.toArray:=by rw[List.map_toArray,f.evalAll hargs]
 have hr:(execOp a.eval ⟨some d,.call {callee:= .value fo,args:=args.toArray,argTypes:=tys},t,pos,af,none⟩).run P w= .ok (.enter g (first++vs.toArray++caps)) w:=by
  simp only[execOp,resolve,Deferred.ofValue,f.eval hfo,Sem.run_bind,Sem.run_pure,Result.andThen_ok,invoke,hargs']
  exact hcall _ w
 rw[hr]
 simp only[Oper.upon]
 refine hc.mono fun e w' ⟨v,he,hR⟩=> ?_
 subst he
 exact hK _ _ (k v w' hR _ (f.put hN v))
end
structure SlT (P:Program)(t e sz bytes:Nat)(z:Value):Prop where
 und:P.underlying t=some (.slice e)
 info:∃i,P.info? e=some i∧i.size=sz∧i.bytes=bytes∧i.zero=some z
def Cm (P:Program)(t:TypeId):Prop:=∀w,(isAgg t).run P w= .ok false w
def Agg (P:Program)(t n:Nat):Prop:=(∀w,(isAgg t).run P w= .ok true w)∧∀w,(sizeOf t).run P w= .ok n w
section
variable {P : Program} {ρ : Operand → Value} {w : World} {d : Option Tmp} {t : TypeId} {pos : String} {af : Array Edge} {gd : Option (Nat × Bool)}
theorem AX {x:Operand}{v:Value}(h:ρ x=v):(execOp ρ ⟨d,.move x,t,pos,af,gd⟩).run P w= .ok (.value v) w:=by rw[←h];rfl
theorem Bl {x:Operand}{v:Value}(h:ρ x=v):(execOp ρ ⟨d,.assign x,t,pos,af,gd⟩).run P w= .ok (.value v) w:=by rw[←h];rfl
theorem r_pick {c x y:Operand}{b:Bool}{v:Value}(hc:ρ c= .bool b)(h:(if b then ρ x else ρ y)=v):(execOp ρ ⟨d,.pick c x y,t,pos,af,gd⟩).run P w= .ok (.value v) w:=by
 rw[←h];simp[execOp,hc,asBool]
theorem AD {op:BinOp}{k:IntKind}{u u':TypeId}{x y:Operand}{m n:Int}{v:Value}(hx:ρ x= .int k m)(hy:ρ y= .int k n)
  (h:∀w,(binOp op u (.int k m) (.int k n)).run P w= .ok v w):(execOp ρ ⟨d,.binOp op u x y u',t,pos,af,gd⟩).run P w= .ok (.value v) w:=by
 have hg:(eqGuard op u x y (.int k m) (.int k n)).run P w= .ok () w:=by
  unfold eqGuard
  cases op<;>rfl
 simp[execOp,hx,hy,hg,h w]
theorem Ar {k:IntKind}{u:TypeId}{m n:Int}(w:World):(binOp .add u (.int k m) (.int k n)).run P w= .ok (.int k (k.wrap (m+n))) w:=by simp[binOp,Op.intArith]
theorem AH {k:IntKind}{u:TypeId}{m n:Int}(w:World):(binOp .sub u (.int k m) (.int k n)).run P w= .ok (.int k (k.wrap (m-n))) w:=by simp[binOp,Op.intArith]
theorem CH {k:IntKind}{u:TypeId}{m n:Int}(w:World):(binOp .mul u (.int k m) (.int k n)).run P w= .ok (.int k (k.wrap (m*n))) w:=by simp[binOp,Op.intArith]
theorem AJ {k:IntKind}{u:TypeId}{m n:Int}(w:World):(binOp .lss u (.int k m) (.int k n)).run P w= .ok (.bool (decide (m<n))) w:=by simp[binOp,Op.intCmp]
theorem B7 {k:IntKind}{u:TypeId}{m n:Int}(w:World):(binOp .leq u (.int k m) (.int k n)).run P w= .ok (.bool (decide (m≤n))) w:=by simp[binOp,Op.intCmp]
theorem BV {k:IntKind}{u:TypeId}{m n:Int}(w:World):(binOp .gtr u (.int k m) (.int k n)).run P w= .ok (.bool (decide (n<m))) w:=by simp[binOp,Op.intCmp]
theorem BM {k:IntKind}{u:TypeId}{m n:Int}(w:World):(binOp .geq u (.int k m) (.int k n)).run P w= .ok (.bool (decide (n≤m))) w:=by simp[binOp,Op.intCmp]
theorem By {k:IntKind}{u:TypeId}{m n:Int}(w:World):(binOp .eql u (.int k m) (.int k n)).run P w= .ok (.bool (m==n)) w:=by simp[binOp,Op.intCmp]
theorem CI {k:IntKind}{u:TypeId}{m n:Int}(w:World):(binOp .neq u (.int k m) (.int k n)).run P w= .ok (.bool (m !=n)) w:=by simp[binOp,Op.intCmp]
def iand (k:IntKind)(m n:Int):Int:=k.wrap (BitVec.ofInt k.bits m&&&BitVec.ofInt k.bits n).toNat
def ior (k:IntKind)(m n:Int):Int:=k.wrap (BitVec.ofInt k.bits m|||BitVec.ofInt k.bits n).toNat
def A7 (k:IntKind)(m n:Int):Int:=k.wrap (BitVec.ofInt k.bits m^^^BitVec.ofInt k.bits n).toNat
def iandNot (k:IntKind)(m n:Int):Int:=k.wrap (BitVec.ofInt k.bits m&&& ~~~(BitVec.ofInt k.bits n)).toNat
theorem DH {k:IntKind}{u:TypeId}{m n:Int}(w:World):(binOp .and u (.int k m) (.int k n)).run P w= .ok (.int k (iand k m n)) w:=by simp[binOp,Op.intBits,iand]
theorem b_or {k:IntKind}{u:TypeId}{m n:Int}(w:World):(binOp .or u (.int k m) (.int k n)).run P w= .ok (.int k (ior k m n)) w:=by simp[binOp,Op.intBits,ior]
theorem b_xor {k:IntKind}{u:TypeId}{m n:Int}(w:World):(binOp .xor u (.int k m) (.int k n)).run P w= .ok (.int k (A7 k m n)) w:=by simp[binOp,Op.intBits,A7]
theorem CN {k:IntKind}{u:TypeId}{m n:Int}(w:World):(binOp .andNot u (.int k m) (.int k n)).run P w= .ok (.int k (iandNot k m n)) w:=by simp[binOp,Op.intBits,iandNot]
theorem CW {k:IntKind}{u:TypeId}{m n:Int}(h:(n==0)=false)(w:World):(binOp .quo u (.int k m) (.int k n)).run P w= .ok (.int k (k.wrap (m.tdiv n))) w:=by
 have:n≠0:=by simpa using h
 simp[binOp,Op.intDiv,this]
theorem b_rem {k:IntKind}{u:TypeId}{m n:Int}(h:(n==0)=false)(w:World):(binOp .rem u (.int k m) (.int k n)).run P w= .ok (.int k (m.tmod n)) w:=by
 have:n≠0:=by simpa using h
 simp[binOp,Op.intDiv,this]
def ishl (k:IntKind)(m n:Int):Int:=k.wrap (m*2^(min n.toNat k.bits))
def BJ (k:IntKind)(m n:Int):Int:=m.fdiv (2^(min n.toNat k.bits))
theorem r_shl {k k':IntKind}{u u':TypeId}{x y:Operand}{m n:Int}(hx:ρ x= .int k m)(hy:ρ y= .int k' n)(h:decide (n<0)=false):
  (execOp ρ ⟨d,.binOp .shl u x y u',t,pos,af,gd⟩).run P w= .ok (.value (.int k (ishl k m n))) w:=by
 have h':¬n<0:=by simpa using h
 simp[execOp,hx,hy,eqGuard,binOp,Op.shift,h',ishl]
theorem r_shr {k k':IntKind}{u u':TypeId}{x y:Operand}{m n:Int}(hx:ρ x= .int k m)(hy:ρ y= .int k' n)(h:decide (n<0)=false):
  (execOp ρ ⟨d,.binOp .shr u x y u',t,pos,af,gd⟩).run P w= .ok (.value (.int k (BJ k m n))) w:=by
 have h':¬n<0:=by simpa using h
 simp[execOp,hx,hy,eqGuard,binOp,Op.shift,h',BJ]
theorem Bd {u:TypeId}{x:Operand}{b:Bool}(hx:ρ x= .bool b):(execOp ρ ⟨d,.unOp .not u x,t,pos,af,gd⟩).run P w= .ok (.value (.bool (!b))) w:=by
 simp[execOp,hx,Op.unary]
theorem r_neg {u:TypeId}{x:Operand}{k:IntKind}{m:Int}(hx:ρ x= .int k m):(execOp ρ ⟨d,.unOp .neg u x,t,pos,af,gd⟩).run P w= .ok (.value (.int k (k.wrap (0-m)))) w:=by
 simp[execOp,hx,Op.unary,Op.intArith]
theorem CT {s u:TypeId}{x:Operand}{k k':IntKind}{m:Int}(hx:ρ x= .int k m)(hs:∃q,P.underlying s=some q)(hu:P.underlying u=some (.int k')):
  (execOp ρ ⟨d,.convert s u x,t,pos,af,gd⟩).run P w= .ok (.value (.int k' (k'.wrap m))) w:=by
 obtain⟨q,hq⟩:=hs
 simp[execOp,hx,convert,run_underlying hq,run_underlying hu,Conv.intToInt]
theorem En {x:Operand}{u e:TypeId}{a:Option Addr}{n c:Nat}(hx:ρ x= .slice a n c)(hu:P.underlying u=some (.slice e)):
  (execOp ρ ⟨d,.call {callee:= .builtin .len,args:= #[x],argTypes:= #[u]},t,pos,af,gd⟩).run P w= .ok (.value (.int .i64 n)) w:=by
 simp[execOp,resolve,invoke,builtin,Builtin.len_,run_underlying hu,hx,goInt]
theorem Bb {x:Operand}{vs:Array Value}{i:Nat}{v:Value}(hx:ρ x= .tuple vs)(hi:vs[i]? =some v):(execOp ρ ⟨d,.extract x i,t,pos,af,gd⟩).run P w= .ok (.value v) w:=by
 simp[execOp,hx,Instr.extract,hi]
theorem Bj {x:Operand}{a:Addr}(hx:ρ x= .pointer (some a)):(execOp ρ ⟨d,.nilCheck x,t,pos,af,gd⟩).run P w= .ok (.value (.pointer (some a))) w:=by
 simp[execOp,hx]
theorem EF {x:Operand}{u:TypeId}{a:Addr}{c:Value}(hx:ρ x= .pointer (some a))(hp:Cm P u)(hc:w.cell? a=some c):
  (execOp ρ ⟨d,.load u x,t,pos,af,gd⟩).run P w= .ok (.value c) w:=by
 simp[execOp,hx,Instr.loadAt,Instr.sureAddr,loadVar,hp w,hc]
theorem r_loadAgg {x:Operand}{u n:Nat}{a:Addr}{cs:List Value}(hx:ρ x= .pointer (some a))(hp:Agg P u n)(hn:cs.length=n)(hc:∀j v,cs[j]? =some v→w.cell? (a.add j)=some v):
  (execOp ρ ⟨d,.load u x,t,pos,af,gd⟩).run P w= .ok (.value (.agg cs.toArray)) w:=by
 subst hn
 simp[execOp,hx,Instr.loadAt,Instr.sureAddr,loadVar,hp.1 w,hp.2 w,run_loadCells_list w a cs hc]
theorem Fs {x:Operand}{s fi:Nat}{a:Addr}{fs:Array Field}{fl:Field}{sz:Nat}(hx:ρ x= .pointer (some a))(hs:P.underlying s=some (.struct fs))(hf:fs[fi]? =some fl)
  (hz:∀w,(sizeOf fl.type).run P w= .ok sz w) (hz0:sz≠0):(execOp ρ ⟨d,.fieldAddr s x fi,t,pos,af,gd⟩).run P w= .ok (.value (.pointer (some (a.add fl.offset)))) w:=by
 simp[execOp,hx,Instr.fieldAt,Instr.sureAddr,run_underlying hs,hf,fieldPlace,hz w,hz0]
theorem r_box {x:Operand}{u:TypeId}{v:Value}(hx:ρ x=v):(execOp ρ ⟨d,.box u x,t,pos,af,gd⟩).run P w= .ok (.value (.pointer (some ⟨w.heap.size,0,none⟩))) (w.alloc (.cells v.cells u)):=by
 simp[execOp,hx,Instr.box,newVar,newRow]
theorem r_alloc {u:TypeId}{z:Value}(hz:∀w,(zeroValue u).run P w= .ok z w):(execOp ρ ⟨d,.alloc u,t,pos,af,gd⟩).run P w= .ok (.value (.pointer (some ⟨w.heap.size,0,none⟩))) (w.alloc (.cells z.cells u)):=by
 simp[execOp,Instr.alloc,hz w,newVar,newRow]
theorem DJ {x i:Operand}{u e:Nat}{bytes:Nat}{z:Value}{sz:Nat}{k:IntKind}{j:Int}{a:Addr}{n c:Nat}(hx:ρ x= .slice (some a) n c)(hi:ρ i= .int k j)(hu:SlT P u e sz bytes z)
  (h0:0≤j) (h1:j<n):(execOp ρ ⟨d,.indexAddr u x i,t,pos,af,gd⟩).run P w= .ok (.value (.pointer (some (a.add (j.toNat*sz))))) w:=by
 obtain⟨ti,h2,h3,_⟩:=hu.info
 simp[execOp,hx,hi,Instr.indexAt,asIntOf,run_underlying hu.und,h0,h1,sizeOf,typeInfo,h2,h3]
theorem r_store {x y:Operand}{u:TypeId}{b off:Nat}{tt:TypeId}{cur:Array Value}{v:Value}(hx:ρ x= .pointer (some ⟨b,off,none⟩))(hy:ρ y=v)(hz:∀w,(sizeOf u).run P w= .ok v.cells.size w)
  (hg:w.heap[b]? =some (.cells cur tt (0,0))) (hl:off+v.cells.size≤cur.size) (h1:∀c∈v.cells.toList,c.oneCell'=true):
  (execOp ρ ⟨d,.store u x y,t,pos,af,gd⟩).run P w= .ok .skip (w.setRow b (cur.toList.take off++v.cells.toList++cur.toList.drop (off+v.cells.size)).toArray):=by
 have:=run_storeCells_at P b off tt v.cells.toList 0 cur w hg (by simpa using hl) h1
 simp only[Nat.add_zero,Array.length_toList] at this
 simp[execOp,hx,hy,Instr.storeAt,Instr.sureAddr,storeVar,hz w,this]
theorem r_makeFunc {fn:Fn}{fs cs:Array Operand}{v:Value}(h:Instr.makeFunc fn (fs.map ρ) (cs.map ρ)= .pure v):(execOp ρ ⟨d,.makeFunc fn fs cs,t,pos,af,gd⟩).run P w= .ok (.value v) w:=by
 simp[execOp,h]
end
end Go.Sx

namespace Go.Sx
def enum (k:Nat):List Value→Br
 |[]=>[]
 |v::r=>(k,v)::enum (k+1) r
theorem look_enum {k s:Nat}{l:List Value}{v:Value}(h:look (enum k l) s=some v):k≤s∧l[s-k]? =some v:=by
 induction l generalizing k with
 |nil=>simp[enum,look] at h
 |cons u r ih=>
  by_cases hk:k=s
  ·subst hk;rw[enum,Ef] at h;cases h;simp
  ·rw[enum,D8 hk] at h
   obtain⟨h1,h2⟩:=ih h
   refine⟨by omega,?_⟩
   obtain⟨j,hj⟩:∃j,s-k=j+1:=⟨s-k-1,by omega⟩
   rw[hj,List.getElem?_cons_succ,←h2];congr 1;omega
theorem Fr.start {args:List Value}{N:Nat}(h:args.length≤N):Fr {tmps:=args.toArray++Array.replicate (N-args.toArray.size) undef,defers:=[]} N (enum 0 args):=by
 refine⟨rfl,by simp;omega,fun s v hs=> ?_⟩
 obtain⟨_,h2⟩:=look_enum hs
 simp only[Nat.sub_zero] at h2
 have hl:=(List.getElem?_eq_some_iff.1 h2).1
 simp[Array.getD_eq_getD_getElem?,Array.getElem?_append,hl]
 exact(List.getElem?_eq_some_iff.1 h2).2
theorem calls_k {P:Program}{g:FuncId}{fn:Func}{c:Code}{args:List Value}{w:World}{R:Ending→World→Prop}{N:Nat}(r:Bk)
  (hf:P.funcs[g]? =some fn) (hb:fn.body=some c) (hN:fn.ntmps=N) (hl:args.length≤N)
  (h:∀a,Fr a N (enum 0 args)→c.wp P (Qk r [] r) a w)
  (hr:∀a w,r a w→a.defers=[]∧∃v,(results fn a.tmps).run P w= .ok v w∧R (.returned v) w):Calls P g args.toArray w R:=by
 refine calls_of_wp hf hb ?_
 rw[hN]
 refine wp_mono (h _ (Fr.start hl)) fun e a w q=> ?_
 cases e with
 |normal=>exact hr _ _ q
 |ret=>exact hr _ _ q
 |exit id=>obtain⟨K,hk,_⟩:=q;cases hk
 |goto l=>exact q.elim
 |panic ch=>exact q.elim
 |outgrown=>exact q.elim
def Res (W:World)(G:GH)(H:List Itm)(Q:GH→List Itm→Value→Prop):Ending→World→Prop:=fun e w'=>
 ∃v,e= .returned v∧∃G' Ho,GLe G G'∧Mem W G' w' (Ho++H)∧Q G' Ho v
section
variable {P : Program} {fn : Func} {a : Act} {w : World} {N : Nat} {L : Br}
end
def idx {α:Type}(xs:List α)(i:Int):Option α:=if 0≤i then xs[i.toNat]? else none
theorem Dn {α:Type}{xs:List α}{i:Int}{x:α}(h:idx xs i=some x):0≤i∧i<xs.length∧xs[i.toNat]? =some x:=by
 unfold idx at h
 split at h
 ·rename_i h0
  have:=(List.getElem?_eq_some_iff.1 h).1
  exact⟨h0,by omega,h⟩
 ·cases h
theorem Ae {α:Type}{c:Bool}{p q:Option α}{y:α}(h:cond c p q=some y):(c=true∧p=some y)∨(c=false∧q=some y):=by
 cases c
 ·exact .inr ⟨rfl,h⟩
 ·exact .inl ⟨rfl,h⟩
theorem bind_some {α β:Type}{p:Option α}{q:α→Option β}{y:β}(h:p.bind q=some y):∃x,p=some x∧q x=some y:=Option.bind_eq_some_iff.1 h
theorem RSl.at {α:Type}{R:Rep α}{G:GH}{v:Value}{xs:List α}(h:RSl R G v xs){i:Int}{x:α}(hi:idx xs i=some x):
  ∃a n c off u,v= .slice (some ⟨a,off,none⟩) n c∧0≤i∧i<n∧Cell G a (off+i.toNat) u∧R G u x:=by
 obtain⟨h0,h1,h2⟩:=Dn hi
 obtain⟨vs,hA,h3⟩:=h
 rcases h3 with⟨rfl,rfl⟩|⟨⟨b,off,sp⟩,cap,rfl,h4,h5,h6⟩
 ·simp at h2
 ·obtain⟨c,hc,hR⟩:=hA.get h2
  obtain⟨rfl,h7⟩:=h6 _ _ hc
  exact⟨b,xs.length,cap,off,c,rfl,h0,h1,h7,hR⟩
def At (G:GH)(p c:Value):Prop:=∃b o,p= .pointer (some ⟨b,o,none⟩)∧Cell G b o c
theorem BR (b o n:Nat):(⟨b,o,none⟩:Addr).add n=⟨b,o+n,none⟩:=by
 unfold Addr.add;split
 ·rename_i h;subst h;rfl
 ·rfl
section
variable {P : Program} {ops : Array Oper} {rest : List Oper} {n r : Bk} {x : List (Nat × Bk)} {a : Act} {w : World} {N : Nat} {L : Br}
theorem Bf {α:Type}{R:Rep α}{G:GH}{v:Value}{xs:List α}{d:Nat}{u e bytes:Nat}{z:Value}{xo io:Operand}{k:IntKind}{i:Int}{e':α}{t:TypeId}{pos:String}{af:Array Edge}
  (hu:SlT P u e 1 bytes z) (f:Fr a N L) (hN:Nat.blt d N=true) (hx:A2 L xo=some v) (hi:A2 L io=some (.int k i)) (h:RSl R G v xs) (he:idx xs i=some e')
  (q:∀p c a',At G p c→R G c e'→Fr a' N ((d,p)::L)→wpList P ops (Qk n x r) rest a' w):
  wpList P ops (Qk n x r) (⟨some d,.indexAddr u xo io,t,pos,af,none⟩::rest) a w:=by
 obtain⟨b,m,c,off,cv,rfl,h0,h1,hc,hR⟩:=h.at he
 refine Co f rfl rfl hN (DJ (f.eval hx) (f.eval hi) hu h0 h1) fun a' f'=> ?_
 refine q _ cv a' ⟨b,off+i.toNat,?_,hc⟩ hR f'
 rw[BR,Nat.mul_one]
theorem AG {W:World}{H:List Itm}{G:GH}(m:Mem W G w H){d:Nat}{u:TypeId}{xo:Operand}{p c:Value}{t:TypeId}{pos:String}{af:Array Edge}
  (hp:Cm P u) (f:Fr a N L) (hN:Nat.blt d N=true) (hx:A2 L xo=some p) (h:At G p c)
  (q:∀a',Fr a' N ((d,c)::L)→wpList P ops (Qk n x r) rest a' w):
  wpList P ops (Qk n x r) (⟨some d,.load u xo,t,pos,af,none⟩::rest) a w:=by
 obtain⟨b,o,rfl,hc⟩:=h
 exact Co f rfl rfl hN (EF (f.eval hx) hp (hc.get m)) q
theorem AZ {α:Type}{R:Rep α}{G:GH}{v:Value}{xs:List α}{d:Nat}{u e:Nat}{xo:Operand}{t:TypeId}{pos:String}{af:Array Edge}
  (hu:P.underlying u=some (.slice e)) (f:Fr a N L) (hN:Nat.blt d N=true) (hx:A2 L xo=some v) (h:RSl R G v xs)
  (q:∀a',Fr a' N ((d,.int .i64 (xs.length:Int))::L)→wpList P ops (Qk n x r) rest a' w):
  wpList P ops (Qk n x r) (⟨some d,.call {callee:= .builtin .len,args:= #[xo],argTypes:= #[u]},t,pos,af,none⟩::rest) a w:=by
 obtain⟨b,c,rfl,_⟩:=h.len
 exact Co f rfl rfl hN (En (f.eval hx) hu) q
end
end Go.Sx

namespace Go.Sx
section
variable {P : Program} {ops : Array Oper} {rest l : List Oper} {n r : Bk} {x : List (Nat × Bk)} {a : Act} {w : World} {N : Nat} {L : Br}
variable {W : World} {G : GH} {H : List Itm}
variable {d : Nat} {t : TypeId} {pos : String} {af : Array Edge}
theorem Bz (j:Nat)(Mid:Bk)(h:wpList P ops (Qk Mid x r) (l.take j) a w)(k:∀a w,Mid a w→wpList P ops (Qk n x r) (l.drop j) a w):wpList P ops (Qk n x r) l a w:=by
 induction l generalizing j a w with
 |nil=>
  have h':Mid a w:=by rw[List.take_nil] at h;exact h
  have:=k a w h'
  rwa [List.drop_nil] at this
 |cons o l ih=>
  cases j with
  |zero=>exact k a w h
  |succ j=>
   simp only[List.take_succ_cons,List.drop_succ_cons] at h k
   unfold wpList at h ⊢
   have mono:∀a w,wpList P ops (Qk Mid x r) (l.take j) a w→wpList P ops (Qk n x r) l a w:=fun a w h=>ih j h k
   split at h
   ·rename_i hw
    rw[if_pos hw]
    rcases h with h|⟨h1,h2⟩
    ·left
     unfold Oper.wp at*
     generalize (execOp a.eval o).run P w=res at*
     cases res with
     |ok nx w'=>
      cases nx<;>simp only[Oper.upon] at h ⊢<;>
       first
        |exact mono _ _ h
        |exact Calls.mono h (fun e w'' he=>by
          cases e
          ·exact mono _ _ he
          ·exact he
          ·obtain⟨_,_,q⟩:=he;exact q.elim)
        |exact Rows.mono h (fun _ _ he=>mono _ _ he)
     |halt hh w'=>cases hh<;>simp only[Oper.upon] at h ⊢<;>exact h
    ·obtain⟨_,_,q⟩:=h2
     exact q.elim
   ·rename_i hw
    rw[if_neg hw]
    exact mono _ _ h
theorem l_res {g:FuncId}{args:List Operand}{tys:Array TypeId}{vs:List Value}{Q:GH→List Itm→Value→Prop}(f:Fr a N L)
  (hN:Nat.blt d N=true) (hargs:evalAll L args=some vs) (hcall:∀(ars:Array Value) (w:World),(callFunc g ars).run P w= .ok (.enter g ars) w)
  (hc:Calls P g vs.toArray w (Res W G H Q))
  (k:∀v G' Ho w',GLe G G'→Mem W G' w' (Ho++H)→Q G' Ho v→∀a',Fr a' N ((d,v)::L)→wpList P ops (Qk n x r) rest a' w'):
  wpList P ops (Qk n x r) (⟨some d,.call {callee:= .value (.func g),args:=args.toArray,argTypes:=tys},t,pos,af,none⟩::rest) a w:=
 l_call (R:=fun v w'=>∃G' Ho,GLe G G'∧Mem W G' w' (Ho++H)∧Q G' Ho v) f hN hargs hcall hc (fun v w' ⟨G',Ho,h1,h2,h3⟩=>k v G' Ho w' h1 h2 h3)
theorem l_resv {g:FuncId}{fo:Operand}{first caps:Array Value}{args:List Operand}{tys:Array TypeId}{vs:List Value}{Q:GH→List Itm→Value→Prop}(f:Fr a N L)
  (hN:Nat.blt d N=true) (hfo:A2 L fo=some (.func (.func g) first caps)) (hargs:evalAll L args=some vs) (hcall:∀(ars:Array Value) (w:World),(callFunc g ars).run P w= .ok (.enter g ars) w)
  (hc:Calls P g (first++vs.toArray++caps) w (Res W G H Q))
  (k:∀v G' Ho w',GLe G G'→Mem W G' w' (Ho++H)→Q G' Ho v→∀a',Fr a' N ((d,v)::L)→wpList P ops (Qk n x r) rest a' w'):
  wpList P ops (Qk n x r) (⟨some d,.call {callee:= .value fo,args:=args.toArray,argTypes:=tys},t,pos,af,none⟩::rest) a w:=
 l_callv (R:=fun v w'=>∃G' Ho,GLe G G'∧Mem W G' w' (Ho++H)∧Q G' Ho v) f hN hfo hargs hcall hc (fun v w' ⟨G',Ho,h1,h2,h3⟩=>k v G' Ho w' h1 h2 h3)
theorem Bw {u:TypeId}{xo:Operand}{v:Value}{cs:List Value}(m:Mem W G w H)(f:Fr a N L)(hN:Nat.blt d N=true)(hx:A2 L xo=some v)(hv:v.cells=cs.toArray)
  (k:∀b w' a',Mem W G w' (.box b u cs::H)→Fr a' N ((d,.pointer (some ⟨b,0,none⟩))::L)→wpList P ops (Qk n x r) rest a' w'):
  wpList P ops (Qk n x r) (⟨some d,.box u xo,t,pos,af,none⟩::rest) a w:=
 Co f rfl rfl hN (r_box (f.eval hx)) (fun a' f'=>k w.heap.size _ a' (by rw[hv];exact m.alloc u cs) f')
theorem Bx {u:TypeId}{z:Value}{cs:List Value}(hz:∀w,(zeroValue u).run P w= .ok z w)(m:Mem W G w H)(f:Fr a N L)(hN:Nat.blt d N=true)(hv:z.cells=cs.toArray)
  (k:∀b w' a',Mem W G w' (.box b u cs::H)→Fr a' N ((d,.pointer (some ⟨b,0,none⟩))::L)→wpList P ops (Qk n x r) rest a' w'):
  wpList P ops (Qk n x r) (⟨some d,.alloc u,t,pos,af,none⟩::rest) a w:=
 Co f rfl rfl hN (r_alloc hz) (fun a' f'=>k w.heap.size _ a' (by rw[hv];exact m.alloc u cs) f')
theorem AF (j i:Nat){b:Nat}{tt:TypeId}{cs:List Value}{u:TypeId}{xo:Operand}{c:Value}(m:Mem W G w H)(hp:Cm P u)(f:Fr a N L)(hN:Nat.blt d N=true)
  (hx:A2 L xo=some (.pointer (some ⟨b,i,none⟩))) (hj:H[j]? =some (.box b tt cs)) (hc:cs[i]? =some c)
  (k:∀a',Fr a' N ((d,c)::L)→wpList P ops (Qk n x r) rest a' w):
  wpList P ops (Qk n x r) (⟨some d,.load u xo,t,pos,af,none⟩::rest) a w:=
 Co f rfl rfl hN (EF (f.eval hx) hp (m.boxCell j hj hc)) k
theorem A5 (j i:Nat){b nn:Nat}{tt:TypeId}{cs ds:List Value}{u:TypeId}{xo:Operand}(m:Mem W G w H)(hp:Agg P u nn)(f:Fr a N L)(hN:Nat.blt d N=true)
  (hx:A2 L xo=some (.pointer (some ⟨b,i,none⟩))) (hj:H[j]? =some (.box b tt cs)) (hds:(cs.drop i).take nn=ds) (hl:ds.length=nn)
  (k:∀a',Fr a' N ((d,.agg ds.toArray)::L)→wpList P ops (Qk n x r) rest a' w):
  wpList P ops (Qk n x r) (⟨some d,.load u xo,t,pos,af,none⟩::rest) a w:=by
 refine Co f rfl rfl hN (r_loadAgg (f.eval hx) hp hl (fun j' v hv=> ?_)) k
 rw[BR]
 refine m.boxCell j hj ?_
 rw[←hds,List.getElem?_take] at hv
 split at hv
 ·rwa [List.getElem?_drop] at hv
 ·cases hv
theorem l_fieldAddr {b i:Nat}{s fi:Nat}{fs:Array Field}{fl:Field}{sz:Nat}{xo:Operand}(hs:P.underlying s=some (.struct fs))(hf:fs[fi]? =some fl)
  (hz:∀w,(sizeOf fl.type).run P w= .ok sz w) (hz0:sz≠0) (f:Fr a N L) (hN:Nat.blt d N=true) (hx:A2 L xo=some (.pointer (some ⟨b,i,none⟩)))
  (k:∀a',Fr a' N ((d,.pointer (some ⟨b,i+fl.offset,none⟩))::L)→wpList P ops (Qk n x r) rest a' w):
  wpList P ops (Qk n x r) (⟨some d,.fieldAddr s xo fi,t,pos,af,none⟩::rest) a w:=by
 refine Co f rfl rfl hN (Fs (f.eval hx) hs hf hz hz0) ?_
 rw[BR]
 exact k
theorem AS (j i:Nat){b:Nat}{tt:TypeId}{cs ds cs':List Value}{u:TypeId}{xo yo:Operand}{v:Value}(m:Mem W G w H)(hz:∀w,(sizeOf u).run P w= .ok ds.length w)(f:Fr a N L)
  (hx:A2 L xo=some (.pointer (some ⟨b,i,none⟩))) (hy:A2 L yo=some v) (hv:v.cells=ds.toArray) (h1:∀c∈ds,c.oneCell'=true) (hj:H[j]? =some (.box b tt cs))
  (hl:i+ds.length≤cs.length) (hcs:cs.take i++ds++cs.drop (i+ds.length)=cs')
  (k:∀w',Mem W G w' (H.set j (.box b tt cs'))→wpList P ops (Qk n x r) rest a w'):
  wpList P ops (Qk n x r) (⟨none,.store u xo yo,t,pos,af,none⟩::rest) a w:=by
 have hg:w.heap[b]? =some (.cells cs.toArray tt (0,0)):=m.items j _ hj
 have hsz:v.cells.size=ds.length:=by rw[hv];simp
 have hr:=r_store (P:=P) (ρ:=a.eval) (w:=w) (d:=none) (t:=t) (pos:=pos) (af:=af) (gd:=none) (u:=u) (off:=i) (f.eval hx) (f.eval hy) (by rw[hsz];exact hz) hg (by rw[hsz];simpa using hl) (by rw[hv];simpa using h1)
 refine l_void rfl rfl hr ?_
 rw[hsz,hv]
 simp only[]
 rw[hcs]
 exact k _ (m.boxStore j hj cs')
theorem Ow.at' {α:Type}{R:Rep α}{tt:TypeId}{G':GH}{it:Itm}{v:Value}{xs:List α}(h:Ow R tt G it v xs)(m:Mem W G' w H){j:Nat}(hj:H[j]? =some it){i:Int}{y:α}(hi:idx xs i=some y):
  ∃b c cur vs,it= .row v tt 1 xs.length vs∧v= .slice (some ⟨b,0,none⟩) xs.length c∧0≤i∧i<xs.length∧w.heap[b]? =some (.cells cur tt (0,0))∧xs.length≤c∧c≤maxLen∧cur.size=c∧cur.toList.take xs.length=vs∧All2 (R G) vs xs:=by
 obtain⟨h0,h1,h2⟩:=Dn hi
 obtain⟨vs,rfl,hA⟩:=h
 have ok:w.ownsRow 0 tt 1 v xs.length vs:=m.items j _ hj
 rcases ok.2 with⟨_,e2⟩|⟨g,cap,cur,e1,_,eh,e2,e3,e4,e5⟩
 ·omega
 ·exact⟨g,cap,cur,vs,rfl,e1,h0,h1,eh,e2,e3,by simpa using e4,by simpa using e5,hA⟩
def OwnAt (v p:Value)(i:Int):Prop:=∃b m c,v= .slice (some ⟨b,0,none⟩) m c∧p= .pointer (some ⟨b,i.toNat,none⟩)
theorem BB {α:Type}{R:Rep α}{tt:TypeId}{it:Itm}{v:Value}{xs:List α}{u e:Nat}{xo:Operand}(j:Nat)(m:Mem W G w H)(h:Ow R tt G it v xs)(hj:H[j]? =some it)
  (hu:P.underlying u=some (.slice e)) (f:Fr a N L) (hN:Nat.blt d N=true) (hx:A2 L xo=some v)
  (q:∀a',Fr a' N ((d,.int .i64 (xs.length:Int))::L)→wpList P ops (Qk n x r) rest a' w):
  wpList P ops (Qk n x r) (⟨some d,.call {callee:= .builtin .len,args:= #[xo],argTypes:= #[u]},t,pos,af,none⟩::rest) a w:=by
 obtain⟨b,c,rfl,_⟩:=h.len (m.front j hj)
 exact Co f rfl rfl hN (En (f.eval hx) hu) q
theorem AW {α:Type}{R:Rep α}{tt:TypeId}{it:Itm}{v:Value}{xs:List α}{u e bytes:Nat}{z:Value}{xo io:Operand}{k:IntKind}{i:Int}{y:α}(j:Nat)(m:Mem W G w H)(h:Ow R tt G it v xs)(hj:H[j]? =some it)
  (hu:SlT P u e 1 bytes z) (f:Fr a N L) (hN:Nat.blt d N=true) (hx:A2 L xo=some v) (hi:A2 L io=some (.int k i)) (he:idx xs i=some y)
  (q:∀p a',OwnAt v p i→Fr a' N ((d,p)::L)→wpList P ops (Qk n x r) rest a' w):
  wpList P ops (Qk n x r) (⟨some d,.indexAddr u xo io,t,pos,af,none⟩::rest) a w:=by
 obtain⟨b,c,cur,vs,rfl,rfl,h0,h1,hg,_⟩:=h.at' m hj he
 refine Co f rfl rfl hN (DJ (f.eval hx) (f.eval hi) hu h0 h1) fun a' f'=> ?_
 exact q _ a' ⟨b,_,c,rfl,by rw[BR,Nat.mul_one,Nat.zero_add]⟩ f'
theorem BL {α:Type}{R:Rep α}{tt:TypeId}{it:Itm}{v p:Value}{xs:List α}{u:Nat}{xo:Operand}{i:Int}{y:α}(j:Nat)(m:Mem W G w H)(h:Ow R tt G it v xs)(hj:H[j]? =some it)
  (hp:Cm P u) (f:Fr a N L) (hN:Nat.blt d N=true) (hx:A2 L xo=some p) (ha:OwnAt v p i) (he:idx xs i=some y)
  (q:∀c a',R G c y→Fr a' N ((d,c)::L)→wpList P ops (Qk n x r) rest a' w):
  wpList P ops (Qk n x r) (⟨some d,.load u xo,t,pos,af,none⟩::rest) a w:=by
 obtain⟨b,mm,c,e1,rfl⟩:=ha
 obtain⟨b',c',cur,vs,rfl,e2,h0,h1,hg,h2,h3,h4,h5,hA⟩:=h.at' m hj he
 rw[e2] at e1
 cases e1
 obtain⟨_,_,h6⟩:=Dn he
 obtain⟨cv,h7,hR⟩:=hA.get h6
 refine Co f rfl rfl hN (EF (f.eval hx) hp (c:=cv) ?_) (fun a' f'=>q cv a' hR f')
 rw[←h5,List.getElem?_take] at h7
 split at h7
 ·simp only[World.cell?,hg];simpa using h7
 ·cases h7
theorem Au {α:Type}{R:Rep α}{tt:TypeId}{it:Itm}{v p c:Value}{xs:List α}{u:Nat}{xo yo:Operand}{i:Int}{y y':α}(j:Nat)(m:Mem W G w H)(h:Ow R tt G it v xs)(hj:H[j]? =some it)
  (hz:∀w,(sizeOf u).run P w= .ok 1 w) (f:Fr a N L) (hx:A2 L xo=some p) (hy:A2 L yo=some c) (ha:OwnAt v p i) (he:idx xs i=some y) (hc:c.cells= #[c]) (h1c:c.oneCell'=true) (hR:R G c y')
  (q:∀it' w',Mem W G w' (H.set j it')→Ow R tt G it' v (xs.set i.toNat y')→wpList P ops (Qk n x r) rest a w'):
  wpList P ops (Qk n x r) (⟨none,.store u xo yo,t,pos,af,none⟩::rest) a w:=by
 obtain⟨b,mm,cc,e1,rfl⟩:=ha
 obtain⟨b',c',cur,vs,rfl,e2,h0,h1,hg,h2,h3,h4,h5,hA⟩:=h.at' m hj he
 rw[e2] at e1
 cases e1
 have hlt:i.toNat<xs.length:=by omega
 have hr:=r_store (P:=P) (ρ:=a.eval) (w:=w) (d:=none) (t:=t) (pos:=pos) (af:=af) (gd:=none) (u:=u) (off:=i.toNat) (f.eval hx) (f.eval hy) (by rw[hc];exact hz) hg (by rw[hc];simp;omega) (by rw[hc];simpa using h1c)
 refine l_void rfl rfl hr ?_
 rw[hc]
 simp only[List.size_toArray,List.length_cons,List.length_nil,Nat.zero_add]
 have hset:cur.toList.take i.toNat++[c]++cur.toList.drop (i.toNat+1)=cur.toList.set i.toNat c:=by
  rw[List.set_eq_take_append_cons_drop,if_pos (by simp;omega)];simp
 rw[hset]
 refine q (.row v tt 1 xs.length (vs.set i.toNat c)) _ (m.changeAt j hj rfl rfl rfl (fun z _ hz'=>setRow_other w b z _ (by simpa [Itm.foot,e2,Value.ownBlock] using hz')) ⟨by simp[←h5];omega,.inr ⟨b,cc,_,e2,Nat.zero_le _,setRow_heap w b cur _ tt _ hg,h2,h3,by simp[h4],?_⟩⟩ (fun z hz'=> .inl hz')) ⟨_,by simp,hA.set _ hR⟩
 simp only[Nat.mul_one]
 rw[←h5,List.take_set]
def Src (w:World)(v:Value)(n:Nat)(vs:List Value):Prop:=
 vs.length=n∧((v= .slice none 0 0∧n=0)∨∃a c,v= .slice (some a) n c∧(∀(j:Nat) u,vs[j]? =some u→w.cell? (a.add j)=some u))
def AV {α:Type}(xs ys:List α):Option (List α):=if xs.length+ys.length≤4294967296 then some (xs++ys) else none
theorem run_appended {α:Type}{R:Rep α}{tt ty u bytes:Nat}{z:Value}{it:Itm}{v s:Value}{xs ys zs:List α}(j:Nat)(m:Mem W G w H)(h:Ow R tt G it v xs)(hj:H[j]? =some it)
  (hu:SlT P u tt 1 bytes z) (hzc:z.cells.size=1) (hb:bytes≤32768) {vs:List Value} (hs:Src w s ys.length vs) (h1:∀c∈vs,c.oneCell'=true) (hA:All2 (R G) vs ys) (hz:AV xs ys=some zs):
  ∃it' v' w',(Builtin.append_ #[u,u] ty #[v,s]).run P w= .ok v' w'∧Mem W G w' (H.set j it')∧Ow R tt G it' v' zs:=by
 unfold AV at hz
 split at hz
 ·rename_i hle
  cases hz
  obtain⟨vs0,rfl,hA0⟩:=h
  obtain⟨ti,hi1,hi2,hi3,hi4⟩:=hu.info
  have ok:w.ownsRow 0 tt 1 v xs.length vs0:=m.items j _ hj
  rcases hs.2 with⟨rfl,h0⟩|⟨ad,c,rfl,hcells⟩
  ·have hys:ys=[]:=List.eq_nil_of_length_eq_zero h0
   subst hys
   have hr:=run_append_owned_none (P:=P) (w:=w) 0 u ty tt ti 1 hu.und hi1 v xs.length vs0 ok
   refine⟨.row v tt 1 (xs++[]).length vs0,v,w,hr,?_,vs0,rfl,by simpa using hA0⟩
   have:H.set j (.row v tt 1 (xs++[]).length vs0)=H:=by
    apply List.ext_getElem?
    intro k
    rw[List.getElem?_set]
    split
    ·rename_i e;subst e
     have hl:=(List.getElem?_eq_some_iff.1 hj).1
     simp[hl] at hj ⊢
     exact hj.symm
    ·rfl
   simp only[List.append_nil] at this ⊢
   rw[this];exact m
  ·have hbytes:(xs.length+ys.length)*bytes≤140737488355328:=by
    have:(xs.length+ys.length)*bytes≤4294967296*32768:=Nat.mul_le_mul hle hb
    omega
   have hnews:∀(k:Nat) q,vs[k]? =some q→w.cell? (ad.add k)=some q:=fun k q hk=>hcells k q hk
   have hl0:vs0.length=xs.length:=hA0.1
   have hlv:vs.length=ys.length:=hs.1
   have fresh:∀(old:Nat),old<xs.length+ys.length→
     Mem W G (w.drew.alloc (.cells (vs0.toArray++vs.toArray++Builtin.zeroCells z.cells (grownCap w (xs.length+ys.length) old tt-(xs.length+ys.length))) tt))
      (H.set j (.row (.slice (some ⟨w.heap.size,0,none⟩) (xs.length+ys.length) (grownCap w (xs.length+ys.length) old tt)) tt 1 (xs++ys).length (vs0++vs))):=by
    intro old hold
    have hge:=grownCap_ge w (xs.length+ys.length) old tt
    have hcm:grownCap w (xs.length+ys.length) old tt≤maxLen:=grownCap_le_maxLen w _ old tt (by simp only[maxLen];omega)
    refine m.changeAt j hj rfl rfl rfl (fun q hq _=>heap_alloc_old w.drew _ q hq) ⟨by simp[hl0,hlv],.inr ⟨w.heap.size,_,_,by simp,Nat.zero_le _,heap_alloc_new w.drew _,by simpa using hge,hcm,?_,?_⟩⟩ (fun q hq=> .inr ?_)
    ·simp only[Array.size_append,List.size_toArray,size_zeroCells,hzc,hl0,hlv,Nat.mul_one]
     omega
    ·simp only[Array.toList_append,List.append_assoc,List.length_append,Nat.mul_one]
     rw[←List.append_assoc,←hl0,←hlv,←List.length_append]
     exact List.take_left
    ·simp[Itm.foot,Value.ownBlock] at hq;omega
   rcases ok.2 with⟨rfl,e0⟩|⟨g,cap,cur,e1,_,eh,e2,e3,e4,e5⟩
   ·have hxs:xs=[]:=List.eq_nil_of_length_eq_zero e0
    subst hxs
    have hvs0:vs0=[]:=List.eq_nil_of_length_eq_zero hl0
    subst hvs0
    by_cases hy0:ys.length=0
    ·have hys:ys=[]:=List.eq_nil_of_length_eq_zero hy0
     subst hys
     have hvs:vs=[]:=List.eq_nil_of_length_eq_zero hlv
     subst hvs
     refine⟨.row (.slice none 0 0) tt 1 ([]++[]:List α).length [],.slice none 0 0,w,?_,?_,[],rfl,All2.nil _⟩
     ·simp[Builtin.append_,run_underlying hu.und,sizeOf,typeInfo,hi1,Builtin.lenOf,Builtin.firstCells,loadCells,loadCellsFrom]
     ·have:H.set j (.row (.slice none 0 0) tt 1 ([]++[]:List α).length [])=H:=by
       apply List.ext_getElem?
       intro k
       rw[List.getElem?_set]
       split
       ·rename_i e;subst e
        have hl:=(List.getElem?_eq_some_iff.1 hj).1
        simp[hl] at hj ⊢
        exact hj.symm
       ·rfl
      rw[this];exact m
    ·have hr:=run_append_nil (P:=P) w u ty tt ti z hu.und hi1 hi4 ad ys.length c vs (by rw[hlv,hi2,Nat.mul_one]) hnews (by omega) (by omega) (by
      rw[hi3]
      simp only[List.length_nil,Nat.zero_add] at hbytes;omega)
     have hfr:=fresh 0 (by simp;omega)
     simp only[List.length_nil,Nat.zero_add,List.nil_append,Array.empty_append] at hfr
     refine⟨_,_,_,hr,by simpa using hfr,vs,by simp,by simpa using hA⟩
   ·subst e1
    by_cases hroom:xs.length+ys.length≤cap
    ·have hr:=run_append_room (P:=P) w u ty tt ti hu.und hi1 g xs.length cap cur eh ad ys.length c vs (by rw[hlv,hi2,Nat.mul_one]) hnews h1 hroom (by rw[hi2,hlv];omega)
     refine⟨.row (.slice (some ⟨g,0,none⟩) (xs.length+ys.length) cap) tt 1 (xs++ys).length (vs0++vs),_,_,hr,m.changeAt j hj rfl rfl rfl (fun q _ hq=>setRow_other w g q _ (fun e=>hq (by simp[Itm.foot,Value.ownBlock,e])))
      ⟨by simp[hl0,hlv],.inr ⟨g,cap,_,by simp,Nat.zero_le _,setRow_heap w g cur _ tt _ eh,by simpa using hroom,e3,?_,?_⟩⟩ (fun q hq=> .inl (by simpa [Itm.foot,Value.ownBlock] using hq)),_,rfl,hA0.append hA⟩
     ·simp only[List.size_toArray,List.length_append,List.length_take,List.length_drop,Array.length_toList,hi2]
      omega
     ·simp only[hi2,Nat.mul_one] at e5 ⊢
      rw[e5,List.length_append,←hl0,←hlv,←List.length_append]
      exact List.take_left
    ·have holds:∀(k:Nat) q,vs0[k]? =some q→w.cell? ((⟨g,0,none⟩:Addr).add k)=some q:=World.ownsRow.cells ok (g:=g) rfl
     have hr:=run_append_grow (P:=P) w u ty tt ti z hu.und hi1 hi4 ⟨g,0,none⟩ xs.length cap vs0 (by rw[hl0,hi2,Nat.mul_one]) holds ad ys.length c vs (by rw[hlv,hi2,Nat.mul_one]) hnews (by omega) (by omega) (by rw[hi3];exact growslice_fits (by omega) hbytes)
     exact⟨_,_,_,hr,fresh cap (by omega),_,rfl,hA0.append hA⟩
 ·cases hz
end
end Go.Sx

set_option linter.unusedSimpArgs false
namespace Go.Sx
def RStr :Rep ByteArray:=fun _ v s=>v= .string s
theorem RStr.mono :Cv RStr:=fun _ _ _ _ _ h=>h
def One {α:Type}(R:Rep α):Prop:=∀G v x,R G v x→v.oneCell'=true∧v.cells= #[v]
theorem RI.one (k:IntKind):One (RI k):=fun _ v x h=>by cases h;exact⟨rfl,rfl⟩
theorem RB.one :One RB:=fun _ v x h=>by cases h;exact⟨rfl,rfl⟩
theorem RStr.one :One RStr:=fun _ v x h=>by cases h;exact⟨rfl,rfl⟩
theorem RSl.one {α:Type}(R:Rep α):One (RSl R):=fun _ v x h=>by obtain⟨a,c,rfl,_⟩:=h.len;exact⟨rfl,rfl⟩
theorem RSl.cells {α:Type}{R:Rep α}{G:GH}{v:Value}{xs:List α}(h:RSl R G v xs):v.cells= #[v]:=(RSl.one R _ _ _ h).2
theorem RSl.one1 {α:Type}{R:Rep α}{G:GH}{v:Value}{xs:List α}(h:RSl R G v xs):v.oneCell'=true:=(RSl.one R _ _ _ h).1
theorem Ow.cells {α:Type}{R:Rep α}{t:TypeId}{W w:World}{G:GH}{it:Itm}{H:List Itm}{v:Value}{xs:List α}(j:Nat)(m:Mem W G w H)(h:Ow R t G it v xs)(hj:H[j]? =some it):v.cells= #[v]:=by
 obtain⟨a,c,rfl,_⟩:=h.len (m.front j hj);rfl
theorem Ow.one1 {α:Type}{R:Rep α}{t:TypeId}{W w:World}{G:GH}{it:Itm}{H:List Itm}{v:Value}{xs:List α}(j:Nat)(m:Mem W G w H)(h:Ow R t G it v xs)(hj:H[j]? =some it):v.oneCell'=true:=by
 obtain⟨a,c,rfl,_⟩:=h.len (m.front j hj);rfl
theorem All2.ones {α:Type}{R:Rep α}(hO:One R){G:GH}{vs:List Value}{xs:List α}(h:All2 (R G) vs xs):∀c∈vs,c.oneCell'=true:=by
 intro c hc
 obtain⟨i,hi,rfl⟩:=List.mem_iff_getElem.1 hc
 have hx:i<xs.length:=by rw[←h.1];exact hi
 exact(hO _ _ _ (h.2 i vs[i] xs[i] (by simp[hi]) (by simp[hx]))).1
theorem RSl.src {α:Type}{R:Rep α}{W w:World}{G:GH}{H:List Itm}{v:Value}{xs:List α}(h:RSl R G v xs)(m:Mem W G w H):∃vs,Src w v xs.length vs∧All2 (R G) vs xs:=by
 obtain⟨vs,hA,h2⟩:=h
 refine⟨vs,⟨hA.1,?_⟩,hA⟩
 rcases h2 with⟨rfl,rfl⟩|⟨⟨b,off,sp⟩,cap,rfl,_,_,hc⟩
 ·exact .inl ⟨rfl,rfl⟩
 ·exact .inr ⟨_,cap,rfl,fun j u hu=>by
   obtain⟨rfl,h7⟩:=hc j u hu
   rw[BR];exact h7.get m⟩
theorem Ow.src {α:Type}{R:Rep α}{tt:TypeId}{W w:World}{G:GH}{H:List Itm}{it:Itm}{v:Value}{xs:List α}(h:Ow R tt G it v xs)(m:Mem W G w H){j:Nat}(hj:H[j]? =some it):∃vs,Src w v xs.length vs∧All2 (R G) vs xs:=by
 obtain⟨vs,rfl,hA⟩:=h
 refine⟨vs,⟨hA.1,?_⟩,hA⟩
 have ok:w.ownsRow 0 tt 1 v xs.length vs:=m.items j _ hj
 rcases ok.2 with⟨e1,e2⟩|⟨g,cap,cur,e1,_,eh,e2,e3,e4,e5⟩
 ·exact .inl ⟨e1,e2⟩
 ·refine .inr ⟨⟨g,0,none⟩,cap,e1,fun k u hu=> ?_⟩
  rw[BR]
  rw[←e5,List.getElem?_take] at hu
  split at hu
  ·simp only[World.cell?,eh,Nat.zero_add];simpa using hu
  ·cases hu
section
variable {P : Program} {ops : Array Oper} {rest l : List Oper} {n r : Bk} {x : List (Nat × Bk)} {a : Act} {w : World} {N : Nat} {L : Br}
variable {W : World} {G : GH} {H : List Itm}
variable {d : Nat} {t : TypeId} {pos : String} {af : Array Edge}
theorem r_append {ρ:Operand→Value}{s xo:Operand}{u:TypeId}{v y v':Value}{w':World}{dd:Option Tmp}{gd:Option (Nat×Bool)}(hs:ρ s=v)(hx:ρ xo=y)(h:(Builtin.append_ #[u,u] t #[v,y]).run P w= .ok v' w'):
  (execOp ρ ⟨dd,.call {callee:= .builtin .append,args:= #[s,xo],argTypes:= #[u,u]},t,pos,af,gd⟩).run P w= .ok (.value v') w':=by
 simp[execOp,resolve,invoke,builtin,hs,hx,h]
theorem Bo {α:Type}{R:Rep α}(hO:One R){tt u bytes:Nat}{z:Value}{it:Itm}{v y:Value}{xs ys zs:List α}{s xo:Operand}(j:Nat)(m:Mem W G w H)(h:Ow R tt G it v xs)(hj:H[j]? =some it)
  (hu:SlT P u tt 1 bytes z) (hzc:z.cells.size=1) (hb:bytes≤32768) (f:Fr a N L) (hN:Nat.blt d N=true) (hs:A2 L s=some v) (hx:A2 L xo=some y)
  (hsrc:∃vs,Src w y ys.length vs∧All2 (R G) vs ys) (hz:AV xs ys=some zs)
  (k:∀it' v' w' a',Mem W G w' (H.set j it')→Ow R tt G it' v' zs→Fr a' N ((d,v')::L)→wpList P ops (Qk n x r) rest a' w'):
  wpList P ops (Qk n x r) (⟨some d,.call {callee:= .builtin .append,args:= #[s,xo],argTypes:= #[u,u]},t,pos,af,none⟩::rest) a w:=by
 obtain⟨vs,h1,h2⟩:=hsrc
 obtain⟨it',v',w',hr,h3,h4⟩:=run_appended (P:=P) (ty:=t) j m h hj hu hzc hb h1 (h2.ones hO) h2 hz
 exact Co f rfl rfl hN (r_append (f.eval hs) (f.eval hx) hr) (fun a' f'=>k it' v' w' a' h3 h4 f')
def CX {α:Type}(z:α)(n c:Int):Option (List α):=if 0≤n∧n≤c∧c≤4294967296 then some (List.replicate n.toNat z) else none
theorem r_make {ρ:Operand→Value}{lo co:Operand}{u:TypeId}{v':Value}{v1 v2:Value}{w':World}{dd:Option Tmp}{gd:Option (Nat×Bool)}(hs:ρ lo=v1)(hx:ρ co=v2)(h:(Instr.makeSlice u v1 v2).run P w= .ok v' w'):
  (execOp ρ ⟨dd,.makeSlice u lo co,t,pos,af,gd⟩).run P w= .ok (.value v') w':=by
 simp[execOp,hs,hx,h]
theorem Da {α:Type}{R:Rep α}{tt u bytes:Nat}{z:Value}{zz:α}{k1 k2:IntKind}{nn cc:Int}{zs:List α}{lo co:Operand}(m:Mem W G w H)
  (hu:SlT P u tt 1 bytes z) (hzc:z.cells= #[z]) (hb:bytes≤32768) (hR:R G z zz) (f:Fr a N L) (hN:Nat.blt d N=true) (hs:A2 L lo=some (.int k1 nn)) (hx:A2 L co=some (.int k2 cc))
  (hz:CX zz nn cc=some zs)
  (k:∀it v w' a',Mem W G w' (it::H)→Ow R tt G it v zs→Fr a' N ((d,v)::L)→wpList P ops (Qk n x r) rest a' w'):
  wpList P ops (Qk n x r) (⟨some d,.makeSlice u lo co,t,pos,af,none⟩::rest) a w:=by
 unfold CX at hz
 split at hz
 ·rename_i hc
  obtain⟨h0,h1,h2⟩:=hc
  cases hz
  obtain⟨ti,hi1,hi2,hi3,hi4⟩:=hu.info
  have hr:=run_make (P:=P) w u tt ti z hu.und hi1 hi4 k1 k2 nn cc h0 h1 (by
   rw[hi3]
   have:(bytes:Int)*cc≤32768*4294967296:=Int.mul_le_mul (by omega) h2 (by omega) (by omega)
   omega) (by omega)
  have hcells:madeCells z.cells (cc.toNat*ti.size)=(List.replicate cc.toNat z).toArray:=by
   rw[hzc,hi2,Nat.mul_one]
   apply Array.ext
   ·simp[madeCells]
   ·intro i h1 h2
    simp[madeCells,Nat.mod_one]
  rw[hcells] at hr
  refine Co f rfl rfl hN (r_make (f.eval hs) (f.eval hx) hr) (fun a' f'=>k (.row (.slice (some ⟨w.heap.size,0,none⟩) nn.toNat cc.toNat) tt 1 (List.replicate nn.toNat zz).length (List.replicate nn.toNat z)) _ _ a' ?_ ⟨_,rfl,All2.replicate hR _⟩ f')
  refine m.add rfl rfl rfl (fun q hq=>heap_alloc_old w _ q hq) ⟨by simp,.inr ⟨w.heap.size,cc.toNat,_,by simp,Nat.zero_le _,heap_alloc_new w _,by simp;omega,by simp only[maxLen];omega,by simp,?_⟩⟩ (fun q hq=>by simp[Itm.foot,Value.ownBlock] at hq;omega)
  simp
  omega
 ·cases hz
def nums (k:Nat):List Value→List (Nat×Value)
 |[]=>[]
 |v::r=>(k,v)::nums (k+1) r
theorem fill_nums (vs:List Value)(h1:∀c∈vs,c.cells= #[c]):∀(k:Nat) (cells:Array Value),cells.size=k+vs.length→
  Instr.fill (fun i=>some (i*1,1)) cells (nums k vs)=some (cells.toList.take k++vs).toArray:=by
 induction vs with
 |nil=>
  intro k cells hk
  simp only[nums,Instr.fill,List.append_nil]
  rw[List.take_of_length_le (by simp at hk ⊢;omega)]
 |cons v r ih=>
  intro k cells hk
  have hv:=h1 v (by simp)
  simp only[List.length_cons] at hk
  have hfold:v.cells.zipIdx.foldl (fun cs (c,j)=>cs.setIfInBounds (k*1+j) c) cells=cells.setIfInBounds k v:=by
   rw[hv];simp
  have hstep:Instr.fill (fun i=>some (i*1,1)) cells (nums k (v::r))=Instr.fill (fun i=>some (i*1,1)) (cells.setIfInBounds k v) (nums (k+1) r):=by
   rw[nums,Instr.fill]
   simp only[]
   rw[if_neg (by rw[hv];simp;omega),hfold]
  rw[hstep,ih (fun c hc=>h1 c (by simp[hc])) (k+1) (cells.setIfInBounds k v) (by simp;omega)]
  congr 2
  simp only[Array.toList_setIfInBounds]
  rw[List.take_add_one,List.take_set_of_le (Nat.le_refl _)]
  have hlk:k<cells.size:=by omega
  simp[List.getElem?_set,hlk]
theorem r_slit {ρ:Operand→Value}{u tt bytes nn:Nat}{z:Value}{parts:Array (Nat×Operand)}{vs:List Value}{dd:Option Tmp}{gd:Option (Nat×Bool)}(hu:SlT P u tt 1 bytes z)
  (hp:(parts.map fun(i,x)=>(i,ρ x)).toList=nums 0 vs) (hl:vs.length=nn) (hn:nn≤16777216) (h1:∀c∈vs,c.cells= #[c]):
  (execOp ρ ⟨dd,.buildSlice u nn parts,t,pos,af,gd⟩).run P w= .ok (.value (.slice (some ⟨w.heap.size,0,none⟩) nn nn)) (w.alloc (.cells vs.toArray tt)):=by
 obtain⟨ti,hi1,hi2,hi3,hi4⟩:=hu.info
 subst hl
 have hsz:((Array.range (vs.length*1)).map (fun i=>(if vs.length*1=0 then #[] else z.cells)[i%(if vs.length*1=0 then #[] else z.cells).size]!)).size=0+vs.length:=by simp
 have hf:=fill_nums vs h1 0 _ hsz
 have hn':¬(16777216<vs.length):=by omega
 by_cases h0:vs.length=0
 ·have hvs:vs=[]:=List.eq_nil_of_length_eq_zero h0
  subst hvs
  simp only[nums,List.map_eq_nil_iff,Array.toList_map] at hp
  simp[execOp,Instr.buildSlice,run_underlying hu.und,sizeOf,typeInfo,hi1,hi2,hp,Instr.fill,newRow,Array.range_zero']
 ·simp only[h0,Nat.mul_one,if_false,List.take_zero,List.nil_append] at hf
  simp[execOp,Instr.buildSlice,run_underlying hu.und,sizeOf,typeInfo,zeroValue,hi1,hi2,hi4,h0,hn',newRow]
  simp only[Array.toList_map] at hp
  rw[hp,hf]
  rfl
theorem A8 {α:Type}{R:Rep α}(hO:One R){tt u bytes nn:Nat}{z:Value}{xs:List α}{parts:Array (Nat×Operand)}{vs:List Value}(m:Mem W G w H)
  (hu:SlT P u tt 1 bytes z) (f:Fr a N L) (hN:Nat.blt d N=true) (hp:evalAll L (parts.toList.map (·.2))=some vs) (hnum:parts.toList.map (·.1)=List.range nn) (hn:nn≤16777216)
  (hA:All2 (R G) vs xs)
  (k:∀it v w' a',Mem W G w' (it::H)→Ow R tt G it v xs→Fr a' N ((d,v)::L)→wpList P ops (Qk n x r) rest a' w'):
  wpList P ops (Qk n x r) (⟨some d,.buildSlice u nn parts,t,pos,af,none⟩::rest) a w:=by
 have hl:vs.length=nn:=by
  have h1:=congrArg List.length (f.evalAll hp)
  have h2:=congrArg List.length hnum
  simp at h1 h2
  omega
 have hlx:xs.length=nn:=by rw[←hA.1,hl]
 have hparts:∀(k:Nat) (ps:List (Nat×Operand)) (us:List Value),evalAll L (ps.map (·.2))=some us→ps.map (·.1)=List.range' k ps.length→ps.map (fun(i,x)=>(i,a.eval x))=nums k us:=by
  intro k ps
  induction ps generalizing k with
  |nil=>intro us h1 _;simp[evalAll] at h1;subst h1;rfl
  |cons p ps ih=>
   intro us h1 h2
   obtain⟨i,o⟩:=p
   simp only[List.map_cons,evalAll] at h1
   simp only[List.map_cons,List.length_cons,List.range'_succ,List.cons.injEq] at h2
   cases h3:A2 L o with
   |none=>simp[h3] at h1
   |some u0=>
    cases h4:evalAll L (ps.map (·.2)) with
    |none=>simp[h3,h4] at h1
    |some u1=>
     simp[h3,h4] at h1
     subst h1
     simp only[List.map_cons,nums]
     rw[ih (k+1) u1 h4 h2.2,h2.1,f.eval h3]
 have hp':(parts.map fun(i,x)=>(i,a.eval x)).toList=nums 0 vs:=by
  rw[Array.toList_map]
  refine hparts 0 parts.toList vs hp ?_
  have h2:=congrArg List.length hnum
  simp at h2
  rw[hnum,List.range_eq_range',←h2];simp
 have hr:=r_slit (P:=P) (ρ:=a.eval) (w:=w) (t:=t) (pos:=pos) (af:=af) (dd:=some d) (gd:=none) hu hp' hl hn (fun c hc=>by
  obtain⟨i,hi,rfl⟩:=List.mem_iff_getElem.1 hc
  have hx:i<xs.length:=by rw[←hA.1];exact hi
  exact(hO _ _ _ (hA.2 i vs[i] xs[i] (by simp[hi]) (by simp[hx]))).2)
 refine Co f rfl rfl hN hr (fun a' f'=>k (.row (.slice (some ⟨w.heap.size,0,none⟩) nn nn) tt 1 xs.length vs) _ _ a' ?_ ⟨vs,rfl,hA⟩ f')
 refine m.add rfl rfl rfl (fun q hq=>heap_alloc_old w _ q hq) ⟨by simp[hl,hlx],.inr ⟨w.heap.size,nn,_,by rw[hlx],Nat.zero_le _,heap_alloc_new w _,by omega,by simp only[maxLen];omega,by simp[hl],?_⟩⟩ (fun q hq=>by simp[Itm.foot,Value.ownBlock] at hq;omega)
 simp[hlx,←hl]
def CC {α:Type}(xs:List α)(lo hi:Int):Option (List α):=if 0≤lo∧lo≤hi∧hi≤xs.length then some ((xs.take hi.toNat).drop lo.toNat) else none
theorem EI {α:Type}{xs ys:List α}{lo hi:Int}(h:CC xs lo hi=some ys):0≤lo∧lo≤hi∧hi≤xs.length∧ys=(xs.take hi.toNat).drop lo.toNat∧ys.length=hi.toNat-lo.toNat:=by
 unfold CC at h
 split at h
 ·rename_i hc
  cases h
  refine⟨hc.1,hc.2.1,hc.2.2,rfl,?_⟩
  simp;omega
 ·cases h
theorem EA {ρ:Operand→Value}{u e sz bytes:Nat}{z:Value}{xo:Operand}{lo hi:Option Operand}{av:Option Addr}{nn c:Nat}{i j:Int}{dd:Option Tmp}{gd:Option (Nat×Bool)}(hu:SlT P u e sz bytes z)
  (hx:ρ xo= .slice av nn c) (hlo:(lo=none∧i=0)∨∃o k,lo=some o∧ρ o= .int k i) (hhi:(hi=none∧j=nn)∨∃o k,hi=some o∧ρ o= .int k j) (h0:0≤i) (h1:i≤j) (h2:j≤c):
  (execOp ρ ⟨dd,.slice u xo lo hi none,t,pos,af,gd⟩).run P w= .ok (.value (.slice (if c=i.toNat then av else av.map (·.add (i.toNat*sz))) (j.toNat-i.toNat) (c-i.toNat))) w:=by
 obtain⟨ti,hi1,hi2,hi3,hi4⟩:=hu.info
 have hj0:0≤j:=by omega
 have ej:(j.toNat:Int)=j:=by omega
 rcases hlo with⟨rfl,rfl⟩|⟨o,k,rfl,ho⟩
 ·rcases hhi with⟨rfl,rfl⟩|⟨o2,k2,rfl,ho2⟩
  ·simp[execOp,hx,Instr.sliceAt,Instr.slice,run_underlying hu.und,Instr.sliceBounds,sizeOf,typeInfo,hi1,hi2]
  ·simp[execOp,hx,ho2,Instr.sliceAt,Instr.slice,run_underlying hu.und,Instr.sliceBounds,Instr.sliceBound,asIntOf,hj0,h2,sizeOf,typeInfo,hi1,hi2]
 ·rcases hhi with⟨rfl,rfl⟩|⟨o2,k2,rfl,ho2⟩
  ·simp[execOp,hx,ho,Instr.sliceAt,Instr.slice,run_underlying hu.und,Instr.sliceBounds,Instr.sliceBound,asIntOf,h0,h1,sizeOf,typeInfo,hi1,hi2]
  ·simp[execOp,hx,ho,ho2,Instr.sliceAt,Instr.slice,run_underlying hu.und,Instr.sliceBounds,Instr.sliceBound,asIntOf,hj0,h2,h0,h1,ej,sizeOf,typeInfo,hi1,hi2]
theorem RSl.sub {α:Type}{R:Rep α}{G:GH}{av:Option Addr}{c:Nat}{xs ys:List α}{lo hi:Int}(h:RSl R G (.slice av xs.length c) xs)(hs:CC xs lo hi=some ys):
  RSl R G (.slice (if c=lo.toNat then av else av.map (·.add (lo.toNat*1))) (hi.toNat-lo.toNat) (c-lo.toNat)) ys∧hi≤c:=by
 obtain⟨h0,h1,h2,rfl,hl⟩:=EI hs
 obtain⟨vs,hA,h3⟩:=h
 rcases h3 with⟨e,rfl⟩|⟨⟨b,off,sp⟩,cap,e,h4,h5,h6⟩
 ·cases e
  simp only[List.length_nil] at h2
  have e1:lo=0:=by omega
  have e2:hi=0:=by omega
  subst e1;subst e2
  exact⟨⟨[],by simpa using All2.nil _,.inl ⟨by simp,by simp⟩⟩,by omega⟩
 ·cases e
  refine⟨⟨(vs.take hi.toNat).drop lo.toNat,(hA.take _).drop _,.inr ?_⟩,by omega⟩
  by_cases hc:c=lo.toNat
  ·refine⟨⟨b,off,sp⟩,c-lo.toNat,?_,?_,by omega,fun j u hu=> ?_⟩
   ·rw[if_pos hc,hl]
   ·rw[hl];omega
   ·exfalso
    have hj:=(List.getElem?_eq_some_iff.1 hu).1
    simp at hj;omega
  ·refine⟨(⟨b,off,sp⟩:Addr).add (lo.toNat*1),c-lo.toNat,?_,?_,by omega,fun j u hu=> ?_⟩
   ·rw[if_neg hc,hl];rfl
   ·rw[hl];omega
   ·rw[List.getElem?_drop,List.getElem?_take] at hu
    split at hu
    ·obtain⟨h7,h8⟩:=h6 _ _ hu
     subst h7
     rw[BR]
     refine⟨rfl,?_⟩
     rw[Nat.mul_one]
     rwa [Nat.add_assoc]
    ·cases hu
theorem l_slice {α:Type}{R:Rep α}{u e bytes:Nat}{z:Value}{v:Value}{xs ys:List α}{xo:Operand}{lo hi:Option Operand}{i j:Int}(hu:SlT P u e 1 bytes z)(f:Fr a N L)(hN:Nat.blt d N=true)
  (hx:A2 L xo=some v) (h:RSl R G v xs) (hlo:(lo=none∧i=0)∨∃o k,lo=some o∧A2 L o=some (.int k i)) (hhi:(hi=none∧j=xs.length)∨∃o k,hi=some o∧A2 L o=some (.int k j)) (hs:CC xs i j=some ys)
  (k:∀v' a',RSl R G v' ys→Fr a' N ((d,v')::L)→wpList P ops (Qk n x r) rest a' w):
  wpList P ops (Qk n x r) (⟨some d,.slice u xo lo hi none,t,pos,af,none⟩::rest) a w:=by
 obtain⟨av,c,rfl,h1,h2⟩:=h.len
 obtain⟨h3,h4,h5,_,_⟩:=EI hs
 obtain⟨h6,h7⟩:=h.sub hs
 refine Co f rfl rfl hN (EA (i:=i) (j:=j) hu (f.eval hx) ?_ ?_ h3 h4 h7) (fun a' f'=>k _ a' h6 f')
 ·rcases hlo with h|⟨o,kk,h8,h9⟩
  ·exact .inl h
  ·exact .inr ⟨o,kk,h8,f.eval h9⟩
 ·rcases hhi with h|⟨o,kk,h8,h9⟩
  ·exact .inl h
  ·exact .inr ⟨o,kk,h8,f.eval h9⟩
end
end Go.Sx

namespace Go.Sx
def Cl (W:World)(G:GH)(H:List Itm):World→Prop:=fun w=>∃G',GLe G G'∧Mem W G' w H
theorem Cl.sub {W w:World}{G G':GH}{Ho H:List Itm}(hG:GLe G G')(h:Cl W G' (Ho++H) w):Cl W G H w:=by
 obtain⟨G₂,h1,m⟩:=h
 exact⟨G₂,hG.trans h1,m.drop⟩
section
variable {P : Program} {ops : Array Oper} {Q : Go.Exit → Act → World → Prop} {T : Act → World → Prop} {W : World}
def AnyB (W:World)(P:Program)(ops:Array Oper)(Q:Go.Exit→Act→World→Prop)(T:Act→World→Prop)(B:List Itm):Nat→GH→List Itm→Array Bool→Act→Prop
 |0,G,E,_,a=>∀w,Cl W G (E++B) w→T a w
 |fuel+1,G,E,listed,a=>∀w,Cl W G (E++B) w→∀i∈Region.ready .any ops listed,
   wpOp P ops Q i (fun a' w'=>∃G' E',GLe G G'∧Cl W G' (E'++B) w'∧AnyB W P ops Q T B fuel G' E' (listed.setIfInBounds i true) a') a w
def Yl (W:World)(P:Program)(ops:Array Oper)(G:GH)(H:List Itm)(o:Oper)(v:Value)(a:Act):Prop:=
 (Region.wanted o (yielded ops a.tmps)=true∧∀G' Ho w,GLe G G'→Cl W G' (Ho++H) w→o.quietAt P a (Cl W G' (Ho++H)) w v)∨
 (Region.wanted o (yielded ops a.tmps)=false∧v=undef)
theorem Yl.up {G G':GH}{H:List Itm}{o:Oper}{v:Value}{a:Act}(h:Yl W P ops G H o v a)(hG:GLe G G'):Yl W P ops G' H o v a:=by
 rcases h with⟨h1,h2⟩|h
 ·exact .inl ⟨h1,fun G₂ Ho₂ w hG₂ hw=>h2 G₂ Ho₂ w (hG.trans hG₂) hw⟩
 ·exact .inr h
theorem Yl.of_same {G:GH}{H:List Itm}{o:Oper}{v:Value}{a a':Act}(hy:Yl W P ops G H o v a)(he:execOp a'.eval o=execOp a.eval o)
  (hw:Region.wanted o (yielded ops a'.tmps)=Region.wanted o (yielded ops a.tmps)):Yl W P ops G H o v a':=by
 unfold Yl Oper.quietAt at*
 rw[he,hw]
 exact hy
theorem Yl.go {G:GH}{E H:List Itm}{i:Nat}{o:Oper}{v:Value}{a:Act}{w:World}(hi:ops[i]? =some o)(hy:Yl W P ops G H o v a)(hw:Cl W G (E++H) w){K:Act→World→Prop}(h:∀w,Cl W G (E++H) w→K (a.put o.dst v) w):wpOp P ops Q i K a w:=by
 unfold Go.wpOp
 simp only[hi]
 rcases hy with⟨h1,h2⟩|⟨h1,rfl⟩
 ·simp only[h1,if_true]
  left
  have h3:=h2 G E w (GLe.refl G) hw
  unfold Oper.quietAt at h3
  unfold Oper.wp
  generalize (execOp a.eval o).run P w=r at*
  cases r with
  |ok n w'=>
   cases n<;>simp only[Oper.quietUpon] at h3<;>simp only[Oper.upon]
   case value u=>obtain⟨rfl,rfl⟩:=h3;exact h _ hw
   case skip=>obtain⟨rfl,rfl⟩:=h3;exact h _ hw
   case enter f args=>
    obtain⟨rfl,hc⟩:=h3
    exact hc.mono fun e w'' ⟨he,hw''⟩=>by subst he;exact h _ hw''
  |halt x w'=>simp only[Oper.quietUpon] at h3
 ·simp only[h1,Bool.false_eq_true,if_false]
  exact h _ hw
theorem Yl.put {G:GH}{H:List Itm}{j:Nat}{oi oj:Oper}{v:Value}(hj:ops[j]? =some oj)(hap:oi.apart ops oj=true)
  (hsi:∀cs b,oi.op≠ .select cs b) (hsj:∀cs b,oj.op≠ .select cs b)
  (hQ:∀c a w,¬Q (.panic c) a w) (hO:¬LetsOut Q) {K:Act→World→Prop} {a:Act} {w:World}
  (hy:Yl W P ops G H oi v a) (h:wpOp P ops Q j K (a.put oi.dst v) w):
  wpOp P ops Q j (fun a' w'=>Yl W P ops G H oi v a'∧K (a'.put oi.dst v) w') a w:=by
 obtain⟨h1,h2,h3⟩:=Oper.apart_spec hap
 have keep:∀(a:Act),Yl W P ops G H oi v a→∀u,Yl W P ops G H oi v (a.put oj.dst u):=fun a hy u=>
  hy.of_same (execOp_put oi hsi a oj.dst u h3) (wanted_put oi a oj.dst u h3)
 have keepd:∀(a:Act) (df:Deferred),Yl W P ops G H oi v a→Yl W P ops G H oi v {a with defers:=df::a.defers}:=fun a df hy=>
  hy.of_same rfl rfl
 have step:∀(u:Value) w',K ((a.put oi.dst v).put oj.dst u) w'→Yl W P ops G H oi v (a.put oj.dst u)∧K ((a.put oj.dst u).put oi.dst v) w':=fun u w' hk=>
  ⟨keep a hy u,by rw[←Act.put_comm a v u h2];exact hk⟩
 unfold Go.wpOp at*
 simp only[hj] at*
 rw[wanted_put oj a oi.dst v h1] at h
 split
 ·rename_i hw
  simp only[hw,if_true] at h
  rcases h with h|⟨_,h⟩
  ·left
   unfold Oper.wp at*
   rw[execOp_put oj hsj a oi.dst v h1] at h
   generalize (execOp a.eval oj).run P w=r at*
   cases r with
   |ok n w'=>
    cases n<;>simp only[Oper.upon] at h ⊢
    case value u=>exact step u _ h
    case skip=>exact step undef _ h
    case enter f args=>
     refine h.mono fun e w'' he=> ?_
     cases e with
     |returned u=>exact step u _ he
     |panicked c=>exact absurd he (hQ _ _ _)
     |outgrown=>exact absurd he hO
    case row rw args=>exact Rows.mono h fun u w'' he=>step u _ he
    case defer df=>
     have e1:({(a.put oi.dst v) with defers:=df::(a.put oi.dst v).defers}:Act)=({a with defers:=df::a.defers}:Act).put oi.dst v:=by
      cases oi.dst<;>rfl
     rw[e1,Act.put_comm _ v undef h2] at h
     exact⟨keep _ (keepd a df hy) undef,h⟩
   |halt x w'=>cases x<;>simp only[Oper.upon] at h ⊢;exact absurd h (hQ _ _ _)
  ·exact absurd h hO
 ·rename_i hw
  simp only[hw] at h
  exact step undef _ h
def unl (listed:Array Bool):Nat→Nat
 |0=>0
 |n+1=>unl listed n+if listed.getD n true then 0 else 1
theorem unl_set {listed:Array Bool}{j:Nat}(h:listed.getD j true=false):∀n,unl (listed.setIfInBounds j true) n+(if j<n then 1 else 0)=unl listed n
 |0=>by simp[unl]
 |n+1=>by
  have ih:=unl_set h n
  have hj:j<listed.size:=by
   rcases Nat.lt_or_ge j listed.size with h1|h1
   ·exact h1
   ·simp[Array.getElem?_eq_none h1] at h
  by_cases e:j=n
  ·subst e
   have e1:(listed.setIfInBounds j true).getD j true=true:=by simp[hj]
   simp only[unl,e1,h,if_true] at ih ⊢
   simp at ih ⊢
   omega
  ·have e1:(listed.setIfInBounds j true).getD n true=listed.getD n true:=getD_set_ne true e
   simp only[unl,e1]
   by_cases h2:j<n
   ·rw[if_pos h2] at ih;rw[if_pos (show j<n+1 from by omega)];omega
   ·rw[if_neg h2] at ih;rw[if_neg (show¬j<n+1 from by omega)];omega
theorem Fi {listed:Array Bool}:∀{n j:Nat},j<n→listed.getD j true=false→0<unl listed n
 |n+1,j,hj,h=>by
  simp only[unl]
  by_cases e:j=n
  ·subst e;simp[h]
  ·have:=Fi (listed:=listed) (n:=n) (j:=j) (by omega) h;omega
theorem unl_get {listed:Array Bool}:∀{n:Nat},0<unl listed n→∃j,j<n∧listed.getD j true=false∧∀k,k<j→listed.getD k true=true
 |n+1,h=>by
  simp only[unl] at h
  by_cases h1:0<unl listed n
  ·obtain⟨j,h2,h3⟩:=unl_get h1;exact⟨j,by omega,h3⟩
  ·have h0:unl listed n=0:=by omega
   refine⟨n,by omega,?_,fun k hk=> ?_⟩
   ·cases hg:listed.getD n true with
    |false=>rfl
    |true=>simp[hg] at h;omega
   ·cases hg:listed.getD k true with
    |true=>rfl
    |false=>have:=Fi hk hg;omega
def Du (ops:Array Oper)(t:Nat):List Nat:=match ops[t]? with
 |none=>[]
 |some o=>(o.after.toList.filter fun e=>Region.binds .any e).map (·.on)
def closeD (ops:Array Oper):Nat→List Nat→List Nat
 |0,S=>S
 |t+1,S=>closeD ops t (if S.contains t then S++(Du ops t).filter (fun i=> !S.contains i) else S)
def Dg (ops:Array Oper)(n:Nat)(base:List Nat):Bool:=
 Region.noSelect ops&&decide (n≤ops.size)&&(decide (n=ops.size)||(List.range n).all fun i=>base.contains i||(closeD ops n (Du ops n)).contains i)&&
 (List.range ops.size).all fun t=>match ops[t]? with
  |none=>false
  |some o=>(o.after.all fun e=> !Region.binds .any e||decide (e.on<t))&&
   (if t≤n then true else o.after.any fun e=>Region.binds .any e&&e.on==t-1)
structure Lst (ops:Array Oper)(n:Nat)(base:List Nat)(fuel:Nat)(listed:Array Bool):Prop where
 based:∀i∈base,listed.getD i true=true
 size:listed.size=ops.size
 count:unl listed n=fuel
 tail:∀t,n≤t→t<ops.size→listed.getD t true=false
 closed:∀(j:Nat),j<n→listed.getD j true=true→∀i∈Du ops j,listed.getD i true=true
theorem mem_depsOf {t i:Nat}{o:Oper}(ho:ops[t]? =some o):i∈Du ops t↔∃e∈o.after,Region.binds .any e=true∧e.on=i:=by
 simp only[Du,ho,List.mem_map,List.mem_filter,Array.mem_toList_iff]
 constructor
 ·rintro⟨e,⟨h1,h2⟩,h3⟩;exact⟨e,h1,h2,h3⟩
 ·rintro⟨e,h1,h2,h3⟩;exact⟨e,⟨h1,h2⟩,h3⟩
theorem closeD_all (p:Nat→Prop){ops:Array Oper}:∀(t:Nat) (S:List Nat),(∀i∈S,p i)→(∀j,j<t→p j→∀i∈Du ops j,p i)→∀i∈closeD ops t S,p i
 |0,S,hS,_=>hS
 |t+1,S,hS,hstep=>by
  unfold closeD
  refine closeD_all p t _ (fun i hi=> ?_) (fun j hj=>hstep j (by omega))
  split at hi
  ·rename_i hc
   rcases List.mem_append.1 hi with h|h
   ·exact hS i h
   ·exact hstep t (by omega) (hS t (by simpa using hc)) i (List.mem_filter.1 h).1
  ·exact hS i hi
theorem C6 {n:Nat}{base:List Nat}(h:Dg ops n base=true):Region.noSelect ops=true∧n≤ops.size∧∀t o,ops[t]? =some o→(∀e∈o.after,Region.binds .any e=true→e.on<t)∧
  (t=n→∀i,i<n→i∈base∨i∈closeD ops n (Du ops n))∧(n<t→∃e∈o.after,Region.binds .any e=true∧e.on=t-1):=by
 simp only[Dg,Bool.and_eq_true,decide_eq_true_eq,List.all_eq_true,List.mem_range,Bool.or_eq_true] at h
 refine⟨h.1.1.1,h.1.1.2,fun t o ho=> ?_⟩
 have ht:=(Array.getElem?_eq_some_iff.1 ho).1
 have h1:=h.2 t ht
 simp only[ho,Bool.and_eq_true] at h1
 refine⟨fun e he hb=> ?_,fun e i hi=> ?_,fun hn=> ?_⟩
 ·have:=Array.all_eq_true_iff_forall_mem.1 h1.1 e he
  simpa [hb] using this
 ·rcases h.1.2 with h2|h2
  ·omega
  ·simpa using h2 i hi
 ·have h2:=h1.2
  rw[if_neg (by omega)] at h2
  obtain⟨e,he,hb⟩:=Array.any_eq_true'.1 h2
  simp only[Bool.and_eq_true,beq_iff_eq] at hb
  exact⟨e,he,hb⟩
theorem EB {listed:Array Bool}{i:Nat}(h:listed.getD i true=false):listed.getD i false=false:=by
 rcases Nat.lt_or_ge i listed.size with h'|h'
 ·simp[h'] at h ⊢;exact h
 ·simp[Array.getElem?_eq_none h'] at h
theorem Lst.body {n fuel:Nat}{base:List Nat}{listed:Array Bool}(hb:Dg ops n base=true)(L:Lst ops n base (fuel+1) listed){j:Nat}(hj:j∈Region.ready .any ops listed):j<n:=by
 obtain⟨hun,o,ho,hall⟩:=mem_ready.1 hj
 obtain⟨_,hn,hs⟩:=C6 hb
 obtain⟨h1,h2,h3⟩:=hs j o ho
 have hjs:=(Array.getElem?_eq_some_iff.1 ho).1
 rcases Nat.lt_or_ge j n with h|h
 ·exact h
 ·exfalso
  obtain⟨i,hi,hi2,_⟩:=unl_get (listed:=listed) (n:=n) (by rw[L.count];omega)
  by_cases e:j=n
  ·have hc:=closeD_all (fun k=>listed.getD k true=true) n (Du ops n) (fun k hk=>by
    subst e
    obtain⟨ed,he,hbd,hon⟩:=(mem_depsOf ho).1 hk
    have:=hall ed he hbd
    cases hg:listed.getD k true with
    |true=>rfl
    |false=>rw[hon,EB hg] at this;cases this) (fun j' hj' hp=>L.closed j' hj' hp) i
   have hc:=(h2 e i hi).elim (L.based i) hc
   rw[hi2] at hc
   cases hc
  ·obtain⟨ed,he,hbd,hon⟩:=h3 (by omega)
   have:=hall ed he hbd
   rw[hon,EB (L.tail (j-1) (by omega) (by omega))] at this
   cases this
theorem Lst.set {n fuel:Nat}{base:List Nat}{listed:Array Bool}(hb:Dg ops n base=true)(L:Lst ops n base (fuel+1) listed){j:Nat}(hj:j∈Region.ready .any ops listed):Lst ops n base fuel (listed.setIfInBounds j true):=by
 have hjn:=L.body hb hj
 have hun:=(mem_ready.1 hj).1
 refine⟨fun i hi=>by
  by_cases e:j=i
  ·subst e;rw[L.based _ hi] at hun;cases hun
  ·rw[getD_set_ne true e];exact L.based i hi,by simp[L.size],?_,fun t h1 h2=>by rw[getD_set_ne true (by omega)];exact L.tail t h1 h2,fun j' hj' hl i hi=> ?_⟩
 rotate_left
 ·have mono:∀k,listed.getD k true=true→(listed.setIfInBounds j true).getD k true=true:=fun k hk=>by
   by_cases e:j=k
   ·subst e;rw[hk] at hun;cases hun
   ·rw[getD_set_ne true e];exact hk
  by_cases e:j=j'
  ·subst e
   obtain⟨_,o,ho,hall⟩:=mem_ready.1 hj
   obtain⟨ed,he,hbd,hon⟩:=(mem_depsOf ho).1 hi
   have:=hall ed he hbd
   refine mono i ?_
   cases hg:listed.getD i true with
   |true=>rfl
   |false=>rw[hon,EB hg] at this;cases this
  ·rw[getD_set_ne true e] at hl
   exact mono i (L.closed j' hj' hl i hi)
 have:=unl_set hun n
 rw[if_pos hjn,L.count] at this
 omega
theorem Lst.ready_ne {n fuel:Nat}{base:List Nat}{listed:Array Bool}(hb:Dg ops n base=true)(L:Lst ops n base (fuel+1) listed):Region.ready .any ops listed≠[]:=by
 obtain⟨_,hn,hs⟩:=C6 hb
 obtain⟨i,hi,hi2,hi3⟩:=unl_get (listed:=listed) (n:=n) (by rw[L.count];omega)
 have hlt:i<ops.size:=by omega
 have ho:ops[i]? =some ops[i]:=by simp[hlt]
 have:i∈Region.ready .any ops listed:=mem_ready.2 ⟨hi2,_,ho,fun e he hbd=>by
  have h1:=(hs i _ ho).1 e he hbd
  have h2:=hi3 e.on h1
  have h3:e.on<listed.size:=by rw[L.size];omega
  simp[h3] at h2 ⊢;exact h2⟩
 intro h
 rw[h] at this
 cases this
theorem AnyB.first {n i:Nat}{base:List Nat}{oi:Oper}{v:Value}{H:List Itm}(hi:ops[i]? =some oi)(hb:Dg ops n base=true)
  (hQ:∀c a w,¬Q (.panic c) a w) (hO:¬LetsOut Q):
  ∀(fuel:Nat) (G:GH) (E:List Itm) (listed:Array Bool) (a:Act),Lst ops n base (fuel+1) listed→
   (∀j oj,ops[j]? =some oj→j≠i→listed.getD j true=false→(∀e∈oj.after,Region.binds .any e=true→e.on≠i)→oi.apart ops oj=true)→
   i∈Region.ready .any ops listed→Yl W P ops G H oi v a→
   AnyB W P ops Q T H fuel G E (listed.setIfInBounds i true) (a.put oi.dst v)→AnyB W P ops Q T H (fuel+1) G E listed a:=by
 have hsel:=Region.noSelect_spec (C6 hb).1
 intro fuel
 induction fuel with
 |zero=>
  intro G E listed a L _ hr hy hH w hw j hj
  have hji:j=i:=by
   refine Decidable.byContradiction fun hne=> ?_
   have h1:=unl_set (mem_ready.1 hj).1 n
   have h2:=Fi (listed:=listed.setIfInBounds j true) (L.body hb hr) (by rw[getD_set_ne true hne];exact(mem_ready.1 hr).1)
   rw[if_pos (L.body hb hj),L.count] at h1
   omega
  subst hji
  exact hy.go hi hw (fun w' hw'=>⟨G,E,GLe.refl G,hw',hH⟩)
 |succ fuel ih=>
  intro G E listed a L hfree hr hy hH w hw j hj
  by_cases hji:j=i
  ·subst hji
   exact hy.go hi hw (fun w' hw'=>⟨G,E,GLe.refl G,hw',hH⟩)
  ·have h1:=hH w hw j (ready_mono hj hji)
   obtain⟨hjun,oj,hoj,hall⟩:=mem_ready.1 hj
   have hnot:∀e∈oj.after,Region.binds .any e=true→e.on≠i:=fun e he hbd heq=>by
    have h1:=hall e he hbd
    rw[heq,EB (mem_ready.1 hr).1] at h1
    cases h1
   have h2:=Yl.put hoj (hfree j oj hoj hji hjun hnot) (fun cs b=>hsel i oi cs b hi) (fun cs b=>hsel j oj cs b hoj) hQ hO hy h1
   have hfree':∀k ok,ops[k]? =some ok→k≠i→(listed.setIfInBounds j true).getD k true=false→
     (∀e∈ok.after,Region.binds .any e=true→e.on≠i)→oi.apart ops ok=true:=fun k ok hk hki hun hno=>by
    refine hfree k ok hk hki ?_ hno
    by_cases hjk:j=k
    ·subst hjk;exact hjun
    ·rw[getD_set_ne true hjk] at hun;exact hun
   refine wpOp_mono (fun a' w' ⟨hy',G',Ho,hG,hC,hA⟩=>⟨G',Ho,hG,hC,?_⟩) h2
   refine ih G' Ho (listed.setIfInBounds j true) a' (L.set hb hj) hfree' (ready_mono hr (Ne.symm hji)) (hy'.up hG) ?_
   rw[Array.setIfInBounds_comm _ _ hji]
   exact hA
theorem AnyB.sound {n:Nat}{base:List Nat}{B:List Itm}(hb:Dg ops n base=true)(k:Nat)(hT:∀(listed:Array Bool) a w,Lst ops n base 0 listed→T a w→wpAny P .any ops Q k listed a w):
  ∀(fuel:Nat) (G:GH) (H:List Itm) (listed:Array Bool) (a:Act) (w:World),Lst ops n base fuel listed→Cl W G (H++B) w→AnyB W P ops Q T B fuel G H listed a→wpAny P .any ops Q (fuel+k) listed a w
 |0,G,H,listed,a,w,L,hw,h=>by rw[Nat.zero_add];exact hT listed a w L (h w hw)
 |fuel+1,G,H,listed,a,w,L,hw,h=>by
  rw[show fuel+1+k=(fuel+k)+1 by omega]
  refine⟨fun h0=>absurd h0 (L.ready_ne hb),fun i hi=>wpOp_mono (fun a' w' ⟨G',Ho,hG,hC,hA⟩=> ?_) (h w hw i hi)⟩
  exact AnyB.sound hb k hT fuel G' Ho _ a' w' (L.set hb hi) hC hA
end
theorem unl_zero {listed:Array Bool}{n:Nat}(h:unl listed n=0):∀k,k<n→listed.getD k true=true:=fun k hk=>by
 cases hg:listed.getD k true with
 |true=>rfl
 |false=>have:=Fi hk hg;omega
theorem tail_list {P:Program}{ops:Array Oper}{Q:Go.Exit→Act→World→Prop}{n:Nat}{base:List Nat}(hb:Dg ops n base=true):
  ∀(k m:Nat) (listed:Array Bool) (a:Act) (w:World),n≤m→ops.size-m=k→m≤ops.size→listed.size=ops.size→(∀i,i<m→listed.getD i true=true)→(∀t,m≤t→t<ops.size→listed.getD t true=false)→
   wpList P ops Q (ops.toList.drop m) a w→wpAny P .any ops Q k listed a w:=by
 obtain⟨_,hn,hs⟩:=C6 hb
 intro k
 induction k with
 |zero=>
  intro m listed a w hnm hk hm hsz hl hu h
  have e:m=ops.size:=by omega
  subst e
  refine⟨?_,by rw[List.drop_eq_nil_of_le (by simp)] at h;exact h⟩
  rw[List.eq_nil_iff_forall_not_mem]
  intro j hj
  obtain⟨h0,o,ho,_⟩:=mem_ready.1 hj
  rw[hl j (Array.getElem?_eq_some_iff.1 ho).1] at h0
  cases h0
 |succ k ih=>
  intro m listed a w hnm hk hm hsz hl hu h
  have hlt:m<ops.size:=by omega
  have ho:ops[m]? =some ops[m]:=by simp[hlt]
  have hget:∀i,i<m→listed.getD i false=true:=fun i hi=>by
   have h1:=hl i hi
   have h2:i<listed.size:=by rw[hsz];omega
   simp[h2] at h1 ⊢;exact h1
  have hready:m∈Region.ready .any ops listed:=mem_ready.2 ⟨hu m (Nat.le_refl _) hlt,_,ho,fun e he hbd=>hget _ ((hs m _ ho).1 e he hbd)⟩
  refine⟨fun h0=>(by rw[h0] at hready;cases hready),fun j hj=> ?_⟩
  have hj2:=hj
  obtain⟨hun,oj,hoj,hall⟩:=mem_ready.1 hj2
  have hjs:=(Array.getElem?_eq_some_iff.1 hoj).1
  have hjm:j=m:=by
   rcases Nat.lt_trichotomy j m with h1|h1|h1
   ·rw[hl j h1] at hun;cases hun
   ·exact h1
   ·exfalso
    obtain⟨e,he,hbd,hon⟩:=(hs j oj hoj).2.2 (by omega)
    have:=hall e he hbd
    rw[hon,EB (hu (j-1) (by omega) (by omega))] at this
    cases this
  subst hjm
  rw[List.drop_eq_getElem_cons (by simpa using hlt)] at h
  have hstep:∀a w,wpList P ops Q (ops.toList.drop (j+1)) a w→wpAny P .any ops Q k (listed.setIfInBounds j true) a w:=fun a w h=>
   ih (j+1) _ a w (by omega) (by omega) (by omega) (by simp[hsz]) (fun i hi=>by
    by_cases e:j=i
    ·subst e;have:j<listed.size:=by rw[hsz];exact hlt
     simp[this]
    ·rw[getD_set_ne true e];exact hl i (by omega)) (fun t h1 h2=>by rw[getD_set_ne true (by omega)];exact hu t (by omega) h2) h
  have hel:ops.toList[j]'(by simpa using hlt)=ops[j]:=by simp
  rw[hel] at h
  unfold wpList at h
  unfold wpOp
  simp only[ho]
  split at h
  ·rename_i hw
   rw[if_pos hw]
   exact h.imp (Oper.wp_mono hstep) id
  ·rename_i hw
   rw[if_neg hw]
   exact hstep _ _ h
theorem AT {P : Program} {id : Nat} {l : List Oper} {nn r : Bk} {x : List (Nat × Bk)} {a : Act} {w W : World} {G : GH} {H : List Itm} (n : Nat) (hm : P.follows .mixedOrders = true) (hb : Dg l.toArray n [] = true) (m : Mem W G w H)
    (h : AnyB W P l.toArray (Qk nn x r) (fun a w => wpList P l.toArray (Qk nn x r) (l.drop n) a w) H n G [] (Array.replicate l.length false) a) : (Code.region id l.toArray true).wp P (Qk nn x r) a w := by
  have hn := (C6 hb).2.1
  refine wp_region_any hm ?_
  have hcl : Cl W G H { w with drawn := w.drawn + 1 } := ⟨G, GLe.refl G, m.congr rfl rfl rfl rfl⟩
  have hzero : ∀ k, (Array.replicate l.length false).getD k true = if k < l.length then false else true := fun k => by
    by_cases hk : k < l.length
    · simp [hk]
    · simp [hk]
  have hun : ∀ k, k ≤ l.length → unl (Array.replicate l.length false) k = k := by
    intro k
    induction k with
    | zero => intro _; rfl
    | succ k ih => intro hk; simp only [unl, ih (by omega), hzero]; rw [if_pos (show k < l.length from by omega)]; rfl
  have L : Lst l.toArray n [] n (Array.replicate l.length false) := ⟨by simp, by simp, hun n (by simpa using hn), fun t _ h2 => by rw [hzero, if_pos (by simpa using h2)], fun j hj hl => by
    rw [hzero, if_pos (by have : n ≤ l.length := by simpa using hn
                          omega)] at hl; cases hl⟩
  have := AnyB.sound (P := P) (W := W) (Q := Qk nn x r) hb (l.toArray.size - n) (T := fun a w => wpList P l.toArray (Qk nn x r) (l.drop n) a w) (fun listed a w L h =>
    tail_list hb (l.toArray.size - n) n listed a w (Nat.le_refl _) rfl hn L.size (unl_zero L.count) L.tail (by simpa using h)) n G [] _ a _ L hcl h
  have e : n + (l.toArray.size - n) = l.toArray.size := by omega
  rw [e] at this
  simpa using this
section
variable {P : Program} {ops : Array Oper} {nn r : Bk} {x : List (Nat × Bk)} {T : Act → World → Prop} {W : World} {G : GH} {E H : List Itm} {N : Nat} {L : Br} {a : Act} {fuel : Nat} {n : Nat} {listed listed' : Array Bool}
def pOf (n:Nat):Nat:=n%1000
def ED (n:Nat):List Nat:=(List.range (pOf n)).filter fun i=>(n/1000).testBit i
def lstB (ops:Array Oper)(n:Nat)(fuel:Nat)(listed:Array Bool):Bool:=
 Dg ops (pOf n) (ED n)&&((ED n).all fun i=>listed.getD i true)&&(listed.size==ops.size)&&(unl listed (pOf n)==fuel)&&((List.range ops.size).all fun t=>decide (t<(pOf n))|| !listed.getD t true)&&((List.range (pOf n)).all fun j=> !listed.getD j true||(Du ops j).all fun i=>listed.getD i true)
theorem lstB_spec (h:lstB ops n fuel listed=true):Dg ops (pOf n) (ED n)=true∧Lst ops (pOf n) (ED n) fuel listed:=by
 simp only[lstB,Bool.and_eq_true,beq_iff_eq,List.all_eq_true,List.mem_range,Bool.or_eq_true,decide_eq_true_eq,Bool.not_eq_true'] at h
 obtain⟨⟨⟨⟨⟨h1,h0⟩,h2⟩,h3⟩,h4⟩,h7⟩:=h
 exact⟨h1,h0,h2,h3,fun t ht1 ht2=>(h4 t ht2).resolve_left (by omega),fun j hj hl i hi=>by
  rcases h7 j hj with h|h
  ·rw[h] at hl;cases hl
  ·exact h i hi⟩
def BP (ops:Array Oper)(n:Nat)(fuel:Nat)(listed:Array Bool)(i:Nat):Bool:=
 lstB ops n (fuel+1) listed&&(Region.ready .any ops listed).contains i&&Region.free .any ops listed i
theorem Qk_panic {c:List PanicEntry}{a:Act}{w:World}:¬Qk nn x r (.panic c) a w:=fun h=>h
theorem Qk_out :¬LetsOut (Qk nn x r):=fun⟨_,_,h⟩=>h
theorem takeB_spec {i:Nat}(h:BP ops n fuel listed i=true):Dg ops (pOf n) (ED n)=true∧Lst ops (pOf n) (ED n) (fuel+1) listed∧i∈Region.ready .any ops listed∧Region.free .any ops listed i=true:=by
 simp only[BP,Bool.and_eq_true,List.contains_iff_mem] at h
 obtain⟨h1,h2⟩:=lstB_spec h.1.1
 exact⟨h1,h2,h.1.2,h.2⟩
theorem q_take {i:Nat}{o:Oper}{v:Value}(n:Nat)(hi:ops[i]? =some o)(hck:BP ops n fuel listed i=true)(hl:listed.setIfInBounds i true=listed')(hy:Yl W P ops G H o v a)
  (k:AnyB W P ops (Qk nn x r) T H fuel G E listed' (a.put o.dst v)):AnyB W P ops (Qk nn x r) T H (fuel+1) G E listed a:=by
 obtain⟨h1,h2,h3,h4⟩:=takeB_spec hck
 subst hl
 exact AnyB.first hi h1 (fun _ _ _=>Qk_panic) Qk_out fuel G E listed a h2 (Region.free_spec hi h4) h3 hy k
theorem AQ {j s:Nat}{b c:Bool}{o:Oper}(f:Fr a N L)(hg:o.guard=some (j,b))(hj:(ops[j]?).bind (·.dst)=some s)(hs:look L s=some (.bool c))(hc:c=b):
  Region.wanted o (yielded ops a.tmps)=true:=by
 have hy:=DZ (ops:=ops) f hj hs
 simp[Region.wanted,hg,hy,hc]
theorem DF {i d:Nat}{o:Oper}{v:Value}(n:Nat)(hi:ops[i]? =some o)(hck:BP ops n fuel listed i=true)(hl:listed.setIfInBounds i true=listed')(f:Fr a N L)(hw:Region.wanted o (yielded ops a.tmps)=true)(hd:o.dst=some d)(hN:Nat.blt d N=true)
  (hr:∀G' Ho w,GLe G G'→Mem W G' w (Ho++H)→(execOp a.eval o).run P w= .ok (.value v) w)
  (k:∀a',Fr a' N ((d,v)::L)→AnyB W P ops (Qk nn x r) T H fuel G E listed' a'):AnyB W P ops (Qk nn x r) T H (fuel+1) G E listed a:=by
 refine q_take n hi hck hl (.inl ⟨hw,fun G' Ho w hG ⟨G₂,h2,m⟩=> ?_⟩) (by rw[hd];exact k _ (f.put hN v))
 unfold Oper.quietAt
 rw[hr G₂ Ho w (hG.trans h2) m]
 exact⟨rfl,rfl⟩
theorem q_not {i j s d:Nat}{b c:Bool}{o:Oper}(n:Nat)(hi:ops[i]? =some o)(hck:BP ops n fuel listed i=true)(hl:listed.setIfInBounds i true=listed')(f:Fr a N L)(hg:o.guard=some (j,b))(hj:(ops[j]?).bind (·.dst)=some s)
  (hs:look L s=some (.bool c)) (hc:c= !b) (hd:o.dst=some d) (hN:Nat.blt d N=true)
  (k:∀a',Fr a' N ((d,undef)::L)→AnyB W P ops (Qk nn x r) T H fuel G E listed' a'):AnyB W P ops (Qk nn x r) T H (fuel+1) G E listed a:=by
 have hy:=DZ (ops:=ops) f hj hs
 refine q_take n hi hck hl (.inr ⟨?_,rfl⟩) (by rw[hd];exact k _ (f.put hN undef))
 simp only[Region.wanted,hg,hy,hc]
 cases b<;>rfl
theorem EU {j s:Nat}(f:Fr a N L)(hj:(ops[j]?).bind (·.dst)=some s)(hs:look L s=some undef):yielded ops a.tmps j=none:=by
 have h:=f.get s _ hs
 unfold yielded
 rw[hj]
 rcases Nat.lt_or_ge s a.tmps.size with h1|h1
 ·simp[Array.getD_eq_getD_getElem?,h1] at h
  simp[h1,h,undef]
 ·simp[Array.getElem?_eq_none h1]
theorem q_notU {i j s d:Nat}{b:Bool}{o:Oper}(n:Nat)(hi:ops[i]? =some o)(hck:BP ops n fuel listed i=true)(hl:listed.setIfInBounds i true=listed')(f:Fr a N L)(hg:o.guard=some (j,b))(hj:(ops[j]?).bind (·.dst)=some s)
  (hs:look L s=some undef) (hd:o.dst=some d) (hN:Nat.blt d N=true)
  (k:∀a',Fr a' N ((d,undef)::L)→AnyB W P ops (Qk nn x r) T H fuel G E listed' a'):AnyB W P ops (Qk nn x r) T H (fuel+1) G E listed a:=by
 have hy:=EU (ops:=ops) f hj hs
 refine q_take n hi hck hl (.inr ⟨?_,rfl⟩) (by rw[hd];exact k _ (f.put hN undef))
 simp[Region.wanted,hg,hy]
theorem Ec {rest:List Oper}{w:World}{d:Nat}{op:Op}{t:TypeId}{pos:String}{af:Array Edge}{j s:Nat}{b:Bool}(f:Fr a N L)(hN:Nat.blt d N=true)(hj:(ops[j]?).bind (·.dst)=some s)
  (hs:look L s=some undef) (k:∀a',Fr a' N ((d,undef)::L)→wpList P ops (Qk nn x r) rest a' w):
  wpList P ops (Qk nn x r) (⟨some d,op,t,pos,af,some (j,b)⟩::rest) a w:=by
 have hy:=EU (ops:=ops) f hj hs
 unfold wpList
 simp only[Region.wanted,hy]
 exact k _ (f.put hN undef)
theorem Bh {i d:Nat}{g:FuncId}{args:List Operand}{tys:Array TypeId}{vs:List Value}{t:TypeId}{pos:String}{af:Array Edge}{gd:Option (Nat×Bool)}{v:Value}(n:Nat)
  (hi:ops[i]? =some ⟨some d,.call {callee:= .value (.func g),args:=args.toArray,argTypes:=tys},t,pos,af,gd⟩) (hck:BP ops n fuel listed i=true) (hl:listed.setIfInBounds i true=listed') (f:Fr a N L)
  (hw:Region.wanted ⟨some d,.call {callee:= .value (.func g),args:=args.toArray,argTypes:=tys},t,pos,af,gd⟩ (yielded ops a.tmps)=true)
  (hN:Nat.blt d N=true) (hargs:evalAll L args=some vs) (hcall:∀(ars:Array Value) (w:World),(callFunc g ars).run P w= .ok (.enter g ars) w)
  (hc:∀G' Ho w,GLe G G'→Mem W G' w (Ho++H)→Calls P g vs.toArray w (Res W G' (Ho++H) fun _ Ho' v'=>Ho'=[]∧v'=v))
  (k:∀a',Fr a' N ((d,v)::L)→AnyB W P ops (Qk nn x r) T H fuel G E listed' a'):AnyB W P ops (Qk nn x r) T H (fuel+1) G E listed a:=by
 refine q_take n hi hck hl (.inl ⟨hw,fun G' Ho w hG ⟨G₂,h2,m⟩=> ?_⟩) (k _ (f.put hN v))
 have hargs':(args.toArray.map a.eval)=vs.toArray:=by rw[List.map_toArray,f.evalAll hargs]
 have hr:(execOp a.eval ⟨some d,.call {callee:= .value (.func g),args:=args.toArray,argTypes:=tys},t,pos,af,gd⟩).run P w= .ok (.enter g vs.toArray) w:=by
  simp only[execOp,resolve,Deferred.ofValue,Act.eval,Sem.run_bind,Sem.run_pure,Result.andThen_ok,invoke,hargs']
  have:=hcall vs.toArray w
  simpa using this
 unfold Oper.quietAt
 rw[hr]
 refine⟨rfl,(hc G₂ Ho w (hG.trans h2) m).mono fun e w' ⟨v',he,G₃,Ho',h3,m',h4,h5⟩=> ?_⟩
 subst h4 h5
 exact⟨he,G₃,h2.trans h3,m'⟩
def Step1 (W:World)(P:Program)(ops:Array Oper)(Q:Go.Exit→Act→World→Prop)(T:Act→World→Prop)(H:List Itm)(fuel:Nat)(G:GH)(E:List Itm)(listed:Array Bool)(a:Act)(i:Nat):Prop:=
 ∃o,ops[i]? =some o∧∀G₁ w,GLe G G₁→Mem W G₁ w (E++H)→∀K:Act→World→Prop,
  (∀G' E' a' w',GLe G₁ G'→Mem W G' w' (E'++H)→AnyB W P ops Q T H fuel G' E' (listed.setIfInBounds i true) a'→K a' w')→wpList P ops (Qk (fun a' w'=>K a' w') [] (fun _ _=>False)) [o] a w
theorem q_each {is:List Nat}(hready:Region.ready .any ops listed=is)(h:∀i∈is,Step1 W P ops (Qk nn x r) T H fuel G E listed a i):AnyB W P ops (Qk nn x r) T H (fuel+1) G E listed a:=by
 intro w ⟨G₁,h1,m⟩ i hi
 rw[hready] at hi
 obtain⟨o,ho,hs⟩:=h i hi
 have key:=hs G₁ w h1 m (fun a' w'=>∃G' E',GLe G G'∧Cl W G' (E'++H) w'∧AnyB W P ops (Qk nn x r) T H fuel G' E' (listed.setIfInBounds i true) a')
  (fun G' E' a' w' h2 m' hA=>⟨G',E',h1.trans h2,⟨G',GLe.refl _,m'⟩,hA⟩)
 unfold wpOp
 simp only[ho]
 unfold wpList at key
 split at key
 ·rename_i hw
  rw[if_pos hw]
  rcases key with key|⟨_,_,_,q⟩
  ·left
   unfold Oper.wp at*
   generalize (execOp a.eval o).run P w=res at*
   cases res with
   |ok n' w'=>
    cases n'<;>simp only[Oper.upon] at key ⊢<;>
     first
      |exact key
      |exact Calls.mono key (fun e w'' he=>by
        cases e
        ·exact he
        ·exact he.elim
        ·obtain⟨_,_,q⟩:=he;exact q.elim)
      |exact Rows.mono key (fun _ _ he=>he)
   |halt hh w'=>cases hh<;>simp only[Oper.upon] at key ⊢<;>exact key.elim
  ·exact q.elim
 ·rename_i hw
  rw[if_neg hw]
  exact key
theorem BD {i:Nat}{o:Oper}(hi:ops[i]? =some o)(hready:Region.ready .any ops listed=[i])(hl:listed.setIfInBounds i true=listed')
  (h:∀G₁ w,GLe G G₁→Mem W G₁ w (E++H)→∀K:Act→World→Prop,(∀G' E' a' w',GLe G₁ G'→Mem W G' w' (E'++H)→AnyB W P ops (Qk nn x r) T H fuel G' E' listed' a'→K a' w')→wpList P ops (Qk (fun a' w'=>K a' w') [] (fun _ _=>False)) [o] a w):
  AnyB W P ops (Qk nn x r) T H (fuel+1) G E listed a:=by
 subst hl
 refine q_each hready fun j hj=> ?_
 simp at hj;subst hj
 exact⟨o,hi,h⟩
theorem q_two {i j:Nat}{o o':Oper}{l1 l2:Array Bool}(hi:ops[i]? =some o)(hj:ops[j]? =some o')(hready:Region.ready .any ops listed=[i,j])(hl:listed.setIfInBounds i true=l1)(hl':listed.setIfInBounds j true=l2)
  (h:∀G₁ w,GLe G G₁→Mem W G₁ w (E++H)→∀K:Act→World→Prop,(∀G' E' a' w',GLe G₁ G'→Mem W G' w' (E'++H)→AnyB W P ops (Qk nn x r) T H fuel G' E' l1 a'→K a' w')→wpList P ops (Qk (fun a' w'=>K a' w') [] (fun _ _=>False)) [o] a w)
  (h':∀G₁ w,GLe G G₁→Mem W G₁ w (E++H)→∀K:Act→World→Prop,(∀G' E' a' w',GLe G₁ G'→Mem W G' w' (E'++H)→AnyB W P ops (Qk nn x r) T H fuel G' E' l2 a'→K a' w')→wpList P ops (Qk (fun a' w'=>K a' w') [] (fun _ _=>False)) [o'] a w):
  AnyB W P ops (Qk nn x r) T H (fuel+1) G E listed a:=by
 subst hl hl'
 refine q_each hready fun k hk=> ?_
 simp at hk
 rcases hk with rfl|rfl
 ·exact⟨o,hi,h⟩
 ·exact⟨o',hj,h'⟩
section
variable {t : TypeId} {pos : String} {af : Array Edge} {gd : Option (Nat × Bool)} {d i : Nat}
theorem Ei {α:Type}{R:Rep α}{v:Value}{xs:List α}{u e:Nat}{xo:Operand}(n:Nat)(hu:P.underlying u=some (.slice e))(h:RSl R G v xs)
  (hi:ops[i]? =some ⟨some d,.call {callee:= .builtin .len,args:= #[xo],argTypes:= #[u]},t,pos,af,gd⟩) (hck:BP ops n fuel listed i=true) (hl:listed.setIfInBounds i true=listed') (f:Fr a N L)
  (hw:Region.wanted ⟨some d,.call {callee:= .builtin .len,args:= #[xo],argTypes:= #[u]},t,pos,af,gd⟩ (yielded ops a.tmps)=true) (hN:Nat.blt d N=true) (hx:A2 L xo=some v)
  (k:∀a',Fr a' N ((d,.int .i64 (xs.length:Int))::L)→AnyB W P ops (Qk nn x r) T H fuel G E listed' a'):AnyB W P ops (Qk nn x r) T H (fuel+1) G E listed a:=by
 obtain⟨b,c,rfl,_⟩:=h.len
 exact DF n hi hck hl f hw rfl hN (fun _ _ _ _ _=>En (f.eval hx) hu) k
theorem q_own_len {α:Type}{R:Rep α}{tt:TypeId}{it:Itm}{v:Value}{xs:List α}{u e:Nat}{xo:Operand}{w₀:World}{G₀:GH}{H₀:List Itm}(n:Nat)(j:Nat)(m:Mem W G₀ w₀ H₀)(h:Ow R tt G it v xs)(hj:H₀[j]? =some it)(hu:P.underlying u=some (.slice e))
  (hi:ops[i]? =some ⟨some d,.call {callee:= .builtin .len,args:= #[xo],argTypes:= #[u]},t,pos,af,gd⟩) (hck:BP ops n fuel listed i=true) (hl:listed.setIfInBounds i true=listed') (f:Fr a N L)
  (hw:Region.wanted ⟨some d,.call {callee:= .builtin .len,args:= #[xo],argTypes:= #[u]},t,pos,af,gd⟩ (yielded ops a.tmps)=true) (hN:Nat.blt d N=true) (hx:A2 L xo=some v)
  (k:∀a',Fr a' N ((d,.int .i64 (xs.length:Int))::L)→AnyB W P ops (Qk nn x r) T H fuel G E listed' a'):AnyB W P ops (Qk nn x r) T H (fuel+1) G E listed a:=by
 obtain⟨b,c,rfl,_⟩:=h.len (m.front j hj)
 exact DF n hi hck hl f hw rfl hN (fun _ _ _ _ _=>En (f.eval hx) hu) k
theorem q_at {α:Type}{R:Rep α}{v:Value}{xs:List α}{u e bytes:Nat}{z:Value}{xo io:Operand}{k0:IntKind}{j:Int}{e':α}(n:Nat)(hu:SlT P u e 1 bytes z)(h:RSl R G v xs)(he:idx xs j=some e')
  (hi:ops[i]? =some ⟨some d,.indexAddr u xo io,t,pos,af,gd⟩) (hck:BP ops n fuel listed i=true) (hl:listed.setIfInBounds i true=listed') (f:Fr a N L)
  (hw:Region.wanted ⟨some d,.indexAddr u xo io,t,pos,af,gd⟩ (yielded ops a.tmps)=true) (hN:Nat.blt d N=true) (hx:A2 L xo=some v) (hio:A2 L io=some (.int k0 j))
  (k:∀p c a',At G p c→R G c e'→Fr a' N ((d,p)::L)→AnyB W P ops (Qk nn x r) T H fuel G E listed' a'):AnyB W P ops (Qk nn x r) T H (fuel+1) G E listed a:=by
 obtain⟨b,m,c,off,cv,rfl,h0,h1,hc,hR⟩:=h.at he
 refine DF n hi hck hl f hw rfl hN (fun _ _ _ _ _=>DJ (f.eval hx) (f.eval hio) hu h0 h1) fun a' f'=> ?_
 refine k _ cv a' ⟨b,off+j.toNat,?_,hc⟩ hR f'
 rw[BR,Nat.mul_one]
theorem q_loadAt {u:TypeId}{xo:Operand}{p c:Value}(n:Nat)(hp:Cm P u)(h:At G p c)
  (hi:ops[i]? =some ⟨some d,.load u xo,t,pos,af,gd⟩) (hck:BP ops n fuel listed i=true) (hl:listed.setIfInBounds i true=listed') (f:Fr a N L)
  (hw:Region.wanted ⟨some d,.load u xo,t,pos,af,gd⟩ (yielded ops a.tmps)=true) (hN:Nat.blt d N=true) (hx:A2 L xo=some p)
  (k:∀a',Fr a' N ((d,c)::L)→AnyB W P ops (Qk nn x r) T H fuel G E listed' a'):AnyB W P ops (Qk nn x r) T H (fuel+1) G E listed a:=by
 obtain⟨b,o,rfl,hc⟩:=h
 exact DF n hi hck hl f hw rfl hN (fun _ _ _ hG m=>EF (f.eval hx) hp ((hc.mono hG).get m)) k
theorem q_boxCell {b ix:Nat}{tt:TypeId}{cs:List Value}{u:TypeId}{xo:Operand}{c:Value}(n:Nat)(j:Nat)(hp:Cm P u)(hj:H[j]? =some (.box b tt cs))(hc:cs[ix]? =some c)
  (hi:ops[i]? =some ⟨some d,.load u xo,t,pos,af,gd⟩) (hck:BP ops n fuel listed i=true) (hl:listed.setIfInBounds i true=listed') (f:Fr a N L)
  (hw:Region.wanted ⟨some d,.load u xo,t,pos,af,gd⟩ (yielded ops a.tmps)=true) (hN:Nat.blt d N=true) (hx:A2 L xo=some (.pointer (some ⟨b,ix,none⟩)))
  (k:∀a',Fr a' N ((d,c)::L)→AnyB W P ops (Qk nn x r) T H fuel G E listed' a'):AnyB W P ops (Qk nn x r) T H (fuel+1) G E listed a:=
 DF n hi hck hl f hw rfl hN (fun _ _ _ _ m=>EF (f.eval hx) hp (m.drop.boxCell j hj hc)) k
theorem Bt {b ix nn':Nat}{tt:TypeId}{cs ds:List Value}{u:TypeId}{xo:Operand}(n:Nat)(j:Nat)(hp:Agg P u nn')(hj:H[j]? =some (.box b tt cs))(hds:(cs.drop ix).take nn'=ds)(hln:ds.length=nn')
  (hi:ops[i]? =some ⟨some d,.load u xo,t,pos,af,gd⟩) (hck:BP ops n fuel listed i=true) (hl:listed.setIfInBounds i true=listed') (f:Fr a N L)
  (hw:Region.wanted ⟨some d,.load u xo,t,pos,af,gd⟩ (yielded ops a.tmps)=true) (hN:Nat.blt d N=true) (hx:A2 L xo=some (.pointer (some ⟨b,ix,none⟩)))
  (k:∀a',Fr a' N ((d,.agg ds.toArray)::L)→AnyB W P ops (Qk nn x r) T H fuel G E listed' a'):AnyB W P ops (Qk nn x r) T H (fuel+1) G E listed a:=by
 refine DF n hi hck hl f hw rfl hN (fun _ _ _ _ m=>r_loadAgg (f.eval hx) hp hln (fun j' v hv=> ?_)) k
 rw[BR]
 refine m.drop.boxCell j hj ?_
 rw[←hds,List.getElem?_take] at hv
 split at hv
 ·rwa [List.getElem?_drop] at hv
 ·cases hv
theorem q_fieldAddr {b ix:Nat}{s fi:Nat}{fs:Array Field}{fl:Field}{sz:Nat}{xo:Operand}(n:Nat)(hs:P.underlying s=some (.struct fs))(hf:fs[fi]? =some fl)
  (hz:∀w,(sizeOf fl.type).run P w= .ok sz w) (hz0:sz≠0)
  (hi:ops[i]? =some ⟨some d,.fieldAddr s xo fi,t,pos,af,gd⟩) (hck:BP ops n fuel listed i=true) (hl:listed.setIfInBounds i true=listed') (f:Fr a N L)
  (hw:Region.wanted ⟨some d,.fieldAddr s xo fi,t,pos,af,gd⟩ (yielded ops a.tmps)=true) (hN:Nat.blt d N=true) (hx:A2 L xo=some (.pointer (some ⟨b,ix,none⟩)))
  (k:∀a',Fr a' N ((d,.pointer (some ⟨b,ix+fl.offset,none⟩))::L)→AnyB W P ops (Qk nn x r) T H fuel G E listed' a'):AnyB W P ops (Qk nn x r) T H (fuel+1) G E listed a:=by
 refine DF n hi hck hl f hw rfl hN (fun _ _ _ _ _=>Fs (f.eval hx) hs hf hz hz0) ?_
 rw[BR]
 exact k
theorem q_own_at {α:Type}{R:Rep α}{tt:TypeId}{it:Itm}{v:Value}{xs:List α}{u e bytes:Nat}{z:Value}{xo io:Operand}{k0:IntKind}{jx:Int}{y:α}{w₀:World}{G₀:GH}{H₀:List Itm}(n:Nat)(j:Nat)(m:Mem W G₀ w₀ H₀)(h:Ow R tt G it v xs)(hj:H₀[j]? =some it)
  (hu:SlT P u e 1 bytes z) (he:idx xs jx=some y)
  (hi:ops[i]? =some ⟨some d,.indexAddr u xo io,t,pos,af,gd⟩) (hck:BP ops n fuel listed i=true) (hl:listed.setIfInBounds i true=listed') (f:Fr a N L)
  (hw:Region.wanted ⟨some d,.indexAddr u xo io,t,pos,af,gd⟩ (yielded ops a.tmps)=true) (hN:Nat.blt d N=true) (hx:A2 L xo=some v) (hio:A2 L io=some (.int k0 jx))
  (k:∀p a',OwnAt v p jx→Fr a' N ((d,p)::L)→AnyB W P ops (Qk nn x r) T H fuel G E listed' a'):AnyB W P ops (Qk nn x r) T H (fuel+1) G E listed a:=by
 obtain⟨b,c,cur,vs,rfl,rfl,h0,h1,hg,_⟩:=h.at' m hj he
 refine DF n hi hck hl f hw rfl hN (fun _ _ _ _ _=>DJ (f.eval hx) (f.eval hio) hu h0 h1) fun a' f'=> ?_
 exact k _ a' ⟨b,_,c,rfl,by rw[BR,Nat.mul_one,Nat.zero_add]⟩ f'
theorem q_own_load {α:Type}{R:Rep α}{tt:TypeId}{it:Itm}{v p:Value}{xs:List α}{u:Nat}{xo:Operand}{jx:Int}{y:α}(n:Nat)(j:Nat)(h:Ow R tt G it v xs)(hj:H[j]? =some it)
  (hp:Cm P u) (ha:OwnAt v p jx) (he:idx xs jx=some y)
  (hi:ops[i]? =some ⟨some d,.load u xo,t,pos,af,gd⟩) (hck:BP ops n fuel listed i=true) (hl:listed.setIfInBounds i true=listed') (f:Fr a N L)
  (hw:Region.wanted ⟨some d,.load u xo,t,pos,af,gd⟩ (yielded ops a.tmps)=true) (hN:Nat.blt d N=true) (hx:A2 L xo=some p)
  (k:∀c a',R G c y→Fr a' N ((d,c)::L)→AnyB W P ops (Qk nn x r) T H fuel G E listed' a'):AnyB W P ops (Qk nn x r) T H (fuel+1) G E listed a:=by
 obtain⟨b,mm,c,e1,rfl⟩:=ha
 obtain⟨vs,rfl,hA⟩:=h
 obtain⟨h0,h1,h2⟩:=Dn he
 obtain⟨cv,h7,hR⟩:=hA.get h2
 refine DF (v:=cv) n hi hck hl f hw rfl hN (fun _ _ w _ m=>EF (f.eval hx) hp ?_) (fun a' f'=>k cv a' hR f')
 have ok:w.ownsRow 0 tt 1 v xs.length vs:=m.drop.items j _ hj
 rcases ok.2 with⟨e2,e3⟩|⟨g,cap,cur,e2,_,eh,e4,e5,e6,e7⟩
 ·omega
 ·rw[e2] at e1
  cases e1
  rw[←e7,List.getElem?_take] at h7
  split at h7
  ·simp only[World.cell?,eh];simpa using h7
  ·cases h7
end
theorem q_slice {α:Type}{R:Rep α}{u e bytes d i:Nat}{t:TypeId}{pos:String}{af:Array Edge}{gd:Option (Nat×Bool)}{z:Value}{v:Value}{xs ys:List α}{xo:Operand}{lo hi:Option Operand}{i1 j1:Int}(n:Nat)(hu:SlT P u e 1 bytes z)(h:RSl R G v xs)
  (hs:CC xs i1 j1=some ys)
  (hi':ops[i]? =some ⟨some d,.slice u xo lo hi none,t,pos,af,gd⟩) (hck:BP ops n fuel listed i=true) (hl:listed.setIfInBounds i true=listed') (f:Fr a N L)
  (hw:Region.wanted ⟨some d,.slice u xo lo hi none,t,pos,af,gd⟩ (yielded ops a.tmps)=true) (hN:Nat.blt d N=true) (hx:A2 L xo=some v)
  (hlo:(lo=none∧i1=0)∨∃o k,lo=some o∧A2 L o=some (.int k i1)) (hhi:(hi=none∧j1=xs.length)∨∃o k,hi=some o∧A2 L o=some (.int k j1))
  (k:∀v' a',RSl R G v' ys→Fr a' N ((d,v')::L)→AnyB W P ops (Qk nn x r) T H fuel G E listed' a'):AnyB W P ops (Qk nn x r) T H (fuel+1) G E listed a:=by
 obtain⟨av,c,rfl,h1,h2⟩:=h.len
 obtain⟨h3,h4,h5,_,_⟩:=EI hs
 obtain⟨h6,h7⟩:=h.sub hs
 refine DF n hi' hck hl f hw rfl hN (fun _ _ _ _ _=>EA (i:=i1) (j:=j1) hu (f.eval hx) ?_ ?_ h3 h4 h7) (fun a' f'=>k _ a' h6 f')
 ·rcases hlo with h|⟨o,kk,h8,h9⟩
  ·exact .inl h
  ·exact .inr ⟨o,kk,h8,f.eval h9⟩
 ·rcases hhi with h|⟨o,kk,h8,h9⟩
  ·exact .inl h
  ·exact .inr ⟨o,kk,h8,f.eval h9⟩
theorem Res.stamp {P:Program}{g:FuncId}{args:Array Value}{w:World}{α:Type}{R:Rep α}(hR:Cv R){t:TypeId}{xs:List α}
  (h:Calls P g args w (Res W G H fun G' Ho v=>∃r it,Ho=[it]∧r=v∧Ow R t G' it r xs)):Calls P g args w (Res W G H fun G' Ho v=>Ho=[]∧RSl R G' v xs):=by
 refine h.mono fun e w' ⟨v,he,G',Ho,h1,m,r,it,e1,e2,o⟩=> ?_
 subst e1 e2
 obtain⟨G'',h2,m2,h3⟩:=o.stamp hR m
 exact⟨r,he,G'',[],h1.trans h2,m2,rfl,h3⟩
theorem BN {fuel':Nat}{listed':Array Bool}(Mid:Act→Prop)(k:∀a,Mid a→AnyB W P ops (Qk nn x r) T H fuel' G E listed' a)
  (h:(∀a,Mid a→AnyB W P ops (Qk nn x r) T H fuel' G E listed' a)→AnyB W P ops (Qk nn x r) T H fuel G E listed a):AnyB W P ops (Qk nn x r) T H fuel G E listed a:=h k
theorem AI (h:∀G₁ w,GLe G G₁→Mem W G₁ w (E++H)→T a w):AnyB W P ops (Qk nn x r) T H 0 G E listed a:=fun w ⟨G₁,h1,m⟩=>h G₁ w h1 m
end
def PAny (W:World)(P:Program)(ops:Array Oper)(Q:Go.Exit→Act→World→Prop)(fuel:Nat)(G:GH)(H:List Itm)(listed:Array Bool)(a:Act):Prop:=
 ∀w,Cl W G H w→wpAny P .any ops Q fuel listed a w
theorem Bv {P:Program}{id:Nat}{l:List Oper}{nn r:Bk}{x:List (Nat×Bk)}{a:Act}{w W:World}{G:GH}{H:List Itm}(hm:P.follows .mixedOrders=true)(m:Mem W G w H)
  (h:PAny W P l.toArray (Qk nn x r) l.length G H (Array.replicate l.length false) a):(Code.region id l.toArray true).wp P (Qk nn x r) a w:=by
 refine wp_region_any hm ?_
 have hcl:Cl W G H {w with drawn:=w.drawn+1}:=⟨G,GLe.refl G,m.congr rfl rfl rfl rfl⟩
 simpa using h _ hcl
section
variable {P : Program} {ops : Array Oper} {nn r : Bk} {x : List (Nat × Bk)} {W : World} {G : GH} {H : List Itm} {N : Nat} {L : Br} {a : Act} {fuel : Nat} {listed listed' : Array Bool}
theorem p_op {i d:Nat}{o:Oper}{v:Value}(hi:ops[i]? =some o)(hck:(Region.noSelect ops&&Region.free .any ops listed i&&(Region.ready .any ops listed).contains i)=true)(hl:listed.setIfInBounds i true=listed')(f:Fr a N L)(hg:o.guard=none)(hd:o.dst=some d)(hN:Nat.blt d N=true)
  (hr:∀w,(execOp a.eval o).run P w= .ok (.value v) w)
  (k:∀a',Fr a' N ((d,v)::L)→PAny W P ops (Qk nn x r) fuel G H listed' a'):PAny W P ops (Qk nn x r) (fuel+1) G H listed a:=by
 intro w hw
 subst hl
 simp only[Bool.and_eq_true] at hck
 refine wpAny_take hi hck.1.1 hck.1.2 hck.2 (fun _ _ _ h=>h.elim) (.inl ⟨by simp[Region.wanted,hg],hr⟩) ?_
 rw[hd]
 exact k _ (f.put hN v) w hw
theorem Bu (n:Nat)(m:Nat)(hck:lstB ops n m listed=true)(hf:fuel=m+(ops.size-(pOf n)))
  (h:AnyB W P ops (Qk nn x r) (fun a w=>wpList P ops (Qk nn x r) (ops.toList.drop (pOf n)) a w) H m G [] listed a):PAny W P ops (Qk nn x r) fuel G H listed a:=by
 intro w hw
 obtain⟨hb,L⟩:=lstB_spec hck
 have hn:=(C6 hb).2.1
 subst hf
 exact AnyB.sound hb (ops.size-(pOf n)) (T:=fun a w=>wpList P ops (Qk nn x r) (ops.toList.drop (pOf n)) a w) (fun listed a w L h=>
  tail_list hb (ops.size-(pOf n)) (pOf n) listed a w (Nat.le_refl _) rfl hn L.size (unl_zero L.count) L.tail h) m G [] listed a w L hw h
end
end Go.Sx

namespace Go.Sx
def tupleOf :List Value→Value
 |[v]=>v
 |vs=> .tuple vs.toArray
theorem A3 :∀c∈([]:List Value),c.oneCell'=true:=by simp
theorem AN {c:Value}{cs:List Value}(h:c.oneCell'=true)(h':∀c∈cs,c.oneCell'=true):∀x∈c::cs,x.oneCell'=true:=by
 intro x hx;rcases List.mem_cons.1 hx with rfl|hx
 ·exact h
 ·exact h' x hx
def Free {α:Type}(R:Rep α):Prop:=∀G G' v x,R G v x→R G' v x
theorem RI.free (k:IntKind):Free (RI k):=fun _ _ _ _ h=>h
theorem RB.free :Free RB:=fun _ _ _ _ h=>h
theorem RStr.free :Free RStr:=fun _ _ _ _ h=>h
theorem Ow.free {α:Type}{R:Rep α}(hR:Free R){t:TypeId}{G:GH}(G':GH){it:Itm}{v:Value}{xs:List α}(h:Ow R t G it v xs):Ow R t G' it v xs:=by
 obtain⟨vs,h1,h2⟩:=h
 exact⟨vs,h1,h2.mono (fun v x=>hR G G' v x)⟩
theorem At.mono {G G':GH}(h:GLe G G'){p c:Value}(k:At G p c):At G' p c:=by
 obtain⟨b,o,e,hc⟩:=k
 exact⟨b,o,e,hc.mono h⟩
theorem Ow.lendCall {P:Program}{g:FuncId}{args:Array Value}{α:Type}{R:Rep α}(hR:Cv R){t:TypeId}{W w:World}{G:GH}{it:Itm}{H:List Itm}{v:Value}{xs:List α}{Q:GH→List Itm→Value→Prop}(j:Nat)
  (h:Ow R t G it v xs) (m:Mem W G w H) (hj:H[j]? =some it)
  (hc:∀G₁,GLe G G₁→Mem W G₁ w (H.eraseIdx j)→RSl R G₁ v xs→Calls P g args w (Res W G₁ (H.eraseIdx j) Q)) (hQ:∀G G' Ho v,Q G Ho v→Q G' Ho v):Calls P g args w (Res W G H Q):=by
 obtain⟨G₁,h1,m1,h2,back⟩:=h.lend hR (m.front j hj)
 refine(hc G₁ h1 m1 h2).mono fun e w' ⟨r,he,G₂,Ho,h3,m2,hq⟩=> ?_
 obtain⟨G₃,h4,m3,_⟩:=back G₂ w' _ h3 m2
 refine⟨r,he,G₃,Ho,h4,?_,hQ _ _ _ _ hq⟩
 have hl:j<H.length:=(List.getElem?_eq_some_iff.1 hj).1
 have m4:=m3.back (Ho.length+j) (by simp[List.length_eraseIdx,hl];omega)
 have e:(Ho++H.eraseIdx j).take (Ho.length+j)++it::(Ho++H.eraseIdx j).drop (Ho.length+j)=Ho++H:=by
  rw[List.take_length_add_append,List.drop_length_add_append,List.append_assoc]
  congr 1
  rw[Ds H j it hl]
  apply List.ext_getElem?
  intro k
  rw[List.getElem?_set]
  split
  ·rename_i e;subst e;simp[hl] at hj ⊢;exact hj.symm
  ·rfl
 rwa [e] at m4
end Go.Sx

namespace Go.Sx
theorem Do {α:Type}{c:Bool}{q:Option α}{y:α}(h:cond c none q=some y):c=false∧q=some y:=by
 cases c
 ·exact⟨rfl,h⟩
 ·cases h
theorem lookRight {α:Type}{Ho H:List α}{j:Nat}{x:α}(h:H[j]? =some x):(Ho++H)[Ho.length+j]? =some x:=by
 rw[List.getElem?_append_right (by omega)];simpa using h
theorem CB {k:IntKind}{n:Int}:(Value.int k n).cells= #[.int k n]:=rfl
theorem Cq {b:Bool}:(Value.bool b).cells= #[.bool b]:=rfl
theorem B8 {b:ByteArray}:(Value.string b).cells= #[.string b]:=rfl
theorem Cg {a:Option Addr}{n c:Nat}:(Value.slice a n c).cells= #[.slice a n c]:=rfl
theorem BY {a:Option Addr}:(Value.pointer a).cells= #[.pointer a]:=rfl
theorem CD {cs:Array Value}:(Value.agg cs).cells=cs:=rfl
section
variable {P : Program} {ops : Array Oper} {rest l : List Oper} {n r : Bk} {x : List (Nat × Bk)} {a : Act} {w : World} {N : Nat} {L : Br}
variable {d : Nat} {t : TypeId} {pos : String} {af : Array Edge}
theorem C5 {u:TypeId}{parts:Array (Nat×Operand)}{vs:List (Nat×Value)}{v:Value}(f:Fr a N L)(hN:Nat.blt d N=true)
  (hp:(parts.toList.map fun p=>(p.1,A2 L p.2))=vs.map fun p=>(p.1,some p.2)) (hb:∀w,(Instr.build u vs.toArray).run P w= .ok v w)
  (k:∀a',Fr a' N ((d,v)::L)→wpList P ops (Qk n x r) rest a' w):
  wpList P ops (Qk n x r) (⟨some d,.build u parts,t,pos,af,none⟩::rest) a w:=by
 have key:∀(ps:List (Nat×Operand)) (vs:List (Nat×Value)),(ps.map fun p=>(p.1,A2 L p.2))=vs.map (fun p=>(p.1,some p.2))→ps.map (fun(i,x)=>(i,a.eval x))=vs:=by
  intro ps
  induction ps with
  |nil=>intro vs h;cases vs with
   |nil=>rfl
   |cons _ _=>simp at h
  |cons p ps ih=>
   intro vs h
   cases vs with
   |nil=>simp at h
   |cons q vs=>
    simp only[List.map_cons,List.cons.injEq,Prod.mk.injEq] at h
    simp only[List.map_cons,ih vs h.2,f.eval h.1.2,h.1.1]
 have e:(parts.map fun(i,x)=>(i,a.eval x))=vs.toArray:=by
  apply Array.toList_inj.1
  rw[Array.toList_map,key parts.toList vs hp]
 refine Co f rfl rfl hN (v:=v) ?_ k
 simp[execOp,e,hb]
end
def RR (P:Program)(a:Act)(w:World):List ResultVar→List Value→Prop
 |[],[]=>True
 | .tmp s::rs,v::vs=>a.tmps.getD s undef=v∧RR P a w rs vs
 | .cell s t::rs,v::vs=>(do loadVar t (←asAddr (a.tmps.getD s undef)):Sem Value).run P w= .ok v w∧RR P a w rs vs
 |_,_=>False
theorem RR.run {P:Program}{a:Act}{w:World}{fn:Func}{rs:List ResultVar}{vs:List Value}(h:RR P a w rs vs)(hr:fn.results=rs.toArray):(results fn a.tmps).run P w= .ok (tupleOf vs) w:=by
 have key:∀(rs:List ResultVar) (vs:List Value),RR P a w rs vs→
   (rs.mapM (fun r:ResultVar=>(match r with
    | .tmp t=>pure (a.tmps.getD t undef)
    | .cell a' t=>do loadVar t (←asAddr (a.tmps.getD a' undef)):Sem Value))).run P w= .ok vs w:=by
  intro rs
  induction rs with
  |nil=>intro vs h;cases vs with
   |nil=>simp
   |cons _ _=>exact h.elim
  |cons r rs ih=>
   intro vs h
   cases vs with
   |nil=>cases r<;>exact h.elim
   |cons v vs=>
    cases r with
    |tmp t=>
     have h2:=ih vs h.2
     simp only[List.mapM_cons,Sem.run_bind,Sem.run_pure,Result.andThen_ok,h.1,h2]
    |cell s t=>
     have h2:=ih vs h.2
     have h1:=h.1
     simp only[Sem.run_bind] at h1
     simp only[List.mapM_cons,Sem.run_bind,Sem.run_pure,h1,Result.andThen_ok,h2]
 have hk:=key rs vs h
 unfold results
 rw[hr]
 simp only[List.mapM_toArray,Sem.run_bind,Sem.run_map,Sem.run_pure]
 refine(congrArg (fun r:Result (List Value)=>((r.andThen fun a w'=>Result.ok a.toArray w').andThen fun a w'=>Result.ok (if h:a.size=1 then a[0] else Value.tuple a) w')) (show _=Result.ok vs w from hk)).trans ?_
 match vs with
 |[]=>rfl
 |[v]=>rfl
 |v::u::t=>rfl
theorem Cu {P:Program}{a:Act}{w W:World}{G:GH}{H:List Itm}{N:Nat}{L:Br}{s b t n:Nat}{cs:List Value}(j:Nat)(m:Mem W G w H)(hp:Agg P t n)(f:Fr a N L)(hs:look L s=some (.pointer (some ⟨b,0,none⟩)))(hj:H[j]? =some (.box b t cs))(hl:cs.length=n):
  (do loadVar t (←asAddr (a.tmps.getD s undef)):Sem Value).run P w= .ok (.agg cs.toArray) w:=by
 rw[f.get s _ hs]
 have:=run_loadCells_list (P:=P) w ⟨b,0,none⟩ cs (fun j' v hv=>by rw[BR,Nat.zero_add];exact m.boxCell j hj hv)
 subst hl
 simp[asAddr,loadVar,hp.1 w,hp.2 w,this]
def RetB (P:Program)(W:World)(G:GH)(H:List Itm)(rs:List ResultVar)(Q:GH→List Itm→Value→Prop):Bk:=fun a w=>
 ∃vs:List Value,RR P a w rs vs∧a.defers=[]∧∃G' Ho,GLe G G'∧Mem W G' w (Ho++H)∧Q G' Ho (tupleOf vs)
theorem As {P:Program}{g:FuncId}{fn:Func}{c:Code}{args:List Value}{w:World}{N:Nat}{W:World}{G:GH}{H:List Itm}{Q:GH→List Itm→Value→Prop}(rs:List ResultVar)
  (hf:P.funcs[g]? =some fn) (hb:fn.body=some c) (hN:fn.ntmps=N) (hl:args.length≤N) (hr:fn.results=rs.toArray)
  (h:∀a,Fr a N (enum 0 args)→c.wp P (Qk (RetB P W G H rs Q) [] (RetB P W G H rs Q)) a w):Calls P g args.toArray w (Res W G H Q):=
 calls_k (N:=N) (RetB P W G H rs Q) hf hb hN hl h (fun a w ⟨vs,h1,hd,G',Ho,h2,m,h3⟩=>⟨hd,tupleOf vs,h1.run hr,_,rfl,G',Ho,h2,m,h3⟩)
def tab32 :List Int:=[0,1,28,2,29,14,24,3,30,22,20,15,25,17,4,8,31,27,13,23,21,19,16,7,26,12,18,6,11,5,10,9]
def CP (W:World):Prop:=∃e fz,W.heap[0]? =some (.cells ((tab32.map (Value.int .u8)).toArray) e fz)
theorem l_tab {P:Program}{ops:Array Oper}{rest:List Oper}{n r:Bk}{x:List (Nat×Bk)}{a:Act}{w:World}{N:Nat}{L:Br}{d:Nat}{t:TypeId}{pos:String}{af:Array Edge}{W:World}{G:GH}{H:List Itm}{u e:Nat}{io:Operand}{k:IntKind}{i y:Int}
  (hW:CP W) (m:Mem W G w H) (hu:P.underlying u=some (.array 32 e)) (hz:∀w,(sizeOf e).run P w= .ok 1 w) (f:Fr a N L) (hN:Nat.blt d N=true) (hi:A2 L io=some (.int k i)) (he:idx tab32 i=some y)
  (q:∀p a',At G p (.int .u8 y)→Fr a' N ((d,p)::L)→wpList P ops (Qk n x r) rest a' w):
  wpList P ops (Qk n x r) (⟨some d,.indexAddr u (.global 0) io,t,pos,af,none⟩::rest) a w:=by
 obtain⟨h0,h1,h2⟩:=Dn he
 obtain⟨ee,fz,hg⟩:=hW
 have h1':i<32:=h1
 refine Co (v:= .pointer (some ⟨0,i.toNat,none⟩)) f rfl rfl hN ?_ (fun a' f'=>q _ a' ⟨0,i.toNat,rfl,_,ee,fz,m.base 0 _ hg,?_⟩ f')
 ·have hgl:a.eval (.global 0)= .pointer (some ⟨0,0,none⟩):=rfl
  simp[execOp,hgl,f.eval hi,Instr.indexAt,asIntOf,run_underlying hu,Instr.sureAddr,h0,h1',hz w,BR]
 ·simp[h2]
section
variable {P : Program} {ρ : Operand → Value} {w : World} {d : Option Tmp} {t : TypeId} {pos : String} {af : Array Edge} {gd : Option (Nat × Bool)}
theorem AO {c x y:Operand}{b:Bool}{v:Value}(hc:ρ c= .bool b)(hb:b=true)(h:ρ x=v):(execOp ρ ⟨d,.pick c x y,t,pos,af,gd⟩).run P w= .ok (.value v) w:=
 r_pick hc (by rw[hb];exact h)
theorem AP {c x y:Operand}{b:Bool}{v:Value}(hc:ρ c= .bool b)(hb:b=false)(h:ρ y=v):(execOp ρ ⟨d,.pick c x y,t,pos,af,gd⟩).run P w= .ok (.value v) w:=
 r_pick hc (by rw[hb];exact h)
theorem r_min2 {k:IntKind}{us:Array TypeId}{x y:Operand}{m n:Int}(hx:ρ x= .int k m)(hy:ρ y= .int k n):
  (execOp ρ ⟨d,.call {callee:= .builtin .min,args:= #[x,y],argTypes:=us},t,pos,af,gd⟩).run P w= .ok (.value (.int k (if n<m then n else m))) w:=by
 simp[execOp,resolve,invoke,builtin,Builtin.min_,Builtin.min2,hx,hy]
theorem r_max2 {k:IntKind}{us:Array TypeId}{x y:Operand}{m n:Int}(hx:ρ x= .int k m)(hy:ρ y= .int k n):
  (execOp ρ ⟨d,.call {callee:= .builtin .max,args:= #[x,y],argTypes:=us},t,pos,af,gd⟩).run P w= .ok (.value (.int k (if m<n then n else m))) w:=by
 simp[execOp,resolve,invoke,builtin,Builtin.max_,Builtin.max2,hx,hy]
end
section
variable {P : Program} {ρ : Operand → Value} {w : World} {d : Option Tmp} {t : TypeId} {pos : String} {af : Array Edge} {gd : Option (Nat × Bool)}
end
end Go.Sx

namespace Go.Sx
theorem Ci {v:Value}{t1 t2:TypeId}{rows:List (Value×List Value)}{i:Nat}{h:Itm}(hi:(parts v t1 t2 rows)[i]? =some h):h.foot=h.foot0∧∀w,h.ok w↔h.ok0 w:=by
 cases i with
 |zero=>simp[parts] at hi;subst hi;exact⟨rfl,fun _=>Iff.rfl⟩
 |succ i=>
  simp only[parts,List.getElem?_cons_succ,List.getElem?_map] at hi
  cases hr:rows[i]? with
  |none=>simp[hr] at hi
  |some r=>simp[hr] at hi;subst hi;exact⟨rfl,fun _=>Iff.rfl⟩
section
variable {W w : World} {G : GH} {H : List Itm}
theorem Mem.group {g:Itm}{l:List Itm}(hf:∀x,x∈g.foot↔∃(i:Nat) (h:Itm),l[i]? =some h∧x∈h.foot)
  (hok:g.ok w↔(∀(i:Nat) (h:Itm),l[i]? =some h→h.ok w)∧∀(i j:Nat) (a b:Itm),i≠j→l[i]? =some a→l[j]? =some b→∀x∈a.foot,x∉b.foot):
  Mem W G w (g::H)↔Mem W G w (l++H):=by
 constructor
 ·intro m
  obtain⟨k1,k2⟩:=hok.1 (m.items 0 g rfl)
  have hH:∀(i:Nat) (z:Itm),H[i]? =some z→∀x∈z.foot,x∉g.foot:=fun i z hz=>m.disj (i+1) 0 z g (by omega) (by simpa using hz) rfl
  refine⟨m.os,m.tape,m.output,m.sealed,fun i z k=> ?_,fun i j a b hij ha hb=> ?_,fun i z k x hx=> ?_,m.base⟩
  ·by_cases hi:i<l.length
   ·rw[List.getElem?_append_left hi] at k;exact k1 i z k
   ·rw[List.getElem?_append_right (by omega)] at k;exact m.items (i-l.length+1) z (by simpa using k)
  ·by_cases hi:i<l.length
   ·rw[List.getElem?_append_left hi] at ha
    by_cases hj:j<l.length
    ·rw[List.getElem?_append_left hj] at hb;exact k2 i j a b hij ha hb
    ·rw[List.getElem?_append_right (by omega)] at hb
     exact fun x hx hx'=>hH _ b hb x hx' ((hf x).2 ⟨i,a,ha,hx⟩)
   ·rw[List.getElem?_append_right (by omega)] at ha
    by_cases hj:j<l.length
    ·rw[List.getElem?_append_left hj] at hb
     exact fun x hx hx'=>hH _ a ha x hx ((hf x).2 ⟨j,b,hb,hx'⟩)
    ·rw[List.getElem?_append_right (by omega)] at hb
     exact m.disj (i-l.length+1) (j-l.length+1) a b (by omega) (by simpa using ha) (by simpa using hb)
  ·by_cases hi:i<l.length
   ·rw[List.getElem?_append_left hi] at k;exact m.apart 0 g rfl x ((hf x).2 ⟨i,z,k,hx⟩)
   ·rw[List.getElem?_append_right (by omega)] at k;exact m.apart (i-l.length+1) z (by simpa using k) x hx
 ·intro m
  have hl:∀(i:Nat) (z:Itm),l[i]? =some z→(l++H)[i]? =some z:=fun i z k=>by
   rw[List.getElem?_append_left (List.getElem?_eq_some_iff.1 k).1];exact k
  have hr:∀(i:Nat) (z:Itm),H[i]? =some z→(l++H)[l.length+i]? =some z:=fun i z k=>by
   rw[List.getElem?_append_right (by omega)];simpa using k
  refine⟨m.os,m.tape,m.output,m.sealed,fun i z k=> ?_,fun i j a b hij ha hb=> ?_,fun i z k x hx=> ?_,m.base⟩
  ·cases i with
   |zero=>
    simp at k;subst k
    exact hok.2 ⟨fun i h hi=>m.items i h (hl i h hi),fun i j a b hij ha hb=>m.disj i j a b hij (hl i a ha) (hl j b hb)⟩
   |succ i=>exact m.items _ z (hr i z (by simpa using k))
  ·cases i with
   |zero=>
    simp at ha;subst ha
    cases j with
    |zero=>omega
    |succ j=>
     intro x hx hx'
     obtain⟨k,h,hk,hxh⟩:=(hf x).1 hx
     have hkl:=(List.getElem?_eq_some_iff.1 hk).1
     exact m.disj k (l.length+j) h b (by omega) (hl k h hk) (hr j b (by simpa using hb)) x hxh hx'
   |succ i=>
    have ha':=hr i a (by simpa using ha)
    cases j with
    |zero=>
     simp at hb;subst hb
     intro x hx hx'
     obtain⟨k,h,hk,hxh⟩:=(hf x).1 hx'
     have hkl:=(List.getElem?_eq_some_iff.1 hk).1
     exact m.disj (l.length+i) k a h (by omega) ha' (hl k h hk) x hx hxh
    |succ j=>exact m.disj (l.length+i) (l.length+j) a b (by omega) ha' (hr j b (by simpa using hb))
  ·cases i with
   |zero=>
    simp at k;subst k
    obtain⟨k,h,hk,hxh⟩:=(hf x).1 hx
    exact m.apart k h (hl k h hk) x hxh
   |succ i=>exact m.apart _ z (hr i z (by simpa using k)) x hx
theorem Mem.deep {v:Value}{t1 t2:TypeId}{rows:List (Value×List Value)}:Mem W G w (.deep v t1 t2 rows::H)↔Mem W G w (parts v t1 t2 rows++H):=by
 refine Mem.group (fun x=> ?_) ?_
 ·show x∈(parts v t1 t2 rows).flatMap Itm.foot0↔_
  rw[List.mem_flatMap]
  constructor
  ·rintro⟨h,hh,hx⟩
   obtain⟨i,hi,he⟩:=List.getElem_of_mem hh
   have hi':(parts v t1 t2 rows)[i]? =some h:=by simp[hi,he]
   exact⟨i,h,hi',by rw[(Ci hi').1];exact hx⟩
  ·rintro⟨i,h,hi,hx⟩
   exact⟨h,List.mem_of_getElem? hi,by rw[←(Ci hi).1];exact hx⟩
 ·constructor
  ·rintro⟨h1,h2⟩
   exact⟨fun i h hi=>((Ci hi).2 w).2 (h1 i h hi),fun i j a b hij ha hb=>by rw[(Ci ha).1,(Ci hb).1];exact h2 i j a b hij ha hb⟩
  ·rintro⟨h1,h2⟩
   exact⟨fun i h hi=>((Ci hi).2 w).1 (h1 i h hi),fun i j a b hij ha hb=>by rw[←(Ci ha).1,←(Ci hb).1];exact h2 i j a b hij ha hb⟩
end
def Ow2 {α:Type}(R:Rep α)(t1 t2:TypeId)(G:GH)(it:Itm)(v:Value)(xs:List (List α)):Prop:=
 ∃rows:List (Value×List Value),it= .deep v t1 t2 rows∧rows.length=xs.length∧∀(i:Nat) (r:Value×List Value) (x:List α),rows[i]? =some r→xs[i]? =some x→All2 (R G) r.2 x
section
variable {α : Type} {R : Rep α} {t1 t2 : TypeId} {W w : World} {G : GH} {it : Itm} {H : List Itm} {v : Value} {xs : List (List α)}
theorem Ow2.mono (hR:Cv R){G':GH}(hG:GLe G G')(h:Ow2 R t1 t2 G it v xs):Ow2 R t1 t2 G' it v xs:=by
 obtain⟨rows,h1,h2,h3⟩:=h
 exact⟨rows,h1,h2,fun i r x hr hx=>(h3 i r x hr hx).mono (fun v x=>hR G G' v x hG)⟩
theorem Ow2.outer {G':GH}(h:Ow2 R t1 t2 G it v xs){j:Nat}(m:Mem W G' w H)(hj:H[j]? =some it):∃rows,it= .deep v t1 t2 rows∧rows.length=xs.length∧w.ownsRow 0 t1 1 v xs.length (rows.map (·.1)):=by
 obtain⟨rows,rfl,h2,_⟩:=h
 refine⟨rows,rfl,h2,?_⟩
 have:=(m.items j _ hj).1 0 _ rfl
 rw[←h2];exact this
theorem Ow2.len {G':GH}(h:Ow2 R t1 t2 G it v xs){j:Nat}(m:Mem W G' w H)(hj:H[j]? =some it):
  ∃a c,v= .slice a xs.length c∧xs.length≤c∧c≤maxLen:=by
 obtain⟨rows,rfl,h2,this⟩:=h.outer m hj
 rcases this.2 with⟨h1,h2⟩|⟨g,cap,cur,h1,_,_,h2,h3,_⟩
 ·exact⟨none,0,by rw[h1,h2],by omega,by simp[maxLen]⟩
 ·exact⟨_,cap,h1,h2,h3⟩
theorem Ow2.cells (j:Nat)(m:Mem W G w H)(h:Ow2 R t1 t2 G it v xs)(hj:H[j]? =some it):v.cells= #[v]:=by
 obtain⟨a,c,rfl,_⟩:=h.len m hj;rfl
theorem Ow2.one1 (j:Nat)(m:Mem W G w H)(h:Ow2 R t1 t2 G it v xs)(hj:H[j]? =some it):v.oneCell'=true:=by
 obtain⟨a,c,rfl,_⟩:=h.len m hj;rfl
theorem EG {G':GH}{β:Type}{S:Rep β}{t:TypeId}{v:Value}{n:Nat}{vs:List Value}{ys:List β}(hn:n=ys.length)(this:w.ownsRow 0 t 1 v n vs)(hg:∀x∈v.ownBlock.toList,G' x=w.heap[x]?)(hA:All2 (S G') vs ys):RSl S G' v ys:=by
 subst hn
 refine⟨vs,hA,?_⟩
 rcases this.2 with⟨e1,e2⟩|⟨g,cap,cur,e1,_,eh,e2,e3,e4,e5⟩
 ·exact .inl ⟨e1,List.eq_nil_of_length_eq_zero e2⟩
 ·refine .inr ⟨⟨g,0,none⟩,cap,e1,e2,e3,fun j c hc=>⟨rfl,cur,t,(0,0),?_,?_⟩⟩
  ·rw[hg g (by rw[e1];simp[Value.ownBlock]),eh]
  ·rw[←e5,List.getElem?_take] at hc
   split at hc
   ·simpa using hc
   ·cases hc
theorem Ow2.read (hR:Cv R){G':GH}(hG:GLe G G')(h:Ow2 R t1 t2 G it v xs)(ok:it.ok w)(hg:∀x∈it.foot,G' x=w.heap[x]?):RSl (RSl R) G' v xs:=by
 obtain⟨rows,rfl,h2,h3⟩:=h
 have hf:∀(i:Nat) (p:Itm),(parts v t1 t2 rows)[i]? =some p→∀x∈p.foot0,G' x=w.heap[x]? :=fun i p hp x hx=>hg x (List.mem_flatMap.2 ⟨p,List.mem_of_getElem? hp,hx⟩)
 refine EG h2 (ok.1 0 _ rfl) (hf 0 _ rfl) ⟨by simp[h2],fun i c x hc hx=> ?_⟩
 rw[List.getElem?_map] at hc
 cases hr:rows[i]? with
 |none=>simp[hr] at hc
 |some r=>
  simp[hr] at hc;subst hc
  have hp:(parts v t1 t2 rows)[i+1]? =some (Ch t2 r):=by simp[parts,hr]
  have hA:=(h3 i r x hr hx).mono (fun v x=>hR G G' v x hG)
  exact EG hA.1 (ok.1 _ _ hp) (hf _ _ hp) hA
theorem Ow2.stamp (hR:Cv R)(h:Ow2 R t1 t2 G it v xs)(m:Mem W G w (it::H)):∃G',GLe G G'∧Mem W G' w H∧RSl (RSl R) G' v xs:=by
 obtain⟨G',h1,h2,h3,_⟩:=m.stamp
 exact⟨G',h1,h2,h.read hR h1 (m.items 0 it rfl) h3⟩
theorem Ow2.nil {α:Type}(R:Rep α)(t1 t2:TypeId){W w:World}{G:GH}{H:List Itm}(m:Mem W G w H):
  ∃it,Mem W G w (it::H)∧Ow2 R t1 t2 G it (.slice none 0 0) []:=
 ⟨.deep (.slice none 0 0) t1 t2 [],Mem.deep.2 (m.nilrow t1 1),[],rfl,rfl,by simp⟩
theorem Ow2.lend (hR:Cv R)(h:Ow2 R t1 t2 G it v xs)(m:Mem W G w (it::H)):
  ∃G',GLe G G'∧Mem W G' w H∧RSl (RSl R) G' v xs∧
   ∀G'' w' H',GLe G' G''→Mem W G'' w' H'→∃G₃,GLe G G₃∧Mem W G₃ w' (it::H')∧Ow2 R t1 t2 G₃ it v xs:=by
 obtain⟨G',h1,h2,h3,h4⟩:=m.stamp
 have hok:it.ok w:=m.items 0 it (by simp)
 have hap:∀x∈it.foot,G x=none:=m.apart 0 it (by simp)
 have hlt:=Itm.lt hok
 refine⟨G',h1,h2,h.read hR h1 hok h3,fun G'' w' H' hle m'=> ?_⟩
 have hx:∀x∈it.foot,G'' x=w.heap[x]? :=fun x hx=>by
  have hl:=hlt x hx
  have:G' x=some w.heap[x]:=by rw[h3 x hx];simp[hl]
  rw[hle x _ this];simp[hl]
 refine⟨_,fun b o k=> ?_,m'.unstamp hx hok (fun i z hz x hxz hxi=> ?_) (fun x hxi=> ?_),?_⟩
 ·have:b∉it.foot:=fun hx=>by rw[hap b hx] at k;cases k
  simp[this,hle b o (h1 b o k)]
 ·have h5:=m'.apart i z hz x hxz
  have hl:=hlt x hxi
  rw[hx x hxi] at h5
  simp[hl] at h5
 ·cases hg:W.heap[x]? with
  |none=>rfl
  |some o=>have h5:=m.base x o hg;rw[hap x hxi] at h5;cases h5
 ·refine h.mono hR (fun b o k=> ?_)
  have:b∉it.foot:=fun hx=>by rw[hap b hx] at k;cases k
  simp[this,hle b o (h1 b o k)]
theorem Ow2.lendCall {P:Program}{g:FuncId}{args:Array Value}(hR:Cv R){Q:GH→List Itm→Value→Prop}(j:Nat)
  (h:Ow2 R t1 t2 G it v xs) (m:Mem W G w H) (hj:H[j]? =some it)
  (hc:∀G₁,GLe G G₁→Mem W G₁ w (H.eraseIdx j)→RSl (RSl R) G₁ v xs→Calls P g args w (Res W G₁ (H.eraseIdx j) Q)) (hQ:∀G G' Ho v,Q G Ho v→Q G' Ho v):Calls P g args w (Res W G H Q):=by
 obtain⟨G₁,h1,m1,h2,back⟩:=h.lend hR (m.front j hj)
 refine(hc G₁ h1 m1 h2).mono fun e w' ⟨r,he,G₂,Ho,h3,m2,hq⟩=> ?_
 obtain⟨G₃,h4,m3,_⟩:=back G₂ w' _ h3 m2
 refine⟨r,he,G₃,Ho,h4,?_,hQ _ _ _ _ hq⟩
 have hl:j<H.length:=(List.getElem?_eq_some_iff.1 hj).1
 have m4:=m3.back (Ho.length+j) (by simp[List.length_eraseIdx,hl];omega)
 have e:(Ho++H.eraseIdx j).take (Ho.length+j)++it::(Ho++H.eraseIdx j).drop (Ho.length+j)=Ho++H:=by
  rw[List.take_length_add_append,List.drop_length_add_append,List.append_assoc]
  congr 1
  rw[Ds H j it hl]
  apply List.ext_getElem?
  intro k
  rw[List.getElem?_set]
  split
  ·rename_i e;subst e;simp[hl] at hj ⊢;exact hj.symm
  ·rfl
 rw[e] at m4
 exact m4
end
theorem Ow2.free {α:Type}{R:Rep α}(hR:Free R){t1 t2:TypeId}{G:GH}(G':GH){it:Itm}{v:Value}{xs:List (List α)}(h:Ow2 R t1 t2 G it v xs):Ow2 R t1 t2 G' it v xs:=by
 obtain⟨rows,h1,h2,h3⟩:=h
 exact⟨rows,h1,h2,fun i r x hr hx=>(h3 i r x hr hx).mono (fun v x=>hR G G' v x)⟩
def RawS :Rep Value:=fun _ v x=>v=x∧v.oneCell'=true∧v.cells= #[v]
theorem RawS.mono :Cv RawS:=fun _ _ _ _ _ h=>h
theorem RawS.one :One RawS:=fun _ v x h=>h.2
theorem raw_of {vs:List Value}{G:GH}(h:∀c∈vs,c.oneCell'=true∧c.cells= #[c]):All2 (RawS G) vs vs:=
 ⟨rfl,fun i c x h1 h2=>by rw[h1] at h2;cases h2;exact⟨rfl,h c (List.mem_of_getElem? h1)⟩⟩
theorem raw_eq {vs xs:List Value}{G:GH}(h:All2 (RawS G) vs xs):vs=xs:=by
 apply List.ext_getElem h.1
 intro i h1 h2
 exact(h.2 i vs[i] xs[i] (by simp[h1]) (by simp[h2])).1
theorem Mem.pick {W w:World}{G:GH}{A H:List Itm}{x:Itm}(m:Mem W G w (A++x::H))(i:Nat)(hi:i<A.length):Mem W G w (A.set i x++H):=by
 refine m.inj (fun k=>if k=i then A.length else if k<A.length then k else k+1) (by intro a b;split<;>split<;>(repeat' split)<;>omega) ?_
 intro k z hz
 by_cases hk:k<A.length
 ·rw[List.getElem?_append_left (by simpa using hk),List.getElem?_set] at hz
  by_cases he:k=i
  ·subst he
   simp[hk] at hz;subst hz
   simp
  ·rw[if_neg (fun e=>he e.symm)] at hz
   rw[if_neg he,if_pos hk,List.getElem?_append_left hk];exact hz
 ·rw[List.getElem?_append_right (by simpa using hk)] at hz
  rw[if_neg (by omega),if_neg hk,List.getElem?_append_right (by omega)]
  rw[show k+1-A.length=(k-A.length)+1 by omega]
  simpa using hz
theorem inner_of {α:Type}{R:Rep α}{t2:TypeId}{G:GH}{it:Itm}{h:Value}{e:List α}(k:Ow R t2 G it h e):∃vs,it=Ch t2 (h,vs)∧All2 (R G) vs e:=by
 obtain⟨vs,rfl,hA⟩:=k
 exact⟨vs,by simp[Ch,hA.1],hA⟩
theorem one_of_row {w:World}{t:TypeId}{v:Value}{n:Nat}{vs:List Value}(h:w.ownsRow 0 t 1 v n vs):v.oneCell'=true∧v.cells= #[v]:=by
 rcases h.2 with⟨rfl,_⟩|⟨g,cap,cur,rfl,_⟩<;>exact⟨rfl,rfl⟩
theorem heads_one {W w:World}{G:GH}{H:List Itm}{v:Value}{t1 t2:TypeId}{rows:List (Value×List Value)}(m:Mem W G w (parts v t1 t2 rows++H)):∀c∈rows.map (·.1),c.oneCell'=true∧c.cells= #[c]:=by
 intro c hc
 obtain⟨r,hr,rfl⟩:=List.mem_map.1 hc
 obtain⟨i,hi,he⟩:=List.getElem_of_mem hr
 have hp:(parts v t1 t2 rows++H)[i+1]? =some (Ch t2 r):=by
  rw[List.getElem?_append_left (by simp[parts];omega)];simp[parts,hi,he]
 exact one_of_row (m.items _ _ hp)
theorem ow_outer {W w:World}{G:GH}{H:List Itm}{v:Value}{t1 t2:TypeId}{rows:List (Value×List Value)}(m:Mem W G w (parts v t1 t2 rows++H)):Ow RawS t1 G (.row v t1 1 rows.length (rows.map (·.1))) v (rows.map (·.1)):=
 ⟨rows.map (·.1),by simp,raw_of (heads_one m)⟩
section
variable {P : Program} {ops : Array Oper} {rest : List Oper} {n r : Bk} {x : List (Nat × Bk)} {a : Act} {w W : World} {G : GH} {H : List Itm} {N : Nat} {L : Br}
variable {d : Nat} {t : TypeId} {pos : String} {af : Array Edge} {α : Type} {R : Rep α} {t1 t2 : TypeId} {xs : List (List α)} {v : Value}
theorem El {u bytes:Nat}{z:Value}{dp inn src:Itm}{y h:Value}{e:List α}{zs:List (List α)}{s xo:Operand}(m:Mem W G w (dp::inn::src::H))(hd:Ow2 R t1 t2 G dp v xs)(hi:Ow R t2 G inn h e)(hs0:Ow RawS t1 G src y [h])
  (hu:SlT P u t1 1 bytes z) (hzc:z.cells.size=1) (hb:bytes≤32768) (f:Fr a N L) (hN:Nat.blt d N=true) (hs:A2 L s=some v) (hx:A2 L xo=some y) (hz:AV xs [e]=some zs)
  (k:∀dp' v' w' a',Mem W G w' (dp'::H)→Ow2 R t1 t2 G dp' v' zs→Fr a' N ((d,v')::L)→wpList P ops (Qk n x r) rest a' w'):
  wpList P ops (Qk n x r) (⟨some d,.call {callee:= .builtin .append,args:= #[s,xo],argTypes:= #[u,u]},t,pos,af,none⟩::rest) a w:=by
 obtain⟨rows,rfl,hl,hA⟩:=hd
 obtain⟨vs,rfl,hiA⟩:=inner_of hi
 have m2:=Mem.deep.1 m
 have ho:=ow_outer m2
 have hsrc:∃vs,Src w y [h].length vs∧All2 (RawS G) vs [h]:=Ow.src (j:=2) hs0 m rfl
 unfold AV at hz
 split at hz
 ·rename_i hle
  obtain rfl:=Option.some.inj hz
  refine Bo RawS.one 0 m2 ho rfl hu hzc hb f hN hs hx (ys:=[h]) (zs:=rows.map (·.1)++[h]) hsrc (by simp[AV] at hle ⊢;omega) (fun it' v' w' a' m3 ho' f'=> ?_)
  obtain⟨vs',rfl,hR⟩:=ho'
  obtain rfl:=raw_eq hR
  have e1:(parts v t1 t2 rows++Ch t2 (h,vs)::src::H).set 0 (.row v' t1 1 (rows.map (·.1)++[h]).length (rows.map (·.1)++[h]))=parts v' t1 t2 (rows++[(h,vs)])++src::H:=by
   simp[parts]
  rw[e1] at m3
  have m4:Mem W G w' (.deep v' t1 t2 (rows++[(h,vs)])::src::H):=Mem.deep.2 m3
  refine k _ v' w' a' (m4.eraseAt 1) ⟨_,rfl,by simp[hl],fun i r0 x0 hr hx0=> ?_⟩ f'
  by_cases hi:i<rows.length
  ·rw[List.getElem?_append_left hi] at hr
   rw[List.getElem?_append_left (by omega)] at hx0
   exact hA i r0 x0 hr hx0
  ·rw[List.getElem?_append_right (by omega)] at hr
   rw[List.getElem?_append_right (by omega)] at hx0
   have hi0:i=rows.length:=by
    have:=(List.getElem?_eq_some_iff.1 hr).1
    simp at this;omega
   subst hi0
   simp at hr;subst hr
   rw[hl] at hx0
   simp at hx0;subst hx0
   exact hiA
 ·cases hz
def Head (it:Itm)(i:Int)(c:Value):Prop:=∃v t1 t2 rows r,it= .deep v t1 t2 rows∧rows[i.toNat]? =some r∧c=r.1
end
theorem Ey {A H:List Itm}{i:Nat}(hi:i<A.length):(A++H).eraseIdx i=A.eraseIdx i++H:=List.eraseIdx_append_of_lt_length hi H
theorem Ow2.of_empty {α:Type}(R:Rep α){t1:TypeId}(t2:TypeId){W w:World}{G:GH}{H:List Itm}{it:Itm}{v:Value}(m:Mem W G w (it::H))(h:Ow RawS t1 G it v []):∃it',Mem W G w (it'::H)∧Ow2 R t1 t2 G it' v []:=by
 obtain⟨vs,rfl,hA⟩:=h
 obtain rfl:=raw_eq hA
 exact⟨.deep v t1 t2 [],Mem.deep.2 m,[],rfl,rfl,by simp⟩
theorem Fv {α:Type}(Ho H:List α)(j:Nat):(Ho++H).eraseIdx (Ho.length+j)=Ho++H.eraseIdx j:=by
 rw[List.eraseIdx_append_of_length_le (by omega)]
 simp
theorem Ow.lendCallR {P:Program}{g:FuncId}{args:Array Value}{α:Type}{R:Rep α}(hR:Cv R){t:TypeId}{W w:World}{G:GH}{it:Itm}{Ho H:List Itm}{v:Value}{xs:List α}{Q:GH→List Itm→Value→Prop}(j:Nat)
  (h:Ow R t G it v xs) (m:Mem W G w (Ho++H)) (hj:H[j]? =some it)
  (hc:∀G₁,GLe G G₁→Mem W G₁ w (Ho++H.eraseIdx j)→RSl R G₁ v xs→Calls P g args w (Res W G₁ (Ho++H.eraseIdx j) Q)) (hQ:∀G G' Ho v,Q G Ho v→Q G' Ho v):Calls P g args w (Res W G (Ho++H) Q):=
 Ow.lendCall hR (Ho.length+j) h m (lookRight hj) (by rw[Fv];exact hc) hQ
theorem Ow2.lendCallR {P:Program}{g:FuncId}{args:Array Value}{α:Type}{R:Rep α}(hR:Cv R){t1 t2:TypeId}{W w:World}{G:GH}{it:Itm}{Ho H:List Itm}{v:Value}{xs:List (List α)}{Q:GH→List Itm→Value→Prop}(j:Nat)
  (h:Ow2 R t1 t2 G it v xs) (m:Mem W G w (Ho++H)) (hj:H[j]? =some it)
  (hc:∀G₁,GLe G G₁→Mem W G₁ w (Ho++H.eraseIdx j)→RSl (RSl R) G₁ v xs→Calls P g args w (Res W G₁ (Ho++H.eraseIdx j) Q)) (hQ:∀G G' Ho v,Q G Ho v→Q G' Ho v):Calls P g args w (Res W G (Ho++H) Q):=
 Ow2.lendCall hR (Ho.length+j) h m (lookRight hj) (by rw[Fv];exact hc) hQ
end Go.Sx

namespace Go.Sx
section
variable {P : Program} {ops : Array Oper} {rest : List Oper} {n r : Bk} {x : List (Nat × Bk)} {a : Act} {w W : World} {N : Nat} {L : Br} {d : Nat} {t : TypeId} {pos : String} {af : Array Edge} {G : GH} {H : List Itm}
theorem Fl {g:FuncId}{fo:Operand}{cs:List Value}{args:List Operand}{tys:Array TypeId}{vs:List Value}{Q:GH→List Itm→Value→Prop}(f:Fr a N L)
  (hN:Nat.blt d N=true) (hfo:A2 L fo=some (.func (.func g) #[] cs.toArray)) (hargs:evalAll L args=some vs) (hcall:∀(ars:Array Value) (w:World),(callFunc g ars).run P w= .ok (.enter g ars) w)
  (hc:Calls P g (vs++cs).toArray w (Res W G H Q))
  (k:∀v G' Ho w',GLe G G'→Mem W G' w' (Ho++H)→Q G' Ho v→∀a',Fr a' N ((d,v)::L)→wpList P ops (Qk n x r) rest a' w'):
  wpList P ops (Qk n x r) (⟨some d,.call {callee:= .value fo,args:=args.toArray,argTypes:=tys},t,pos,af,none⟩::rest) a w:=
 l_resv f hN hfo hargs hcall (by simpa using hc) k
end
section
variable {P : Program} {ops : Array Oper} {nn r : Bk} {x : List (Nat × Bk)} {a : Act} {W : World} {T : Act → World → Prop} {H E : List Itm} {G : GH} {N fuel : Nat} {L : Br} {listed listed' : Array Bool}
theorem Ck {i d:Nat}{g:FuncId}{fo:Operand}{args:List Operand}{tys:Array TypeId}{vs:List Value}{t:TypeId}{pos:String}{af:Array Edge}{gd:Option (Nat×Bool)}{v:Value}(n:Nat)
  (hi:ops[i]? =some ⟨some d,.call {callee:= .value fo,args:=args.toArray,argTypes:=tys},t,pos,af,gd⟩) (hck:BP ops n fuel listed i=true) (hl:listed.setIfInBounds i true=listed') (f:Fr a N L)
  (hw:Region.wanted ⟨some d,.call {callee:= .value fo,args:=args.toArray,argTypes:=tys},t,pos,af,gd⟩ (yielded ops a.tmps)=true)
  (hN:Nat.blt d N=true) (hfo:A2 L fo=some (.func (.func g) #[] #[])) (hargs:evalAll L args=some vs) (hcall:∀(ars:Array Value) (w:World),(callFunc g ars).run P w= .ok (.enter g ars) w)
  (hc:∀G' Ho w,GLe G G'→Mem W G' w (Ho++H)→Calls P g vs.toArray w (Res W G' (Ho++H) fun _ Ho' v'=>Ho'=[]∧v'=v))
  (k:∀a',Fr a' N ((d,v)::L)→AnyB W P ops (Qk nn x r) T H fuel G E listed' a'):AnyB W P ops (Qk nn x r) T H (fuel+1) G E listed a:=by
 refine q_take n hi hck hl (.inl ⟨hw,fun G' Ho w hG ⟨G₂,h2,m⟩=> ?_⟩) (k _ (f.put hN v))
 have hargs':(args.toArray.map a.eval)=vs.toArray:=by rw[List.map_toArray,f.evalAll hargs]
 have hr:(execOp a.eval ⟨some d,.call {callee:= .value fo,args:=args.toArray,argTypes:=tys},t,pos,af,gd⟩).run P w= .ok (.enter g vs.toArray) w:=by
  simp only[execOp,resolve,Deferred.ofValue,f.eval hfo,Sem.run_bind,Sem.run_pure,Result.andThen_ok,invoke,hargs']
  have:=hcall vs.toArray w
  simpa using this
 unfold Oper.quietAt
 rw[hr]
 refine⟨rfl,(hc G₂ Ho w (hG.trans h2) m).mono fun e w' ⟨v',he,G₃,Ho',h3,m',h4,h5⟩=> ?_⟩
 subst h4 h5
 exact⟨he,G₃,h2.trans h3,m'⟩
end
end Go.Sx

namespace Go.Sx
theorem sj {α:Type}{x y:α}(h:some x=some y):x=y:=Option.some.inj h
theorem Z {α:Sort _}{a:α}:a=a:=rfl
def sbl (L:Br):Br→List (Option Value)
 |[]=>[]
 |(k,_)::r=>look L k::sbl L r
def sov :Br→List (Option Value)
 |[]=>[]
 |(_,v)::r=>some v::sov r
theorem sub_of {L:Br}:∀{L':Br},sbl L L'=sov L'→Sub L' L
 |[],_=>trivial
 |(k,v)::r,h=>by
  unfold sbl sov at h
  injection h with h1 h2
  exact⟨h1,sub_of h2⟩
theorem Fr.k {a:Act}{N:Nat}{L L':Br}(f:Fr a N L)(h:sbl L L'=sov L'):Fr a N L':=f.weak (sub_of h)
section
variable {P : Program} {ops : Array Oper} {rest : List Oper} {n r : Bk} {x : List (Nat × Bk)} {a : Act} {w : World} {N : Nat} {L : Br} {d : Nat} {t : TypeId} {pos : String} {af : Array Edge} {v : Value} {xo yo : Operand}
theorem Ab (f:Fr a N L)(hx:A2 L xo=some v)(k:∀a',Fr a' N ((d,v)::L)→wpList P ops (Qk n x r) rest a' w)(hN:Nat.blt d N=true:=by rfl):
  wpList P ops (Qk n x r) (⟨some d,.move xo,t,pos,af,none⟩::rest) a w:=Co f rfl rfl hN (AX (f.eval hx)) k
theorem Ad (f:Fr a N L)(hx:A2 L xo=some v)(k:∀a',Fr a' N ((d,v)::L)→wpList P ops (Qk n x r) rest a' w)(hN:Nat.blt d N=true:=by rfl):
  wpList P ops (Qk n x r) (⟨some d,.assign xo,t,pos,af,none⟩::rest) a w:=Co f rfl rfl hN (Bl (f.eval hx)) k
theorem Ah {op:BinOp}{k:IntKind}{u:TypeId}{m q:Int}(f:Fr a N L)(hx:A2 L xo=some (.int k m))(hy:A2 L yo=some (.int k q))(h:∀w,(binOp op u (.int k m) (.int k q)).run P w= .ok v w)
  {u':TypeId} (k:∀a',Fr a' N ((d,v)::L)→wpList P ops (Qk n x r) rest a' w) (hN:Nat.blt d N=true:=by rfl):wpList P ops (Qk n x r) (⟨some d,.binOp op u xo yo u',t,pos,af,none⟩::rest) a w:=
 Co f rfl rfl hN (AD (f.eval hx) (f.eval hy) h) k
theorem l_o {op:Op}(f:Fr a N L)(hr:(execOp a.eval ⟨some d,op,t,pos,af,none⟩).run P w= .ok (.value v) w)
  (k:∀a',Fr a' N ((d,v)::L)→wpList P ops (Qk n x r) rest a' w) (hN:Nat.blt d N=true:=by rfl):wpList P ops (Qk n x r) (⟨some d,op,t,pos,af,none⟩::rest) a w:=
 Co f rfl rfl hN hr k
theorem gs_of {j:Nat}{b:Value}(h:((ops[j]?).bind (·.dst)).bind (look L)=some b):∃s,(ops[j]?).bind (·.dst)=some s∧look L s=some b:=Option.bind_eq_some_iff.1 h
theorem AE {op:Op}{j:Nat}{b c:Bool}(f:Fr a N L)(hc:c= !b)(k:∀a',Fr a' N ((d,undef)::L)→wpList P ops (Qk n x r) rest a' w)
  (hs:((ops[j]?).bind (·.dst)).bind (look L)=some (.bool c):=by rfl) (hN:Nat.blt d N=true:=by rfl):
  wpList P ops (Qk n x r) (⟨some d,op,t,pos,af,some (j,b)⟩::rest) a w:=by
 obtain⟨s,h1,h2⟩:=gs_of hs
 exact l_not' f hN h1 h2 hc k
theorem AB {dst:Option Tmp}{op:Op}{j:Nat}{b c:Bool}(f:Fr a N L)(hc:c=b)(k:wpList P ops (Qk n x r) (⟨dst,op,t,pos,af,none⟩::rest) a w)
  (hs:((ops[j]?).bind (·.dst)).bind (look L)=some (.bool c):=by rfl):
  wpList P ops (Qk n x r) (⟨dst,op,t,pos,af,some (j,b)⟩::rest) a w:=by
 obtain⟨s,h1,h2⟩:=gs_of hs
 exact l_run f h1 h2 hc k
theorem Bn {b i:Nat}{s fi:Nat}{fs:Array Field}{fl:Field}{sz:Nat}(hs:P.underlying s=some (.struct fs))(hf:fs[fi]? =some fl)
  (hz:∀w,(sizeOf fl.type).run P w= .ok sz w) (f:Fr a N L) (hx:A2 L xo=some (.pointer (some ⟨b,i,none⟩)))
  (k:∀a',Fr a' N ((d,.pointer (some ⟨b,i+fl.offset,none⟩))::L)→wpList P ops (Qk n x r) rest a' w) (hz0:sz≠0:=by decide) (hN:Nat.blt d N=true:=by rfl):
  wpList P ops (Qk n x r) (⟨some d,.fieldAddr s xo fi,t,pos,af,none⟩::rest) a w:=l_fieldAddr hs hf hz hz0 f hN hx k
theorem AK {W:World}{G:GH}{H:List Itm}{g:FuncId}{args:List Operand}{tys:Array TypeId}{vs:List Value}{Q:GH→List Itm→Value→Prop}(f:Fr a N L)
  (hargs:evalAll L args=some vs) (hcall:∀(ars:Array Value) (w:World),(callFunc g ars).run P w= .ok (.enter g ars) w)
  (hc:Calls P g vs.toArray w (Res W G H Q))
  (k:∀v G' Ho w',GLe G G'→Mem W G' w' (Ho++H)→Q G' Ho v→∀a',Fr a' N ((d,v)::L)→wpList P ops (Qk n x r) rest a' w') (hN:Nat.blt d N=true:=by rfl):
  wpList P ops (Qk n x r) (⟨some d,.call {callee:= .value (.func g),args:=args.toArray,argTypes:=tys},t,pos,af,none⟩::rest) a w:=l_res f hN hargs hcall hc k
theorem Bi {W:World}{G:GH}{H:List Itm}{g:FuncId}{args:List Operand}{tys:Array TypeId}{vs:List Value}{z:Value}(f:Fr a N L)
  (hargs:evalAll L args=some vs) (hcall:∀(ars:Array Value) (w:World),(callFunc g ars).run P w= .ok (.enter g ars) w)
  (hc:Calls P g vs.toArray w (Res W G H fun _ Ho v=>Ho=[]∧v=z))
  (k:∀G' w',GLe G G'→Mem W G' w' H→∀a',Fr a' N ((d,z)::L)→wpList P ops (Qk n x r) rest a' w') (hN:Nat.blt d N=true:=by rfl):
  wpList P ops (Qk n x r) (⟨some d,.call {callee:= .value (.func g),args:=args.toArray,argTypes:=tys},t,pos,af,none⟩::rest) a w:=
 l_res f hN hargs hcall hc fun v G' Ho w' hl m hQ a' f'=>by obtain⟨rfl,rfl⟩:=hQ;exact k G' w' hl m a' f'
theorem Ac {id:Nat}{c:Code}{l:List Oper}(h:wpList P l.toArray (Qk (fun a w=>c.wp P (Qk n x r) a w) x r) l a w):(Code.seq (.region id l.toArray false) c).wp P (Qk n x r) a w:=Af (Ak h)
end
section
variable {P : Program} {ops : Array Oper} {nn r : Bk} {x : List (Nat × Bk)} {a : Act} {W : World} {T : Act → World → Prop} {H E : List Itm} {G : GH} {N fuel : Nat} {L : Br} {listed : Array Bool} {d : Nat} {t : TypeId} {pos : String} {af : Array Edge} {v : Value} {xo yo io : Operand} {g : Option (Nat × Bool)}
theorem wo {op:Op}{j:Nat}{b c:Bool}(f:Fr a N L)(hc:c=b)(hs:((ops[j]?).bind (·.dst)).bind (look L)=some (.bool c):=by rfl):
  Region.wanted ⟨some d,op,t,pos,af,some (j,b)⟩ (yielded ops a.tmps)=true:=by
 obtain⟨s,h1,h2⟩:=gs_of hs
 exact AQ f rfl h1 h2 hc
theorem Ag (i n:Nat)(hi:ops[i]? =some ⟨some d,.move xo,t,pos,af,g⟩)(f:Fr a N L)(hx:A2 L xo=some v)
  (k:∀a',Fr a' N ((d,v)::L)→AnyB W P ops (Qk nn x r) T H fuel G E (listed.setIfInBounds i true) a')
  (hck:BP ops n fuel listed i=true:=by kernel_rfl) (hw:Region.wanted ⟨some d,.move xo,t,pos,af,g⟩ (yielded ops a.tmps)=true:=by rfl) (hN:Nat.blt d N=true:=by rfl):AnyB W P ops (Qk nn x r) T H (fuel+1) G E listed a:=
 DF n hi hck rfl f hw rfl hN (fun _ _ _ _ _=>AX (f.eval hx)) k
theorem q_p {op:Op}(i n:Nat)(hi:ops[i]? =some ⟨some d,op,t,pos,af,g⟩)(f:Fr a N L)(hr:∀w,(execOp a.eval ⟨some d,op,t,pos,af,g⟩).run P w= .ok (.value v) w)
  (k:∀a',Fr a' N ((d,v)::L)→AnyB W P ops (Qk nn x r) T H fuel G E (listed.setIfInBounds i true) a')
  (hck:BP ops n fuel listed i=true:=by kernel_rfl) (hw:Region.wanted ⟨some d,op,t,pos,af,g⟩ (yielded ops a.tmps)=true:=by rfl) (hN:Nat.blt d N=true:=by rfl):AnyB W P ops (Qk nn x r) T H (fuel+1) G E listed a:=
 DF n hi hck rfl f hw rfl hN (fun _ _ w _ _=>hr w) k
theorem An {op:Op}{j:Nat}{b c:Bool}(i n:Nat)(hi:ops[i]? =some ⟨some d,op,t,pos,af,some (j,b)⟩)(f:Fr a N L)(hc:c= !b)
  (k:∀a',Fr a' N ((d,undef)::L)→AnyB W P ops (Qk nn x r) T H fuel G E (listed.setIfInBounds i true) a')
  (hs:((ops[j]?).bind (·.dst)).bind (look L)=some (.bool c):=by rfl) (hck:BP ops n fuel listed i=true:=by kernel_rfl) (hN:Nat.blt d N=true:=by rfl):AnyB W P ops (Qk nn x r) T H (fuel+1) G E listed a:=by
 obtain⟨s,h1,h2⟩:=gs_of hs
 exact q_not n hi hck rfl f rfl h1 h2 hc rfl hN k
theorem q_nu {op:Op}{j:Nat}{b:Bool}(i n:Nat)(hi:ops[i]? =some ⟨some d,op,t,pos,af,some (j,b)⟩)(f:Fr a N L)
  (k:∀a',Fr a' N ((d,undef)::L)→AnyB W P ops (Qk nn x r) T H fuel G E (listed.setIfInBounds i true) a')
  (hs:((ops[j]?).bind (·.dst)).bind (look L)=some undef:=by rfl) (hck:BP ops n fuel listed i=true:=by kernel_rfl) (hN:Nat.blt d N=true:=by rfl):AnyB W P ops (Qk nn x r) T H (fuel+1) G E listed a:=by
 obtain⟨s,h1,h2⟩:=gs_of hs
 exact q_notU n hi hck rfl f rfl h1 h2 rfl hN k
theorem Az {α:Type}{R:Rep α}{tt:TypeId}{it:Itm}{xs:List α}{u e bytes:Nat}{z:Value}{k0:IntKind}{jx:Int}{y:α}{w₀:World}{G₀:GH}{H₀:List Itm}(i n j:Nat)(m:Mem W G₀ w₀ H₀)(h:Ow R tt G it v xs)
  (hu:SlT P u e 1 bytes z) (he:idx xs jx=some y) (hi:ops[i]? =some ⟨some d,.indexAddr u xo io,t,pos,af,g⟩) (f:Fr a N L) (hx:A2 L xo=some v) (hio:A2 L io=some (.int k0 jx))
  (k:∀p a',OwnAt v p jx→Fr a' N ((d,p)::L)→AnyB W P ops (Qk nn x r) T H fuel G E (listed.setIfInBounds i true) a')
  (hj:H₀[j]? =some it:=by rfl) (hck:BP ops n fuel listed i=true:=by kernel_rfl) (hw:Region.wanted ⟨some d,.indexAddr u xo io,t,pos,af,g⟩ (yielded ops a.tmps)=true:=by rfl) (hN:Nat.blt d N=true:=by rfl):AnyB W P ops (Qk nn x r) T H (fuel+1) G E listed a:=
 q_own_at n j m h hj hu he hi hck rfl f hw hN hx hio k
theorem AL {α:Type}{R:Rep α}{tt:TypeId}{it:Itm}{p:Value}{xs:List α}{u:Nat}{jx:Int}{y:α}(i n j:Nat)(h:Ow R tt G it v xs)
  (hp:Cm P u) (ha:OwnAt v p jx) (he:idx xs jx=some y) (hi:ops[i]? =some ⟨some d,.load u xo,t,pos,af,g⟩) (f:Fr a N L) (hx:A2 L xo=some p)
  (k:∀c a',R G c y→Fr a' N ((d,c)::L)→AnyB W P ops (Qk nn x r) T H fuel G E (listed.setIfInBounds i true) a')
  (hj:H[j]? =some it:=by rfl) (hck:BP ops n fuel listed i=true:=by kernel_rfl) (hw:Region.wanted ⟨some d,.load u xo,t,pos,af,g⟩ (yielded ops a.tmps)=true:=by rfl) (hN:Nat.blt d N=true:=by rfl):AnyB W P ops (Qk nn x r) T H (fuel+1) G E listed a:=
 q_own_load n j h hj hp ha he hi hck rfl f hw hN hx k
theorem B2 {α:Type}{R:Rep α}{xs:List α}{u e bytes:Nat}{z:Value}{k0:IntKind}{j:Int}{e':α}(i n:Nat)(hu:SlT P u e 1 bytes z)(h:RSl R G v xs)(he:idx xs j=some e')
  (hi:ops[i]? =some ⟨some d,.indexAddr u xo io,t,pos,af,g⟩) (f:Fr a N L) (hx:A2 L xo=some v) (hio:A2 L io=some (.int k0 j))
  (k:∀p c a',At G p c→R G c e'→Fr a' N ((d,p)::L)→AnyB W P ops (Qk nn x r) T H fuel G E (listed.setIfInBounds i true) a')
  (hck:BP ops n fuel listed i=true:=by kernel_rfl) (hw:Region.wanted ⟨some d,.indexAddr u xo io,t,pos,af,g⟩ (yielded ops a.tmps)=true:=by rfl) (hN:Nat.blt d N=true:=by rfl):AnyB W P ops (Qk nn x r) T H (fuel+1) G E listed a:=
 q_at n hu h he hi hck rfl f hw hN hx hio k
theorem BZ {u:TypeId}{p c:Value}(i n:Nat)(hp:Cm P u)(h:At G p c)(hi:ops[i]? =some ⟨some d,.load u xo,t,pos,af,g⟩)(f:Fr a N L)(hx:A2 L xo=some p)
  (k:∀a',Fr a' N ((d,c)::L)→AnyB W P ops (Qk nn x r) T H fuel G E (listed.setIfInBounds i true) a')
  (hck:BP ops n fuel listed i=true:=by kernel_rfl) (hw:Region.wanted ⟨some d,.load u xo,t,pos,af,g⟩ (yielded ops a.tmps)=true:=by rfl) (hN:Nat.blt d N=true:=by rfl):AnyB W P ops (Qk nn x r) T H (fuel+1) G E listed a:=
 q_loadAt n hp h hi hck rfl f hw hN hx k
theorem BO {b ix:Nat}{tt:TypeId}{cs:List Value}{u:TypeId}{c:Value}(i n j:Nat)(hp:Cm P u)(hj:H[j]? =some (.box b tt cs))(hc:cs[ix]? =some c)
  (hi:ops[i]? =some ⟨some d,.load u xo,t,pos,af,g⟩) (f:Fr a N L) (hx:A2 L xo=some (.pointer (some ⟨b,ix,none⟩)))
  (k:∀a',Fr a' N ((d,c)::L)→AnyB W P ops (Qk nn x r) T H fuel G E (listed.setIfInBounds i true) a')
  (hck:BP ops n fuel listed i=true:=by kernel_rfl) (hw:Region.wanted ⟨some d,.load u xo,t,pos,af,g⟩ (yielded ops a.tmps)=true:=by rfl) (hN:Nat.blt d N=true:=by rfl):AnyB W P ops (Qk nn x r) T H (fuel+1) G E listed a:=
 q_boxCell n j hp hj hc hi hck rfl f hw hN hx k
theorem B3 {b ix:Nat}{s fi:Nat}{fs:Array Field}{fl:Field}{sz:Nat}(i n:Nat)(hs:P.underlying s=some (.struct fs))(hf:fs[fi]? =some fl)
  (hz:∀w,(sizeOf fl.type).run P w= .ok sz w) (hi:ops[i]? =some ⟨some d,.fieldAddr s xo fi,t,pos,af,g⟩) (f:Fr a N L) (hx:A2 L xo=some (.pointer (some ⟨b,ix,none⟩)))
  (k:∀a',Fr a' N ((d,.pointer (some ⟨b,ix+fl.offset,none⟩))::L)→AnyB W P ops (Qk nn x r) T H fuel G E (listed.setIfInBounds i true) a') (hz0:sz≠0:=by decide)
  (hck:BP ops n fuel listed i=true:=by kernel_rfl) (hw:Region.wanted ⟨some d,.fieldAddr s xo fi,t,pos,af,g⟩ (yielded ops a.tmps)=true:=by rfl) (hN:Nat.blt d N=true:=by rfl):AnyB W P ops (Qk nn x r) T H (fuel+1) G E listed a:=
 q_fieldAddr n hs hf hz hz0 hi hck rfl f hw hN hx k
theorem p_p {o:Oper}(i:Nat)(hi:ops[i]? =some o)(hck:(Region.noSelect ops&&Region.free .any ops listed i&&(Region.ready .any ops listed).contains i)=true)(f:Fr a N L)(hg:o.guard=none)(hd:o.dst=some d)(hN:Nat.blt d N=true)
  (hr:∀w,(execOp a.eval o).run P w= .ok (.value v) w)
  (k:∀a',Fr a' N ((d,v)::L)→PAny W P ops (Qk nn x r) fuel G H (listed.setIfInBounds i true) a'):PAny W P ops (Qk nn x r) (fuel+1) G H listed a:=
 p_op hi hck rfl f hg hd hN hr k
end
section
variable {G G' : GH} {v : Value} {k : IntKind}
theorem rd1 {xs:List Int}(h:GLe G G')(r:RSl (RI k) G v xs):RSl (RI k) G' v xs:=RSl.mono (RI.mono _) _ _ _ _ h r
theorem rd2 {xs:List (List Int)}(h:GLe G G')(r:RSl (RSl (RI k)) G v xs):RSl (RSl (RI k)) G' v xs:=RSl.mono (RSl.mono (RI.mono _)) _ _ _ _ h r
theorem od1 {t:TypeId}{it:Itm}{xs:List Int}(h:GLe G G')(r:Ow (RI k) t G it v xs):Ow (RI k) t G' it v xs:=Ow.mono (RI.mono _) h r
theorem od2 {t t':TypeId}{it:Itm}{xs:List (List Int)}(h:GLe G G')(r:Ow2 (RI k) t t' G it v xs):Ow2 (RI k) t t' G' it v xs:=Ow2.mono (RI.mono _) h r
theorem gr :GLe G G:=GLe.refl G
theorem gt {G'':GH}(h:GLe G G')(h':GLe G' G''):GLe G G'':=GLe.trans h h'
end
end Go.Sx

namespace Go.Sx
open Go.RowKit Go.ChangeShapes Go.WideShapes Go.Deep
def G0 (w:World):GH:=fun b=>w.heap[b]?
theorem Mem.below {W w':World}{G:GH}{H:List Itm}(m:Mem W G w' H):Below W.heap.size W w':=by
 have hb:∀k,k<W.heap.size→w'.heap[k]? =W.heap[k]? :=fun k hk=>by
  have h1:W.heap[k]? =some W.heap[k]:=by simp[hk]
  rw[h1]
  exact m.sealed k _ (m.base k _ h1)
 refine⟨m.os,m.tape,m.output,?_,hb⟩
 rcases Nat.eq_zero_or_pos W.heap.size with h|h
 ·omega
 ·have h1:=hb (W.heap.size-1) (by omega)
  have h2:W.heap[W.heap.size-1]? =some W.heap[W.heap.size-1]:=by simp
  rw[h2] at h1
  have:=(Array.getElem?_eq_some_iff.1 h1).1
  omega
theorem cell_G0 {w:World}{a:Addr}{i:Nat}{c:Value}(h:w.cell? (a.add i)=some c)(h0:w.cell? (a.add 0)=some c∨a.spot=none):a.spot=none∧Cell (G0 w) a.block (a.off+i) c:=by
 have hs:a.spot=none:=by
  rcases h0 with h0|h0
  ·rw[show a.add 0=a by simp[Addr.add]] at h0
   unfold World.cell? at h0
   split at h0
   ·cases hsp:a.spot with
    |none=>rfl
    |some n=>rw[hsp] at h0;simp at h0
   ·cases h0
  ·exact h0
 refine⟨hs,?_⟩
 obtain⟨b,off,sp⟩:=a
 simp only at hs;subst hs
 rw[BR] at h
 unfold World.cell? at h
 split at h
 ·rename_i cs t f hh
  exact⟨cs,t,f,hh,by simpa using h⟩
 ·cases h
theorem spot_of_cell {w:World}{a:Addr}{c:Value}(h:w.cell? (a.add 0)=some c):a.spot=none:=by
 rw[show a.add 0=a by simp[Addr.add]] at h
 unfold World.cell? at h
 split at h
 ·cases hsp:a.spot with
  |none=>rfl
  |some n=>rw[hsp] at h;simp at h
 ·cases h
theorem no_iface {w:World}{ks:List Int}{k:IntKind}{t:TypeId}{f:Nat×Nat}{off:Nat}{u:TypeId}{v:Value}{p:Prop}(h:w.heap[0]? =some (.cells (ks.map (Value.int k)).toArray t f))(hc:w.cell? ⟨0,off,none⟩=some (.iface u v)):p:=by
 unfold World.cell? at hc
 rw[h] at hc
 simp at hc
section
variable {H : Type} {enc : TypeId × Value → H} {P : Program} {w : World} {base : Nat} {Cp : Nat → Bool} {held : Bool}
def Opens (enc:TypeId×Value→H)(P:Program)(w:World)(base:Nat)(Cp:Nat→Bool)(held:Bool)(t:TypeId){α:Type}(R:Rep α):Prop:=
 ∀(fuel:Nat) (v:Value) (y:DataW H×List MemPlace),DataW.trod enc P w base Cp held fuel t [v]=some y→∃x,R (G0 w) v x
theorem Opens.int {t:TypeId}{k:IntKind}(ht:P.underlying t=some (.int k)):Opens enc P w base Cp held t (RI k):=by
 intro fuel v y h
 cases fuel with
 |zero=>simp[DataW.trod] at h
 |succ fuel=>
  cases v<;>simp[DataW.trod,ht] at h
  obtain⟨⟨rfl,_⟩,_⟩:=h
  exact⟨_,rfl⟩
def RIr (k:IntKind):Rep Int:=fun _ v n=>v= .int k n∧(Lit.int k n).wf=true
theorem Opens.intr {t:TypeId}{k:IntKind}(ht:P.underlying t=some (.int k)):Opens enc P w base Cp held t (RIr k):=by
 intro fuel v y h
 cases fuel with
 |zero=>simp[DataW.trod] at h
 |succ fuel=>
  cases v<;>simp[DataW.trod,ht] at h
  obtain⟨⟨rfl,hw⟩,_⟩:=h
  exact⟨_,rfl,hw⟩
theorem RSl.fits {k:IntKind}{G:GH}{v:Value}{xs:List Int}(h:RSl (RIr k) G v xs):RSl (RI k) G v xs∧∀x∈xs,(Lit.int k x).wf=true:=by
 obtain⟨vs,hA,h2⟩:=h
 refine⟨⟨vs,hA.mono (fun v x h=>h.1),h2⟩,fun x hx=> ?_⟩
 obtain⟨i,hi,rfl⟩:=List.getElem_of_mem hx
 obtain⟨c,_,hc⟩:=hA.get (i:=i) (x:=xs[i]) (by simp[hi])
 exact hc.2
theorem byte_of_wf {x:Int}(h:(Lit.int .u8 x).wf=true):0≤x∧x≤255:=by
 simp[Lit.wf,IntKind.has,IntKind.min,IntKind.max,IntKind.signed,IntKind.bits] at h
 omega
theorem Opens.slice {t e:TypeId}{α:Type}{R:Rep α}(ht:P.underlying t=some (.slice e))(hc:P.cellsOf e=1)(hE:Opens enc P w base Cp held e R):Opens enc P w base Cp held t (RSl R):=by
 intro fuel v y h
 rcases open_slice1 ht hc h with⟨h1,_⟩|⟨a,len,cap,m,n,V,D,Pl,h1,hb,hl,hm,hmm,hy,hx⟩
 ·simp at h1;subst h1;exact⟨[],RSl.nil _ _⟩
 ·simp at h1;subst h1
  have hlm:len≤m:=by rw[hmm];split<;>omega
  have hch:∀i,i<len→∃z,R (G0 w) (V i) z:=fun i hi=>hE n (V i) _ (hx i (by omega)).2
  have:∃xs:List α,xs.length=len∧∀(i:Nat) x,xs[i]? =some x→R (G0 w) (V i) x:=by
   clear hmm hx hb hl hm hlm h hy
   induction len with
   |zero=>exact⟨[],rfl,by simp⟩
   |succ k ih=>
    obtain⟨xs,h1,h2⟩:=ih (fun i hi=>hch i (by omega))
    obtain⟨z,hz⟩:=hch k (by omega)
    refine⟨xs++[z],by simp[h1],fun i x hi=> ?_⟩
    rw[List.getElem?_append] at hi
    split at hi
    ·exact h2 i x hi
    ·rename_i hlt
     have hi0:i-xs.length=0:=by
      rcases Nat.eq_zero_or_pos (i-xs.length) with h|h
      ·exact h
      ·rw[List.getElem?_eq_none (by simp;omega)] at hi;cases hi
     rw[hi0] at hi
     simp at hi;subst hi
     obtain rfl:i=k:=by omega
     exact hz
  obtain⟨xs,hxl,hxs⟩:=this
  refine⟨xs,(List.range len).map V,⟨by simp[hxl],fun i c x hc hx'=> ?_⟩,.inr ⟨a,cap,by rw[hxl],by omega,hm,fun j c hc=> ?_⟩⟩
  ·rw[List.getElem?_map] at hc
   have hi:i<len:=by rw[←hxl];exact(List.getElem?_eq_some_iff.1 hx').1
   rw[List.getElem?_range hi] at hc
   simp at hc;subst hc
   exact hxs i x hx'
  ·have hj:j<len:=by
    have:=(List.getElem?_eq_some_iff.1 hc).1
    simpa using this
   rw[List.getElem?_map,List.getElem?_range hj] at hc
   simp at hc;subst hc
   have h0:=spot_of_cell (hx 0 (by omega)).1
   exact cell_G0 (hx j (by omega)).1 (.inr h0)
theorem table_cells {t e:TypeId}{n fuel:Nat}{k:IntKind}{cs:List Value}{ns:List Int}{ps:List MemPlace}(ht:P.underlying t=some (.array n e))(he:P.underlying e=some (.int k))(hc:P.cellsOf e=1)
  (hn:P.cellsOf t=n) (h:DataW.trod enc P w base Cp held fuel t cs=some (.agg (ns.map fun z=> .lit (.int k z)),ps)):cs=ns.map (.int k):=by
 obtain⟨xs,m,_,hx,hl,hxl,hel⟩:=DataW.trod_array ht h
 have hx1:ns.map (fun z=>(.lit (.int k z):DataW H))=xs.map (·.1):=by
  have:=congrArg Prod.fst hx
  simpa using this
 have hnl:ns.length=n:=by
  have:=congrArg List.length hx1
  simp at this;omega
 apply List.ext_getElem
 ·simp;omega
 ·intro i h1 h2
  have hi:i<n:=by omega
  have h3:=hel i hi
  rw[hc,Nat.mul_one] at h3
  have h4:(cs.drop i).take 1=[cs[i]]:=by
   rw[List.drop_eq_getElem_cons h1];rfl
  rw[h4,List.getElem?_eq_getElem (by omega)] at h3
  have h5:xs[i].1= .lit (.int k ns[i]):=by
   have h6:(ns.map (fun z=>(.lit (.int k z):DataW H)))[i]? =(xs.map (·.1))[i]? :=by rw[hx1]
   rw[List.getElem?_map,List.getElem?_map,List.getElem?_eq_getElem (by omega),List.getElem?_eq_getElem (by omega)] at h6
   simp at h6;exact h6.symm
  cases m with
  |zero=>simp[DataW.trod] at h3
  |succ m=>
   cases hv:cs[i]<;>rw[hv] at h3<;>simp[DataW.trod,he] at h3
   obtain⟨⟨rfl,_⟩,h7⟩:=h3
   rw[←h7] at h5
   simp at h5
   simp[h5]
end
end Go.Sx

namespace Go.Proofs.YtebbefpdncgoiaaGreatDoor
open Go Go.ChangeShapes Go.WideShapes Go.ChangeAt Go.RowKit
abbrev laidTab :List (String×DataW Unit):=Rows.fnBagsRow.laid
abbrev tabName :String:=(laidTab.headD default).1
theorem Tryz.ownK :ownKnob Tryz.prog.godebug=none:=by kernel_rfl
theorem Tryz.laidOutK :laidOutB Tryz.prog=true:=by kernel_rfl
theorem Tryz.tabG :Tryz.prog.globalNamed tabName=some 0:=by kernel_rfl
theorem Tryz.tabT :(Tryz.prog.globals[0]?).map (·.type)=some 202:=by kernel_rfl
theorem Tryz.cellsTab :Tryz.prog.cellsOf 202=32:=by kernel_rfl
theorem Tryz.cellsU8 :Tryz.prog.cellsOf 5=1:=by kernel_rfl
def tabCells :Array Value:= #[.int .u8 0,.int .u8 1,.int .u8 28,.int .u8 2,.int .u8 29,.int .u8 14,.int .u8 24,.int .u8 3,.int .u8 30,.int .u8 22,.int .u8 20,.int .u8 15,.int .u8 25,.int .u8 17,.int .u8 4,.int .u8 8,.int .u8 31,.int .u8 27,.int .u8 13,.int .u8 23,.int .u8 21,.int .u8 19,.int .u8 16,.int .u8 7,.int .u8 26,.int .u8 12,.int .u8 18,.int .u8 6,.int .u8 11,.int .u8 5,.int .u8 10,.int .u8 9]
theorem tabW_of_laid {W:World}(h:laidMet Tryz.prog laidTab W):Sx.CP W:=by
 obtain⟨ps,⟨g,t,cs,fuel,p,q,hg,ht,hvar,hd,_,_⟩,_⟩:=h
 obtain rfl:=Option.some.inj (Tryz.tabG.symm.trans hg)
 obtain rfl:=Option.some.inj (Tryz.tabT.symm.trans ht)
 have e:cs.toList=Sx.tab32.map (Value.int .u8):=Sx.table_cells (H:=Unit) (ns:=Sx.tab32) Tryz.underlying202 Tryz.underlying5 Tryz.cellsU8 Tryz.cellsTab hd
 have hvar:W.var? Tryz.prog tabName=some cs:=hvar
 unfold World.var? at hvar
 rw[Tryz.tabG] at hvar
 simp only[Option.bind_some] at hvar
 split at hvar
 ·rename_i cs' ty fz hh
  cases hvar
  refine⟨ty,fz,?_⟩
  rw[hh]
  congr 1
  obtain⟨l⟩:=cs
  simp only at e
  subst e
  rfl
 ·cases hvar
noncomputable def E4 (os:Os):World:=
 {World.holding Tryz.prog os ⟨#[],#[],[]⟩ with heap:=(World.holding Tryz.prog os ⟨#[],#[],[]⟩).heap.modify 0 fun
   | .cells _ t frozen=> .cells tabCells t frozen
   |o=>o}
theorem ES (os:Os)(args:Array Value):((E4 os).forCall (fun _ _=>0) ⟨#[],args,[]⟩).memory.heap[0]? =some (.cells tabCells 202 (0,0)):=by kernel_rfl
set_option maxRecDepth 100000 in
theorem laidWorld_met (os:Os)(args:Array Value):laidMet Tryz.prog laidTab ((E4 os).forCall (fun _ _=>0) ⟨#[],args,[]⟩).memory:=
 ⟨_,⟨0,202,tabCells,8,[],[],by kernel_rfl,by kernel_rfl,by kernel_rfl,by kernel_rfl,rfl,rfl⟩,by decide,fun b off h=>by
  have hb:b=0:=by
   have h':MemPlace.cell b off∈(MemPlace.row ⟨0,0,none⟩ tabCells.size++[]++[]):=h
   simp only[List.append_nil,MemPlace.row,List.mem_map] at h'
   obtain⟨_,_,h1⟩:=h'
   injection h1 with h1 _
   first|exact h1.symm|(simp at h1;omega)
  subst hb
  refine⟨⟨_,_,ES os args⟩,fun u v hc=> ?_⟩
  exact Sx.no_iface (ks:=Sx.tab32) (k:= .u8) (t:=202) (f:=(0,0)) (ES os args) hc⟩
end Go.Proofs.YtebbefpdncgoiaaGreatDoor

namespace Go.Sx
def D.r (x:Int):Option Int:=if 0≤x∧x≤18446744073709551615 then some (Lib.bitLen x.toNat) else none
end Go.Sx

namespace Go.Sx
def D.w1 (x:List Int):Option (List Int):=if x.length≤1000000 then some x else none
end Go.Sx

namespace Go.Sx
noncomputable def D.s (x0:Int):Option (Bool):=
 some (x0 !=x0)
noncomputable def D.b (x0:Int)(x1:Int):Option (Bool):=
 (D.s x0).bind fun y_1=>(cond y_1 ((D.s x1).bind fun y_27=>some (!y_27)) (some false)).bind fun b_25=>some (b_25||(decide (x0<x1)))
noncomputable def D.D (x0:(List Int))(x1:Int)(x2:Int)(x3_0:Int):Option (Int×Int×((List Int))×Int):=
 (idx x0 x2).bind fun e_1=>(idx x0 x1).bind fun e_7=>(D.b e_1 e_7).bind fun y_13=>cond y_13 (some (x2,x1,x0,(IntKind.i64.wrap (x3_0+1)))) (some (x1,x2,x0,x3_0))
noncomputable def D.N (x0:(List Int))(x1:Int)(x2:Int)(x3:Int)(x4_0:Int):Option (Int×((List Int))×Int):=
 (D.D x0 x1 x2 x4_0).bind fun y_1=>(D.D y_1.2.2.1 y_1.2.1 x3 y_1.2.2.2).bind fun y_10=>(D.D y_10.2.2.1 y_1.1 y_10.1 y_10.2.2.2).bind fun y_19=>some (y_19.2.1,y_19.2.2.1,y_19.2.2.2)
noncomputable def D.c0 (x0:(List Int))(x1:Int)(x2_0:Int):Option (Int×((List Int))×Int):=
 (D.N x0 (IntKind.i64.wrap (x1-1)) x1 (IntKind.i64.wrap (x1+1)) x2_0).bind fun y_1=>some (y_1.1,y_1.2.1,y_1.2.2)
noncomputable def D.s0 (x0:(List Int))(x1:Int)(x2:Int)(x3:Int):Option (((List Int))):=
 (Ap (σ:=(List Int)×Int) (ρ:=((List Int)) ⊕ (((List Int)))) (fun(s_186:(List Int)×Int)=>match s_186 with|(l_189,x_192)=>cond (decide (x2≤(IntKind.i64.wrap ((IntKind.i64.wrap (2*x_192))+1)))) (some (.inr (.inl l_189))) ((cond (decide ((IntKind.i64.wrap ((IntKind.i64.wrap ((IntKind.i64.wrap (2*x_192))+1))+1))<x2)) ((idx l_189 (IntKind.i64.wrap (x3+(IntKind.i64.wrap ((IntKind.i64.wrap (2*x_192))+1))))).bind fun e_307=>(idx l_189 (IntKind.i64.wrap ((IntKind.i64.wrap (x3+(IntKind.i64.wrap ((IntKind.i64.wrap (2*x_192))+1))))+1))).bind fun e_313=>(D.b e_307 e_313).bind fun y_319=>some y_319) (some false)).bind fun b_305=>((cond b_305 (some (IntKind.i64.wrap ((IntKind.i64.wrap ((IntKind.i64.wrap (2*x_192))+1))+1))) (some (IntKind.i64.wrap ((IntKind.i64.wrap (2*x_192))+1))):Option (Int))).bind fun x_328=>(idx l_189 (IntKind.i64.wrap (x3+x_192))).bind fun e_331=>(idx l_189 (IntKind.i64.wrap (x3+x_328))).bind fun e_337=>(D.b e_331 e_337).bind fun y_343=>cond (!y_343) (some (.inr (.inr l_189))) ((idx l_189 (IntKind.i64.wrap (x3+x_328))).bind fun e_349=>(idx l_189 (IntKind.i64.wrap (x3+x_192))).bind fun e_355=>(idx l_189 (IntKind.i64.wrap (x3+x_192))).bind fun e_361=>(idx (l_189.set (Int.toNat (IntKind.i64.wrap (x3+x_192))) e_349) (IntKind.i64.wrap (x3+x_328))).bind fun e_369=>some (.inl (((l_189.set (Int.toNat (IntKind.i64.wrap (x3+x_192))) e_349).set (Int.toNat (IntKind.i64.wrap (x3+x_328))) e_355),x_328))))) (x0,x1)).bind fun zz=>match zz with| .inl l_283=>(some l_283)| .inr z=>(some z)
noncomputable def D.z1 (x0:(List Int))(x1:Int)(x2:Int):Option (((List Int))):=
 (Ap (σ:=(List Int)×Int) (ρ:=((List Int))) (fun(s_30:(List Int)×Int)=>match s_30 with|(l_33,x_36)=>cond (decide ((0:Int)≤x_36)) ((D.s0 l_33 x_36 (IntKind.i64.wrap (x2-x1)) x1).bind fun y_54=>some (.inl (y_54,(IntKind.i64.wrap (x_36-1))))) (some (.inr l_33))) (x0,(IntKind.i64.wrap (Int.tdiv (IntKind.i64.wrap ((IntKind.i64.wrap (x2-x1))-1)) 2)))).bind fun l_49=>(Ap (σ:=(List Int)×Int) (ρ:=((List Int))) (fun(s_144:(List Int)×Int)=>match s_144 with|(l_147,x_150)=>cond (decide ((0:Int)≤x_150)) ((idx l_147 (IntKind.i64.wrap (x1+x_150))).bind fun e_194=>(idx l_147 x1).bind fun e_200=>(idx l_147 x1).bind fun e_206=>(idx (l_147.set (Int.toNat x1) e_194) (IntKind.i64.wrap (x1+x_150))).bind fun e_214=>(D.s0 ((l_147.set (Int.toNat x1) e_194).set (Int.toNat (IntKind.i64.wrap (x1+x_150))) e_200) 0 x_150 x1).bind fun y_220=>some (.inl (y_220,(IntKind.i64.wrap (x_150-1))))) (some (.inr l_147))) (l_49,(IntKind.i64.wrap ((IntKind.i64.wrap (x2-x1))-1)))).bind fun l_189=>some l_189
noncomputable def D.G0 (x0:(List Int))(x1:Int)(x2:Int):Option (((List Int))):=
 (Ap (σ:=(List Int)×Int) (ρ:=((List Int))) (fun(s_560:(List Int)×Int)=>match s_560 with|(l_563,x_566)=>cond (decide (x_566<x2)) ((Ap (σ:=(List Int)×Int) (ρ:=((List Int))) (fun(s_984:(List Int)×Int)=>match s_984 with|(l_987,x_990)=>(cond (decide (x1<x_990)) ((idx l_987 x_990).bind fun e_1079=>(idx l_987 (IntKind.i64.wrap (x_990-1))).bind fun e_1085=>(D.b e_1079 e_1085).bind fun y_1091=>some y_1091) (some false)).bind fun b_1077=>cond b_1077 ((idx l_987 (IntKind.i64.wrap (x_990-1))).bind fun e_1097=>(idx l_987 x_990).bind fun e_1103=>(idx l_987 x_990).bind fun e_1109=>(idx (l_987.set (Int.toNat x_990) e_1097) (IntKind.i64.wrap (x_990-1))).bind fun e_1117=>some (.inl (((l_987.set (Int.toNat x_990) e_1097).set (Int.toNat (IntKind.i64.wrap (x_990-1))) e_1103),(IntKind.i64.wrap (x_990-1))))) (some (.inr l_987))) (l_563,x_566)).bind fun l_1056=>some (.inl (l_1056,(IntKind.i64.wrap (x_566+1))))) (some (.inr l_563))) (x0,(IntKind.i64.wrap (x1+1)))).bind fun l_844=>some l_844
noncomputable def D.U0 (x0:(List Int))(x1:Int)(x2:Int):Option (((List Int))):=
 (Ap (σ:=(List Int)×Int×Int) (ρ:=((List Int))) (fun(s_65:(List Int)×Int×Int)=>match s_65 with|(l_68,x_71,x_72)=>cond (decide (x_71<x_72)) ((idx l_68 x_72).bind fun e_107=>(idx l_68 x_71).bind fun e_113=>(idx l_68 x_71).bind fun e_119=>(idx (l_68.set (Int.toNat x_71) e_107) x_72).bind fun e_127=>some (.inl (((l_68.set (Int.toNat x_71) e_107).set (Int.toNat x_72) e_113),(IntKind.i64.wrap (x_71+1)),(IntKind.i64.wrap (x_72-1))))) (some (.inr l_68))) (x0,x1,(IntKind.i64.wrap (x2-1)))).bind fun l_102=>some l_102
noncomputable def D.E0 (x0:(List Int))(x1:Int)(x2:Int):Option (Bool×((List Int))):=
 (Ap (σ:=(List Int)×Int×Int) (ρ:=((List Int)) ⊕ (Bool×((List Int)))) (fun(s_1625:(List Int)×Int×Int)=>match s_1625 with|(l_1628,x_1631,x_1632)=>cond (decide (x_1632<5)) ((Ap (σ:=Int) (ρ:=(Int)) (fun(x_2530:Int)=>(cond (decide (x_2530<x2)) ((idx l_1628 x_2530).bind fun e_2591=>(idx l_1628 (IntKind.i64.wrap (x_2530-1))).bind fun e_2597=>(D.b e_2591 e_2597).bind fun y_2603=>some (!y_2603)) (some false)).bind fun b_2589=>cond b_2589 (some (.inl (IntKind.i64.wrap (x_2530+1)))) (some (.inr x_2530))) x_1631).bind fun x_2570=>cond (x_2570==x2) (some (.inr (.inr (true,l_1628)))) (cond (decide ((IntKind.i64.wrap (x2-x1))<50)) (some (.inr (.inr (false,l_1628)))) ((idx l_1628 (IntKind.i64.wrap (x_2570-1))).bind fun e_2611=>(idx l_1628 x_2570).bind fun e_2617=>(idx l_1628 x_2570).bind fun e_2623=>(idx (l_1628.set (Int.toNat x_2570) e_2611) (IntKind.i64.wrap (x_2570-1))).bind fun e_2631=>((cond (decide ((2:Int)≤(IntKind.i64.wrap (x_2570-x1)))) ((Ap (σ:=(List Int)×Int) (ρ:=((List Int))) (fun(s_2947:(List Int)×Int)=>match s_2947 with|(l_2950,x_2953)=>cond (decide ((1:Int)≤x_2953)) ((idx l_2950 x_2953).bind fun e_3006=>(idx l_2950 (IntKind.i64.wrap (x_2953-1))).bind fun e_3012=>(D.b e_3006 e_3012).bind fun y_3018=>cond (!y_3018) (some (.inr l_2950)) ((idx l_2950 (IntKind.i64.wrap (x_2953-1))).bind fun e_3024=>(idx l_2950 x_2953).bind fun e_3030=>(idx l_2950 x_2953).bind fun e_3036=>(idx (l_2950.set (Int.toNat x_2953) e_3024) (IntKind.i64.wrap (x_2953-1))).bind fun e_3044=>some (.inl (((l_2950.set (Int.toNat x_2953) e_3024).set (Int.toNat (IntKind.i64.wrap (x_2953-1))) e_3030),(IntKind.i64.wrap (x_2953-1)))))) (some (.inr l_2950))) (((l_1628.set (Int.toNat x_2570) e_2611).set (Int.toNat (IntKind.i64.wrap (x_2570-1))) e_2617),(IntKind.i64.wrap (x_2570-1)))).bind fun l_3001=>some l_3001) (some ((l_1628.set (Int.toNat x_2570) e_2611).set (Int.toNat (IntKind.i64.wrap (x_2570-1))) e_2617)):Option ((List Int)))).bind fun l_2843=>cond (decide ((2:Int)≤(IntKind.i64.wrap (x2-x_2570)))) ((Ap (σ:=(List Int)×Int) (ρ:=((List Int))) (fun(s_3150:(List Int)×Int)=>match s_3150 with|(l_3153,x_3156)=>cond (decide (x_3156<x2)) ((idx l_3153 x_3156).bind fun e_3209=>(idx l_3153 (IntKind.i64.wrap (x_3156-1))).bind fun e_3215=>(D.b e_3209 e_3215).bind fun y_3221=>cond (!y_3221) (some (.inr l_3153)) ((idx l_3153 (IntKind.i64.wrap (x_3156-1))).bind fun e_3227=>(idx l_3153 x_3156).bind fun e_3233=>(idx l_3153 x_3156).bind fun e_3239=>(idx (l_3153.set (Int.toNat x_3156) e_3227) (IntKind.i64.wrap (x_3156-1))).bind fun e_3247=>some (.inl (((l_3153.set (Int.toNat x_3156) e_3227).set (Int.toNat (IntKind.i64.wrap (x_3156-1))) e_3233),(IntKind.i64.wrap (x_3156+1)))))) (some (.inr l_3153))) (l_2843,(IntKind.i64.wrap (x_2570+1)))).bind fun l_3204=>some (.inl (l_3204,x_2570,(IntKind.i64.wrap (x_1632+1))))) (some (.inl (l_2843,x_2570,(IntKind.i64.wrap (x_1632+1)))))))) (some (.inr (.inl l_1628)))) (x0,(IntKind.i64.wrap (x1+1)),0)).bind fun zz=>match zz with| .inl l_2442=>(some (false,l_2442))| .inr z=>(some z)
noncomputable def D.x0 (x0:(List Int))(x1:Int)(x2:Int)(x3:Int):Option (Int×((List Int))):=
 (idx x0 x3).bind fun e_1=>(idx x0 x1).bind fun e_7=>(idx x0 x1).bind fun e_13=>(idx (x0.set (Int.toNat x1) e_1) x3).bind fun e_21=>(Ap (σ:=(List Int)×Int×Int) (ρ:=((List Int)×Int)) (fun(s_739:(List Int)×Int×Int)=>match s_739 with|(l_742,x_745,x_746)=>(Ap (σ:=Int) (ρ:=(Int)) (fun(x_1188:Int)=>(cond (decide (x_1188≤x_746)) ((idx l_742 x1).bind fun e_1249=>(idx l_742 x_1188).bind fun e_1255=>(D.b e_1249 e_1255).bind fun y_1261=>some (!y_1261)) (some false)).bind fun b_1247=>cond b_1247 (some (.inl (IntKind.i64.wrap (x_1188+1)))) (some (.inr x_1188))) x_745).bind fun x_1228=>(Ap (σ:=Int) (ρ:=(Int)) (fun(x_1350:Int)=>(cond (decide (x_1228≤x_1350)) ((idx l_742 x1).bind fun e_1411=>(idx l_742 x_1350).bind fun e_1417=>(D.b e_1411 e_1417).bind fun y_1423=>some y_1423) (some false)).bind fun b_1409=>cond b_1409 (some (.inl (IntKind.i64.wrap (x_1350-1)))) (some (.inr x_1350))) x_746).bind fun x_1390=>cond (decide (x_1390<x_1228)) (some (.inr (l_742,x_1228))) ((idx l_742 x_1390).bind fun e_1430=>(idx l_742 x_1228).bind fun e_1436=>(idx l_742 x_1228).bind fun e_1442=>(idx (l_742.set (Int.toNat x_1228) e_1430) x_1390).bind fun e_1450=>some (.inl (((l_742.set (Int.toNat x_1228) e_1430).set (Int.toNat x_1390) e_1436),(IntKind.i64.wrap (x_1228+1)),(IntKind.i64.wrap (x_1390-1)))))) (((x0.set (Int.toNat x1) e_1).set (Int.toNat x3) e_7),(IntKind.i64.wrap (x1+1)),(IntKind.i64.wrap (x2-1)))).bind fun(l_1100,x_1103)=>some (x_1103,l_1100)
noncomputable def D.Q0 (x0:(List Int))(x1:Int)(x2:Int)(x3:Int):Option (Int×Bool×((List Int))):=
 (idx x0 x3).bind fun e_1=>(idx x0 x1).bind fun e_7=>(idx x0 x1).bind fun e_13=>(idx (x0.set (Int.toNat x1) e_1) x3).bind fun e_21=>(Ap (σ:=Int) (ρ:=(Int)) (fun(x_110:Int)=>(cond (decide (x_110≤(IntKind.i64.wrap (x2-1)))) ((idx ((x0.set (Int.toNat x1) e_1).set (Int.toNat x3) e_7) x_110).bind fun e_171=>(idx ((x0.set (Int.toNat x1) e_1).set (Int.toNat x3) e_7) x1).bind fun e_177=>(D.b e_171 e_177).bind fun y_183=>some y_183) (some false)).bind fun b_169=>cond b_169 (some (.inl (IntKind.i64.wrap (x_110+1)))) (some (.inr x_110))) (IntKind.i64.wrap (x1+1))).bind fun x_150=>(Ap (σ:=Int) (ρ:=(Int)) (fun(x_272:Int)=>(cond (decide (x_150≤x_272)) ((idx ((x0.set (Int.toNat x1) e_1).set (Int.toNat x3) e_7) x_272).bind fun e_333=>(idx ((x0.set (Int.toNat x1) e_1).set (Int.toNat x3) e_7) x1).bind fun e_339=>(D.b e_333 e_339).bind fun y_345=>some (!y_345)) (some false)).bind fun b_331=>cond b_331 (some (.inl (IntKind.i64.wrap (x_272-1)))) (some (.inr x_272))) (IntKind.i64.wrap (x2-1))).bind fun x_312=>cond (decide (x_312<x_150)) ((idx ((x0.set (Int.toNat x1) e_1).set (Int.toNat x3) e_7) x1).bind fun e_352=>(idx ((x0.set (Int.toNat x1) e_1).set (Int.toNat x3) e_7) x_312).bind fun e_358=>(idx ((x0.set (Int.toNat x1) e_1).set (Int.toNat x3) e_7) x_312).bind fun e_364=>(idx (((x0.set (Int.toNat x1) e_1).set (Int.toNat x3) e_7).set (Int.toNat x_312) e_352) x1).bind fun e_372=>some (x_312,true,((((x0.set (Int.toNat x1) e_1).set (Int.toNat x3) e_7).set (Int.toNat x_312) e_352).set (Int.toNat x1) e_358))) ((idx ((x0.set (Int.toNat x1) e_1).set (Int.toNat x3) e_7) x_312).bind fun e_378=>(idx ((x0.set (Int.toNat x1) e_1).set (Int.toNat x3) e_7) x_150).bind fun e_384=>(idx ((x0.set (Int.toNat x1) e_1).set (Int.toNat x3) e_7) x_150).bind fun e_390=>(idx (((x0.set (Int.toNat x1) e_1).set (Int.toNat x3) e_7).set (Int.toNat x_150) e_378) x_312).bind fun e_398=>(Ap (σ:=(List Int)×Int×Int) (ρ:=((List Int)×Int)) (fun(s_1116:(List Int)×Int×Int)=>match s_1116 with|(l_1119,x_1122,x_1123)=>(Ap (σ:=Int) (ρ:=(Int)) (fun(x_1565:Int)=>(cond (decide (x_1565≤x_1123)) ((idx l_1119 x_1565).bind fun e_1626=>(idx l_1119 x1).bind fun e_1632=>(D.b e_1626 e_1632).bind fun y_1638=>some y_1638) (some false)).bind fun b_1624=>cond b_1624 (some (.inl (IntKind.i64.wrap (x_1565+1)))) (some (.inr x_1565))) x_1122).bind fun x_1605=>(Ap (σ:=Int) (ρ:=(Int)) (fun(x_1727:Int)=>(cond (decide (x_1605≤x_1727)) ((idx l_1119 x_1727).bind fun e_1788=>(idx l_1119 x1).bind fun e_1794=>(D.b e_1788 e_1794).bind fun y_1800=>some (!y_1800)) (some false)).bind fun b_1786=>cond b_1786 (some (.inl (IntKind.i64.wrap (x_1727-1)))) (some (.inr x_1727))) x_1123).bind fun x_1767=>cond (decide (x_1767<x_1605)) (some (.inr (l_1119,x_1767))) ((idx l_1119 x_1767).bind fun e_1807=>(idx l_1119 x_1605).bind fun e_1813=>(idx l_1119 x_1605).bind fun e_1819=>(idx (l_1119.set (Int.toNat x_1605) e_1807) x_1767).bind fun e_1827=>some (.inl (((l_1119.set (Int.toNat x_1605) e_1807).set (Int.toNat x_1767) e_1813),(IntKind.i64.wrap (x_1605+1)),(IntKind.i64.wrap (x_1767-1)))))) (((((x0.set (Int.toNat x1) e_1).set (Int.toNat x3) e_7).set (Int.toNat x_150) e_378).set (Int.toNat x_312) e_384),(IntKind.i64.wrap (x_150+1)),(IntKind.i64.wrap (x_312-1)))).bind fun(l_1477,x_1480)=>(idx l_1477 x1).bind fun e_1833=>(idx l_1477 x_1480).bind fun e_1839=>(idx l_1477 x_1480).bind fun e_1845=>(idx (l_1477.set (Int.toNat x_1480) e_1833) x1).bind fun e_1853=>some (x_1480,false,((l_1477.set (Int.toNat x_1480) e_1833).set (Int.toNat x1) e_1839)))
noncomputable def D.z (x0:Int):Option (Int):=
 (D.r (IntKind.u64.wrap x0)).bind fun y_1=>cond (decide (y_1<0)) none (some (ishl .u64 1 y_1))
noncomputable def D.K (x0_0:Int):Option (Int×Int):=
 some ((A7 .u64 (A7 .u64 (A7 .u64 x0_0 (ishl .u64 x0_0 13)) (BJ .u64 (A7 .u64 x0_0 (ishl .u64 x0_0 13)) 7)) (ishl .u64 (A7 .u64 (A7 .u64 x0_0 (ishl .u64 x0_0 13)) (BJ .u64 (A7 .u64 x0_0 (ishl .u64 x0_0 13)) 7)) 17)),(A7 .u64 (A7 .u64 (A7 .u64 x0_0 (ishl .u64 x0_0 13)) (BJ .u64 (A7 .u64 x0_0 (ishl .u64 x0_0 13)) 7)) (ishl .u64 (A7 .u64 (A7 .u64 x0_0 (ishl .u64 x0_0 13)) (BJ .u64 (A7 .u64 x0_0 (ishl .u64 x0_0 13)) 7)) 17)))
noncomputable def D.C0 (x0:(List Int))(x1:Int)(x2:Int):Option (((List Int))):=
 cond (decide ((8:Int)≤(IntKind.i64.wrap (x2-x1)))) ((D.z (IntKind.i64.wrap (x2-x1))).bind fun y_4=>(Ap (σ:=(List Int)×Int×Int) (ρ:=((List Int))) (fun(s_103:(List Int)×Int×Int)=>match s_103 with|(l_106,x_109,x_110)=>cond (decide (x_109≤(IntKind.i64.wrap ((IntKind.i64.wrap (x1+(IntKind.i64.wrap ((IntKind.i64.wrap (Int.tdiv (IntKind.i64.wrap (x2-x1)) 4))*2))))+1)))) ((D.K x_110).bind fun y_159=>((cond (decide ((IntKind.i64.wrap (x2-x1))≤(IntKind.i64.wrap (iand .u64 y_159.1 (IntKind.u64.wrap (y_4-1)))))) (some (IntKind.i64.wrap ((IntKind.i64.wrap (iand .u64 y_159.1 (IntKind.u64.wrap (y_4-1))))-(IntKind.i64.wrap (x2-x1))))) (some (IntKind.i64.wrap (iand .u64 y_159.1 (IntKind.u64.wrap (y_4-1))))):Option (Int))).bind fun x_170=>(idx l_106 (IntKind.i64.wrap (x1+x_170))).bind fun e_173=>(idx l_106 x_109).bind fun e_179=>(idx l_106 x_109).bind fun e_185=>(idx (l_106.set (Int.toNat x_109) e_173) (IntKind.i64.wrap (x1+x_170))).bind fun e_193=>some (.inl (((l_106.set (Int.toNat x_109) e_173).set (Int.toNat (IntKind.i64.wrap (x1+x_170))) e_179),(IntKind.i64.wrap (x_109+1)),y_159.2))) (some (.inr l_106))) (x0,(IntKind.i64.wrap ((IntKind.i64.wrap (x1+(IntKind.i64.wrap ((IntKind.i64.wrap (Int.tdiv (IntKind.i64.wrap (x2-x1)) 4))*2))))-1)),(IntKind.u64.wrap (IntKind.i64.wrap (x2-x1))))).bind fun l_154=>some l_154) (some x0)
noncomputable def D.k0 (x0:(List Int))(x1:Int)(x2:Int):Option (Int×Int×((List Int))):=
 cond (decide ((8:Int)≤(IntKind.i64.wrap (x2-x1)))) (((cond (decide ((50:Int)≤(IntKind.i64.wrap (x2-x1)))) ((D.c0 x0 (IntKind.i64.wrap (x1+(IntKind.i64.wrap ((IntKind.i64.wrap (Int.tdiv (IntKind.i64.wrap (x2-x1)) 4))*1)))) 0).bind fun y_44=>(D.c0 y_44.2.1 (IntKind.i64.wrap (x1+(IntKind.i64.wrap ((IntKind.i64.wrap (Int.tdiv (IntKind.i64.wrap (x2-x1)) 4))*2)))) y_44.2.2).bind fun y_53=>(D.c0 y_53.2.1 (IntKind.i64.wrap (x1+(IntKind.i64.wrap ((IntKind.i64.wrap (Int.tdiv (IntKind.i64.wrap (x2-x1)) 4))*3)))) y_53.2.2).bind fun y_62=>some (y_62.2.1,y_44.1,y_53.1,y_62.1,y_62.2.2)) (some (x0,(IntKind.i64.wrap (x1+(IntKind.i64.wrap ((IntKind.i64.wrap (Int.tdiv (IntKind.i64.wrap (x2-x1)) 4))*1)))),(IntKind.i64.wrap (x1+(IntKind.i64.wrap ((IntKind.i64.wrap (Int.tdiv (IntKind.i64.wrap (x2-x1)) 4))*2)))),(IntKind.i64.wrap (x1+(IntKind.i64.wrap ((IntKind.i64.wrap (Int.tdiv (IntKind.i64.wrap (x2-x1)) 4))*3)))),0)):Option ((List Int)×Int×Int×Int×Int))).bind fun(l_35,x_38,x_39,x_40,x_41)=>(D.N l_35 x_38 x_39 x_40 x_41).bind fun y_71=>cond (y_71.2.2==0) (some (y_71.1,1,y_71.2.1)) (cond (y_71.2.2==12) (some (y_71.1,2,y_71.2.1)) (some (y_71.1,0,y_71.2.1)))) (cond ((0:Int)==0) (some ((IntKind.i64.wrap (x1+(IntKind.i64.wrap ((IntKind.i64.wrap (Int.tdiv (IntKind.i64.wrap (x2-x1)) 4))*2)))),1,x0)) (cond ((0:Int)==12) (some ((IntKind.i64.wrap (x1+(IntKind.i64.wrap ((IntKind.i64.wrap (Int.tdiv (IntKind.i64.wrap (x2-x1)) 4))*2)))),2,x0)) (some ((IntKind.i64.wrap (x1+(IntKind.i64.wrap ((IntKind.i64.wrap (Int.tdiv (IntKind.i64.wrap (x2-x1)) 4))*2)))),0,x0))))
noncomputable def D.I :Nat→((List Int))→Int→Int→Int→Option (((List Int)))
 |0,_,_,_,_=>none
 |fuel+1,x0,x1,x2,x3=>(Ap (σ:=(List Int)×Int×Int×Int×Bool×Bool) (ρ:=(((List Int)))) (fun(s_398:(List Int)×Int×Int×Int×Bool×Bool)=>match s_398 with|(l_401,x_404,x_405,x_406,b_407,b_408)=>cond (decide ((IntKind.i64.wrap (x_405-x_404))≤12)) ((D.G0 l_401 x_404 x_405).bind fun y_411=>some (.inr y_411)) (cond (x_406==0) ((D.z1 l_401 x_404 x_405).bind fun y_421=>some (.inr y_421)) (((cond (!b_407) ((D.C0 l_401 x_404 x_405).bind fun y_449=>some (y_449,(IntKind.i64.wrap (x_406-1)))) (some (l_401,x_406)):Option ((List Int)×Int))).bind fun(l_443,x_446)=>(D.k0 l_443 x_404 x_405).bind fun y_458=>((cond (y_458.2.1==2) ((D.U0 y_458.2.2 x_404 x_405).bind fun y_487=>some (y_487,(IntKind.i64.wrap ((IntKind.i64.wrap (x_405-1))-(IntKind.i64.wrap (y_458.1-x_404)))),1)) (some (y_458.2.2,y_458.1,y_458.2.1)):Option ((List Int)×Int×Int))).bind fun(l_480,x_483,x_484)=>((cond ((b_407&&b_408)&&(x_484==1)) ((D.E0 l_480 x_404 x_405).bind fun y_521=>cond y_521.1 (some (.inr y_521.2)) (some (.inl y_521.2))) (some (.inl l_480)):Option (((List Int)) ⊕ (((List Int)))))).bind fun q=>match q with| .inl l_516=>((cond (decide ((0:Int)<x_404)) ((idx l_516 (IntKind.i64.wrap (x_404-1))).bind fun e_550=>(idx l_516 x_483).bind fun e_556=>(D.b e_550 e_556).bind fun y_562=>some (!y_562)) (some false)).bind fun b_548=>cond b_548 ((D.x0 l_516 x_404 x_405 x_483).bind fun y_568=>some (.inl (y_568.2,y_568.1,x_405,x_446,b_407,b_408))) ((D.Q0 l_516 x_404 x_405 x_483).bind fun y_577=>cond (decide ((IntKind.i64.wrap (y_577.1-x_404))<(IntKind.i64.wrap (x_405-y_577.1)))) ((D.I fuel y_577.2.2 x_404 y_577.1 x_446).bind fun y_587=>some (.inl (y_587,(IntKind.i64.wrap (y_577.1+1)),x_405,x_446,(decide ((IntKind.i64.wrap (Int.tdiv (IntKind.i64.wrap (x_405-x_404)) 8))≤(IntKind.i64.wrap (y_577.1-x_404)))),y_577.2.1))) ((D.I fuel y_577.2.2 (IntKind.i64.wrap (y_577.1+1)) x_405 x_446).bind fun y_596=>some (.inl (y_596,x_404,y_577.1,x_446,(decide ((IntKind.i64.wrap (Int.tdiv (IntKind.i64.wrap (x_405-x_404)) 8))≤(IntKind.i64.wrap (x_405-y_577.1)))),y_577.2.1)))))| .inr q=>(some (.inr q))))) (x0,x1,x2,x3,true,true)).bind fun z=>some z
noncomputable def D.n (x0:(List Int))(x1:Int)(x2:Int)(x3:Int):Option (((List Int))):=D.I CU x0 x1 x2 x3
noncomputable def D.x1 (x0:(List Int)):Option (((List Int))):=
 (D.r (IntKind.u64.wrap (x0.length:Int))).bind fun y_1=>(D.n x0 0 (x0.length:Int) y_1).bind fun y_8=>some y_8
noncomputable def D.Z0 (x0:(List Int)):Option (((List Int))):=
 (D.w1 x0).bind fun y_1=>some y_1
noncomputable def D.p0 (x0:(List Int)):Option (((List Int))):=
 (D.Z0 x0).bind fun y_1=>(D.x1 y_1).bind fun y_12=>some y_12
noncomputable def D.e (x0:Int)(x1:Int)(x2:Int):Option (Bool):=
 some ((decide (x1≤x0))&&(decide (x0≤x2)))
noncomputable def D.h (x0:(List Int))(x1:Int):Option (Bool):=
 (Ap (σ:=Int) (ρ:=(Unit) ⊕ (Bool)) (fun(x_26:Int)=>cond (decide (x_26<(x0.length:Int))) ((idx x0 x_26).bind fun e_39=>cond (e_39==x1) (some (.inr (.inr true))) (some (.inl (IntKind.i64.wrap (x_26+1))))) (some (.inr (.inl ())))) 0).bind fun zz=>match zz with| .inl _=>(some false)| .inr z=>(some z)
noncomputable def D.d (x0_0:(List (List Int))):Option (Int):=
 some (x0_0.length:Int)
noncomputable def D.g (x0:(List Int)):Option (((List Int))):=
 (AV ([]:List Int) x0).bind fun l_5=>some l_5
noncomputable def D.q (x0:(List Int))(x1:Int):Option (Bool):=
 cond (decide (x1<(x0.length:Int))) (some false) ((Ap (σ:=Int) (ρ:=(Unit) ⊕ (Bool)) (fun(x_157:Int)=>cond (decide (x_157<(x0.length:Int))) ((idx x0 x_157).bind fun e_235=>(D.e e_235 0 (IntKind.i64.wrap (x1-1))).bind fun y_241=>(cond (!y_241) (some true) ((cond (decide ((0:Int)<x_157)) ((idx x0 x_157).bind fun e_292=>(idx x0 (IntKind.i64.wrap (x_157-1))).bind fun e_298=>some (decide (e_292≤e_298))) (some false)).bind fun b_290=>some b_290)).bind fun b_274=>cond b_274 (some (.inr (.inr false))) (some (.inl (IntKind.i64.wrap (x_157+1))))) (some (.inr (.inl ())))) 0).bind fun zz=>match zz with| .inl _=>(some true)| .inr z=>(some z))
noncomputable def D.W (x0_0:(List (List Int))):Option (Bool):=
 (D.d x0_0).bind fun y_3=>(D.e y_3 1 16).bind fun y_10=>cond (!y_10) (some false) ((Ap (σ:=Int) (ρ:=(Unit) ⊕ (Bool)) (fun(x_145:Int)=>cond (decide (x_145<y_3)) ((idx x0_0 x_145).bind fun e_209=>(D.q e_209 y_3).bind fun y_215=>(cond (!y_215) (some true) ((idx x0_0 x_145).bind fun e_253=>(D.h e_253 x_145).bind fun y_259=>some y_259)).bind fun b_251=>cond b_251 (some (.inr (.inr false))) (some (.inl (IntKind.i64.wrap (x_145+1))))) (some (.inr (.inl ())))) 0).bind fun zz=>match zz with| .inl _=>((Ap (σ:=Int) (ρ:=(Unit) ⊕ (Bool)) (fun(x_552:Int)=>cond (decide (x_552<y_3)) ((Ap (σ:=Int) (ρ:=(Unit) ⊕ (Bool)) (fun(x_766:Int)=>(idx x0_0 x_552).bind fun e_801=>cond (decide (x_766<(e_801.length:Int))) ((idx x0_0 x_552).bind fun e_808=>(idx e_808 x_766).bind fun e_814=>(idx x0_0 e_814).bind fun e_820=>(D.h e_820 x_552).bind fun y_826=>cond (!y_826) (some (.inr (.inr false))) (some (.inl (IntKind.i64.wrap (x_766+1))))) (some (.inr (.inl ())))) 0).bind fun zz=>match zz with| .inl _=>(some (.inl (IntKind.i64.wrap (x_552+1))))| .inr z=>(some (.inr (.inr z)))) (some (.inr (.inl ())))) 0).bind fun zz=>match zz with| .inl _=>(some true)| .inr z=>(some z))| .inr z=>(some z))
noncomputable def D.i1 (x0_0:(List (List Int)))(x1:Int):Option (Bool):=
 (D.d x0_0).bind fun y_3=>(D.e x1 0 (IntKind.i64.wrap (y_3-1))).bind fun y_10=>some y_10
noncomputable def D.u1 (x0_0:(List (List Int)))(x1:(List Int)):Option (Bool):=
 (D.d x0_0).bind fun y_3=>cond ((x1.length:Int) !=y_3) (some false) ((Ap (σ:=Int) (ρ:=(Unit) ⊕ (Bool)) (fun(x_106:Int)=>cond (decide (x_106<(x1.length:Int))) ((idx x1 x_106).bind fun e_154=>(D.i1 x0_0 e_154).bind fun y_160=>(cond (!y_160) (some true) ((CC x1 0 x_106).bind fun l_180=>(idx x1 x_106).bind fun e_184=>(D.h l_180 e_184).bind fun y_190=>some y_190)).bind fun b_178=>cond b_178 (some (.inr (.inr false))) (some (.inl (IntKind.i64.wrap (x_106+1))))) (some (.inr (.inl ())))) 0).bind fun zz=>match zz with| .inl _=>(some true)| .inr z=>(some z))
noncomputable def D.f0 (x0_0:(List (List Int)))(x1:(List Int)):Option (Bool):=
 (D.W x0_0).bind fun y_3=>(cond y_3 ((D.u1 x0_0 x1).bind fun y_29=>some y_29) (some false)).bind fun b_27=>some b_27
noncomputable def D.t (x0:(List Int))(x1:Int):Option (((List Int))):=
 (Ap (σ:=Int) (ρ:=(Int)) (fun(x_58:Int)=>(cond (decide (x_58<(x0.length:Int))) ((idx x0 x_58).bind fun e_104=>some (decide (e_104<x1))) (some false)).bind fun b_102=>cond b_102 (some (.inl (IntKind.i64.wrap (x_58+1)))) (some (.inr x_58))) 0).bind fun x_85=>(cond (decide (x_85<(x0.length:Int))) ((idx x0 x_85).bind fun e_128=>some (e_128==x1)) (some false)).bind fun b_126=>cond b_126 (some x0) ((CC x0 0 x_85).bind fun l_135=>(D.g l_135).bind fun y_139=>(AV y_139 ([x1]:List Int)).bind fun l_154=>(CC x0 x_85 (x0.length:Int)).bind fun l_160=>(AV l_154 l_160).bind fun l_164=>some l_164)
noncomputable def D.f1 (x0:Int)(x1:Int)(x2:Int):Option (Bool):=
 some ((decide (x1≤x0))&&(decide (x0≤x2)))
noncomputable def D.w (x0:(List Int))(x1:Int):Option (Bool):=
 (Ap (σ:=Int) (ρ:=(Unit) ⊕ (Bool)) (fun(x_188:Int)=>cond (decide (x_188<(x0.length:Int))) ((idx x0 x_188).bind fun e_282=>(D.f1 e_282 0 (IntKind.i64.wrap (x1-1))).bind fun y_288=>(cond (!y_288) (some true) ((cond (decide ((0:Int)<x_188)) ((idx x0 (IntKind.i64.wrap (x_188-1))).bind fun e_363=>some (decide (e_282≤e_363))) (some false)).bind fun b_361=>some b_361)).bind fun b_344=>cond b_344 (some (.inr (.inr false))) (some (.inl (IntKind.i64.wrap (x_188+1))))) (some (.inr (.inl ())))) 0).bind fun zz=>match zz with| .inl _=>(some true)| .inr z=>(some z)
noncomputable def D.v1 (x0:(List Int))(x1:Int):Option (Int):=
 (Ap (σ:=Int) (ρ:=(Unit) ⊕ (Int)) (fun(x_26:Int)=>cond (decide (x_26<(x0.length:Int))) ((idx x0 x_26).bind fun e_39=>cond (x1==e_39) (some (.inr (.inr x_26))) (some (.inl (IntKind.i64.wrap (x_26+1))))) (some (.inr (.inl ())))) 0).bind fun zz=>match zz with| .inl _=>(some (-1))| .inr z=>(some z)
noncomputable def D.E (x0:(List Int))(x1:Int):Option (Bool):=
 (D.v1 x0 x1).bind fun y_1=>some (decide ((0:Int)≤y_1))
noncomputable def D.F (x0_0:(List (List Int))):Option (Bool):=
 cond ((decide ((x0_0.length:Int)<1))||(decide ((16:Int)<(x0_0.length:Int)))) (some false) ((Ap (σ:=Int) (ρ:=(Unit) ⊕ (Bool)) (fun(x_98:Int)=>cond (decide (x_98<(x0_0.length:Int))) ((idx x0_0 x_98).bind fun e_144=>(D.w e_144 (x0_0.length:Int)).bind fun y_150=>(cond (!y_150) (some true) ((D.E e_144 x_98).bind fun y_176=>some y_176)).bind fun b_174=>cond b_174 (some (.inr (.inr false))) (some (.inl (IntKind.i64.wrap (x_98+1))))) (some (.inr (.inl ())))) 0).bind fun zz=>match zz with| .inl _=>((Ap (σ:=Int) (ρ:=(Unit) ⊕ (Bool)) (fun(x_401:Int)=>cond (decide (x_401<(x0_0.length:Int))) ((idx x0_0 x_401).bind fun e_510=>(Ap (σ:=Int) (ρ:=(Unit) ⊕ (Bool)) (fun(x_567:Int)=>cond (decide (x_567<(e_510.length:Int))) ((idx e_510 x_567).bind fun e_593=>(idx x0_0 e_593).bind fun e_599=>(D.E e_599 x_401).bind fun y_605=>cond (!y_605) (some (.inr (.inr false))) (some (.inl (IntKind.i64.wrap (x_567+1))))) (some (.inr (.inl ())))) 0).bind fun zz=>match zz with| .inl _=>(some (.inl (IntKind.i64.wrap (x_401+1))))| .inr z=>(some (.inr (.inr z)))) (some (.inr (.inl ())))) 0).bind fun zz=>match zz with| .inl _=>(some true)| .inr z=>(some z))| .inr z=>(some z))
noncomputable def D.c (x0:Int):Option (Int):=
 cond (decide (x0<0)) none (some (ishl .u32 1 x0))
noncomputable def D.U (x0:(List Int)):Option (Int):=
 (Ap (σ:=Int×Int) (ρ:=(Int)) (fun(s_36:Int×Int)=>match s_36 with|(x_39,x_40)=>cond (decide (x_40<(x0.length:Int))) ((idx x0 x_40).bind fun e_60=>(D.c e_60).bind fun y_66=>some (.inl ((ior .u32 x_39 y_66),(IntKind.i64.wrap (x_40+1))))) (some (.inr x_39))) (0,0)).bind fun x_57=>some x_57
noncomputable def D.v (x0_0:(List (List Int))):Option (((List Int))):=
 (Ap (σ:=(List Int)×Int) (ρ:=((List Int))) (fun(s_66:(List Int)×Int)=>match s_66 with|(l_69,x_74)=>cond (decide (x_74<(x0_0.length:Int))) ((idx x0_0 x_74).bind fun e_108=>(D.U e_108).bind fun y_114=>(AV l_69 ([y_114]:List Int)).bind fun l_125=>some (.inl (l_125,(IntKind.i64.wrap (x_74+1))))) (some (.inr l_69))) (([]:List Int),0)).bind fun l_101=>some l_101
noncomputable def D.g0 (x0:(List Int)):Option (((List Int))):=
 (CX (0:Int) 0 (x0.length:Int)).bind fun l_1=>(Ap (σ:=(List Int)×Int) (ρ:=((List Int))) (fun(s_52:(List Int)×Int)=>match s_52 with|(l_55,x_60)=>cond (decide (x_60<(x0.length:Int))) ((idx x0 x_60).bind fun e_87=>(AV l_55 ([e_87]:List Int)).bind fun l_97=>some (.inl (l_97,(IntKind.i64.wrap (x_60+1))))) (some (.inr l_55))) (l_1,0)).bind fun l_80=>some l_80
noncomputable def D.l1 (x0:Int):Option (Int):=
 cond (x0==0) (some 32) ((idx tab32 (BJ .u32 (IntKind.u32.wrap ((iand .u32 x0 (IntKind.u32.wrap (0-x0)))*125613361)) 27)).bind fun e_3=>some (IntKind.i64.wrap e_3))
noncomputable def D.G (x0:Int):Option (Int):=
 (D.l1 x0).bind fun y_1=>some y_1
noncomputable def D.i (x0:Int):Option (((List Int))):=
 (Ap (σ:=Int×(List Int)) (ρ:=((List Int))) (fun(s_52:Int×(List Int))=>match s_52 with|(x_55,l_56)=>cond (x_55 !=0) ((D.G x_55).bind fun y_88=>(AV l_56 ([y_88]:List Int)).bind fun l_99=>some (.inl ((iand .u32 x_55 (IntKind.u32.wrap (x_55-1))),l_99))) (some (.inr l_56))) (x0,([]:List Int))).bind fun l_81=>some l_81
noncomputable def D.Q (x0:(List Int)):Option (((List Int))):=
 (CX (0:Int) 0 (x0.length:Int)).bind fun l_1=>(Ap (σ:=(List Int)×Int) (ρ:=((List Int))) (fun(s_52:(List Int)×Int)=>match s_52 with|(l_55,x_60)=>cond (decide (x_60<(x0.length:Int))) ((idx x0 x_60).bind fun e_87=>(AV l_55 ([e_87]:List Int)).bind fun l_97=>some (.inl (l_97,(IntKind.i64.wrap (x_60+1))))) (some (.inr l_55))) (l_1,0)).bind fun l_80=>some l_80
noncomputable def D.H (x0:Int):Option (((List Int))):=
 (D.i x0).bind fun y_1=>(D.Q y_1).bind fun y_12=>some y_12
noncomputable def D.J0 (x0:(List Int)):Option (((List (List Int)))):=
 (Ap (σ:=(List (List Int))×Int) (ρ:=((List (List Int)))) (fun(s_74:(List (List Int))×Int)=>match s_74 with|(l_77,x_82)=>cond (decide (x_82<(x0.length:Int))) ((idx x0 x_82).bind fun e_120=>(D.H e_120).bind fun y_126=>(AV l_77 [y_126]).bind fun l_141=>some (.inl (l_141,(IntKind.i64.wrap (x_82+1))))) (some (.inr l_77))) (([]:List (List Int)),0)).bind fun l_113=>some l_113
noncomputable def D.R (x0:Int)(x1:Int):Option (((List Int))):=
 some ([(if x1<x0 then x1 else x0),(if x0<x1 then x1 else x0)]:List Int)
noncomputable def D.X (x0_0:(List (List Int)))(x1:(List Int)):Option (Bool):=
 (D.F x0_0).bind fun y_3=>cond ((!y_3)||((x1.length:Int) !=(x0_0.length:Int))) (some false) ((D.p0 x1).bind fun y_21=>(D.w y_21 (x0_0.length:Int)).bind fun y_32=>some y_32)
noncomputable def D.c1 (x0:(List Int)):Option (Bool):=
 some (decide ((4096:Int)<(x0.length:Int)))
noncomputable def D.H0 (x0:(List Int))(x1:Int):Option (((List Int))×Int×Int):=
 (Ap (σ:=Int×Int) (ρ:=(Int)) (fun(s_29:Int×Int)=>match s_29 with|(x_32,x_33)=>cond (decide (x_32<(x0.length:Int))) ((idx x0 x_32).bind fun e_48=>some (.inl ((IntKind.i64.wrap (x_32+1)),(IntKind.u64.wrap ((IntKind.u64.wrap ((IntKind.u64.wrap (x_33*1099511628211))+(IntKind.u64.wrap e_48)))+3))))) (some (.inr x_33))) (0,(IntKind.u64.wrap ((IntKind.u64.wrap (x1*7919))+(IntKind.u64.wrap (x0.length:Int)))))).bind fun x_45=>some (x0,0,x_45)
noncomputable def D.k (x0_0:(List Int))(x0_1:Int)(x0_2:Int)(x1:Int):Option (Int×((List Int))×Int×Int):=
 cond (decide (x0_1<(x0_0.length:Int))) ((idx x0_0 x0_1).bind fun e_5=>cond (x1==0) none (some ((Int.tmod (IntKind.i64.wrap ((IntKind.i64.wrap (iand .u64 (BJ .u64 (IntKind.u64.wrap ((IntKind.u64.wrap (x0_2*6364136223846793005))+1442695040888963407)) 33) 16777215))+(IntKind.i64.wrap e_5))) x1),x0_0,(IntKind.i64.wrap (x0_1+1)),(IntKind.u64.wrap ((IntKind.u64.wrap (x0_2*6364136223846793005))+1442695040888963407))))) (cond (x1==0) none (some ((Int.tmod (IntKind.i64.wrap (iand .u64 (BJ .u64 (IntKind.u64.wrap ((IntKind.u64.wrap (x0_2*6364136223846793005))+1442695040888963407)) 33) 16777215)) x1),x0_0,x0_1,(IntKind.u64.wrap ((IntKind.u64.wrap (x0_2*6364136223846793005))+1442695040888963407)))))
noncomputable def D.D0 (x0:Int):Option (((List (List Int)))):=
 (Ap (σ:=Int×(List (List Int))) (ρ:=((List (List Int)))) (fun(s_56:Int×(List (List Int)))=>match s_56 with|(x_62,l_63)=>cond (decide (x_62<x0)) ((AV l_63 ([([]:List Int)]:List (List Int))).bind fun l_106=>some (.inl ((IntKind.i64.wrap (x_62+1)),l_106))) (some (.inr l_63))) (0,([]:List (List Int)))).bind fun l_88=>some l_88
noncomputable def D.J (x0_0:(List (List Int)))(x1:Int)(x2:Int):Option (((List (List Int)))):=
 (idx x0_0 x1).bind fun e_5=>(D.t e_5 x2).bind fun y_14=>(idx x0_0 x1).bind fun e_23=>(idx (x0_0.set (Int.toNat x1) y_14) x2).bind fun e_31=>(D.t e_31 x1).bind fun y_40=>(idx (x0_0.set (Int.toNat x1) y_14) x2).bind fun e_49=>some ((x0_0.set (Int.toNat x1) y_14).set (Int.toNat x2) y_40)
noncomputable def D.i0 (x0:Int)(x1:(List (List Int))):Option (((List (List Int)))×Bool):=
 (D.e x0 1 16).bind fun y_3=>cond ((!y_3)||(decide ((120:Int)<(x1.length:Int)))) (some (([]:List (List Int)),false)) ((D.D0 x0).bind fun y_19=>(Ap (σ:=Int×(List (List Int))) (ρ:=((List (List Int))) ⊕ (((List (List Int)))×Bool)) (fun(s_217:Int×(List (List Int)))=>match s_217 with|(x_220,l_221)=>cond (decide (x_220<(x1.length:Int))) ((idx x1 x_220).bind fun e_319=>(cond ((e_319.length:Int) !=2) (some true) ((idx x1 x_220).bind fun e_356=>(D.q e_356 x0).bind fun y_362=>some (!y_362))).bind fun b_354=>cond b_354 (some (.inr (.inr (([]:List (List Int)),false)))) ((idx x1 x_220).bind fun e_375=>(idx e_375 0).bind fun e_381=>(idx x1 x_220).bind fun e_387=>(idx e_387 1).bind fun e_393=>(D.J l_221 e_381 e_393).bind fun y_401=>some (.inl ((IntKind.i64.wrap (x_220+1)),y_401)))) (some (.inr (.inl l_221)))) (0,y_19)).bind fun zz=>match zz with| .inl l_314=>(some (l_314,true))| .inr z=>(some z))
noncomputable def D.H1 (x0_0:(List Int))(x0_1:Int)(x0_2:Int)(x1:Int):Option (((List (List Int)))×((List Int))×Int×Int):=
 (D.k x0_0 x0_1 x0_2 x1).bind fun y_3=>(D.k y_3.2.1 y_3.2.2.1 y_3.2.2.2 3).bind fun y_12=>(Ap (σ:=(List (List Int))×Int×(List Int)×Int×Int) (ρ:=((List (List Int))×(List Int)×Int×Int)) (fun(s_353:(List (List Int))×Int×(List Int)×Int×Int)=>match s_353 with|(l_356,x_361,l_362,x_365,x_366)=>cond (decide (x_361<(IntKind.i64.wrap (1+y_3.1)))) ((Ap (σ:=(List (List Int))×Int×(List Int)×Int×Int) (ρ:=((List (List Int))×(List Int)×Int×Int)) (fun(s_609:(List (List Int))×Int×(List Int)×Int×Int)=>match s_609 with|(l_612,x_617,l_618,x_621,x_622)=>cond (decide (x_617<x_361)) ((D.k l_618 x_621 x_622 4).bind fun y_665=>cond (decide (y_665.1<(IntKind.i64.wrap (1+y_12.1)))) ((AV l_612 ([([x_617,x_361]:List Int)]:List (List Int))).bind fun l_686=>some (.inl (l_686,(IntKind.i64.wrap (x_617+1)),y_665.2.1,y_665.2.2.1,y_665.2.2.2))) (some (.inl (l_612,(IntKind.i64.wrap (x_617+1)),y_665.2.1,y_665.2.2.1,y_665.2.2.2)))) (some (.inr (l_612,l_618,x_621,x_622)))) (l_356,0,l_362,x_365,x_366)).bind fun(l_653,l_658,x_661,x_662)=>some (.inl (l_653,(IntKind.i64.wrap (x_361+1)),l_658,x_661,x_662))) (some (.inr (l_356,l_362,x_365,x_366)))) (([]:List (List Int)),1,y_12.2.1,y_12.2.2.1,y_12.2.2.2)).bind fun(l_525,l_530,x_533,x_534)=>(D.i0 (IntKind.i64.wrap (1+y_3.1)) l_525).bind fun y_695=>some (y_695.1,l_530,x_533,x_534)
noncomputable def D.e0 (x0_0:(List (List Int))):Option (((List (List Int)))):=
 (Ap (σ:=(List (List Int))×Int) (ρ:=((List (List Int)))) (fun(s_482:(List (List Int))×Int)=>match s_482 with|(l_485,x_490)=>(D.d x0_0).bind fun y_731=>cond (decide (x_490<y_731)) ((Ap (σ:=(List (List Int))×Int) (ρ:=((List (List Int)))) (fun(s_848:(List (List Int))×Int)=>match s_848 with|(l_851,x_856)=>(idx x0_0 x_490).bind fun e_914=>cond (decide (x_856<(e_914.length:Int))) ((idx x0_0 x_490).bind fun e_921=>(idx e_921 x_856).bind fun e_927=>cond (decide (x_490<e_927)) ((idx x0_0 x_490).bind fun e_934=>(idx e_934 x_856).bind fun e_940=>(AV l_851 ([([x_490,e_940]:List Int)]:List (List Int))).bind fun l_957=>some (.inl (l_957,(IntKind.i64.wrap (x_856+1))))) (some (.inl (l_851,(IntKind.i64.wrap (x_856+1)))))) (some (.inr l_851))) (l_485,0)).bind fun l_908=>some (.inl (l_908,(IntKind.i64.wrap (x_490+1))))) (some (.inr l_485))) (([]:List (List Int)),0)).bind fun l_725=>some l_725
noncomputable def D.O0 (x0_0:(List Int))(x0_1:Int)(x0_2:Int)(x1:Int):Option (((List (List Int)))×((List Int))×Int×Int):=
 (D.k x0_0 x0_1 x0_2 x1).bind fun y_3=>(D.k y_3.2.1 y_3.2.2.1 y_3.2.2.2 3).bind fun y_12=>(Ap (σ:=(List (List Int))×Int×(List Int)×Int×Int) (ρ:=((List (List Int))×(List Int)×Int×Int)) (fun(s_353:(List (List Int))×Int×(List Int)×Int×Int)=>match s_353 with|(l_356,x_361,l_362,x_365,x_366)=>cond (decide (x_361<(IntKind.i64.wrap (1+y_3.1)))) ((Ap (σ:=(List (List Int))×Int×(List Int)×Int×Int) (ρ:=((List (List Int))×(List Int)×Int×Int)) (fun(s_609:(List (List Int))×Int×(List Int)×Int×Int)=>match s_609 with|(l_612,x_617,l_618,x_621,x_622)=>cond (decide (x_617<x_361)) ((D.k l_618 x_621 x_622 4).bind fun y_665=>cond (decide (y_665.1<(IntKind.i64.wrap (1+y_12.1)))) ((AV l_612 ([([x_617,x_361]:List Int)]:List (List Int))).bind fun l_686=>some (.inl (l_686,(IntKind.i64.wrap (x_617+1)),y_665.2.1,y_665.2.2.1,y_665.2.2.2))) (some (.inl (l_612,(IntKind.i64.wrap (x_617+1)),y_665.2.1,y_665.2.2.1,y_665.2.2.2)))) (some (.inr (l_612,l_618,x_621,x_622)))) (l_356,0,l_362,x_365,x_366)).bind fun(l_653,l_658,x_661,x_662)=>some (.inl (l_653,(IntKind.i64.wrap (x_361+1)),l_658,x_661,x_662))) (some (.inr (l_356,l_362,x_365,x_366)))) (([]:List (List Int)),1,y_12.2.1,y_12.2.2.1,y_12.2.2.2)).bind fun(l_525,l_530,x_533,x_534)=>(D.i0 (IntKind.i64.wrap (1+y_3.1)) l_525).bind fun y_695=>some (y_695.1,l_530,x_533,x_534)
noncomputable def D.y0 (x0_0:(List Int))(x0_1:Int)(x0_2:Int)(x1:Int):Option (((List Int))×((List Int))×Int×Int):=
 (Ap (σ:=(List Int)×Int×(List Int)×Int×Int) (ρ:=((List Int)×(List Int)×Int×Int)) (fun(s_221:(List Int)×Int×(List Int)×Int×Int)=>match s_221 with|(l_224,x_229,l_230,x_233,x_234)=>cond (decide (x_229<x1)) ((D.k l_230 x_233 x_234 (IntKind.i64.wrap ((l_224.length:Int)+1))).bind fun y_349=>(AV l_224 ([0]:List Int)).bind fun l_362=>(Ap (σ:=(List Int)×Int) (ρ:=((List Int))) (fun(s_403:(List Int)×Int)=>match s_403 with|(l_406,x_409)=>cond (decide (y_349.1<x_409)) ((idx l_406 (IntKind.i64.wrap (x_409-1))).bind fun e_430=>(idx l_406 x_409).bind fun e_436=>some (.inl ((l_406.set (Int.toNat x_409) e_430),(IntKind.i64.wrap (x_409-1))))) (some (.inr l_406))) (l_362,(IntKind.i64.wrap ((l_362.length:Int)-1)))).bind fun l_425=>(idx l_425 y_349.1).bind fun e_442=>some (.inl ((l_425.set (Int.toNat y_349.1) x_229),(IntKind.i64.wrap (x_229+1)),y_349.2.1,y_349.2.2.1,y_349.2.2.2))) (some (.inr (l_224,l_230,x_233,x_234)))) (([]:List Int),0,x0_0,x0_1,x0_2)).bind fun(l_337,l_342,x_345,x_346)=>some (l_337,l_342,x_345,x_346)
noncomputable def D.o0 (x0:Int):Option (Int):=
 cond (decide (x0<0)) none (some (IntKind.u32.wrap ((ishl .u32 1 x0)-1)))
noncomputable def D.p (x0:(List Int)):Option (Int):=
 (D.o0 (x0.length:Int)).bind fun y_1=>some y_1
noncomputable def D.B (x0:(List Int))(x1:(List Int)):Option (((List Int))×((List Int))):=
 (((AV ([]:List Int) x0).bind fun l_56=>(D.p x0).bind fun y_62=>(CX (0:Int) (x0.length:Int) (x0.length:Int)).bind fun l_68=>some (l_56,l_68,y_62):Option ((List Int)×(List Int)×Int))).bind fun(l_34,l_39,x_44)=>(Ap (σ:=(List Int)×(List Int)×Int×Int) (ρ:=((List Int)×(List Int))) (fun(s_459:(List Int)×(List Int)×Int×Int)=>match s_459 with|(l_462,l_465,x_468,x_469)=>cond (decide (x_469<(x1.length:Int))) ((idx x1 x_469).bind fun e_665=>(D.c e_665).bind fun y_671=>(idx l_462 e_665).bind fun e_678=>(idx l_465 e_665).bind fun e_684=>(idx (l_465.set (Int.toNat e_665) (iand .u32 e_678 (iandNot .u32 x_468 y_671))) e_665).bind fun e_690=>(D.i e_690).bind fun y_696=>(Ap (σ:=(List Int)×Int) (ρ:=((List Int))) (fun(s_776:(List Int)×Int)=>match s_776 with|(l_779,x_782)=>cond (decide (x_782<(y_696.length:Int))) ((idx y_696 x_782).bind fun e_820=>(idx l_779 e_820).bind fun e_826=>(idx (l_465.set (Int.toNat e_665) (iand .u32 e_678 (iandNot .u32 x_468 y_671))) e_665).bind fun e_832=>(D.c e_820).bind fun y_838=>(idx l_779 e_820).bind fun e_841=>some (.inl ((l_779.set (Int.toNat e_820) (ior .u32 e_826 (iandNot .u32 e_832 y_838))),(IntKind.i64.wrap (x_782+1))))) (some (.inr l_779))) (l_462,0)).bind fun l_815=>some (.inl (l_815,(l_465.set (Int.toNat e_665) (iand .u32 e_678 (iandNot .u32 x_468 y_671))),(iandNot .u32 x_468 y_671),(IntKind.i64.wrap (x_469+1))))) (some (.inr (l_462,l_465)))) (l_34,l_39,x_44,0)).bind fun(l_657,l_660)=>some (l_657,l_660)
noncomputable def D.K1 (x0:(List Int)):Option (((List (List Int)))):=
 (Ap (σ:=Int×(List (List Int))) (ρ:=((List (List Int)))) (fun(s_98:Int×(List (List Int)))=>match s_98 with|(x_104,l_105)=>cond (decide (x_104<(x0.length:Int))) ((idx x0 x_104).bind fun e_158=>(D.H e_158).bind fun y_167=>(AV l_105 ([y_167]:List (List Int))).bind fun l_190=>some (.inl ((IntKind.i64.wrap (x_104+1)),l_190))) (some (.inr l_105))) (0,([]:List (List Int)))).bind fun l_151=>some l_151
noncomputable def D.J1 (x0_0:(List (List Int)))(x1:(List Int)):Option (((List (List Int)))×Bool):=
 (D.X x0_0 x1).bind fun y_5=>cond (!y_5) (some (([]:List (List Int)),false)) ((D.v x0_0).bind fun y_18=>(D.g0 x1).bind fun y_29=>(D.B y_18 y_29).bind fun y_40=>(D.K1 y_40.1).bind fun y_64=>some (y_64,true))
noncomputable def D.G1 (x0_0:(List (List Int))):Option (((List (List Int)))):=
 (Ap (σ:=(List (List Int))×Int) (ρ:=((List (List Int)))) (fun(s_288:(List (List Int))×Int)=>match s_288 with|(l_291,x_296)=>cond (decide (x_296<(x0_0.length:Int))) ((idx x0_0 x_296).bind fun e_441=>(Ap (σ:=(List (List Int))×Int) (ρ:=((List (List Int)))) (fun(s_508:(List (List Int))×Int)=>match s_508 with|(l_511,x_516)=>cond (decide (x_516<(e_441.length:Int))) ((idx e_441 x_516).bind fun e_551=>cond (decide (x_296<e_551)) ((AV l_511 ([([x_296,e_551]:List Int)]:List (List Int))).bind fun l_569=>some (.inl (l_569,(IntKind.i64.wrap (x_516+1))))) (some (.inl (l_511,(IntKind.i64.wrap (x_516+1)))))) (some (.inr l_511))) (l_291,0)).bind fun l_544=>some (.inl (l_544,(IntKind.i64.wrap (x_296+1))))) (some (.inr l_291))) (([]:List (List Int)),0)).bind fun l_434=>some l_434
noncomputable def D.N1 (x0_0:(List (List Int))):Option (((List (List Int)))):=
 (D.F x0_0).bind fun y_3=>cond (!y_3) (some ([]:List (List Int))) ((D.G1 x0_0).bind fun y_14=>some y_14)
noncomputable def D.E1 (x0_0:(List (List Int))):Option (Int):=
 (D.N1 x0_0).bind fun y_3=>some (y_3.length:Int)
noncomputable def D.L1 (x0_0:(List (List Int)))(x1:(List Int)):Option (Int):=
 (D.J1 x0_0 x1).bind fun y_3=>cond (!y_3.2) (some (-1)) ((D.E1 y_3.1).bind fun y_17=>(D.E1 x0_0).bind fun y_23=>some (IntKind.i64.wrap (y_17-y_23)))
noncomputable def D.d0 (x0_0:(List (List Int)))(x1:Int)(x2:(List Bool)):Option (((List Int))):=
 (Ap (σ:=(List Int)×Int) (ρ:=((List Int))) (fun(s_114:(List Int)×Int)=>match s_114 with|(l_117,x_122)=>(idx x0_0 x1).bind fun e_179=>cond (decide (x_122<(e_179.length:Int))) ((idx x0_0 x1).bind fun e_186=>(idx e_186 x_122).bind fun e_192=>(idx x2 e_192).bind fun e_198=>cond (!e_198) ((idx x0_0 x1).bind fun e_205=>(idx e_205 x_122).bind fun e_211=>(AV l_117 ([e_211]:List Int)).bind fun l_221=>some (.inl (l_221,(IntKind.i64.wrap (x_122+1))))) (some (.inl (l_117,(IntKind.i64.wrap (x_122+1)))))) (some (.inr l_117))) (([]:List Int),0)).bind fun l_173=>some l_173
noncomputable def D.B0 (x0_0:(List (List Int)))(x0_1:(List (List Int))):Option (Bool):=
 (D.e (x0_0.length:Int) 1 16).bind fun y_3=>cond ((!y_3)||(decide ((16:Int)<(x0_1.length:Int)))) (some false) ((Ap (σ:=Int) (ρ:=(Unit) ⊕ (Bool)) (fun(x_127:Int)=>cond (decide (x_127<(x0_1.length:Int))) ((idx x0_1 x_127).bind fun e_184=>(cond ((e_184.length:Int) !=2) (some true) ((idx x0_1 x_127).bind fun e_221=>(D.q e_221 (x0_0.length:Int)).bind fun y_227=>some (!y_227))).bind fun b_219=>cond b_219 (some (.inr (.inr false))) (some (.inl (IntKind.i64.wrap (x_127+1))))) (some (.inr (.inl ())))) 0).bind fun zz=>match zz with| .inl _=>(some true)| .inr z=>(some z))
noncomputable def D.T0 (x0:Int):Option (((List Int))):=
 (Ap (σ:=(List Int)×Int) (ρ:=((List Int))) (fun(s_38:(List Int)×Int)=>match s_38 with|(l_41,x_46)=>cond (decide (x_46<x0)) ((AV l_41 ([x_46]:List Int)).bind fun l_71=>some (.inl (l_71,(IntKind.i64.wrap (x_46+1))))) (some (.inr l_41))) (([]:List Int),0)).bind fun l_60=>some l_60
noncomputable def D.L0 (x0_0:(List (List Int)))(x0_1:(List (List Int)))(x1:Int):Option (((List Int))):=
 (Ap (σ:=(List Int)×Int) (ρ:=((List Int))) (fun(s_221:(List Int)×Int)=>match s_221 with|(l_227,x_230)=>cond (decide (x_230<(x0_1.length:Int))) ((idx x0_1 x_230).bind fun e_336=>(idx e_336 0).bind fun e_342=>((cond (e_342==x1) ((idx x0_1 x_230).bind fun e_378=>(idx e_378 1).bind fun e_384=>(D.t l_227 e_384).bind fun y_390=>some y_390) (some l_227):Option ((List Int)))).bind fun l_373=>(idx x0_1 x_230).bind fun e_399=>(idx e_399 1).bind fun e_405=>cond (e_405==x1) ((idx x0_1 x_230).bind fun e_412=>(idx e_412 0).bind fun e_418=>(D.t l_373 e_418).bind fun y_424=>some (.inl (y_424,(IntKind.i64.wrap (x_230+1))))) (some (.inl (l_373,(IntKind.i64.wrap (x_230+1)))))) (some (.inr l_227))) (([]:List Int),0)).bind fun l_331=>some l_331
noncomputable def D.A (x0_0:(List (List Int)))(x0_1:(List (List Int)))(x1:(List Int)):Option (Int):=
 cond ((x1.length:Int)==0) (some 0) ((idx x1 0).bind fun e_4=>(Ap (σ:=(List Int)×Int) (ρ:=((List Int))) (fun(s_795:(List Int)×Int)=>match s_795 with|(l_798,x_803)=>cond (decide (x_803<(l_798.length:Int))) ((idx l_798 x_803).bind fun e_1198=>(D.L0 x0_0 x0_1 e_1198).bind fun y_1207=>(Ap (σ:=(List Int)×Int) (ρ:=((List Int))) (fun(s_1397:(List Int)×Int)=>match s_1397 with|(l_1400,x_1405)=>cond (decide (x_1405<(y_1207.length:Int))) ((idx y_1207 x_1405).bind fun e_1499=>(D.h x1 e_1499).bind fun y_1505=>(cond y_1505 ((idx y_1207 x_1405).bind fun e_1549=>(D.h l_1400 e_1549).bind fun y_1555=>some (!y_1555)) (some false)).bind fun b_1547=>cond b_1547 ((idx y_1207 x_1405).bind fun e_1566=>(AV l_1400 ([e_1566]:List Int)).bind fun l_1576=>some (.inl (l_1576,(IntKind.i64.wrap (x_1405+1))))) (some (.inl (l_1400,(IntKind.i64.wrap (x_1405+1)))))) (some (.inr l_1400))) (l_798,0)).bind fun l_1492=>some (.inl (l_1492,(IntKind.i64.wrap (x_803+1))))) (some (.inr l_798))) (([e_4]:List Int),0)).bind fun l_1191=>some (l_1191.length:Int))
noncomputable def D.s1 (x0_0:(List (List Int)))(x0_1:(List (List Int))):Option (Bool):=
 (D.B0 x0_0 x0_1).bind fun y_3=>cond (y_3&&((x0_1.length:Int)==(IntKind.i64.wrap ((x0_0.length:Int)-1)))) ((D.T0 (x0_0.length:Int)).bind fun y_12=>(D.A x0_0 x0_1 y_12).bind fun y_26=>some (y_26==(x0_0.length:Int))) (some false)
noncomputable def D.v0 (x0:(List Int))(x1:(List Int)):Option (((List Int))):=
 (Ap (σ:=(List Int)×Int) (ρ:=((List Int))) (fun(s_78:(List Int)×Int)=>match s_78 with|(l_81,x_86)=>cond (decide (x_86<(x0.length:Int))) ((idx x0 x_86).bind fun e_127=>(D.h x1 e_127).bind fun y_133=>cond y_133 ((idx x0 x_86).bind fun e_141=>(AV l_81 ([e_141]:List Int)).bind fun l_151=>some (.inl (l_151,(IntKind.i64.wrap (x_86+1))))) (some (.inl (l_81,(IntKind.i64.wrap (x_86+1)))))) (some (.inr l_81))) (([]:List Int),0)).bind fun l_120=>some l_120
noncomputable def D.y (x0:(List Int))(x1:(List Int)):Option (Bool):=
 (D.v0 x0 x1).bind fun y_1=>some ((y_1.length:Int)==(x0.length:Int))
noncomputable def D.t0 (x0_0:(List (List Int)))(x0_1:(List (List Int)))(x1:(List Int)):Option (Bool):=
 (Ap (σ:=Int) (ρ:=(Unit) ⊕ (Bool)) (fun(x_42:Int)=>cond (decide (x_42<(x0_0.length:Int))) ((idx x0_0 x_42).bind fun e_62=>(D.y x1 e_62).bind fun y_68=>cond y_68 (some (.inr (.inr true))) (some (.inl (IntKind.i64.wrap (x_42+1))))) (some (.inr (.inl ())))) 0).bind fun zz=>match zz with| .inl _=>(some false)| .inr z=>(some z)
noncomputable def D.q0 (x0_0:(List (List Int)))(x0_1:(List (List Int)))(x1:Int):Option (((List Int))):=
 (Ap (σ:=(List Int)×Int) (ρ:=((List Int))) (fun(s_68:(List Int)×Int)=>match s_68 with|(l_71,x_76)=>cond (decide (x_76<(x0_0.length:Int))) ((idx x0_0 x_76).bind fun e_111=>(D.h e_111 x1).bind fun y_117=>cond y_117 ((AV l_71 ([x_76]:List Int)).bind fun l_129=>some (.inl (l_129,(IntKind.i64.wrap (x_76+1))))) (some (.inl (l_71,(IntKind.i64.wrap (x_76+1)))))) (some (.inr l_71))) (([]:List Int),0)).bind fun l_104=>some l_104
noncomputable def D.P (x0_0:(List (List Int)))(x1_0:(List (List Int)))(x1_1:(List (List Int))):Option (Bool):=
 (D.W x0_0).bind fun y_5=>(cond (!y_5) (some true) ((D.s1 x1_0 x1_1).bind fun y_31=>some (!y_31))).bind fun b_29=>cond b_29 (some false) ((Ap (σ:=Int) (ρ:=(Unit) ⊕ (Bool)) (fun(x_80:Int)=>cond (decide (x_80<(x1_0.length:Int))) ((idx x1_0 x_80).bind fun e_101=>(D.d x0_0).bind fun y_107=>(D.q e_101 y_107).bind fun y_110=>cond (!y_110) (some (.inr (.inr false))) (some (.inl (IntKind.i64.wrap (x_80+1))))) (some (.inr (.inl ())))) 0).bind fun zz=>match zz with| .inl _=>((D.e0 x0_0).bind fun y_116=>(Ap (σ:=Int) (ρ:=(Unit) ⊕ (Bool)) (fun(x_162:Int)=>cond (decide (x_162<(y_116.length:Int))) ((idx y_116 x_162).bind fun e_180=>(D.t0 x1_0 x1_1 e_180).bind fun y_186=>cond (!y_186) (some (.inr (.inr false))) (some (.inl (IntKind.i64.wrap (x_162+1))))) (some (.inr (.inl ())))) 0).bind fun zz=>match zz with| .inl _=>((Ap (σ:=Int) (ρ:=(Unit) ⊕ (Bool)) (fun(x_311:Int)=>(D.d x0_0).bind fun y_370=>cond (decide (x_311<y_370)) ((D.q0 x1_0 x1_1 x_311).bind fun y_378=>(cond ((y_378.length:Int)==0) (some true) ((D.A x1_0 x1_1 y_378).bind fun y_414=>some (y_414 !=(y_378.length:Int)))).bind fun b_412=>cond b_412 (some (.inr (.inr false))) (some (.inl (IntKind.i64.wrap (x_311+1))))) (some (.inr (.inl ())))) 0).bind fun zz=>match zz with| .inl _=>(some true)| .inr z=>(some z))| .inr z=>(some z))| .inr z=>(some z))
noncomputable def D.L (x0:Int)(x1:Int):Option (Int):=
 cond (decide (x1<x0)) (some x0) (some x1)
end Go.Sx

namespace Go.Sx
noncomputable def D.x (x0:(List (List Int))):Option (((List Int))):=
 (Ap (σ:=(List Int)×Int) (ρ:=((List Int))) (fun(s_64:(List Int)×Int)=>match s_64 with|(l_67,x_72)=>cond (decide (x_72<(x0.length:Int))) ((idx x0 x_72).bind fun e_106=>(D.U e_106).bind fun y_112=>(AV l_67 ([y_112]:List Int)).bind fun l_123=>some (.inl (l_123,(IntKind.i64.wrap (x_72+1))))) (some (.inr l_67))) (([]:List Int),0)).bind fun l_99=>some l_99
noncomputable def D.j (x0:Int)(x1:Int):Option (Bool):=
 cond (decide (x1<0)) none (some ((iand .u32 (BJ .u32 x0 x1) 1)==1))
noncomputable def D.m0 (x0:(List Int))(x1:(List Int)):Option (Bool):=
 (Ap (σ:=Int) (ρ:=(Unit) ⊕ (Bool)) (fun(x_198:Int)=>cond (decide (x_198<(x0.length:Int))) ((idx x0 x_198).bind fun e_297=>(Ap (σ:=Int×Int) (ρ:=(Int)) (fun(s_340:Int×Int)=>match s_340 with|(x_343,x_344)=>cond (decide (x_344<(x1.length:Int))) ((idx x1 x_344).bind fun e_365=>(D.j e_365 x_198).bind fun y_371=>cond y_371 (some (.inl ((ior .u32 x_343 e_365),(IntKind.i64.wrap (x_344+1))))) (some (.inl (x_343,(IntKind.i64.wrap (x_344+1)))))) (some (.inr x_343))) (0,0)).bind fun x_362=>(D.j x_362 x_198).bind fun y_379=>cond ((!y_379)||((iandNot .u32 e_297 x_362) !=0)) (some (.inr (.inr false))) (some (.inl (IntKind.i64.wrap (x_198+1))))) (some (.inr (.inl ())))) 0).bind fun zz=>match zz with| .inl _=>(some true)| .inr z=>(some z)
noncomputable def D.V0 (x0:(List (List Int))):Option (Int):=
 cond ((decide ((x0.length:Int)<1))||(decide ((16:Int)<(x0.length:Int)))) (some (-1)) ((Ap (σ:=Int×Int) (ρ:=(Int)) (fun(s_26:Int×Int)=>match s_26 with|(x_29,x_30)=>cond (decide (x_30<(x0.length:Int))) ((idx x0 x_30).bind fun e_43=>some (.inl ((if x_29<(e_43.length:Int) then(e_43.length:Int) else x_29),(IntKind.i64.wrap (x_30+1))))) (some (.inr x_29))) (0,0)).bind fun x_40=>some (IntKind.i64.wrap (x_40-1)))
end Go.Sx

namespace Go.Sx
noncomputable def D.a0 (x0:(List Int))(x1:Int)(x2:Int):Option (((List Int))):=
 (idx x0 x2).bind fun e_1=>(D.c x2).bind fun y_7=>(D.i (iandNot .u32 (iand .u32 e_1 x1) y_7)).bind fun y_12=>(Ap (σ:=(List Int)×Int) (ρ:=((List Int))) (fun(s_80:(List Int)×Int)=>match s_80 with|(l_83,x_86)=>cond (decide (x_86<(y_12.length:Int))) ((idx y_12 x_86).bind fun e_118=>(idx l_83 e_118).bind fun e_124=>(D.c e_118).bind fun y_130=>(idx l_83 e_118).bind fun e_133=>some (.inl ((l_83.set (Int.toNat e_118) (ior .u32 e_124 (iandNot .u32 (iandNot .u32 (iand .u32 e_1 x1) y_7) y_130))),(IntKind.i64.wrap (x_86+1))))) (some (.inr l_83))) (x0,0)).bind fun l_113=>some l_113
noncomputable def D.w0 (x0_0:(List (List Int))):Option (((List (List Int)))):=
 (Ap (σ:=Int×(List (List Int))) (ρ:=((List (List Int)))) (fun(s_100:Int×(List (List Int)))=>match s_100 with|(x_106,l_107)=>cond (decide (x_106<(x0_0.length:Int))) ((idx x0_0 x_106).bind fun e_160=>(D.g e_160).bind fun y_169=>(AV l_107 ([y_169]:List (List Int))).bind fun l_192=>some (.inl ((IntKind.i64.wrap (x_106+1)),l_192))) (some (.inr l_107))) (0,([]:List (List Int)))).bind fun l_153=>some l_153
noncomputable def D.j0 (x0_0:(List (List Int)))(x1:(List Int)):Option (((List (List Int)))):=
 (Ap (σ:=(List (List Int))×Int) (ρ:=((List (List Int)))) (fun(s_252:(List (List Int))×Int)=>match s_252 with|(l_255,x_258)=>cond (decide (x_258<(x1.length:Int))) ((Ap (σ:=(List (List Int))×Int) (ρ:=((List (List Int)))) (fun(s_442:(List (List Int))×Int)=>match s_442 with|(l_445,x_448)=>cond (decide (x_448<x_258)) ((idx x1 x_448).bind fun e_480=>(idx x1 x_258).bind fun e_486=>(D.J l_445 e_480 e_486).bind fun y_494=>some (.inl (y_494,(IntKind.i64.wrap (x_448+1))))) (some (.inr l_445))) (l_255,0)).bind fun l_475=>some (.inl (l_475,(IntKind.i64.wrap (x_258+1))))) (some (.inr l_255))) (x0_0,0)).bind fun l_380=>some l_380
end Go.Sx

namespace Go.Sx
end Go.Sx

namespace Go.Sx
noncomputable def D.I1 (x0:Int)(x1:Int):Option (Int):=
 cond (decide (x0<x1)) (some x0) (some x1)
end Go.Sx

namespace Go.Sx
noncomputable def D.l0 (x0_0:(List (List Int)))(x1:(List Int)):Option (((List (List Int)))):=
 (D.w0 x0_0).bind fun y_5=>(D.d x0_0).bind fun y_18=>(CX (false:Bool) y_18 y_18).bind fun l_25=>(Ap (σ:=(List Bool)×Int×(List (List Int))) (ρ:=((List (List Int)))) (fun(s_149:(List Bool)×Int×(List (List Int)))=>match s_149 with|(l_152,x_155,l_156)=>cond (decide (x_155<(x1.length:Int))) ((idx x1 x_155).bind fun e_219=>(idx l_152 e_219).bind fun e_225=>(idx x1 x_155).bind fun e_231=>(D.d0 l_156 e_231 (l_152.set (Int.toNat e_219) true)).bind fun y_240=>(D.j0 l_156 y_240).bind fun y_262=>some (.inl ((l_152.set (Int.toNat e_219) true),(IntKind.i64.wrap (x_155+1)),y_262))) (some (.inr l_156))) (l_25,0,y_5)).bind fun l_214=>some l_214
end Go.Sx

namespace Go.Sx
noncomputable def D.n0 (x0:(List Int))(x1:Int)(x2:Int):Option (((List Int))):=
 (idx x0 x1).bind fun e_1=>(D.c x2).bind fun y_7=>(idx x0 x1).bind fun e_10=>(idx (x0.set (Int.toNat x1) (ior .u32 e_1 y_7)) x2).bind fun e_18=>(D.c x1).bind fun y_24=>(idx (x0.set (Int.toNat x1) (ior .u32 e_1 y_7)) x2).bind fun e_27=>some ((x0.set (Int.toNat x1) (ior .u32 e_1 y_7)).set (Int.toNat x2) (ior .u32 e_18 y_24))
end Go.Sx

namespace Go.Sx
section
variable {W w : World} {G : GH} {H : List Itm}
theorem CL {v:Value}{t1 t2:TypeId}{rows:List (Value×List Value)}{k i:Nat}{h:Itm}(hi:((parts v t1 t2 rows).eraseIdx k)[i]? =some h):h.foot=h.foot0∧∀w,h.ok w↔h.ok0 w:=by
 rw[List.getElem?_eraseIdx] at hi
 split at hi
 ·exact Ci hi
 ·exact Ci hi
theorem Mem.hole {v:Value}{t1 t2:TypeId}{rows:List (Value×List Value)}{k:Nat}:Mem W G w (.hole v t1 t2 rows k::H)↔Mem W G w ((parts v t1 t2 rows).eraseIdx (k+1)++H):=by
 refine Mem.group (fun x=> ?_) ?_
 ·show x∈((parts v t1 t2 rows).eraseIdx (k+1)).flatMap Itm.foot0↔_
  rw[List.mem_flatMap]
  constructor
  ·rintro⟨h,hh,hx⟩
   obtain⟨i,hi,he⟩:=List.getElem_of_mem hh
   have hi':((parts v t1 t2 rows).eraseIdx (k+1))[i]? =some h:=by rw[List.getElem?_eq_getElem hi,he]
   exact⟨i,h,hi',by rw[(CL hi').1];exact hx⟩
  ·rintro⟨i,h,hi,hx⟩
   exact⟨h,List.mem_of_getElem? hi,by rw[←(CL hi).1];exact hx⟩
 ·constructor
  ·rintro⟨h1,h2⟩
   exact⟨fun i h hi=>((CL hi).2 w).2 (h1 i h hi),fun i j a b hij ha hb=>by rw[(CL ha).1,(CL hb).1];exact h2 i j a b hij ha hb⟩
  ·rintro⟨h1,h2⟩
   exact⟨fun i h hi=>((CL hi).2 w).1 (h1 i h hi),fun i j a b hij ha hb=>by rw[←(CL ha).1,←(CL hb).1];exact h2 i j a b hij ha hb⟩
end
def OwH {α:Type}(R:Rep α)(t1 t2:TypeId)(i:Int)(G:GH)(it:Itm)(v:Value)(xs:List (List α)):Prop:=
 ∃rows:List (Value×List Value),it= .hole v t1 t2 rows i.toNat∧0≤i∧i.toNat<xs.length∧rows.length=xs.length∧∀(k:Nat) (r:Value×List Value) (x:List α),k≠i.toNat→rows[k]? =some r→xs[k]? =some x→All2 (R G) r.2 x
section
variable {α : Type} {R : Rep α} {t1 t2 : TypeId} {W w : World} {G : GH} {it : Itm} {H : List Itm} {v c : Value} {xs : List (List α)} {e : List α} {i : Int}
theorem OwH.mono (hR:Cv R){G':GH}(hG:GLe G G')(h:OwH R t1 t2 i G it v xs):OwH R t1 t2 i G' it v xs:=by
 obtain⟨rows,h1,h2,h3,h4,h5⟩:=h
 exact⟨rows,h1,h2,h3,h4,fun k r x hk hr hx=>(h5 k r x hk hr hx).mono (fun v x=>hR G G' v x hG)⟩
theorem Ow2.out (h:Ow2 R t1 t2 G it v xs)(m:Mem W G w (it::H))(hi:idx xs i=some e)(hc:Head it i c):
  ∃it' inn,Mem W G w (it'::inn::H)∧OwH R t1 t2 i G it' v xs∧Ow R t2 G inn c e:=by
 obtain⟨rows,rfl,hl,hA⟩:=h
 obtain⟨v0,s1,s2,rows0,r,e0,hr,rfl⟩:=hc
 cases e0
 obtain⟨g0,g1,g2⟩:=Dn hi
 have hlt:i.toNat<rows.length:=by omega
 have m2:=Mem.deep.1 m
 have hpl:i.toNat+1<(parts v t1 t2 rows).length:=by simp[parts];omega
 have hp:(parts v t1 t2 rows++H)[i.toNat+1]? =some (Ch t2 r):=by
  rw[List.getElem?_append_left hpl];simp[parts,hr]
 have m3:=m2.front (i.toNat+1) hp
 rw[Ey hpl] at m3
 have m4:Mem W G w ((parts v t1 t2 rows).eraseIdx (i.toNat+1)++(Ch t2 r::H)):=by
  have hll:(((parts v t1 t2 rows).eraseIdx (i.toNat+1))).length≤((parts v t1 t2 rows).eraseIdx (i.toNat+1)++H).length:=by simp
  have:=m3.back _ hll
  rwa [List.take_left,List.drop_left] at this
 have hAr:=hA _ r e hr g2
 exact⟨_,_,Mem.hole.2 m4,⟨rows,rfl,g0,by omega,hl,fun k r x _ hr hx=>hA k r x hr hx⟩,⟨r.2,by simp[Ch,hAr.1],hAr⟩⟩
end
section
variable {P : Program} {ops : Array Oper} {rest : List Oper} {n r : Bk} {x : List (Nat × Bk)} {a : Act} {w W : World} {G : GH} {H : List Itm} {N : Nat} {L : Br}
variable {d : Nat} {t : TypeId} {pos : String} {af : Array Edge} {α : Type} {R : Rep α} {t1 t2 : TypeId} {xs : List (List α)} {v : Value}
end
end Go.Sx
