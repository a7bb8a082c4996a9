/- Parts. -/
import Derived.Tactics
import Derived.Laws.AppendOwn
import Derived.Laws.MakeOwn
import Derived.Laws.OwnMore
import Derived.Laws.Slices
import Derived.Below
import Derived.Deep.Quiet
import Derived.Laws.CopyRow
import Derived.Orders
import Derived.KernelRfl
import Derived.OpenShut
import Derived.Deep.Slices
import Derived.ChangeSame
import Derived.DataReads
import Derived.Test.YtijemnhleooagaaGreatDoorRows
import Derived.ChangeVars
import Derived.JoinedOf
import Derived.ProofKit
import Derived.ChangeOld
import Derived.Lib.BitFns
set_option linter.unusedVariables false
set_option linter.unusedSimpArgs false
set_option linter.unusedSectionVars false
namespace Go.Sx
abbrev Bw :=List (Nat×Value)
def look :Bw→Nat→Option Value
 |[],_=>none
 |(k,v)::r,s=>match Nat.beq k s with|true=>some v|false=>look r s
structure Fr (a:Act)(N:Nat)(L:Bw):Prop where
 defers:a.defers=[]
 size:a.tmps.size=N
 get:∀s v,look L s=some v→a.tmps.getD s undef=v
def AN (L:Bw):Operand→Option Value
 | .tmp t=>look L t
 | .const v=>some v
 | .global g=>some (.pointer (some ⟨g,0,none⟩))
 | .func f=>some (.func (.func f) #[] #[])
theorem Fr.eval {a:Act}{N:Nat}{L:Bw}{x:Operand}{v:Value}(h:Fr a N L)(hx:AN L x=some v):a.eval x=v:=by
 cases x with
 |tmp t=>exact h.get t v hx
 |const c=>simpa [AN,Act.eval] using hx
 |global g=>simpa [AN,Act.eval] using hx
 |func f=>simpa [AN,Act.eval] using hx
def evalAll (L:Bw):List Operand→Option (List Value)
 |[]=>some []
 |x::r=>match AN L x,evalAll L r with
  |some v,some vs=>some (v::vs)
  |_,_=>none
theorem Fr.evalAll {a:Act}{N:Nat}{L:Bw}{xs:List Operand}{vs:List Value}(h:Fr a N L)(hx:evalAll L xs=some vs):xs.map a.eval=vs:=by
 induction xs generalizing vs with
 |nil=>simpa [Sx.evalAll] using hx
 |cons x r ih=>
  simp only[Sx.evalAll] at hx
  cases h1:AN L x with
  |none=>simp[h1] at hx
  |some v=>
   cases h2:Sx.evalAll L r with
   |none=>simp[h1,h2] at hx
   |some ws=>
    simp[h1,h2] at hx
    subst hx
    simp[h.eval h1,ih h2]
theorem EE {k s:Nat}{v:Value}{L:Bw}(h:k≠s):look ((k,v)::L) s=look L s:=by
 have:Nat.beq k s=false:=by
  cases hb:Nat.beq k s with
  |false=>rfl
  |true=>exact absurd (Nat.eq_of_beq_eq_true hb) h
 simp[look,this]
theorem EM {k:Nat}{v:Value}{L:Bw}:look ((k,v)::L) k=some v:=by
 simp[look]
theorem Fr.put {a:Act}{N:Nat}{L:Bw}(h:Fr a N L){d:Nat}(hd:Nat.blt d N=true)(v:Value):Fr (a.put (some d) v) N ((d,v)::L):=by
 have hd':d<N:=by simpa [Nat.blt_eq] using hd
 refine⟨h.defers,by simp[Act.put,h.size],λs u hs=> ?_⟩
 by_cases hk:d=s
 ·subst hk
  rw[EM] at hs
  have:d<a.tmps.size:=by rw[h.size];exact hd'
  simp[Act.put,this] at hs ⊢
  exact hs
 ·rw[EE hk] at hs
  have:=h.get s u hs
  rw[←this]
  simp only[Act.put,Array.getD_eq_getD_getElem?,Array.getElem?_setIfInBounds_ne hk]
def Sub :Bw→Bw→Prop
 |[],_=>True
 |(s,v)::r,L=>look L s=some v∧Sub r L
theorem Sub.look {L' L:Bw}(h:Sub L' L){s:Nat}{v:Value}(hs:look L' s=some v):look L s=some v:=by
 induction L' with
 |nil=>simp[Sx.look] at hs
 |cons p r ih=>
  obtain⟨k,u⟩:=p
  by_cases hk:k=s
  ·subst hk;rw[EM] at hs;cases hs;exact h.1
  ·rw[EE hk] at hs;exact ih h.2 hs
theorem Fr.weak {a:Act}{N:Nat}{L L':Bw}(h:Fr a N L)(hs:Sub L' L):Fr a N L':=
 ⟨h.defers,h.size,λs v hv=>h.get s v (hs.look hv)⟩
abbrev Bn :=Act→World→Prop
def ES :List (Nat×Bn)→Nat→Option Bn
 |[],_=>none
 |(k,v)::r,s=>match Nat.beq k s with|true=>some v|false=>ES r s
theorem lookA_eq {k:Nat}{v:Bn}{L:List (Nat×Bn)}:ES ((k,v)::L) k=some v:=by
 simp[ES]
theorem lookA_ne {k s:Nat}{v:Bn}{L:List (Nat×Bn)}(h:k≠s):ES ((k,v)::L) s=ES L s:=by
 have:Nat.beq k s=false:=by
  cases hb:Nat.beq k s with
  |false=>rfl
  |true=>exact absurd (Nat.eq_of_beq_eq_true hb) h
 simp[ES,this]
def Qk (n:Bn)(x:List (Nat×Bn))(r:Bn):Go.Exit→Act→World→Prop
 | .normal,a,w=>n a w
 | .exit id,a,w=>∃K,ES x id=some K∧K a w
 | .ret,a,w=>r a w
 |_,_,_=>False
section
variable {P : Program} {n r : Bn} {x : List (Nat × Bn)} {a : Act} {w : World}
theorem Ag {c d:Code}(h:c.wp P (Qk (λa w=>d.wp P (Qk n x r) a w) x r) a w):(Code.seq c d).wp P (Qk n x r) a w:=by
 refine wp_seq (wp_mono h λe a w q=> ?_)
 cases e<;>exact q
theorem AL {c:Code}(Mid:Bn)(h:c.wp P (Qk Mid x r) a w)(k:∀a w,Mid a w→n a w):c.wp P (Qk n x r) a w:=
 wp_mono h λe a w q=>by cases e<;>first|exact k _ _ q|exact q
theorem Ap (h:n a w):Code.skip.wp P (Qk n x r) a w:=wp_skip h
theorem Ar (h:r a w):Code.ret.wp P (Qk n x r) a w:=wp_ret h
theorem AK {id:Nat}{K:Bn}(hk:ES x id=some K)(h:K a w):(Code.exit id).wp P (Qk n x r) a w:=wp_exit ⟨K,hk,h⟩
theorem Ao {id:Nat}{c:Code}(h:c.wp P (Qk n ((id,n)::x) r) a w):(Code.block id c).wp P (Qk n x r) a w:=by
 refine wp_block (wp_mono h λe a w q=> ?_)
 cases e with
 |exit i=>
  obtain⟨K,hk,q⟩:=q
  by_cases hi:id=i
  ·subst hi
   rw[lookA_eq] at hk
   cases hk
   simpa [Exit.inBlock,Qk] using q
  ·rw[lookA_ne hi] at hk
   simp only[Exit.inBlock,if_neg (Ne.symm hi)]
   exact⟨K,hk,q⟩
 |_=>exact q
theorem Aq {id:Nat}{l:List Oper}(h:wpList P l.toArray (Qk n x r) l a w):(Code.region id l.toArray false).wp P (Qk n x r) a w:=wp_region_lit h
theorem Al {c:Operand}{p q:Code}{N:Nat}{L:Bw}{b:Bool}(f:Fr a N L)(hc:AN L c=some (.bool b))(hb:b=true)(h:p.wp P (Qk n x r) a w):
  (Code.cond c p q).wp P (Qk n x r) a w:=wp_cond_true (by rw[f.eval hc,hb]) h
theorem Ai {c:Operand}{p q:Code}{N:Nat}{L:Bw}{b:Bool}(f:Fr a N L)(hc:AN L c=some (.bool b))(hb:b=false)(h:q.wp P (Qk n x r) a w):
  (Code.cond c p q).wp P (Qk n x r) a w:=wp_cond_false (by rw[f.eval hc,hb]) h
theorem Aa {ops:Array Oper}(h:n a w):wpList P ops (Qk n x r) [] a w:=h
end
inductive Iter {σ ρ:Type}(step:σ→Option (σ ⊕ ρ)):σ→ρ→Prop
 |done {s:σ} {r:ρ}:step s=some (.inr r)→Iter step s r
 |more {s s':σ} {r:ρ}:step s=some (.inl s')→Iter step s' r→Iter step s r
theorem Iter.unique {σ ρ:Type}{step:σ→Option (σ ⊕ ρ)}{s:σ}{r r':ρ}(h:Iter step s r)(h':Iter step s r'):r=r':=by
 induction h with
 |done h=>
  cases h' with
  |done k=>rw[h] at k;cases k;rfl
  |more k _=>rw[h] at k;cases k
 |more h _ ih=>
  cases h' with
  |done k=>rw[h] at k;cases k
  |more k k'=>rw[h] at k;cases k;exact ih k'
open Classical in
noncomputable def Aw {σ ρ:Type}(step:σ→Option (σ ⊕ ρ))(s:σ):Option ρ:=
 if h:∃r,Iter step s r then some h.choose else none
theorem loopF_some {σ ρ:Type}{step:σ→Option (σ ⊕ ρ)}{s:σ}{r:ρ}:Aw step s=some r↔Iter step s r:=by
 unfold Aw
 split
 ·rename_i h
  constructor
  ·intro e;cases e;exact h.choose_spec
  ·intro e;rw[Iter.unique h.choose_spec e]
 ·rename_i h
  constructor
  ·intro e;cases e
  ·intro e;exact absurd ⟨r,e⟩ h
theorem Cr {σ ρ:Type}{step:σ→Option (σ ⊕ ρ)}{s:σ}{r:ρ}(h:step s=some (.inr r)):Aw step s=some r:=
 loopF_some.2 (.done h)
theorem Cj {σ ρ:Type}{step:σ→Option (σ ⊕ ρ)}{s s':σ}(h:step s=some (.inl s')):Aw step s=Aw step s':=by
 cases h1:Aw step s' with
 |some r=>exact loopF_some.2 (.more h (loopF_some.1 h1))
 |none=>
  cases h2:Aw step s with
  |none=>rfl
  |some r=>
   cases loopF_some.1 h2 with
   |done k=>rw[h] at k;cases k
   |more k k'=>rw[h] at k;cases k;rw[loopF_some.2 k'] at h1;cases h1
theorem loopF_inv {σ ρ:Type}{step:σ→Option (σ ⊕ ρ)}(I:σ→Prop)(μ:σ→Nat)(Post:ρ→Prop)
  (hstep:∀s,I s→(∃s',step s=some (.inl s')∧I s'∧μ s'<μ s)∨(∃r,step s=some (.inr r)∧Post r)) (s:σ) (h0:I s):
  ∃r,Aw step s=some r∧Post r:=by
 generalize hn:μ s=k
 induction k using Nat.strongRecOn generalizing s with
 |_ k ih=>
  rcases hstep s h0 with⟨s',h1,h2,h3⟩|⟨r,h1,h2⟩
  ·obtain⟨r,h4,h5⟩:=ih (μ s') (by omega) s' h2 rfl
   exact⟨r,by rw[Cj h1];exact h4,h5⟩
  ·exact⟨r,Cr h1,h2⟩
theorem AM {P:Program}{n r:Bn}{x:List (Nat×Bn)}{a:Act}{w:World}{c:Code}{σ ρ:Type}{step:σ→Option (σ ⊕ ρ)}{s₀:σ}{rr:ρ}
  (Inv:σ→Bn) (hl:Aw step s₀=some rr) (h0:Inv s₀ a w)
  (round:∀s o,step s=some o→(∀q,o= .inr q→q=rr)→∀a w,Inv s a w→c.wp P (Qk (λa w=>∃s',o= .inl s'∧Inv s' a w) x r) a w):
  (Code.loop c).wp P (Qk n x r) a w:=by
 intro b k cs
 have key:∀s,Iter step s rr→∀a w,Inv s a w→
   ∃e a' w',Qk n x r e a' w'∧Arrives P (lone (b.at a (.code c:: .inLoop c::k)) cs w) b k cs e a' w':=by
  intro s hs
  generalize hrr:rr=q at hs
  induction hs with
  | @done s q h=>
   subst hrr
   intro a w hI
   obtain⟨e,a₁,w₁,hq,harr⟩:=round s (.inr rr) h (λq hq=>by cases hq;rfl) a w hI b (.inLoop c::k) cs
   cases e with
   |normal=>obtain⟨s',hs',_⟩:=hq;cases hs'
   |exit id=>exact⟨.exit id,a₁,w₁,hq,.pass (x:= .inLoop c) rfl (λ_ _=> .inl (by simp)) harr⟩
   |ret=>exact⟨.ret,a₁,w₁,hq,.pass (x:= .inLoop c) rfl (λ_ _=> .inl (by simp)) harr⟩
   |goto l=>exact hq.elim
   |panic ch=>exact hq.elim
   |outgrown=>exact hq.elim
  | @more s s' q h _ ih=>
   intro a w hI
   obtain⟨e,a₁,w₁,hq,harr⟩:=round s (.inl s') h (λq hq=>by cases hq) a w hI b (.inLoop c::k) cs
   cases e with
   |normal=>
    obtain⟨s'',hs',hI'⟩:=hq
    cases hs'
    obtain⟨e₂,a₂,w₂,hq₂,harr₂⟩:=ih hrr a₁ w₁ hI'
    exact⟨e₂,a₂,w₂,hq₂,.of_steps (Steps.trans harr (.one step_inLoop)) harr₂⟩
   |exit id=>exact⟨.exit id,a₁,w₁,hq,.pass (x:= .inLoop c) rfl (λ_ _=> .inl (by simp)) harr⟩
   |ret=>exact⟨.ret,a₁,w₁,hq,.pass (x:= .inLoop c) rfl (λ_ _=> .inl (by simp)) harr⟩
   |goto l=>exact hq.elim
   |panic ch=>exact hq.elim
   |outgrown=>exact hq.elim
 obtain⟨e,a',w',hq,harr⟩:=key s₀ (loopF_some.1 hl) a w h0
 exact⟨e,a',w',hq,.of_steps (.one step_loop) harr⟩
def BT :Nat:=4611686018427387904
theorem Da :1000000000000≤BT:=by unfold BT;omega
attribute [irreducible] BT
end Go.Sx

namespace Go.Sx
abbrev GH :=Nat→Option Obj
def GLe (G G':GH):Prop:=∀b o,G b=some o→G' b=some o
theorem GLe.refl (G:GH):GLe G G:=λ_ _ h=>h
theorem GLe.trans {G G' G'':GH}(h:GLe G G')(h':GLe G' G''):GLe G G'':=λb o k=>h' b o (h b o k)
inductive Itm
 |box (b:Nat) (t:TypeId) (cs:List Value)
 |row (v:Value) (t:TypeId) (sz n:Nat) (vs:List Value)
 |deep (v:Value) (t1 t2:TypeId) (rows:List (Value×List Value))
 |hole (v:Value) (t1 t2:TypeId) (rows:List (Value×List Value)) (i:Nat)
 |obj (b:Nat) (o:Obj)
def Cm (t2:TypeId)(r:Value×List Value):Itm:= .row r.1 t2 1 r.2.length r.2
def parts (v:Value)(t1 t2:TypeId)(rows:List (Value×List Value)):List Itm:=
 .row v t1 1 rows.length (rows.map (·.1))::rows.map (Cm t2)
def Itm.foot0 :Itm→List Nat
 | .box b _ _=>[b]
 | .row v _ _ _ _=>v.ownBlock.toList
 | .deep .. =>[]
 | .hole .. =>[]
 | .obj b _=>[b]
def Itm.ok0 (w:World):Itm→Prop
 | .box b t cs=>w.heap[b]? =some (.cells cs.toArray t (0,0))
 | .row v t sz n vs=>w.ownsRow 0 t sz v n vs
 | .deep .. =>True
 | .hole .. =>True
 | .obj b o=>w.heap[b]? =some o
def Itm.foot :Itm→List Nat
 | .box b _ _=>[b]
 | .row v _ _ _ _=>v.ownBlock.toList
 | .deep v t1 t2 rows=>(parts v t1 t2 rows).flatMap Itm.foot0
 | .hole v t1 t2 rows i=>((parts v t1 t2 rows).eraseIdx (i+1)).flatMap Itm.foot0
 | .obj b _=>[b]
def Itm.ok (w:World):Itm→Prop
 | .box b t cs=>w.heap[b]? =some (.cells cs.toArray t (0,0))
 | .row v t sz n vs=>w.ownsRow 0 t sz v n vs
 | .deep v t1 t2 rows=>(∀(i:Nat) (h:Itm),(parts v t1 t2 rows)[i]? =some h→h.ok0 w)∧
   ∀(i j:Nat) (a b:Itm),i≠j→(parts v t1 t2 rows)[i]? =some a→(parts v t1 t2 rows)[j]? =some b→∀x∈a.foot0,x∉b.foot0
 | .hole v t1 t2 rows k=>(∀(i:Nat) (h:Itm),((parts v t1 t2 rows).eraseIdx (k+1))[i]? =some h→h.ok0 w)∧
   ∀(i j:Nat) (a b:Itm),i≠j→((parts v t1 t2 rows).eraseIdx (k+1))[i]? =some a→((parts v t1 t2 rows).eraseIdx (k+1))[j]? =some b→∀x∈a.foot0,x∉b.foot0
 | .obj b o=>w.heap[b]? =some o
theorem ownsRow_of {w w':World}{v:Value}{t:TypeId}{sz n:Nat}{vs:List Value}(ok:w.ownsRow 0 t sz v n vs)(hb:∀x∈v.ownBlock.toList,w'.heap[x]? =w.heap[x]?):w'.ownsRow 0 t sz v n vs:=by
 refine⟨ok.1,?_⟩
 rcases ok.2 with hn|⟨g,cap,cur,rfl,hg0,hg,rest⟩
 ·exact .inl hn
 ·exact .inr ⟨g,cap,cur,rfl,hg0,by rw[hb g (by simp[Value.ownBlock])];exact hg,rest⟩
theorem Itm.lt0 {w:World}{h:Itm}(ok:h.ok0 w):∀x∈h.foot0,x<w.heap.size:=by
 cases h with
 |box b t cs=>
  intro x hx;simp[Itm.foot0] at hx;subst hx
  exact(Array.getElem?_eq_some_iff.1 ok).1
 |row v t sz n vs=>
  intro x hx;simp[Itm.foot0] at hx
  exact(World.ownsRow.lt ok x hx).2
 |deep=>intro x hx;simp[Itm.foot0] at hx
 |hole=>intro x hx;simp[Itm.foot0] at hx
 |obj b o=>
  intro x hx;simp[Itm.foot0] at hx;subst hx
  exact(Array.getElem?_eq_some_iff.1 ok).1
theorem Itm.ok0_of {w w':World}{h:Itm}(ok:h.ok0 w)(hb:∀x∈h.foot0,w'.heap[x]? =w.heap[x]?):h.ok0 w':=by
 cases h with
 |box b t cs=>simp only[Itm.ok0] at ok ⊢;rw[hb b (by simp[Itm.foot0])];exact ok
 |row v t sz n vs=>exact ownsRow_of ok hb
 |deep=>trivial
 |hole=>trivial
 |obj b o=>simp only[Itm.ok0] at ok ⊢;rw[hb b (by simp[Itm.foot0])];exact ok
theorem Itm.lt {w:World}{h:Itm}(ok:h.ok w):∀x∈h.foot,x<w.heap.size:=by
 cases h with
 |box b t cs=>exact Itm.lt0 (h:= .box b t cs) ok
 |row v t sz n vs=>exact Itm.lt0 (h:= .row v t sz n vs) ok
 |deep v t1 t2 rows=>
  intro x hx
  obtain⟨h,hh,hxh⟩:=List.mem_flatMap.1 hx
  obtain⟨i,hi,he⟩:=List.getElem_of_mem hh
  exact Itm.lt0 (ok.1 i h (by simp[hi,he])) x hxh
 |hole v t1 t2 rows k=>
  intro x hx
  obtain⟨h,hh,hxh⟩:=List.mem_flatMap.1 hx
  obtain⟨i,hi,he⟩:=List.getElem_of_mem hh
  exact Itm.lt0 (ok.1 i h (by rw[List.getElem?_eq_getElem hi,he])) x hxh
 |obj b o=>exact Itm.lt0 (h:= .obj b o) ok
theorem Itm.ok_of {w w':World}{h:Itm}(ok:h.ok w)(hb:∀x∈h.foot,w'.heap[x]? =w.heap[x]?):h.ok w':=by
 cases h with
 |box b t cs=>exact Itm.ok0_of (h:= .box b t cs) ok hb
 |row v t sz n vs=>exact Itm.ok0_of (h:= .row v t sz n vs) ok hb
 |deep v t1 t2 rows=>exact⟨λi h hi=>Itm.ok0_of (ok.1 i h hi) (λx hx=>hb x (List.mem_flatMap.2 ⟨h,List.mem_of_getElem? hi,hx⟩)),ok.2⟩
 |hole v t1 t2 rows k=>exact⟨λi h hi=>Itm.ok0_of (ok.1 i h hi) (λx hx=>hb x (List.mem_flatMap.2 ⟨h,List.mem_of_getElem? hi,hx⟩)),ok.2⟩
 |obj b o=>exact Itm.ok0_of (h:= .obj b o) ok hb
structure Mem (W : World) (G : GH) (w : World) (H : List Itm) : Prop where
  os : w.os = W.os
  tape : w.tape = W.tape
  output : w.output = W.output
  sealed : ∀ b o, G b = some o → w.heap[b]? = some o
  items : ∀ (i : Nat) (h : Itm), H[i]? = some h → h.ok w
  disj : ∀ (i j : Nat) (a b : Itm), i ≠ j → H[i]? = some a → H[j]? = some b → ∀ x ∈ a.foot, x ∉ b.foot
  apart : ∀ (i : Nat) (h : Itm), H[i]? = some h → ∀ x ∈ h.foot, G x = none
  base : ∀ (b : Nat) (o : Obj), W.heap[b]? = some o → G b = some o
section
variable {W w w' : World} {G G' : GH} {H H' : List Itm}
theorem Mem.start (w : World) : Mem w (fun b => w.heap[b]?) w [] :=
  ⟨rfl, rfl, rfl, fun _ _ h => h, by simp, by simp, by simp, fun _ _ h => h⟩
theorem Mem.congr (m:Mem W G w H)(h:w'.heap=w.heap)(ho:w'.os=w.os)(ht:w'.tape=w.tape)(hu:w'.output=w.output):Mem W G w' H:=
 ⟨ho.trans m.os,ht.trans m.tape,hu.trans m.output,λb o k=>by rw[h];exact m.sealed b o k,λi x k=>Itm.ok_of (m.items i x k) (λ_ _=>by rw[h]),m.disj,m.apart,m.base⟩
theorem Mem.inj (m:Mem W G w H)(φ:Nat→Nat)(hφ:∀i j,φ i=φ j→i=j)(h:∀(i:Nat) (x:Itm),H'[i]? =some x→H[φ i]? =some x):Mem W G w H':=
 ⟨m.os,m.tape,m.output,m.sealed,λi x k=>m.items _ x (h i x k),λi j a b hij ha hb=>m.disj (φ i) (φ j) a b (λe=>hij (hφ i j e)) (h i a ha) (h j b hb),λi x k=>m.apart _ x (h i x k),m.base⟩
theorem Mem.tail {x:Itm}(m:Mem W G w (x::H)):Mem W G w H:=
 m.inj (·+1) (by omega) (by simp)
theorem Mem.drop (m : Mem W G w (H' ++ H)) : Mem W G w H :=
  m.inj (· + H'.length) (by omega) (fun i x h => by rw [List.getElem?_append_right (by omega)]; simpa using h)
theorem Mem.front (m:Mem W G w H)(j:Nat){x:Itm}(hj:H[j]? =some x):Mem W G w (x::H.eraseIdx j):=by
 refine m.inj (λi=>if i=0 then j else if i≤j then i-1 else i) (by intro i k;split<;>split<;>(repeat' split)<;>omega) ?_
 intro i z h
 match i with
 |0=>simp at h;subst h;simpa using hj
 |i+1=>
  simp only[List.getElem?_cons_succ,List.getElem?_eraseIdx] at h
  split at h
  ·rw[if_neg (by omega),if_pos (by omega)];simpa using h
  ·rw[if_neg (by omega),if_neg (by omega)];exact h
theorem Mem.back {x:Itm}(m:Mem W G w (x::H))(j:Nat)(h:j≤H.length):Mem W G w (H.take j++x::H.drop j):=by
 refine m.inj (λi=>if i<j then i+1 else if i=j then 0 else i) (by intro i k;split<;>split<;>(repeat' split)<;>omega) ?_
 intro i z hz
 by_cases h1:i<j
 ·rw[List.getElem?_append_left (by simp;omega),List.getElem?_take,if_pos h1] at hz
  simp only[if_pos h1]
  simpa using hz
 ·rw[List.getElem?_append_right (by simp;omega)] at hz
  simp only[List.length_take,Nat.min_eq_left h] at hz
  simp only[if_neg h1]
  by_cases h2:i=j
  ·subst h2;simpa using hz
  ·rw[if_neg h2]
   obtain⟨k,hk⟩:∃k,i-j=k+1:=⟨i-j-1,by omega⟩
   rw[hk] at hz
   simp only[List.getElem?_cons_succ,List.getElem?_drop] at hz
   obtain⟨k2,rfl⟩:∃k2,i=k2+1:=⟨i-1,by omega⟩
   simp only[List.getElem?_cons_succ]
   rw[←hz];congr 1;omega
theorem Mem.lt (m:Mem W G w H){i:Nat}{h:Itm}(hi:H[i]? =some h):∀x∈h.foot,x<w.heap.size:=Itm.lt (m.items i h hi)
theorem Mem.glt (m:Mem W G w H){b:Nat}{o:Obj}(h:G b=some o):b<w.heap.size:=
 (Array.getElem?_eq_some_iff.1 (m.sealed b o h)).1
theorem Mem.change {h h':Itm}(m:Mem W G w (h::H))(ho:w'.os=w.os)(ht:w'.tape=w.tape)(hu:w'.output=w.output)
  (hb:∀x,x<w.heap.size→x∉h.foot→w'.heap[x]? =w.heap[x]?) (hok:h'.ok w') (hf:∀x∈h'.foot,x∈h.foot∨w.heap.size≤x):Mem W G w' (h'::H):=by
 have hd:∀(i:Nat) (z:Itm),H[i]? =some z→∀x∈z.foot,x∉h.foot:=λi z hz=>m.disj (i+1) 0 z h (by omega) (by simpa using hz) (by simp)
 have hl:∀(i:Nat) (z:Itm),H[i]? =some z→∀x∈z.foot,x<w.heap.size:=λi z hz=>m.lt (i:=i+1) (by simpa using hz)
 refine⟨ho.trans m.os,ht.trans m.tape,hu.trans m.output,λb o k=> ?_,λi z k=> ?_,λi j a b hij ha hbb=> ?_,λi z k=> ?_,m.base⟩
 ·rw[hb b (m.glt k) (λhx=>by have:=m.apart 0 h (by simp) b hx;rw[this] at k;cases k)]
  exact m.sealed b o k
 ·cases i with
  |zero=>simp at k;subst k;exact hok
  |succ i=>
   have k':H[i]? =some z:=by simpa using k
   exact Itm.ok_of (m.items (i+1) z k) (λx hx=>hb x (hl i z k' x hx) (hd i z k' x hx))
 ·cases i with
  |zero=>
   simp at ha;subst ha
   cases j with
   |zero=>omega
   |succ j=>
    have k':H[j]? =some b:=by simpa using hbb
    intro x hx hx'
    rcases hf x hx with h1|h1
    ·exact hd j b k' x hx' h1
    ·exact absurd (hl j b k' x hx') (by omega)
  |succ i=>
   have k':H[i]? =some a:=by simpa using ha
   cases j with
   |zero=>
    simp at hbb;subst hbb
    intro x hx hx'
    rcases hf x hx' with h1|h1
    ·exact hd i a k' x hx h1
    ·exact absurd (hl i a k' x hx) (by omega)
   |succ j=>exact m.disj (i+1) (j+1) a b hij (by simpa using ha) (by simpa using hbb)
 ·cases i with
  |zero=>
   simp at k;subst k
   intro x hx
   rcases hf x hx with h1|h1
   ·exact m.apart 0 h (by simp) x h1
   ·cases hg:G x with
    |none=>rfl
    |some o=>exact absurd (m.glt hg) (by omega)
  |succ i=>exact m.apart (i+1) z (by simpa using k)
theorem Mem.nilrow (m:Mem W G w H)(t:TypeId)(sz:Nat):Mem W G w (.row (.slice none 0 0) t sz 0 []::H):=by
 refine⟨m.os,m.tape,m.output,m.sealed,λi z k=> ?_,λi j a b hij ha hb=> ?_,λi z k=> ?_,m.base⟩
 ·cases i with
  |zero=>simp at k;subst k;exact World.ownsRow_nil w 0 t sz
  |succ i=>exact m.items i z (by simpa using k)
 ·cases i with
  |zero=>simp at ha;subst ha;intro x hx;simp[Itm.foot,Value.ownBlock] at hx
  |succ i=>
   cases j with
   |zero=>simp at hb;subst hb;intro x _ hx;simp[Itm.foot,Value.ownBlock] at hx
   |succ j=>exact m.disj i j a b (by omega) (by simpa using ha) (by simpa using hb)
 ·cases i with
  |zero=>simp at k;subst k;intro x hx;simp[Itm.foot,Value.ownBlock] at hx
  |succ i=>exact m.apart i z (by simpa using k)
theorem Mem.add {h':Itm}(m:Mem W G w H)(ho:w'.os=w.os)(ht:w'.tape=w.tape)(hu:w'.output=w.output)
  (hb:∀x,x<w.heap.size→w'.heap[x]? =w.heap[x]?) (hok:h'.ok w') (hf:∀x∈h'.foot,w.heap.size≤x):Mem W G w' (h'::H):=
 (m.nilrow 0 0).change ho ht hu (λx hx _=>hb x hx) hok (λx hx=> .inr (hf x hx))
theorem Mem.alloc (m:Mem W G w H)(t:TypeId)(cs:List Value):Mem W G (w.alloc (.cells cs.toArray t)) (.box w.heap.size t cs::H):=
 m.add rfl rfl rfl (λx hx=>by first|exact heap_alloc_old w _ x hx|exact heap_alloc_old w _ hx) (heap_alloc_new w _) (λx hx=>by simp[Itm.foot] at hx;omega)
theorem Mem.stamp {h:Itm}(m:Mem W G w (h::H)):∃G',GLe G G'∧Mem W G' w H∧(∀x∈h.foot,G' x=w.heap[x]?)∧(∀x,x∉h.foot→G' x=G x):=by
 refine⟨λx=>if x∈h.foot then w.heap[x]? else G x,λb o k=> ?_,⟨m.os,m.tape,m.output,λb o k=> ?_,λi z k=>m.items (i+1) z (by simpa using k),λi j a b hij ha hb=>m.disj (i+1) (j+1) a b (by omega) (by simpa using ha) (by simpa using hb),λi z k x hx=> ?_,λb o k=> ?_⟩,λx hx=>by simp[hx],λx hx=>by simp[hx]⟩
 ·have:b∉h.foot:=λhx=>by have:=m.apart 0 h (by simp) b hx;rw[this] at k;cases k
  simp[this,k]
 ·by_cases hx:b∈h.foot
  ·simp[hx] at k;exact k
  ·simp[hx] at k;exact m.sealed b o k
 ·have h1:x∉h.foot:=m.disj (i+1) 0 z h (by omega) (by simpa using k) (by simp) x hx
  simp[h1]
  exact m.apart (i+1) z (by simpa using k) x hx
 ·have k':=m.base b o k
  have:b∉h.foot:=λhx=>by have:=m.apart 0 h (by simp) b hx;rw[this] at k';cases k'
  simp[this,k']
theorem Mem.unstamp {h:Itm}(m:Mem W G w H)(hx:∀x∈h.foot,G x=w'.heap[x]?)(hok:h.ok w')(hH:∀(i:Nat) (z:Itm),H[i]? =some z→∀x∈z.foot,x∉h.foot)(hW:∀x∈h.foot,W.heap[x]? =none):
  Mem W (λx=>if x∈h.foot then none else G x) w (h::H):=by
 have hold:∀x∈h.foot,w.heap[x]? =w'.heap[x]? :=λx hxf=>by
  have h1:=hx x hxf
  have hlt:=Itm.lt hok x hxf
  have h2:G x=some w'.heap[x]:=by rw[h1];simp[hlt]
  rw[m.sealed x _ h2,←h1,h2]
 refine⟨m.os,m.tape,m.output,λb o k=> ?_,λi z k=> ?_,λi j a b hij ha hb=> ?_,λi z k x hxf=> ?_,λb o k=> ?_⟩
 ·by_cases hxf:b∈h.foot
  ·simp[hxf] at k
  ·simp[hxf] at k;exact m.sealed b o k
 ·cases i with
  |zero=>simp at k;subst k;exact Itm.ok_of hok (λx hxf=>hold x hxf)
  |succ i=>exact m.items i z (by simpa using k)
 ·cases i with
  |zero=>
   simp at ha;subst ha
   cases j with
   |zero=>omega
   |succ j=>exact λx hx hx'=>hH j b (by simpa using hb) x hx' hx
  |succ i=>
   cases j with
   |zero=>simp at hb;subst hb;exact hH i a (by simpa using ha)
   |succ j=>exact m.disj i j a b (by omega) (by simpa using ha) (by simpa using hb)
 ·by_cases hxh:x∈h.foot
  ·simp[hxh]
  ·simp only[hxh,if_false]
   cases i with
   |zero=>simp at k;subst k;exact absurd hxf hxh
   |succ i=>exact m.apart i z (by simpa using k) x hxf
 ·have:b∉h.foot:=λhx=>by rw[hW b hx] at k;cases k
  simp[this,m.base b o k]
end
def Cell (G:GH)(b o:Nat)(c:Value):Prop:=∃cs t f,G b=some (.cells cs t f)∧cs[o]? =some c
theorem Cell.mono {G G':GH}(h:GLe G G'){b o:Nat}{c:Value}(k:Cell G b o c):Cell G' b o c:=by
 obtain⟨cs,t,f,h1,h2⟩:=k
 exact⟨cs,t,f,h _ _ h1,h2⟩
theorem Cell.get {W w:World}{G:GH}{H:List Itm}(m:Mem W G w H){b o:Nat}{c:Value}(k:Cell G b o c):w.cell? ⟨b,o,none⟩=some c:=by
 obtain⟨cs,t,f,h1,h2⟩:=k
 simp[World.cell?,m.sealed _ _ h1,h2]
abbrev Rep (α:Type):=GH→Value→α→Prop
def DA {α:Type}(R:Rep α):Prop:=∀G G' v x,GLe G G'→R G v x→R G' v x
def RI (k:IntKind):Rep Int:=λ_ v n=>v= .int k n
theorem RI.mono (k:IntKind):DA (RI k):=λ_ _ _ _ _ h=>h
def All2 {α:Type}(A:Value→α→Prop)(vs:List Value)(xs:List α):Prop:=
 vs.length=xs.length∧∀(i:Nat) (c:Value) (x:α),vs[i]? =some c→xs[i]? =some x→A c x
theorem All2.nil {α:Type}(A:Value→α→Prop):All2 A [] []:=⟨rfl,by simp⟩
theorem All2.get {α:Type}{A:Value→α→Prop}{vs:List Value}{xs:List α}(h:All2 A vs xs){i:Nat}{x:α}(hx:xs[i]? =some x):∃c,vs[i]? =some c∧A c x:=by
 have hi:i<vs.length:=by rw[h.1];exact(List.getElem?_eq_some_iff.1 hx).1
 exact⟨vs[i],by simp[hi],h.2 i _ x (by simp[hi]) hx⟩
theorem All2.mono {α:Type}{A A':Value→α→Prop}{vs:List Value}{xs:List α}(h:All2 A vs xs)(hA:∀v x,A v x→A' v x):All2 A' vs xs:=
 ⟨h.1,λi c x h1 h2=>hA _ _ (h.2 i c x h1 h2)⟩
theorem All2.append {α:Type}{A:Value→α→Prop}{vs vs':List Value}{xs xs':List α}(h:All2 A vs xs)(h':All2 A vs' xs'):All2 A (vs++vs') (xs++xs'):=by
 refine⟨by simp[h.1,h'.1],λi c x h1 h2=> ?_⟩
 by_cases hi:i<vs.length
 ·rw[List.getElem?_append_left hi] at h1
  rw[List.getElem?_append_left (by rw[←h.1];exact hi)] at h2
  exact h.2 i c x h1 h2
 ·rw[List.getElem?_append_right (by omega)] at h1
  rw[List.getElem?_append_right (by rw[←h.1];omega),←h.1] at h2
  exact h'.2 _ c x h1 h2
theorem All2.set {α:Type}{A:Value→α→Prop}{vs:List Value}{xs:List α}(h:All2 A vs xs)(i:Nat){c:Value}{x:α}(hc:A c x):All2 A (vs.set i c) (xs.set i x):=by
 refine⟨by simp[h.1],λj d y h1 h2=> ?_⟩
 rw[List.getElem?_set] at h1 h2
 by_cases hij:i=j
 ·subst hij
  simp only[if_true] at h1 h2
  split at h1
  ·split at h2
   ·cases h1;cases h2;exact hc
   ·cases h2
  ·cases h1
 ·rw[if_neg hij] at h1 h2
  exact h.2 j d y h1 h2
theorem All2.take {α:Type}{A:Value→α→Prop}{vs:List Value}{xs:List α}(h:All2 A vs xs)(n:Nat):All2 A (vs.take n) (xs.take n):=by
 refine⟨by simp[h.1],λj d y h1 h2=> ?_⟩
 rw[List.getElem?_take] at h1 h2
 split at h1
 ·rename_i hj;rw[if_pos hj] at h2;exact h.2 j d y h1 h2
 ·cases h1
theorem All2.drop {α:Type}{A:Value→α→Prop}{vs:List Value}{xs:List α}(h:All2 A vs xs)(n:Nat):All2 A (vs.drop n) (xs.drop n):=by
 refine⟨by simp[h.1],λj d y h1 h2=> ?_⟩
 rw[List.getElem?_drop] at h1 h2
 exact h.2 _ d y h1 h2
theorem All2.one {α:Type}{A:Value→α→Prop}{c:Value}{x:α}(h:A c x):All2 A [c] [x]:=by
 refine⟨rfl,λi d y h1 h2=> ?_⟩
 match i with
 |0=>simp at h1 h2;subst h1;subst h2;exact h
 |i+1=>simp at h1
theorem All2.cons {α:Type}{A:Value→α→Prop}{c:Value}{x:α}{vs:List Value}{xs:List α}(h:A c x)(h':All2 A vs xs):All2 A (c::vs) (x::xs):=
 All2.append (All2.one h) h'
theorem All2.replicate {α:Type}{A:Value→α→Prop}{c:Value}{x:α}(h:A c x)(n:Nat):All2 A (List.replicate n c) (List.replicate n x):=by
 induction n with
 |zero=>exact All2.nil A
 |succ n ih=>exact All2.cons h ih
def RSl {α:Type}(R:Rep α):Rep (List α):=λG v xs=>
 ∃vs,All2 (R G) vs xs∧((v= .slice none 0 0∧xs=[])∨
  ∃a cap,v= .slice (some a) xs.length cap∧xs.length≤cap∧cap≤maxLen∧∀(j:Nat) (c:Value),vs[j]? =some c→a.spot=Option.none∧Cell G a.block (a.off+j) c)
theorem RSl.mono {α : Type} {R : Rep α} (hR : DA R) : DA (RSl R) := by
  rintro G G' v xs hG ⟨vs, h1, h2⟩
  refine ⟨vs, h1.mono (fun v x => hR G G' v x hG), ?_⟩
  rcases h2 with h2 | ⟨a, cap, e1, e2, e3, e4⟩
  · exact .inl h2
  · exact .inr ⟨a, cap, e1, e2, e3, fun j c hc => ⟨(e4 j c hc).1, (e4 j c hc).2.mono hG⟩⟩
theorem RSl.nil {α:Type}(R:Rep α)(G:GH):RSl R G (.slice none 0 0) []:=⟨[],All2.nil _,.inl ⟨rfl,rfl⟩⟩
theorem RSl.len {α:Type}{R:Rep α}{G:GH}{v:Value}{xs:List α}(h:RSl R G v xs):∃a c,v= .slice a xs.length c∧xs.length≤c∧c≤maxLen:=by
 obtain⟨vs,_,h⟩:=h
 rcases h with⟨rfl,rfl⟩|⟨a,cap,rfl,h1,h2,_⟩
 ·exact⟨none,0,rfl,by simp,by simp[maxLen]⟩
 ·exact⟨_,cap,rfl,h1,h2⟩
def Ow {α:Type}(R:Rep α)(t:TypeId)(G:GH)(it:Itm)(v:Value)(xs:List α):Prop:=
 ∃vs,it= .row v t 1 xs.length vs∧All2 (R G) vs xs
theorem Ow.mono {α : Type} {R : Rep α} (hR : DA R) {t : TypeId} {G G' : GH} {it : Itm} {v : Value} {xs : List α} (hG : GLe G G') (h : Ow R t G it v xs) : Ow R t G' it v xs := by
  obtain ⟨vs, h1, h2⟩ := h
  exact ⟨vs, h1, h2.mono (fun v x => hR G G' v x hG)⟩
theorem Ow.len {α:Type}{R:Rep α}{t:TypeId}{W w:World}{G G':GH}{it:Itm}{H:List Itm}{v:Value}{xs:List α}(h:Ow R t G it v xs)(m:Mem W G' w (it::H)):
  ∃a c,v= .slice a xs.length c∧xs.length≤c∧c≤maxLen:=by
 obtain⟨vs,rfl,_⟩:=h
 have this:w.ownsRow 0 t 1 v xs.length vs:=m.items 0 (.row v t 1 xs.length vs) (by simp)
 rcases this.2 with⟨h1,h2⟩|⟨g,cap,cur,h1,_,_,h2,h3,_⟩
 ·exact⟨none,0,by rw[h1,h2],by omega,by simp[maxLen]⟩
 ·exact⟨_,cap,h1,h2,h3⟩
theorem Ow.stamp {α:Type}{R:Rep α}(hR:DA R){t:TypeId}{W w:World}{G:GH}{it:Itm}{H:List Itm}{v:Value}{xs:List α}(h:Ow R t G it v xs)(m:Mem W G w (it::H)):
  ∃G',GLe G G'∧Mem W G' w H∧RSl R G' v xs:=by
 obtain⟨G',h1,h2,h3,_⟩:=m.stamp
 refine⟨G',h1,h2,?_⟩
 obtain⟨vs,rfl,hA⟩:=h
 refine⟨vs,hA.mono (λv x=>hR G G' v x h1),?_⟩
 have this:w.ownsRow 0 t 1 v xs.length vs:=m.items 0 (.row v t 1 xs.length vs) (by simp)
 rcases this.2 with⟨e1,e2⟩|⟨g,cap,cur,e1,_,eh,e2,e3,e4,e5⟩
 ·exact .inl ⟨e1,List.eq_nil_of_length_eq_zero e2⟩
 ·refine .inr ⟨⟨g,0,none⟩,cap,e1,e2,e3,λj c hc=>⟨rfl,cur,t,(0,0),?_,?_⟩⟩
  ·rw[h3 g (by rw[e1];simp[Itm.foot,Value.ownBlock]),eh]
  ·rw[←e5,List.getElem?_take] at hc
   split at hc
   ·simpa using hc
   ·cases hc
theorem Ow.nil {α:Type}(R:Rep α)(t:TypeId){W w:World}{G:GH}{H:List Itm}(m:Mem W G w H):
  ∃it,Mem W G w (it::H)∧Ow R t G it (.slice none 0 0) []:=
 ⟨_,m.nilrow t 1,[],rfl,All2.nil _⟩
theorem Ow.lend {α:Type}{R:Rep α}(hR:DA R){t:TypeId}{W w:World}{G:GH}{it:Itm}{H:List Itm}{v:Value}{xs:List α}(h:Ow R t G it v xs)(m:Mem W G w (it::H)):
  ∃G',GLe G G'∧Mem W G' w H∧RSl R G' v xs∧
   ∀G'' w' H',GLe G' G''→Mem W G'' w' H'→∃G₃,GLe G G₃∧Mem W G₃ w' (it::H')∧Ow R t G₃ it v xs:=by
 obtain⟨G',h1,h2,h3,h4⟩:=m.stamp
 have hok:it.ok w:=m.items 0 it (by simp)
 have hap:∀x∈it.foot,G x=none:=m.apart 0 it (by simp)
 have hlt:=Itm.lt hok
 obtain⟨G1,e1,e2,e3⟩:=h.stamp hR m
 refine⟨G',h1,h2,?_,λG'' w' H' hle m'=> ?_⟩
 ·obtain⟨vs,rfl,hA⟩:=h
  refine⟨vs,hA.mono (λv x=>hR G G' v x h1),?_⟩
  have this:w.ownsRow 0 t 1 v xs.length vs:=hok
  rcases this.2 with⟨e1,e2⟩|⟨g,cap,cur,e1,_,eh,e2,e3,e4,e5⟩
  ·exact .inl ⟨e1,List.eq_nil_of_length_eq_zero e2⟩
  ·refine .inr ⟨⟨g,0,none⟩,cap,e1,e2,e3,λj c hc=>⟨rfl,cur,t,(0,0),?_,?_⟩⟩
   ·rw[h3 g (by rw[e1];simp[Itm.foot,Value.ownBlock]),eh]
   ·rw[←e5,List.getElem?_take] at hc
    split at hc
    ·simpa using hc
    ·cases hc
 ·have hx:∀x∈it.foot,G'' x=w.heap[x]? :=λx hx=>by
   have hl:=hlt x hx
   have:G' x=some w.heap[x]:=by rw[h3 x hx];simp[hl]
   rw[hle x _ this];simp[hl]
  refine⟨_,λb o k=> ?_,m'.unstamp hx hok (λi z hz x hxz hxi=> ?_) (λx hxi=> ?_),?_⟩
  ·have:b∉it.foot:=λhx=>by rw[hap b hx] at k;cases k
   simp[this,hle b o (h1 b o k)]
  ·have h5:=m'.apart i z hz x hxz
   have hl:=hlt x hxi
   rw[hx x hxi] at h5
   simp[hl] at h5
  ·cases hg:W.heap[x]? with
   |none=>rfl
   |some o=>have h5:=m.base x o hg;rw[hap x hxi] at h5;cases h5
  ·refine h.mono hR (λb o k=> ?_)
   have:b∉it.foot:=λhx=>by rw[hap b hx] at k;cases k
   simp[this,hle b o (h1 b o k)]
end Go.Sx

namespace Go.Sx
section
variable {W w w' : World} {G G' : GH} {H H' : List Itm}
theorem DP {α:Type}(H:List α)(j:Nat)(x:α)(hj:j<H.length):(H.eraseIdx j).take j++x::(H.eraseIdx j).drop j=H.set j x:=by
 apply List.ext_getElem?
 intro i
 have hl:((H.eraseIdx j).take j).length=j:=by simp[List.length_eraseIdx,hj];omega
 by_cases h1:i<j
 ·rw[List.getElem?_append_left (by omega),List.getElem?_take,if_pos h1,List.getElem?_eraseIdx,if_pos h1,List.getElem?_set,if_neg (by omega)]
 ·rw[List.getElem?_append_right (by omega),hl]
  by_cases h2:i=j
  ·subst h2;simp[hj]
  ·obtain⟨k,hk⟩:∃k,i-j=k+1:=⟨i-j-1,by omega⟩
   rw[hk,List.getElem?_cons_succ,List.getElem?_drop,List.getElem?_eraseIdx,if_neg (by omega),List.getElem?_set,if_neg (by omega)]
   congr 1;omega
theorem Mem.changeAt {h' h:Itm}(m:Mem W G w H)(j:Nat)(hj:H[j]? =some h)(ho:w'.os=w.os)(ht:w'.tape=w.tape)(hu:w'.output=w.output)
  (hb:∀x,x<w.heap.size→x∉h.foot→w'.heap[x]? =w.heap[x]?) (hok:h'.ok w') (hf:∀x∈h'.foot,x∈h.foot∨w.heap.size≤x):Mem W G w' (H.set j h'):=by
 have hl:j<H.length:=(List.getElem?_eq_some_iff.1 hj).1
 have m1:=((m.front j hj).change ho ht hu hb hok hf).back j (by simp[List.length_eraseIdx,hl];omega)
 rwa [DP H j h' hl] at m1
theorem Mem.eraseAt (m:Mem W G w H)(j:Nat):Mem W G w (H.eraseIdx j):=by
 refine m.inj (λi=>if i<j then i else i+1) (by intro i k;split<;>split<;>omega) (λi x h=> ?_)
 rw[List.getElem?_eraseIdx] at h
 split<;>simp_all
theorem Mem.boxCell (m:Mem W G w H)(j:Nat){b:Nat}{t:TypeId}{cs:List Value}(hj:H[j]? =some (.box b t cs)){i:Nat}{c:Value}(hc:cs[i]? =some c):w.cell? ⟨b,i,none⟩=some c:=by
 have h:w.heap[b]? =some (.cells cs.toArray t (0,0)):=m.items j _ hj
 simp[World.cell?,h,hc]
theorem Mem.boxStore (m:Mem W G w H)(j:Nat){b:Nat}{t:TypeId}{cs:List Value}(hj:H[j]? =some (.box b t cs))(cs':List Value):
  Mem W G (w.setRow b cs'.toArray) (H.set j (.box b t cs')):=by
 have h:w.heap[b]? =some (.cells cs.toArray t (0,0)):=m.items j _ hj
 exact m.changeAt j hj rfl rfl rfl (λx _ hx=>setRow_other w b x _ (by simpa [Itm.foot] using hx)) (setRow_heap w b _ _ t _ h) (λx hx=> .inl hx)
end
section
variable {P : Program} {ops : Array Oper} {rest : List Oper} {n r : Bn} {x : List (Nat × Bn)} {a : Act} {w w' : World} {N : Nat} {L : Bw}
theorem Ce {o:Oper}{d:Nat}{v:Value}(f:Fr a N L)(hg:o.guard=none)(hd:o.dst=some d)(hN:Nat.blt d N=true)
  (hr:(execOp a.eval o).run P w= .ok (.value v) w') (k:∀a',Fr a' N ((d,v)::L)→wpList P ops (Qk n x r) rest a' w'):
  wpList P ops (Qk n x r) (o::rest) a w:=by
 refine wpList_plain hg λK hK=> ?_
 unfold Oper.wp
 rw[hr]
 simp only[Oper.upon,hd]
 exact hK _ _ (k _ (f.put hN v))
theorem l_void {o:Oper}(hg:o.guard=none)(hd:o.dst=none)
  (hr:(execOp a.eval o).run P w= .ok .skip w') (k:wpList P ops (Qk n x r) rest a w'):
  wpList P ops (Qk n x r) (o::rest) a w:=by
 refine wpList_plain hg λK hK=> ?_
 unfold Oper.wp
 rw[hr]
 simp only[Oper.upon,hd]
 exact hK _ _ k
theorem Ep {j s:Nat}{b:Bool}(f:Fr a N L)(hj:(ops[j]?).bind (·.dst)=some s)(hs:look L s=some (.bool b)):yielded ops a.tmps j=some b:=by
 have h:=f.get s _ hs
 unfold yielded
 rw[hj]
 rcases Nat.lt_or_ge s a.tmps.size with h1|h1
 ·simp[Array.getD_eq_getD_getElem?,h1] at h
  simp[h1,h]
 ·simp[Array.getD_eq_getD_getElem?,Array.getElem?_eq_none h1,undef] at h
theorem l_run {dst:Option Tmp}{op:Op}{t:TypeId}{pos:String}{af:Array Edge}{j s:Nat}{b c:Bool}(f:Fr a N L)(hj:(ops[j]?).bind (·.dst)=some s)
  (hs:look L s=some (.bool c)) (hc:c=b) (k:wpList P ops (Qk n x r) (⟨dst,op,t,pos,af,none⟩::rest) a w):
  wpList P ops (Qk n x r) (⟨dst,op,t,pos,af,some (j,b)⟩::rest) a w:=by
 have hy:=Ep (ops:=ops) f hj hs
 unfold wpList at k ⊢
 rw[if_pos (by simp[Region.wanted])] at k
 rw[if_pos (by simp[Region.wanted,hy,hc])]
 exact k
theorem l_not {dst:Option Tmp}{op:Op}{t:TypeId}{pos:String}{af:Array Edge}{j s:Nat}{b c:Bool}(f:Fr a N L)(hj:(ops[j]?).bind (·.dst)=some s)
  (hs:look L s=some (.bool c)) (hc:c= !b) (k:wpList P ops (Qk n x r) rest (a.put dst undef) w):
  wpList P ops (Qk n x r) (⟨dst,op,t,pos,af,some (j,b)⟩::rest) a w:=by
 have hy:=Ep (ops:=ops) f hj hs
 unfold wpList
 simp only[Region.wanted,hy,hc]
 cases b<;>simpa using k
theorem l_not' {d:Nat}{op:Op}{t:TypeId}{pos:String}{af:Array Edge}{j s:Nat}{b c:Bool}(f:Fr a N L)(hN:Nat.blt d N=true)(hj:(ops[j]?).bind (·.dst)=some s)
  (hs:look L s=some (.bool c)) (hc:c= !b) (k:∀a',Fr a' N ((d,undef)::L)→wpList P ops (Qk n x r) rest a' w):
  wpList P ops (Qk n x r) (⟨some d,op,t,pos,af,some (j,b)⟩::rest) a w:=
 l_not f hj hs hc (k _ (f.put hN undef))
theorem l_call {d:Nat}{g:FuncId}{args:List Operand}{tys:Array TypeId}{vs:List Value}{t:TypeId}{pos:String}{af:Array Edge}(R:Value→World→Prop)(f:Fr a N L)
  (hN:Nat.blt d N=true) (hargs:evalAll L args=some vs) (hcall:∀(ars:Array Value) (w:World),(callFunc g ars).run P w= .ok (.enter g ars) w)
  (hc:Calls P g vs.toArray w λe w'=>∃v,e= .returned v∧R v w')
  (k:∀v w',R v w'→∀a',Fr a' N ((d,v)::L)→wpList P ops (Qk n x r) rest a' w'):
  wpList P ops (Qk n x r) (⟨some d,.call {callee:= .value (.func g),args:=args.toArray,argTypes:=tys},t,pos,af,none⟩::rest) a w:=by
 refine wpList_plain rfl λK hK=> ?_
 unfold Oper.wp
 have hargs':(args.toArray.map a.eval)=vs.toArray:=by rw[List.map_toArray,f.evalAll hargs]
 have hr:(execOp a.eval ⟨some d,.call {callee:= .value (.func g),args:=args.toArray,argTypes:=tys},t,pos,af,none⟩).run P w= .ok (.enter g vs.toArray) w:=by
  simp only[execOp,resolve,Deferred.ofValue,Act.eval,Sem.run_bind,Sem.run_pure,Result.andThen_ok,invoke,hargs']
  have:=hcall vs.toArray w
  simpa using this
 rw[hr]
 simp only[Oper.upon]
 refine hc.mono λe w' ⟨v,he,hR⟩=> ?_
 subst he
 exact hK _ _ (k v w' hR _ (f.put hN v))
theorem l_callv {d:Nat}{g:FuncId}{fo:Operand}{first caps:Array Value}{args:List Operand}{tys:Array TypeId}{vs:List Value}{t:TypeId}{pos:String}{af:Array Edge}(R:Value→World→Prop)(f:Fr a N L)
  (hN:Nat.blt d N=true) (hfo:AN L fo=some (.func (.func g) first caps)) (hargs:evalAll L args=some vs) (hcall:∀(ars:Array Value) (w:World),(callFunc g ars).run P w= .ok (.enter g ars) w)
  (hc:Calls P g (first++vs.toArray++caps) w λe w'=>∃v,e= .returned v∧R v w')
  (k:∀v w',R v w'→∀a',Fr a' N ((d,v)::L)→wpList P ops (Qk n x r) rest a' w'):
  wpList P ops (Qk n x r) (⟨some d,.call {callee:= .value fo,args:=args.toArray,argTypes:=tys},t,pos,af,none⟩::rest) a w:=by
 refine wpList_plain rfl λK hK=> ?_
 unfold Oper.wp
 have hargs':(args.toArray.map a.eval)=vs.toArray:=by rw[List.map_toArray,f.evalAll hargs]
 have hr:(execOp a.eval ⟨some d,.call {callee:= .value fo,args:=args.toArray,argTypes:=tys},t,pos,af,none⟩).run P w= .ok (.enter g (first++vs.toArray++caps)) w:=by
  simp only[execOp,resolve,Deferred.ofValue,f.eval hfo,Sem.run_bind,Sem.run_pure,Result.andThen_ok,invoke,hargs']
  exact hcall _ w
 rw[hr]
 simp only[Oper.upon]
 refine hc.mono λe w' ⟨v,he,hR⟩=> ?_
 subst he
 exact hK _ _ (k v w' hR _ (f.put hN v))
end
structure SlT (P:Program)(t e sz bytes:Nat)(z:Value):Prop where
 und:P.underlying t=some (.slice e)
 info:∃i,P.info? e=some i∧i.size=sz∧i.bytes=bytes∧i.zero=some z
def B8 (P:Program)(t:TypeId):Prop:=∀w,(isAgg t).run P w= .ok false w
def Agg (P:Program)(t n:Nat):Prop:=(∀w,(isAgg t).run P w= .ok true w)∧∀w,(sizeOf t).run P w= .ok n w
section
variable {P : Program} {ρ : Operand → Value} {w : World} {d : Option Tmp} {t : TypeId} {pos : String} {af : Array Edge} {gd : Option (Nat × Bool)}
theorem BB {x:Operand}{v:Value}(h:ρ x=v):(execOp ρ ⟨d,.move x,t,pos,af,gd⟩).run P w= .ok (.value v) w:=by rw[←h];rfl
theorem Cf {x:Operand}{v:Value}(h:ρ x=v):(execOp ρ ⟨d,.assign x,t,pos,af,gd⟩).run P w= .ok (.value v) w:=by rw[←h];rfl
theorem r_pick {c x y:Operand}{b:Bool}{v:Value}(hc:ρ c= .bool b)(h:(if b then ρ x else ρ y)=v):(execOp ρ ⟨d,.pick c x y,t,pos,af,gd⟩).run P w= .ok (.value v) w:=by
 rw[←h];simp[execOp,hc,asBool]
theorem A8 {op:BinOp}{k:IntKind}{u u':TypeId}{x y:Operand}{m n:Int}{v:Value}(hx:ρ x= .int k m)(hy:ρ y= .int k n)
  (h:∀w,(binOp op u (.int k m) (.int k n)).run P w= .ok v w):(execOp ρ ⟨d,.binOp op u x y u',t,pos,af,gd⟩).run P w= .ok (.value v) w:=by
 have hg:(eqGuard op u x y (.int k m) (.int k n)).run P w= .ok () w:=by
  unfold eqGuard
  cases op<;>rfl
 simp[execOp,hx,hy,hg,h w]
theorem Ax {k:IntKind}{u:TypeId}{m n:Int}(w:World):(binOp .add u (.int k m) (.int k n)).run P w= .ok (.int k (k.wrap (m+n))) w:=by simp[binOp,Op.intArith]
theorem Be {k:IntKind}{u:TypeId}{m n:Int}(w:World):(binOp .sub u (.int k m) (.int k n)).run P w= .ok (.int k (k.wrap (m-n))) w:=by simp[binOp,Op.intArith]
theorem C4 {k:IntKind}{u:TypeId}{m n:Int}(w:World):(binOp .mul u (.int k m) (.int k n)).run P w= .ok (.int k (k.wrap (m*n))) w:=by simp[binOp,Op.intArith]
theorem AV {k:IntKind}{u:TypeId}{m n:Int}(w:World):(binOp .lss u (.int k m) (.int k n)).run P w= .ok (.bool (decide (m<n))) w:=by simp[binOp,Op.intCmp]
theorem CL {k:IntKind}{u:TypeId}{m n:Int}(w:World):(binOp .leq u (.int k m) (.int k n)).run P w= .ok (.bool (decide (m≤n))) w:=by simp[binOp,Op.intCmp]
theorem Ci {k:IntKind}{u:TypeId}{m n:Int}(w:World):(binOp .gtr u (.int k m) (.int k n)).run P w= .ok (.bool (decide (n<m))) w:=by simp[binOp,Op.intCmp]
theorem CC {k:IntKind}{u:TypeId}{m n:Int}(w:World):(binOp .geq u (.int k m) (.int k n)).run P w= .ok (.bool (decide (n≤m))) w:=by simp[binOp,Op.intCmp]
theorem BA {k:IntKind}{u:TypeId}{m n:Int}(w:World):(binOp .eql u (.int k m) (.int k n)).run P w= .ok (.bool (m==n)) w:=by simp[binOp,Op.intCmp]
theorem Dc {k:IntKind}{u:TypeId}{m n:Int}(w:World):(binOp .neq u (.int k m) (.int k n)).run P w= .ok (.bool (m !=n)) w:=by simp[binOp,Op.intCmp]
def iand (k:IntKind)(m n:Int):Int:=k.wrap (BitVec.ofInt k.bits m&&&BitVec.ofInt k.bits n).toNat
def ior (k:IntKind)(m n:Int):Int:=k.wrap (BitVec.ofInt k.bits m|||BitVec.ofInt k.bits n).toNat
def Bt (k:IntKind)(m n:Int):Int:=k.wrap (BitVec.ofInt k.bits m^^^BitVec.ofInt k.bits n).toNat
def iandNot (k:IntKind)(m n:Int):Int:=k.wrap (BitVec.ofInt k.bits m&&& ~~~(BitVec.ofInt k.bits n)).toNat
theorem CZ {k:IntKind}{u:TypeId}{m n:Int}(w:World):(binOp .and u (.int k m) (.int k n)).run P w= .ok (.int k (iand k m n)) w:=by simp[binOp,Op.intBits,iand]
theorem b_or {k:IntKind}{u:TypeId}{m n:Int}(w:World):(binOp .or u (.int k m) (.int k n)).run P w= .ok (.int k (ior k m n)) w:=by simp[binOp,Op.intBits,ior]
theorem b_xor {k:IntKind}{u:TypeId}{m n:Int}(w:World):(binOp .xor u (.int k m) (.int k n)).run P w= .ok (.int k (Bt k m n)) w:=by simp[binOp,Op.intBits,Bt]
theorem DZ {k:IntKind}{u:TypeId}{m n:Int}(w:World):(binOp .andNot u (.int k m) (.int k n)).run P w= .ok (.int k (iandNot k m n)) w:=by simp[binOp,Op.intBits,iandNot]
theorem b_quo {k:IntKind}{u:TypeId}{m n:Int}(h:(n==0)=false)(w:World):(binOp .quo u (.int k m) (.int k n)).run P w= .ok (.int k (k.wrap (m.tdiv n))) w:=by
 have:n≠0:=by simpa using h
 simp[binOp,Op.intDiv,this]
theorem b_rem {k:IntKind}{u:TypeId}{m n:Int}(h:(n==0)=false)(w:World):(binOp .rem u (.int k m) (.int k n)).run P w= .ok (.int k (m.tmod n)) w:=by
 have:n≠0:=by simpa using h
 simp[binOp,Op.intDiv,this]
def ishl (k:IntKind)(m n:Int):Int:=k.wrap (m*2^(min n.toNat k.bits))
def BL (k:IntKind)(m n:Int):Int:=m.fdiv (2^(min n.toNat k.bits))
theorem r_shl {k k':IntKind}{u u':TypeId}{x y:Operand}{m n:Int}(hx:ρ x= .int k m)(hy:ρ y= .int k' n)(h:decide (n<0)=false):
  (execOp ρ ⟨d,.binOp .shl u x y u',t,pos,af,gd⟩).run P w= .ok (.value (.int k (ishl k m n))) w:=by
 have h':¬n<0:=by simpa using h
 simp[execOp,hx,hy,eqGuard,binOp,Op.shift,h',ishl]
theorem Es {k k':IntKind}{u u':TypeId}{x y:Operand}{m n:Int}(hx:ρ x= .int k m)(hy:ρ y= .int k' n)(h:decide (n<0)=false):
  (execOp ρ ⟨d,.binOp .shr u x y u',t,pos,af,gd⟩).run P w= .ok (.value (.int k (BL k m n))) w:=by
 have h':¬n<0:=by simpa using h
 simp[execOp,hx,hy,eqGuard,binOp,Op.shift,h',BL]
theorem BN {u:TypeId}{x:Operand}{b:Bool}(hx:ρ x= .bool b):(execOp ρ ⟨d,.unOp .not u x,t,pos,af,gd⟩).run P w= .ok (.value (.bool (!b))) w:=by
 simp[execOp,hx,Op.unary]
theorem r_neg {u:TypeId}{x:Operand}{k:IntKind}{m:Int}(hx:ρ x= .int k m):(execOp ρ ⟨d,.unOp .neg u x,t,pos,af,gd⟩).run P w= .ok (.value (.int k (k.wrap (0-m)))) w:=by
 simp[execOp,hx,Op.unary,Op.intArith]
theorem C5 {s u:TypeId}{x:Operand}{k k':IntKind}{m:Int}(hx:ρ x= .int k m)(hs:∃q,P.underlying s=some q)(hu:P.underlying u=some (.int k')):
  (execOp ρ ⟨d,.convert s u x,t,pos,af,gd⟩).run P w= .ok (.value (.int k' (k'.wrap m))) w:=by
 obtain⟨q,hq⟩:=hs
 simp[execOp,hx,convert,run_underlying hq,run_underlying hu,Conv.intToInt]
theorem D4 {x:Operand}{u e:TypeId}{a:Option Addr}{n c:Nat}(hx:ρ x= .slice a n c)(hu:P.underlying u=some (.slice e)):
  (execOp ρ ⟨d,.call {callee:= .builtin .len,args:= #[x],argTypes:= #[u]},t,pos,af,gd⟩).run P w= .ok (.value (.int .i64 n)) w:=by
 simp[execOp,resolve,invoke,builtin,Builtin.len_,run_underlying hu,hx,goInt]
theorem AE {x:Operand}{vs:Array Value}{i:Nat}{v:Value}(hx:ρ x= .tuple vs)(hi:vs[i]? =some v):(execOp ρ ⟨d,.extract x i,t,pos,af,gd⟩).run P w= .ok (.value v) w:=by
 simp[execOp,hx,Instr.extract,hi]
theorem AH {x:Operand}{a:Addr}(hx:ρ x= .pointer (some a)):(execOp ρ ⟨d,.nilCheck x,t,pos,af,gd⟩).run P w= .ok (.value (.pointer (some a))) w:=by
 simp[execOp,hx]
theorem Fj {x:Operand}{u:TypeId}{a:Addr}{c:Value}(hx:ρ x= .pointer (some a))(hp:B8 P u)(hc:w.cell? a=some c):
  (execOp ρ ⟨d,.load u x,t,pos,af,gd⟩).run P w= .ok (.value c) w:=by
 simp[execOp,hx,Instr.loadAt,Instr.sureAddr,loadVar,hp w,hc]
theorem Gc {x:Operand}{u n:Nat}{a:Addr}{cs:List Value}(hx:ρ x= .pointer (some a))(hp:Agg P u n)(hn:cs.length=n)(hc:∀j v,cs[j]? =some v→w.cell? (a.add j)=some v):
  (execOp ρ ⟨d,.load u x,t,pos,af,gd⟩).run P w= .ok (.value (.agg cs.toArray)) w:=by
 subst hn
 simp[execOp,hx,Instr.loadAt,Instr.sureAddr,loadVar,hp.1 w,hp.2 w,run_loadCells_list w a cs hc]
theorem E5 {x:Operand}{s fi:Nat}{a:Addr}{fs:Array Field}{fl:Field}{sz:Nat}(hx:ρ x= .pointer (some a))(hs:P.underlying s=some (.struct fs))(hf:fs[fi]? =some fl)
  (hz:∀w,(sizeOf fl.type).run P w= .ok sz w) (hz0:sz≠0):(execOp ρ ⟨d,.fieldAddr s x fi,t,pos,af,gd⟩).run P w= .ok (.value (.pointer (some (a.add fl.offset)))) w:=by
 simp[execOp,hx,Instr.fieldAt,Instr.sureAddr,run_underlying hs,hf,fieldPlace,hz w,hz0]
theorem r_box {x:Operand}{u:TypeId}{v:Value}(hx:ρ x=v):(execOp ρ ⟨d,.box u x,t,pos,af,gd⟩).run P w= .ok (.value (.pointer (some ⟨w.heap.size,0,none⟩))) (w.alloc (.cells v.cells u)):=by
 simp[execOp,hx,Instr.box,newVar,newRow]
theorem r_alloc {u:TypeId}{z:Value}(hz:∀w,(zeroValue u).run P w= .ok z w):(execOp ρ ⟨d,.alloc u,t,pos,af,gd⟩).run P w= .ok (.value (.pointer (some ⟨w.heap.size,0,none⟩))) (w.alloc (.cells z.cells u)):=by
 simp[execOp,Instr.alloc,hz w,newVar,newRow]
theorem CR {x i:Operand}{u e:Nat}{bytes:Nat}{z:Value}{sz:Nat}{k:IntKind}{j:Int}{a:Addr}{n c:Nat}(hx:ρ x= .slice (some a) n c)(hi:ρ i= .int k j)(hu:SlT P u e sz bytes z)
  (h0:0≤j) (h1:j<n):(execOp ρ ⟨d,.indexAddr u x i,t,pos,af,gd⟩).run P w= .ok (.value (.pointer (some (a.add (j.toNat*sz))))) w:=by
 obtain⟨ti,h2,h3,_⟩:=hu.info
 simp[execOp,hx,hi,Instr.indexAt,asIntOf,run_underlying hu.und,h0,h1,sizeOf,typeInfo,h2,h3]
theorem r_store {x y:Operand}{u:TypeId}{b off:Nat}{tt:TypeId}{cur:Array Value}{v:Value}(hx:ρ x= .pointer (some ⟨b,off,none⟩))(hy:ρ y=v)(hz:∀w,(sizeOf u).run P w= .ok v.cells.size w)
  (hg:w.heap[b]? =some (.cells cur tt (0,0))) (hl:off+v.cells.size≤cur.size) (h1:∀c∈v.cells.toList,c.oneCell'=true):
  (execOp ρ ⟨d,.store u x y,t,pos,af,gd⟩).run P w= .ok .skip (w.setRow b (cur.toList.take off++v.cells.toList++cur.toList.drop (off+v.cells.size)).toArray):=by
 have:=run_storeCells_at P b off tt v.cells.toList 0 cur w hg (by simpa using hl) h1
 simp only[Nat.add_zero,Array.length_toList] at this
 simp[execOp,hx,hy,Instr.storeAt,Instr.sureAddr,storeVar,hz w,this]
theorem r_makeFunc {fn:Fn}{fs cs:Array Operand}{v:Value}(h:Instr.makeFunc fn (fs.map ρ) (cs.map ρ)= .pure v):(execOp ρ ⟨d,.makeFunc fn fs cs,t,pos,af,gd⟩).run P w= .ok (.value v) w:=by
 simp[execOp,h]
end
end Go.Sx

namespace Go.Sx
def enum (k:Nat):List Value→Bw
 |[]=>[]
 |v::r=>(k,v)::enum (k+1) r
theorem look_enum {k s:Nat}{l:List Value}{v:Value}(h:look (enum k l) s=some v):k≤s∧l[s-k]? =some v:=by
 induction l generalizing k with
 |nil=>simp[enum,look] at h
 |cons u r ih=>
  by_cases hk:k=s
  ·subst hk;rw[enum,EM] at h;cases h;simp
  ·rw[enum,EE hk] at h
   obtain⟨h1,h2⟩:=ih h
   refine⟨by omega,?_⟩
   obtain⟨j,hj⟩:∃j,s-k=j+1:=⟨s-k-1,by omega⟩
   rw[hj,List.getElem?_cons_succ,←h2];congr 1;omega
theorem Fr.start {args:List Value}{N:Nat}(h:args.length≤N):Fr {tmps:=args.toArray++Array.replicate (N-args.toArray.size) undef,defers:=[]} N (enum 0 args):=by
 refine⟨rfl,by simp;omega,λs v hs=> ?_⟩
 obtain⟨_,h2⟩:=look_enum hs
 simp only[Nat.sub_zero] at h2
 have hl:=(List.getElem?_eq_some_iff.1 h2).1
 simp[Array.getD_eq_getD_getElem?,Array.getElem?_append,hl]
 exact(List.getElem?_eq_some_iff.1 h2).2
theorem calls_k {P:Program}{g:FuncId}{fn:Func}{c:Code}{args:List Value}{w:World}{R:Ending→World→Prop}{N:Nat}(r:Bn)
  (hf:P.funcs[g]? =some fn) (hb:fn.body=some c) (hN:fn.ntmps=N) (hl:args.length≤N)
  (h:∀a,Fr a N (enum 0 args)→c.wp P (Qk r [] r) a w)
  (hr:∀a w,r a w→a.defers=[]∧∃v,(results fn a.tmps).run P w= .ok v w∧R (.returned v) w):Calls P g args.toArray w R:=by
 refine calls_of_wp hf hb ?_
 rw[hN]
 refine wp_mono (h _ (Fr.start hl)) λe a w q=> ?_
 cases e with
 |normal=>exact hr _ _ q
 |ret=>exact hr _ _ q
 |exit id=>obtain⟨K,hk,_⟩:=q;cases hk
 |goto l=>exact q.elim
 |panic ch=>exact q.elim
 |outgrown=>exact q.elim
def Res (W : World) (G : GH) (H : List Itm) (Q : GH → List Itm → Value → Prop) : Ending → World → Prop := fun e w' =>
  ∃ v, e = .returned v ∧ ∃ G' Ho, GLe G G' ∧ Mem W G' w' (Ho ++ H) ∧ Q G' Ho v
def idx {α:Type}(xs:List α)(i:Int):Option α:=if 0≤i then xs[i.toNat]? else none
theorem CG {α:Type}{xs:List α}{i:Int}{x:α}(h:idx xs i=some x):0≤i∧i<xs.length∧xs[i.toNat]? =some x:=by
 unfold idx at h
 split at h
 ·rename_i h0
  have:=(List.getElem?_eq_some_iff.1 h).1
  exact⟨h0,by omega,h⟩
 ·cases h
theorem Af {α:Type}{c:Bool}{p q:Option α}{y:α}(h:cond c p q=some y):(c=true∧p=some y)∨(c=false∧q=some y):=by
 cases c
 ·exact .inr ⟨rfl,h⟩
 ·exact .inl ⟨rfl,h⟩
theorem bind_some {α β:Type}{p:Option α}{q:α→Option β}{y:β}(h:p.bind q=some y):∃x,p=some x∧q x=some y:=Option.bind_eq_some_iff.1 h
theorem RSl.at {α:Type}{R:Rep α}{G:GH}{v:Value}{xs:List α}(h:RSl R G v xs){i:Int}{x:α}(hi:idx xs i=some x):
  ∃a n c off u,v= .slice (some ⟨a,off,none⟩) n c∧0≤i∧i<n∧Cell G a (off+i.toNat) u∧R G u x:=by
 obtain⟨h0,h1,h2⟩:=CG hi
 obtain⟨vs,hA,h3⟩:=h
 rcases h3 with⟨rfl,rfl⟩|⟨⟨b,off,sp⟩,cap,rfl,h4,h5,h6⟩
 ·simp at h2
 ·obtain⟨c,hc,hR⟩:=hA.get h2
  obtain⟨rfl,h7⟩:=h6 _ _ hc
  exact⟨b,xs.length,cap,off,c,rfl,h0,h1,h7,hR⟩
def At (G:GH)(p c:Value):Prop:=∃b o,p= .pointer (some ⟨b,o,none⟩)∧Cell G b o c
theorem BQ (b o n:Nat):(⟨b,o,none⟩:Addr).add n=⟨b,o+n,none⟩:=by
 unfold Addr.add;split
 ·rename_i h;subst h;rfl
 ·rfl
section
variable {P : Program} {ops : Array Oper} {rest : List Oper} {n r : Bn} {x : List (Nat × Bn)} {a : Act} {w : World} {N : Nat} {L : Bw}
theorem BI {α:Type}{R:Rep α}{G:GH}{v:Value}{xs:List α}{d:Nat}{u e bytes:Nat}{z:Value}{xo io:Operand}{k:IntKind}{i:Int}{e':α}{t:TypeId}{pos:String}{af:Array Edge}
  (hu:SlT P u e 1 bytes z) (f:Fr a N L) (hN:Nat.blt d N=true) (hx:AN L xo=some v) (hi:AN L io=some (.int k i)) (h:RSl R G v xs) (he:idx xs i=some e')
  (q:∀p c a',At G p c→R G c e'→Fr a' N ((d,p)::L)→wpList P ops (Qk n x r) rest a' w):
  wpList P ops (Qk n x r) (⟨some d,.indexAddr u xo io,t,pos,af,none⟩::rest) a w:=by
 obtain⟨b,m,c,off,cv,rfl,h0,h1,hc,hR⟩:=h.at he
 refine Ce f rfl rfl hN (CR (f.eval hx) (f.eval hi) hu h0 h1) λa' f'=> ?_
 refine q _ cv a' ⟨b,off+i.toNat,?_,hc⟩ hR f'
 rw[BQ,Nat.mul_one]
theorem A3 {W:World}{H:List Itm}{G:GH}(m:Mem W G w H){d:Nat}{u:TypeId}{xo:Operand}{p c:Value}{t:TypeId}{pos:String}{af:Array Edge}
  (hp:B8 P u) (f:Fr a N L) (hN:Nat.blt d N=true) (hx:AN L xo=some p) (h:At G p c)
  (q:∀a',Fr a' N ((d,c)::L)→wpList P ops (Qk n x r) rest a' w):
  wpList P ops (Qk n x r) (⟨some d,.load u xo,t,pos,af,none⟩::rest) a w:=by
 obtain⟨b,o,rfl,hc⟩:=h
 exact Ce f rfl rfl hN (Fj (f.eval hx) hp (hc.get m)) q
theorem Bg {α:Type}{R:Rep α}{G:GH}{v:Value}{xs:List α}{d:Nat}{u e:Nat}{xo:Operand}{t:TypeId}{pos:String}{af:Array Edge}
  (hu:P.underlying u=some (.slice e)) (f:Fr a N L) (hN:Nat.blt d N=true) (hx:AN L xo=some v) (h:RSl R G v xs)
  (q:∀a',Fr a' N ((d,.int .i64 (xs.length:Int))::L)→wpList P ops (Qk n x r) rest a' w):
  wpList P ops (Qk n x r) (⟨some d,.call {callee:= .builtin .len,args:= #[xo],argTypes:= #[u]},t,pos,af,none⟩::rest) a w:=by
 obtain⟨b,c,rfl,_⟩:=h.len
 exact Ce f rfl rfl hN (D4 (f.eval hx) hu) q
end
end Go.Sx

namespace Go.Sx
section
variable {P : Program} {ops : Array Oper} {rest l : List Oper} {n r : Bn} {x : List (Nat × Bn)} {a : Act} {w : World} {N : Nat} {L : Bw}
variable {W : World} {G : GH} {H : List Itm}
variable {d : Nat} {t : TypeId} {pos : String} {af : Array Edge}
theorem BF (j:Nat)(Mid:Bn)(h:wpList P ops (Qk Mid x r) (l.take j) a w)(k:∀a w,Mid a w→wpList P ops (Qk n x r) (l.drop j) a w):wpList P ops (Qk n x r) l a w:=by
 induction l generalizing j a w with
 |nil=>
  have h':Mid a w:=by rw[List.take_nil] at h;exact h
  have:=k a w h'
  rwa [List.drop_nil] at this
 |cons o l ih=>
  cases j with
  |zero=>exact k a w h
  |succ j=>
   simp only[List.take_succ_cons,List.drop_succ_cons] at h k
   unfold wpList at h ⊢
   have mono:∀a w,wpList P ops (Qk Mid x r) (l.take j) a w→wpList P ops (Qk n x r) l a w:=λa w h=>ih j h k
   split at h
   ·rename_i hw
    rw[if_pos hw]
    rcases h with h|⟨h1,h2⟩
    ·left
     unfold Oper.wp at*
     generalize (execOp a.eval o).run P w=res at*
     cases res with
     |ok nx w'=>
      cases nx<;>simp only[Oper.upon] at h ⊢<;>
       first
        |exact mono _ _ h
        |exact Calls.mono h (λe w'' he=>by
          cases e
          ·exact mono _ _ he
          ·exact he
          ·obtain⟨_,_,q⟩:=he;exact q.elim)
        |exact Rows.mono h (λ_ _ he=>mono _ _ he)
     |halt hh w'=>cases hh<;>simp only[Oper.upon] at h ⊢<;>exact h
    ·obtain⟨_,_,q⟩:=h2
     exact q.elim
   ·rename_i hw
    rw[if_neg hw]
    exact mono _ _ h
theorem l_res {g:FuncId}{args:List Operand}{tys:Array TypeId}{vs:List Value}{Q:GH→List Itm→Value→Prop}(f:Fr a N L)
  (hN:Nat.blt d N=true) (hargs:evalAll L args=some vs) (hcall:∀(ars:Array Value) (w:World),(callFunc g ars).run P w= .ok (.enter g ars) w)
  (hc:Calls P g vs.toArray w (Res W G H Q))
  (k:∀v G' Ho w',GLe G G'→Mem W G' w' (Ho++H)→Q G' Ho v→∀a',Fr a' N ((d,v)::L)→wpList P ops (Qk n x r) rest a' w'):
  wpList P ops (Qk n x r) (⟨some d,.call {callee:= .value (.func g),args:=args.toArray,argTypes:=tys},t,pos,af,none⟩::rest) a w:=
 l_call (R:=λv w'=>∃G' Ho,GLe G G'∧Mem W G' w' (Ho++H)∧Q G' Ho v) f hN hargs hcall hc (λv w' ⟨G',Ho,h1,h2,h3⟩=>k v G' Ho w' h1 h2 h3)
theorem l_resv {g:FuncId}{fo:Operand}{first caps:Array Value}{args:List Operand}{tys:Array TypeId}{vs:List Value}{Q:GH→List Itm→Value→Prop}(f:Fr a N L)
  (hN:Nat.blt d N=true) (hfo:AN L fo=some (.func (.func g) first caps)) (hargs:evalAll L args=some vs) (hcall:∀(ars:Array Value) (w:World),(callFunc g ars).run P w= .ok (.enter g ars) w)
  (hc:Calls P g (first++vs.toArray++caps) w (Res W G H Q))
  (k:∀v G' Ho w',GLe G G'→Mem W G' w' (Ho++H)→Q G' Ho v→∀a',Fr a' N ((d,v)::L)→wpList P ops (Qk n x r) rest a' w'):
  wpList P ops (Qk n x r) (⟨some d,.call {callee:= .value fo,args:=args.toArray,argTypes:=tys},t,pos,af,none⟩::rest) a w:=
 l_callv (R:=λv w'=>∃G' Ho,GLe G G'∧Mem W G' w' (Ho++H)∧Q G' Ho v) f hN hfo hargs hcall hc (λv w' ⟨G',Ho,h1,h2,h3⟩=>k v G' Ho w' h1 h2 h3)
theorem Bz {u:TypeId}{xo:Operand}{v:Value}{cs:List Value}(m:Mem W G w H)(f:Fr a N L)(hN:Nat.blt d N=true)(hx:AN L xo=some v)(hv:v.cells=cs.toArray)
  (k:∀b w' a',Mem W G w' (.box b u cs::H)→Fr a' N ((d,.pointer (some ⟨b,0,none⟩))::L)→wpList P ops (Qk n x r) rest a' w'):
  wpList P ops (Qk n x r) (⟨some d,.box u xo,t,pos,af,none⟩::rest) a w:=
 Ce f rfl rfl hN (r_box (f.eval hx)) (λa' f'=>k w.heap.size _ a' (by rw[hv];exact m.alloc u cs) f')
theorem AP {u:TypeId}{z:Value}{cs:List Value}(hz:∀w,(zeroValue u).run P w= .ok z w)(m:Mem W G w H)(f:Fr a N L)(hN:Nat.blt d N=true)(hv:z.cells=cs.toArray)
  (k:∀b w' a',Mem W G w' (.box b u cs::H)→Fr a' N ((d,.pointer (some ⟨b,0,none⟩))::L)→wpList P ops (Qk n x r) rest a' w'):
  wpList P ops (Qk n x r) (⟨some d,.alloc u,t,pos,af,none⟩::rest) a w:=
 Ce f rfl rfl hN (r_alloc hz) (λa' f'=>k w.heap.size _ a' (by rw[hv];exact m.alloc u cs) f')
theorem AG (j i:Nat){b:Nat}{tt:TypeId}{cs:List Value}{u:TypeId}{xo:Operand}{c:Value}(m:Mem W G w H)(hp:B8 P u)(f:Fr a N L)(hN:Nat.blt d N=true)
  (hx:AN L xo=some (.pointer (some ⟨b,i,none⟩))) (hj:H[j]? =some (.box b tt cs)) (hc:cs[i]? =some c)
  (k:∀a',Fr a' N ((d,c)::L)→wpList P ops (Qk n x r) rest a' w):
  wpList P ops (Qk n x r) (⟨some d,.load u xo,t,pos,af,none⟩::rest) a w:=
 Ce f rfl rfl hN (Fj (f.eval hx) hp (m.boxCell j hj hc)) k
theorem AA (j i:Nat){b nn:Nat}{tt:TypeId}{cs ds:List Value}{u:TypeId}{xo:Operand}(m:Mem W G w H)(hp:Agg P u nn)(f:Fr a N L)(hN:Nat.blt d N=true)
  (hx:AN L xo=some (.pointer (some ⟨b,i,none⟩))) (hj:H[j]? =some (.box b tt cs)) (hds:(cs.drop i).take nn=ds) (hl:ds.length=nn)
  (k:∀a',Fr a' N ((d,.agg ds.toArray)::L)→wpList P ops (Qk n x r) rest a' w):
  wpList P ops (Qk n x r) (⟨some d,.load u xo,t,pos,af,none⟩::rest) a w:=by
 refine Ce f rfl rfl hN (Gc (f.eval hx) hp hl (λj' v hv=> ?_)) k
 rw[BQ]
 refine m.boxCell j hj ?_
 rw[←hds,List.getElem?_take] at hv
 split at hv
 ·rwa [List.getElem?_drop] at hv
 ·cases hv
theorem l_fieldAddr {b i:Nat}{s fi:Nat}{fs:Array Field}{fl:Field}{sz:Nat}{xo:Operand}(hs:P.underlying s=some (.struct fs))(hf:fs[fi]? =some fl)
  (hz:∀w,(sizeOf fl.type).run P w= .ok sz w) (hz0:sz≠0) (f:Fr a N L) (hN:Nat.blt d N=true) (hx:AN L xo=some (.pointer (some ⟨b,i,none⟩)))
  (k:∀a',Fr a' N ((d,.pointer (some ⟨b,i+fl.offset,none⟩))::L)→wpList P ops (Qk n x r) rest a' w):
  wpList P ops (Qk n x r) (⟨some d,.fieldAddr s xo fi,t,pos,af,none⟩::rest) a w:=by
 refine Ce f rfl rfl hN (E5 (f.eval hx) hs hf hz hz0) ?_
 rw[BQ]
 exact k
theorem Am (j i:Nat){b:Nat}{tt:TypeId}{cs ds cs':List Value}{u:TypeId}{xo yo:Operand}{v:Value}(m:Mem W G w H)(hz:∀w,(sizeOf u).run P w= .ok ds.length w)(f:Fr a N L)
  (hx:AN L xo=some (.pointer (some ⟨b,i,none⟩))) (hy:AN L yo=some v) (hv:v.cells=ds.toArray) (h1:∀c∈ds,c.oneCell'=true) (hj:H[j]? =some (.box b tt cs))
  (hl:i+ds.length≤cs.length) (hcs:cs.take i++ds++cs.drop (i+ds.length)=cs')
  (k:∀w',Mem W G w' (H.set j (.box b tt cs'))→wpList P ops (Qk n x r) rest a w'):
  wpList P ops (Qk n x r) (⟨none,.store u xo yo,t,pos,af,none⟩::rest) a w:=by
 have hg:w.heap[b]? =some (.cells cs.toArray tt (0,0)):=m.items j _ hj
 have hsz:v.cells.size=ds.length:=by rw[hv];simp
 have hr:=r_store (P:=P) (ρ:=a.eval) (w:=w) (d:=none) (t:=t) (pos:=pos) (af:=af) (gd:=none) (u:=u) (off:=i) (f.eval hx) (f.eval hy) (by rw[hsz];exact hz) hg (by rw[hsz];simpa using hl) (by rw[hv];simpa using h1)
 refine l_void rfl rfl hr ?_
 rw[hsz,hv]
 simp only[]
 rw[hcs]
 exact k _ (m.boxStore j hj cs')
theorem Ow.at' {α:Type}{R:Rep α}{tt:TypeId}{G':GH}{it:Itm}{v:Value}{xs:List α}(h:Ow R tt G it v xs)(m:Mem W G' w H){j:Nat}(hj:H[j]? =some it){i:Int}{y:α}(hi:idx xs i=some y):
  ∃b c cur vs,it= .row v tt 1 xs.length vs∧v= .slice (some ⟨b,0,none⟩) xs.length c∧0≤i∧i<xs.length∧w.heap[b]? =some (.cells cur tt (0,0))∧xs.length≤c∧c≤maxLen∧cur.size=c∧cur.toList.take xs.length=vs∧All2 (R G) vs xs:=by
 obtain⟨h0,h1,h2⟩:=CG hi
 obtain⟨vs,rfl,hA⟩:=h
 have ok:w.ownsRow 0 tt 1 v xs.length vs:=m.items j _ hj
 rcases ok.2 with⟨_,e2⟩|⟨g,cap,cur,e1,_,eh,e2,e3,e4,e5⟩
 ·omega
 ·exact⟨g,cap,cur,vs,rfl,e1,h0,h1,eh,e2,e3,by simpa using e4,by simpa using e5,hA⟩
def Dx (v p:Value)(i:Int):Prop:=∃b m c,v= .slice (some ⟨b,0,none⟩) m c∧p= .pointer (some ⟨b,i.toNat,none⟩)
theorem BJ {α:Type}{R:Rep α}{tt:TypeId}{it:Itm}{v:Value}{xs:List α}{u e:Nat}{xo:Operand}(j:Nat)(m:Mem W G w H)(h:Ow R tt G it v xs)(hj:H[j]? =some it)
  (hu:P.underlying u=some (.slice e)) (f:Fr a N L) (hN:Nat.blt d N=true) (hx:AN L xo=some v)
  (q:∀a',Fr a' N ((d,.int .i64 (xs.length:Int))::L)→wpList P ops (Qk n x r) rest a' w):
  wpList P ops (Qk n x r) (⟨some d,.call {callee:= .builtin .len,args:= #[xo],argTypes:= #[u]},t,pos,af,none⟩::rest) a w:=by
 obtain⟨b,c,rfl,_⟩:=h.len (m.front j hj)
 exact Ce f rfl rfl hN (D4 (f.eval hx) hu) q
theorem Bq {α:Type}{R:Rep α}{tt:TypeId}{it:Itm}{v:Value}{xs:List α}{u e bytes:Nat}{z:Value}{xo io:Operand}{k:IntKind}{i:Int}{y:α}(j:Nat)(m:Mem W G w H)(h:Ow R tt G it v xs)(hj:H[j]? =some it)
  (hu:SlT P u e 1 bytes z) (f:Fr a N L) (hN:Nat.blt d N=true) (hx:AN L xo=some v) (hi:AN L io=some (.int k i)) (he:idx xs i=some y)
  (q:∀p a',Dx v p i→Fr a' N ((d,p)::L)→wpList P ops (Qk n x r) rest a' w):
  wpList P ops (Qk n x r) (⟨some d,.indexAddr u xo io,t,pos,af,none⟩::rest) a w:=by
 obtain⟨b,c,cur,vs,rfl,rfl,h0,h1,hg,_⟩:=h.at' m hj he
 refine Ce f rfl rfl hN (CR (f.eval hx) (f.eval hi) hu h0 h1) λa' f'=> ?_
 exact q _ a' ⟨b,_,c,rfl,by rw[BQ,Nat.mul_one,Nat.zero_add]⟩ f'
theorem BW {α:Type}{R:Rep α}{tt:TypeId}{it:Itm}{v p:Value}{xs:List α}{u:Nat}{xo:Operand}{i:Int}{y:α}(j:Nat)(m:Mem W G w H)(h:Ow R tt G it v xs)(hj:H[j]? =some it)
  (hp:B8 P u) (f:Fr a N L) (hN:Nat.blt d N=true) (hx:AN L xo=some p) (ha:Dx v p i) (he:idx xs i=some y)
  (q:∀c a',R G c y→Fr a' N ((d,c)::L)→wpList P ops (Qk n x r) rest a' w):
  wpList P ops (Qk n x r) (⟨some d,.load u xo,t,pos,af,none⟩::rest) a w:=by
 obtain⟨b,mm,c,e1,rfl⟩:=ha
 obtain⟨b',c',cur,vs,rfl,e2,h0,h1,hg,h2,h3,h4,h5,hA⟩:=h.at' m hj he
 rw[e2] at e1
 cases e1
 obtain⟨_,_,h6⟩:=CG he
 obtain⟨cv,h7,hR⟩:=hA.get h6
 refine Ce f rfl rfl hN (Fj (f.eval hx) hp (c:=cv) ?_) (λa' f'=>q cv a' hR f')
 rw[←h5,List.getElem?_take] at h7
 split at h7
 ·simp only[World.cell?,hg];simpa using h7
 ·cases h7
theorem AR {α:Type}{R:Rep α}{tt:TypeId}{it:Itm}{v p c:Value}{xs:List α}{u:Nat}{xo yo:Operand}{i:Int}{y y':α}(j:Nat)(m:Mem W G w H)(h:Ow R tt G it v xs)(hj:H[j]? =some it)
  (hz:∀w,(sizeOf u).run P w= .ok 1 w) (f:Fr a N L) (hx:AN L xo=some p) (hy:AN L yo=some c) (ha:Dx v p i) (he:idx xs i=some y) (hc:c.cells= #[c]) (h1c:c.oneCell'=true) (hR:R G c y')
  (q:∀it' w',Mem W G w' (H.set j it')→Ow R tt G it' v (xs.set i.toNat y')→wpList P ops (Qk n x r) rest a w'):
  wpList P ops (Qk n x r) (⟨none,.store u xo yo,t,pos,af,none⟩::rest) a w:=by
 obtain⟨b,mm,cc,e1,rfl⟩:=ha
 obtain⟨b',c',cur,vs,rfl,e2,h0,h1,hg,h2,h3,h4,h5,hA⟩:=h.at' m hj he
 rw[e2] at e1
 cases e1
 have hlt:i.toNat<xs.length:=by omega
 have hr:=r_store (P:=P) (ρ:=a.eval) (w:=w) (d:=none) (t:=t) (pos:=pos) (af:=af) (gd:=none) (u:=u) (off:=i.toNat) (f.eval hx) (f.eval hy) (by rw[hc];exact hz) hg (by rw[hc];simp;omega) (by rw[hc];simpa using h1c)
 refine l_void rfl rfl hr ?_
 rw[hc]
 simp only[List.size_toArray,List.length_cons,List.length_nil,Nat.zero_add]
 have hset:cur.toList.take i.toNat++[c]++cur.toList.drop (i.toNat+1)=cur.toList.set i.toNat c:=by
  rw[List.set_eq_take_append_cons_drop,if_pos (by simp;omega)];simp
 rw[hset]
 refine q (.row v tt 1 xs.length (vs.set i.toNat c)) _ (m.changeAt j hj rfl rfl rfl (λz _ hz'=>setRow_other w b z _ (by simpa [Itm.foot,e2,Value.ownBlock] using hz')) ⟨by simp[←h5];omega,.inr ⟨b,cc,_,e2,Nat.zero_le _,setRow_heap w b cur _ tt _ hg,h2,h3,by simp[h4],?_⟩⟩ (λz hz'=> .inl hz')) ⟨_,by simp,hA.set _ hR⟩
 simp only[Nat.mul_one]
 rw[←h5,List.take_set]
def Src (w:World)(v:Value)(n:Nat)(vs:List Value):Prop:=
 vs.length=n∧((v= .slice none 0 0∧n=0)∨∃a c,v= .slice (some a) n c∧(∀(j:Nat) u,vs[j]? =some u→w.cell? (a.add j)=some u))
def AU {α:Type}(xs ys:List α):Option (List α):=if xs.length+ys.length≤4294967296 then some (xs++ys) else none
theorem run_appended {α:Type}{R:Rep α}{tt ty u bytes:Nat}{z:Value}{it:Itm}{v s:Value}{xs ys zs:List α}(j:Nat)(m:Mem W G w H)(h:Ow R tt G it v xs)(hj:H[j]? =some it)
  (hu:SlT P u tt 1 bytes z) (hzc:z.cells.size=1) (hb:bytes≤32768) {vs:List Value} (hs:Src w s ys.length vs) (h1:∀c∈vs,c.oneCell'=true) (hA:All2 (R G) vs ys) (hz:AU xs ys=some zs):
  ∃it' v' w',(Builtin.append_ #[u,u] ty #[v,s]).run P w= .ok v' w'∧Mem W G w' (H.set j it')∧Ow R tt G it' v' zs:=by
 unfold AU at hz
 split at hz
 ·rename_i hle
  cases hz
  obtain⟨vs0,rfl,hA0⟩:=h
  obtain⟨ti,hi1,hi2,hi3,hi4⟩:=hu.info
  have ok:w.ownsRow 0 tt 1 v xs.length vs0:=m.items j _ hj
  rcases hs.2 with⟨rfl,h0⟩|⟨ad,c,rfl,hcells⟩
  ·have hys:ys=[]:=List.eq_nil_of_length_eq_zero h0
   subst hys
   have hr:=run_append_owned_none (P:=P) (w:=w) 0 u ty tt ti 1 hu.und hi1 v xs.length vs0 ok
   refine⟨.row v tt 1 (xs++[]).length vs0,v,w,hr,?_,vs0,rfl,by simpa using hA0⟩
   have:H.set j (.row v tt 1 (xs++[]).length vs0)=H:=by
    apply List.ext_getElem?
    intro k
    rw[List.getElem?_set]
    split
    ·rename_i e;subst e
     have hl:=(List.getElem?_eq_some_iff.1 hj).1
     simp[hl] at hj ⊢
     exact hj.symm
    ·rfl
   simp only[List.append_nil] at this ⊢
   rw[this];exact m
  ·have hbytes:(xs.length+ys.length)*bytes≤140737488355328:=by
    have:(xs.length+ys.length)*bytes≤4294967296*32768:=Nat.mul_le_mul hle hb
    omega
   have hnews:∀(k:Nat) q,vs[k]? =some q→w.cell? (ad.add k)=some q:=λk q hk=>hcells k q hk
   have hl0:vs0.length=xs.length:=hA0.1
   have hlv:vs.length=ys.length:=hs.1
   have fresh:∀(old:Nat),old<xs.length+ys.length→
     Mem W G (w.drew.alloc (.cells (vs0.toArray++vs.toArray++Builtin.zeroCells z.cells (grownCap w (xs.length+ys.length) old tt-(xs.length+ys.length))) tt))
      (H.set j (.row (.slice (some ⟨w.heap.size,0,none⟩) (xs.length+ys.length) (grownCap w (xs.length+ys.length) old tt)) tt 1 (xs++ys).length (vs0++vs))):=by
    intro old hold
    have hge:=grownCap_ge w (xs.length+ys.length) old tt
    have hcm:grownCap w (xs.length+ys.length) old tt≤maxLen:=grownCap_le_maxLen w _ old tt (by simp only[maxLen];omega)
    refine m.changeAt j hj rfl rfl rfl (λq hq _=>by first|exact heap_alloc_old w.drew _ q hq|exact heap_alloc_old w.drew _ hq) ⟨by simp[hl0,hlv],.inr ⟨w.heap.size,_,_,by simp,Nat.zero_le _,heap_alloc_new w.drew _,by simpa using hge,hcm,?_,?_⟩⟩ (λq hq=> .inr ?_)
    ·simp only[Array.size_append,List.size_toArray,size_zeroCells,hzc,hl0,hlv,Nat.mul_one]
     omega
    ·simp only[Array.toList_append,List.append_assoc,List.length_append,Nat.mul_one]
     rw[←List.append_assoc,←hl0,←hlv,←List.length_append]
     exact List.take_left
    ·simp[Itm.foot,Value.ownBlock] at hq;omega
   rcases ok.2 with⟨rfl,e0⟩|⟨g,cap,cur,e1,_,eh,e2,e3,e4,e5⟩
   ·have hxs:xs=[]:=List.eq_nil_of_length_eq_zero e0
    subst hxs
    have hvs0:vs0=[]:=List.eq_nil_of_length_eq_zero hl0
    subst hvs0
    by_cases hy0:ys.length=0
    ·have hys:ys=[]:=List.eq_nil_of_length_eq_zero hy0
     subst hys
     have hvs:vs=[]:=List.eq_nil_of_length_eq_zero hlv
     subst hvs
     refine⟨.row (.slice none 0 0) tt 1 ([]++[]:List α).length [],.slice none 0 0,w,?_,?_,[],rfl,All2.nil _⟩
     ·simp[Builtin.append_,run_underlying hu.und,sizeOf,typeInfo,hi1,Builtin.lenOf,Builtin.firstCells,loadCells,loadCellsFrom]
     ·have:H.set j (.row (.slice none 0 0) tt 1 ([]++[]:List α).length [])=H:=by
       apply List.ext_getElem?
       intro k
       rw[List.getElem?_set]
       split
       ·rename_i e;subst e
        have hl:=(List.getElem?_eq_some_iff.1 hj).1
        simp[hl] at hj ⊢
        exact hj.symm
       ·rfl
      rw[this];exact m
    ·have hr:=run_append_nil (P:=P) w u ty tt ti z hu.und hi1 hi4 ad ys.length c vs (by rw[hlv,hi2,Nat.mul_one]) hnews (by omega) (by omega) (by
      rw[hi3]
      simp only[List.length_nil,Nat.zero_add] at hbytes;omega)
     have hfr:=fresh 0 (by simp;omega)
     simp only[List.length_nil,Nat.zero_add,List.nil_append,Array.empty_append] at hfr
     refine⟨_,_,_,hr,by simpa using hfr,vs,by simp,by simpa using hA⟩
   ·subst e1
    by_cases hroom:xs.length+ys.length≤cap
    ·have hr:=run_append_room (P:=P) w u ty tt ti hu.und hi1 g xs.length cap cur eh ad ys.length c vs (by rw[hlv,hi2,Nat.mul_one]) hnews h1 hroom (by rw[hi2,hlv];omega)
     refine⟨.row (.slice (some ⟨g,0,none⟩) (xs.length+ys.length) cap) tt 1 (xs++ys).length (vs0++vs),_,_,hr,m.changeAt j hj rfl rfl rfl (λq _ hq=>setRow_other w g q _ (λe=>hq (by simp[Itm.foot,Value.ownBlock,e])))
      ⟨by simp[hl0,hlv],.inr ⟨g,cap,_,by simp,Nat.zero_le _,setRow_heap w g cur _ tt _ eh,by simpa using hroom,e3,?_,?_⟩⟩ (λq hq=> .inl (by simpa [Itm.foot,Value.ownBlock] using hq)),_,rfl,hA0.append hA⟩
     ·simp only[List.size_toArray,List.length_append,List.length_take,List.length_drop,Array.length_toList,hi2]
      omega
     ·simp only[hi2,Nat.mul_one] at e5 ⊢
      rw[e5,List.length_append,←hl0,←hlv,←List.length_append]
      exact List.take_left
    ·have holds:∀(k:Nat) q,vs0[k]? =some q→w.cell? ((⟨g,0,none⟩:Addr).add k)=some q:=World.ownsRow.cells ok (g:=g) rfl
     have hr:=run_append_grow (P:=P) w u ty tt ti z hu.und hi1 hi4 ⟨g,0,none⟩ xs.length cap vs0 (by rw[hl0,hi2,Nat.mul_one]) holds ad ys.length c vs (by rw[hlv,hi2,Nat.mul_one]) hnews (by omega) (by omega) (by rw[hi3];exact growslice_fits (by omega) hbytes)
     exact⟨_,_,_,hr,fresh cap (by omega),_,rfl,hA0.append hA⟩
 ·cases hz
end
end Go.Sx

namespace Go.Sx
def One {α:Type}(R:Rep α):Prop:=∀G v x,R G v x→v.oneCell'=true∧v.cells= #[v]
theorem RI.one (k:IntKind):One (RI k):=λ_ v x h=>by cases h;exact⟨rfl,rfl⟩
theorem RSl.one {α:Type}(R:Rep α):One (RSl R):=λ_ v x h=>by obtain⟨a,c,rfl,_⟩:=h.len;exact⟨rfl,rfl⟩
theorem RSl.cells {α:Type}{R:Rep α}{G:GH}{v:Value}{xs:List α}(h:RSl R G v xs):v.cells= #[v]:=(RSl.one R _ _ _ h).2
theorem RSl.one1 {α:Type}{R:Rep α}{G:GH}{v:Value}{xs:List α}(h:RSl R G v xs):v.oneCell'=true:=(RSl.one R _ _ _ h).1
theorem Ow.cells {α:Type}{R:Rep α}{t:TypeId}{W w:World}{G:GH}{it:Itm}{H:List Itm}{v:Value}{xs:List α}(j:Nat)(m:Mem W G w H)(h:Ow R t G it v xs)(hj:H[j]? =some it):v.cells= #[v]:=by
 obtain⟨a,c,rfl,_⟩:=h.len (m.front j hj);rfl
theorem Ow.one1 {α:Type}{R:Rep α}{t:TypeId}{W w:World}{G:GH}{it:Itm}{H:List Itm}{v:Value}{xs:List α}(j:Nat)(m:Mem W G w H)(h:Ow R t G it v xs)(hj:H[j]? =some it):v.oneCell'=true:=by
 obtain⟨a,c,rfl,_⟩:=h.len (m.front j hj);rfl
theorem All2.ones {α:Type}{R:Rep α}(hO:One R){G:GH}{vs:List Value}{xs:List α}(h:All2 (R G) vs xs):∀c∈vs,c.oneCell'=true:=by
 intro c hc
 obtain⟨i,hi,rfl⟩:=List.mem_iff_getElem.1 hc
 have hx:i<xs.length:=by rw[←h.1];exact hi
 exact(hO _ _ _ (h.2 i vs[i] xs[i] (by simp[hi]) (by simp[hx]))).1
theorem RSl.src {α:Type}{R:Rep α}{W w:World}{G:GH}{H:List Itm}{v:Value}{xs:List α}(h:RSl R G v xs)(m:Mem W G w H):∃vs,Src w v xs.length vs∧All2 (R G) vs xs:=by
 obtain⟨vs,hA,h2⟩:=h
 refine⟨vs,⟨hA.1,?_⟩,hA⟩
 rcases h2 with⟨rfl,rfl⟩|⟨⟨b,off,sp⟩,cap,rfl,_,_,hc⟩
 ·exact .inl ⟨rfl,rfl⟩
 ·exact .inr ⟨_,cap,rfl,λj u hu=>by
   obtain⟨rfl,h7⟩:=hc j u hu
   rw[BQ];exact h7.get m⟩
theorem Ow.src {α:Type}{R:Rep α}{tt:TypeId}{W w:World}{G:GH}{H:List Itm}{it:Itm}{v:Value}{xs:List α}(h:Ow R tt G it v xs)(m:Mem W G w H){j:Nat}(hj:H[j]? =some it):∃vs,Src w v xs.length vs∧All2 (R G) vs xs:=by
 obtain⟨vs,rfl,hA⟩:=h
 refine⟨vs,⟨hA.1,?_⟩,hA⟩
 have ok:w.ownsRow 0 tt 1 v xs.length vs:=m.items j _ hj
 rcases ok.2 with⟨e1,e2⟩|⟨g,cap,cur,e1,_,eh,e2,e3,e4,e5⟩
 ·exact .inl ⟨e1,e2⟩
 ·refine .inr ⟨⟨g,0,none⟩,cap,e1,λk u hu=> ?_⟩
  rw[BQ]
  rw[←e5,List.getElem?_take] at hu
  split at hu
  ·simp only[World.cell?,eh,Nat.zero_add];simpa using hu
  ·cases hu
section
variable {P : Program} {ops : Array Oper} {rest l : List Oper} {n r : Bn} {x : List (Nat × Bn)} {a : Act} {w : World} {N : Nat} {L : Bw}
variable {W : World} {G : GH} {H : List Itm}
variable {d : Nat} {t : TypeId} {pos : String} {af : Array Edge}
theorem r_append {ρ:Operand→Value}{s xo:Operand}{u:TypeId}{v y v':Value}{w':World}{dd:Option Tmp}{gd:Option (Nat×Bool)}(hs:ρ s=v)(hx:ρ xo=y)(h:(Builtin.append_ #[u,u] t #[v,y]).run P w= .ok v' w'):
  (execOp ρ ⟨dd,.call {callee:= .builtin .append,args:= #[s,xo],argTypes:= #[u,u]},t,pos,af,gd⟩).run P w= .ok (.value v') w':=by
 simp[execOp,resolve,invoke,builtin,hs,hx,h]
theorem Bm {α:Type}{R:Rep α}(hO:One R){tt u bytes:Nat}{z:Value}{it:Itm}{v y:Value}{xs ys zs:List α}{s xo:Operand}(j:Nat)(m:Mem W G w H)(h:Ow R tt G it v xs)(hj:H[j]? =some it)
  (hu:SlT P u tt 1 bytes z) (hzc:z.cells.size=1) (hb:bytes≤32768) (f:Fr a N L) (hN:Nat.blt d N=true) (hs:AN L s=some v) (hx:AN L xo=some y)
  (hsrc:∃vs,Src w y ys.length vs∧All2 (R G) vs ys) (hz:AU xs ys=some zs)
  (k:∀it' v' w' a',Mem W G w' (H.set j it')→Ow R tt G it' v' zs→Fr a' N ((d,v')::L)→wpList P ops (Qk n x r) rest a' w'):
  wpList P ops (Qk n x r) (⟨some d,.call {callee:= .builtin .append,args:= #[s,xo],argTypes:= #[u,u]},t,pos,af,none⟩::rest) a w:=by
 obtain⟨vs,h1,h2⟩:=hsrc
 obtain⟨it',v',w',hr,h3,h4⟩:=run_appended (P:=P) (ty:=t) j m h hj hu hzc hb h1 (h2.ones hO) h2 hz
 exact Ce f rfl rfl hN (r_append (f.eval hs) (f.eval hx) hr) (λa' f'=>k it' v' w' a' h3 h4 f')
def Dd {α:Type}(z:α)(n c:Int):Option (List α):=if 0≤n∧n≤c∧c≤4294967296 then some (List.replicate n.toNat z) else none
theorem r_make {ρ:Operand→Value}{lo co:Operand}{u:TypeId}{v':Value}{v1 v2:Value}{w':World}{dd:Option Tmp}{gd:Option (Nat×Bool)}(hs:ρ lo=v1)(hx:ρ co=v2)(h:(Instr.makeSlice u v1 v2).run P w= .ok v' w'):
  (execOp ρ ⟨dd,.makeSlice u lo co,t,pos,af,gd⟩).run P w= .ok (.value v') w':=by
 simp[execOp,hs,hx,h]
theorem Fb {α:Type}{R:Rep α}{tt u bytes:Nat}{z:Value}{zz:α}{k1 k2:IntKind}{nn cc:Int}{zs:List α}{lo co:Operand}(m:Mem W G w H)
  (hu:SlT P u tt 1 bytes z) (hzc:z.cells= #[z]) (hb:bytes≤32768) (hR:R G z zz) (f:Fr a N L) (hN:Nat.blt d N=true) (hs:AN L lo=some (.int k1 nn)) (hx:AN L co=some (.int k2 cc))
  (hz:Dd zz nn cc=some zs)
  (k:∀it v w' a',Mem W G w' (it::H)→Ow R tt G it v zs→Fr a' N ((d,v)::L)→wpList P ops (Qk n x r) rest a' w'):
  wpList P ops (Qk n x r) (⟨some d,.makeSlice u lo co,t,pos,af,none⟩::rest) a w:=by
 unfold Dd at hz
 split at hz
 ·rename_i hc
  obtain⟨h0,h1,h2⟩:=hc
  cases hz
  obtain⟨ti,hi1,hi2,hi3,hi4⟩:=hu.info
  have hr:=run_make (P:=P) w u tt ti z hu.und hi1 hi4 k1 k2 nn cc h0 h1 (by
   rw[hi3]
   have:(bytes:Int)*cc≤32768*4294967296:=Int.mul_le_mul (by omega) h2 (by omega) (by omega)
   omega) (by omega)
  have hcells:madeCells z.cells (cc.toNat*ti.size)=(List.replicate cc.toNat z).toArray:=by
   rw[hzc,hi2,Nat.mul_one]
   apply Array.ext
   ·simp[madeCells]
   ·intro i h1 h2
    simp[madeCells,Nat.mod_one]
  rw[hcells] at hr
  refine Ce f rfl rfl hN (r_make (f.eval hs) (f.eval hx) hr) (λa' f'=>k (.row (.slice (some ⟨w.heap.size,0,none⟩) nn.toNat cc.toNat) tt 1 (List.replicate nn.toNat zz).length (List.replicate nn.toNat z)) _ _ a' ?_ ⟨_,rfl,All2.replicate hR _⟩ f')
  refine m.add rfl rfl rfl (λq hq=>by first|exact heap_alloc_old w _ q hq|exact heap_alloc_old w _ hq) ⟨by simp,.inr ⟨w.heap.size,cc.toNat,_,by simp,Nat.zero_le _,heap_alloc_new w _,by simp;omega,by simp only[maxLen];omega,by simp,?_⟩⟩ (λq hq=>by simp[Itm.foot,Value.ownBlock] at hq;omega)
  simp
  omega
 ·cases hz
def nums (k:Nat):List Value→List (Nat×Value)
 |[]=>[]
 |v::r=>(k,v)::nums (k+1) r
theorem fill_nums (vs:List Value)(h1:∀c∈vs,c.cells= #[c]):∀(k:Nat) (cells:Array Value),cells.size=k+vs.length→
  Instr.fill (λi=>some (i*1,1)) cells (nums k vs)=some (cells.toList.take k++vs).toArray:=by
 induction vs with
 |nil=>
  intro k cells hk
  simp only[nums,Instr.fill,List.append_nil]
  rw[List.take_of_length_le (by simp at hk ⊢;omega)]
 |cons v r ih=>
  intro k cells hk
  have hv:=h1 v (by simp)
  simp only[List.length_cons] at hk
  have hfold:v.cells.zipIdx.foldl (λcs (c,j)=>cs.setIfInBounds (k*1+j) c) cells=cells.setIfInBounds k v:=by
   rw[hv];simp
  have hstep:Instr.fill (λi=>some (i*1,1)) cells (nums k (v::r))=Instr.fill (λi=>some (i*1,1)) (cells.setIfInBounds k v) (nums (k+1) r):=by
   rw[nums,Instr.fill]
   simp only[]
   rw[if_neg (by rw[hv];simp;omega),hfold]
  rw[hstep,ih (λc hc=>h1 c (by simp[hc])) (k+1) (cells.setIfInBounds k v) (by simp;omega)]
  congr 2
  simp only[Array.toList_setIfInBounds]
  rw[List.take_add_one,List.take_set_of_le (Nat.le_refl _)]
  have hlk:k<cells.size:=by omega
  simp[List.getElem?_set,hlk]
theorem r_slit {ρ:Operand→Value}{u tt bytes nn:Nat}{z:Value}{parts:Array (Nat×Operand)}{vs:List Value}{dd:Option Tmp}{gd:Option (Nat×Bool)}(hu:SlT P u tt 1 bytes z)
  (hp:(parts.map fun(i,x)=>(i,ρ x)).toList=nums 0 vs) (hl:vs.length=nn) (hn:nn≤16777216) (h1:∀c∈vs,c.cells= #[c]):
  (execOp ρ ⟨dd,.buildSlice u nn parts,t,pos,af,gd⟩).run P w= .ok (.value (.slice (some ⟨w.heap.size,0,none⟩) nn nn)) (w.alloc (.cells vs.toArray tt)):=by
 obtain⟨ti,hi1,hi2,hi3,hi4⟩:=hu.info
 subst hl
 have hsz:((Array.range (vs.length*1)).map (λi=>(if vs.length*1=0 then #[] else z.cells)[i%(if vs.length*1=0 then #[] else z.cells).size]!)).size=0+vs.length:=by simp
 have hf:=fill_nums vs h1 0 _ hsz
 have hn':¬(16777216<vs.length):=by omega
 by_cases h0:vs.length=0
 ·have hvs:vs=[]:=List.eq_nil_of_length_eq_zero h0
  subst hvs
  simp only[nums,List.map_eq_nil_iff,Array.toList_map] at hp
  simp[execOp,Instr.buildSlice,run_underlying hu.und,sizeOf,typeInfo,hi1,hi2,hp,Instr.fill,newRow,Array.range_zero']
 ·simp only[h0,Nat.mul_one,if_false,List.take_zero,List.nil_append] at hf
  simp[execOp,Instr.buildSlice,run_underlying hu.und,sizeOf,typeInfo,zeroValue,hi1,hi2,hi4,h0,hn',newRow]
  simp only[Array.toList_map] at hp
  rw[hp,hf]
  rfl
theorem A9 {α:Type}{R:Rep α}(hO:One R){tt u bytes nn:Nat}{z:Value}{xs:List α}{parts:Array (Nat×Operand)}{vs:List Value}(m:Mem W G w H)
  (hu:SlT P u tt 1 bytes z) (f:Fr a N L) (hN:Nat.blt d N=true) (hp:evalAll L (parts.toList.map (·.2))=some vs) (hnum:parts.toList.map (·.1)=List.range nn) (hn:nn≤16777216)
  (hA:All2 (R G) vs xs)
  (k:∀it v w' a',Mem W G w' (it::H)→Ow R tt G it v xs→Fr a' N ((d,v)::L)→wpList P ops (Qk n x r) rest a' w'):
  wpList P ops (Qk n x r) (⟨some d,.buildSlice u nn parts,t,pos,af,none⟩::rest) a w:=by
 have hl:vs.length=nn:=by
  have h1:=congrArg List.length (f.evalAll hp)
  have h2:=congrArg List.length hnum
  simp at h1 h2
  omega
 have hlx:xs.length=nn:=by rw[←hA.1,hl]
 have hparts:∀(k:Nat) (ps:List (Nat×Operand)) (us:List Value),evalAll L (ps.map (·.2))=some us→ps.map (·.1)=List.range' k ps.length→ps.map (fun(i,x)=>(i,a.eval x))=nums k us:=by
  intro k ps
  induction ps generalizing k with
  |nil=>intro us h1 _;simp[evalAll] at h1;subst h1;rfl
  |cons p ps ih=>
   intro us h1 h2
   obtain⟨i,o⟩:=p
   simp only[List.map_cons,evalAll] at h1
   simp only[List.map_cons,List.length_cons,List.range'_succ,List.cons.injEq] at h2
   cases h3:AN L o with
   |none=>simp[h3] at h1
   |some u0=>
    cases h4:evalAll L (ps.map (·.2)) with
    |none=>simp[h3,h4] at h1
    |some u1=>
     simp[h3,h4] at h1
     subst h1
     simp only[List.map_cons,nums]
     rw[ih (k+1) u1 h4 h2.2,h2.1,f.eval h3]
 have hp':(parts.map fun(i,x)=>(i,a.eval x)).toList=nums 0 vs:=by
  rw[Array.toList_map]
  refine hparts 0 parts.toList vs hp ?_
  have h2:=congrArg List.length hnum
  simp at h2
  rw[hnum,List.range_eq_range',←h2];simp
 have hr:=r_slit (P:=P) (ρ:=a.eval) (w:=w) (t:=t) (pos:=pos) (af:=af) (dd:=some d) (gd:=none) hu hp' hl hn (λc hc=>by
  obtain⟨i,hi,rfl⟩:=List.mem_iff_getElem.1 hc
  have hx:i<xs.length:=by rw[←hA.1];exact hi
  exact(hO _ _ _ (hA.2 i vs[i] xs[i] (by simp[hi]) (by simp[hx]))).2)
 refine Ce f rfl rfl hN hr (λa' f'=>k (.row (.slice (some ⟨w.heap.size,0,none⟩) nn nn) tt 1 xs.length vs) _ _ a' ?_ ⟨vs,rfl,hA⟩ f')
 refine m.add rfl rfl rfl (λq hq=>by first|exact heap_alloc_old w _ q hq|exact heap_alloc_old w _ hq) ⟨by simp[hl,hlx],.inr ⟨w.heap.size,nn,_,by rw[hlx],Nat.zero_le _,heap_alloc_new w _,by omega,by simp only[maxLen];omega,by simp[hl],?_⟩⟩ (λq hq=>by simp[Itm.foot,Value.ownBlock] at hq;omega)
 simp[hlx,←hl]
def Ck {α:Type}(xs:List α)(lo hi:Int):Option (List α):=if 0≤lo∧lo≤hi∧hi≤xs.length then some ((xs.take hi.toNat).drop lo.toNat) else none
theorem FC {α:Type}{xs ys:List α}{lo hi:Int}(h:Ck xs lo hi=some ys):0≤lo∧lo≤hi∧hi≤xs.length∧ys=(xs.take hi.toNat).drop lo.toNat∧ys.length=hi.toNat-lo.toNat:=by
 unfold Ck at h
 split at h
 ·rename_i hc
  cases h
  refine⟨hc.1,hc.2.1,hc.2.2,rfl,?_⟩
  simp;omega
 ·cases h
theorem Gr {ρ:Operand→Value}{u e sz bytes:Nat}{z:Value}{xo:Operand}{lo hi:Option Operand}{av:Option Addr}{nn c:Nat}{i j:Int}{dd:Option Tmp}{gd:Option (Nat×Bool)}(hu:SlT P u e sz bytes z)
  (hx:ρ xo= .slice av nn c) (hlo:(lo=none∧i=0)∨∃o k,lo=some o∧ρ o= .int k i) (hhi:(hi=none∧j=nn)∨∃o k,hi=some o∧ρ o= .int k j) (h0:0≤i) (h1:i≤j) (h2:j≤c):
  (execOp ρ ⟨dd,.slice u xo lo hi none,t,pos,af,gd⟩).run P w= .ok (.value (.slice (if c=i.toNat then av else av.map (·.add (i.toNat*sz))) (j.toNat-i.toNat) (c-i.toNat))) w:=by
 obtain⟨ti,hi1,hi2,hi3,hi4⟩:=hu.info
 have hj0:0≤j:=by omega
 have ej:(j.toNat:Int)=j:=by omega
 rcases hlo with⟨rfl,rfl⟩|⟨o,k,rfl,ho⟩
 ·rcases hhi with⟨rfl,rfl⟩|⟨o2,k2,rfl,ho2⟩
  ·simp[execOp,hx,Instr.sliceAt,Instr.slice,run_underlying hu.und,Instr.sliceBounds,sizeOf,typeInfo,hi1,hi2]
  ·simp[execOp,hx,ho2,Instr.sliceAt,Instr.slice,run_underlying hu.und,Instr.sliceBounds,Instr.sliceBound,asIntOf,hj0,h2,sizeOf,typeInfo,hi1,hi2]
 ·rcases hhi with⟨rfl,rfl⟩|⟨o2,k2,rfl,ho2⟩
  ·simp[execOp,hx,ho,Instr.sliceAt,Instr.slice,run_underlying hu.und,Instr.sliceBounds,Instr.sliceBound,asIntOf,h0,h1,sizeOf,typeInfo,hi1,hi2]
  ·simp[execOp,hx,ho,ho2,Instr.sliceAt,Instr.slice,run_underlying hu.und,Instr.sliceBounds,Instr.sliceBound,asIntOf,hj0,h2,h0,h1,ej,sizeOf,typeInfo,hi1,hi2]
theorem RSl.sub {α:Type}{R:Rep α}{G:GH}{av:Option Addr}{c:Nat}{xs ys:List α}{lo hi:Int}(h:RSl R G (.slice av xs.length c) xs)(hs:Ck xs lo hi=some ys):
  RSl R G (.slice (if c=lo.toNat then av else av.map (·.add (lo.toNat*1))) (hi.toNat-lo.toNat) (c-lo.toNat)) ys∧hi≤c:=by
 obtain⟨h0,h1,h2,rfl,hl⟩:=FC hs
 obtain⟨vs,hA,h3⟩:=h
 rcases h3 with⟨e,rfl⟩|⟨⟨b,off,sp⟩,cap,e,h4,h5,h6⟩
 ·cases e
  simp only[List.length_nil] at h2
  have e1:lo=0:=by omega
  have e2:hi=0:=by omega
  subst e1;subst e2
  exact⟨⟨[],by simpa using All2.nil _,.inl ⟨by simp,by simp⟩⟩,by omega⟩
 ·cases e
  refine⟨⟨(vs.take hi.toNat).drop lo.toNat,(hA.take _).drop _,.inr ?_⟩,by omega⟩
  by_cases hc:c=lo.toNat
  ·refine⟨⟨b,off,sp⟩,c-lo.toNat,?_,?_,by omega,λj u hu=> ?_⟩
   ·rw[if_pos hc,hl]
   ·rw[hl];omega
   ·exfalso
    have hj:=(List.getElem?_eq_some_iff.1 hu).1
    simp at hj;omega
  ·refine⟨(⟨b,off,sp⟩:Addr).add (lo.toNat*1),c-lo.toNat,?_,?_,by omega,λj u hu=> ?_⟩
   ·rw[if_neg hc,hl];rfl
   ·rw[hl];omega
   ·rw[List.getElem?_drop,List.getElem?_take] at hu
    split at hu
    ·obtain⟨h7,h8⟩:=h6 _ _ hu
     subst h7
     rw[BQ]
     refine⟨rfl,?_⟩
     rw[Nat.mul_one]
     rwa [Nat.add_assoc]
    ·cases hu
theorem Gk {α:Type}{R:Rep α}{u e bytes:Nat}{z:Value}{v:Value}{xs ys:List α}{xo:Operand}{lo hi:Option Operand}{i j:Int}(hu:SlT P u e 1 bytes z)(f:Fr a N L)(hN:Nat.blt d N=true)
  (hx:AN L xo=some v) (h:RSl R G v xs) (hlo:(lo=none∧i=0)∨∃o k,lo=some o∧AN L o=some (.int k i)) (hhi:(hi=none∧j=xs.length)∨∃o k,hi=some o∧AN L o=some (.int k j)) (hs:Ck xs i j=some ys)
  (k:∀v' a',RSl R G v' ys→Fr a' N ((d,v')::L)→wpList P ops (Qk n x r) rest a' w):
  wpList P ops (Qk n x r) (⟨some d,.slice u xo lo hi none,t,pos,af,none⟩::rest) a w:=by
 obtain⟨av,c,rfl,h1,h2⟩:=h.len
 obtain⟨h3,h4,h5,_,_⟩:=FC hs
 obtain⟨h6,h7⟩:=h.sub hs
 refine Ce f rfl rfl hN (Gr (i:=i) (j:=j) hu (f.eval hx) ?_ ?_ h3 h4 h7) (λa' f'=>k _ a' h6 f')
 ·rcases hlo with h|⟨o,kk,h8,h9⟩
  ·exact .inl h
  ·exact .inr ⟨o,kk,h8,f.eval h9⟩
 ·rcases hhi with h|⟨o,kk,h8,h9⟩
  ·exact .inl h
  ·exact .inr ⟨o,kk,h8,f.eval h9⟩
end
end Go.Sx

namespace Go.Sx
def Cl (W:World)(G:GH)(H:List Itm):World→Prop:=λw=>∃G',GLe G G'∧Mem W G' w H
section
variable {P : Program} {ops : Array Oper} {Q : Go.Exit → Act → World → Prop} {T : Act → World → Prop} {W : World}
def AnyB (W:World)(P:Program)(ops:Array Oper)(Q:Go.Exit→Act→World→Prop)(T:Act→World→Prop)(B:List Itm):Nat→GH→List Itm→Array Bool→Act→Prop
 |0,G,E,_,a=>∀w,Cl W G (E++B) w→T a w
 |fuel+1,G,E,listed,a=>∀w,Cl W G (E++B) w→∀i∈Region.ready .any ops listed,
   wpOp P ops Q i (λa' w'=>∃G' E',GLe G G'∧Cl W G' (E'++B) w'∧AnyB W P ops Q T B fuel G' E' (listed.setIfInBounds i true) a') a w
def Yl (W:World)(P:Program)(ops:Array Oper)(G:GH)(H:List Itm)(o:Oper)(v:Value)(a:Act):Prop:=
 (Region.wanted o (yielded ops a.tmps)=true∧∀G' Ho w,GLe G G'→Cl W G' (Ho++H) w→o.quietAt P a (Cl W G' (Ho++H)) w v)∨
 (Region.wanted o (yielded ops a.tmps)=false∧v=undef)
theorem Yl.up {G G':GH}{H:List Itm}{o:Oper}{v:Value}{a:Act}(h:Yl W P ops G H o v a)(hG:GLe G G'):Yl W P ops G' H o v a:=by
 rcases h with⟨h1,h2⟩|h
 ·exact .inl ⟨h1,λG₂ Ho₂ w hG₂ hw=>h2 G₂ Ho₂ w (hG.trans hG₂) hw⟩
 ·exact .inr h
theorem Yl.of_same {G:GH}{H:List Itm}{o:Oper}{v:Value}{a a':Act}(hy:Yl W P ops G H o v a)(he:execOp a'.eval o=execOp a.eval o)
  (hw:Region.wanted o (yielded ops a'.tmps)=Region.wanted o (yielded ops a.tmps)):Yl W P ops G H o v a':=by
 unfold Yl Oper.quietAt at*
 rw[he,hw]
 exact hy
theorem Yl.go {G:GH}{E H:List Itm}{i:Nat}{o:Oper}{v:Value}{a:Act}{w:World}(hi:ops[i]? =some o)(hy:Yl W P ops G H o v a)(hw:Cl W G (E++H) w){K:Act→World→Prop}(h:∀w,Cl W G (E++H) w→K (a.put o.dst v) w):wpOp P ops Q i K a w:=by
 unfold Go.wpOp
 simp only[hi]
 rcases hy with⟨h1,h2⟩|⟨h1,rfl⟩
 ·simp only[h1,if_true]
  left
  have h3:=h2 G E w (GLe.refl G) hw
  unfold Oper.quietAt at h3
  unfold Oper.wp
  generalize (execOp a.eval o).run P w=r at*
  cases r with
  |ok n w'=>
   cases n<;>simp only[Oper.quietUpon] at h3<;>simp only[Oper.upon]
   case value u=>obtain⟨rfl,rfl⟩:=h3;exact h _ hw
   case skip=>obtain⟨rfl,rfl⟩:=h3;exact h _ hw
   case enter f args=>
    obtain⟨rfl,hc⟩:=h3
    exact hc.mono λe w'' ⟨he,hw''⟩=>by subst he;exact h _ hw''
  |halt x w'=>simp only[Oper.quietUpon] at h3
 ·simp only[h1,Bool.false_eq_true,if_false]
  exact h _ hw
theorem Yl.put {G:GH}{H:List Itm}{j:Nat}{oi oj:Oper}{v:Value}(hj:ops[j]? =some oj)(hap:oi.apart ops oj=true)
  (hsi:∀cs b,oi.op≠ .select cs b) (hsj:∀cs b,oj.op≠ .select cs b)
  (hQ:∀c a w,¬Q (.panic c) a w) (hO:¬LetsOut Q) {K:Act→World→Prop} {a:Act} {w:World}
  (hy:Yl W P ops G H oi v a) (h:wpOp P ops Q j K (a.put oi.dst v) w):
  wpOp P ops Q j (λa' w'=>Yl W P ops G H oi v a'∧K (a'.put oi.dst v) w') a w:=by
 obtain⟨h1,h2,h3⟩:=Oper.apart_spec hap
 have keep:∀(a:Act),Yl W P ops G H oi v a→∀u,Yl W P ops G H oi v (a.put oj.dst u):=λa hy u=>
  hy.of_same (execOp_put oi hsi a oj.dst u h3) (wanted_put oi a oj.dst u h3)
 have keepd:∀(a:Act) (df:Deferred),Yl W P ops G H oi v a→Yl W P ops G H oi v {a with defers:=df::a.defers}:=λa df hy=>
  hy.of_same rfl rfl
 have step:∀(u:Value) w',K ((a.put oi.dst v).put oj.dst u) w'→Yl W P ops G H oi v (a.put oj.dst u)∧K ((a.put oj.dst u).put oi.dst v) w':=λu w' hk=>
  ⟨keep a hy u,by rw[←Act.put_comm a v u h2];exact hk⟩
 unfold Go.wpOp at*
 simp only[hj] at*
 rw[wanted_put oj a oi.dst v h1] at h
 split
 ·rename_i hw
  simp only[hw,if_true] at h
  rcases h with h|⟨_,h⟩
  ·left
   unfold Oper.wp at*
   rw[execOp_put oj hsj a oi.dst v h1] at h
   generalize (execOp a.eval oj).run P w=r at*
   cases r with
   |ok n w'=>
    cases n<;>simp only[Oper.upon] at h ⊢
    case value u=>exact step u _ h
    case skip=>exact step undef _ h
    case enter f args=>
     refine h.mono λe w'' he=> ?_
     cases e with
     |returned u=>exact step u _ he
     |panicked c=>exact absurd he (hQ _ _ _)
     |outgrown=>exact absurd he hO
    case row rw args=>exact Rows.mono h λu w'' he=>step u _ he
    case defer df=>
     have e1:({(a.put oi.dst v) with defers:=df::(a.put oi.dst v).defers}:Act)=({a with defers:=df::a.defers}:Act).put oi.dst v:=by
      cases oi.dst<;>rfl
     rw[e1,Act.put_comm _ v undef h2] at h
     exact⟨keep _ (keepd a df hy) undef,h⟩
   |halt x w'=>cases x<;>simp only[Oper.upon] at h ⊢;exact absurd h (hQ _ _ _)
  ·exact absurd h hO
 ·rename_i hw
  simp only[hw] at h
  exact step undef _ h
def unl (listed:Array Bool):Nat→Nat
 |0=>0
 |n+1=>unl listed n+if listed.getD n true then 0 else 1
theorem unl_set {listed:Array Bool}{j:Nat}(h:listed.getD j true=false):∀n,unl (listed.setIfInBounds j true) n+(if j<n then 1 else 0)=unl listed n
 |0=>by simp[unl]
 |n+1=>by
  have ih:=unl_set h n
  have hj:j<listed.size:=by
   rcases Nat.lt_or_ge j listed.size with h1|h1
   ·exact h1
   ·simp[Array.getElem?_eq_none h1] at h
  by_cases e:j=n
  ·subst e
   have e1:(listed.setIfInBounds j true).getD j true=true:=by simp[hj]
   simp only[unl,e1,h,if_true] at ih ⊢
   simp at ih ⊢
   omega
  ·have e1:(listed.setIfInBounds j true).getD n true=listed.getD n true:=getD_set_ne true e
   simp only[unl,e1]
   by_cases h2:j<n
   ·rw[if_pos h2] at ih;rw[if_pos (show j<n+1 from by omega)];omega
   ·rw[if_neg h2] at ih;rw[if_neg (show¬j<n+1 from by omega)];omega
theorem Gi {listed:Array Bool}:∀{n j:Nat},j<n→listed.getD j true=false→0<unl listed n
 |n+1,j,hj,h=>by
  simp only[unl]
  by_cases e:j=n
  ·subst e;simp[h]
  ·have:=Gi (listed:=listed) (n:=n) (j:=j) (by omega) h;omega
theorem unl_get {listed:Array Bool}:∀{n:Nat},0<unl listed n→∃j,j<n∧listed.getD j true=false∧∀k,k<j→listed.getD k true=true
 |n+1,h=>by
  simp only[unl] at h
  by_cases h1:0<unl listed n
  ·obtain⟨j,h2,h3⟩:=unl_get h1;exact⟨j,by omega,h3⟩
  ·have h0:unl listed n=0:=by omega
   refine⟨n,by omega,?_,λk hk=> ?_⟩
   ·cases hg:listed.getD n true with
    |false=>rfl
    |true=>simp[hg] at h;omega
   ·cases hg:listed.getD k true with
    |true=>rfl
    |false=>have:=Gi hk hg;omega
def DM (ops:Array Oper)(t:Nat):List Nat:=match ops[t]? with
 |none=>[]
 |some o=>(o.after.toList.filter λe=>Region.binds .any e).map (·.on)
def closeD (ops:Array Oper):Nat→List Nat→List Nat
 |0,S=>S
 |t+1,S=>closeD ops t (if S.contains t then S++(DM ops t).filter (λi=> !S.contains i) else S)
def Dn (ops:Array Oper)(n:Nat)(base:List Nat):Bool:=
 Region.noSelect ops&&decide (n≤ops.size)&&(decide (n=ops.size)||(List.range n).all λi=>base.contains i||(closeD ops n (DM ops n)).contains i)&&
 (List.range ops.size).all λt=>match ops[t]? with
  |none=>false
  |some o=>(o.after.all λe=> !Region.binds .any e||decide (e.on<t))&&
   (if t≤n then true else o.after.any λe=>Region.binds .any e&&e.on==t-1)
structure Lst (ops:Array Oper)(n:Nat)(base:List Nat)(fuel:Nat)(listed:Array Bool):Prop where
 based:∀i∈base,listed.getD i true=true
 size:listed.size=ops.size
 count:unl listed n=fuel
 tail:∀t,n≤t→t<ops.size→listed.getD t true=false
 closed:∀(j:Nat),j<n→listed.getD j true=true→∀i∈DM ops j,listed.getD i true=true
theorem mem_depsOf {t i:Nat}{o:Oper}(ho:ops[t]? =some o):i∈DM ops t↔∃e∈o.after,Region.binds .any e=true∧e.on=i:=by
 simp only[DM,ho,List.mem_map,List.mem_filter,Array.mem_toList_iff]
 constructor
 ·rintro⟨e,⟨h1,h2⟩,h3⟩;exact⟨e,h1,h2,h3⟩
 ·rintro⟨e,h1,h2,h3⟩;exact⟨e,⟨h1,h2⟩,h3⟩
theorem closeD_all (p:Nat→Prop){ops:Array Oper}:∀(t:Nat) (S:List Nat),(∀i∈S,p i)→(∀j,j<t→p j→∀i∈DM ops j,p i)→∀i∈closeD ops t S,p i
 |0,S,hS,_=>hS
 |t+1,S,hS,hstep=>by
  unfold closeD
  refine closeD_all p t _ (λi hi=> ?_) (λj hj=>hstep j (by omega))
  split at hi
  ·rename_i hc
   rcases List.mem_append.1 hi with h|h
   ·exact hS i h
   ·exact hstep t (by omega) (hS t (by simpa using hc)) i (List.mem_filter.1 h).1
  ·exact hS i hi
theorem C3 {n:Nat}{base:List Nat}(h:Dn ops n base=true):Region.noSelect ops=true∧n≤ops.size∧∀t o,ops[t]? =some o→(∀e∈o.after,Region.binds .any e=true→e.on<t)∧
  (t=n→∀i,i<n→i∈base∨i∈closeD ops n (DM ops n))∧(n<t→∃e∈o.after,Region.binds .any e=true∧e.on=t-1):=by
 simp only[Dn,Bool.and_eq_true,decide_eq_true_eq,List.all_eq_true,List.mem_range,Bool.or_eq_true] at h
 refine⟨h.1.1.1,h.1.1.2,λt o ho=> ?_⟩
 have ht:=(Array.getElem?_eq_some_iff.1 ho).1
 have h1:=h.2 t ht
 simp only[ho,Bool.and_eq_true] at h1
 refine⟨λe he hb=> ?_,λe i hi=> ?_,λhn=> ?_⟩
 ·have:=Array.all_eq_true_iff_forall_mem.1 h1.1 e he
  simpa [hb] using this
 ·rcases h.1.2 with h2|h2
  ·omega
  ·simpa using h2 i hi
 ·have h2:=h1.2
  rw[if_neg (by omega)] at h2
  obtain⟨e,he,hb⟩:=Array.any_eq_true'.1 h2
  simp only[Bool.and_eq_true,beq_iff_eq] at hb
  exact⟨e,he,hb⟩
theorem Fl {listed:Array Bool}{i:Nat}(h:listed.getD i true=false):listed.getD i false=false:=by
 rcases Nat.lt_or_ge i listed.size with h'|h'
 ·simp[h'] at h ⊢;exact h
 ·simp[Array.getElem?_eq_none h'] at h
theorem Lst.body {n fuel:Nat}{base:List Nat}{listed:Array Bool}(hb:Dn ops n base=true)(L:Lst ops n base (fuel+1) listed){j:Nat}(hj:j∈Region.ready .any ops listed):j<n:=by
 obtain⟨hun,o,ho,hall⟩:=mem_ready.1 hj
 obtain⟨_,hn,hs⟩:=C3 hb
 obtain⟨h1,h2,h3⟩:=hs j o ho
 have hjs:=(Array.getElem?_eq_some_iff.1 ho).1
 rcases Nat.lt_or_ge j n with h|h
 ·exact h
 ·exfalso
  obtain⟨i,hi,hi2,_⟩:=unl_get (listed:=listed) (n:=n) (by rw[L.count];omega)
  by_cases e:j=n
  ·have hc:=closeD_all (λk=>listed.getD k true=true) n (DM ops n) (λk hk=>by
    subst e
    obtain⟨ed,he,hbd,hon⟩:=(mem_depsOf ho).1 hk
    have:=hall ed he hbd
    cases hg:listed.getD k true with
    |true=>rfl
    |false=>rw[hon,Fl hg] at this;cases this) (λj' hj' hp=>L.closed j' hj' hp) i
   have hc:=(h2 e i hi).elim (L.based i) hc
   rw[hi2] at hc
   cases hc
  ·obtain⟨ed,he,hbd,hon⟩:=h3 (by omega)
   have:=hall ed he hbd
   rw[hon,Fl (L.tail (j-1) (by omega) (by omega))] at this
   cases this
theorem Lst.set {n fuel:Nat}{base:List Nat}{listed:Array Bool}(hb:Dn ops n base=true)(L:Lst ops n base (fuel+1) listed){j:Nat}(hj:j∈Region.ready .any ops listed):Lst ops n base fuel (listed.setIfInBounds j true):=by
 have hjn:=L.body hb hj
 have hun:=(mem_ready.1 hj).1
 refine⟨λi hi=>by
  by_cases e:j=i
  ·subst e;rw[L.based _ hi] at hun;cases hun
  ·rw[getD_set_ne true e];exact L.based i hi,by simp[L.size],?_,λt h1 h2=>by rw[getD_set_ne true (by omega)];exact L.tail t h1 h2,λj' hj' hl i hi=> ?_⟩
 rotate_left
 ·have mono:∀k,listed.getD k true=true→(listed.setIfInBounds j true).getD k true=true:=λk hk=>by
   by_cases e:j=k
   ·subst e;rw[hk] at hun;cases hun
   ·rw[getD_set_ne true e];exact hk
  by_cases e:j=j'
  ·subst e
   obtain⟨_,o,ho,hall⟩:=mem_ready.1 hj
   obtain⟨ed,he,hbd,hon⟩:=(mem_depsOf ho).1 hi
   have:=hall ed he hbd
   refine mono i ?_
   cases hg:listed.getD i true with
   |true=>rfl
   |false=>rw[hon,Fl hg] at this;cases this
  ·rw[getD_set_ne true e] at hl
   exact mono i (L.closed j' hj' hl i hi)
 have:=unl_set hun n
 rw[if_pos hjn,L.count] at this
 omega
theorem Lst.ready_ne {n fuel:Nat}{base:List Nat}{listed:Array Bool}(hb:Dn ops n base=true)(L:Lst ops n base (fuel+1) listed):Region.ready .any ops listed≠[]:=by
 obtain⟨_,hn,hs⟩:=C3 hb
 obtain⟨i,hi,hi2,hi3⟩:=unl_get (listed:=listed) (n:=n) (by rw[L.count];omega)
 have hlt:i<ops.size:=by omega
 have ho:ops[i]? =some ops[i]:=by simp[hlt]
 have:i∈Region.ready .any ops listed:=mem_ready.2 ⟨hi2,_,ho,λe he hbd=>by
  have h1:=(hs i _ ho).1 e he hbd
  have h2:=hi3 e.on h1
  have h3:e.on<listed.size:=by rw[L.size];omega
  simp[h3] at h2 ⊢;exact h2⟩
 intro h
 rw[h] at this
 cases this
theorem AnyB.first {n i:Nat}{base:List Nat}{oi:Oper}{v:Value}{H:List Itm}(hi:ops[i]? =some oi)(hb:Dn ops n base=true)
  (hQ:∀c a w,¬Q (.panic c) a w) (hO:¬LetsOut Q):
  ∀(fuel:Nat) (G:GH) (E:List Itm) (listed:Array Bool) (a:Act),Lst ops n base (fuel+1) listed→
   (∀j oj,ops[j]? =some oj→j≠i→listed.getD j true=false→(∀e∈oj.after,Region.binds .any e=true→e.on≠i)→oi.apart ops oj=true)→
   i∈Region.ready .any ops listed→Yl W P ops G H oi v a→
   AnyB W P ops Q T H fuel G E (listed.setIfInBounds i true) (a.put oi.dst v)→AnyB W P ops Q T H (fuel+1) G E listed a:=by
 have hsel:=Region.noSelect_spec (C3 hb).1
 intro fuel
 induction fuel with
 |zero=>
  intro G E listed a L _ hr hy hH w hw j hj
  have hji:j=i:=by
   refine Decidable.byContradiction λhne=> ?_
   have h1:=unl_set (mem_ready.1 hj).1 n
   have h2:=Gi (listed:=listed.setIfInBounds j true) (L.body hb hr) (by rw[getD_set_ne true hne];exact(mem_ready.1 hr).1)
   rw[if_pos (L.body hb hj),L.count] at h1
   omega
  subst hji
  exact hy.go hi hw (λw' hw'=>⟨G,E,GLe.refl G,hw',hH⟩)
 |succ fuel ih=>
  intro G E listed a L hfree hr hy hH w hw j hj
  by_cases hji:j=i
  ·subst hji
   exact hy.go hi hw (λw' hw'=>⟨G,E,GLe.refl G,hw',hH⟩)
  ·have h1:=hH w hw j (ready_mono hj hji)
   obtain⟨hjun,oj,hoj,hall⟩:=mem_ready.1 hj
   have hnot:∀e∈oj.after,Region.binds .any e=true→e.on≠i:=λe he hbd heq=>by
    have h1:=hall e he hbd
    rw[heq,Fl (mem_ready.1 hr).1] at h1
    cases h1
   have h2:=Yl.put hoj (hfree j oj hoj hji hjun hnot) (λcs b=>hsel i oi cs b hi) (λcs b=>hsel j oj cs b hoj) hQ hO hy h1
   have hfree':∀k ok,ops[k]? =some ok→k≠i→(listed.setIfInBounds j true).getD k true=false→
     (∀e∈ok.after,Region.binds .any e=true→e.on≠i)→oi.apart ops ok=true:=λk ok hk hki hun hno=>by
    refine hfree k ok hk hki ?_ hno
    by_cases hjk:j=k
    ·subst hjk;exact hjun
    ·rw[getD_set_ne true hjk] at hun;exact hun
   refine wpOp_mono (λa' w' ⟨hy',G',Ho,hG,hC,hA⟩=>⟨G',Ho,hG,hC,?_⟩) h2
   refine ih G' Ho (listed.setIfInBounds j true) a' (L.set hb hj) hfree' (ready_mono hr (Ne.symm hji)) (hy'.up hG) ?_
   rw[Array.setIfInBounds_comm _ _ hji]
   exact hA
theorem AnyB.sound {n:Nat}{base:List Nat}{B:List Itm}(hb:Dn ops n base=true)(k:Nat)(hT:∀(listed:Array Bool) a w,Lst ops n base 0 listed→T a w→wpAny P .any ops Q k listed a w):
  ∀(fuel:Nat) (G:GH) (H:List Itm) (listed:Array Bool) (a:Act) (w:World),Lst ops n base fuel listed→Cl W G (H++B) w→AnyB W P ops Q T B fuel G H listed a→wpAny P .any ops Q (fuel+k) listed a w
 |0,G,H,listed,a,w,L,hw,h=>by rw[Nat.zero_add];exact hT listed a w L (h w hw)
 |fuel+1,G,H,listed,a,w,L,hw,h=>by
  rw[show fuel+1+k=(fuel+k)+1 by omega]
  refine⟨λh0=>absurd h0 (L.ready_ne hb),λi hi=>wpOp_mono (λa' w' ⟨G',Ho,hG,hC,hA⟩=> ?_) (h w hw i hi)⟩
  exact AnyB.sound hb k hT fuel G' Ho _ a' w' (L.set hb hi) hC hA
end
theorem unl_zero {listed:Array Bool}{n:Nat}(h:unl listed n=0):∀k,k<n→listed.getD k true=true:=λk hk=>by
 cases hg:listed.getD k true with
 |true=>rfl
 |false=>have:=Gi hk hg;omega
theorem F4 {P:Program}{ops:Array Oper}{Q:Go.Exit→Act→World→Prop}{n:Nat}{base:List Nat}(hb:Dn ops n base=true):
  ∀(k m:Nat) (listed:Array Bool) (a:Act) (w:World),n≤m→ops.size-m=k→m≤ops.size→listed.size=ops.size→(∀i,i<m→listed.getD i true=true)→(∀t,m≤t→t<ops.size→listed.getD t true=false)→
   wpList P ops Q (ops.toList.drop m) a w→wpAny P .any ops Q k listed a w:=by
 obtain⟨_,hn,hs⟩:=C3 hb
 intro k
 induction k with
 |zero=>
  intro m listed a w hnm hk hm hsz hl hu h
  have e:m=ops.size:=by omega
  subst e
  refine⟨?_,by rw[List.drop_eq_nil_of_le (by simp)] at h;exact h⟩
  rw[List.eq_nil_iff_forall_not_mem]
  intro j hj
  obtain⟨h0,o,ho,_⟩:=mem_ready.1 hj
  rw[hl j (Array.getElem?_eq_some_iff.1 ho).1] at h0
  cases h0
 |succ k ih=>
  intro m listed a w hnm hk hm hsz hl hu h
  have hlt:m<ops.size:=by omega
  have ho:ops[m]? =some ops[m]:=by simp[hlt]
  have hget:∀i,i<m→listed.getD i false=true:=λi hi=>by
   have h1:=hl i hi
   have h2:i<listed.size:=by rw[hsz];omega
   simp[h2] at h1 ⊢;exact h1
  have hready:m∈Region.ready .any ops listed:=mem_ready.2 ⟨hu m (Nat.le_refl _) hlt,_,ho,λe he hbd=>hget _ ((hs m _ ho).1 e he hbd)⟩
  refine⟨λh0=>(by rw[h0] at hready;cases hready),λj hj=> ?_⟩
  have hj2:=hj
  obtain⟨hun,oj,hoj,hall⟩:=mem_ready.1 hj2
  have hjs:=(Array.getElem?_eq_some_iff.1 hoj).1
  have hjm:j=m:=by
   rcases Nat.lt_trichotomy j m with h1|h1|h1
   ·rw[hl j h1] at hun;cases hun
   ·exact h1
   ·exfalso
    obtain⟨e,he,hbd,hon⟩:=(hs j oj hoj).2.2 (by omega)
    have:=hall e he hbd
    rw[hon,Fl (hu (j-1) (by omega) (by omega))] at this
    cases this
  subst hjm
  rw[List.drop_eq_getElem_cons (by simpa using hlt)] at h
  have hstep:∀a w,wpList P ops Q (ops.toList.drop (j+1)) a w→wpAny P .any ops Q k (listed.setIfInBounds j true) a w:=λa w h=>
   ih (j+1) _ a w (by omega) (by omega) (by omega) (by simp[hsz]) (λi hi=>by
    by_cases e:j=i
    ·subst e;have:j<listed.size:=by rw[hsz];exact hlt
     simp[this]
    ·rw[getD_set_ne true e];exact hl i (by omega)) (λt h1 h2=>by rw[getD_set_ne true (by omega)];exact hu t (by omega) h2) h
  have hel:ops.toList[j]'(by simpa using hlt)=ops[j]:=by simp
  rw[hel] at h
  unfold wpList at h
  unfold wpOp
  simp only[ho]
  split at h
  ·rename_i hw
   rw[if_pos hw]
   exact h.imp (Oper.wp_mono hstep) id
  ·rename_i hw
   rw[if_neg hw]
   exact hstep _ _ h
theorem A5 {P : Program} {id : Nat} {l : List Oper} {nn r : Bn} {x : List (Nat × Bn)} {a : Act} {w W : World} {G : GH} {H : List Itm} (n : Nat) (hm : P.follows .mixedOrders = true) (hb : Dn l.toArray n [] = true) (m : Mem W G w H)
    (h : AnyB W P l.toArray (Qk nn x r) (fun a w => wpList P l.toArray (Qk nn x r) (l.drop n) a w) H n G [] (Array.replicate l.length false) a) : (Code.region id l.toArray true).wp P (Qk nn x r) a w := by
  have hn := (C3 hb).2.1
  refine wp_region_any hm ?_
  have hcl : Cl W G H { w with drawn := w.drawn + 1 } := ⟨G, GLe.refl G, m.congr rfl rfl rfl rfl⟩
  have hzero : ∀ k, (Array.replicate l.length false).getD k true = if k < l.length then false else true := fun k => by
    by_cases hk : k < l.length
    · simp [hk]
    · simp [hk]
  have hun : ∀ k, k ≤ l.length → unl (Array.replicate l.length false) k = k := by
    intro k
    induction k with
    | zero => intro _; rfl
    | succ k ih => intro hk; simp only [unl, ih (by omega), hzero]; rw [if_pos (show k < l.length from by omega)]; rfl
  have L : Lst l.toArray n [] n (Array.replicate l.length false) := ⟨by simp, by simp, hun n (by simpa using hn), fun t _ h2 => by rw [hzero, if_pos (by simpa using h2)], fun j hj hl => by
    rw [hzero, if_pos (by have : n ≤ l.length := by simpa using hn
                          omega)] at hl; cases hl⟩
  have := AnyB.sound (P := P) (W := W) (Q := Qk nn x r) hb (l.toArray.size - n) (T := fun a w => wpList P l.toArray (Qk nn x r) (l.drop n) a w) (fun listed a w L h =>
    F4 hb (l.toArray.size - n) n listed a w (Nat.le_refl _) rfl hn L.size (unl_zero L.count) L.tail (by simpa using h)) n G [] _ a _ L hcl h
  have e : n + (l.toArray.size - n) = l.toArray.size := by omega
  rw [e] at this
  simpa using this
section
variable {P : Program} {ops : Array Oper} {nn r : Bn} {x : List (Nat × Bn)} {T : Act → World → Prop} {W : World} {G : GH} {E H : List Itm} {N : Nat} {L : Bw} {a : Act} {fuel : Nat} {n : Nat} {listed listed' : Array Bool}
def pOf (n:Nat):Nat:=n%1000
def Fg (n:Nat):List Nat:=(List.range (pOf n)).filter λi=>(n/1000).testBit i
def lstB (ops:Array Oper)(n:Nat)(fuel:Nat)(listed:Array Bool):Bool:=
 Dn ops (pOf n) (Fg n)&&((Fg n).all λi=>listed.getD i true)&&(listed.size==ops.size)&&(unl listed (pOf n)==fuel)&&((List.range ops.size).all λt=>decide (t<(pOf n))|| !listed.getD t true)&&((List.range (pOf n)).all λj=> !listed.getD j true||(DM ops j).all λi=>listed.getD i true)
theorem lstB_spec (h:lstB ops n fuel listed=true):Dn ops (pOf n) (Fg n)=true∧Lst ops (pOf n) (Fg n) fuel listed:=by
 simp only[lstB,Bool.and_eq_true,beq_iff_eq,List.all_eq_true,List.mem_range,Bool.or_eq_true,decide_eq_true_eq,Bool.not_eq_true'] at h
 obtain⟨⟨⟨⟨⟨h1,h0⟩,h2⟩,h3⟩,h4⟩,h7⟩:=h
 exact⟨h1,h0,h2,h3,λt ht1 ht2=>(h4 t ht2).resolve_left (by omega),λj hj hl i hi=>by
  rcases h7 j hj with h|h
  ·rw[h] at hl;cases hl
  ·exact h i hi⟩
def BZ (ops:Array Oper)(n:Nat)(fuel:Nat)(listed:Array Bool)(i:Nat):Bool:=
 lstB ops n (fuel+1) listed&&(Region.ready .any ops listed).contains i&&Region.free .any ops listed i
theorem Qk_panic {c:List PanicEntry}{a:Act}{w:World}:¬Qk nn x r (.panic c) a w:=λh=>h
theorem Qk_out :¬LetsOut (Qk nn x r):=fun⟨_,_,h⟩=>h
theorem takeB_spec {i:Nat}(h:BZ ops n fuel listed i=true):Dn ops (pOf n) (Fg n)=true∧Lst ops (pOf n) (Fg n) (fuel+1) listed∧i∈Region.ready .any ops listed∧Region.free .any ops listed i=true:=by
 simp only[BZ,Bool.and_eq_true,List.contains_iff_mem] at h
 obtain⟨h1,h2⟩:=lstB_spec h.1.1
 exact⟨h1,h2,h.1.2,h.2⟩
theorem q_take {i:Nat}{o:Oper}{v:Value}(n:Nat)(hi:ops[i]? =some o)(hck:BZ ops n fuel listed i=true)(hl:listed.setIfInBounds i true=listed')(hy:Yl W P ops G H o v a)
  (k:AnyB W P ops (Qk nn x r) T H fuel G E listed' (a.put o.dst v)):AnyB W P ops (Qk nn x r) T H (fuel+1) G E listed a:=by
 obtain⟨h1,h2,h3,h4⟩:=takeB_spec hck
 subst hl
 exact AnyB.first hi h1 (λ_ _ _=>Qk_panic) Qk_out fuel G E listed a h2 (Region.free_spec hi h4) h3 hy k
theorem BD {j s:Nat}{b c:Bool}{o:Oper}(f:Fr a N L)(hg:o.guard=some (j,b))(hj:(ops[j]?).bind (·.dst)=some s)(hs:look L s=some (.bool c))(hc:c=b):
  Region.wanted o (yielded ops a.tmps)=true:=by
 have hy:=Ep (ops:=ops) f hj hs
 simp[Region.wanted,hg,hy,hc]
theorem Dq {i d:Nat}{o:Oper}{v:Value}(n:Nat)(hi:ops[i]? =some o)(hck:BZ ops n fuel listed i=true)(hl:listed.setIfInBounds i true=listed')(f:Fr a N L)(hw:Region.wanted o (yielded ops a.tmps)=true)(hd:o.dst=some d)(hN:Nat.blt d N=true)
  (hr:∀G' Ho w,GLe G G'→Mem W G' w (Ho++H)→(execOp a.eval o).run P w= .ok (.value v) w)
  (k:∀a',Fr a' N ((d,v)::L)→AnyB W P ops (Qk nn x r) T H fuel G E listed' a'):AnyB W P ops (Qk nn x r) T H (fuel+1) G E listed a:=by
 refine q_take n hi hck hl (.inl ⟨hw,λG' Ho w hG ⟨G₂,h2,m⟩=> ?_⟩) (by rw[hd];exact k _ (f.put hN v))
 unfold Oper.quietAt
 rw[hr G₂ Ho w (hG.trans h2) m]
 exact⟨rfl,rfl⟩
theorem q_not {i j s d:Nat}{b c:Bool}{o:Oper}(n:Nat)(hi:ops[i]? =some o)(hck:BZ ops n fuel listed i=true)(hl:listed.setIfInBounds i true=listed')(f:Fr a N L)(hg:o.guard=some (j,b))(hj:(ops[j]?).bind (·.dst)=some s)
  (hs:look L s=some (.bool c)) (hc:c= !b) (hd:o.dst=some d) (hN:Nat.blt d N=true)
  (k:∀a',Fr a' N ((d,undef)::L)→AnyB W P ops (Qk nn x r) T H fuel G E listed' a'):AnyB W P ops (Qk nn x r) T H (fuel+1) G E listed a:=by
 have hy:=Ep (ops:=ops) f hj hs
 refine q_take n hi hck hl (.inr ⟨?_,rfl⟩) (by rw[hd];exact k _ (f.put hN undef))
 simp only[Region.wanted,hg,hy,hc]
 cases b<;>rfl
theorem FP {j s:Nat}(f:Fr a N L)(hj:(ops[j]?).bind (·.dst)=some s)(hs:look L s=some undef):yielded ops a.tmps j=none:=by
 have h:=f.get s _ hs
 unfold yielded
 rw[hj]
 rcases Nat.lt_or_ge s a.tmps.size with h1|h1
 ·simp[Array.getD_eq_getD_getElem?,h1] at h
  simp[h1,h,undef]
 ·simp[Array.getElem?_eq_none h1]
theorem q_notU {i j s d:Nat}{b:Bool}{o:Oper}(n:Nat)(hi:ops[i]? =some o)(hck:BZ ops n fuel listed i=true)(hl:listed.setIfInBounds i true=listed')(f:Fr a N L)(hg:o.guard=some (j,b))(hj:(ops[j]?).bind (·.dst)=some s)
  (hs:look L s=some undef) (hd:o.dst=some d) (hN:Nat.blt d N=true)
  (k:∀a',Fr a' N ((d,undef)::L)→AnyB W P ops (Qk nn x r) T H fuel G E listed' a'):AnyB W P ops (Qk nn x r) T H (fuel+1) G E listed a:=by
 have hy:=FP (ops:=ops) f hj hs
 refine q_take n hi hck hl (.inr ⟨?_,rfl⟩) (by rw[hd];exact k _ (f.put hN undef))
 simp[Region.wanted,hg,hy]
theorem C6 {rest:List Oper}{w:World}{d:Nat}{op:Op}{t:TypeId}{pos:String}{af:Array Edge}{j s:Nat}{b:Bool}(f:Fr a N L)(hN:Nat.blt d N=true)(hj:(ops[j]?).bind (·.dst)=some s)
  (hs:look L s=some undef) (k:∀a',Fr a' N ((d,undef)::L)→wpList P ops (Qk nn x r) rest a' w):
  wpList P ops (Qk nn x r) (⟨some d,op,t,pos,af,some (j,b)⟩::rest) a w:=by
 have hy:=FP (ops:=ops) f hj hs
 unfold wpList
 simp only[Region.wanted,hy]
 exact k _ (f.put hN undef)
theorem BH {i d:Nat}{g:FuncId}{args:List Operand}{tys:Array TypeId}{vs:List Value}{t:TypeId}{pos:String}{af:Array Edge}{gd:Option (Nat×Bool)}{v:Value}(n:Nat)
  (hi:ops[i]? =some ⟨some d,.call {callee:= .value (.func g),args:=args.toArray,argTypes:=tys},t,pos,af,gd⟩) (hck:BZ ops n fuel listed i=true) (hl:listed.setIfInBounds i true=listed') (f:Fr a N L)
  (hw:Region.wanted ⟨some d,.call {callee:= .value (.func g),args:=args.toArray,argTypes:=tys},t,pos,af,gd⟩ (yielded ops a.tmps)=true)
  (hN:Nat.blt d N=true) (hargs:evalAll L args=some vs) (hcall:∀(ars:Array Value) (w:World),(callFunc g ars).run P w= .ok (.enter g ars) w)
  (hc:∀G' Ho w,GLe G G'→Mem W G' w (Ho++H)→Calls P g vs.toArray w (Res W G' (Ho++H) λ_ Ho' v'=>Ho'=[]∧v'=v))
  (k:∀a',Fr a' N ((d,v)::L)→AnyB W P ops (Qk nn x r) T H fuel G E listed' a'):AnyB W P ops (Qk nn x r) T H (fuel+1) G E listed a:=by
 refine q_take n hi hck hl (.inl ⟨hw,λG' Ho w hG ⟨G₂,h2,m⟩=> ?_⟩) (k _ (f.put hN v))
 have hargs':(args.toArray.map a.eval)=vs.toArray:=by rw[List.map_toArray,f.evalAll hargs]
 have hr:(execOp a.eval ⟨some d,.call {callee:= .value (.func g),args:=args.toArray,argTypes:=tys},t,pos,af,gd⟩).run P w= .ok (.enter g vs.toArray) w:=by
  simp only[execOp,resolve,Deferred.ofValue,Act.eval,Sem.run_bind,Sem.run_pure,Result.andThen_ok,invoke,hargs']
  have:=hcall vs.toArray w
  simpa using this
 unfold Oper.quietAt
 rw[hr]
 refine⟨rfl,(hc G₂ Ho w (hG.trans h2) m).mono λe w' ⟨v',he,G₃,Ho',h3,m',h4,h5⟩=> ?_⟩
 subst h4 h5
 exact⟨he,G₃,h2.trans h3,m'⟩
def Step1 (W:World)(P:Program)(ops:Array Oper)(Q:Go.Exit→Act→World→Prop)(T:Act→World→Prop)(H:List Itm)(fuel:Nat)(G:GH)(E:List Itm)(listed:Array Bool)(a:Act)(i:Nat):Prop:=
 ∃o,ops[i]? =some o∧∀G₁ w,GLe G G₁→Mem W G₁ w (E++H)→∀K:Act→World→Prop,
  (∀G' E' a' w',GLe G₁ G'→Mem W G' w' (E'++H)→AnyB W P ops Q T H fuel G' E' (listed.setIfInBounds i true) a'→K a' w')→wpList P ops (Qk (λa' w'=>K a' w') [] (λ_ _=>False)) [o] a w
theorem q_each {is:List Nat}(hready:Region.ready .any ops listed=is)(h:∀i∈is,Step1 W P ops (Qk nn x r) T H fuel G E listed a i):AnyB W P ops (Qk nn x r) T H (fuel+1) G E listed a:=by
 intro w ⟨G₁,h1,m⟩ i hi
 rw[hready] at hi
 obtain⟨o,ho,hs⟩:=h i hi
 have key:=hs G₁ w h1 m (λa' w'=>∃G' E',GLe G G'∧Cl W G' (E'++H) w'∧AnyB W P ops (Qk nn x r) T H fuel G' E' (listed.setIfInBounds i true) a')
  (λG' E' a' w' h2 m' hA=>⟨G',E',h1.trans h2,⟨G',GLe.refl _,m'⟩,hA⟩)
 unfold wpOp
 simp only[ho]
 unfold wpList at key
 split at key
 ·rename_i hw
  rw[if_pos hw]
  rcases key with key|⟨_,_,_,q⟩
  ·left
   unfold Oper.wp at*
   generalize (execOp a.eval o).run P w=res at*
   cases res with
   |ok n' w'=>
    cases n'<;>simp only[Oper.upon] at key ⊢<;>
     first
      |exact key
      |exact Calls.mono key (λe w'' he=>by
        cases e
        ·exact he
        ·exact he.elim
        ·obtain⟨_,_,q⟩:=he;exact q.elim)
      |exact Rows.mono key (λ_ _ he=>he)
   |halt hh w'=>cases hh<;>simp only[Oper.upon] at key ⊢<;>exact key.elim
  ·exact q.elim
 ·rename_i hw
  rw[if_neg hw]
  exact key
theorem q_one {i:Nat}{o:Oper}(hi:ops[i]? =some o)(hready:Region.ready .any ops listed=[i])(hl:listed.setIfInBounds i true=listed')
  (h:∀G₁ w,GLe G G₁→Mem W G₁ w (E++H)→∀K:Act→World→Prop,(∀G' E' a' w',GLe G₁ G'→Mem W G' w' (E'++H)→AnyB W P ops (Qk nn x r) T H fuel G' E' listed' a'→K a' w')→wpList P ops (Qk (λa' w'=>K a' w') [] (λ_ _=>False)) [o] a w):
  AnyB W P ops (Qk nn x r) T H (fuel+1) G E listed a:=by
 subst hl
 refine q_each hready λj hj=> ?_
 simp at hj;subst hj
 exact⟨o,hi,h⟩
theorem CD {i j:Nat}{o o':Oper}{l1 l2:Array Bool}(hi:ops[i]? =some o)(hj:ops[j]? =some o')(hready:Region.ready .any ops listed=[i,j])(hl:listed.setIfInBounds i true=l1)(hl':listed.setIfInBounds j true=l2)
  (h:∀G₁ w,GLe G G₁→Mem W G₁ w (E++H)→∀K:Act→World→Prop,(∀G' E' a' w',GLe G₁ G'→Mem W G' w' (E'++H)→AnyB W P ops (Qk nn x r) T H fuel G' E' l1 a'→K a' w')→wpList P ops (Qk (λa' w'=>K a' w') [] (λ_ _=>False)) [o] a w)
  (h':∀G₁ w,GLe G G₁→Mem W G₁ w (E++H)→∀K:Act→World→Prop,(∀G' E' a' w',GLe G₁ G'→Mem W G' w' (E'++H)→AnyB W P ops (Qk nn x r) T H fuel G' E' l2 a'→K a' w')→wpList P ops (Qk (λa' w'=>K a' w') [] (λ_ _=>False)) [o'] a w):
  AnyB W P ops (Qk nn x r) T H (fuel+1) G E listed a:=by
 subst hl hl'
 refine q_each hready λk hk=> ?_
 simp at hk
 rcases hk with rfl|rfl
 ·exact⟨o,hi,h⟩
 ·exact⟨o',hj,h'⟩
section
variable {t : TypeId} {pos : String} {af : Array Edge} {gd : Option (Nat × Bool)} {d i : Nat}
theorem Eo {α:Type}{R:Rep α}{v:Value}{xs:List α}{u e:Nat}{xo:Operand}(n:Nat)(hu:P.underlying u=some (.slice e))(h:RSl R G v xs)
  (hi:ops[i]? =some ⟨some d,.call {callee:= .builtin .len,args:= #[xo],argTypes:= #[u]},t,pos,af,gd⟩) (hck:BZ ops n fuel listed i=true) (hl:listed.setIfInBounds i true=listed') (f:Fr a N L)
  (hw:Region.wanted ⟨some d,.call {callee:= .builtin .len,args:= #[xo],argTypes:= #[u]},t,pos,af,gd⟩ (yielded ops a.tmps)=true) (hN:Nat.blt d N=true) (hx:AN L xo=some v)
  (k:∀a',Fr a' N ((d,.int .i64 (xs.length:Int))::L)→AnyB W P ops (Qk nn x r) T H fuel G E listed' a'):AnyB W P ops (Qk nn x r) T H (fuel+1) G E listed a:=by
 obtain⟨b,c,rfl,_⟩:=h.len
 exact Dq n hi hck hl f hw rfl hN (λ_ _ _ _ _=>D4 (f.eval hx) hu) k
theorem q_at {α:Type}{R:Rep α}{v:Value}{xs:List α}{u e bytes:Nat}{z:Value}{xo io:Operand}{k0:IntKind}{j:Int}{e':α}(n:Nat)(hu:SlT P u e 1 bytes z)(h:RSl R G v xs)(he:idx xs j=some e')
  (hi:ops[i]? =some ⟨some d,.indexAddr u xo io,t,pos,af,gd⟩) (hck:BZ ops n fuel listed i=true) (hl:listed.setIfInBounds i true=listed') (f:Fr a N L)
  (hw:Region.wanted ⟨some d,.indexAddr u xo io,t,pos,af,gd⟩ (yielded ops a.tmps)=true) (hN:Nat.blt d N=true) (hx:AN L xo=some v) (hio:AN L io=some (.int k0 j))
  (k:∀p c a',At G p c→R G c e'→Fr a' N ((d,p)::L)→AnyB W P ops (Qk nn x r) T H fuel G E listed' a'):AnyB W P ops (Qk nn x r) T H (fuel+1) G E listed a:=by
 obtain⟨b,m,c,off,cv,rfl,h0,h1,hc,hR⟩:=h.at he
 refine Dq n hi hck hl f hw rfl hN (λ_ _ _ _ _=>CR (f.eval hx) (f.eval hio) hu h0 h1) λa' f'=> ?_
 refine k _ cv a' ⟨b,off+j.toNat,?_,hc⟩ hR f'
 rw[BQ,Nat.mul_one]
theorem q_loadAt {u:TypeId}{xo:Operand}{p c:Value}(n:Nat)(hp:B8 P u)(h:At G p c)
  (hi:ops[i]? =some ⟨some d,.load u xo,t,pos,af,gd⟩) (hck:BZ ops n fuel listed i=true) (hl:listed.setIfInBounds i true=listed') (f:Fr a N L)
  (hw:Region.wanted ⟨some d,.load u xo,t,pos,af,gd⟩ (yielded ops a.tmps)=true) (hN:Nat.blt d N=true) (hx:AN L xo=some p)
  (k:∀a',Fr a' N ((d,c)::L)→AnyB W P ops (Qk nn x r) T H fuel G E listed' a'):AnyB W P ops (Qk nn x r) T H (fuel+1) G E listed a:=by
 obtain⟨b,o,rfl,hc⟩:=h
 exact Dq n hi hck hl f hw rfl hN (λ_ _ _ hG m=>Fj (f.eval hx) hp ((hc.mono hG).get m)) k
theorem q_boxCell {b ix:Nat}{tt:TypeId}{cs:List Value}{u:TypeId}{xo:Operand}{c:Value}(n:Nat)(j:Nat)(hp:B8 P u)(hj:H[j]? =some (.box b tt cs))(hc:cs[ix]? =some c)
  (hi:ops[i]? =some ⟨some d,.load u xo,t,pos,af,gd⟩) (hck:BZ ops n fuel listed i=true) (hl:listed.setIfInBounds i true=listed') (f:Fr a N L)
  (hw:Region.wanted ⟨some d,.load u xo,t,pos,af,gd⟩ (yielded ops a.tmps)=true) (hN:Nat.blt d N=true) (hx:AN L xo=some (.pointer (some ⟨b,ix,none⟩)))
  (k:∀a',Fr a' N ((d,c)::L)→AnyB W P ops (Qk nn x r) T H fuel G E listed' a'):AnyB W P ops (Qk nn x r) T H (fuel+1) G E listed a:=
 Dq n hi hck hl f hw rfl hN (λ_ _ _ _ m=>Fj (f.eval hx) hp (m.drop.boxCell j hj hc)) k
theorem Cg {b ix nn':Nat}{tt:TypeId}{cs ds:List Value}{u:TypeId}{xo:Operand}(n:Nat)(j:Nat)(hp:Agg P u nn')(hj:H[j]? =some (.box b tt cs))(hds:(cs.drop ix).take nn'=ds)(hln:ds.length=nn')
  (hi:ops[i]? =some ⟨some d,.load u xo,t,pos,af,gd⟩) (hck:BZ ops n fuel listed i=true) (hl:listed.setIfInBounds i true=listed') (f:Fr a N L)
  (hw:Region.wanted ⟨some d,.load u xo,t,pos,af,gd⟩ (yielded ops a.tmps)=true) (hN:Nat.blt d N=true) (hx:AN L xo=some (.pointer (some ⟨b,ix,none⟩)))
  (k:∀a',Fr a' N ((d,.agg ds.toArray)::L)→AnyB W P ops (Qk nn x r) T H fuel G E listed' a'):AnyB W P ops (Qk nn x r) T H (fuel+1) G E listed a:=by
 refine Dq n hi hck hl f hw rfl hN (λ_ _ _ _ m=>Gc (f.eval hx) hp hln (λj' v hv=> ?_)) k
 rw[BQ]
 refine m.drop.boxCell j hj ?_
 rw[←hds,List.getElem?_take] at hv
 split at hv
 ·rwa [List.getElem?_drop] at hv
 ·cases hv
theorem q_fieldAddr {b ix:Nat}{s fi:Nat}{fs:Array Field}{fl:Field}{sz:Nat}{xo:Operand}(n:Nat)(hs:P.underlying s=some (.struct fs))(hf:fs[fi]? =some fl)
  (hz:∀w,(sizeOf fl.type).run P w= .ok sz w) (hz0:sz≠0)
  (hi:ops[i]? =some ⟨some d,.fieldAddr s xo fi,t,pos,af,gd⟩) (hck:BZ ops n fuel listed i=true) (hl:listed.setIfInBounds i true=listed') (f:Fr a N L)
  (hw:Region.wanted ⟨some d,.fieldAddr s xo fi,t,pos,af,gd⟩ (yielded ops a.tmps)=true) (hN:Nat.blt d N=true) (hx:AN L xo=some (.pointer (some ⟨b,ix,none⟩)))
  (k:∀a',Fr a' N ((d,.pointer (some ⟨b,ix+fl.offset,none⟩))::L)→AnyB W P ops (Qk nn x r) T H fuel G E listed' a'):AnyB W P ops (Qk nn x r) T H (fuel+1) G E listed a:=by
 refine Dq n hi hck hl f hw rfl hN (λ_ _ _ _ _=>E5 (f.eval hx) hs hf hz hz0) ?_
 rw[BQ]
 exact k
theorem q_own_at {α:Type}{R:Rep α}{tt:TypeId}{it:Itm}{v:Value}{xs:List α}{u e bytes:Nat}{z:Value}{xo io:Operand}{k0:IntKind}{jx:Int}{y:α}{w₀:World}{G₀:GH}{H₀:List Itm}(n:Nat)(j:Nat)(m:Mem W G₀ w₀ H₀)(h:Ow R tt G it v xs)(hj:H₀[j]? =some it)
  (hu:SlT P u e 1 bytes z) (he:idx xs jx=some y)
  (hi:ops[i]? =some ⟨some d,.indexAddr u xo io,t,pos,af,gd⟩) (hck:BZ ops n fuel listed i=true) (hl:listed.setIfInBounds i true=listed') (f:Fr a N L)
  (hw:Region.wanted ⟨some d,.indexAddr u xo io,t,pos,af,gd⟩ (yielded ops a.tmps)=true) (hN:Nat.blt d N=true) (hx:AN L xo=some v) (hio:AN L io=some (.int k0 jx))
  (k:∀p a',Dx v p jx→Fr a' N ((d,p)::L)→AnyB W P ops (Qk nn x r) T H fuel G E listed' a'):AnyB W P ops (Qk nn x r) T H (fuel+1) G E listed a:=by
 obtain⟨b,c,cur,vs,rfl,rfl,h0,h1,hg,_⟩:=h.at' m hj he
 refine Dq n hi hck hl f hw rfl hN (λ_ _ _ _ _=>CR (f.eval hx) (f.eval hio) hu h0 h1) λa' f'=> ?_
 exact k _ a' ⟨b,_,c,rfl,by rw[BQ,Nat.mul_one,Nat.zero_add]⟩ f'
theorem q_own_load {α:Type}{R:Rep α}{tt:TypeId}{it:Itm}{v p:Value}{xs:List α}{u:Nat}{xo:Operand}{jx:Int}{y:α}(n:Nat)(j:Nat)(h:Ow R tt G it v xs)(hj:H[j]? =some it)
  (hp:B8 P u) (ha:Dx v p jx) (he:idx xs jx=some y)
  (hi:ops[i]? =some ⟨some d,.load u xo,t,pos,af,gd⟩) (hck:BZ ops n fuel listed i=true) (hl:listed.setIfInBounds i true=listed') (f:Fr a N L)
  (hw:Region.wanted ⟨some d,.load u xo,t,pos,af,gd⟩ (yielded ops a.tmps)=true) (hN:Nat.blt d N=true) (hx:AN L xo=some p)
  (k:∀c a',R G c y→Fr a' N ((d,c)::L)→AnyB W P ops (Qk nn x r) T H fuel G E listed' a'):AnyB W P ops (Qk nn x r) T H (fuel+1) G E listed a:=by
 obtain⟨b,mm,c,e1,rfl⟩:=ha
 obtain⟨vs,rfl,hA⟩:=h
 obtain⟨h0,h1,h2⟩:=CG he
 obtain⟨cv,h7,hR⟩:=hA.get h2
 refine Dq (v:=cv) n hi hck hl f hw rfl hN (λ_ _ w _ m=>Fj (f.eval hx) hp ?_) (λa' f'=>k cv a' hR f')
 have ok:w.ownsRow 0 tt 1 v xs.length vs:=m.drop.items j _ hj
 rcases ok.2 with⟨e2,e3⟩|⟨g,cap,cur,e2,_,eh,e4,e5,e6,e7⟩
 ·omega
 ·rw[e2] at e1
  cases e1
  rw[←e7,List.getElem?_take] at h7
  split at h7
  ·simp only[World.cell?,eh];simpa using h7
  ·cases h7
end
theorem Fh {α:Type}{R:Rep α}{u e bytes d i:Nat}{t:TypeId}{pos:String}{af:Array Edge}{gd:Option (Nat×Bool)}{z:Value}{v:Value}{xs ys:List α}{xo:Operand}{lo hi:Option Operand}{i1 j1:Int}(n:Nat)(hu:SlT P u e 1 bytes z)(h:RSl R G v xs)
  (hs:Ck xs i1 j1=some ys)
  (hi':ops[i]? =some ⟨some d,.slice u xo lo hi none,t,pos,af,gd⟩) (hck:BZ ops n fuel listed i=true) (hl:listed.setIfInBounds i true=listed') (f:Fr a N L)
  (hw:Region.wanted ⟨some d,.slice u xo lo hi none,t,pos,af,gd⟩ (yielded ops a.tmps)=true) (hN:Nat.blt d N=true) (hx:AN L xo=some v)
  (hlo:(lo=none∧i1=0)∨∃o k,lo=some o∧AN L o=some (.int k i1)) (hhi:(hi=none∧j1=xs.length)∨∃o k,hi=some o∧AN L o=some (.int k j1))
  (k:∀v' a',RSl R G v' ys→Fr a' N ((d,v')::L)→AnyB W P ops (Qk nn x r) T H fuel G E listed' a'):AnyB W P ops (Qk nn x r) T H (fuel+1) G E listed a:=by
 obtain⟨av,c,rfl,h1,h2⟩:=h.len
 obtain⟨h3,h4,h5,_,_⟩:=FC hs
 obtain⟨h6,h7⟩:=h.sub hs
 refine Dq n hi' hck hl f hw rfl hN (λ_ _ _ _ _=>Gr (i:=i1) (j:=j1) hu (f.eval hx) ?_ ?_ h3 h4 h7) (λa' f'=>k _ a' h6 f')
 ·rcases hlo with h|⟨o,kk,h8,h9⟩
  ·exact .inl h
  ·exact .inr ⟨o,kk,h8,f.eval h9⟩
 ·rcases hhi with h|⟨o,kk,h8,h9⟩
  ·exact .inl h
  ·exact .inr ⟨o,kk,h8,f.eval h9⟩
theorem CM {fuel':Nat}{listed':Array Bool}(Mid:Act→Prop)(k:∀a,Mid a→AnyB W P ops (Qk nn x r) T H fuel' G E listed' a)
  (h:(∀a,Mid a→AnyB W P ops (Qk nn x r) T H fuel' G E listed' a)→AnyB W P ops (Qk nn x r) T H fuel G E listed a):AnyB W P ops (Qk nn x r) T H fuel G E listed a:=h k
theorem AO (h:∀G₁ w,GLe G G₁→Mem W G₁ w (E++H)→T a w):AnyB W P ops (Qk nn x r) T H 0 G E listed a:=λw ⟨G₁,h1,m⟩=>h G₁ w h1 m
end
def PAny (W:World)(P:Program)(ops:Array Oper)(Q:Go.Exit→Act→World→Prop)(fuel:Nat)(G:GH)(H:List Itm)(listed:Array Bool)(a:Act):Prop:=
 ∀w,Cl W G H w→wpAny P .any ops Q fuel listed a w
theorem Cw {P:Program}{id:Nat}{l:List Oper}{nn r:Bn}{x:List (Nat×Bn)}{a:Act}{w W:World}{G:GH}{H:List Itm}(hm:P.follows .mixedOrders=true)(m:Mem W G w H)
  (h:PAny W P l.toArray (Qk nn x r) l.length G H (Array.replicate l.length false) a):(Code.region id l.toArray true).wp P (Qk nn x r) a w:=by
 refine wp_region_any hm ?_
 have hcl:Cl W G H {w with drawn:=w.drawn+1}:=⟨G,GLe.refl G,m.congr rfl rfl rfl rfl⟩
 simpa using h _ hcl
section
variable {P : Program} {ops : Array Oper} {nn r : Bn} {x : List (Nat × Bn)} {W : World} {G : GH} {H : List Itm} {N : Nat} {L : Bw} {a : Act} {fuel : Nat} {listed listed' : Array Bool}
theorem p_op {i d:Nat}{o:Oper}{v:Value}(hi:ops[i]? =some o)(hck:(Region.noSelect ops&&Region.free .any ops listed i&&(Region.ready .any ops listed).contains i)=true)(hl:listed.setIfInBounds i true=listed')(f:Fr a N L)(hg:o.guard=none)(hd:o.dst=some d)(hN:Nat.blt d N=true)
  (hr:∀w,(execOp a.eval o).run P w= .ok (.value v) w)
  (k:∀a',Fr a' N ((d,v)::L)→PAny W P ops (Qk nn x r) fuel G H listed' a'):PAny W P ops (Qk nn x r) (fuel+1) G H listed a:=by
 intro w hw
 subst hl
 simp only[Bool.and_eq_true] at hck
 refine wpAny_take hi hck.1.1 hck.1.2 hck.2 (λ_ _ _ h=>h.elim) (.inl ⟨by simp[Region.wanted,hg],hr⟩) ?_
 rw[hd]
 exact k _ (f.put hN v) w hw
theorem Cu (n:Nat)(m:Nat)(hck:lstB ops n m listed=true)(hf:fuel=m+(ops.size-(pOf n)))
  (h:AnyB W P ops (Qk nn x r) (λa w=>wpList P ops (Qk nn x r) (ops.toList.drop (pOf n)) a w) H m G [] listed a):PAny W P ops (Qk nn x r) fuel G H listed a:=by
 intro w hw
 obtain⟨hb,L⟩:=lstB_spec hck
 have hn:=(C3 hb).2.1
 subst hf
 exact AnyB.sound hb (ops.size-(pOf n)) (T:=λa w=>wpList P ops (Qk nn x r) (ops.toList.drop (pOf n)) a w) (λlisted a w L h=>
  F4 hb (ops.size-(pOf n)) (pOf n) listed a w (Nat.le_refl _) rfl hn L.size (unl_zero L.count) L.tail h) m G [] listed a w L hw h
end
end Go.Sx

namespace Go.Sx
def tupleOf :List Value→Value
 |[v]=>v
 |vs=> .tuple vs.toArray
theorem As :∀c∈([]:List Value),c.oneCell'=true:=by simp
theorem Ak {c:Value}{cs:List Value}(h:c.oneCell'=true)(h':∀c∈cs,c.oneCell'=true):∀x∈c::cs,x.oneCell'=true:=by
 intro x hx;rcases List.mem_cons.1 hx with rfl|hx
 ·exact h
 ·exact h' x hx
def Free {α:Type}(R:Rep α):Prop:=∀G G' v x,R G v x→R G' v x
theorem RI.free (k:IntKind):Free (RI k):=λ_ _ _ _ h=>h
theorem Ow.free {α:Type}{R:Rep α}(hR:Free R){t:TypeId}{G:GH}(G':GH){it:Itm}{v:Value}{xs:List α}(h:Ow R t G it v xs):Ow R t G' it v xs:=by
 obtain⟨vs,h1,h2⟩:=h
 exact⟨vs,h1,h2.mono (λv x=>hR G G' v x)⟩
theorem At.mono {G G':GH}(h:GLe G G'){p c:Value}(k:At G p c):At G' p c:=by
 obtain⟨b,o,e,hc⟩:=k
 exact⟨b,o,e,hc.mono h⟩
theorem Ow.lendCall {P:Program}{g:FuncId}{args:Array Value}{α:Type}{R:Rep α}(hR:DA R){t:TypeId}{W w:World}{G:GH}{it:Itm}{H:List Itm}{v:Value}{xs:List α}{Q:GH→List Itm→Value→Prop}(j:Nat)
  (h:Ow R t G it v xs) (m:Mem W G w H) (hj:H[j]? =some it)
  (hc:∀G₁,GLe G G₁→Mem W G₁ w (H.eraseIdx j)→RSl R G₁ v xs→Calls P g args w (Res W G₁ (H.eraseIdx j) Q)) (hQ:∀G G' Ho v,Q G Ho v→Q G' Ho v):Calls P g args w (Res W G H Q):=by
 obtain⟨G₁,h1,m1,h2,back⟩:=h.lend hR (m.front j hj)
 refine(hc G₁ h1 m1 h2).mono λe w' ⟨r,he,G₂,Ho,h3,m2,hq⟩=> ?_
 obtain⟨G₃,h4,m3,_⟩:=back G₂ w' _ h3 m2
 refine⟨r,he,G₃,Ho,h4,?_,hQ _ _ _ _ hq⟩
 have hl:j<H.length:=(List.getElem?_eq_some_iff.1 hj).1
 have m4:=m3.back (Ho.length+j) (by simp[List.length_eraseIdx,hl];omega)
 have e:(Ho++H.eraseIdx j).take (Ho.length+j)++it::(Ho++H.eraseIdx j).drop (Ho.length+j)=Ho++H:=by
  rw[List.take_length_add_append,List.drop_length_add_append,List.append_assoc]
  congr 1
  rw[DP H j it hl]
  apply List.ext_getElem?
  intro k
  rw[List.getElem?_set]
  split
  ·rename_i e;subst e;simp[hl] at hj ⊢;exact hj.symm
  ·rfl
 rwa [e] at m4
theorem CO {α:Type}{c:Bool}{q:Option α}{y:α}(h:cond c none q=some y):c=false∧q=some y:=by
 cases c
 ·exact⟨rfl,h⟩
 ·cases h
theorem lookRight {α:Type}{Ho H:List α}{j:Nat}{x:α}(h:H[j]? =some x):(Ho++H)[Ho.length+j]? =some x:=by
 rw[List.getElem?_append_right (by omega)];simpa using h
theorem Bb {k:IntKind}{n:Int}:(Value.int k n).cells= #[.int k n]:=rfl
theorem A6 {b:Bool}:(Value.bool b).cells= #[.bool b]:=rfl
theorem AT {b:ByteArray}:(Value.string b).cells= #[.string b]:=rfl
theorem A2 {a:Option Addr}{n c:Nat}:(Value.slice a n c).cells= #[.slice a n c]:=rfl
theorem AQ {a:Option Addr}:(Value.pointer a).cells= #[.pointer a]:=rfl
theorem Bc {cs:Array Value}:(Value.agg cs).cells=cs:=rfl
section
variable {P : Program} {ops : Array Oper} {rest l : List Oper} {n r : Bn} {x : List (Nat × Bn)} {a : Act} {w : World} {N : Nat} {L : Bw}
variable {d : Nat} {t : TypeId} {pos : String} {af : Array Edge}
theorem Bv {u:TypeId}{parts:Array (Nat×Operand)}{vs:List (Nat×Value)}{v:Value}(f:Fr a N L)(hN:Nat.blt d N=true)
  (hp:(parts.toList.map λp=>(p.1,AN L p.2))=vs.map λp=>(p.1,some p.2)) (hb:∀w,(Instr.build u vs.toArray).run P w= .ok v w)
  (k:∀a',Fr a' N ((d,v)::L)→wpList P ops (Qk n x r) rest a' w):
  wpList P ops (Qk n x r) (⟨some d,.build u parts,t,pos,af,none⟩::rest) a w:=by
 have key:∀(ps:List (Nat×Operand)) (vs:List (Nat×Value)),(ps.map λp=>(p.1,AN L p.2))=vs.map (λp=>(p.1,some p.2))→ps.map (fun(i,x)=>(i,a.eval x))=vs:=by
  intro ps
  induction ps with
  |nil=>intro vs h;cases vs with
   |nil=>rfl
   |cons _ _=>simp at h
  |cons p ps ih=>
   intro vs h
   cases vs with
   |nil=>simp at h
   |cons q vs=>
    simp only[List.map_cons,List.cons.injEq,Prod.mk.injEq] at h
    simp only[List.map_cons,ih vs h.2,f.eval h.1.2,h.1.1]
 have e:(parts.map fun(i,x)=>(i,a.eval x))=vs.toArray:=by
  apply Array.toList_inj.1
  rw[Array.toList_map,key parts.toList vs hp]
 refine Ce f rfl rfl hN (v:=v) ?_ k
 simp[execOp,e,hb]
end
def RR (P:Program)(a:Act)(w:World):List ResultVar→List Value→Prop
 |[],[]=>True
 | .tmp s::rs,v::vs=>a.tmps.getD s undef=v∧RR P a w rs vs
 | .cell s t::rs,v::vs=>(do loadVar t (←asAddr (a.tmps.getD s undef)):Sem Value).run P w= .ok v w∧RR P a w rs vs
 |_,_=>False
theorem RR.run {P:Program}{a:Act}{w:World}{fn:Func}{rs:List ResultVar}{vs:List Value}(h:RR P a w rs vs)(hr:fn.results=rs.toArray):(results fn a.tmps).run P w= .ok (tupleOf vs) w:=by
 have key:∀(rs:List ResultVar) (vs:List Value),RR P a w rs vs→
   (rs.mapM (λr:ResultVar=>(match r with
    | .tmp t=>pure (a.tmps.getD t undef)
    | .cell a' t=>do loadVar t (←asAddr (a.tmps.getD a' undef)):Sem Value))).run P w= .ok vs w:=by
  intro rs
  induction rs with
  |nil=>intro vs h;cases vs with
   |nil=>simp
   |cons _ _=>exact h.elim
  |cons r rs ih=>
   intro vs h
   cases vs with
   |nil=>cases r<;>exact h.elim
   |cons v vs=>
    cases r with
    |tmp t=>
     have h2:=ih vs h.2
     simp only[List.mapM_cons,Sem.run_bind,Sem.run_pure,Result.andThen_ok,h.1,h2]
    |cell s t=>
     have h2:=ih vs h.2
     have h1:=h.1
     simp only[Sem.run_bind] at h1
     simp only[List.mapM_cons,Sem.run_bind,Sem.run_pure,h1,Result.andThen_ok,h2]
 have hk:=key rs vs h
 unfold results
 rw[hr]
 simp only[List.mapM_toArray,Sem.run_bind,Sem.run_map,Sem.run_pure]
 refine(congrArg (λr:Result (List Value)=>((r.andThen λa w'=>Result.ok a.toArray w').andThen λa w'=>Result.ok (if h:a.size=1 then a[0] else Value.tuple a) w')) (show _=Result.ok vs w from hk)).trans ?_
 match vs with
 |[]=>rfl
 |[v]=>rfl
 |v::u::t=>rfl
theorem Bi {P:Program}{a:Act}{w W:World}{G:GH}{H:List Itm}{N:Nat}{L:Bw}{s b t n:Nat}{cs:List Value}(j:Nat)(m:Mem W G w H)(hp:Agg P t n)(f:Fr a N L)(hs:look L s=some (.pointer (some ⟨b,0,none⟩)))(hj:H[j]? =some (.box b t cs))(hl:cs.length=n):
  (do loadVar t (←asAddr (a.tmps.getD s undef)):Sem Value).run P w= .ok (.agg cs.toArray) w:=by
 rw[f.get s _ hs]
 have:=run_loadCells_list (P:=P) w ⟨b,0,none⟩ cs (λj' v hv=>by rw[BQ,Nat.zero_add];exact m.boxCell j hj hv)
 subst hl
 simp[asAddr,loadVar,hp.1 w,hp.2 w,this]
def RetB (P:Program)(W:World)(G:GH)(H:List Itm)(rs:List ResultVar)(Q:GH→List Itm→Value→Prop):Bn:=λa w=>
 ∃vs:List Value,RR P a w rs vs∧a.defers=[]∧∃G' Ho,GLe G G'∧Mem W G' w (Ho++H)∧Q G' Ho (tupleOf vs)
theorem Au {P:Program}{g:FuncId}{fn:Func}{c:Code}{args:List Value}{w:World}{N:Nat}{W:World}{G:GH}{H:List Itm}{Q:GH→List Itm→Value→Prop}(rs:List ResultVar)
  (hf:P.funcs[g]? =some fn) (hb:fn.body=some c) (hN:fn.ntmps=N) (hl:args.length≤N) (hr:fn.results=rs.toArray)
  (h:∀a,Fr a N (enum 0 args)→c.wp P (Qk (RetB P W G H rs Q) [] (RetB P W G H rs Q)) a w):Calls P g args.toArray w (Res W G H Q):=
 calls_k (N:=N) (RetB P W G H rs Q) hf hb hN hl h (λa w ⟨vs,h1,hd,G',Ho,h2,m,h3⟩=>⟨hd,tupleOf vs,h1.run hr,_,rfl,G',Ho,h2,m,h3⟩)
def tab32 :List Int:=[0,1,28,2,29,14,24,3,30,22,20,15,25,17,4,8,31,27,13,23,21,19,16,7,26,12,18,6,11,5,10,9]
def Cs (W:World):Prop:=∃e fz,W.heap[0]? =some (.cells ((tab32.map (Value.int .u8)).toArray) e fz)
theorem l_tab {P:Program}{ops:Array Oper}{rest:List Oper}{n r:Bn}{x:List (Nat×Bn)}{a:Act}{w:World}{N:Nat}{L:Bw}{d:Nat}{t:TypeId}{pos:String}{af:Array Edge}{W:World}{G:GH}{H:List Itm}{u e:Nat}{io:Operand}{k:IntKind}{i y:Int}
  (hW:Cs W) (m:Mem W G w H) (hu:P.underlying u=some (.array 32 e)) (hz:∀w,(sizeOf e).run P w= .ok 1 w) (f:Fr a N L) (hN:Nat.blt d N=true) (hi:AN L io=some (.int k i)) (he:idx tab32 i=some y)
  (q:∀p a',At G p (.int .u8 y)→Fr a' N ((d,p)::L)→wpList P ops (Qk n x r) rest a' w):
  wpList P ops (Qk n x r) (⟨some d,.indexAddr u (.global 0) io,t,pos,af,none⟩::rest) a w:=by
 obtain⟨h0,h1,h2⟩:=CG he
 obtain⟨ee,fz,hg⟩:=hW
 have h1':i<32:=h1
 refine Ce (v:= .pointer (some ⟨0,i.toNat,none⟩)) f rfl rfl hN ?_ (λa' f'=>q _ a' ⟨0,i.toNat,rfl,_,ee,fz,m.base 0 _ hg,?_⟩ f')
 ·have hgl:a.eval (.global 0)= .pointer (some ⟨0,0,none⟩):=rfl
  simp[execOp,hgl,f.eval hi,Instr.indexAt,asIntOf,run_underlying hu,Instr.sureAddr,h0,h1',hz w,BQ]
 ·simp[h2]
section
variable {P : Program} {ρ : Operand → Value} {w : World} {d : Option Tmp} {t : TypeId} {pos : String} {af : Array Edge} {gd : Option (Nat × Bool)}
theorem AY {c x y:Operand}{b:Bool}{v:Value}(hc:ρ c= .bool b)(hb:b=true)(h:ρ x=v):(execOp ρ ⟨d,.pick c x y,t,pos,af,gd⟩).run P w= .ok (.value v) w:=
 r_pick hc (by rw[hb];exact h)
theorem AX {c x y:Operand}{b:Bool}{v:Value}(hc:ρ c= .bool b)(hb:b=false)(h:ρ y=v):(execOp ρ ⟨d,.pick c x y,t,pos,af,gd⟩).run P w= .ok (.value v) w:=
 r_pick hc (by rw[hb];exact h)
theorem r_min2 {k:IntKind}{us:Array TypeId}{x y:Operand}{m n:Int}(hx:ρ x= .int k m)(hy:ρ y= .int k n):
  (execOp ρ ⟨d,.call {callee:= .builtin .min,args:= #[x,y],argTypes:=us},t,pos,af,gd⟩).run P w= .ok (.value (.int k (if n<m then n else m))) w:=by
 simp[execOp,resolve,invoke,builtin,Builtin.min_,Builtin.min2,hx,hy]
theorem r_max2 {k:IntKind}{us:Array TypeId}{x y:Operand}{m n:Int}(hx:ρ x= .int k m)(hy:ρ y= .int k n):
  (execOp ρ ⟨d,.call {callee:= .builtin .max,args:= #[x,y],argTypes:=us},t,pos,af,gd⟩).run P w= .ok (.value (.int k (if m<n then n else m))) w:=by
 simp[execOp,resolve,invoke,builtin,Builtin.max_,Builtin.max2,hx,hy]
end
section
variable {P : Program} {ρ : Operand → Value} {w : World} {d : Option Tmp} {t : TypeId} {pos : String} {af : Array Edge} {gd : Option (Nat × Bool)}
theorem GV (dd:Nat){u:TypeId}{m n:Bool}(hu:P.underlying u=some .bool):(Op.equalIn (dd+1) u (.bool m) (.bool n)).run P w= .ok (m==n) w:=by
 simp[Op.equalIn,run_underlying hu]
theorem run_eq_bool {u:TypeId}{m n:Bool}(hu:P.underlying u=some .bool):(Op.equal u (.bool m) (.bool n)).run P w= .ok (m==n) w:=GV 9999 hu
theorem r_bool_eql {u u':TypeId}{x y:Operand}{m n:Bool}(hx:ρ x= .bool m)(hy:ρ y= .bool n)(hu:P.underlying u=some .bool):
  (execOp ρ ⟨d,.binOp .eql u x y u',t,pos,af,gd⟩).run P w= .ok (.value (.bool (m==n))) w:=by
 have hg:(eqGuard .eql u x y (.bool m) (.bool n)).run P w= .ok () w:=by
  unfold eqGuard
  rfl
 simp[execOp,hx,hy,hg,binOp,run_eq_bool hu]
end
end Go.Sx

namespace Go.Sx
theorem Cy {v:Value}{t1 t2:TypeId}{rows:List (Value×List Value)}{i:Nat}{h:Itm}(hi:(parts v t1 t2 rows)[i]? =some h):h.foot=h.foot0∧∀w,h.ok w↔h.ok0 w:=by
 cases i with
 |zero=>simp[parts] at hi;subst hi;exact⟨rfl,λ_=>Iff.rfl⟩
 |succ i=>
  simp only[parts,List.getElem?_cons_succ,List.getElem?_map] at hi
  cases hr:rows[i]? with
  |none=>simp[hr] at hi
  |some r=>simp[hr] at hi;subst hi;exact⟨rfl,λ_=>Iff.rfl⟩
section
variable {W w : World} {G : GH} {H : List Itm}
theorem Mem.group {g:Itm}{l:List Itm}(hf:∀x,x∈g.foot↔∃(i:Nat) (h:Itm),l[i]? =some h∧x∈h.foot)
  (hok:g.ok w↔(∀(i:Nat) (h:Itm),l[i]? =some h→h.ok w)∧∀(i j:Nat) (a b:Itm),i≠j→l[i]? =some a→l[j]? =some b→∀x∈a.foot,x∉b.foot):
  Mem W G w (g::H)↔Mem W G w (l++H):=by
 constructor
 ·intro m
  obtain⟨k1,k2⟩:=hok.1 (m.items 0 g rfl)
  have hH:∀(i:Nat) (z:Itm),H[i]? =some z→∀x∈z.foot,x∉g.foot:=λi z hz=>m.disj (i+1) 0 z g (by omega) (by simpa using hz) rfl
  refine⟨m.os,m.tape,m.output,m.sealed,λi z k=> ?_,λi j a b hij ha hb=> ?_,λi z k x hx=> ?_,m.base⟩
  ·by_cases hi:i<l.length
   ·rw[List.getElem?_append_left hi] at k;exact k1 i z k
   ·rw[List.getElem?_append_right (by omega)] at k;exact m.items (i-l.length+1) z (by simpa using k)
  ·by_cases hi:i<l.length
   ·rw[List.getElem?_append_left hi] at ha
    by_cases hj:j<l.length
    ·rw[List.getElem?_append_left hj] at hb;exact k2 i j a b hij ha hb
    ·rw[List.getElem?_append_right (by omega)] at hb
     exact λx hx hx'=>hH _ b hb x hx' ((hf x).2 ⟨i,a,ha,hx⟩)
   ·rw[List.getElem?_append_right (by omega)] at ha
    by_cases hj:j<l.length
    ·rw[List.getElem?_append_left hj] at hb
     exact λx hx hx'=>hH _ a ha x hx ((hf x).2 ⟨j,b,hb,hx'⟩)
    ·rw[List.getElem?_append_right (by omega)] at hb
     exact m.disj (i-l.length+1) (j-l.length+1) a b (by omega) (by simpa using ha) (by simpa using hb)
  ·by_cases hi:i<l.length
   ·rw[List.getElem?_append_left hi] at k;exact m.apart 0 g rfl x ((hf x).2 ⟨i,z,k,hx⟩)
   ·rw[List.getElem?_append_right (by omega)] at k;exact m.apart (i-l.length+1) z (by simpa using k) x hx
 ·intro m
  have hl:∀(i:Nat) (z:Itm),l[i]? =some z→(l++H)[i]? =some z:=λi z k=>by
   rw[List.getElem?_append_left (List.getElem?_eq_some_iff.1 k).1];exact k
  have hr:∀(i:Nat) (z:Itm),H[i]? =some z→(l++H)[l.length+i]? =some z:=λi z k=>by
   rw[List.getElem?_append_right (by omega)];simpa using k
  refine⟨m.os,m.tape,m.output,m.sealed,λi z k=> ?_,λi j a b hij ha hb=> ?_,λi z k x hx=> ?_,m.base⟩
  ·cases i with
   |zero=>
    simp at k;subst k
    exact hok.2 ⟨λi h hi=>m.items i h (hl i h hi),λi j a b hij ha hb=>m.disj i j a b hij (hl i a ha) (hl j b hb)⟩
   |succ i=>exact m.items _ z (hr i z (by simpa using k))
  ·cases i with
   |zero=>
    simp at ha;subst ha
    cases j with
    |zero=>omega
    |succ j=>
     intro x hx hx'
     obtain⟨k,h,hk,hxh⟩:=(hf x).1 hx
     have hkl:=(List.getElem?_eq_some_iff.1 hk).1
     exact m.disj k (l.length+j) h b (by omega) (hl k h hk) (hr j b (by simpa using hb)) x hxh hx'
   |succ i=>
    have ha':=hr i a (by simpa using ha)
    cases j with
    |zero=>
     simp at hb;subst hb
     intro x hx hx'
     obtain⟨k,h,hk,hxh⟩:=(hf x).1 hx'
     have hkl:=(List.getElem?_eq_some_iff.1 hk).1
     exact m.disj (l.length+i) k a h (by omega) ha' (hl k h hk) x hx hxh
    |succ j=>exact m.disj (l.length+i) (l.length+j) a b (by omega) ha' (hr j b (by simpa using hb))
  ·cases i with
   |zero=>
    simp at k;subst k
    obtain⟨k,h,hk,hxh⟩:=(hf x).1 hx
    exact m.apart k h (hl k h hk) x hxh
   |succ i=>exact m.apart _ z (hr i z (by simpa using k)) x hx
theorem Mem.deep {v:Value}{t1 t2:TypeId}{rows:List (Value×List Value)}:Mem W G w (.deep v t1 t2 rows::H)↔Mem W G w (parts v t1 t2 rows++H):=by
 refine Mem.group (λx=> ?_) ?_
 ·show x∈(parts v t1 t2 rows).flatMap Itm.foot0↔_
  rw[List.mem_flatMap]
  constructor
  ·rintro⟨h,hh,hx⟩
   obtain⟨i,hi,he⟩:=List.getElem_of_mem hh
   have hi':(parts v t1 t2 rows)[i]? =some h:=by simp[hi,he]
   exact⟨i,h,hi',by rw[(Cy hi').1];exact hx⟩
  ·rintro⟨i,h,hi,hx⟩
   exact⟨h,List.mem_of_getElem? hi,by rw[←(Cy hi).1];exact hx⟩
 ·constructor
  ·rintro⟨h1,h2⟩
   exact⟨λi h hi=>((Cy hi).2 w).2 (h1 i h hi),λi j a b hij ha hb=>by rw[(Cy ha).1,(Cy hb).1];exact h2 i j a b hij ha hb⟩
  ·rintro⟨h1,h2⟩
   exact⟨λi h hi=>((Cy hi).2 w).1 (h1 i h hi),λi j a b hij ha hb=>by rw[←(Cy ha).1,←(Cy hb).1];exact h2 i j a b hij ha hb⟩
end
def Ow2 {α:Type}(R:Rep α)(t1 t2:TypeId)(G:GH)(it:Itm)(v:Value)(xs:List (List α)):Prop:=
 ∃rows:List (Value×List Value),it= .deep v t1 t2 rows∧rows.length=xs.length∧∀(i:Nat) (r:Value×List Value) (x:List α),rows[i]? =some r→xs[i]? =some x→All2 (R G) r.2 x
section
variable {α : Type} {R : Rep α} {t1 t2 : TypeId} {W w : World} {G : GH} {it : Itm} {H : List Itm} {v : Value} {xs : List (List α)}
theorem Ow2.mono (hR:DA R){G':GH}(hG:GLe G G')(h:Ow2 R t1 t2 G it v xs):Ow2 R t1 t2 G' it v xs:=by
 obtain⟨rows,h1,h2,h3⟩:=h
 exact⟨rows,h1,h2,λi r x hr hx=>(h3 i r x hr hx).mono (λv x=>hR G G' v x hG)⟩
theorem Ow2.outer {G':GH}(h:Ow2 R t1 t2 G it v xs){j:Nat}(m:Mem W G' w H)(hj:H[j]? =some it):∃rows,it= .deep v t1 t2 rows∧rows.length=xs.length∧w.ownsRow 0 t1 1 v xs.length (rows.map (·.1)):=by
 obtain⟨rows,rfl,h2,_⟩:=h
 refine⟨rows,rfl,h2,?_⟩
 have:=(m.items j _ hj).1 0 _ rfl
 rw[←h2];exact this
theorem Ow2.len {G':GH}(h:Ow2 R t1 t2 G it v xs){j:Nat}(m:Mem W G' w H)(hj:H[j]? =some it):
  ∃a c,v= .slice a xs.length c∧xs.length≤c∧c≤maxLen:=by
 obtain⟨rows,rfl,h2,this⟩:=h.outer m hj
 rcases this.2 with⟨h1,h2⟩|⟨g,cap,cur,h1,_,_,h2,h3,_⟩
 ·exact⟨none,0,by rw[h1,h2],by omega,by simp[maxLen]⟩
 ·exact⟨_,cap,h1,h2,h3⟩
theorem Ow2.cells (j:Nat)(m:Mem W G w H)(h:Ow2 R t1 t2 G it v xs)(hj:H[j]? =some it):v.cells= #[v]:=by
 obtain⟨a,c,rfl,_⟩:=h.len m hj;rfl
theorem Ow2.one1 (j:Nat)(m:Mem W G w H)(h:Ow2 R t1 t2 G it v xs)(hj:H[j]? =some it):v.oneCell'=true:=by
 obtain⟨a,c,rfl,_⟩:=h.len m hj;rfl
theorem rsl_of_row {G':GH}{β:Type}{S:Rep β}{t:TypeId}{v:Value}{n:Nat}{vs:List Value}{ys:List β}(hn:n=ys.length)(this:w.ownsRow 0 t 1 v n vs)(hg:∀x∈v.ownBlock.toList,G' x=w.heap[x]?)(hA:All2 (S G') vs ys):RSl S G' v ys:=by
 subst hn
 refine⟨vs,hA,?_⟩
 rcases this.2 with⟨e1,e2⟩|⟨g,cap,cur,e1,_,eh,e2,e3,e4,e5⟩
 ·exact .inl ⟨e1,List.eq_nil_of_length_eq_zero e2⟩
 ·refine .inr ⟨⟨g,0,none⟩,cap,e1,e2,e3,λj c hc=>⟨rfl,cur,t,(0,0),?_,?_⟩⟩
  ·rw[hg g (by rw[e1];simp[Value.ownBlock]),eh]
  ·rw[←e5,List.getElem?_take] at hc
   split at hc
   ·simpa using hc
   ·cases hc
theorem Ow2.read (hR:DA R){G':GH}(hG:GLe G G')(h:Ow2 R t1 t2 G it v xs)(ok:it.ok w)(hg:∀x∈it.foot,G' x=w.heap[x]?):RSl (RSl R) G' v xs:=by
 obtain⟨rows,rfl,h2,h3⟩:=h
 have hf:∀(i:Nat) (p:Itm),(parts v t1 t2 rows)[i]? =some p→∀x∈p.foot0,G' x=w.heap[x]? :=λi p hp x hx=>hg x (List.mem_flatMap.2 ⟨p,List.mem_of_getElem? hp,hx⟩)
 refine rsl_of_row h2 (ok.1 0 _ rfl) (hf 0 _ rfl) ⟨by simp[h2],λi c x hc hx=> ?_⟩
 rw[List.getElem?_map] at hc
 cases hr:rows[i]? with
 |none=>simp[hr] at hc
 |some r=>
  simp[hr] at hc;subst hc
  have hp:(parts v t1 t2 rows)[i+1]? =some (Cm t2 r):=by simp[parts,hr]
  have hA:=(h3 i r x hr hx).mono (λv x=>hR G G' v x hG)
  exact rsl_of_row hA.1 (ok.1 _ _ hp) (hf _ _ hp) hA
theorem Ow2.stamp (hR:DA R)(h:Ow2 R t1 t2 G it v xs)(m:Mem W G w (it::H)):∃G',GLe G G'∧Mem W G' w H∧RSl (RSl R) G' v xs:=by
 obtain⟨G',h1,h2,h3,_⟩:=m.stamp
 exact⟨G',h1,h2,h.read hR h1 (m.items 0 it rfl) h3⟩
theorem Ow2.nil {α:Type}(R:Rep α)(t1 t2:TypeId){W w:World}{G:GH}{H:List Itm}(m:Mem W G w H):
  ∃it,Mem W G w (it::H)∧Ow2 R t1 t2 G it (.slice none 0 0) []:=
 ⟨.deep (.slice none 0 0) t1 t2 [],Mem.deep.2 (m.nilrow t1 1),[],rfl,rfl,by simp⟩
theorem Ow2.lend (hR:DA R)(h:Ow2 R t1 t2 G it v xs)(m:Mem W G w (it::H)):
  ∃G',GLe G G'∧Mem W G' w H∧RSl (RSl R) G' v xs∧
   ∀G'' w' H',GLe G' G''→Mem W G'' w' H'→∃G₃,GLe G G₃∧Mem W G₃ w' (it::H')∧Ow2 R t1 t2 G₃ it v xs:=by
 obtain⟨G',h1,h2,h3,h4⟩:=m.stamp
 have hok:it.ok w:=m.items 0 it (by simp)
 have hap:∀x∈it.foot,G x=none:=m.apart 0 it (by simp)
 have hlt:=Itm.lt hok
 refine⟨G',h1,h2,h.read hR h1 hok h3,λG'' w' H' hle m'=> ?_⟩
 have hx:∀x∈it.foot,G'' x=w.heap[x]? :=λx hx=>by
  have hl:=hlt x hx
  have:G' x=some w.heap[x]:=by rw[h3 x hx];simp[hl]
  rw[hle x _ this];simp[hl]
 refine⟨_,λb o k=> ?_,m'.unstamp hx hok (λi z hz x hxz hxi=> ?_) (λx hxi=> ?_),?_⟩
 ·have:b∉it.foot:=λhx=>by rw[hap b hx] at k;cases k
  simp[this,hle b o (h1 b o k)]
 ·have h5:=m'.apart i z hz x hxz
  have hl:=hlt x hxi
  rw[hx x hxi] at h5
  simp[hl] at h5
 ·cases hg:W.heap[x]? with
  |none=>rfl
  |some o=>have h5:=m.base x o hg;rw[hap x hxi] at h5;cases h5
 ·refine h.mono hR (λb o k=> ?_)
  have:b∉it.foot:=λhx=>by rw[hap b hx] at k;cases k
  simp[this,hle b o (h1 b o k)]
theorem Ow2.lendCall {P:Program}{g:FuncId}{args:Array Value}(hR:DA R){Q:GH→List Itm→Value→Prop}(j:Nat)
  (h:Ow2 R t1 t2 G it v xs) (m:Mem W G w H) (hj:H[j]? =some it)
  (hc:∀G₁,GLe G G₁→Mem W G₁ w (H.eraseIdx j)→RSl (RSl R) G₁ v xs→Calls P g args w (Res W G₁ (H.eraseIdx j) Q)) (hQ:∀G G' Ho v,Q G Ho v→Q G' Ho v):Calls P g args w (Res W G H Q):=by
 obtain⟨G₁,h1,m1,h2,back⟩:=h.lend hR (m.front j hj)
 refine(hc G₁ h1 m1 h2).mono λe w' ⟨r,he,G₂,Ho,h3,m2,hq⟩=> ?_
 obtain⟨G₃,h4,m3,_⟩:=back G₂ w' _ h3 m2
 refine⟨r,he,G₃,Ho,h4,?_,hQ _ _ _ _ hq⟩
 have hl:j<H.length:=(List.getElem?_eq_some_iff.1 hj).1
 have m4:=m3.back (Ho.length+j) (by simp[List.length_eraseIdx,hl];omega)
 have e:(Ho++H.eraseIdx j).take (Ho.length+j)++it::(Ho++H.eraseIdx j).drop (Ho.length+j)=Ho++H:=by
  rw[List.take_length_add_append,List.drop_length_add_append,List.append_assoc]
  congr 1
  rw[DP H j it hl]
  apply List.ext_getElem?
  intro k
  rw[List.getElem?_set]
  split
  ·rename_i e;subst e;simp[hl] at hj ⊢;exact hj.symm
  ·rfl
 rw[e] at m4
 exact m4
end
theorem Ow2.free {α:Type}{R:Rep α}(hR:Free R){t1 t2:TypeId}{G:GH}(G':GH){it:Itm}{v:Value}{xs:List (List α)}(h:Ow2 R t1 t2 G it v xs):Ow2 R t1 t2 G' it v xs:=by
 obtain⟨rows,h1,h2,h3⟩:=h
 exact⟨rows,h1,h2,λi r x hr hx=>(h3 i r x hr hx).mono (λv x=>hR G G' v x)⟩
def RawS :Rep Value:=λ_ v x=>v=x∧v.oneCell'=true∧v.cells= #[v]
theorem RawS.one :One RawS:=λ_ v x h=>h.2
theorem raw_of {vs:List Value}{G:GH}(h:∀c∈vs,c.oneCell'=true∧c.cells= #[c]):All2 (RawS G) vs vs:=
 ⟨rfl,λi c x h1 h2=>by rw[h1] at h2;cases h2;exact⟨rfl,h c (List.mem_of_getElem? h1)⟩⟩
theorem raw_eq {vs xs:List Value}{G:GH}(h:All2 (RawS G) vs xs):vs=xs:=by
 apply List.ext_getElem h.1
 intro i h1 h2
 exact(h.2 i vs[i] xs[i] (by simp[h1]) (by simp[h2])).1
theorem Mem.pick {W w:World}{G:GH}{A H:List Itm}{x:Itm}(m:Mem W G w (A++x::H))(i:Nat)(hi:i<A.length):Mem W G w (A.set i x++H):=by
 refine m.inj (λk=>if k=i then A.length else if k<A.length then k else k+1) (by intro a b;split<;>split<;>(repeat' split)<;>omega) ?_
 intro k z hz
 by_cases hk:k<A.length
 ·rw[List.getElem?_append_left (by simpa using hk),List.getElem?_set] at hz
  by_cases he:k=i
  ·subst he
   simp[hk] at hz;subst hz
   simp
  ·rw[if_neg (λe=>he e.symm)] at hz
   rw[if_neg he,if_pos hk,List.getElem?_append_left hk];exact hz
 ·rw[List.getElem?_append_right (by simpa using hk)] at hz
  rw[if_neg (by omega),if_neg hk,List.getElem?_append_right (by omega)]
  rw[show k+1-A.length=(k-A.length)+1 by omega]
  simpa using hz
theorem inner_of {α:Type}{R:Rep α}{t2:TypeId}{G:GH}{it:Itm}{h:Value}{e:List α}(k:Ow R t2 G it h e):∃vs,it=Cm t2 (h,vs)∧All2 (R G) vs e:=by
 obtain⟨vs,rfl,hA⟩:=k
 exact⟨vs,by simp[Cm,hA.1],hA⟩
theorem one_of_row {w:World}{t:TypeId}{v:Value}{n:Nat}{vs:List Value}(h:w.ownsRow 0 t 1 v n vs):v.oneCell'=true∧v.cells= #[v]:=by
 rcases h.2 with⟨rfl,_⟩|⟨g,cap,cur,rfl,_⟩<;>exact⟨rfl,rfl⟩
theorem heads_one {W w:World}{G:GH}{H:List Itm}{v:Value}{t1 t2:TypeId}{rows:List (Value×List Value)}(m:Mem W G w (parts v t1 t2 rows++H)):∀c∈rows.map (·.1),c.oneCell'=true∧c.cells= #[c]:=by
 intro c hc
 obtain⟨r,hr,rfl⟩:=List.mem_map.1 hc
 obtain⟨i,hi,he⟩:=List.getElem_of_mem hr
 have hp:(parts v t1 t2 rows++H)[i+1]? =some (Cm t2 r):=by
  rw[List.getElem?_append_left (by simp[parts];omega)];simp[parts,hi,he]
 exact one_of_row (m.items _ _ hp)
theorem Fx {W w:World}{G:GH}{H:List Itm}{v:Value}{t1 t2:TypeId}{rows:List (Value×List Value)}(m:Mem W G w (parts v t1 t2 rows++H)):Ow RawS t1 G (.row v t1 1 rows.length (rows.map (·.1))) v (rows.map (·.1)):=
 ⟨rows.map (·.1),by simp,raw_of (heads_one m)⟩
section
variable {P : Program} {ops : Array Oper} {rest : List Oper} {n r : Bn} {x : List (Nat × Bn)} {a : Act} {w W : World} {G : GH} {H : List Itm} {N : Nat} {L : Bw}
variable {d : Nat} {t : TypeId} {pos : String} {af : Array Edge} {α : Type} {R : Rep α} {t1 t2 : TypeId} {xs : List (List α)} {v : Value}
theorem l_own2_len {it:Itm}{u e:Nat}{xo:Operand}(j:Nat)(m:Mem W G w H)(h:Ow2 R t1 t2 G it v xs)(hj:H[j]? =some it)
  (hu:P.underlying u=some (.slice e)) (f:Fr a N L) (hN:Nat.blt d N=true) (hx:AN L xo=some v)
  (q:∀a',Fr a' N ((d,.int .i64 (xs.length:Int))::L)→wpList P ops (Qk n x r) rest a' w):
  wpList P ops (Qk n x r) (⟨some d,.call {callee:= .builtin .len,args:= #[xo],argTypes:= #[u]},t,pos,af,none⟩::rest) a w:=by
 obtain⟨b,c,rfl,_⟩:=h.len m hj
 exact Ce f rfl rfl hN (D4 (f.eval hx) hu) q
theorem EU {u bytes:Nat}{z:Value}{dp inn src:Itm}{y h:Value}{e:List α}{zs:List (List α)}{s xo:Operand}(m:Mem W G w (dp::inn::src::H))(hd:Ow2 R t1 t2 G dp v xs)(hi:Ow R t2 G inn h e)(hs0:Ow RawS t1 G src y [h])
  (hu:SlT P u t1 1 bytes z) (hzc:z.cells.size=1) (hb:bytes≤32768) (f:Fr a N L) (hN:Nat.blt d N=true) (hs:AN L s=some v) (hx:AN L xo=some y) (hz:AU xs [e]=some zs)
  (k:∀dp' v' w' a',Mem W G w' (dp'::H)→Ow2 R t1 t2 G dp' v' zs→Fr a' N ((d,v')::L)→wpList P ops (Qk n x r) rest a' w'):
  wpList P ops (Qk n x r) (⟨some d,.call {callee:= .builtin .append,args:= #[s,xo],argTypes:= #[u,u]},t,pos,af,none⟩::rest) a w:=by
 obtain⟨rows,rfl,hl,hA⟩:=hd
 obtain⟨vs,rfl,hiA⟩:=inner_of hi
 have m2:=Mem.deep.1 m
 have ho:=Fx m2
 have hsrc:∃vs,Src w y [h].length vs∧All2 (RawS G) vs [h]:=Ow.src (j:=2) hs0 m rfl
 unfold AU at hz
 split at hz
 ·rename_i hle
  obtain rfl:=Option.some.inj hz
  refine Bm RawS.one 0 m2 ho rfl hu hzc hb f hN hs hx (ys:=[h]) (zs:=rows.map (·.1)++[h]) hsrc (by simp[AU] at hle ⊢;omega) (λit' v' w' a' m3 ho' f'=> ?_)
  obtain⟨vs',rfl,hR⟩:=ho'
  obtain rfl:=raw_eq hR
  have e1:(parts v t1 t2 rows++Cm t2 (h,vs)::src::H).set 0 (.row v' t1 1 (rows.map (·.1)++[h]).length (rows.map (·.1)++[h]))=parts v' t1 t2 (rows++[(h,vs)])++src::H:=by
   simp[parts]
  rw[e1] at m3
  have m4:Mem W G w' (.deep v' t1 t2 (rows++[(h,vs)])::src::H):=Mem.deep.2 m3
  refine k _ v' w' a' (m4.eraseAt 1) ⟨_,rfl,by simp[hl],λi r0 x0 hr hx0=> ?_⟩ f'
  by_cases hi:i<rows.length
  ·rw[List.getElem?_append_left hi] at hr
   rw[List.getElem?_append_left (by omega)] at hx0
   exact hA i r0 x0 hr hx0
  ·rw[List.getElem?_append_right (by omega)] at hr
   rw[List.getElem?_append_right (by omega)] at hx0
   have hi0:i=rows.length:=by
    have:=(List.getElem?_eq_some_iff.1 hr).1
    simp at this;omega
   subst hi0
   simp at hr;subst hr
   rw[hl] at hx0
   simp at hx0;subst hx0
   exact hiA
 ·cases hz
theorem F8 {u:Nat}{dp inn:Itm}{p h:Value}{e y:List α}{i:Int}{xo yo:Operand}(m:Mem W G w (dp::inn::H))(hd:Ow2 R t1 t2 G dp v xs)(hi:Ow R t2 G inn h e)
  (hz:∀w,(sizeOf u).run P w= .ok 1 w) (f:Fr a N L) (hx:AN L xo=some p) (hy:AN L yo=some h) (ha:Dx v p i) (he:idx xs i=some y)
  (q:∀dp' w',Mem W G w' (dp'::H)→Ow2 R t1 t2 G dp' v (xs.set i.toNat e)→wpList P ops (Qk n x r) rest a w'):
  wpList P ops (Qk n x r) (⟨none,.store u xo yo,t,pos,af,none⟩::rest) a w:=by
 obtain⟨rows,rfl,hl,hA⟩:=hd
 have h1:h.cells= #[h]:=Ow.cells 1 m hi rfl
 have h2:h.oneCell'=true:=Ow.one1 1 m hi rfl
 obtain⟨vs,rfl,hiA⟩:=inner_of hi
 have m2:=Mem.deep.1 m
 have ho:=Fx m2
 obtain⟨g0,g1,g2⟩:=CG he
 have g1':i.toNat<rows.length:=by omega
 refine AR 0 m2 ho rfl hz f hx hy ha (y:=(rows[i.toNat]).1) (y':=h) ?_ h1 h2 ⟨rfl,h2,h1⟩ (λit' w' m3 ho'=> ?_)
 ·unfold idx;rw[if_pos g0];simp[g1']
 ·obtain⟨vs',rfl,hR⟩:=ho'
  obtain rfl:=raw_eq hR
  have e0:(parts v t1 t2 rows++Cm t2 (h,vs)::H).set 0 (.row v t1 1 ((rows.map (·.1)).set i.toNat h).length ((rows.map (·.1)).set i.toNat h))=(.row v t1 1 rows.length ((rows.map (·.1)).set i.toNat h)::rows.map (Cm t2))++Cm t2 (h,vs)::H:=by
   simp[parts]
  rw[e0] at m3
  have m4:=m3.pick (i.toNat+1) (by simp;omega)
  have e1:(Itm.row v t1 1 rows.length ((rows.map (·.1)).set i.toNat h)::rows.map (Cm t2)).set (i.toNat+1) (Cm t2 (h,vs))=parts v t1 t2 (rows.set i.toNat (h,vs)):=by
   simp[parts,List.map_set]
  rw[e1] at m4
  refine q _ w' (Mem.deep.2 m4) ⟨_,rfl,by simp[hl],λk r0 x0 hr hx0=> ?_⟩
  rw[List.getElem?_set] at hr hx0
  by_cases hk:i.toNat=k
  ·subst hk
   simp[g1'] at hr
   rw[if_pos rfl,if_pos (by omega)] at hx0
   subst hr;cases hx0
   exact hiA
  ·rw[if_neg hk] at hr hx0
   exact hA k r0 x0 hr hx0
theorem Dj {it:Itm}{u e bytes:Nat}{z:Value}{xo io:Operand}{k:IntKind}{i:Int}{y:List α}(j:Nat)(m:Mem W G w H)(h:Ow2 R t1 t2 G it v xs)(hj:H[j]? =some it)
  (hu:SlT P u e 1 bytes z) (f:Fr a N L) (hN:Nat.blt d N=true) (hx:AN L xo=some v) (hi:AN L io=some (.int k i)) (he:idx xs i=some y)
  (q:∀p a',Dx v p i→Fr a' N ((d,p)::L)→wpList P ops (Qk n x r) rest a' w):
  wpList P ops (Qk n x r) (⟨some d,.indexAddr u xo io,t,pos,af,none⟩::rest) a w:=by
 obtain⟨g0,g1,_⟩:=CG he
 obtain⟨rows,rfl,hl,_⟩:=h
 have m2:=Mem.deep.1 (m.front j hj)
 have hlt:i.toNat<rows.length:=by omega
 exact Bq 0 m2 (Fx m2) rfl hu f hN hx hi (y:=(rows[i.toNat]'hlt).1) (by unfold idx;rw[if_pos g0];simp[hlt]) q
def Head (it:Itm)(i:Int)(c:Value):Prop:=∃v t1 t2 rows r,it= .deep v t1 t2 rows∧rows[i.toNat]? =some r∧c=r.1
theorem CE {it:Itm}{u:Nat}{p:Value}{xo:Operand}{i:Int}{y:List α}(j:Nat)(m:Mem W G w H)(h:Ow2 R t1 t2 G it v xs)(hj:H[j]? =some it)
  (hp:B8 P u) (f:Fr a N L) (hN:Nat.blt d N=true) (hx:AN L xo=some p) (ha:Dx v p i) (he:idx xs i=some y)
  (q:∀c a',Head it i c→Fr a' N ((d,c)::L)→wpList P ops (Qk n x r) rest a' w):
  wpList P ops (Qk n x r) (⟨some d,.load u xo,t,pos,af,none⟩::rest) a w:=by
 obtain⟨g0,g1,_⟩:=CG he
 obtain⟨rows,rfl,hl,_⟩:=h
 have m2:=Mem.deep.1 (m.front j hj)
 have hlt:i.toNat<rows.length:=by omega
 exact BW 0 m2 (Fx m2) rfl hp f hN hx ha (y:=(rows[i.toNat]'hlt).1) (by unfold idx;rw[if_pos g0];simp[hlt]) (λc a' hc f'=>q c a' ⟨v,t1,t2,rows,rows[i.toNat],rfl,by simp[hlt],hc.1⟩ f')
end
theorem DD {A H:List Itm}{i:Nat}(hi:i<A.length):(A++H).eraseIdx i=A.eraseIdx i++H:=List.eraseIdx_append_of_lt_length hi H
theorem Ow2.of_empty {α:Type}(R:Rep α){t1:TypeId}(t2:TypeId){W w:World}{G:GH}{H:List Itm}{it:Itm}{v:Value}(m:Mem W G w (it::H))(h:Ow RawS t1 G it v []):∃it',Mem W G w (it'::H)∧Ow2 R t1 t2 G it' v []:=by
 obtain⟨vs,rfl,hA⟩:=h
 obtain rfl:=raw_eq hA
 exact⟨.deep v t1 t2 [],Mem.deep.2 m,[],rfl,rfl,by simp⟩
theorem erase_right {α:Type}(Ho H:List α)(j:Nat):(Ho++H).eraseIdx (Ho.length+j)=Ho++H.eraseIdx j:=by
 rw[List.eraseIdx_append_of_length_le (by omega)]
 simp
theorem Ow.lendCallR {P:Program}{g:FuncId}{args:Array Value}{α:Type}{R:Rep α}(hR:DA R){t:TypeId}{W w:World}{G:GH}{it:Itm}{Ho H:List Itm}{v:Value}{xs:List α}{Q:GH→List Itm→Value→Prop}(j:Nat)
  (h:Ow R t G it v xs) (m:Mem W G w (Ho++H)) (hj:H[j]? =some it)
  (hc:∀G₁,GLe G G₁→Mem W G₁ w (Ho++H.eraseIdx j)→RSl R G₁ v xs→Calls P g args w (Res W G₁ (Ho++H.eraseIdx j) Q)) (hQ:∀G G' Ho v,Q G Ho v→Q G' Ho v):Calls P g args w (Res W G (Ho++H) Q):=
 Ow.lendCall hR (Ho.length+j) h m (lookRight hj) (by rw[erase_right];exact hc) hQ
end Go.Sx

namespace Go.Sx
def Fc :ByteArray:=⟨#[0,1,1,2,1,2,2,3,1,2,2,3,2,3,3,4,1,2,2,3,2,3,3,4,2,3,3,4,3,4,4,5,1,2,2,3,2,3,3,4,2,3,3,4,3,4,4,5,2,3,3,4,3,4,4,5,3,4,4,5,4,5,5,6,1,2,2,3,2,3,3,4,2,3,3,4,3,4,4,5,2,3,3,4,3,4,4,5,3,4,4,5,4,5,5,6,2,3,3,4,3,4,4,5,3,4,4,5,4,5,5,6,3,4,4,5,4,5,5,6,4,5,5,6,5,6,6,7,1,2,2,3,2,3,3,4,2,3,3,4,3,4,4,5,2,3,3,4,3,4,4,5,3,4,4,5,4,5,5,6,2,3,3,4,3,4,4,5,3,4,4,5,4,5,5,6,3,4,4,5,4,5,5,6,4,5,5,6,5,6,6,7,2,3,3,4,3,4,4,5,3,4,4,5,4,5,5,6,3,4,4,5,4,5,5,6,4,5,5,6,5,6,6,7,3,4,4,5,4,5,5,6,4,5,5,6,5,6,6,7,4,5,5,6,5,6,6,7,5,6,6,7,6,7,7,8]⟩
def ET (s:ByteArray)(i:Int):Option Int:=if 0≤i then(s[i.toNat]?).map (λb=>(b.toNat:Int)) else none
theorem Gq {P:Program}{ρ:Operand→Value}{w:World}{d:Option Tmp}{t:TypeId}{pos:String}{af:Array Edge}{gd:Option (Nat×Bool)}{u:TypeId}{x io:Operand}{s:ByteArray}{k:IntKind}{i y:Int}
  (hx:ρ x= .string s) (hi:ρ io= .int k i) (hu:P.underlying u=some .string) (h:ET s i=some y):
  (execOp ρ ⟨d,.index u x io,t,pos,af,gd⟩).run P w= .ok (.value (.int .u8 y)) w:=by
 unfold ET at h
 split at h
 ·rename_i h0
  cases hb:s[i.toNat]? with
  |none=>rw[hb] at h;cases h
  |some b=>
   rw[hb] at h
   simp only[Option.map_some,Option.some.injEq] at h
   subst h
   simp[execOp,hx,hi,Instr.index,asIntOf,run_underlying hu,h0,hb]
 ·cases h
section
variable {P : Program} {ops : Array Oper} {rest : List Oper} {n r : Bn} {x : List (Nat × Bn)} {a : Act} {w W : World} {N : Nat} {L : Bw} {d : Nat} {t : TypeId} {pos : String} {af : Array Edge} {G : GH} {H : List Itm}
theorem Ff {g:FuncId}{fo:Operand}{cs:List Value}{args:List Operand}{tys:Array TypeId}{vs:List Value}{Q:GH→List Itm→Value→Prop}(f:Fr a N L)
  (hN:Nat.blt d N=true) (hfo:AN L fo=some (.func (.func g) #[] cs.toArray)) (hargs:evalAll L args=some vs) (hcall:∀(ars:Array Value) (w:World),(callFunc g ars).run P w= .ok (.enter g ars) w)
  (hc:Calls P g (vs++cs).toArray w (Res W G H Q))
  (k:∀v G' Ho w',GLe G G'→Mem W G' w' (Ho++H)→Q G' Ho v→∀a',Fr a' N ((d,v)::L)→wpList P ops (Qk n x r) rest a' w'):
  wpList P ops (Qk n x r) (⟨some d,.call {callee:= .value fo,args:=args.toArray,argTypes:=tys},t,pos,af,none⟩::rest) a w:=
 l_resv f hN hfo hargs hcall (by simpa using hc) k
end
end Go.Sx

namespace Go.Sx
abbrev iv (x:Int):Value:= .int .i64 x
abbrev pb (b:Nat):Value:= .pointer (some ⟨b,0,none⟩)
abbrev sn :Value:= .slice none 0 0
abbrev LI :=List Int
abbrev LL :=List (List Int)
abbrev R0 :Rep Int:=RI .i64
abbrev R1 :Rep (List Int):=RSl (RI .i64)
abbrev R2 :Rep (List (List Int)):=RSl (RSl (RI .i64))
abbrev Fw (n:Nat)(cs:Array Value):Value:= .func (.func n) #[] cs
abbrev Fv (n:Nat):Value:= .func (.func n) #[] #[]
theorem cT {α:Type}{a b:α}:cond true a b=a:=rfl
theorem cF {α:Type}{a b:α}:cond false a b=b:=rfl
theorem lb {n m:Nat}(h:Nat.ble n m=true):n≤m:=Nat.le_of_ble_eq_true h
abbrev ib (b:Nat)(t:TypeId)(cs:List Value):Itm:= .box b t cs
theorem bs {α β : Type} {a : α} {f : α → Option β} : (some a).bind f = f a := rfl
theorem wq (i:Nat)(h:i<4611686018427387904:=by omega):IntKind.i64.wrap ((i:Int)+1)=((i+1:Nat):Int):=by
 simp[IntKind.wrap,IntKind.signed,IntKind.bits];omega
theorem Bd {α β:Type}{o:Option α}{f:α→Option β}{y:β}{P:Prop}(h:o.bind f=some y)(k:∀x,o=some x→f x=some y→P):P:=by
 obtain⟨x,h1,h2⟩:=bind_some h
 exact k x h1 h2
theorem sj {α:Type}{x y:α}(h:some x=some y):x=y:=Option.some.inj h
theorem Z {α:Sort _}{a:α}:a=a:=rfl
def sbl (L:Bw):Bw→List (Option Value)
 |[]=>[]
 |(k,_)::r=>look L k::sbl L r
def sov :Bw→List (Option Value)
 |[]=>[]
 |(_,v)::r=>some v::sov r
theorem Mem.fr {W w:World}{G:GH}{H:List Itm}(m:Mem W G w H)(j:Nat){x:Itm}(h:H[j]? =some x:=by rfl):Mem W G w (x::H.eraseIdx j):=m.front j h
theorem Mem.dp {W w : World} {G : GH} {H : List Itm} (m : Mem W G w H) (k : Nat) : Mem W G w (H.drop k) := Mem.drop (H' := H.take k) (by rw [List.take_append_drop]; exact m)
theorem sub_of {L:Bw}:∀{L':Bw},sbl L L'=sov L'→Sub L' L
 |[],_=>trivial
 |(k,v)::r,h=>by
  unfold sbl sov at h
  injection h with h1 h2
  exact⟨h1,sub_of h2⟩
theorem Fr.k {a:Act}{N:Nat}{L L':Bw}(f:Fr a N L)(h:sbl L L'=sov L'):Fr a N L':=f.weak (sub_of h)
theorem Fr.g {a:Act}{N:Nat}{L:Bw}(f:Fr a N L){s:Nat}{v:Value}(h:look L s=some v):a.tmps.getD s undef=v∧True:=⟨f.get s v h,trivial⟩
theorem Fr.d {a:Act}{N:Nat}{L:Bw}(f:Fr a N L):a.defers=[]:=f.defers
theorem Fr.e {a:Act}{N:Nat}{L:Bw}{x:Operand}{v:Value}(f:Fr a N L)(h:AN L x=some v):a.eval x=v:=f.eval h
section
variable {P : Program} {ops : Array Oper} {rest : List Oper} {n r : Bn} {x : List (Nat × Bn)} {a : Act} {w : World} {N : Nat} {L : Bw} {d : Nat} {t : TypeId} {pos : String} {af : Array Edge} {v : Value} {xo yo : Operand}
theorem Ab (f:Fr a N L)(hx:AN L xo=some v)(k:∀a',Fr a' N ((d,v)::L)→wpList P ops (Qk n x r) rest a' w)(hN:Nat.blt d N=true:=by rfl):
  wpList P ops (Qk n x r) (⟨some d,.move xo,t,pos,af,none⟩::rest) a w:=Ce f rfl rfl hN (BB (f.eval hx)) k
theorem Ac (f:Fr a N L)(hx:AN L xo=some v)(k:∀a',Fr a' N ((d,v)::L)→wpList P ops (Qk n x r) rest a' w)(hN:Nat.blt d N=true:=by rfl):
  wpList P ops (Qk n x r) (⟨some d,.assign xo,t,pos,af,none⟩::rest) a w:=Ce f rfl rfl hN (Cf (f.eval hx)) k
theorem Ah {op:BinOp}{k:IntKind}{u:TypeId}{m q:Int}(f:Fr a N L)(hx:AN L xo=some (.int k m))(hy:AN L yo=some (.int k q))(h:∀w,(binOp op u (.int k m) (.int k q)).run P w= .ok v w)
  {u':TypeId} (k:∀a',Fr a' N ((d,v)::L)→wpList P ops (Qk n x r) rest a' w) (hN:Nat.blt d N=true:=by rfl):wpList P ops (Qk n x r) (⟨some d,.binOp op u xo yo u',t,pos,af,none⟩::rest) a w:=
 Ce f rfl rfl hN (A8 (f.eval hx) (f.eval hy) h) k
theorem l_o {op:Op}(f:Fr a N L)(hr:(execOp a.eval ⟨some d,op,t,pos,af,none⟩).run P w= .ok (.value v) w)
  (k:∀a',Fr a' N ((d,v)::L)→wpList P ops (Qk n x r) rest a' w) (hN:Nat.blt d N=true:=by rfl):wpList P ops (Qk n x r) (⟨some d,op,t,pos,af,none⟩::rest) a w:=
 Ce f rfl rfl hN hr k
theorem gs_of {j:Nat}{b:Value}(h:((ops[j]?).bind (·.dst)).bind (look L)=some b):∃s,(ops[j]?).bind (·.dst)=some s∧look L s=some b:=Option.bind_eq_some_iff.1 h
theorem AC {op:Op}{j:Nat}{b c:Bool}(f:Fr a N L)(hc:c= !b)(k:∀a',Fr a' N ((d,undef)::L)→wpList P ops (Qk n x r) rest a' w)
  (hs:((ops[j]?).bind (·.dst)).bind (look L)=some (.bool c):=by rfl) (hN:Nat.blt d N=true:=by rfl):
  wpList P ops (Qk n x r) (⟨some d,op,t,pos,af,some (j,b)⟩::rest) a w:=by
 obtain⟨s,h1,h2⟩:=gs_of hs
 exact l_not' f hN h1 h2 hc k
theorem AB {dst:Option Tmp}{op:Op}{j:Nat}{b c:Bool}(f:Fr a N L)(hc:c=b)(k:wpList P ops (Qk n x r) (⟨dst,op,t,pos,af,none⟩::rest) a w)
  (hs:((ops[j]?).bind (·.dst)).bind (look L)=some (.bool c):=by rfl):
  wpList P ops (Qk n x r) (⟨dst,op,t,pos,af,some (j,b)⟩::rest) a w:=by
 obtain⟨s,h1,h2⟩:=gs_of hs
 exact l_run f h1 h2 hc k
theorem Bu {b i:Nat}{s fi:Nat}{fs:Array Field}{fl:Field}{sz:Nat}(hs:P.underlying s=some (.struct fs))(hf:fs[fi]? =some fl)
  (hz:∀w,(sizeOf fl.type).run P w= .ok sz w) (f:Fr a N L) (hx:AN L xo=some (.pointer (some ⟨b,i,none⟩)))
  (k:∀a',Fr a' N ((d,.pointer (some ⟨b,i+fl.offset,none⟩))::L)→wpList P ops (Qk n x r) rest a' w) (hz0:sz≠0:=by decide) (hN:Nat.blt d N=true:=by rfl):
  wpList P ops (Qk n x r) (⟨some d,.fieldAddr s xo fi,t,pos,af,none⟩::rest) a w:=l_fieldAddr hs hf hz hz0 f hN hx k
theorem AI {W:World}{G:GH}{H:List Itm}{g:FuncId}{args:List Operand}{tys:Array TypeId}{vs:List Value}{Q:GH→List Itm→Value→Prop}(f:Fr a N L)
  (hargs:evalAll L args=some vs) (hcall:∀(ars:Array Value) (w:World),(callFunc g ars).run P w= .ok (.enter g ars) w)
  (hc:Calls P g vs.toArray w (Res W G H Q))
  (k:∀v G' Ho w',GLe G G'→Mem W G' w' (Ho++H)→Q G' Ho v→∀a',Fr a' N ((d,v)::L)→wpList P ops (Qk n x r) rest a' w') (hN:Nat.blt d N=true:=by rfl):
  wpList P ops (Qk n x r) (⟨some d,.call {callee:= .value (.func g),args:=args.toArray,argTypes:=tys},t,pos,af,none⟩::rest) a w:=l_res f hN hargs hcall hc k
theorem Bj {W:World}{G:GH}{H:List Itm}{g:FuncId}{args:List Operand}{tys:Array TypeId}{vs:List Value}{z:Value}(f:Fr a N L)
  (hargs:evalAll L args=some vs) (hcall:∀(ars:Array Value) (w:World),(callFunc g ars).run P w= .ok (.enter g ars) w)
  (hc:Calls P g vs.toArray w (Res W G H λ_ Ho v=>Ho=[]∧v=z))
  (k:∀G' w',GLe G G'→Mem W G' w' H→∀a',Fr a' N ((d,z)::L)→wpList P ops (Qk n x r) rest a' w') (hN:Nat.blt d N=true:=by rfl):
  wpList P ops (Qk n x r) (⟨some d,.call {callee:= .value (.func g),args:=args.toArray,argTypes:=tys},t,pos,af,none⟩::rest) a w:=
 l_res f hN hargs hcall hc λv G' Ho w' hl m hQ a' f'=>by obtain⟨rfl,rfl⟩:=hQ;exact k G' w' hl m a' f'
theorem BP {W : World} {G : GH} {H : List Itm} {g : FuncId} {args : List Operand} {tys : Array TypeId} {vs : List Value} {Q : GH → Itm → Value → Prop} (f : Fr a N L)
    (hargs : evalAll L args = some vs) (hcall : ∀ (ars : Array Value) (w : World), (callFunc g ars).run P w = .ok (.enter g ars) w)
    (hc : Calls P g vs.toArray w (Res W G H fun G' Ho v => ∃ r0 : Value, ∃ i0 : Itm, Ho = [i0] ∧ r0 = v ∧ Q G' i0 r0))
    (k : ∀ v it G' w', GLe G G' → Mem W G' w' (it :: H) → Q G' it v → ∀ a', Fr a' N ((d, v) :: L) → wpList P ops (Qk n x r) rest a' w') (hN : Nat.blt d N = true := by rfl) :
    wpList P ops (Qk n x r) (⟨some d, .call { callee := .value (.func g), args := args.toArray, argTypes := tys }, t, pos, af, none⟩ :: rest) a w :=
  l_res f hN hargs hcall hc fun v G' Ho w' hl m hQ a' f' => by obtain ⟨v, it, rfl, rfl, h⟩ := hQ; exact k v it G' w' hl m h a' f'
theorem Ae {id:Nat}{c:Code}{l:List Oper}(h:wpList P l.toArray (Qk (λa w=>c.wp P (Qk n x r) a w) x r) l a w):(Code.seq (.region id l.toArray false) c).wp P (Qk n x r) a w:=Ag (Aq h)
theorem Ay {id:Nat}{c:Code}{l:List Oper}{x':List (Nat×Bn)}{r':Bn}(h:wpList P l.toArray (Qk (λa w=>c.wp P (Qk n x r) a w) x r) l a w):wpList P ops (Qk (λa w=>(Code.seq (.region id l.toArray false) c).wp P (Qk n x r) a w) x' r') [] a w:=Aa (Ae h)
end
section
variable {P : Program} {ops : Array Oper} {nn r : Bn} {x : List (Nat × Bn)} {a : Act} {W : World} {T : Act → World → Prop} {H E : List Itm} {G : GH} {N fuel : Nat} {L : Bw} {listed : Array Bool} {d : Nat} {t : TypeId} {pos : String} {af : Array Edge} {v : Value} {xo yo io : Operand} {g : Option (Nat × Bool)}
theorem wo {op:Op}{j:Nat}{b c:Bool}(f:Fr a N L)(hc:c=b)(hs:((ops[j]?).bind (·.dst)).bind (look L)=some (.bool c):=by rfl):
  Region.wanted ⟨some d,op,t,pos,af,some (j,b)⟩ (yielded ops a.tmps)=true:=by
 obtain⟨s,h1,h2⟩:=gs_of hs
 exact BD f rfl h1 h2 hc
theorem Aj (i n:Nat)(hi:ops[i]? =some ⟨some d,.move xo,t,pos,af,g⟩)(f:Fr a N L)(hx:AN L xo=some v)
  (k:∀a',Fr a' N ((d,v)::L)→AnyB W P ops (Qk nn x r) T H fuel G E (listed.setIfInBounds i true) a')
  (hck:BZ ops n fuel listed i=true:=by as_aux_lemma=>kernel_rfl) (hw:Region.wanted ⟨some d,.move xo,t,pos,af,g⟩ (yielded ops a.tmps)=true:=by rfl) (hN:Nat.blt d N=true:=by rfl):AnyB W P ops (Qk nn x r) T H (fuel+1) G E listed a:=
 Dq n hi hck rfl f hw rfl hN (λ_ _ _ _ _=>BB (f.eval hx)) k
theorem q_p {op:Op}(i n:Nat)(hi:ops[i]? =some ⟨some d,op,t,pos,af,g⟩)(f:Fr a N L)(hr:∀w,(execOp a.eval ⟨some d,op,t,pos,af,g⟩).run P w= .ok (.value v) w)
  (k:∀a',Fr a' N ((d,v)::L)→AnyB W P ops (Qk nn x r) T H fuel G E (listed.setIfInBounds i true) a')
  (hck:BZ ops n fuel listed i=true:=by as_aux_lemma=>kernel_rfl) (hw:Region.wanted ⟨some d,op,t,pos,af,g⟩ (yielded ops a.tmps)=true:=by rfl) (hN:Nat.blt d N=true:=by rfl):AnyB W P ops (Qk nn x r) T H (fuel+1) G E listed a:=
 Dq n hi hck rfl f hw rfl hN (λ_ _ w _ _=>hr w) k
theorem AD {op:Op}{j:Nat}{b c:Bool}(i n:Nat)(hi:ops[i]? =some ⟨some d,op,t,pos,af,some (j,b)⟩)(f:Fr a N L)(hc:c= !b)
  (k:∀a',Fr a' N ((d,undef)::L)→AnyB W P ops (Qk nn x r) T H fuel G E (listed.setIfInBounds i true) a')
  (hs:((ops[j]?).bind (·.dst)).bind (look L)=some (.bool c):=by rfl) (hck:BZ ops n fuel listed i=true:=by as_aux_lemma=>kernel_rfl) (hN:Nat.blt d N=true:=by rfl):AnyB W P ops (Qk nn x r) T H (fuel+1) G E listed a:=by
 obtain⟨s,h1,h2⟩:=gs_of hs
 exact q_not n hi hck rfl f rfl h1 h2 hc rfl hN k
theorem q_nu {op:Op}{j:Nat}{b:Bool}(i n:Nat)(hi:ops[i]? =some ⟨some d,op,t,pos,af,some (j,b)⟩)(f:Fr a N L)
  (k:∀a',Fr a' N ((d,undef)::L)→AnyB W P ops (Qk nn x r) T H fuel G E (listed.setIfInBounds i true) a')
  (hs:((ops[j]?).bind (·.dst)).bind (look L)=some undef:=by rfl) (hck:BZ ops n fuel listed i=true:=by as_aux_lemma=>kernel_rfl) (hN:Nat.blt d N=true:=by rfl):AnyB W P ops (Qk nn x r) T H (fuel+1) G E listed a:=by
 obtain⟨s,h1,h2⟩:=gs_of hs
 exact q_notU n hi hck rfl f rfl h1 h2 rfl hN k
theorem A4 {α:Type}{R:Rep α}{tt:TypeId}{it:Itm}{xs:List α}{u e bytes:Nat}{z:Value}{k0:IntKind}{jx:Int}{y:α}{w₀:World}{G₀:GH}{H₀:List Itm}(i n j:Nat)(m:Mem W G₀ w₀ H₀)(h:Ow R tt G it v xs)
  (hu:SlT P u e 1 bytes z) (he:idx xs jx=some y) (hi:ops[i]? =some ⟨some d,.indexAddr u xo io,t,pos,af,g⟩) (f:Fr a N L) (hx:AN L xo=some v) (hio:AN L io=some (.int k0 jx))
  (k:∀p a',Dx v p jx→Fr a' N ((d,p)::L)→AnyB W P ops (Qk nn x r) T H fuel G E (listed.setIfInBounds i true) a')
  (hj:H₀[j]? =some it:=by rfl) (hck:BZ ops n fuel listed i=true:=by as_aux_lemma=>kernel_rfl) (hw:Region.wanted ⟨some d,.indexAddr u xo io,t,pos,af,g⟩ (yielded ops a.tmps)=true:=by rfl) (hN:Nat.blt d N=true:=by rfl):AnyB W P ops (Qk nn x r) T H (fuel+1) G E listed a:=
 q_own_at n j m h hj hu he hi hck rfl f hw hN hx hio k
theorem Bk {α:Type}{R:Rep α}{tt:TypeId}{it:Itm}{p:Value}{xs:List α}{u:Nat}{jx:Int}{y:α}(i n j:Nat)(h:Ow R tt G it v xs)
  (hp:B8 P u) (ha:Dx v p jx) (he:idx xs jx=some y) (hi:ops[i]? =some ⟨some d,.load u xo,t,pos,af,g⟩) (f:Fr a N L) (hx:AN L xo=some p)
  (k:∀c a',R G c y→Fr a' N ((d,c)::L)→AnyB W P ops (Qk nn x r) T H fuel G E (listed.setIfInBounds i true) a')
  (hj:H[j]? =some it:=by rfl) (hck:BZ ops n fuel listed i=true:=by as_aux_lemma=>kernel_rfl) (hw:Region.wanted ⟨some d,.load u xo,t,pos,af,g⟩ (yielded ops a.tmps)=true:=by rfl) (hN:Nat.blt d N=true:=by rfl):AnyB W P ops (Qk nn x r) T H (fuel+1) G E listed a:=
 q_own_load n j h hj hp ha he hi hck rfl f hw hN hx k
theorem Cd {α:Type}{R:Rep α}{xs:List α}{u e bytes:Nat}{z:Value}{k0:IntKind}{j:Int}{e':α}(i n:Nat)(hu:SlT P u e 1 bytes z)(h:RSl R G v xs)(he:idx xs j=some e')
  (hi:ops[i]? =some ⟨some d,.indexAddr u xo io,t,pos,af,g⟩) (f:Fr a N L) (hx:AN L xo=some v) (hio:AN L io=some (.int k0 j))
  (k:∀p c a',At G p c→R G c e'→Fr a' N ((d,p)::L)→AnyB W P ops (Qk nn x r) T H fuel G E (listed.setIfInBounds i true) a')
  (hck:BZ ops n fuel listed i=true:=by as_aux_lemma=>kernel_rfl) (hw:Region.wanted ⟨some d,.indexAddr u xo io,t,pos,af,g⟩ (yielded ops a.tmps)=true:=by rfl) (hN:Nat.blt d N=true:=by rfl):AnyB W P ops (Qk nn x r) T H (fuel+1) G E listed a:=
 q_at n hu h he hi hck rfl f hw hN hx hio k
theorem B3 {u:TypeId}{p c:Value}(i n:Nat)(hp:B8 P u)(h:At G p c)(hi:ops[i]? =some ⟨some d,.load u xo,t,pos,af,g⟩)(f:Fr a N L)(hx:AN L xo=some p)
  (k:∀a',Fr a' N ((d,c)::L)→AnyB W P ops (Qk nn x r) T H fuel G E (listed.setIfInBounds i true) a')
  (hck:BZ ops n fuel listed i=true:=by as_aux_lemma=>kernel_rfl) (hw:Region.wanted ⟨some d,.load u xo,t,pos,af,g⟩ (yielded ops a.tmps)=true:=by rfl) (hN:Nat.blt d N=true:=by rfl):AnyB W P ops (Qk nn x r) T H (fuel+1) G E listed a:=
 q_loadAt n hp h hi hck rfl f hw hN hx k
theorem Bf {b ix:Nat}{tt:TypeId}{cs:List Value}{u:TypeId}{c:Value}(i n j:Nat)(hp:B8 P u)(hj:H[j]? =some (.box b tt cs))(hc:cs[ix]? =some c)
  (hi:ops[i]? =some ⟨some d,.load u xo,t,pos,af,g⟩) (f:Fr a N L) (hx:AN L xo=some (.pointer (some ⟨b,ix,none⟩)))
  (k:∀a',Fr a' N ((d,c)::L)→AnyB W P ops (Qk nn x r) T H fuel G E (listed.setIfInBounds i true) a')
  (hck:BZ ops n fuel listed i=true:=by as_aux_lemma=>kernel_rfl) (hw:Region.wanted ⟨some d,.load u xo,t,pos,af,g⟩ (yielded ops a.tmps)=true:=by rfl) (hN:Nat.blt d N=true:=by rfl):AnyB W P ops (Qk nn x r) T H (fuel+1) G E listed a:=
 q_boxCell n j hp hj hc hi hck rfl f hw hN hx k
theorem BE {b ix:Nat}{s fi:Nat}{fs:Array Field}{fl:Field}{sz:Nat}(i n:Nat)(hs:P.underlying s=some (.struct fs))(hf:fs[fi]? =some fl)
  (hz:∀w,(sizeOf fl.type).run P w= .ok sz w) (hi:ops[i]? =some ⟨some d,.fieldAddr s xo fi,t,pos,af,g⟩) (f:Fr a N L) (hx:AN L xo=some (.pointer (some ⟨b,ix,none⟩)))
  (k:∀a',Fr a' N ((d,.pointer (some ⟨b,ix+fl.offset,none⟩))::L)→AnyB W P ops (Qk nn x r) T H fuel G E (listed.setIfInBounds i true) a') (hz0:sz≠0:=by decide)
  (hck:BZ ops n fuel listed i=true:=by as_aux_lemma=>kernel_rfl) (hw:Region.wanted ⟨some d,.fieldAddr s xo fi,t,pos,af,g⟩ (yielded ops a.tmps)=true:=by rfl) (hN:Nat.blt d N=true:=by rfl):AnyB W P ops (Qk nn x r) T H (fuel+1) G E listed a:=
 q_fieldAddr n hs hf hz hz0 hi hck rfl f hw hN hx k
theorem p_p {op:Op}(i:Nat)(hi:ops[i]? =some ⟨some d,op,t,pos,af,none⟩)(f:Fr a N L)(hr:∀w,(execOp a.eval ⟨some d,op,t,pos,af,none⟩).run P w= .ok (.value v) w)
  (k:∀a',Fr a' N ((d,v)::L)→PAny W P ops (Qk nn x r) fuel G H (listed.setIfInBounds i true) a')
  (hck:(Region.noSelect ops&&Region.free .any ops listed i&&(Region.ready .any ops listed).contains i)=true:=by as_aux_lemma=>kernel_rfl) (hN:Nat.blt d N=true:=by rfl):PAny W P ops (Qk nn x r) (fuel+1) G H listed a:=
 p_op hi hck rfl f rfl rfl hN hr k
theorem Bh {o:Oper}(i:Nat)(hi:ops[i]? =some o)
  (h:∀G₁ w,GLe G G₁→Mem W G₁ w (E++H)→∀K:Act→World→Prop,(∀G' E' a' w',GLe G₁ G'→Mem W G' w' (E'++H)→AnyB W P ops (Qk nn x r) T H fuel G' E' (listed.setIfInBounds i true) a'→K a' w')→wpList P ops (Qk (λa' w'=>K a' w') [] (λ_ _=>False)) [o] a w)
  (hready:Region.ready .any ops listed=[i]:=by as_aux_lemma=>kernel_rfl):
  AnyB W P ops (Qk nn x r) T H (fuel+1) G E listed a:=q_one hi hready rfl h
end
section
variable {G G' : GH} {v : Value} {k : IntKind}
theorem rd1 {xs:List Int}(h:GLe G G')(r:RSl (RI k) G v xs):RSl (RI k) G' v xs:=RSl.mono (RI.mono _) _ _ _ _ h r
theorem rd2 {xs:List (List Int)}(h:GLe G G')(r:RSl (RSl (RI k)) G v xs):RSl (RSl (RI k)) G' v xs:=RSl.mono (RSl.mono (RI.mono _)) _ _ _ _ h r
theorem od1 {t:TypeId}{it:Itm}{xs:List Int}(h:GLe G G')(r:Ow (RI k) t G it v xs):Ow (RI k) t G' it v xs:=Ow.mono (RI.mono _) h r
theorem od2 {t t':TypeId}{it:Itm}{xs:List (List Int)}(h:GLe G G')(r:Ow2 (RI k) t t' G it v xs):Ow2 (RI k) t t' G' it v xs:=Ow2.mono (RI.mono _) h r
theorem od3 {t:TypeId}{it:Itm}{xs:List (List Int)}(h:GLe G G')(r:Ow (RSl (RI k)) t G it v xs):Ow (RSl (RI k)) t G' it v xs:=Ow.mono (RSl.mono (RI.mono _)) h r
theorem gr :GLe G G:=GLe.refl G
theorem gt {G'':GH}(h:GLe G G')(h':GLe G' G''):GLe G G'':=GLe.trans h h'
end
end Go.Sx

namespace Go.Sx
open Go.RowKit Go.ChangeShapes Go.WideShapes Go.Deep
def G0 (w:World):GH:=λb=>w.heap[b]?
theorem Mem.below {W w':World}{G:GH}{H:List Itm}(m:Mem W G w' H):Below W.heap.size W w':=by
 have hb:∀k,k<W.heap.size→w'.heap[k]? =W.heap[k]? :=λk hk=>by
  have h1:W.heap[k]? =some W.heap[k]:=by simp[hk]
  rw[h1]
  exact m.sealed k _ (m.base k _ h1)
 refine⟨m.os,m.tape,m.output,?_,hb⟩
 rcases Nat.eq_zero_or_pos W.heap.size with h|h
 ·omega
 ·have h1:=hb (W.heap.size-1) (by omega)
  have h2:W.heap[W.heap.size-1]? =some W.heap[W.heap.size-1]:=by simp
  rw[h2] at h1
  have:=(Array.getElem?_eq_some_iff.1 h1).1
  omega
theorem cell_G0 {w:World}{a:Addr}{i:Nat}{c:Value}(h:w.cell? (a.add i)=some c)(h0:w.cell? (a.add 0)=some c∨a.spot=none):a.spot=none∧Cell (G0 w) a.block (a.off+i) c:=by
 have hs:a.spot=none:=by
  rcases h0 with h0|h0
  ·rw[show a.add 0=a by simp[Addr.add]] at h0
   unfold World.cell? at h0
   split at h0
   ·cases hsp:a.spot with
    |none=>rfl
    |some n=>rw[hsp] at h0;simp at h0
   ·cases h0
  ·exact h0
 refine⟨hs,?_⟩
 obtain⟨b,off,sp⟩:=a
 simp only at hs;subst hs
 rw[BQ] at h
 unfold World.cell? at h
 split at h
 ·rename_i cs t f hh
  exact⟨cs,t,f,hh,by simpa using h⟩
 ·cases h
theorem spot_of_cell {w:World}{a:Addr}{c:Value}(h:w.cell? (a.add 0)=some c):a.spot=none:=by
 rw[show a.add 0=a by simp[Addr.add]] at h
 unfold World.cell? at h
 split at h
 ·cases hsp:a.spot with
  |none=>rfl
  |some n=>rw[hsp] at h;simp at h
 ·cases h
theorem no_iface {w:World}{ks:List Int}{k:IntKind}{t:TypeId}{f:Nat×Nat}{off:Nat}{u:TypeId}{v:Value}{p:Prop}(h:w.heap[0]? =some (.cells (ks.map (Value.int k)).toArray t f))(hc:w.cell? ⟨0,off,none⟩=some (.iface u v)):p:=by
 unfold World.cell? at hc
 rw[h] at hc
 simp at hc
section
variable {H : Type} {enc : TypeId × Value → H} {P : Program} {w : World} {base : Nat} {spare : Nat → Bool} {held : Bool}
def Opens (enc:TypeId×Value→H)(P:Program)(w:World)(base:Nat)(spare:Nat→Bool)(held:Bool)(t:TypeId){α:Type}(R:Rep α):Prop:=
 ∀(fuel:Nat) (v:Value) (y:DataW H×List MemPlace),DataW.trod enc P w base spare held fuel t [v]=some y→∃x,R (G0 w) v x
def RIr (k:IntKind):Rep Int:=λ_ v n=>v= .int k n∧(Lit.int k n).wf=true
theorem Opens.intr {t:TypeId}{k:IntKind}(ht:P.underlying t=some (.int k)):Opens enc P w base spare held t (RIr k):=by
 intro fuel v y h
 cases fuel with
 |zero=>simp[DataW.trod] at h
 |succ fuel=>
  cases v<;>simp[DataW.trod,ht] at h
  obtain⟨⟨rfl,hw⟩,_⟩:=h
  exact⟨_,rfl,hw⟩
theorem RSl.fits {k:IntKind}{G:GH}{v:Value}{xs:List Int}(h:RSl (RIr k) G v xs):RSl (RI k) G v xs∧∀x∈xs,(Lit.int k x).wf=true:=by
 obtain⟨vs,hA,h2⟩:=h
 refine⟨⟨vs,hA.mono (λv x h=>h.1),h2⟩,λx hx=> ?_⟩
 obtain⟨i,hi,rfl⟩:=List.getElem_of_mem hx
 obtain⟨c,_,hc⟩:=hA.get (i:=i) (x:=xs[i]) (by simp[hi])
 exact hc.2
theorem byte_of_wf {x:Int}(h:(Lit.int .u8 x).wf=true):0≤x∧x≤255:=by
 simp[Lit.wf,IntKind.has,IntKind.min,IntKind.max,IntKind.signed,IntKind.bits] at h
 omega
theorem Opens.slice {t e:TypeId}{α:Type}{R:Rep α}(ht:P.underlying t=some (.slice e))(hc:P.cellsOf e=1)(hE:Opens enc P w base spare held e R):Opens enc P w base spare held t (RSl R):=by
 intro fuel v y h
 rcases open_slice1 ht hc h with⟨h1,_⟩|⟨a,len,cap,m,n,V,D,Pl,h1,hb,hl,hm,hmm,hy,hx⟩
 ·simp at h1;subst h1;exact⟨[],RSl.nil _ _⟩
 ·simp at h1;subst h1
  have hlm:len≤m:=by rw[hmm];split<;>omega
  have hch:∀i,i<len→∃z,R (G0 w) (V i) z:=λi hi=>hE n (V i) _ (hx i (by omega)).2
  have:∃xs:List α,xs.length=len∧∀(i:Nat) x,xs[i]? =some x→R (G0 w) (V i) x:=by
   clear hmm hx hb hl hm hlm h hy
   induction len with
   |zero=>exact⟨[],rfl,by simp⟩
   |succ k ih=>
    obtain⟨xs,h1,h2⟩:=ih (λi hi=>hch i (by omega))
    obtain⟨z,hz⟩:=hch k (by omega)
    refine⟨xs++[z],by simp[h1],λi x hi=> ?_⟩
    rw[List.getElem?_append] at hi
    split at hi
    ·exact h2 i x hi
    ·rename_i hlt
     have hi0:i-xs.length=0:=by
      rcases Nat.eq_zero_or_pos (i-xs.length) with h|h
      ·exact h
      ·rw[List.getElem?_eq_none (by simp;omega)] at hi;cases hi
     rw[hi0] at hi
     simp at hi;subst hi
     obtain rfl:i=k:=by omega
     exact hz
  obtain⟨xs,hxl,hxs⟩:=this
  refine⟨xs,(List.range len).map V,⟨by simp[hxl],λi c x hc hx'=> ?_⟩,.inr ⟨a,cap,by rw[hxl],by omega,hm,λj c hc=> ?_⟩⟩
  ·rw[List.getElem?_map] at hc
   have hi:i<len:=by rw[←hxl];exact(List.getElem?_eq_some_iff.1 hx').1
   rw[List.getElem?_range hi] at hc
   simp at hc;subst hc
   exact hxs i x hx'
  ·have hj:j<len:=by
    have:=(List.getElem?_eq_some_iff.1 hc).1
    simpa using this
   rw[List.getElem?_map,List.getElem?_range hj] at hc
   simp at hc;subst hc
   have h0:=spot_of_cell (hx 0 (by omega)).1
   exact cell_G0 (hx j (by omega)).1 (.inr h0)
theorem table_cells {t e:TypeId}{n fuel:Nat}{k:IntKind}{cs:List Value}{ns:List Int}{ps:List MemPlace}(ht:P.underlying t=some (.array n e))(he:P.underlying e=some (.int k))(hc:P.cellsOf e=1)
  (hn:P.cellsOf t=n) (h:DataW.trod enc P w base spare held fuel t cs=some (.agg (ns.map λz=> .lit (.int k z)),ps)):cs=ns.map (.int k):=by
 obtain⟨xs,m,_,hx,hl,hxl,hel⟩:=DataW.trod_array ht h
 have hx1:ns.map (λz=>(.lit (.int k z):DataW H))=xs.map (·.1):=by
  have:=congrArg Prod.fst hx
  simpa using this
 have hnl:ns.length=n:=by
  have:=congrArg List.length hx1
  simp at this;omega
 apply List.ext_getElem
 ·simp;omega
 ·intro i h1 h2
  have hi:i<n:=by omega
  have h3:=hel i hi
  rw[hc,Nat.mul_one] at h3
  have h4:(cs.drop i).take 1=[cs[i]]:=by
   rw[List.drop_eq_getElem_cons h1];rfl
  rw[h4,List.getElem?_eq_getElem (by omega)] at h3
  have h5:xs[i].1= .lit (.int k ns[i]):=by
   have h6:(ns.map (λz=>(.lit (.int k z):DataW H)))[i]? =(xs.map (·.1))[i]? :=by rw[hx1]
   rw[List.getElem?_map,List.getElem?_map,List.getElem?_eq_getElem (by omega),List.getElem?_eq_getElem (by omega)] at h6
   simp at h6;exact h6.symm
  cases m with
  |zero=>simp[DataW.trod] at h3
  |succ m=>
   cases hv:cs[i]<;>rw[hv] at h3<;>simp[DataW.trod,he] at h3
   obtain⟨⟨rfl,_⟩,h7⟩:=h3
   rw[←h7] at h5
   simp at h5
   simp[h5]
end
end Go.Sx

namespace Go.Proofs.YtijemnhleooagaaGreatDoor
open Go Go.ChangeShapes Go.WideShapes Go.ChangeAt Go.RowKit
abbrev laidTab :List (String×DataW Unit):=Rows.fnSplitRow.laid
abbrev tabName :String:=(laidTab.headD default).1
theorem Tryz.ownK :ownKnob Tryz.prog.godebug=none:=by kernel_rfl
theorem Tryz.laidOutK :laidOutB Tryz.prog=true:=by kernel_rfl
theorem Tryz.tabG :Tryz.prog.globalNamed tabName=some 0:=by kernel_rfl
theorem Tryz.tabT :(Tryz.prog.globals[0]?).map (·.type)=some 132:=by kernel_rfl
theorem Tryz.cellsTab :Tryz.prog.cellsOf 132=32:=by kernel_rfl
theorem Tryz.cellsU8 :Tryz.prog.cellsOf 5=1:=by kernel_rfl
def tabCells :Array Value:= #[.int .u8 0,.int .u8 1,.int .u8 28,.int .u8 2,.int .u8 29,.int .u8 14,.int .u8 24,.int .u8 3,.int .u8 30,.int .u8 22,.int .u8 20,.int .u8 15,.int .u8 25,.int .u8 17,.int .u8 4,.int .u8 8,.int .u8 31,.int .u8 27,.int .u8 13,.int .u8 23,.int .u8 21,.int .u8 19,.int .u8 16,.int .u8 7,.int .u8 26,.int .u8 12,.int .u8 18,.int .u8 6,.int .u8 11,.int .u8 5,.int .u8 10,.int .u8 9]
theorem tabW_of_laid {W:World}(h:laidMet Tryz.prog laidTab W):Sx.Cs W:=by
 obtain⟨ps,⟨g,t,cs,fuel,p,q,hg,ht,hvar,hd,_,_⟩,_⟩:=h
 obtain rfl:=Option.some.inj (Tryz.tabG.symm.trans hg)
 obtain rfl:=Option.some.inj (Tryz.tabT.symm.trans ht)
 have e:cs.toList=Sx.tab32.map (Value.int .u8):=Sx.table_cells (H:=Unit) (ns:=Sx.tab32) Tryz.underlying132 Tryz.underlying5 Tryz.cellsU8 Tryz.cellsTab hd
 have hvar:W.var? Tryz.prog tabName=some cs:=hvar
 unfold World.var? at hvar
 rw[Tryz.tabG] at hvar
 simp only[Option.bind_some] at hvar
 split at hvar
 ·rename_i cs' ty fz hh
  cases hvar
  refine⟨ty,fz,?_⟩
  rw[hh]
  congr 1
  obtain⟨l⟩:=cs
  simp only at e
  subst e
  rfl
 ·cases hvar
noncomputable def FW (os:Os):World:=
 {World.holding Tryz.prog os ⟨#[],#[],[]⟩ with heap:=(World.holding Tryz.prog os ⟨#[],#[],[]⟩).heap.modify 0 fun
   | .cells _ t frozen=> .cells tabCells t frozen
   |o=>o}
theorem FT (os:Os)(args:Array Value):((FW os).forCall (λ_ _=>0) ⟨#[],args,[]⟩).memory.heap[0]? =some (.cells tabCells 132 (0,0)):=by kernel_rfl
set_option maxRecDepth 100000 in
theorem laidWorld_met (os:Os)(args:Array Value):laidMet Tryz.prog laidTab ((FW os).forCall (λ_ _=>0) ⟨#[],args,[]⟩).memory:=
 ⟨_,⟨0,132,tabCells,8,[],[],by kernel_rfl,by kernel_rfl,by kernel_rfl,by kernel_rfl,rfl,rfl⟩,by decide,λb off h=>by
  have hb:b=0:=by
   have h':MemPlace.cell b off∈(MemPlace.row ⟨0,0,none⟩ tabCells.size++[]++[]):=h
   simp only[List.append_nil,MemPlace.row,List.mem_map] at h'
   obtain⟨_,_,h1⟩:=h'
   injection h1 with h1 _
   first|exact h1.symm|(simp at h1;omega)
  subst hb
  refine⟨⟨_,_,FT os args⟩,λu v hc=> ?_⟩
  exact Sx.no_iface (ks:=Sx.tab32) (k:= .u8) (t:=132) (f:=(0,0)) (FT os args) hc⟩
end Go.Proofs.YtijemnhleooagaaGreatDoor

namespace Go.Sx
def D.j0 (x:Int):Option Int:=if 0≤x∧x≤18446744073709551615 then some (Lib.bitLen x.toNat) else none
def D.p2 (x:List Int):Option (List Int):=if x.length≤1100000 then some x else none
def D.Q1 (x:List Int):Option (List Int):=if x.length≤1100000 then some x else none
end Go.Sx

namespace Go.Sx
open IntKind
noncomputable section
def D.N (a:Int):Option (Bool):=
 some (a !=a)
def D.v (a b:Int):Option (Bool):=
 (D.N a).bind λc=>(cond c ((D.N b).bind λd=>some (!d)) (some false)).bind λe=>some (e||(decide (a<b)))
def D.d2 (a:LI)(b c d:Int):Option (Int×Int×LI×Int):=
 (idx a c).bind λe=>(idx a b).bind λf=>(D.v e f).bind λg=>cond g (some (c,b,a,(i64.wrap (d+1)))) (some (b,c,a,d))
def D.j2 (d:LI)(e f:Int)(g h:Int):Option (Int×LI×Int):=
 (D.d2 d e f h).bind λa=>(D.d2 a.2.2.1 a.2.1 g a.2.2.2).bind λb=>(D.d2 b.2.2.1 a.1 b.1 b.2.2.2).bind λc=>some (c.2.1,c.2.2.1,c.2.2.2)
def D.e2 (c:LI)(a d:Int):Option (Int×LI×Int):=
 (D.j2 c (i64.wrap (a-1)) a (i64.wrap (a+1)) d).bind λb=>some (b.1,b.2.1,b.2.2)
def D.k2 (g:LI)(h e a:Int):Option LI:=
 (Aw (σ:=LI×Int) (ρ:=LI ⊕ LI) (fun(b,c)=>cond (decide (e≤(i64.wrap ((i64.wrap (2*c))+1)))) (some (.inr (.inl b))) ((cond (decide ((i64.wrap ((i64.wrap ((i64.wrap (2*c))+1))+1))<e)) ((idx b (i64.wrap (a+(i64.wrap ((i64.wrap (2*c))+1))))).bind λj=>(idx b (i64.wrap ((i64.wrap (a+(i64.wrap ((i64.wrap (2*c))+1))))+1))).bind λk=>(D.v j k).bind λl=>some l) (some false)).bind λm=>((cond m (some (i64.wrap ((i64.wrap ((i64.wrap (2*c))+1))+1))) (some (i64.wrap ((i64.wrap (2*c))+1))):Option (Int))).bind λd=>(idx b (i64.wrap (a+c))).bind λn=>(idx b (i64.wrap (a+d))).bind λo=>(D.v n o).bind λp=>cond (!p) (some (.inr (.inr b))) ((idx b (i64.wrap (a+d))).bind λf=>(idx b (i64.wrap (a+c))).bind λq=>(idx b (i64.wrap (a+c))).bind λs=>(idx (b.set (Int.toNat (i64.wrap (a+c))) f) (i64.wrap (a+d))).bind λt=>some (.inl (((b.set (Int.toNat (i64.wrap (a+c))) f).set (Int.toNat (i64.wrap (a+d))) q),d))))) (g,h)).bind λzz=>match zz with| .inl r=>(some r)| .inr z=>(some z)
def D.i2 (h:LI)(a d:Int):Option LI:=
 (Aw (σ:=LI×Int) (ρ:=LI) (fun(f,e)=>cond (decide ((0:Int)≤e)) ((D.k2 f e (i64.wrap (d-a)) a).bind λj=>some (.inl (j,(i64.wrap (e-1))))) (some (.inr f))) (h,(i64.wrap (Int.tdiv (i64.wrap ((i64.wrap (d-a))-1)) 2)))).bind λk=>(Aw (σ:=LI×Int) (ρ:=LI) (fun(b,c)=>cond (decide ((0:Int)≤c)) ((idx b (i64.wrap (a+c))).bind λg=>(idx b a).bind λm=>(idx b a).bind λp=>(idx (b.set (Int.toNat a) g) (i64.wrap (a+c))).bind λq=>(D.k2 ((b.set (Int.toNat a) g).set (Int.toNat (i64.wrap (a+c))) m) 0 c a).bind λn=>some (.inl (n,(i64.wrap (c-1))))) (some (.inr b))) (k,(i64.wrap ((i64.wrap (d-a))-1)))).bind λo=>some o
def D.l2 (g:LI)(d h:Int):Option LI:=
 (Aw (σ:=LI×Int) (ρ:=LI) (fun(e,c)=>cond (decide (c<h)) ((Aw (σ:=LI×Int) (ρ:=LI) (fun(b,a)=>(cond (decide (d<a)) ((idx b a).bind λk=>(idx b (i64.wrap (a-1))).bind λl=>(D.v k l).bind λm=>some m) (some false)).bind λn=>cond n ((idx b (i64.wrap (a-1))).bind λf=>(idx b a).bind λo=>(idx b a).bind λr=>(idx (b.set (Int.toNat a) f) (i64.wrap (a-1))).bind λs=>some (.inl (((b.set (Int.toNat a) f).set (Int.toNat (i64.wrap (a-1))) o),(i64.wrap (a-1))))) (some (.inr b))) (e,c)).bind λp=>some (.inl (p,(i64.wrap (c+1))))) (some (.inr e))) (g,(i64.wrap (d+1)))).bind λq=>some q
def D.g2 (e:LI)(f g:Int):Option LI:=
 (Aw (σ:=LI×Int×Int) (ρ:=LI) (fun(a,b,c)=>cond (decide (b<c)) ((idx a c).bind λd=>(idx a b).bind λi=>(idx a b).bind λk=>(idx (a.set (Int.toNat b) d) c).bind λl=>some (.inl (((a.set (Int.toNat b) d).set (Int.toNat c) i),(i64.wrap (b+1)),(i64.wrap (c-1))))) (some (.inr a))) (e,f,(i64.wrap (g-1)))).bind λj=>some j
def D.m2 (p:LI)(i g:Int):Option (Bool×LI):=
 (Aw (σ:=LI×Int×Int) (ρ:=LI ⊕ (Bool×LI)) (fun(b,r,j)=>cond (decide (j<5)) ((Aw (σ:=Int) (ρ:=(Int)) (fun(h:Int)=>(cond (decide (h<g)) ((idx b h).bind λs=>(idx b (i64.wrap (h-1))).bind λt=>(D.v s t).bind λu=>some (!u)) (some false)).bind λv=>cond v (some (.inl (i64.wrap (h+1)))) (some (.inr h))) r).bind λa=>cond (a==g) (some (.inr (.inr (true,b)))) (cond (decide ((i64.wrap (g-i))<50)) (some (.inr (.inr (false,b)))) ((idx b (i64.wrap (a-1))).bind λk=>(idx b a).bind λl=>(idx b a).bind λak=>(idx (b.set (Int.toNat a) k) (i64.wrap (a-1))).bind λal=>((cond (decide ((2:Int)≤(i64.wrap (a-i)))) ((Aw (σ:=LI×Int) (ρ:=LI) (fun(e,c)=>cond (decide ((1:Int)≤c)) ((idx e c).bind λx=>(idx e (i64.wrap (c-1))).bind λy=>(D.v x y).bind λaa=>cond (!aa) (some (.inr e)) ((idx e (i64.wrap (c-1))).bind λm=>(idx e c).bind λab=>(idx e c).bind λam=>(idx (e.set (Int.toNat c) m) (i64.wrap (c-1))).bind λan=>some (.inl (((e.set (Int.toNat c) m).set (Int.toNat (i64.wrap (c-1))) ab),(i64.wrap (c-1)))))) (some (.inr e))) (((b.set (Int.toNat a) k).set (Int.toNat (i64.wrap (a-1))) l),(i64.wrap (a-1)))).bind λac=>some ac) (some ((b.set (Int.toNat a) k).set (Int.toNat (i64.wrap (a-1))) l)):Option LI)).bind λn=>cond (decide ((2:Int)≤(i64.wrap (g-a)))) ((Aw (σ:=LI×Int) (ρ:=LI) (fun(f,d)=>cond (decide (d<g)) ((idx f d).bind λae=>(idx f (i64.wrap (d-1))).bind λaf=>(D.v ae af).bind λag=>cond (!ag) (some (.inr f)) ((idx f (i64.wrap (d-1))).bind λo=>(idx f d).bind λah=>(idx f d).bind λao=>(idx (f.set (Int.toNat d) o) (i64.wrap (d-1))).bind λap=>some (.inl (((f.set (Int.toNat d) o).set (Int.toNat (i64.wrap (d-1))) ah),(i64.wrap (d+1)))))) (some (.inr f))) (n,(i64.wrap (a+1)))).bind λai=>some (.inl (ai,a,(i64.wrap (j+1))))) (some (.inl (n,a,(i64.wrap (j+1)))))))) (some (.inr (.inl b)))) (p,(i64.wrap (i+1)),0)).bind λzz=>match zz with| .inl aj=>(some (false,aj))| .inr z=>(some z)
def D.f2 (d:LI)(c l h:Int):Option (Int×LI):=
 (idx d h).bind λi=>(idx d c).bind λm=>(idx d c).bind λaa=>(idx (d.set (Int.toNat c) i) h).bind λab=>(Aw (σ:=LI×Int×Int) (ρ:=(LI×Int)) (fun(a,o,j)=>(Aw (σ:=Int) (ρ:=(Int)) (fun(f:Int)=>(cond (decide (f≤j)) ((idx a c).bind λp=>(idx a f).bind λq=>(D.v p q).bind λr=>some (!r)) (some false)).bind λs=>cond s (some (.inl (i64.wrap (f+1)))) (some (.inr f))) o).bind λb=>(Aw (σ:=Int) (ρ:=(Int)) (fun(g:Int)=>(cond (decide (b≤g)) ((idx a c).bind λt=>(idx a g).bind λu=>(D.v t u).bind λv=>some v) (some false)).bind λw=>cond w (some (.inl (i64.wrap (g-1)))) (some (.inr g))) j).bind λe=>cond (decide (e<b)) (some (.inr (a,b))) ((idx a e).bind λk=>(idx a b).bind λx=>(idx a b).bind λac=>(idx (a.set (Int.toNat b) k) e).bind λad=>some (.inl (((a.set (Int.toNat b) k).set (Int.toNat e) x),(i64.wrap (b+1)),(i64.wrap (e-1)))))) (((d.set (Int.toNat c) i).set (Int.toNat h) m),(i64.wrap (c+1)),(i64.wrap (l-1)))).bind fun(y,z)=>some (z,y)
def D.o2 (b:LI)(a q c:Int):Option (Int×Bool×LI):=
 (idx b c).bind λd=>(idx b a).bind λe=>(idx b a).bind λau=>(idx (b.set (Int.toNat a) d) c).bind λav=>(Aw (σ:=Int) (ρ:=(Int)) (fun(m:Int)=>(cond (decide (m≤(i64.wrap (q-1)))) ((idx ((b.set (Int.toNat a) d).set (Int.toNat c) e) m).bind λw=>(idx ((b.set (Int.toNat a) d).set (Int.toNat c) e) a).bind λx=>(D.v w x).bind λy=>some y) (some false)).bind λz=>cond z (some (.inl (i64.wrap (m+1)))) (some (.inr m))) (i64.wrap (a+1))).bind λh=>(Aw (σ:=Int) (ρ:=(Int)) (fun(n:Int)=>(cond (decide (h≤n)) ((idx ((b.set (Int.toNat a) d).set (Int.toNat c) e) n).bind λaa=>(idx ((b.set (Int.toNat a) d).set (Int.toNat c) e) a).bind λab=>(D.v aa ab).bind λac=>some (!ac)) (some false)).bind λad=>cond ad (some (.inl (i64.wrap (n-1)))) (some (.inr n))) (i64.wrap (q-1))).bind λf=>cond (decide (f<h)) ((idx ((b.set (Int.toNat a) d).set (Int.toNat c) e) a).bind λr=>(idx ((b.set (Int.toNat a) d).set (Int.toNat c) e) f).bind λae=>(idx ((b.set (Int.toNat a) d).set (Int.toNat c) e) f).bind λaw=>(idx (((b.set (Int.toNat a) d).set (Int.toNat c) e).set (Int.toNat f) r) a).bind λax=>some (f,true,((((b.set (Int.toNat a) d).set (Int.toNat c) e).set (Int.toNat f) r).set (Int.toNat a) ae))) ((idx ((b.set (Int.toNat a) d).set (Int.toNat c) e) f).bind λs=>(idx ((b.set (Int.toNat a) d).set (Int.toNat c) e) h).bind λaf=>(idx ((b.set (Int.toNat a) d).set (Int.toNat c) e) h).bind λay=>(idx (((b.set (Int.toNat a) d).set (Int.toNat c) e).set (Int.toNat h) s) f).bind λaz=>(Aw (σ:=LI×Int×Int) (ρ:=(LI×Int)) (fun(g,ah,t)=>(Aw (σ:=Int) (ρ:=(Int)) (fun(o:Int)=>(cond (decide (o≤t)) ((idx g o).bind λai=>(idx g a).bind λaj=>(D.v ai aj).bind λak=>some ak) (some false)).bind λal=>cond al (some (.inl (i64.wrap (o+1)))) (some (.inr o))) ah).bind λi=>(Aw (σ:=Int) (ρ:=(Int)) (fun(p:Int)=>(cond (decide (i≤p)) ((idx g p).bind λam=>(idx g a).bind λan=>(D.v am an).bind λao=>some (!ao)) (some false)).bind λap=>cond ap (some (.inl (i64.wrap (p-1)))) (some (.inr p))) t).bind λj=>cond (decide (j<i)) (some (.inr (g,j))) ((idx g j).bind λu=>(idx g i).bind λaq=>(idx g i).bind λa0=>(idx (g.set (Int.toNat i) u) j).bind λa1=>some (.inl (((g.set (Int.toNat i) u).set (Int.toNat j) aq),(i64.wrap (i+1)),(i64.wrap (j-1)))))) (((((b.set (Int.toNat a) d).set (Int.toNat c) e).set (Int.toNat h) s).set (Int.toNat f) af),(i64.wrap (h+1)),(i64.wrap (f-1)))).bind fun(k,l)=>(idx k a).bind λv=>(idx k l).bind λar=>(idx k l).bind λa2=>(idx (k.set (Int.toNat l) v) a).bind λa3=>some (l,false,((k.set (Int.toNat l) v).set (Int.toNat a) ar)))
def D.H0 (b:Int):Option (Int):=
 (D.j0 (IntKind.u64.wrap b)).bind λa=>cond (decide (a<0)) none (some (ishl .u64 1 a))
def D.S0 (a:Int):Option (Int×Int):=
 some ((Bt .u64 (Bt .u64 (Bt .u64 a (ishl .u64 a 13)) (BL .u64 (Bt .u64 a (ishl .u64 a 13)) 7)) (ishl .u64 (Bt .u64 (Bt .u64 a (ishl .u64 a 13)) (BL .u64 (Bt .u64 a (ishl .u64 a 13)) 7)) 17)),(Bt .u64 (Bt .u64 (Bt .u64 a (ishl .u64 a 13)) (BL .u64 (Bt .u64 a (ishl .u64 a 13)) 7)) (ishl .u64 (Bt .u64 (Bt .u64 a (ishl .u64 a 13)) (BL .u64 (Bt .u64 a (ishl .u64 a 13)) 7)) 17)))
def D.h2 (h:LI)(a b:Int):Option LI:=
 cond (decide ((8:Int)≤(i64.wrap (b-a)))) ((D.H0 (i64.wrap (b-a))).bind λf=>(Aw (σ:=LI×Int×Int) (ρ:=LI) (fun(c,d,k)=>cond (decide (d≤(i64.wrap ((i64.wrap (a+(i64.wrap ((i64.wrap (Int.tdiv (i64.wrap (b-a)) 4))*2))))+1)))) ((D.S0 k).bind λe=>((cond (decide ((i64.wrap (b-a))≤(i64.wrap (iand .u64 e.1 (IntKind.u64.wrap (f-1)))))) (some (i64.wrap ((i64.wrap (iand .u64 e.1 (IntKind.u64.wrap (f-1))))-(i64.wrap (b-a))))) (some (i64.wrap (iand .u64 e.1 (IntKind.u64.wrap (f-1))))):Option (Int))).bind λg=>(idx c (i64.wrap (a+g))).bind λi=>(idx c d).bind λl=>(idx c d).bind λn=>(idx (c.set (Int.toNat d) i) (i64.wrap (a+g))).bind λo=>some (.inl (((c.set (Int.toNat d) i).set (Int.toNat (i64.wrap (a+g))) l),(i64.wrap (d+1)),e.2))) (some (.inr c))) (h,(i64.wrap ((i64.wrap (a+(i64.wrap ((i64.wrap (Int.tdiv (i64.wrap (b-a)) 4))*2))))-1)),(IntKind.u64.wrap (i64.wrap (b-a))))).bind λm=>some m) (some h)
def D.n2 (d:LI)(a b:Int):Option (Int×Int×LI):=
 cond (decide ((8:Int)≤(i64.wrap (b-a)))) (((cond (decide ((50:Int)≤(i64.wrap (b-a)))) ((D.e2 d (i64.wrap (a+(i64.wrap ((i64.wrap (Int.tdiv (i64.wrap (b-a)) 4))*1)))) 0).bind λe=>(D.e2 e.2.1 (i64.wrap (a+(i64.wrap ((i64.wrap (Int.tdiv (i64.wrap (b-a)) 4))*2)))) e.2.2).bind λf=>(D.e2 f.2.1 (i64.wrap (a+(i64.wrap ((i64.wrap (Int.tdiv (i64.wrap (b-a)) 4))*3)))) f.2.2).bind λg=>some (g.2.1,e.1,f.1,g.1,g.2.2)) (some (d,(i64.wrap (a+(i64.wrap ((i64.wrap (Int.tdiv (i64.wrap (b-a)) 4))*1)))),(i64.wrap (a+(i64.wrap ((i64.wrap (Int.tdiv (i64.wrap (b-a)) 4))*2)))),(i64.wrap (a+(i64.wrap ((i64.wrap (Int.tdiv (i64.wrap (b-a)) 4))*3)))),0)):Option (LI×Int×Int×Int×Int))).bind fun(h,i,j,k,l)=>(D.j2 h i j k l).bind λc=>cond (c.2.2==0) (some (c.1,1,c.2.1)) (cond (c.2.2==12) (some (c.1,2,c.2.1)) (some (c.1,0,c.2.1)))) (cond ((0:Int)==0) (some ((i64.wrap (a+(i64.wrap ((i64.wrap (Int.tdiv (i64.wrap (b-a)) 4))*2)))),1,d)) (cond ((0:Int)==12) (some ((i64.wrap (a+(i64.wrap ((i64.wrap (Int.tdiv (i64.wrap (b-a)) 4))*2)))),2,d)) (some ((i64.wrap (a+(i64.wrap ((i64.wrap (Int.tdiv (i64.wrap (b-a)) 4))*2)))),0,d))))
def D.r1 :Nat→LI→Int→Int→Int→Option LI
 |0,_,_,_,_=>none
 |fuel+1,o,p,r,s=>(Aw (σ:=LI×Int×Int×Int×Bool×Bool) (ρ:=LI) (fun(f,a,b,h,i,l)=>cond (decide ((i64.wrap (b-a))≤12)) ((D.l2 f a b).bind λu=>some (.inr u)) (cond (h==0) ((D.i2 f a b).bind λv=>some (.inr v)) (((cond (!i) ((D.h2 f a b).bind λw=>some (w,(i64.wrap (h-1)))) (some (f,h)):Option (LI×Int))).bind fun(x,e)=>(D.n2 x a b).bind λd=>((cond (d.2.1==2) ((D.g2 d.2.2 a b).bind λy=>some (y,(i64.wrap ((i64.wrap (b-1))-(i64.wrap (d.1-a)))),1)) (some (d.2.2,d.1,d.2.1)):Option (LI×Int×Int))).bind fun(m,j,aa)=>((cond ((i&&l)&&(aa==1)) ((D.m2 m a b).bind λk=>cond k.1 (some (.inr k.2)) (some (.inl k.2))) (some (.inl m)):Option (LI ⊕ LI))).bind λq=>match q with| .inl g=>((cond (decide ((0:Int)<a)) ((idx g (i64.wrap (a-1))).bind λab=>(idx g j).bind λac=>(D.v ab ac).bind λad=>some (!ad)) (some false)).bind λae=>cond ae ((D.f2 g a b j).bind λn=>some (.inl (n.2,n.1,b,e,i,l))) ((D.o2 g a b j).bind λc=>cond (decide ((i64.wrap (c.1-a))<(i64.wrap (b-c.1)))) ((D.r1 fuel c.2.2 a c.1 e).bind λaf=>some (.inl (af,(i64.wrap (c.1+1)),b,e,(decide ((i64.wrap (Int.tdiv (i64.wrap (b-a)) 8))≤(i64.wrap (c.1-a)))),c.2.1))) ((D.r1 fuel c.2.2 (i64.wrap (c.1+1)) b e).bind λag=>some (.inl (ag,a,c.1,e,(decide ((i64.wrap (Int.tdiv (i64.wrap (b-a)) 8))≤(i64.wrap (b-c.1)))),c.2.1)))))| .inr q=>(some (.inr q))))) (o,p,r,s,true,true)).bind λz=>some z
def D.b0 (a:LI)(b c d:Int):Option LI:=D.r1 BT a b c d
def D.Z1 (a:LI):Option LI:=
 (D.j0 (IntKind.u64.wrap (a.length:Int))).bind λb=>(D.b0 a 0 (a.length:Int) b).bind λc=>some c
def D.r2 (a:LI):Option LI:=
 (D.p2 a).bind λb=>some b
def D.q2 (a:LI):Option LI:=
 (D.r2 a).bind λb=>(D.Z1 b).bind λc=>some c
def D.f (a b c:Int):Option (Bool):=
 some ((decide (b≤a))&&(decide (a≤c)))
def D.P (b:LI)(c:Int):Option (Bool):=
 (Aw (σ:=Int) (ρ:=(Unit) ⊕ (Bool)) (fun(a:Int)=>cond (decide (a<(b.length:Int))) ((idx b a).bind λd=>cond (d==c) (some (.inr (.inr true))) (some (.inl (i64.wrap (a+1))))) (some (.inr (.inl ())))) 0).bind λzz=>match zz with| .inl _=>(some false)| .inr z=>(some z)
def D.c (a:LL):Option (Int):=
 some (a.length:Int)
def D.j (a:LI):Option LI:=
 (AU ([]:LI) a).bind λb=>some b
def D.Q0 (b:LI)(c:Int):Option (Bool):=
 cond (decide (c<(b.length:Int))) (some false) ((Aw (σ:=Int) (ρ:=(Unit) ⊕ (Bool)) (fun(a:Int)=>cond (decide (a<(b.length:Int))) ((idx b a).bind λd=>(D.f d 0 (i64.wrap (c-1))).bind λe=>(cond (!e) (some true) ((cond (decide ((0:Int)<a)) ((idx b a).bind λf=>(idx b (i64.wrap (a-1))).bind λg=>some (decide (f≤g))) (some false)).bind λh=>some h)).bind λi=>cond i (some (.inr (.inr false))) (some (.inl (i64.wrap (a+1))))) (some (.inr (.inl ())))) 0).bind λzz=>match zz with| .inl _=>(some true)| .inr z=>(some z))
def D.q (a:LL):Option (Bool):=
 (D.c a).bind λd=>(D.f d 1 16).bind λf=>cond (!f) (some false) ((Aw (σ:=Int) (ρ:=(Unit) ⊕ (Bool)) (fun(b:Int)=>cond (decide (b<d)) ((idx a b).bind λg=>(D.Q0 g d).bind λh=>(cond (!h) (some true) ((idx a b).bind λi=>(D.P i b).bind λj=>some j)).bind λk=>cond k (some (.inr (.inr false))) (some (.inl (i64.wrap (b+1))))) (some (.inr (.inl ())))) 0).bind λzz=>match zz with| .inl _=>((Aw (σ:=Int) (ρ:=(Unit) ⊕ (Bool)) (fun(c:Int)=>cond (decide (c<d)) ((Aw (σ:=Int) (ρ:=(Unit) ⊕ (Bool)) (fun(e:Int)=>(idx a c).bind λl=>cond (decide (e<(l.length:Int))) ((idx a c).bind λm=>(idx m e).bind λn=>(idx a n).bind λo=>(D.P o c).bind λp=>cond (!p) (some (.inr (.inr false))) (some (.inl (i64.wrap (e+1))))) (some (.inr (.inl ())))) 0).bind λzz=>match zz with| .inl _=>(some (.inl (i64.wrap (c+1))))| .inr z=>(some (.inr (.inr z)))) (some (.inr (.inl ())))) 0).bind λzz=>match zz with| .inl _=>(some true)| .inr z=>(some z))| .inr z=>(some z))
def D.s (a:LL)(b:Int):Option (Bool):=
 (D.c a).bind λc=>(D.f b 0 (i64.wrap (c-1))).bind λd=>some d
def D.S1 (c:LL)(a:LI):Option (Bool):=
 (D.c c).bind λd=>cond ((a.length:Int) !=d) (some false) ((Aw (σ:=Int) (ρ:=(Unit) ⊕ (Bool)) (fun(b:Int)=>cond (decide (b<(a.length:Int))) ((idx a b).bind λe=>(D.s c e).bind λf=>(cond (!f) (some true) ((Ck a 0 b).bind λg=>(idx a b).bind λh=>(D.P g h).bind λi=>some i)).bind λj=>cond j (some (.inr (.inr false))) (some (.inl (i64.wrap (b+1))))) (some (.inr (.inl ())))) 0).bind λzz=>match zz with| .inl _=>(some true)| .inr z=>(some z))
def D.m1 (a:LL)(b:LI):Option (Bool):=
 (D.q a).bind λc=>(cond c ((D.S1 a b).bind λd=>some d) (some false)).bind λe=>some e
def D.t (a:LI)(d:Int):Option LI:=
 (Aw (σ:=Int) (ρ:=(Int)) (fun(b:Int)=>(cond (decide (b<(a.length:Int))) ((idx a b).bind λe=>some (decide (e<d))) (some false)).bind λf=>cond f (some (.inl (i64.wrap (b+1)))) (some (.inr b))) 0).bind λc=>(cond (decide (c<(a.length:Int))) ((idx a c).bind λg=>some (g==d)) (some false)).bind λh=>cond h (some a) ((Ck a 0 c).bind λi=>(D.j i).bind λj=>(AU j ([d]:LI)).bind λk=>(Ck a c (a.length:Int)).bind λl=>(AU k l).bind λm=>some m)
def D.A0 (a b c:Int):Option (Bool):=
 some ((decide (b≤a))&&(decide (a≤c)))
def D.h1 (b:LI)(d:Int):Option (Bool):=
 (Aw (σ:=Int) (ρ:=(Unit) ⊕ (Bool)) (fun(a:Int)=>cond (decide (a<(b.length:Int))) ((idx b a).bind λc=>(D.A0 c 0 (i64.wrap (d-1))).bind λe=>(cond (!e) (some true) ((cond (decide ((0:Int)<a)) ((idx b (i64.wrap (a-1))).bind λf=>some (decide (c≤f))) (some false)).bind λg=>some g)).bind λh=>cond h (some (.inr (.inr false))) (some (.inl (i64.wrap (a+1))))) (some (.inr (.inl ())))) 0).bind λzz=>match zz with| .inl _=>(some true)| .inr z=>(some z)
def D.s0 (b:LI)(c:Int):Option (Int):=
 (Aw (σ:=Int) (ρ:=(Unit) ⊕ (Int)) (fun(a:Int)=>cond (decide (a<(b.length:Int))) ((idx b a).bind λd=>cond (c==d) (some (.inr (.inr a))) (some (.inl (i64.wrap (a+1))))) (some (.inr (.inl ())))) 0).bind λzz=>match zz with| .inl _=>(some (-1))| .inr z=>(some z)
def D.k0 (a:LI)(b:Int):Option (Bool):=
 (D.s0 a b).bind λc=>some (decide ((0:Int)≤c))
def D.M0 (a:LL):Option (Bool):=
 cond ((decide ((a.length:Int)<1))||(decide ((16:Int)<(a.length:Int)))) (some false) ((Aw (σ:=Int) (ρ:=(Unit) ⊕ (Bool)) (fun(b:Int)=>cond (decide (b<(a.length:Int))) ((idx a b).bind λe=>(D.h1 e (a.length:Int)).bind λg=>(cond (!g) (some true) ((D.k0 e b).bind λh=>some h)).bind λi=>cond i (some (.inr (.inr false))) (some (.inl (i64.wrap (b+1))))) (some (.inr (.inl ())))) 0).bind λzz=>match zz with| .inl _=>((Aw (σ:=Int) (ρ:=(Unit) ⊕ (Bool)) (fun(c:Int)=>cond (decide (c<(a.length:Int))) ((idx a c).bind λf=>(Aw (σ:=Int) (ρ:=(Unit) ⊕ (Bool)) (fun(d:Int)=>cond (decide (d<(f.length:Int))) ((idx f d).bind λj=>(idx a j).bind λk=>(D.k0 k c).bind λl=>cond (!l) (some (.inr (.inr false))) (some (.inl (i64.wrap (d+1))))) (some (.inr (.inl ())))) 0).bind λzz=>match zz with| .inl _=>(some (.inl (i64.wrap (c+1))))| .inr z=>(some (.inr (.inr z)))) (some (.inr (.inl ())))) 0).bind λzz=>match zz with| .inl _=>(some true)| .inr z=>(some z))| .inr z=>(some z))
def D.e (a:Int):Option (Int):=
 cond (decide (a<0)) none (some (ishl .u32 1 a))
def D.o1 (b:LI):Option (Int):=
 (Aw (σ:=Int×Int) (ρ:=(Int)) (fun(c,a)=>cond (decide (a<(b.length:Int))) ((idx b a).bind λe=>(D.e e).bind λf=>some (.inl ((ior .u32 c f),(i64.wrap (a+1))))) (some (.inr c))) (0,0)).bind λg=>some g
def D.J (b:LL):Option LI:=
 (Aw (σ:=LI×Int) (ρ:=LI) (fun(c,a)=>cond (decide (a<(b.length:Int))) ((idx b a).bind λe=>(D.o1 e).bind λf=>(AU c ([f]:LI)).bind λg=>some (.inl (g,(i64.wrap (a+1))))) (some (.inr c))) (([]:LI),0)).bind λh=>some h
def D.Y1 (a:Int):Option (Int):=
 cond (a==0) (some 32) ((idx tab32 (BL .u32 (IntKind.u32.wrap ((iand .u32 a (IntKind.u32.wrap (0-a)))*125613361)) 27)).bind λb=>some (i64.wrap b))
def D.M (a:Int):Option (Int):=
 (D.Y1 a).bind λb=>some b
def D.r (x0 : Int) : Option ((LI)) :=
  (Aw (σ := Int × LI) (ρ := (LI)) (fun (s_52 : Int × LI) => match s_52 with | (x_55, l_56) => cond (x_55 != 0) ((D.M x_55).bind fun y_88 => (AU l_56 ([y_88] : LI)).bind fun l_99 => some (.inl ((iand .u32 x_55 (IntKind.u32.wrap (x_55 - 1))), l_99))) (some (.inr l_56))) (x0, ([] : LI))).bind fun l_81 => some l_81
def D.u (a:LI):Option LI:=
 (Dd (0:Int) 0 (a.length:Int)).bind λd=>(Aw (σ:=LI×Int) (ρ:=LI) (fun(c,b)=>cond (decide (b<(a.length:Int))) ((idx a b).bind λf=>(AU c ([f]:LI)).bind λg=>some (.inl (g,(i64.wrap (b+1))))) (some (.inr c))) (d,0)).bind λh=>some h
def D.s1 (a:Int):Option LI:=
 (D.r a).bind λb=>(D.u b).bind λc=>some c
def D.O1 (a:LI):Option (Bool):=
 some (decide ((4096:Int)<(a.length:Int)))
def D.v1 (a:LI)(d:Int):Option (LI×Int×Int):=
 (Aw (σ:=Int×Int) (ρ:=(Int)) (fun(b,c)=>cond (decide (b<(a.length:Int))) ((idx a b).bind λf=>some (.inl ((i64.wrap (b+1)),(IntKind.u64.wrap ((IntKind.u64.wrap ((IntKind.u64.wrap (c*1099511628211))+(IntKind.u64.wrap f)))+3))))) (some (.inr c))) (0,(IntKind.u64.wrap ((IntKind.u64.wrap (d*7919))+(IntKind.u64.wrap (a.length:Int)))))).bind λg=>some (a,0,g)
def D.Z0 (a:LI)(b c d:Int):Option (Int×LI×Int×Int):=
 cond (decide (b<(a.length:Int))) ((idx a b).bind λe=>cond (d==0) none (some ((Int.tmod (i64.wrap ((i64.wrap (iand .u64 (BL .u64 (IntKind.u64.wrap ((IntKind.u64.wrap (c*6364136223846793005))+1442695040888963407)) 33) 16777215))+(i64.wrap e))) d),a,(i64.wrap (b+1)),(IntKind.u64.wrap ((IntKind.u64.wrap (c*6364136223846793005))+1442695040888963407))))) (cond (d==0) none (some ((Int.tmod (i64.wrap (iand .u64 (BL .u64 (IntKind.u64.wrap ((IntKind.u64.wrap (c*6364136223846793005))+1442695040888963407)) 33) 16777215)) d),a,b,(IntKind.u64.wrap ((IntKind.u64.wrap (c*6364136223846793005))+1442695040888963407)))))
def D.n (c:Int):Option LL:=
 (Aw (σ:=Int×LL) (ρ:=LL) (fun(a,b)=>cond (decide (a<c)) ((AU b ([([]:LI)]:LL)).bind λe=>some (.inl ((i64.wrap (a+1)),e))) (some (.inr b))) (0,([]:LL))).bind λf=>some f
def D.k (b:LL)(a c:Int):Option LL:=
 (idx b a).bind λe=>(D.t e c).bind λd=>(idx b a).bind λh=>(idx (b.set (Int.toNat a) d) c).bind λf=>(D.t f a).bind λg=>(idx (b.set (Int.toNat a) d) c).bind λi=>some ((b.set (Int.toNat a) d).set (Int.toNat c) g)
def D.O (c:LL):Option LL:=
 (Aw (σ:=LL×Int) (ρ:=LL) (fun(e,a)=>(D.c c).bind λg=>cond (decide (a<g)) ((Aw (σ:=LL×Int) (ρ:=LL) (fun(d,b)=>(idx c a).bind λi=>cond (decide (b<(i.length:Int))) ((idx c a).bind λj=>(idx j b).bind λk=>cond (decide (a<k)) ((idx c a).bind λl=>(idx l b).bind λm=>(AU d ([([a,m]:LI)]:LL)).bind λn=>some (.inl (n,(i64.wrap (b+1))))) (some (.inl (d,(i64.wrap (b+1)))))) (some (.inr d))) (e,0)).bind λo=>some (.inl (o,(i64.wrap (a+1))))) (some (.inr e))) (([]:LL),0)).bind λp=>some p
def D.U1 (a:Int):Option (Int):=
 cond (decide (a<0)) none (some (IntKind.u32.wrap ((ishl .u32 1 a)-1)))
def D.o0 (a:LI):Option (Int):=
 (D.U1 (a.length:Int)).bind λb=>some b
def D.g0 (b:LI):Option LL:=
 (Aw (σ:=Int×LL) (ρ:=LL) (fun(a,c)=>cond (decide (a<(b.length:Int))) ((idx b a).bind λe=>(D.s1 e).bind λf=>(AU c ([f]:LL)).bind λg=>some (.inl ((i64.wrap (a+1)),g))) (some (.inr c))) (0,([]:LL))).bind λh=>some h
def D.e1 (d:LL):Option LL:=
 (Aw (σ:=LL×Int) (ρ:=LL) (fun(e,a)=>cond (decide (a<(d.length:Int))) ((idx d a).bind λf=>(Aw (σ:=LL×Int) (ρ:=LL) (fun(c,b)=>cond (decide (b<(f.length:Int))) ((idx f b).bind λg=>cond (decide (a<g)) ((AU c ([([a,g]:LI)]:LL)).bind λj=>some (.inl (j,(i64.wrap (b+1))))) (some (.inl (c,(i64.wrap (b+1)))))) (some (.inr c))) (e,0)).bind λk=>some (.inl (k,(i64.wrap (a+1))))) (some (.inr e))) (([]:LL),0)).bind λl=>some l
def D.i (a:LL)(b c:Int):Option (Bool):=
 (idx a b).bind λd=>(D.P d c).bind λe=>some e
def D.P1 (a:LL):Option LL:=
 (D.q a).bind λb=>cond (!b) (some ([]:LL)) ((D.O a).bind λc=>some c)
def D.E0 (a:LL)(b c:Int):Option (Bool):=
 (D.q a).bind λd=>(cond d ((D.s a b).bind λe=>some e) (some false)).bind λf=>(cond f ((D.s a c).bind λg=>some g) (some false)).bind λh=>(cond h ((D.i a b c).bind λi=>some i) (some false)).bind λj=>some j
def D.q1 (a:Int):Option (Int):=
 (ET Fc (BL .u32 a 24)).bind λb=>(ET Fc (iand .u32 (BL .u32 a 16) 255)).bind λc=>(ET Fc (iand .u32 (BL .u32 a 8) 255)).bind λd=>(ET Fc (iand .u32 a 255)).bind λe=>some (i64.wrap (IntKind.u8.wrap ((IntKind.u8.wrap ((IntKind.u8.wrap (b+c))+d))+e)))
def D.C (a:Int):Option (Int):=
 (D.q1 a).bind λb=>some b
def D.D1 (c:Int):Option LI:=
 (Aw (σ:=LI×Int) (ρ:=LI) (fun(b,a)=>cond (decide (a<c)) ((AU b ([a]:LI)).bind λe=>some (.inl (e,(i64.wrap (a+1))))) (some (.inr b))) (([]:LI),0)).bind λf=>some f
def D.V0 (a b:Int):Option (Int):=
 cond (decide (b<a)) (some a) (some b)
end
end Go.Sx

namespace Go.Sx
noncomputable section
def D.K1 (a:LL)(b:LI):Option (Bool):=
 (D.q a).bind λc=>(cond c ((D.c a).bind λd=>(D.Q0 b d).bind λe=>some e) (some false)).bind λf=>some f
def D.i1 (b a:Int):Option (Bool):=
 cond (decide (a<0)) none (some ((iand .u32 (BL .u32 b a) 1)==1))
end
end Go.Sx

namespace Go.Sx
open IntKind
noncomputable def D.f0 (b:LL):Option LL:=
 (Aw (σ:=Int×LL) (ρ:=LL) (fun(a,c)=>cond (decide (a<(b.length:Int))) ((idx b a).bind λe=>(D.j e).bind λf=>(AU c ([f]:LL)).bind λg=>some (.inl ((i64.wrap (a+1)),g))) (some (.inr c))) (0,([]:LL))).bind λh=>some h
end Go.Sx

namespace Go.Sx
noncomputable def D.o (a:Int):Option (Bool):=
 some (a !=a)
end Go.Sx

namespace Go.Sx
open IntKind
noncomputable section
def D.x1 (a:LI):Option (LI×Int×Int):=
 (Aw (σ:=Int×Int) (ρ:=(Int)) (fun(c,b)=>cond (decide (b<(a.length:Int))) ((idx a b).bind λe=>some (.inl ((iand .i64 (i64.wrap ((i64.wrap ((i64.wrap (c*331))+(i64.wrap e)))+11)) 1073741823),(i64.wrap (b+1))))) (some (.inr c))) ((i64.wrap (580031+(a.length:Int))),0)).bind λf=>some (a,0,f)
def D.B (b:LI)(c a:Int):Option (Int×LI×Int×Int):=
 cond (decide (c<(b.length:Int))) ((idx b c).bind λd=>some ((iand .i64 (i64.wrap ((iand .i64 (Bt .i64 (BL .i64 (i64.wrap ((i64.wrap (a*6364136223846793005))+1442695040888963407)) 33) (BL .i64 (i64.wrap ((i64.wrap (a*6364136223846793005))+1442695040888963407)) 45)) 255)+(i64.wrap d))) 255),b,(i64.wrap (c+1)),(i64.wrap ((i64.wrap (a*6364136223846793005))+1442695040888963407)))) (some ((iand .i64 (Bt .i64 (BL .i64 (i64.wrap ((i64.wrap (a*6364136223846793005))+1442695040888963407)) 33) (BL .i64 (i64.wrap ((i64.wrap (a*6364136223846793005))+1442695040888963407)) 45)) 255),b,c,(i64.wrap ((i64.wrap (a*6364136223846793005))+1442695040888963407))))
def D.a (g:LI)(h i a:Int):Option (Int×LI×Int×Int):=
 cond (decide (a≤0)) (some (0,g,h,i)) (cond (decide (a≤256)) ((D.B g h i).bind λb=>cond (a==0) none (some ((Int.tmod b.1 a),b.2.1,b.2.2.1,b.2.2.2))) ((D.B g h i).bind λc=>(D.B c.2.1 c.2.2.1 c.2.2.2).bind λd=>(D.B d.2.1 d.2.2.1 d.2.2.2).bind λe=>(D.B e.2.1 e.2.2.1 e.2.2.2).bind λf=>cond (a==0) none (some ((Int.tmod (i64.wrap ((i64.wrap ((i64.wrap ((i64.wrap (c.1*16777216))+(i64.wrap (d.1*65536))))+(i64.wrap (e.1*256))))+f.1)) a),f.2.1,f.2.2.1,f.2.2.2))))
def D.m (b:LI)(c d e:Int):Option (Bool×LI×Int×Int):=
 (D.a b c d e).bind λa=>some ((a.1==0),a.2.1,a.2.2.1,a.2.2.2)
def D.B1 (b:LI)(c d:Int):Option (Int×LI×Int×Int):=
 (D.a b c d 10).bind λa=>(idx ([(-1),0,1,2147483648,(-2147483648),1099511627776,4611686018427387904,(-4611686018427387904),9223372036854775807,(-9223372036854775808)]:LI) a.1).bind λe=>some (e,a.2.1,a.2.2.1,a.2.2.2)
def D.V (a b:Int):Option (Int):=
 cond (decide (a<b)) (some a) (some b)
def D.F0 (h:LI)(i j c:Int):Option (Int×LI×Int×Int):=
 (D.m h i j 10).bind λa=>cond a.1 ((D.B1 a.2.1 a.2.2.1 a.2.2.2).bind λd=>(D.a d.2.1 d.2.2.1 d.2.2.2 4).bind λe=>(idx ([(-1),c,(i64.wrap (c+1)),d.1]:LI) e.1).bind λk=>some (k,e.2.1,e.2.2.1,e.2.2.2)) ((D.m a.2.1 a.2.2.1 a.2.2.2 2).bind λb=>cond b.1 ((D.V c 4).bind λl=>(D.a b.2.1 b.2.2.1 b.2.2.2 (i64.wrap (l+1))).bind λf=>some (f.1,f.2.1,f.2.2.1,f.2.2.2)) ((D.a b.2.1 b.2.2.1 b.2.2.2 (i64.wrap (c+1))).bind λg=>some (g.1,g.2.1,g.2.2.1,g.2.2.2)))
def D.t1 (a:LI)(d:Int):Option LI:=
 (Aw (σ:=Int) (ρ:=(Int)) (fun(b:Int)=>(cond (decide (b<(a.length:Int))) ((idx a b).bind λe=>some (decide (e<d))) (some false)).bind λf=>cond f (some (.inl (i64.wrap (b+1)))) (some (.inr b))) 0).bind λc=>(cond (decide (c<(a.length:Int))) ((idx a c).bind λg=>some (g==d)) (some false)).bind λh=>cond h (some a) ((Ck a 0 c).bind λi=>(D.j i).bind λj=>(AU j ([d]:LI)).bind λk=>(Ck a c (a.length:Int)).bind λl=>(AU k l).bind λm=>some m)
def D.Y (c:Int):Option LL:=
 (Aw (σ:=Int×LL) (ρ:=LL) (fun(a,b)=>cond (decide (a<c)) ((AU b [([]:LI)]).bind λe=>some (.inl ((i64.wrap (a+1)),e))) (some (.inr b))) (0,([]:LL))).bind λf=>some f
def D.C0 (b:LL)(a c:Int):Option LL:=
 (idx b a).bind λe=>(D.t1 e c).bind λd=>(idx b a).bind λh=>(idx (b.set (Int.toNat a) d) c).bind λf=>(D.t1 f a).bind λg=>(idx (b.set (Int.toNat a) d) c).bind λi=>some ((b.set (Int.toNat a) d).set (Int.toNat c) g)
def D.N1 (a:Int):Option (LL×Bool):=
 (D.f a 1 16).bind λb=>cond (!b) (some (([]:LL),false)) ((D.Y a).bind λc=>some (c,true))
def D.J0 (c:Int):Option (LL×Bool):=
 (D.N1 c).bind λb=>(Aw (σ:=Int×LL) (ρ:=LL) (fun(a,d)=>cond ((decide (a<c))&&b.2) ((D.C0 d (i64.wrap (a-1)) a).bind λf=>some (.inl ((i64.wrap (a+1)),f))) (some (.inr d))) (1,b.1)).bind λg=>some (g,b.2)
def D.H1 (a:Int):Option (LL×Bool):=
 (D.J0 a).bind λb=>cond ((!b.2)||(decide (a<3))) (some (([]:LL),false)) ((D.C0 b.1 0 (i64.wrap (a-1))).bind λc=>some (c,true))
def D.k1 (n:LI)(o p f:Int):Option (LL×LI×Int×Int):=
 (D.Y f).bind λq=>(D.a n o p 3).bind λb=>(Aw (σ:=Int×LI×Int×Int×LL) (ρ:=(LL×LI×Int×Int)) (fun(c,g,h,i,j)=>cond (decide (c<f)) ((Aw (σ:=Int×LI×Int×Int×LL) (ρ:=(LI×Int×Int×LL)) (fun(d,k,l,m,e)=>cond (decide (d<c)) ((D.a k l m 4).bind λa=>cond (decide (a.1<(i64.wrap (1+b.1)))) ((D.C0 e d c).bind λt=>some (.inl ((i64.wrap (d+1)),a.2.1,a.2.2.1,a.2.2.2,t))) (some (.inl ((i64.wrap (d+1)),a.2.1,a.2.2.1,a.2.2.2,e)))) (some (.inr (k,l,m,e)))) (0,g,h,i,j)).bind fun(u,v,w,x)=>some (.inl ((i64.wrap (c+1)),u,v,w,x))) (some (.inr (j,g,h,i)))) (1,b.2.1,b.2.2.1,b.2.2.2,q)).bind fun(y,z,aa,ab)=>some (y,z,aa,ab)
def D.C1 (f:LI)(g h:Int):Option (LL×LI×Int×Int):=
 (D.a f g h 6).bind λa=>cond (a.1==0) ((D.a a.2.1 a.2.2.1 a.2.2.2 4).bind λb=>(D.H1 (i64.wrap (3+b.1))).bind λi=>some (i.1,b.2.1,b.2.2.1,b.2.2.2)) (cond (a.1==1) ((D.a a.2.1 a.2.2.1 a.2.2.2 6).bind λc=>(D.J0 (i64.wrap (1+c.1))).bind λj=>some (j.1,c.2.1,c.2.2.1,c.2.2.2)) ((D.a a.2.1 a.2.2.1 a.2.2.2 7).bind λd=>(D.k1 d.2.1 d.2.2.1 d.2.2.2 (i64.wrap (1+d.1))).bind λe=>some (e.1,e.2.1,e.2.2.1,e.2.2.2)))
def D.a1 (g:LI)(h i:Int):Option (LL×LI×Int×Int):=
 (D.C1 g h i).bind λb=>(D.m b.2.1 b.2.2.1 b.2.2.2 12).bind λd=>cond d.1 ((D.a d.2.1 d.2.2.1 d.2.2.2 (b.1.length:Int)).bind λc=>(D.a c.2.1 c.2.2.1 c.2.2.2 5).bind λa=>cond (a.1==0) ((((idx b.1 c.1).bind λj=>(D.F0 a.2.1 a.2.2.1 a.2.2.2 16).bind λe=>(AU j ([e.1]:LI)).bind λk=>(idx b.1 c.1).bind λq=>some ((b.1.set (Int.toNat c.1) k),e.2.1,e.2.2.1,e.2.2.2):Option (LL×LI×Int×Int))).bind fun(l,m,n,o)=>some (l,m,n,o)) (cond (a.1==1) ((idx b.1 c.1).bind λr=>some ((b.1.set (Int.toNat c.1) ([c.1]:LI)),a.2.1,a.2.2.1,a.2.2.2)) (cond (a.1==2) ((D.a a.2.1 a.2.2.1 a.2.2.2 2).bind λf=>(D.Y (i64.wrap (16+f.1))).bind λp=>some (p,f.2.1,f.2.2.1,f.2.2.2)) (cond (a.1==3) (some (([]:LL),a.2.1,a.2.2.1,a.2.2.2)) (cond (a.1==4) ((idx b.1 c.1).bind λs=>some ((b.1.set (Int.toNat c.1) ([]:LI)),a.2.1,a.2.2.1,a.2.2.2)) (some (b.1,a.2.1,a.2.2.1,a.2.2.2))))))) (some (b.1,d.2.1,d.2.2.1,d.2.2.2))
def D.j1 (c:LI)(d e:Int)(b f:Int):Option (Int×LI×Int×Int):=
 (D.a c d e (i64.wrap ((i64.wrap (f-b))+1))).bind λa=>some ((i64.wrap (b+a.1)),a.2.1,a.2.2.1,a.2.2.2)
def D.L0 (k:LI)(l m:Int)(n:LL):Option (LI×LI×Int×Int):=
 (D.D1 (n.length:Int)).bind λo=>(Aw (σ:=LI×LI×LI×Int×Int) (ρ:=(LI×LI×Int×Int)) (fun(b,g,h,i,j)=>cond (decide ((0:Int)<(b.length:Int))) ((D.a h i j (b.length:Int)).bind λc=>(idx b c.1).bind λq=>(AU g ([q]:LI)).bind λr=>(Ck b 0 c.1).bind λs=>(Ck b (i64.wrap (c.1+1)) (b.length:Int)).bind λt=>(D.j s).bind λu=>(AU u t).bind λv=>some (.inl (v,r,c.2.1,c.2.2.1,c.2.2.2))) (some (.inr (g,h,i,j)))) (o,([]:LI),k,l,m)).bind fun(d,w,x,y)=>(D.m w x y 15).bind λa=>cond (a.1&&(decide ((0:Int)<(d.length:Int)))) ((D.a a.2.1 a.2.2.1 a.2.2.2 (d.length:Int)).bind λe=>(D.j1 e.2.1 e.2.2.1 e.2.2.2 (-1) 7).bind λf=>(idx d e.1).bind λz=>some ((d.set (Int.toNat e.1) f.1),f.2.1,f.2.2.1,f.2.2.2)) (some (d,a.2.1,a.2.2.1,a.2.2.2))
end
end Go.Sx

namespace Go.Sx
end Go.Sx

namespace Go.Sx
noncomputable def D.F (b:LI)(a c:Int):Option LI:=
 (idx b a).bind λd=>(D.e c).bind λe=>(idx b a).bind λh=>(idx (b.set (Int.toNat a) (ior .u32 d e)) c).bind λf=>(D.e a).bind λg=>(idx (b.set (Int.toNat a) (ior .u32 d e)) c).bind λi=>some ((b.set (Int.toNat a) (ior .u32 d e)).set (Int.toNat c) (ior .u32 f g))
section
variable {W w : World} {G : GH} {H : List Itm}
theorem CW {v:Value}{t1 t2:TypeId}{rows:List (Value×List Value)}{k i:Nat}{h:Itm}(hi:((parts v t1 t2 rows).eraseIdx k)[i]? =some h):h.foot=h.foot0∧∀w,h.ok w↔h.ok0 w:=by
 rw[List.getElem?_eraseIdx] at hi
 split at hi
 ·exact Cy hi
 ·exact Cy hi
theorem Mem.hole {v:Value}{t1 t2:TypeId}{rows:List (Value×List Value)}{k:Nat}:Mem W G w (.hole v t1 t2 rows k::H)↔Mem W G w ((parts v t1 t2 rows).eraseIdx (k+1)++H):=by
 refine Mem.group (λx=> ?_) ?_
 ·show x∈((parts v t1 t2 rows).eraseIdx (k+1)).flatMap Itm.foot0↔_
  rw[List.mem_flatMap]
  constructor
  ·rintro⟨h,hh,hx⟩
   obtain⟨i,hi,he⟩:=List.getElem_of_mem hh
   have hi':((parts v t1 t2 rows).eraseIdx (k+1))[i]? =some h:=by rw[List.getElem?_eq_getElem hi,he]
   exact⟨i,h,hi',by rw[(CW hi').1];exact hx⟩
  ·rintro⟨i,h,hi,hx⟩
   exact⟨h,List.mem_of_getElem? hi,by rw[←(CW hi).1];exact hx⟩
 ·constructor
  ·rintro⟨h1,h2⟩
   exact⟨λi h hi=>((CW hi).2 w).2 (h1 i h hi),λi j a b hij ha hb=>by rw[(CW ha).1,(CW hb).1];exact h2 i j a b hij ha hb⟩
  ·rintro⟨h1,h2⟩
   exact⟨λi h hi=>((CW hi).2 w).1 (h1 i h hi),λi j a b hij ha hb=>by rw[←(CW ha).1,←(CW hb).1];exact h2 i j a b hij ha hb⟩
end
def OwH {α:Type}(R:Rep α)(t1 t2:TypeId)(i:Int)(G:GH)(it:Itm)(v:Value)(xs:List (List α)):Prop:=
 ∃rows:List (Value×List Value),it= .hole v t1 t2 rows i.toNat∧0≤i∧i.toNat<xs.length∧rows.length=xs.length∧∀(k:Nat) (r:Value×List Value) (x:List α),k≠i.toNat→rows[k]? =some r→xs[k]? =some x→All2 (R G) r.2 x
section
variable {α : Type} {R : Rep α} {t1 t2 : TypeId} {W w : World} {G : GH} {it : Itm} {H : List Itm} {v c : Value} {xs : List (List α)} {e : List α} {i : Int}
theorem OwH.mono (hR:DA R){G':GH}(hG:GLe G G')(h:OwH R t1 t2 i G it v xs):OwH R t1 t2 i G' it v xs:=by
 obtain⟨rows,h1,h2,h3,h4,h5⟩:=h
 exact⟨rows,h1,h2,h3,h4,λk r x hk hr hx=>(h5 k r x hk hr hx).mono (λv x=>hR G G' v x hG)⟩
theorem Ow2.out (h:Ow2 R t1 t2 G it v xs)(m:Mem W G w (it::H))(hi:idx xs i=some e)(hc:Head it i c):
  ∃it' inn,Mem W G w (it'::inn::H)∧OwH R t1 t2 i G it' v xs∧Ow R t2 G inn c e:=by
 obtain⟨rows,rfl,hl,hA⟩:=h
 obtain⟨v0,s1,s2,rows0,r,e0,hr,rfl⟩:=hc
 cases e0
 obtain⟨g0,g1,g2⟩:=CG hi
 have hlt:i.toNat<rows.length:=by omega
 have m2:=Mem.deep.1 m
 have hpl:i.toNat+1<(parts v t1 t2 rows).length:=by simp[parts];omega
 have hp:(parts v t1 t2 rows++H)[i.toNat+1]? =some (Cm t2 r):=by
  rw[List.getElem?_append_left hpl];simp[parts,hr]
 have m3:=m2.front (i.toNat+1) hp
 rw[DD hpl] at m3
 have m4:Mem W G w ((parts v t1 t2 rows).eraseIdx (i.toNat+1)++(Cm t2 r::H)):=by
  have hll:(((parts v t1 t2 rows).eraseIdx (i.toNat+1))).length≤((parts v t1 t2 rows).eraseIdx (i.toNat+1)++H).length:=by simp
  have:=m3.back _ hll
  rwa [List.take_left,List.drop_left] at this
 have hAr:=hA _ r e hr g2
 exact⟨_,_,Mem.hole.2 m4,⟨rows,rfl,g0,by omega,hl,λk r x _ hr hx=>hA k r x hr hx⟩,⟨r.2,by simp[Cm,hAr.1],hAr⟩⟩
end
section
variable {P : Program} {ops : Array Oper} {rest : List Oper} {n r : Bn} {x : List (Nat × Bn)} {a : Act} {w W : World} {G : GH} {H : List Itm} {N : Nat} {L : Bw}
variable {d : Nat} {t : TypeId} {pos : String} {af : Array Edge} {α : Type} {R : Rep α} {t1 t2 : TypeId} {xs : List (List α)} {v : Value}
theorem heads_hole {v:Value}{rows:List (Value×List Value)}{k:Nat}(m:Mem W G w ((parts v t1 t2 rows).eraseIdx (k+1)++H)):w.ownsRow 0 t1 1 v rows.length (rows.map (·.1)):=by
 have:=m.items 0 (.row v t1 1 rows.length (rows.map (·.1))) (by simp[parts])
 exact this
theorem CY {it:Itm}{u e bytes:Nat}{z:Value}{xo io:Operand}{k:IntKind}{i ii:Int}{y:List α}(j:Nat)(m:Mem W G w H)(h:OwH R t1 t2 ii G it v xs)(hj:H[j]? =some it)
  (hu:SlT P u e 1 bytes z) (f:Fr a N L) (hN:Nat.blt d N=true) (hx:AN L xo=some v) (hi:AN L io=some (.int k i)) (he:idx xs i=some y)
  (q:∀p a',Dx v p i→Fr a' N ((d,p)::L)→wpList P ops (Qk n x r) rest a' w):
  wpList P ops (Qk n x r) (⟨some d,.indexAddr u xo io,t,pos,af,none⟩::rest) a w:=by
 obtain⟨g0,g1,_⟩:=CG he
 obtain⟨rows,rfl,_,_,hl,_⟩:=h
 have m2:=Mem.hole.1 (m.front j hj)
 have hr:=heads_hole m2
 have hlt:i.toNat<rows.length:=by omega
 rcases hr.2 with⟨_,e2⟩|⟨g,cap,cur,e1,_,eh,e2,e3,e4,e5⟩
 ·omega
 ·subst e1
  refine Ce f rfl rfl hN (CR (f.eval hx) (f.eval hi) hu g0 (by omega)) λa' f'=> ?_
  exact q _ a' ⟨g,_,cap,rfl,by rw[BQ,Nat.mul_one,Nat.zero_add]⟩ f'
theorem Cz {u:Nat}{dp inn:Itm}{p h:Value}{e:List α}{i:Int}{xo yo:Operand}(m:Mem W G w (dp::inn::H))(hd:OwH R t1 t2 i G dp v xs)(hi:Ow R t2 G inn h e)
  (hz:∀w,(sizeOf u).run P w= .ok 1 w) (f:Fr a N L) (hx:AN L xo=some p) (hy:AN L yo=some h) (ha:Dx v p i)
  (q:∀dp' w',Mem W G w' (dp'::H)→Ow2 R t1 t2 G dp' v (xs.set i.toNat e)→wpList P ops (Qk n x r) rest a w'):
  wpList P ops (Qk n x r) (⟨none,.store u xo yo,t,pos,af,none⟩::rest) a w:=by
 obtain⟨rows,rfl,hi0,hil,hl,hA⟩:=hd
 have h1:h.cells= #[h]:=Ow.cells 1 m hi rfl
 have h2:h.oneCell'=true:=Ow.one1 1 m hi rfl
 obtain⟨vs,rfl,hiA⟩:=inner_of hi
 have m2:=Mem.hole.1 m
 have hro:=heads_hole m2
 have g1':i.toNat<rows.length:=by omega
 obtain⟨b,mm,cc,e1,rfl⟩:=ha
 subst e1
 rcases hro.2 with⟨hn,_⟩|⟨g,cap,cur,e1,_,eh,e2,e3,e4,e5⟩
 ·cases hn
 ·cases e1
  simp only[Nat.mul_one] at e4 e5
  have hr:=r_store (P:=P) (ρ:=a.eval) (w:=w) (d:=none) (t:=t) (pos:=pos) (af:=af) (gd:=none) (u:=u) (off:=i.toNat) (f.eval hx) (f.eval hy) (by rw[h1];exact hz) eh (by rw[h1];simp;omega) (by rw[h1];simpa using h2)
  refine l_void rfl rfl hr ?_
  rw[h1]
  simp only[List.size_toArray,List.length_cons,List.length_nil,Nat.zero_add]
  have hset:cur.toList.take i.toNat++[h]++cur.toList.drop (i.toNat+1)=cur.toList.set i.toNat h:=by
   rw[List.set_eq_take_append_cons_drop,if_pos (by simp;omega)];simp
  rw[hset]
  have m3:=m2.changeAt (h:= .row (.slice (some ⟨b,0,none⟩) rows.length cc) t1 1 rows.length (rows.map (·.1))) (h':= .row (.slice (some ⟨b,0,none⟩) rows.length cc) t1 1 rows.length ((rows.map (·.1)).set i.toNat h)) (w':=w.setRow b ((cur.toList.set i.toNat h).toArray)) 0 (by simp[parts]) rfl rfl rfl (λz _ hz'=>setRow_other w b z _ (by simpa [Itm.foot,Value.ownBlock] using hz'))
   ⟨by simp,.inr ⟨b,cc,_,rfl,Nat.zero_le _,setRow_heap w b cur _ t1 _ eh,e2,e3,by simp[e4],by simp only[Nat.mul_one];rw[←e5,List.take_set]⟩⟩ (λz hz'=> .inl hz')
  have e6:((parts (.slice (some ⟨b,0,none⟩) rows.length cc) t1 t2 rows).eraseIdx (i.toNat+1)++Cm t2 (h,vs)::H).set 0 (.row (.slice (some ⟨b,0,none⟩) rows.length cc) t1 1 rows.length ((rows.map (·.1)).set i.toNat h))
    =(.row (.slice (some ⟨b,0,none⟩) rows.length cc) t1 1 rows.length ((rows.map (·.1)).set i.toNat h)::(rows.map (Cm t2)).eraseIdx i.toNat)++Cm t2 (h,vs)::H:=by
   simp[parts]
  rw[e6] at m3
  have m4:=m3.front ((rows.map (Cm t2)).eraseIdx i.toNat).length.succ (x:=Cm t2 (h,vs)) (by rw[List.getElem?_append_right (by simp)];simp)
  rw[List.eraseIdx_append_of_length_le (by simp)] at m4
  simp only[List.length_cons,Nat.succ_eq_add_one,Nat.sub_self,List.eraseIdx_cons_zero] at m4
  have m5:=m4.back (i.toNat+1) (by simp[List.length_eraseIdx,g1'];omega)
  have e7:((Itm.row (.slice (some ⟨b,0,none⟩) rows.length cc) t1 1 rows.length ((rows.map (·.1)).set i.toNat h)::(rows.map (Cm t2)).eraseIdx i.toNat)++H).take (i.toNat+1)++Cm t2 (h,vs)::
    ((Itm.row (.slice (some ⟨b,0,none⟩) rows.length cc) t1 1 rows.length ((rows.map (·.1)).set i.toNat h)::(rows.map (Cm t2)).eraseIdx i.toNat)++H).drop (i.toNat+1)=parts (.slice (some ⟨b,0,none⟩) rows.length cc) t1 t2 (rows.set i.toNat (h,vs))++H:=by
   have e8:(Itm.row (.slice (some ⟨b,0,none⟩) rows.length cc) t1 1 rows.length ((rows.map (·.1)).set i.toNat h)::(rows.map (Cm t2)).eraseIdx i.toNat)++H=((Itm.row (.slice (some ⟨b,0,none⟩) rows.length cc) t1 1 rows.length ((rows.map (·.1)).set i.toNat h)::rows.map (Cm t2))++H).eraseIdx (i.toNat+1):=by
    rw[DD (by simp;omega)];rfl
   rw[e8,DP _ _ _ (by simp;omega),List.set_append,if_pos (by simp;omega)]
   congr 1
   simp[parts,List.map_set]
  rw[e7] at m5
  refine q _ _ (Mem.deep.2 m5) ⟨_,by simp only at*;first|rfl|(rw[hl]),by simp[hl],λk r0 x0 hr hx0=> ?_⟩
  rw[List.getElem?_set] at hr hx0
  by_cases hk:i.toNat=k
  ·subst hk
   simp[g1'] at hr
   rw[if_pos rfl,if_pos hil] at hx0
   subst hr;cases hx0
   exact hiA
  ·rw[if_neg hk] at hr hx0
   exact hA k r0 x0 (λe=>hk e.symm) hr hx0
end
theorem DY {P : Program} {id : Nat} {l : List Oper} {nn r : Bn} {x : List (Nat × Bn)} {a : Act} {w W : World} {G : GH} (E H : List Itm) (n : Nat) (hm : P.follows .mixedOrders = true) (hb : Dn l.toArray n [] = true) (m : Mem W G w (E ++ H))
    (h : AnyB W P l.toArray (Qk nn x r) (fun a w => wpList P l.toArray (Qk nn x r) (l.drop n) a w) H n G E (Array.replicate l.length false) a) : (Code.region id l.toArray true).wp P (Qk nn x r) a w := by
  have hn := (C3 hb).2.1
  refine wp_region_any hm ?_
  have hcl : Cl W G (E ++ H) { w with drawn := w.drawn + 1 } := ⟨G, GLe.refl G, m.congr rfl rfl rfl rfl⟩
  have hzero : ∀ k, (Array.replicate l.length false).getD k true = if k < l.length then false else true := fun k => by
    by_cases hk : k < l.length
    · simp [hk]
    · simp [hk]
  have hun : ∀ k, k ≤ l.length → unl (Array.replicate l.length false) k = k := by
    intro k
    induction k with
    | zero => intro _; rfl
    | succ k ih => intro hk; simp only [unl, ih (by omega), hzero]; rw [if_pos (show k < l.length from by omega)]; rfl
  have L : Lst l.toArray n [] n (Array.replicate l.length false) := ⟨by simp, by simp, hun n (by simpa using hn), fun t _ h2 => by rw [hzero, if_pos (by simpa using h2)], fun j hj hl => by
    rw [hzero, if_pos (by have : n ≤ l.length := by simpa using hn
                          omega)] at hl; cases hl⟩
  have := AnyB.sound (P := P) (W := W) (Q := Qk nn x r) hb (l.toArray.size - n) (T := fun a w => wpList P l.toArray (Qk nn x r) (l.drop n) a w) (fun listed a w L h =>
    F4 hb (l.toArray.size - n) n listed a w (Nat.le_refl _) rfl hn L.size (unl_zero L.count) L.tail (by simpa using h)) n G E _ a _ L hcl h
  have e : n + (l.toArray.size - n) = l.toArray.size := by omega
  rw [e] at this
  simpa using this
end Go.Sx

namespace Go.Sx
structure Rec (α:Type) where
 m:Nat
 enc:α→List Value
 len:∀x,(enc x).length=m
 pos:0<m
 one:∀x c,c∈enc x→c.oneCell'=true
def P2 :Rec (Int×Int):=⟨2,λx=>[.int .i64 x.1,.int .i64 x.2],λ_=>rfl,by decide,λx c h=>by simp at h;rcases h with rfl|rfl<;>rfl⟩
section
variable {α : Type} (E : Rec α)
theorem Rec.size (xs:List α):(xs.flatMap E.enc).length=xs.length*E.m:=by
 induction xs with
 |nil=>simp
 |cons x xs ih=>rw[List.flatMap_cons,List.length_append,ih,E.len,List.length_cons,Nat.succ_mul];omega
theorem Rec.get :∀(xs:List α) (i:Nat) (x:α) (j:Nat) (c:Value),xs[i]? =some x→(E.enc x)[j]? =some c→(xs.flatMap E.enc)[i*E.m+j]? =some c
 |[],i,x,j,c,hx,_=>by simp at hx
 |y::xs,0,x,j,c,hx,hc=>by
  simp at hx;subst hx
  have hj:=(List.getElem?_eq_some_iff.1 hc).1
  rw[List.flatMap_cons,Nat.zero_mul,Nat.zero_add,List.getElem?_append_left hj];exact hc
 |y::xs,i+1,x,j,c,hx,hc=>by
  simp at hx
  have ih:=Rec.get xs i x j c hx hc
  rw[List.flatMap_cons,List.getElem?_append_right (by rw[E.len,Nat.succ_mul];omega),E.len,Nat.succ_mul]
  rwa [show i*E.m+E.m+j-E.m=i*E.m+j by omega]
end
def RSr {α:Type}(E:Rec α):Rep (List α):=λG v xs=>
 (v= .slice none 0 0∧xs=[])∨∃a cap,v= .slice (some a) xs.length cap∧xs.length≤cap∧cap≤maxLen∧
  ∀(k:Nat) (c:Value),(xs.flatMap E.enc)[k]? =some c→a.spot=Option.none∧Cell G a.block (a.off+k) c
section
variable {α : Type} {E : Rec α}
theorem RSr.mono (_:True):DA (RSr E):=by
 rintro G G' v xs hG (h|⟨a,cap,h1,h2,h3,h4⟩)
 ·exact .inl h
 ·exact .inr ⟨a,cap,h1,h2,h3,λk c hc=>⟨(h4 k c hc).1,(h4 k c hc).2.mono hG⟩⟩
theorem RSr.len {G:GH}{v:Value}{xs:List α}(h:RSr E G v xs):∃a c,v= .slice a xs.length c∧xs.length≤c∧c≤maxLen:=by
 rcases h with⟨rfl,rfl⟩|⟨a,cap,rfl,h1,h2,_⟩
 ·exact⟨none,0,rfl,by simp,by simp[maxLen]⟩
 ·exact⟨_,cap,rfl,h1,h2⟩
def AtR (E:Rec α)(G:GH)(p:Value)(x:α):Prop:=∃b o,p= .pointer (some ⟨b,o,none⟩)∧∀(j:Nat) (c:Value),(E.enc x)[j]? =some c→Cell G b (o+j) c
theorem AtR.mono {G G':GH}(h:GLe G G'){p:Value}{x:α}(k:AtR E G p x):AtR E G' p x:=by
 obtain⟨b,o,e,hc⟩:=k
 exact⟨b,o,e,λj c hj=>(hc j c hj).mono h⟩
theorem RSr.at {G:GH}{v:Value}{xs:List α}(h:RSr E G v xs){i:Int}{x:α}(he:idx xs i=some x):
  ∃b off n c,v= .slice (some ⟨b,off,none⟩) n c∧0≤i∧i<n∧∀(j:Nat) (c:Value),(E.enc x)[j]? =some c→Cell G b (off+i.toNat*E.m+j) c:=by
 obtain⟨h0,h1,h2⟩:=CG he
 rcases h with⟨_,rfl⟩|⟨⟨b,off,sp⟩,cap,rfl,_,_,h4⟩
 ·simp at h2
 ·have hl0:0<(E.enc x).length:=by rw[E.len];exact E.pos
  have hs:=(h4 _ _ (E.get xs _ x 0 (E.enc x)[0] h2 (by simp[hl0]))).1
  dsimp only at hs h4
  subst hs
  refine⟨b,off,_,cap,rfl,h0,h1,λj c hc=> ?_⟩
  rw[Nat.add_assoc]
  exact(h4 _ c (E.get xs _ x j c h2 hc)).2
def OwR (E:Rec α)(t:TypeId)(_:GH)(it:Itm)(v:Value)(xs:List α):Prop:=it= .row v t E.m xs.length (xs.flatMap E.enc)
theorem OwR.mono (_:True){t:TypeId}{G G':GH}{it:Itm}{v:Value}{xs:List α}(_:GLe G G')(h:OwR E t G it v xs):OwR E t G' it v xs:=h
theorem OwR.has {t:TypeId}{W w:World}{G G':GH}{it:Itm}{H:List Itm}{v:Value}{xs:List α}(h:OwR E t G it v xs)(m:Mem W G' w H){j:Nat}(hj:H[j]? =some it):w.ownsRow 0 t E.m v xs.length (xs.flatMap E.enc):=by
 subst h;exact m.items j _ hj
theorem OwR.len {t:TypeId}{W w:World}{G G':GH}{it:Itm}{H:List Itm}{v:Value}{xs:List α}(h:OwR E t G it v xs)(m:Mem W G' w H){j:Nat}(hj:H[j]? =some it):
  ∃a c,v= .slice a xs.length c∧xs.length≤c∧c≤maxLen:=by
 rcases(h.has m hj).2 with⟨h1,h2⟩|⟨g,cap,cur,h1,_,_,h2,h3,_⟩
 ·exact⟨none,0,by rw[h1,h2],by omega,by simp[maxLen]⟩
 ·exact⟨_,cap,h1,h2,h3⟩
theorem OwR.cells {t:TypeId}{W w:World}{G:GH}{it:Itm}{H:List Itm}{v:Value}{xs:List α}(j:Nat)(m:Mem W G w H)(h:OwR E t G it v xs)(hj:H[j]? =some it):v.cells= #[v]:=by
 obtain⟨a,c,rfl,_⟩:=h.len m hj;rfl
theorem OwR.reads {t:TypeId}{w:World}{G':GH}{it:Itm}{v:Value}{xs:List α}(h:it= .row v t E.m xs.length (xs.flatMap E.enc))(hok:it.ok w)(hG:∀x∈it.foot,G' x=w.heap[x]?):RSr E G' v xs:=by
 subst h
 have this:w.ownsRow 0 t E.m v xs.length (xs.flatMap E.enc):=hok
 rcases this.2 with⟨e1,e2⟩|⟨g,cap,cur,e1,_,eh,e2,e3,e4,e5⟩
 ·exact .inl ⟨e1,List.eq_nil_of_length_eq_zero e2⟩
 ·refine .inr ⟨⟨g,0,none⟩,cap,e1,e2,e3,λk c hc=>⟨rfl,cur,t,(0,0),?_,?_⟩⟩
  ·rw[hG g (by rw[e1];simp[Itm.foot,Value.ownBlock]),eh]
  ·rw[←e5,List.getElem?_take] at hc
   split at hc
   ·simpa using hc
   ·cases hc
theorem OwR.stamp (_:True){t:TypeId}{W w:World}{G:GH}{it:Itm}{H:List Itm}{v:Value}{xs:List α}(h:OwR E t G it v xs)(m:Mem W G w (it::H)):
  ∃G',GLe G G'∧Mem W G' w H∧RSr E G' v xs:=by
 obtain⟨G',h1,h2,h3,_⟩:=m.stamp
 exact⟨G',h1,h2,OwR.reads h (m.items 0 it (by simp)) h3⟩
end
section
variable {P : Program} {ops : Array Oper} {rest : List Oper} {n r : Bn} {x : List (Nat × Bn)} {a : Act} {w : World} {N : Nat} {L : Bw}
variable {d : Nat} {t : TypeId} {pos : String} {af : Array Edge} {W : World} {G : GH} {H : List Itm} {α : Type} {E : Rec α}
theorem l_lenR {v:Value}{xs:List α}{u e:Nat}{xo:Operand}(hu:P.underlying u=some (.slice e))(f:Fr a N L)(hN:Nat.blt d N=true)(hx:AN L xo=some v)(h:RSr E G v xs)
  (q:∀a',Fr a' N ((d,.int .i64 (xs.length:Int))::L)→wpList P ops (Qk n x r) rest a' w):
  wpList P ops (Qk n x r) (⟨some d,.call {callee:= .builtin .len,args:= #[xo],argTypes:= #[u]},t,pos,af,none⟩::rest) a w:=by
 obtain⟨b,c,rfl,_⟩:=h.len
 exact Ce f rfl rfl hN (D4 (f.eval hx) hu) q
theorem l_ownR_len {tt:TypeId}{it:Itm}{v:Value}{xs:List α}{u e:Nat}{xo:Operand}(j:Nat)(m:Mem W G w H)(h:OwR E tt G it v xs)(hj:H[j]? =some it)
  (hu:P.underlying u=some (.slice e)) (f:Fr a N L) (hN:Nat.blt d N=true) (hx:AN L xo=some v)
  (q:∀a',Fr a' N ((d,.int .i64 (xs.length:Int))::L)→wpList P ops (Qk n x r) rest a' w):
  wpList P ops (Qk n x r) (⟨some d,.call {callee:= .builtin .len,args:= #[xo],argTypes:= #[u]},t,pos,af,none⟩::rest) a w:=by
 obtain⟨b,c,rfl,_⟩:=h.len m hj
 exact Ce f rfl rfl hN (D4 (f.eval hx) hu) q
theorem l_atR {v:Value}{xs:List α}{u e bytes:Nat}{z:Value}{xo io:Operand}{k:IntKind}{i:Int}{e':α}
  (hu:SlT P u e E.m bytes z) (f:Fr a N L) (hN:Nat.blt d N=true) (hx:AN L xo=some v) (hi:AN L io=some (.int k i)) (h:RSr E G v xs) (he:idx xs i=some e')
  (q:∀p a',AtR E G p e'→Fr a' N ((d,p)::L)→wpList P ops (Qk n x r) rest a' w):
  wpList P ops (Qk n x r) (⟨some d,.indexAddr u xo io,t,pos,af,none⟩::rest) a w:=by
 obtain⟨b,off,m,c,rfl,h0,h1,hc⟩:=h.at he
 refine Ce f rfl rfl hN (CR (f.eval hx) (f.eval hi) hu h0 h1) λa' f'=> ?_
 exact q _ a' ⟨b,off+i.toNat*E.m,BQ b off _▸rfl,hc⟩ f'
theorem AtR.cell {p:Value}{y:α}(h:AtR E G p y){fo:Nat}{c:Value}(hc:(E.enc y)[fo]? =some c):∃b o,p= .pointer (some ⟨b,o,none⟩)∧Cell G b (o+fo) c:=by
 obtain⟨b,o,e,hh⟩:=h
 exact⟨b,o,e,hh fo c hc⟩
theorem l_loadR {u:TypeId}{xo:Operand}{p:Value}{y:α}(cs:List Value)(m:Mem W G w H)(hp:Agg P u E.m)(f:Fr a N L)(hN:Nat.blt d N=true)(hx:AN L xo=some p)(h:AtR E G p y)(hcs:E.enc y=cs)
  (q:∀a',Fr a' N ((d,.agg cs.toArray)::L)→wpList P ops (Qk n x r) rest a' w):
  wpList P ops (Qk n x r) (⟨some d,.load u xo,t,pos,af,none⟩::rest) a w:=by
 subst hcs
 obtain⟨b,o,rfl,hc⟩:=h
 exact Ce f rfl rfl hN (Gc (f.eval hx) hp (E.len y) (λj c hj=>by rw[BQ];exact(hc j c hj).get m)) q
end
section
variable {P : Program} {ops : Array Oper} {nn r : Bn} {x : List (Nat × Bn)} {T : Act → World → Prop} {W : World} {G : GH} {E H : List Itm} {N : Nat} {L : Bw} {a : Act} {fuel : Nat} {listed listed' : Array Bool}
variable {t : TypeId} {pos : String} {af : Array Edge} {gd : Option (Nat × Bool)} {d i : Nat} {α : Type} {C : Rec α}
theorem q_lenR {v:Value}{xs:List α}{u e:Nat}{xo:Operand}(n:Nat)(hu:P.underlying u=some (.slice e))(h:RSr C G v xs)
  (hi:ops[i]? =some ⟨some d,.call {callee:= .builtin .len,args:= #[xo],argTypes:= #[u]},t,pos,af,gd⟩) (hck:BZ ops n fuel listed i=true) (hl:listed.setIfInBounds i true=listed') (f:Fr a N L)
  (hw:Region.wanted ⟨some d,.call {callee:= .builtin .len,args:= #[xo],argTypes:= #[u]},t,pos,af,gd⟩ (yielded ops a.tmps)=true) (hN:Nat.blt d N=true) (hx:AN L xo=some v)
  (k:∀a',Fr a' N ((d,.int .i64 (xs.length:Int))::L)→AnyB W P ops (Qk nn x r) T H fuel G E listed' a'):AnyB W P ops (Qk nn x r) T H (fuel+1) G E listed a:=by
 obtain⟨b,c,rfl,_⟩:=h.len
 exact Dq n hi hck hl f hw rfl hN (λ_ _ _ _ _=>D4 (f.eval hx) hu) k
theorem q_ownR_len {tt:TypeId}{it:Itm}{v:Value}{xs:List α}{u e:Nat}{xo:Operand}{w₀:World}{G₀:GH}{H₀:List Itm}(n:Nat)(j:Nat)(m:Mem W G₀ w₀ H₀)(h:OwR C tt G it v xs)(hj:H₀[j]? =some it)(hu:P.underlying u=some (.slice e))
  (hi:ops[i]? =some ⟨some d,.call {callee:= .builtin .len,args:= #[xo],argTypes:= #[u]},t,pos,af,gd⟩) (hck:BZ ops n fuel listed i=true) (hl:listed.setIfInBounds i true=listed') (f:Fr a N L)
  (hw:Region.wanted ⟨some d,.call {callee:= .builtin .len,args:= #[xo],argTypes:= #[u]},t,pos,af,gd⟩ (yielded ops a.tmps)=true) (hN:Nat.blt d N=true) (hx:AN L xo=some v)
  (k:∀a',Fr a' N ((d,.int .i64 (xs.length:Int))::L)→AnyB W P ops (Qk nn x r) T H fuel G E listed' a'):AnyB W P ops (Qk nn x r) T H (fuel+1) G E listed a:=by
 obtain⟨b,c,rfl,_⟩:=h.len m hj
 exact Dq n hi hck hl f hw rfl hN (λ_ _ _ _ _=>D4 (f.eval hx) hu) k
theorem q_atR {v:Value}{xs:List α}{u e bytes:Nat}{z:Value}{xo io:Operand}{k0:IntKind}{j:Int}{e':α}(n:Nat)(hu:SlT P u e C.m bytes z)(h:RSr C G v xs)(he:idx xs j=some e')
  (hi:ops[i]? =some ⟨some d,.indexAddr u xo io,t,pos,af,gd⟩) (hck:BZ ops n fuel listed i=true) (hl:listed.setIfInBounds i true=listed') (f:Fr a N L)
  (hw:Region.wanted ⟨some d,.indexAddr u xo io,t,pos,af,gd⟩ (yielded ops a.tmps)=true) (hN:Nat.blt d N=true) (hx:AN L xo=some v) (hio:AN L io=some (.int k0 j))
  (k:∀p a',AtR C G p e'→Fr a' N ((d,p)::L)→AnyB W P ops (Qk nn x r) T H fuel G E listed' a'):AnyB W P ops (Qk nn x r) T H (fuel+1) G E listed a:=by
 obtain⟨b,off,m,c,rfl,h0,h1,hc⟩:=h.at he
 refine Dq n hi hck hl f hw rfl hN (λ_ _ _ _ _=>CR (f.eval hx) (f.eval hio) hu h0 h1) λa' f'=> ?_
 exact k _ a' ⟨b,off+j.toNat*C.m,BQ b off _▸rfl,hc⟩ f'
theorem Fp {s fi:Nat}{fs:Array Field}{fl:Field}{sz:Nat}{xo:Operand}{p c:Value}{y:α}(n:Nat)(hs:P.underlying s=some (.struct fs))(hf:fs[fi]? =some fl)
  (hz:∀w,(sizeOf fl.type).run P w= .ok sz w) (hz0:sz≠0) (h:AtR C G p y) (hc:(C.enc y)[fl.offset]? =some c)
  (hi:ops[i]? =some ⟨some d,.fieldAddr s xo fi,t,pos,af,gd⟩) (hck:BZ ops n fuel listed i=true) (hl:listed.setIfInBounds i true=listed') (f:Fr a N L)
  (hw:Region.wanted ⟨some d,.fieldAddr s xo fi,t,pos,af,gd⟩ (yielded ops a.tmps)=true) (hN:Nat.blt d N=true) (hx:AN L xo=some p)
  (k:∀p' a',At G p' c→Fr a' N ((d,p')::L)→AnyB W P ops (Qk nn x r) T H fuel G E listed' a'):AnyB W P ops (Qk nn x r) T H (fuel+1) G E listed a:=by
 obtain⟨b,o,rfl,hh⟩:=h.cell hc
 refine Dq n hi hck hl f hw rfl hN (λ_ _ _ _ _=>E5 (f.eval hx) hs hf hz hz0) λa' f'=> ?_
 exact k _ a' ⟨b,o+fl.offset,by rw[BQ],hh⟩ f'
end
end Go.Sx

namespace Go.Sx
def rowKey (l:LI):Int:=l.getD 0 0*1048576+l.getD 1 0
end Go.Sx

namespace Go.Sx
open IntKind
noncomputable section
def D.Y0 (a b:Int):Option (Int):=
 (D.N a).bind λd=>(D.N b).bind λc=>cond d (cond c (some 0) (some (-1))) (cond c (some 1) (cond (decide (a<b)) (some (-1)) (cond (decide (b<a)) (some 1) (some 0))))
def D.W0 (b c:LI):Option (Int):=
 (Aw (σ:=Int) (ρ:=(Unit) ⊕ (Int)) (fun(a:Int)=>cond (decide (a<(b.length:Int))) ((idx b a).bind λe=>cond (decide ((c.length:Int)≤a)) (some (.inr (.inr 1))) ((idx c a).bind λf=>(D.Y0 e f).bind λd=>cond (d !=0) (some (.inr (.inr d))) (some (.inl (i64.wrap (a+1)))))) (some (.inr (.inl ())))) 0).bind λzz=>match zz with| .inl _=>(cond (decide ((b.length:Int)<(c.length:Int))) (some (-1)) (some 0))| .inr z=>(some z)
end
end Go.Sx

namespace Go.Sx
def isNil :Value→Bool
 | .slice none _ _=>true
 |_=>false
section
variable {P : Program} {ρ : Operand → Value} {w : World} {d : Option Tmp} {t : TypeId} {pos : String} {af : Array Edge} {gd : Option (Nat × Bool)}
theorem run_eq_nil_aux (dd:Nat){u e:TypeId}{v:Value}(hu:P.underlying u=some (.slice e))(hv:∃a l c,v= .slice a l c):(Op.equalIn (dd+1) u v (.slice none 0 0)).run P w= .ok (isNil v) w:=by
 obtain⟨a,l,c,rfl⟩:=hv
 cases a<;>simp[Op.equalIn,run_underlying hu,isNil]
theorem run_eq_nil {u e:TypeId}{v:Value}(hu:P.underlying u=some (.slice e))(hv:∃a l c,v= .slice a l c):(Op.equal u v (.slice none 0 0)).run P w= .ok (isNil v) w:=run_eq_nil_aux 9999 hu hv
theorem r_nil_eql {u u' e:TypeId}{x y:Operand}{v:Value}{b:Bool}(hx:ρ x=v)(hy:ρ y= .slice none 0 0)(hv:∃a l c,v= .slice a l c)(hu:P.underlying u=some (.slice e))(hb:isNil v=b):
  (execOp ρ ⟨d,.binOp .eql u x y u',t,pos,af,gd⟩).run P w= .ok (.value (.bool b)) w:=by
 have hg:(eqGuard .eql u x y v (.slice none 0 0)).run P w= .ok () w:=by
  obtain⟨a,l,c,rfl⟩:=hv
  unfold eqGuard;rfl
 have e1:(binOp .eql u v (.slice none 0 0)).run P w= .ok (.bool b) w:=by
  rw[←hb]
  have:=run_eq_nil (w:=w) hu hv
  obtain⟨a,l,c,rfl⟩:=hv
  simp[binOp,this]
 simp[execOp,hx,hy,hg,e1]
end
theorem RSl.hdr {α:Type}{R:Rep α}{G:GH}{v:Value}{xs:List α}(h:RSl R G v xs):∃a l c,v= .slice a l c:=by
 obtain⟨a,c,rfl,_⟩:=h.len;exact⟨_,_,_,rfl⟩
theorem RSl.nil_inv {α:Type}{R:Rep α}{G:GH}{v:Value}{xs:List α}(h:RSl R G v xs)(hn:isNil v=true):xs=[]:=by
 obtain⟨vs,hA,h⟩:=h
 rcases h with⟨rfl,h⟩|⟨a,c,rfl,h1,h2,h3⟩
 ·exact h
 ·simp[isNil] at hn
section
variable {P : Program} {ops : Array Oper} {rest : List Oper} {n r : Bn} {x : List (Nat × Bn)} {a : Act} {w : World} {N : Nat} {L : Bw} {d : Nat} {t : TypeId} {pos : String} {af : Array Edge}
theorem En {fn:Fn}{fs cs:List Operand}{vs us:List Value}(f:Fr a N L)(hN:Nat.blt d N=true)(hf:evalAll L fs=some vs)(hc:evalAll L cs=some us)
  (k:∀a',Fr a' N ((d,.func fn vs.toArray us.toArray)::L)→wpList P ops (Qk n x r) rest a' w):
  wpList P ops (Qk n x r) (⟨some d,.makeFunc fn fs.toArray cs.toArray,t,pos,af,none⟩::rest) a w:=by
 refine Ce f rfl rfl hN (r_makeFunc (v:= .func fn vs.toArray us.toArray) ?_) k
 rw[List.map_toArray,List.map_toArray,f.evalAll hf,f.evalAll hc]
 rfl
end
end Go.Sx

namespace Go.Sx
section
variable {P : Program} {ops : Array Oper} {rest : List Oper} {n r : Bn} {x : List (Nat × Bn)} {a : Act} {w w' W : World} {G : GH} {H : List Itm} {N : Nat} {L : Bw}
variable {d : Nat} {t : TypeId} {pos : String} {af : Array Edge}
theorem r_slice_lo {ρ:Operand→Value}{u e bytes:Nat}{z:Value}{xo o2:Operand}{b nn c:Nat}{j:Int}{k2:IntKind}{dd:Option Tmp}{gd:Option (Nat×Bool)}(hu:SlT P u e 1 bytes z)
  (hx:ρ xo= .slice (some ⟨b,0,none⟩) nn c) (h2:ρ o2= .int k2 j) (g0:0≤j) (g1:j≤c):
  (execOp ρ ⟨dd,.slice u xo none (some o2) none,t,pos,af,gd⟩).run P w= .ok (.value (.slice (some ⟨b,0,none⟩) j.toNat c)) w:=by
 have:=Gr (P:=P) (w:=w) (t:=t) (pos:=pos) (af:=af) (dd:=dd) (gd:=gd) (lo:=none) (hi:=some o2) (i:=0) (j:=j) hu hx (.inl ⟨rfl,rfl⟩) (.inr ⟨o2,k2,rfl,h2⟩) (by omega) g0 g1
 rw[this]
 have e:(if c=(0:Int).toNat then some (⟨b,0,none⟩:Addr) else(some ⟨b,0,none⟩:Option Addr).map (·.add ((0:Int).toNat*1)))=some ⟨b,0,none⟩:=by
  split
  ·rfl
  ·simp[Addr.add]
 rw[e];simp
end
end Go.Sx

namespace Go.Sx
open IntKind
noncomputable def D.u2 (x0 : LI) (x1 : Int) (x2 : Int) : Option (Int) :=
  (D.e x1).bind fun y_1 => (Aw (σ := Int) (ρ := (Int)) (fun (x_177 : Int) => (D.r x_177).bind fun y_179 => (Aw (σ := Int × Int) (ρ := (Int)) (fun (s_223 : Int × Int) => match s_223 with | (x_226, x_227) => cond (decide (x_227 < (y_179.length : Int))) ((idx y_179 x_227).bind fun e_246 => (idx x0 e_246).bind fun e_252 => some (.inl ((ior .u32 x_226 (iand .u32 e_252 x2)), (IntKind.i64.wrap (x_227 + 1))))) (some (.inr x_226))) (x_177, 0)).bind fun x_243 => cond (x_243 == x_177) (some (.inr x_177)) (some (.inl x_243))) y_1).bind fun z => some z
end Go.Sx

namespace Go.Sx
open IntKind
noncomputable section
def D.X1 (a:LL)(b:Int):Option (Bool):=
 (D.M0 a).bind λc=>(cond c ((D.A0 b 0 (i64.wrap ((a.length:Int)-1))).bind λd=>some d) (some false)).bind λe=>some e
def D.A1 (a:LL)(b c:Int):Option (Bool):=
 (D.X1 a b).bind λd=>(cond d ((idx a b).bind λe=>(D.k0 e c).bind λf=>some f) (some false)).bind λg=>some g
end
end Go.Sx

namespace Go.Sx
end Go.Sx

namespace Go.Sx
end Go.Sx
