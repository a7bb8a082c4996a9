/- Parts. -/
import Derived.Test.YtmkcbhidbdggiaaGreatDoorPe5
set_option linter.unusedVariables false
set_option linter.unusedSimpArgs false
set_option linter.unusedSectionVars false
namespace Go.Sx
def Cn (ad:Nat→Nat→Prop)(S:Nat→Prop)(x y:Nat):Prop:=∀T:Nat→Prop,T x→(∀a b,T a→ad a b→S b→T b)→T y
section
variable {ad : Nat → Nat → Prop} {S S' : Nat → Prop} {x y z : Nat}
theorem Cn.refl :Cn ad S x x:=λ_ h _=>h
theorem Cn.step (h:Cn ad S x y)(ha:ad y z)(hz:S z):Cn ad S x z:=λT h1 h2=>h2 _ _ (h T h1 h2) ha hz
theorem Cn.trans (h:Cn ad S x y)(h':Cn ad S y z):Cn ad S x z:=λT h1 h2=>h' T (h T h1 h2) h2
theorem Cn.mono (hs:∀w,S w→S' w)(h:Cn ad S x y):Cn ad S' x y:=λT h1 h2=>h T h1 (λa b p q r=>h2 a b p q (hs _ r))
theorem Cn.mem (h:Cn ad S x y)(hx:S x):S y:=h S hx (λ_ _ _ _ h=>h)
theorem Cn.sym (hs:∀a b,ad a b→ad b a)(hx:S x)(h:Cn ad S x y):Cn ad S y x:=(h (λw=>S w∧Cn ad S w x) ⟨hx,Cn.refl⟩ (λa b ⟨p1,p2⟩ q r=>⟨r,(Cn.refl.step (hs _ _ q) p1).trans p2⟩)).2
end
def Joint (ad:Nat→Nat→Prop)(S:Nat→Prop):Prop:=∀x y,S x→S y→Cn ad S x y
abbrev Ad (F:LI)(a b:Nat):Prop:=nb F a b=true
abbrev El (s:Int)(x:Nat):Prop:=has s x=true
abbrev Mn (s:Int)(v x:Nat):Prop:=has s x=true∧x≠v
structure Parts (F:LI)(W:Nat→Prop)(l:LI):Prop where
 vs:∀s∈l,VS s
 ne:∀s∈l,∃v,El s v
 sub:∀s∈l,∀x,El s x→W x
 cn:∀s∈l,∀x y,El s x→(El s y↔Cn (Ad F) W x y)
 all:∀x,W x→∃s∈l,El s x
 dis:l.Pairwise λs t=>∀x,¬(El s x∧El t x)
theorem Parts.conn {F:LI}{W:Nat→Prop}{l:LI}(h:Parts F W l):l.length≤1↔Joint (Ad F) W:=by
 constructor
 ·intro hl x y hx hy
  obtain⟨s,hs,h1⟩:=h.all x hx
  obtain⟨t,ht,h2⟩:=h.all y hy
  obtain⟨i,hi,rfl⟩:=List.getElem_of_mem hs
  obtain⟨j,hj,rfl⟩:=List.getElem_of_mem ht
  obtain rfl:i=j:=by omega
  exact(h.cn _ hs x y h1).1 h2
 ·intro hc
  apply Classical.byContradiction
  intro hl
  have h0:0<l.length:=by omega
  have h1:1<l.length:=by omega
  obtain⟨x,hx⟩:=h.ne _ (List.getElem_mem h0)
  obtain⟨y,hy⟩:=h.ne _ (List.getElem_mem h1)
  have hcn:=hc x y (h.sub _ (List.getElem_mem h0) x hx) (h.sub _ (List.getElem_mem h1) y hy)
  have:=(h.cn _ (List.getElem_mem h0) x y hx).2 hcn
  exact(List.pairwise_iff_getElem.1 h.dis) 0 1 h0 h1 (by omega) y ⟨this,hy⟩
section
variable {F : LI} {n : Nat} (hn : n ≤ 16) (hF : FOk F n)
include hn hF
end
end Go.Sx

namespace Go.Sx
def Way (ad:Nat→Nat→Prop):List Nat→Prop
 |[]=>True
 |[_]=>True
 |a::b::l=>ad a b∧Way ad (b::l)
theorem Way.tail {ad:Nat→Nat→Prop}{a:Nat}{l:List Nat}(h:Way ad (a::l)):Way ad l:=by
 cases l with
 |nil=>trivial
 |cons b l=>exact h.2
structure Wy (ad:Nat→Nat→Prop)(H:Nat→Prop)(x y:Nat)(l:List Nat):Prop where
 len:2≤l.length
 fst:l[0]? =some x
 lst:l[l.length-1]? =some y
 way:Way ad l
 mid:∀i (h:i<l.length),0<i→i+1<l.length→H l[i]
structure Hole (ad:Nat→Nat→Prop)(c:List Nat):Prop where
 len:4≤c.length
 nd:c.Nodup
 step:∀i (h:i+1<c.length),ad c[i] c[i+1]
 close:ad (c[c.length-1]'(by omega)) (c[0]'(by omega))
 no:∀i j (_:i+1<j) (hj:j<c.length),¬(i=0∧j=c.length-1)→¬ad (c[i]'(by omega)) c[j]
def NoHole (ad:Nat→Nat→Prop)(X:Nat→Prop):Prop:=∀c,Hole ad c→¬∀x∈c,X x
section
variable {ad : Nat → Nat → Prop} (hs : ∀ a b, ad a b → ad b a) (hi : ∀ a, ¬ ad a a)
include hs hi
end
end Go.Sx

namespace Go.Sx
def ch (cs:LI)(i v:Nat):Bool:=has (cs.getD i 0) v
def Opn (cs:LI)(p:Int)(v:Nat):Prop:=(∃i,i<cs.length∧has p i=true∧ch cs i v=true)∧∃i,i<cs.length∧has p i=false∧ch cs i v=true
def Ft (cs:LI)(p:Int)(k:Nat):Prop:=k<cs.length∧has p k=false∧∀v,Opn cs p v→ch cs k v=true
inductive Ends (cs:LI):Int→Prop
 |all {p:Int}:(∀i,i<cs.length→has p i=true)→Ends cs p
 |go {p:Int} {k:Nat}:Ft cs p k→Ends cs (ior .u32 p (ishl .u32 1 (k:Int)))→Ends cs p
def Goes (cs:LI):Int→LI→Prop
 |p,[]=>∀i,i<cs.length→has p i=true
 |p,x::l=>∃k:Nat,x=(k:Int)∧Ft cs p k∧Goes cs (ior .u32 p (ishl .u32 1 (k:Int))) l
section
variable {cs : LI} (hvs : ∀ s ∈ cs, VS s) (hm : cs.length ≤ 16)
include hvs hm
theorem Ft.in {p:Int}{k:Nat}(hp:In cs.length p)(h:Ft cs p k):In cs.length (ior .u32 p (ishl .u32 1 (k:Int)))∧∀v,has (ior .u32 p (ishl .u32 1 (k:Int))) v=(has p v||decide (v=k)):=by
 have hk:=h.1
 have he:∀v,has (ior .u32 p (ishl .u32 1 (k:Int))) v=(has p v||decide (v=k)):=λv=>by
  rw[B6 hp.1 (VS.ishl _ _),BE (by omega)]
 refine⟨⟨VS.ior _ _,λv hv=> ?_⟩,he⟩
 rw[he,Bool.or_eq_true,decide_eq_true_eq] at hv
 rcases hv with hv|rfl
 ·exact hp.2 v hv
 ·exact hk
end
end Go.Sx

namespace Go.Sx
theorem Goes.mid {cs:LI}{v:Nat}:∀{l1:LI} {p:Int} {x:Nat} {l2:LI},cs.length≤16→In cs.length p→Goes cs p (l1++(x:Int)::l2)→((∃i,i<cs.length∧has p i=true∧ch cs i v=true)∨∃y:Nat,(y:Int)∈l1∧ch cs y v=true)→(∃z:Nat,(z:Int)∈l2∧ch cs z v=true)→ch cs x v=true
 |[],p,x,l2,hm,hp,⟨k,e,hF,hG⟩,h1,⟨z,hz,hzv⟩=>by
  obtain rfl:k=x:=by omega
  refine hF.2.2 v ⟨h1.elim id (fun⟨y,hy,_⟩=>by simp at hy),?_⟩
  have:∀(l:LI) (q:Int),In cs.length q→Goes cs q l→(z:Int)∈l→z<cs.length∧has q z=false:=by
   intro l
   induction l with
   |nil=>intro q _ _ h;simp at h
   |cons y l ih=>
    rintro q hq ⟨k',e',hF',hG'⟩ hzl
    rcases List.mem_cons.1 hzl with h|h
    ·obtain rfl:k'=z:=by omega
     exact⟨hF'.1,hF'.2.1⟩
    ·have hk':=hF'.1
     have he:∀w,has (ior .u32 q (ishl .u32 1 (k':Int))) w=(has q w||decide (w=k')):=λw=>by rw[B6 hq.1 (VS.ishl _ _),BE (by omega)]
     have hin:In cs.length (ior .u32 q (ishl .u32 1 (k':Int))):=⟨VS.ior _ _,λw hw=>by
      rw[he,Bool.or_eq_true,decide_eq_true_eq] at hw
      rcases hw with hw|rfl
      ·exact hq.2 w hw
      ·exact hk'⟩
     obtain⟨a,b⟩:=ih _ hin hG' h
     rw[he,Bool.or_eq_false_iff] at b
     exact⟨a,b.1⟩
  obtain⟨h3,h4⟩:=this ((k:Int)::l2) p hp ⟨k,rfl,hF,hG⟩ (List.mem_cons_of_mem _ hz)
  exact⟨z,h3,h4,hzv⟩
 |y::l1,p,x,l2,hm,hp,⟨k,e,hF,hG⟩,h1,h2=>by
  subst e
  have hk:=hF.1
  have he:∀w,has (ior .u32 p (ishl .u32 1 (k:Int))) w=(has p w||decide (w=k)):=λw=>by rw[B6 hp.1 (VS.ishl _ _),BE (by omega)]
  refine Goes.mid (l1:=l1) hm ⟨VS.ior _ _,λw hw=> ?_⟩ hG ?_ h2
  ·rw[he,Bool.or_eq_true,decide_eq_true_eq] at hw
   rcases hw with hw|rfl
   ·exact hp.2 w hw
   ·exact hk
  ·rcases h1 with⟨i,h3,h4,h5⟩|⟨i,h3,h5⟩
   ·exact .inl ⟨i,h3,by rw[he,h4];rfl,h5⟩
   ·rcases List.mem_cons.1 h3 with h|h
    ·obtain rfl:i=k:=by omega
     exact .inl ⟨i,hk,by rw[he];simp,h5⟩
    ·exact .inr ⟨i,h,h5⟩
section
variable {g : LL} (hg : GOk g)
include hg
end
end Go.Sx

namespace Go.Sx
structure Iv (g:LL)(L R:Nat→Int):Prop where
 le:∀v,v<g.length→L v≤R v
 ad:∀u v,u<g.length→v<g.length→(adj g u v↔u≠v∧L u≤R v∧L v≤R u)
section
variable {g : LL} (hg : GOk g)
include hg
variable {L R : Nat → Int} (hI : Iv g L R)
include hI
end
end Go.Sx

namespace Go.Sx
def iz (P:List Nat):LI:=P.map Int.ofNat
theorem iz_len (P:List Nat):(iz P).length=P.length:=by simp[iz]
structure Gd (g:LL)(long:Nat)(P:List Nat):Prop where
 nd:P.Nodup
 lt:∀x∈P,x<g.length
 step:∀i (h:i+1<P.length),adj g P[i] P[i+1]
 far:∀i j (_:i+1<j) (hj:j<P.length),adj g (P[i]'(by omega)) P[j]↔(i=0∧j+1=long)
theorem Gd.hole {g:LL}(hg:GOk g){long:Nat}{P:List Nat}(h:Gd g long P)(hl:P.length=long)(h4:4≤long):Hole (adj g) P:=by
 have hs:adj g (P[0]'(by omega)) (P[P.length-1]'(by omega)):=(h.far 0 (P.length-1) (by omega) (by omega)).2 ⟨rfl,by omega⟩
 exact⟨by omega,h.nd,h.step,hg.sym _ _ (h.lt _ (List.getElem_mem _)) hs,λi j hij hj hx ha=>hx (by have:=(h.far i j hij hj).1 ha;omega)⟩
theorem Gd.take {g:LL}{long:Nat}{P:List Nat}(h:Gd g long P)(k:Nat):Gd g long (P.take k):=by
 refine⟨List.Pairwise.sublist (List.take_sublist k P) h.nd,λx hx=>h.lt x (List.mem_of_mem_take hx),λi hi=> ?_,λi j hij hj=> ?_⟩
 ·simp at hi
  rw[List.getElem_take,List.getElem_take]
  exact h.step i (by omega)
 ·simp at hj
  rw[List.getElem_take,List.getElem_take]
  exact h.far i j hij (by omega)
section
variable {g : LL} (hg : GOk g)
include hg
end
end Go.Sx

namespace Go.Sx
section
variable {g : LL} (hg : GOk g)
include hg
end
end Go.Sx

namespace Go.Sx
def Nr (ad:Nat→Nat→Prop)(v:Nat):Nat→Nat→Prop
 |0,_=>False
 |k+1,u=>u=v∨∃w,Nr ad v k w∧ad w u
theorem Nr.up {ad:Nat→Nat→Prop}{v:Nat}:∀{k u:Nat},Nr ad v k u→Nr ad v (k+1) u
 |0,_,h=>h.elim
 |_+1,_,h=>h.imp id (fun⟨w,h1,h2⟩=>⟨w,h1.up,h2⟩)
section
variable {g : LL} (hg : GOk g)
include hg
theorem Nr.lt {v:Nat}(hv:v<g.length):∀{k u:Nat},Nr (adj g) v k u→u<g.length
 |0,_,h=>h.elim
 |k+1,u,h=>by
  rcases h with rfl|⟨w,h1,h2⟩
  ·exact hv
  ·exact hg.lt (Nr.lt hv h1) h2
theorem Nr.of {v:Nat}:∀(l:List Nat) (u:Nat),u<g.length→Way (adj g) (u::l++[v])→Nr (adj g) v (l.length+2) u
 |[],u,hu,h=> .inr ⟨v,.inl rfl,hg.sym _ _ hu h.1⟩
 |a::l,u,hu,h=> .inr ⟨a,Nr.of l a (hg.lt hu h.1) h.2,hg.sym _ _ hu h.1⟩
end
end Go.Sx

namespace Go.Sx
def AdW (g:LL)(all:Int)(a b:Nat):Prop:=adj g a b∧has all b=true
def Dst (g:LL)(all:Int)(v j u:Nat):Prop:=Nr (AdW g all) v (j+1) u∧¬Nr (AdW g all) v j u
structure FarOk (g:LL)(all:Int)(v:Nat)(far:LI):Prop where
 len:far.length=g.length
 val:∀u,u<g.length→(∃j:Nat,far.getD u 0=(j:Int)∧Dst g all v j u)∨(far.getD u 0= -1∧∀k,¬Nr (AdW g all) v k u)
section
variable {g : LL} (hg : GOk g)
include hg
theorem NrW.lt {all:Int}{v:Nat}(hv:v<g.length):∀{k u:Nat},Nr (AdW g all) v k u→u<g.length
 |0,_,h=>h.elim
 |k+1,u,h=>by
  rcases h with rfl|⟨w,h1,h2⟩
  ·exact hv
  ·exact hg.lt (NrW.lt hv h1) h2.1
end
end Go.Sx

namespace Go.Sx
section
variable {g : LL} (hg : GOk g)
include hg
theorem BD {a b:Nat}(h:adj g a b):a<g.length:=by
 apply Classical.byContradiction
 intro hn
 unfold adj row at h
 rw[List.getD_eq_getElem?_getD,List.getElem?_eq_none (by omega)] at h
 simp at h
theorem Ee (a b:Nat)(h:adj g a b):adj g b a:=hg.sym _ _ (BD hg h) h
end
end Go.Sx

namespace Go.Sx
section
variable {g : LL} (hg : GOk g) {c : List Nat} (hH : Hole (adj g) c) (hlt : ∀ x ∈ c, x < g.length)
include hg hH hlt
end
end Go.Sx

namespace Go.Sx
def Av (ad:Nat→Nat→Prop)(X:Nat→Prop)(c z:Nat):Prop:=X z∧z≠c∧¬ad c z
def Apt (ad:Nat→Nat→Prop)(X:Nat→Prop)(a b c:Nat):Prop:=
 X a∧X b∧X c∧a≠b∧a≠c∧b≠c∧¬ad a b∧¬ad a c∧¬ad b c∧Cn ad (Av ad X c) a b∧Cn ad (Av ad X b) a c∧Cn ad (Av ad X a) b c
def Ape (ad:Nat→Nat→Prop)(X S:Nat→Prop)(a b:Nat):Prop:=
 X a∧X b∧a≠b∧¬ad a b∧(∃k,S k∧Cn ad (Av ad X b) a k)∧∃k,S k∧Cn ad (Av ad X a) b k
structure Rp (ad:Nat→Nat→Prop)(X:Nat→Prop)(L R:Nat→Int):Prop where
 le:∀v,X v→L v≤R v
 ad:∀u v,X u→X v→u≠v→(ad u v↔L u≤R v∧L v≤R u)
structure RpE (ad:Nat→Nat→Prop)(X S:Nat→Prop)(L R:Nat→Int)(B:Int):Prop where
 rp:Rp ad X L R
 lo:∀v,X v→-B≤L v
 s:∀v,X v→S v→R v=0
 x:∀v,X v→¬S v→R v<0
theorem RpE.hi {ad:Nat→Nat→Prop}{X S:Nat→Prop}{L R:Nat→Int}{B:Int}(h:RpE ad X S L R B){v:Nat}(hv:X v):R v≤0:=by
 by_cases hs:S v
 ·exact Int.le_of_eq (h.s v hv hs)
 ·exact Int.le_of_lt (h.x v hv hs)
section
variable {ad : Nat → Nat → Prop} (hs : ∀ a b, ad a b → ad b a)
include hs
end
end Go.Sx

namespace Go.Sx
structure Hg (ad:Nat→Nat→Prop)(X S:Nat→Prop):Prop where
 fin:∃l:List Nat,∀x,X x→x∈l
 sub:∀s,S s→X s
 clq:∀s t,S s→S t→s≠t→ad s t
 nh:NoHole ad X
 at3:∀a b c,¬Apt ad X a b c
 ae:∀a b,¬Ape ad X S a b
section
variable {ad : Nat → Nat → Prop}
theorem Eh {X X':Nat→Prop}(h:∀v,X' v→X v){a b c:Nat}(hp:Cn ad (Av ad X' c) a b):Cn ad (Av ad X c) a b:=hp.mono λw ⟨p,q,r⟩=>⟨h w p,q,r⟩
theorem Apt.mono {X X':Nat→Prop}(h:∀v,X' v→X v){a b c:Nat}:Apt ad X' a b c→Apt ad X a b c:=
 fun⟨h1,h2,h3,h4,h5,h6,h7,h8,h9,p,q,r⟩=>⟨h a h1,h b h2,h c h3,h4,h5,h6,h7,h8,h9,Eh h p,Eh h q,Eh h r⟩
theorem Hg.mono {X S X' S':Nat→Prop}(g:Hg ad X S)(hX:∀v,X' v→X v)(hS:∀v,S' v→S v)(hS':∀v,S' v→X' v):Hg ad X' S':=by
 obtain⟨l,hl⟩:=g.fin
 refine⟨⟨l,λx hx=>hl x (hX x hx)⟩,hS',λs t p q=>g.clq s t (hS s p) (hS t q),λc hc hx=>g.nh c hc (λx h=>hX x (hx x h)),λa b c h=>g.at3 a b c (h.mono hX),λa b ⟨h1,h2,h3,h4,⟨k,k1,k2⟩,k',k3,k4⟩=>g.ae a b ⟨hX a h1,hX b h2,h3,h4,⟨k,hS k k1,Eh hX k2⟩,k',hS k' k3,Eh hX k4⟩⟩
variable (hs : ∀ a b, ad a b → ad b a) (hi : ∀ a, ¬ ad a a)
include hs
include hi
end
section
variable {ad : Nat → Nat → Prop} (hs : ∀ a b, ad a b → ad b a) (hi : ∀ a, ¬ ad a a)
include hs
include hi
end
end Go.Sx

namespace Go.Sx
section
variable {g : LL} (hg : GOk g)
include hg
structure PW (g:LL)(W:Nat→Prop)(u v:Nat)(P:List Nat):Prop where
 ne:1≤P.length
 fst:P[0]'(by omega)=u
 lst:P[P.length-1]'(by omega)=v
 inW:∀x∈P,W x
 step:∀i (h:i+1<P.length),adj g P[i] P[i+1]
 short:P.length≤g.length
end
end Go.Sx

namespace Go.Sx
structure Pth (g:LL)(P:List Nat):Prop where
 ne:1≤P.length
 gd:Gd g 1000 P
 low:∀i (h:i<P.length) (h0:0<i),P[0]'(by omega)<P[i]
def Bst (g:LL)(b:LI):Prop:=b=[]∨∃c,b=iz c∧Hole (adj g) c∧∀x∈c,x<g.length
section
variable {g : LL} (hg : GOk g)
include hg
theorem nodup_bound {c:List Nat}(hnd:c.Nodup)(hlt:∀x∈c,x<g.length):c.length≤g.length:=by
 have:=Ca (l:=iz c) (m:=(List.range g.length).map Int.ofNat) (by
  unfold iz
  exact List.pairwise_map.2 (hnd.imp (λh h'=>h (Int.ofNat.inj h')))) (λx hx=>by
  unfold iz at hx
  obtain⟨v,hv,rfl⟩:=List.mem_map.1 hx
  exact List.mem_map.2 ⟨v,List.mem_range.2 (hlt v hv),rfl⟩)
 rw[iz_len] at this
 simpa using this
theorem Bst.len {b:LI}(h:Bst g b):b.length≤16:=by
 rcases h with rfl|⟨c,rfl,h1,h2⟩
 ·simp
 ·rw[iz_len]
  have:=nodup_bound hg h1.nd h2
  have:=hg.n16
  omega
end
end Go.Sx

namespace Go.Sx
section
variable {g : LL} (hg : GOk g)
include hg
end
end Go.Sx

namespace Go.Sx
section
variable {ad : Nat → Nat → Prop} (hs : ∀ a b, ad a b → ad b a) (hi : ∀ a, ¬ ad a a)
include hs hi
end
end Go.Sx

namespace Go.Sx
section
variable {ad : Nat → Nat → Prop} {X : Nat → Prop} {L R : Nat → Int} (h : Rp ad X L R)
include h
end
end Go.Sx

namespace Go.Sx
structure Un (cs:LI)(m:Nat)(U:LI):Prop where
 len:U.length=2^m
 vs:∀b,b<2^m→VS (U.getD b 0)
 hs:∀b,b<2^m→∀v,has (U.getD b 0) v=true↔∃i,i<m∧b.testBit i=true∧ch cs i v=true
section
variable {cs U : LI} (hs : ∀ s ∈ cs, VS s) (hm : cs.length ≤ 16) (hU : Un cs cs.length U)
include hs hm hU
end
end Go.Sx

namespace Go.Sx
theorem Goes.nat {cs:LI}:∀{o:LI} {p:Int},Goes cs p o→∀x∈o,∃k:Nat,x=(k:Int)∧k<cs.length
 |[],_,_,x,hx=>by simp at hx
 |y::o,p,⟨k,e,hF,hG⟩,x,hx=>by
  rcases List.mem_cons.1 hx with rfl|hx
  ·exact⟨k,e,hF.1⟩
  ·exact Goes.nat hG x hx
theorem Goes.mem {cs:LI}(hm:cs.length≤16):∀{o:LI} {p:Int},VS p→Goes cs p o→∀i,i<cs.length→has p i=true∨(i:Int)∈o
 |[],_,_,h,i,hi=> .inl (h i hi)
 |y::o,p,hp,⟨k,e,hF,hG⟩,i,hi=>by
  have hk:=hF.1
  rcases Goes.mem hm (VS.ior _ _) hG i hi with h|h
  ·rw[B6 hp (VS.ishl _ _),BE (by omega),Bool.or_eq_true,decide_eq_true_eq] at h
   rcases h with h|rfl
   ·exact .inl h
   ·exact .inr (by rw[e];simp)
  ·exact .inr (List.mem_cons_of_mem _ h)
def atp (cs o:LI)(k v:Nat):Bool:=ch cs (o.getD k 0).toNat v
theorem Goes.conv {cs o:LI}{v i j k:Nat}(hm:cs.length≤16)(h:Goes cs 0 o)(hij:i<j)(hjk:j<k)(hk:k<o.length)(h1:atp cs o i v=true)(h2:atp cs o k v=true):atp cs o j v=true:=by
 have hj:j<o.length:=by omega
 have hi:i<o.length:=by omega
 obtain⟨a,ea,_⟩:=h.nat _ (List.getElem_mem hi)
 obtain⟨b,eb,_⟩:=h.nat _ (List.getElem_mem hj)
 obtain⟨c,ec,_⟩:=h.nat _ (List.getElem_mem hk)
 unfold atp at*
 rw[AQ hi,ea,Int.toNat_natCast] at h1
 rw[AQ hk,ec,Int.toNat_natCast] at h2
 rw[AQ hj,eb,Int.toNat_natCast]
 have e:o=o.take j++(b:Int)::o.drop (j+1):=by
  rw[←eb,←List.drop_eq_getElem_cons hj,List.take_append_drop]
 rw[e] at h
 refine h.mid hm ⟨VS.zero,λv hv=>by rw[BL] at hv;cases hv⟩ (.inr ⟨a,?_,h1⟩) ⟨c,?_,h2⟩
 ·rw[←ea]
  exact List.mem_take_iff_getElem.2 ⟨i,by omega,rfl⟩
 ·rw[←ec,List.mem_drop_iff_getElem]
  exact⟨k-(j+1),by omega,by congr 1;omega⟩
structure Told (cs o:LI)(v:Nat)(a b:Int):Prop where
 ex:∃i j:Nat,a=(i:Int)∧b=(j:Int)∧i≤j∧j<o.length∧atp cs o i v=true∧atp cs o j v=true∧∀k,k<o.length→atp cs o k v=true→i≤k∧k≤j
theorem Told.at {cs o:LI}{v:Nat}{a b:Int}(hm:cs.length≤16)(h:Goes cs 0 o)(ht:Told cs o v a b){k:Nat}(h1:a≤k)(h2:(k:Int)≤b):k<o.length∧atp cs o k v=true:=by
 obtain⟨i,j,rfl,rfl,hij,hj,hi1,hj1,_⟩:=ht.ex
 refine⟨by omega,?_⟩
 by_cases e1:k=i
 ·rw[e1];exact hi1
 by_cases e2:k=j
 ·rw[e2];exact hj1
 exact h.conv hm (show i<k by omega) (show k<j by omega) hj hi1 hj1
section
variable {g : LL} (hg : GOk g) {l o : LI} (hl : GC g l) (h16 : l.length ≤ 16) (ho : Goes l 0 o)
include hg hl
include h16 ho
end
end Go.Sx

namespace Go.Sx
section
variable {g l : LL} {cs : LI} (hg : GOk g)
include hg
end
end Go.Sx

namespace Go.Sx
inductive Pick (n:Nat):Nat→Nat→Int→Int→Prop
 |done {a:Nat} {c:Int}:Pick n a 0 c c
 |more {a k v:Nat} {c t:Int}:a≤v→v<n→Pick n (v+1) k (ior .u32 c (ishl .u32 1 (v:Int))) t→Pick n a (k+1) c t
def Ci (a b:Int):LI:=[min a b,max a b]
structure KOk (n:Nat)(K:LL):Prop where
 nd:K.Nodup
 lk:∀l∈K,LinkIn n l
theorem LinkIn.good {n:Nat}(hn:n≤1000){l:LI}(h:LinkIn n l):rowGood l:=by
 obtain⟨a,b,rfl,h1,h2⟩:=h
 refine⟨rfl,?_⟩
 simp only[List.getD_cons_zero,List.getD_cons_succ]
 omega
theorem KOk.len {n:Nat}(hn:n≤16){K:LL}(h:KOk n K):K.length≤256:=by
 have h1:(K.map Ed).Nodup:=by
  unfold List.Nodup
  rw[List.pairwise_map]
  refine List.Pairwise.imp_of_mem (fun{a b} ha hb hab e=> ?_) h.nd
  exact hab (row_inj ((h.lk a ha).good (by omega)) ((h.lk b hb).good (by omega)) e)
 have h2:=Ca (m:=(List.range 16).flatMap (λa=>(List.range 16).map λb=>((a:Nat):Int)*1048576+((b:Nat):Int))) h1 (λx hx=>by
  obtain⟨l,hl,rfl⟩:=List.mem_map.1 hx
  obtain⟨a,b,rfl,h3,h4⟩:=h.lk l hl
  exact List.mem_flatMap.2 ⟨a,List.mem_range.2 (by omega),List.mem_map.2 ⟨b,List.mem_range.2 (by omega),rfl⟩⟩)
 have h3:((List.range 16).flatMap (λa=>(List.range 16).map λb=>((a:Nat):Int)*1048576+((b:Nat):Int))).length=256:=by decide+kernel
 rw[h3,List.length_map] at h2
 exact h2
def WayP (K:LL)(a b:Int):Prop:=∀T:Int→Prop,T a→(∀x y,T x→Lk K x y→T y)→T b
theorem Lk.perm {K K':LL}(h:K.Perm K'){x y:Int}:Lk K x y↔Lk K' x y:=by
 unfold Lk;rw[h.mem_iff,h.mem_iff]
theorem WayP.perm {K K':LL}(h:K.Perm K'){a b:Int}:WayP K a b↔WayP K' a b:=by
 unfold WayP
 constructor
 ·intro hh T h1 h2;exact hh T h1 (λx y hx hl=>h2 x y hx ((Lk.perm h).1 hl))
 ·intro hh T h1 h2;exact hh T h1 (λx y hx hl=>h2 x y hx ((Lk.perm h).2 hl))
structure NetL (A:LI)(n:Nat)(K:LL):Prop where
 net:Net A n
 nb:∀x y,x<n→y<n→(nb A x y=true↔Lk K (x:Int) (y:Int))
def iter {σ:Type}(f:Nat→σ→σ):Nat→Nat→σ→σ
 |_,0,s=>s
 |a,m+1,s=>iter f (a+1) m (f a s)
end Go.Sx



namespace Go.Sx
open Classical in
noncomputable def stp (l:LI)(q:Nat)(i k:Nat)(K:LL):LL:=
 if(AY (iand .u32 (l.getD i 0) (l.getD k 0))).length=q∧¬WayP K (i:Int) (k:Int) then K++[Ci (i:Int) (k:Int)] else K
noncomputable def st3 (l:LI)(q i:Nat)(K:LL):LL:=iter (stp l q i) (i+1) (l.length-(i+1)) K
noncomputable def st2 (l:LI)(q:Nat)(K:LL):LL:=iter (st3 l q) 0 l.length K
noncomputable def st1 (l:LI):LL:=iter (λj K=>st2 l (16-j) K) 0 17 []
theorem EM {i k:Nat}(h:i<k):Ci (i:Int) (k:Int)=[(i:Int),(k:Int)]:=by
 unfold Ci
 rw[show min (i:Int) (k:Int)=i by omega,show max (i:Int) (k:Int)=k by omega]
theorem KOk.add {n i k:Nat}{K:LL}(h:KOk n K)(hik:i<k)(hk:k<n)(hw:¬WayP K (i:Int) (k:Int)):KOk n (K++[Ci (i:Int) (k:Int)]):=by
 have hnot:Ci (i:Int) (k:Int)∉K:=λhm=>hw (λT h1 h2=>h2 _ _ h1 (.inl (by rw[EM hik] at hm;exact hm)))
 refine⟨?_,λl hl=> ?_⟩
 ·have hp:(K++[Ci (i:Int) (k:Int)]).Perm (Ci (i:Int) (k:Int)::K):=List.perm_append_comm
  exact hp.nodup_iff.2 (List.nodup_cons.2 ⟨hnot,h.nd⟩)
 ·rcases List.mem_append.1 hl with hl|hl
  ·exact h.lk l hl
  ·simp at hl;subst hl
   exact⟨i,k,EM hik,hik,hk⟩
theorem NetL.add {A A':LI}{n i k:Nat}{K:LL}(h:NetL A n K)(hik:i<k)(hk:k<n)(hA:Net A' n)(hnb:∀u w,u<n→Sx.nb A' u w=(Sx.nb A u w||(decide (u=i)&&decide (w=k))||(decide (u=k)&&decide (w=i)))):NetL A' n (K++[Ci (i:Int) (k:Int)]):=by
 refine⟨hA,λx y hx hy=> ?_⟩
 rw[hnb x y hx,EM hik]
 simp only[Bool.or_eq_true,Bool.and_eq_true,decide_eq_true_eq]
 rw[h.nb x y hx hy]
 unfold Lk
 simp only[List.mem_append,List.mem_singleton,List.cons.injEq,and_true,Int.natCast_inj]
 constructor
 ·rintro((h1|h1)|⟨h1,h2⟩)
  ·exact h1.elim (λh=> .inl (.inl h)) (λh=> .inr (.inl h))
  ·exact .inl (.inr h1)
  ·exact .inr (.inr ⟨h2,h1⟩)
 ·rintro((h1|h1)|(h1|⟨h1,h2⟩))
  ·exact .inl (.inl (.inl h1))
  ·exact .inl (.inr h1)
  ·exact .inl (.inl (.inr h1))
  ·exact .inr ⟨h2,h1⟩
section
variable {l : LI} (hn : l.length ≤ 16) (hvs : ∀ s ∈ l, VS s)
include hn hvs
end
section
variable {g : LL} (hg : GOk g)
include hg
end
end Go.Sx

namespace Go.Sx
section
variable {g : LL} (hg : GOk g)
include hg
end
end Go.Sx

namespace Go.Sx
def canR (R:Nat→Nat→Prop)(S:Nat→Prop)(v:Nat):Prop:=
 (∀w,S w→¬R v w)∨∃u,u≠v∧S u∧((∀w,S w→(R v w↔w=u))∨(¬R v u∧∀w,S w→(R v w↔R u w))∨(R v u∧∀w,S w→w≠u→w≠v→(R v w↔R u w)))
def Elim (R:Nat→Nat→Prop):Nat→(Nat→Prop)→Prop
 |0,S=>∀w,¬S w
 |k+1,S=>∃v,S v∧canR R S v∧Elim R k (λw=>S w∧w≠v)
theorem Elim.iso {R R':Nat→Nat→Prop}(f:Nat→Nat):∀(k:Nat) (S S':Nat→Prop),Elim R k S→(∀w,S w→S' (f w))→(∀w',S' w'→∃w,S w∧f w=w')→(∀u w,S u→S w→f u=f w→u=w)→(∀u w,S u→S w→(R' (f u) (f w)↔R u w))→Elim R' k S'
 |0,S,S',h,_,h2,_,_=>λw' hw'=>by
  obtain⟨w,hw,_⟩:=h2 w' hw'
  exact h w hw
 |k+1,S,S',h,h1,h2,h3,h4=>by
  obtain⟨v,hv,hc,he⟩:=h
  refine⟨f v,h1 v hv,?_,Elim.iso f k _ _ he (λw hw=>⟨h1 w hw.1,λe=>hw.2 (h3 w v hw.1 hv e)⟩) (λw' hw'=> ?_) (λu w hu hw=>h3 u w hu.1 hw.1) (λu w hu hw=>h4 u w hu.1 hw.1)⟩
  ·rcases hc with hc|⟨u,hu,hSu,hc⟩
   ·refine .inl λw' hw'=> ?_
    obtain⟨w,hw,rfl⟩:=h2 w' hw'
    rw[h4 v w hv hw];exact hc w hw
   ·refine .inr ⟨f u,λe=>hu (h3 u v hSu hv e),h1 u hSu,?_⟩
    rcases hc with hc|⟨hn,hc⟩|⟨hn,hc⟩
    ·refine .inl λw' hw'=> ?_
     obtain⟨w,hw,rfl⟩:=h2 w' hw'
     rw[h4 v w hv hw,hc w hw]
     exact⟨λe=>by rw[e],λe=>h3 w u hw hSu e⟩
    ·refine .inr (.inl ⟨λh=>hn ((h4 v u hv hSu).1 h),λw' hw'=> ?_⟩)
     obtain⟨w,hw,rfl⟩:=h2 w' hw'
     rw[h4 v w hv hw,h4 u w hSu hw];exact hc w hw
    ·refine .inr (.inr ⟨(h4 v u hv hSu).2 hn,λw' hw' hwu hwv=> ?_⟩)
     obtain⟨w,hw,rfl⟩:=h2 w' hw'
     rw[h4 v w hv hw,h4 u w hSu hw]
     exact hc w hw (λe=>hwu (by rw[e])) (λe=>hwv (by rw[e]))
  ·obtain⟨w,hw,rfl⟩:=h2 w' hw'.1
   exact⟨w,⟨hw,λe=>hw'.2 (by rw[e])⟩,rfl⟩
theorem Elim.congr {R R':Nat→Nat→Prop}{k:Nat}{S S':Nat→Prop}(h:Elim R k S)(hS:∀w,S w↔S' w)(hR:∀u w,S u→S w→(R' u w↔R u w)):Elim R' k S':=
 Elim.iso id k S S' h (λw hw=>(hS w).1 hw) (λw hw=>⟨w,(hS w).2 hw,rfl⟩) (λ_ _ _ _ e=>e) hR
def Ds (F:LI)(p:Pr):Int:=if p.2.2=2 then ishl .u32 1 p.2.1 else if p.2.2=3 then F.getD p.2.1.toNat 0 else if p.2.2=4 then ior .u32 (F.getD p.2.1.toNat 0) (ishl .u32 1 p.2.1) else 0
def Fs (n:Nat):List Pr→LI
 |[]=>List.replicate n 0
 |p::l=>DE n (Fs n l) p.1.toNat (Ds (Fs n l) p)
def vsOf (l:List Pr):LI:=l.map (·.1)
structure GI (n:Nat)(l:List Pr)(s:Int):Prop where
 f:FOk (Fs n l) n
 i:In n s
 mem:∀w:Nat,has s w=true↔(w:Int)∈vsOf l
 thr:∀u w,u<n→nb (Fs n l) u w=true→has s u=true∧has s w=true
 nonneg:∀x∈vsOf l,0≤x
theorem GI.nil (n:Nat):GI n [] 0:=by
 have hz:∀u,(List.replicate n (0:Int)).getD u 0=0:=λu=>by
  rw[List.getD_eq_getElem?_getD,List.getElem?_replicate];split<;>rfl
 have hn:∀u w,nb (List.replicate n (0:Int)) u w=false:=λu w=>by unfold nb;rw[hz,BL]
 exact⟨⟨by simp[Fs],λu _=>by show VS ((List.replicate n (0:Int)).getD u 0);rw[hz];exact VS.zero,λu w _ h=>(by rw[show nb (Fs n []) u w=false from hn u w] at h;cases h),λu _=>hn u u,λu w _ h=>(by rw[show nb (Fs n []) u w=false from hn u w] at h;cases h)⟩,
  ⟨VS.zero,λw h=>(by rw[BL] at h;cases h)⟩,λw=>(by rw[BL];simp[vsOf]),λu w _ h=>(by rw[show nb (Fs n []) u w=false from hn u w] at h;cases h),by simp[vsOf]⟩
def needs (k:Int):Prop:=k=2∨k=3∨k=4
theorem near_ok {n:Nat}(hn:n≤16){l:List Pr}{s:Int}(h:GI n l s){p:Pr}(hby:needs p.2.2→∃b:Nat,p.2.1=b∧has s b=true):In n (Ds (Fs n l) p)∧∀w,has (Ds (Fs n l) p) w=true→has s w=true:=by
 have key:VS (Ds (Fs n l) p)∧∀w,has (Ds (Fs n l) p) w=true→has s w=true:=by
  unfold Ds
  by_cases k2:p.2.2=2
  ·obtain⟨b,e,hb⟩:=hby (.inl k2)
   have:=h.i.2 b hb
   rw[if_pos k2,e]
   refine⟨VS.ishl _ _,λw hw=> ?_⟩
   rw[BE (by omega)] at hw
   rw[of_decide_eq_true hw];exact hb
  ·rw[if_neg k2]
   by_cases k3:p.2.2=3
   ·obtain⟨b,e,hb⟩:=hby (.inr (.inl k3))
    have hbn:=h.i.2 b hb
    rw[if_pos k3,e,Int.toNat_natCast]
    exact⟨h.f.vs b hbn,λw hw=>(h.thr b w hbn hw).2⟩
   ·rw[if_neg k3]
    by_cases k4:p.2.2=4
    ·obtain⟨b,e,hb⟩:=hby (.inr (.inr k4))
     have hbn:=h.i.2 b hb
     rw[if_pos k4,e,Int.toNat_natCast]
     refine⟨VS.ior _ _,λw hw=> ?_⟩
     rw[B6 (h.f.vs b hbn) (VS.ishl _ _),BE (by omega),Bool.or_eq_true] at hw
     rcases hw with hw|hw
     ·exact(h.thr b w hbn hw).2
     ·rw[of_decide_eq_true hw];exact hb
    ·rw[if_neg k4]
     exact⟨VS.zero,λw hw=>by rw[BL] at hw;cases hw⟩
 exact⟨⟨key.1,λw hw=>h.i.2 w (key.2 w hw)⟩,key.2⟩
theorem GI.step {n:Nat}(hn:n≤16){l:List Pr}{s:Int}(h:GI n l s){p:Pr}{v:Nat}(e:p.1=v)(hv:v<n)(hsv:has s v=false)(hby:needs p.2.2→∃b:Nat,p.2.1=b∧has s b=true):
  GI n (p::l) (ior .u32 s (ishl .u32 1 (v:Int)))∧Fs n (p::l)=DE n (Fs n l) v (Ds (Fs n l) p)∧has (Ds (Fs n l) p) v=false∧∀w,nb (Fs n l) v w=false:=by
 obtain⟨hS,hSs⟩:=near_ok hn h hby
 have hSv:has (Ds (Fs n l) p) v=false:=by
  rw[Bool.eq_false_iff];intro hc;rw[hSs v hc] at hsv;cases hsv
 have eF:Fs n (p::l)=DE n (Fs n l) v (Ds (Fs n l) p):=by
  show DE n (Fs n l) p.1.toNat _=_
  rw[e,Int.toNat_natCast]
 have hh:∀w,has (ior .u32 s (ishl .u32 1 (v:Int))) w=(has s w||decide (w=v)):=λw=>by rw[B6 h.i.1 (VS.ishl _ _),BE (by omega)]
 refine⟨⟨by rw[eF];exact joinF_ok hn h.f hS hv hSv,⟨VS.ior _ _,λw hw=> ?_⟩,λw=> ?_,λu w hu hw=> ?_,λx hx=> ?_⟩,eF,hSv,λw=> ?_⟩
 ·rw[hh,Bool.or_eq_true,decide_eq_true_eq] at hw
  rcases hw with hw|hw
  ·exact h.i.2 w hw
  ·omega
 ·rw[hh,Bool.or_eq_true,decide_eq_true_eq,h.mem]
  unfold vsOf
  rw[List.map_cons,List.mem_cons,e]
  constructor
  ·rintro(hw|hw)
   ·exact .inr hw
   ·exact .inl (by omega)
  ·rintro(hw|hw)
   ·exact .inr (by omega)
   ·exact .inl hw
 ·rw[eF,Dn hn h.f hS hv hu] at hw
  simp only[hh,Bool.or_eq_true,Bool.and_eq_true,decide_eq_true_eq] at hw ⊢
  rcases hw with(hw|hw)|hw
  ·have:=h.thr u w hu hw
   exact⟨.inl this.1,.inl this.2⟩
  ·exact⟨.inr hw.1,.inl (hSs w hw.2)⟩
  ·exact⟨.inl (hSs u hw.1),.inr hw.2⟩
 ·unfold vsOf at hx
  rw[List.map_cons,List.mem_cons,e] at hx
  rcases hx with rfl|hx
  ·omega
  ·exact h.nonneg x hx
 ·rw[Bool.eq_false_iff];intro hc
  rw[(h.thr v w hv hc).1] at hsv;cases hsv
def Lsts (g:LL)(K:Int):Prop:=In g.length K∧(∀u w,has K u=true→has K w=true→¬adj g u w)∧∀w,w<g.length→has K w=true∨∃v,has K v=true∧adj g v w
structure LSt (g:LL)(l:LI):Prop where
 up:l.Pairwise (λa b=>skey a<skey b)
 mem:∀K,K∈l↔Lsts g K
theorem LSt.vs {g:LL}{l:LI}(h:LSt g l):∀s∈l,VS s:=λs hs=>((h.mem s).1 hs).1.1
theorem LSt.len {g:LL}{l:LI}(hg:GOk g)(h:LSt g l):l.length≤65536:=masks_len hg.n16 (λK hK=>((h.mem K).1 hK).1) (rise_nodup h.up)
theorem row_more (g:LL)(v:Nat):row (g++[[]]) v=row g v:=by
 unfold row
 rw[List.getD_eq_getElem?_getD,List.getD_eq_getElem?_getD]
 by_cases h:v<g.length
 ·rw[List.getElem?_append_left h]
 ·rw[List.getElem?_append_right (by omega),List.getElem?_eq_none (show g.length≤v by omega)]
  by_cases h2:v-g.length=0
  ·rw[h2];rfl
  ·rw[List.getElem?_eq_none (by simp;omega)]
theorem GOk.more {g:LL}(hg:GOk g)(h16:g.length<16):GOk (g++[[]]):=by
 have hl:(g++[[]]).length=g.length+1:=by simp
 have hadj:∀u v,adj (g++[[]]) u v↔adj g u v:=λu v=>by unfold adj;rw[row_more]
 have hn:∀u v,adj g u v→u<g.length:=λu v h=>by
  apply Classical.byContradiction
  intro hc
  unfold adj row at h
  rw[List.getD_eq_getElem?_getD,List.getElem?_eq_none (by omega)] at h
  simp at h
 refine⟨by omega,by omega,λv _=> ?_,λv _ h=> ?_,λu v _ h=> ?_⟩
 ·rw[row_more]
  by_cases hv:v<g.length
  ·exact⟨(hg.rows v hv).1,λx hx=>by have:=(hg.rows v hv).2 x hx;omega⟩
  ·unfold row
   rw[List.getD_eq_getElem?_getD,List.getElem?_eq_none (by omega)]
   exact⟨by simp[Inc],by simp⟩
 ·rw[hadj] at h;exact hg.irr v (hn v v h) h
 ·rw[hadj] at h ⊢;exact hg.sym u v (hn u v h) h
def AllGo (g:LL):Prop:=Elim (adj g) g.length (λw=>w<g.length)
theorem AllGo.add {g y:LL}(hg:GOk g)(h:AllGo g){x:LI}(hx:SetOf x (g.length:Int))(hl:y.length=g.length+1)
  (hA:∀u w:Nat,adj y u w↔adj g u w∨(u=g.length∧(w:Int)∈x)∨(w=g.length∧(u:Int)∈x)) (hc:canR (adj y) (λw=>w<g.length+1) g.length):AllGo y:=by
 unfold AllGo
 rw[hl]
 refine⟨g.length,by omega,hc,h.congr (λw=>⟨λh=>⟨by omega,by omega⟩,λh=>by omega⟩) (λu w hu hw=> ?_)⟩
 rw[hA]
 constructor
 ·rintro(h|⟨h,_⟩|⟨h,_⟩)
  ·exact h
  ·omega
  ·omega
 ·exact .inl
theorem EC {g:LL}(hg:GOk g):D.u0 g g=some true:=by
 unfold D.u0 D.l1
 have e:((g.length:Int) !=(g.length:Int))=false:=by simp
 rw[Dh g hg.sh2,CR hg]
 simp only[bs,cond_true,e,cond_false]
 rw[Cj g.length (λ_=>true) false (λi hi=> ?_) ?_ rfl rfl]
 ·simp
 ·simp only[Bq,cond_false]
 ·have h16:=hg.n16
  rw[dlt hi,cond_true,AP hi,bs,bs,l1Same_eq _ _ (hg.sh2.2 _ (List.getElem_mem hi)),decide_eq_true rfl,bs,Bool.not_true,cond_false,wi (by omega),if_pos rfl]
def lf (xs:List (Int×Int))(v:Nat):Int:=(xs.getD v (0,0)).1
def rt (xs:List (Int×Int))(v:Nat):Int:=(xs.getD v (0,0)).2
def meetB (xs:List (Int×Int))(u v:Nat):Bool:=decide (lf xs u≤rt xs v)&&decide (lf xs v≤rt xs u)
structure IvL (xs:List (Int×Int)):Prop where
 n1:1≤xs.length
 n16:xs.length≤16
 ok:∀x∈xs,0≤x.1∧x.1≤x.2∧x.2≤100
def rowI (xs:List (Int×Int))(v m:Nat):LI:=((List.range m).filter λu=>decide (u≠v)&&meetB xs u v).map Int.ofNat
def gI (xs:List (Int×Int)):LL:=(List.range xs.length).map λv=>rowI xs v xs.length
theorem gI_len (xs:List (Int×Int)):(gI xs).length=xs.length:=by simp[gI]
theorem mem_rowI {xs:List (Int×Int)}{v m:Nat}{x:Int}:x∈rowI xs v m↔∃u:Nat,x=(u:Int)∧u<m∧u≠v∧meetB xs u v=true:=by
 unfold rowI
 simp only[List.mem_map,List.mem_filter,List.mem_range,Bool.and_eq_true,decide_eq_true_eq]
 constructor
 ·rintro⟨u,⟨h1,h2,h3⟩,rfl⟩;exact⟨u,rfl,h1,h2,h3⟩
 ·rintro⟨u,rfl,h1,h2,h3⟩;exact⟨u,⟨h1,h2,h3⟩,rfl⟩
theorem row_gI {xs:List (Int×Int)}{v:Nat}(hv:v<xs.length):row (gI xs) v=rowI xs v xs.length:=by
 unfold row gI
 rw[AQ (by simpa using hv)];simp
theorem adj_gI {xs:List (Int×Int)}{v u:Nat}(hv:v<xs.length):adj (gI xs) v u↔u<xs.length∧u≠v∧meetB xs u v=true:=by
 unfold adj
 rw[row_gI hv,mem_rowI]
 constructor
 ·rintro⟨w,e,h⟩
  obtain rfl:u=w:=by omega
  exact h
 ·intro h;exact⟨u,rfl,h⟩
theorem meetB_comm (xs:List (Int×Int))(u v:Nat):meetB xs u v=meetB xs v u:=by unfold meetB;exact Bool.and_comm _ _
theorem rowI_inc (xs:List (Int×Int))(v m:Nat):Inc (rowI xs v m):=by
 unfold Inc rowI
 rw[List.pairwise_map]
 refine List.Pairwise.imp (fun{a b} h=>by show (a:Int)<(b:Int);omega) (List.Pairwise.filter _ List.pairwise_lt_range)
theorem gI_ok {xs:List (Int×Int)}(h1:1≤xs.length)(h16:xs.length≤16):GOk (gI xs):=by
 have hl:=gI_len xs
 refine⟨by omega,by omega,λv hv=> ?_,λv hv ha=> ?_,λu v hu ha=> ?_⟩
 ·rw[hl] at hv ⊢
  rw[row_gI hv]
  refine⟨rowI_inc _ _ _,λx hx=> ?_⟩
  obtain⟨u,rfl,h2,_⟩:=mem_rowI.1 hx
  omega
 ·rw[hl] at hv
  exact((adj_gI hv).1 ha).2.1 rfl
 ·rw[hl] at hu
  obtain⟨a,b,c⟩:=(adj_gI hu).1 ha
  exact(adj_gI a).2 ⟨hu,λe=>b e.symm,by rw[meetB_comm];exact c⟩
theorem IvL.g {xs:List (Int×Int)}(h:IvL xs):GOk (gI xs):=gI_ok h.n1 h.n16
theorem IvL.at {xs:List (Int×Int)}(h:IvL xs){v:Nat}(hv:v<xs.length):0≤lf xs v∧lf xs v≤rt xs v∧rt xs v≤100:=by
 unfold lf rt
 rw[AQ hv]
 exact h.ok _ (List.getElem_mem hv)
section
variable {xs : List (Int × Int)} (h : IvL xs)
include h
end
end Go.Sx

namespace Go.Sx
section
variable {g : LL} (hg : GOk g) {l o : LI} (hl : GC g l) (h16 : l.length ≤ 16) (ho : Goes l 0 o) (hol : o.length ≤ 32)
include hg hl h16 ho hol
end
end Go.Sx

namespace Go.Sx
section
variable {g : LL} (hg : GOk g)
include hg
omit hg in
theorem Apt.swap {ad:Nat→Nat→Prop}{X:Nat→Prop}(hs:∀a b,ad a b→ad b a){a b c:Nat}(h:Apt ad X a b c):Apt ad X b a c:=by
 obtain⟨h1,h2,h3,n1,n2,n3,a1,a2,a3,p1,p2,p3⟩:=h
 exact⟨h2,h1,h3,n1.symm,n3,n2,λe=>a1 (hs _ _ e),a3,a2,Cn.sym hs ⟨h1,n2,λe=>a2 (hs _ _ e)⟩ p1,p3,p2⟩
end
end Go.Sx

namespace Go.Sx
section
variable {g : LL} (hg : GOk g)
include hg
end
end Go.Sx

namespace Go.Sx
noncomputable abbrev arC (a b:Int×Int):Option Int:=D.c a.1 a.2 b.1 b.2
theorem Ff :D.X0=DG.insertionSort arC:=by kernel_rfl
theorem sa_heapSort :D.W0=DG.heapSort arC:=by kernel_rfl
theorem Fh :D.Y0=DG.breakPatterns arC:=by kernel_rfl
theorem sa_choosePivot :D.i1=DG.choosePivot arC:=by kernel_rfl
theorem Fj :D.k1=DG.reverseRange arC:=by kernel_rfl
theorem DX :D.h1=DG.partialInsertionSort arC:=by kernel_rfl
theorem E3 :D.V0=DG.partitionEqual arC:=by kernel_rfl
theorem sa_partition :D.U0=DG.partition arC:=by kernel_rfl
theorem sa_pdqsort :∀(n:Nat) x a b c,D.z n x a b c=DG.pdqsortR arC n x a b c
 |0,_,_,_,_=>rfl
 |n+1,x,a,b,c=>by
  unfold D.z DG.pdqsortR
  rw[Ff,sa_heapSort,Fh,sa_choosePivot,Fj,DX,E3,sa_partition,funext (λx=>funext λa=>funext λb=>funext λc=>sa_pdqsort n x a b c)]
  kernel_rfl
theorem sa_Sort (x):D.b0 x=DG.Sort arC x:=by
 unfold D.b0 DG.Sort D.f DG.pdqsort
 simp only[sa_pdqsort]
theorem loop_app {α β γ S:Type}{step:S→Option (S ⊕ List β)}{k:List β→Option γ}(xs:List α)(enc:List β→Int→S)(f:α→β)(l0:List β)(hl:l0.length+xs.length≤4294967296)
  (hstep:∀s (i:Nat) (h:i<xs.length),step (enc s i)=(A8 s [f xs[i]]).bind λl=>some (.inl (enc l ((i+1:Nat):Int))))
  (hend:∀s,step (enc s xs.length)=some (.inr s)):(Aq step (enc l0 0)).bind k=k (l0++xs.map f):=by
 have key:∀i,i≤xs.length→Aq step (enc l0 0)=Aq step (enc (l0++(xs.take i).map f) i):=by
  intro i
  induction i with
  |zero=>intro _;simp
  |succ i ih=>
   intro hi
   rw[ih (by omega)]
   have h1:=hstep (l0++(xs.take i).map f) i (by omega)
   rw[Bm (by simp;omega),bs] at h1
   rw[BU h1,List.take_succ_eq_append_getElem (show i<xs.length by omega),List.map_append,List.append_assoc]
   rfl
 rw[key xs.length (Nat.le_refl _),List.take_length,Bp (hend _)];rfl
theorem bind_step {α γ:Type}{e:Option α}{a:α}{k:α→Option γ}{Q:γ→Prop}(h:(e.bind λx=>some x)=some a)(hk:∃y,k a=some y∧Q y):∃y,e.bind k=some y∧Q y:=by
 cases e with
 |none=>cases h
 |some x=>obtain rfl:=Option.some.inj h;exact hk
def arG (x:Int×Int):Prop:=0≤x.1∧x.1<1048576∧0≤x.2∧x.2<1048576
noncomputable abbrev byArrow :Gs.Srtd (Int×Int) where
 dflt:=(0,0)
 key:=λx=>x.1*1048576+x.2
 good:=arG
 cmp:=arC
 law:=λx y hx hy=>by
  obtain⟨h1,h2,h3,h4⟩:=hx;obtain⟨k1,k2,k3,k4⟩:=hy
  unfold arC D.c
  by_cases he:x.1=y.1
  ·have e:(x.1 !=y.1)=false:=by simp[he]
   rw[e,cond_false,w64 (by omega) (by omega)]
   exact⟨_,rfl,by rw[decide_eq_decide];omega⟩
  ·have e:(x.1 !=y.1)=true:=by simpa using he
   rw[e,cond_true,w64 (by omega) (by omega)]
   exact⟨_,rfl,by rw[decide_eq_decide];omega⟩
theorem arSort_ok (l:List (Int×Int))(h:∀x∈l,arG x)(hl:l.length≤1000000):∃l',D.b0 l=some l'∧l'.Perm l:=by
 obtain⟨l',e,hp,_⟩:= @Gs.sort_spec (Int×Int) byArrow l h hl
 exact⟨l',by rw[sa_Sort];exact e,hp⟩
abbrev ap (a b:Nat):Int×Int:=((a:Int),(b:Int))
theorem ap_inj {a b c d:Nat}(h:ap a b=ap c d):a=c∧b=d:=by
 simp only[ap,Prod.mk.injEq] at h
 omega
section
variable {g : LL} (hg : GOk g)
include hg
theorem forces_ok {a b:Nat}(hab:adj g a b):∃ys,D.c0 (g.map mk) (a:Int) (b:Int)=some ys∧(ys.length≤64∧(∀x∈ys,∃c d:Nat,x=ap c d)∧∀c d:Nat,ap c d∈ys↔Gm (adj g) a b c d):=by
 have h16:=hg.n16
 have ha:=BD hg hab
 have hb:=hg.lt ha hab
 have hlm:(g.map mk).length=g.length:=by simp
 have hF:=FOk.of hg
 have va:=hF.vs a ha;have vb:=hF.vs b hb
 have hid:∀{x:Nat},x<g.length→idx (g.map mk) (x:Int)=some ((g.map mk).getD x 0):=λhx=>by rw[AP (by omega),AQ (by omega)]
 unfold D.c0
 rw[hid ha,bs,hid hb,bs,Ck,bs,list_eq _ (VS.iandNot _ _),bs]
 generalize hS:iandNot .u32 (iandNot .u32 ((g.map mk).getD a 0) ((g.map mk).getD b 0)) (ishl .u32 1 (b:Int))=S
 generalize hS':iandNot .u32 (iandNot .u32 ((g.map mk).getD b 0) ((g.map mk).getD a 0)) (ishl .u32 1 (a:Int))=S'
 have hmS:∀x,x∈AY S↔∃c:Nat,x=(c:Int)∧adj g a c∧¬adj g b c∧c≠b:=λx=>by
  rw[mem_elems,←hS]
  constructor
  ·rintro⟨c,hc32,hc,rfl⟩
   rw[Bt (VS.iandNot _ _) (VS.ishl _ _),Bt va vb,BE (by omega),Bool.and_eq_true,Bool.and_eq_true,Bool.not_eq_true',Bool.not_eq_true',decide_eq_false_iff_not] at hc
   exact⟨c,rfl,(Cg hg ha).1 hc.1.1,λe=>by have:=(Cg hg hb).2 e;unfold nb at this;rw[this] at hc;simp at hc,hc.2⟩
  ·rintro⟨c,rfl,h1,h2,h3⟩
   refine⟨c,by have:=hg.lt ha h1;omega,?_,rfl⟩
   rw[Bt (VS.iandNot _ _) (VS.ishl _ _),Bt va vb,BE (by omega),Bool.and_eq_true,Bool.and_eq_true,Bool.not_eq_true',Bool.not_eq_true',decide_eq_false_iff_not]
   refine⟨⟨(Cg hg ha).2 h1,?_⟩,h3⟩
   cases hh:has ((g.map mk).getD b 0) c
   ·rfl
   ·exact absurd ((Cg hg hb).1 hh) h2
 have hmS':∀x,x∈AY S'↔∃c:Nat,x=(c:Int)∧adj g b c∧¬adj g a c∧c≠a:=λx=>by
  rw[mem_elems,←hS']
  constructor
  ·rintro⟨c,hc32,hc,rfl⟩
   rw[Bt (VS.iandNot _ _) (VS.ishl _ _),Bt vb va,BE (by omega),Bool.and_eq_true,Bool.and_eq_true,Bool.not_eq_true',Bool.not_eq_true',decide_eq_false_iff_not] at hc
   exact⟨c,rfl,(Cg hg hb).1 hc.1.1,λe=>by have:=(Cg hg ha).2 e;unfold nb at this;rw[this] at hc;simp at hc,hc.2⟩
  ·rintro⟨c,rfl,h1,h2,h3⟩
   refine⟨c,by have:=hg.lt hb h1;omega,?_,rfl⟩
   rw[Bt (VS.iandNot _ _) (VS.ishl _ _),Bt vb va,BE (by omega),Bool.and_eq_true,Bool.and_eq_true,Bool.not_eq_true',Bool.not_eq_true',decide_eq_false_iff_not]
   refine⟨⟨(Cg hg hb).2 h1,?_⟩,h3⟩
   cases hh:has ((g.map mk).getD a 0) c
   ·rfl
   ·exact absurd ((Cg hg ha).1 hh) h2
 have hl1:=D3 S;have hl2:=D3 S'
 refine bind_step (loop_app (k:=λl=>some l) (AY S) (fun(l:List (Int×Int)) (i:Int)=>(l,i)) (λx=>((a:Int),x)) [] (by simp;omega) (λs i hi=>by simp only[dlt hi,cond_true,AP hi,bs,wq i]) (λs=>by simp only[Bq,cond_false])) ?_
 rw[bs,bs,Ck,bs,list_eq _ (VS.iandNot _ _),bs,hS']
 refine bind_step (loop_app (k:=λl=>some l) (AY S') (fun(l:List (Int×Int)) (i:Int)=>(l,i)) (λx=>(x,(b:Int))) _ (by simp;omega) (λs i hi=>by simp only[dlt hi,cond_true,AP hi,bs,wq i]) (λs=>by simp only[Bq,cond_false])) ?_
 have hm:∀c d:Nat,ap c d∈[]++(AY S).map (λx=>((a:Int),x))++(AY S').map (λx=>(x,(b:Int)))↔Gm (adj g) a b c d:=λc d=>by
  simp only[List.nil_append,List.mem_append,List.mem_map]
  constructor
  ·rintro(⟨x,hx,e⟩|⟨x,hx,e⟩)
   ·obtain⟨y,rfl,h1,h2,h3⟩:=(hmS x).1 hx
    obtain⟨rfl,rfl⟩:=ap_inj (a:=a) (b:=y) e
    exact⟨h1,.inl ⟨rfl,h2,λe=>h3 e.symm⟩⟩
   ·obtain⟨y,rfl,h1,h2,h3⟩:=(hmS' x).1 hx
    obtain⟨rfl,rfl⟩:=ap_inj (a:=y) (b:=b) e
    exact⟨Ee hg _ _ h1,.inr ⟨rfl,h2,λe=>h3 e.symm⟩⟩
  ·rintro⟨h0,⟨rfl,h2,h3⟩|⟨rfl,h2,h3⟩⟩
   ·exact .inl ⟨_,(hmS d).2 ⟨d,rfl,h0,h2,λe=>h3 e.symm⟩,rfl⟩
   ·exact .inr ⟨_,(hmS' c).2 ⟨c,rfl,Ee hg _ _ h0,h2,λe=>h3 e.symm⟩,rfl⟩
 have hall:∀x∈[]++(AY S).map (λx=>((a:Int),x))++(AY S').map (λx=>(x,(b:Int))),∃c d:Nat,x=ap c d:=λx hx=>by
  simp only[List.nil_append,List.mem_append,List.mem_map] at hx
  rcases hx with⟨z,hz,rfl⟩|⟨z,hz,rfl⟩
  ·obtain⟨y,rfl,_⟩:=(hmS z).1 hz;exact⟨a,y,rfl⟩
  ·obtain⟨y,rfl,_⟩:=(hmS' z).1 hz;exact⟨y,b,rfl⟩
 have hgood:∀x∈[]++(AY S).map (λx=>((a:Int),x))++(AY S').map (λx=>(x,(b:Int))),arG x:=λx hx=>by
  obtain⟨c,d,rfl⟩:=hall x hx
  have h:=((hm c d).1 hx).1
  have h1:=BD hg h
  have h2:=hg.lt h1 h
  unfold arG
  dsimp only
  omega
 obtain⟨l',e,hp⟩:=arSort_ok _ hgood (by simp;omega)
 rw[e,bs]
 refine⟨l',rfl,by rw[hp.length_eq];simp;omega,λx hx=>hall x (hp.mem_iff.1 hx),λc d=>by rw[hp.mem_iff];exact hm c d⟩
end
end Go.Sx

namespace Go.Sx
theorem mpGet_some {M:ArM}{x:Int×Int}:(By M x).isSome=true↔x∈M.map (·.1):=by
 unfold By
 rw[Option.isSome_map,List.find?_isSome]
 constructor
 ·rintro⟨kv,h1,h2⟩
  exact List.mem_map.2 ⟨kv,h1,beq_iff_eq.1 h2⟩
 ·intro h
  obtain⟨kv,h1,h2⟩:=List.mem_map.1 h
  exact⟨kv,h1,beq_iff_eq.2 h2⟩
section
variable {g : LL} (hg : GOk g)
include hg
theorem pairs_few {L:ArL}(hn:L.Nodup)(h:∀x∈L,∃c d:Nat,x=ap c d∧c<g.length∧d<g.length):L.length≤256:=by
 have h16:=hg.n16
 have:=Ca (l:=L.map λx=>x.1*16+x.2) (m:=(List.range 256).map Int.ofNat) (by
  unfold List.Nodup
  rw[List.pairwise_map]
  refine List.Pairwise.imp_of_mem (fun{x y} hx hy hne he=> ?_) hn
  obtain⟨c,d,rfl,h1,h2⟩:=h x hx
  obtain⟨c',d',rfl,h3,h4⟩:=h y hy
  apply hne
  dsimp only at he
  have:c=c'∧d=d':=by omega
  rw[this.1,this.2]) (λz hz=>by
  obtain⟨x,hx,rfl⟩:=List.mem_map.1 hz
  obtain⟨c,d,rfl,h1,h2⟩:=h x hx
  exact List.mem_map.2 ⟨c*16+d,List.mem_range.2 (by omega),by simp⟩)
 simpa using this
structure Fnd (g:LL)(u v:Nat)(M:ArM)(L:ArL):Prop where
 eq:L=M.map (·.1)
 nd:L.Nodup
 kl:∀x∈L,∃c d:Nat,x=ap c d∧Kl (adj g) u v c d
 st:ap u v∈L
theorem Fnd.few {u v:Nat}(huv:adj g u v){M:ArM}{L:ArL}(h:Fnd g u v M L):L.length≤256:=pairs_few hg h.nd λx hx=>by
 obtain⟨c,d,rfl,hk⟩:=h.kl x hx
 have he:=hk.edge huv
 exact⟨c,d,rfl,BD hg he,hg.lt (BD hg he) he⟩
theorem ffIn_ok {u v:Nat}(huv:adj g u v){i:Nat}{ys:ArL}(hys:ys.length≤64)(hyk:∀x∈ys,∃c d:Nat,x=ap c d∧Kl (adj g) u v c d){M0:ArM}{L0:ArL}(h0:Fnd g u v M0 L0)(hi:i<L0.length):
  ∃q,Aq (D.r1 ys (i:Int)) (M0,L0,0)=some q∧(Fnd g u v q.1 q.2∧L0<+:q.2∧∀y∈ys,y∈q.2):=by
 refine D9 (λs=>∃j:Nat,s.2.2=(j:Int)∧j≤ys.length∧Fnd g u v s.1 s.2.1∧L0<+:s.2.1∧∀k (hk:k<ys.length),k<j→ys[k]∈s.2.1) (λs=>ys.length-s.2.2.toNat) _ ?_ _ ⟨0,rfl,Nat.zero_le _,h0,List.prefix_refl _,λk _ h=>absurd h (Nat.not_lt_zero k)⟩
 rintro⟨M,L,_⟩ ⟨j,rfl,hj,hF,hp,hin⟩
 dsimp only at hF hp hin ⊢
 unfold D.r1
 by_cases hjl:j<ys.length
 ·left
  simp only[dlt hjl,cond_true,AP hjl,bs,wq j]
  have hlen:=hF.few hg huv
  obtain⟨c,d,hy,hk⟩:=hyk _ (List.getElem_mem hjl)
  cases hm:(By M ys[j]).isSome
  ·have hnot:ys[j]∉L:=λh=>by
    rw[hF.eq] at h
    rw[mpGet_some.2 h] at hm;cases hm
   have hil:i<L.length:=Nat.lt_of_lt_of_le hi hp.length_le
   simp only[Bool.not_false,cond_true,AP hil,bs]
   rw[Bm (by simp;omega),bs]
   refine⟨_,rfl,⟨j+1,rfl,hjl,⟨?_,?_,λx hx=> ?_,List.mem_append_left _ hF.st⟩,hp.trans (List.prefix_append _ _),λk hk' hkj=> ?_⟩,by dsimp only;omega⟩
   ·rw[List.map_append,←hF.eq];rfl
   ·rw[List.nodup_append]
    exact⟨hF.nd,by simp,λa ha b hb e=>hnot (by simp at hb;rw[←hb,←e];exact ha)⟩
   ·rcases List.mem_append.1 hx with h|h
    ·exact hF.kl x h
    ·simp at h;subst h;exact⟨c,d,hy,hk⟩
   ·by_cases hkj':k=j
    ·subst hkj';exact List.mem_append_right _ (by simp)
    ·exact List.mem_append_left _ (hin k hk' (by omega))
  ·simp only[Bool.not_true,cond_false]
   refine⟨_,rfl,⟨j+1,rfl,hjl,hF,hp,λk hk' hkj=> ?_⟩,by dsimp only;omega⟩
   by_cases hkj':k=j
   ·subst hkj';rw[hF.eq];exact mpGet_some.1 hm
   ·exact hin k hk' (by omega)
 ·right
  obtain rfl:j=ys.length:=by omega
  simp only[Bq,cond_false]
  exact⟨_,rfl,hF,hp,λy hy=>by
   obtain⟨k,hk,rfl⟩:=List.getElem_of_mem hy
   exact hin k hk hk⟩
theorem forcedFrom_ok {u v:Nat}(huv:adj g u v):∃M,D.U (g.map mk) (ap u v)=some M∧((M.map (·.1)).Nodup∧(∀x∈M.map (·.1),∃c d:Nat,x=ap c d)∧∀c d:Nat,ap c d∈M.map (·.1)↔Kl (adj g) u v c d):=by
 unfold D.U
 refine D9 (λs:ArM×ArL×Int=>∃i:Nat,s.2.2=(i:Int)∧i≤s.2.1.length∧Fnd g u v s.1 s.2.1∧∀k (hk:k<s.2.1.length),k<i→∀p q r t:Nat,s.2.1[k]=ap p q→Gm (adj g) p q r t→ap r t∈s.2.1) (λs=>257-s.2.2.toNat) _ ?_ _
  ⟨0,rfl,by simp,⟨rfl,by simp,λx hx=>by simp at hx;exact⟨u,v,hx,Kl.refl⟩,by simp⟩,λk _ h=>absurd h (Nat.not_lt_zero k)⟩
 rintro⟨M,L,_⟩ ⟨i,rfl,hi,hF,hcl⟩
 dsimp only at hi hF hcl ⊢
 unfold D.x1
 have hlen:=hF.few hg huv
 by_cases hil:i<L.length
 ·left
  obtain⟨p,q,hx,hk⟩:=hF.kl _ (List.getElem_mem hil)
  have hpq:=hk.edge huv
  obtain⟨ys,ey,h1,h2,h3⟩:=forces_ok hg hpq
  simp only[dlt hil,cond_true,AP hil,bs,hx]
  rw[show D.c0 (g.map mk) (p:Int) (q:Int)=some ys from ey,bs]
  obtain⟨r,er,hF',hpre,hall⟩:=ffIn_ok hg huv (i:=i) (ys:=ys) h1 (λx hx'=>by
   obtain⟨c,d,rfl⟩:=h2 x hx'
   exact⟨c,d,rfl,hk.step ((h3 c d).1 hx')⟩) hF hil
  rw[er,bs,wi (by omega)]
  refine⟨_,rfl,⟨i+1,rfl,Nat.lt_of_lt_of_le hil hpre.length_le,hF',λk hkl hki p' q' r' t' e gm=> ?_⟩,by dsimp only;omega⟩
  have hkL:k<L.length:=by omega
  have hget:r.2[k]=L[k]:=by
   obtain⟨t,ht⟩:=hpre
   have:r.2[k]? =L[k]? :=by rw[←ht,List.getElem?_append_left hkL]
   rw[List.getElem?_eq_getElem hkl,List.getElem?_eq_getElem hkL] at this
   exact Option.some.inj this
  by_cases hki':k=i
  ·subst hki'
   dsimp only at e
   rw[hget,hx] at e
   obtain⟨rfl,rfl⟩:=ap_inj e
   exact hall _ ((h3 r' t').2 gm)
  ·exact hpre.subset (hcl k hkL (by omega) p' q' r' t' (by rw[←hget];exact e) gm)
 ·right
  obtain rfl:i=L.length:=by omega
  simp only[Bq,cond_false]
  refine⟨_,rfl,?_⟩
  have hEq:=hF.eq
  rw[←hEq]
  refine⟨hF.nd,λx hx=> ?_,λc d=>⟨λh=> ?_,λh=> ?_⟩⟩
  ·obtain⟨c,d,h,_⟩:=hF.kl x hx;exact⟨c,d,h⟩
  ·obtain⟨c',d',e,hk⟩:=hF.kl _ h
   obtain⟨rfl,rfl⟩:=ap_inj e
   exact hk
  ·refine h (λp q=>ap p q∈L) hF.st (λp q r t hpq gm=> ?_)
   obtain⟨k,hk,e⟩:=List.getElem_of_mem hpq
   exact hcl k hk hk p q r t e gm
end
end Go.Sx

namespace Go.Sx
abbrev Vx (n at' x:Nat):Prop:=x<n∧x≠at'
def PP (F:LI)(n:Nat)(S:Nat→Prop):Prop:=∀c x,S c→S x→x≠c→(∀w,Ad F c w→Cn (Ad F) (Vx n c) x w→S w)∧∀y,S y→y≠c→Cn (Ad F) (Vx n c) x y→Cn (Ad F) (λz=>S z∧z≠c) x y
structure Leaf (F:LI)(n:Nat)(S:Int):Prop where
 i:In n S
 ne:∃v,El S v
 j:Joint (Ad F) (El S)
 cut:∀v,El S v→Joint (Ad F) (Mn S v)
 p:PP F n (El S)
def Two (S:Int):Prop:=∃x y,El S x∧El S y∧x≠y
section
variable {F : LI} {n : Nat} (hn : n ≤ 16) (hF : FOk F n)
include hn hF
structure Side (F:LI)(n:Nat)(T Q:Nat→Prop)(v:Nat):Prop where
 tn:∀x,T x→x<n
 me:T v
 sub:∀x,Q x→T x∧x≠v
 cn:∀x y,Q x→(Q y↔Cn (Ad F) (λz=>T z∧z≠v) x y)
 ne:∃x,Q x
omit hn in
theorem Side.nb {T Q:Nat→Prop}{v:Nat}(h:Side F n T Q v){a b:Nat}(ha:Q a)(hb:T b)(hbv:b≠v)(hab:Ad F a b):Q b:=(h.cn a b ha).2 (Cn.refl.step hab ⟨hb,hbv⟩)
omit hn in
theorem Side.part {T Q:Nat→Prop}{v:Nat}(h:Side F n T Q v):Joint (Ad F) Q:=λx y hx hy=>
 ((h.cn x y hx).1 hy (λz=>Q z∧Cn (Ad F) Q x z) ⟨hx,Cn.refl⟩ (λa b ⟨p,q⟩ hab ⟨hb,hbv⟩=>by
  have:=h.nb hF p hb hbv hab
  exact⟨this,q.step hab this⟩)).2
structure Blk (F:LI)(n:Nat)(T:Int)(L:LI):Prop where
 lf:∀S∈L,Leaf F n S∧∀x,El S x→El T x
 two:Two T→∀S∈L,Two S
 edge:∀u w,El T u→El T w→Ad F u w→∃S∈L,El S u∧El S w
 one:¬Two T→L=[T]
end
end Go.Sx

namespace Go.Sx
section
variable {g : LL} (hg : GOk g)
include hg
end
end Go.Sx

namespace Go.Sx
def pr (a b:Nat):LI:=[(a:Int),(b:Int)]
theorem bnd_eq {α β:Type}{e:Option α}{a:α}{k:α→Option β}(h:e=some a):e.bind k=k a:=by rw[h];rfl
def Clo (g:LL)(u v a b:Nat):Prop:=∀T:Nat→Nat→Prop,T u v→T v u→(∀a b w,T a b→adj g a w→Cn (adj g) (Vx g.length a) b w→T a w∧T w a)→T a b
theorem Clo.base {g:LL}{u v:Nat}:Clo g u v u v:=λ_ h _ _=>h
theorem Clo.next {g:LL}{u v a b w:Nat}(h:Clo g u v a b)(ha:adj g a w)(hc:Cn (adj g) (Vx g.length a) b w):Clo g u v a w:=λT h1 h2 h3=>(h3 _ _ _ (h T h1 h2 h3) ha hc).1
theorem Clo.sym {g:LL}{u v a b:Nat}(h:Clo g u v a b):Clo g u v b a:=
 (h (λa b=>Clo g u v a b∧Clo g u v b a) ⟨Clo.base,λ_ _ h _=>h⟩ ⟨λ_ _ h _=>h,Clo.base⟩ (λa b w ⟨p,_⟩ q r=>⟨⟨p.next q r,λT h1 h2 h3=>(h3 _ _ _ (p T h1 h2 h3) q r).2⟩,⟨λT h1 h2 h3=>(h3 _ _ _ (p T h1 h2 h3) q r).2,p.next q r⟩⟩)).2
structure BI (g:LL)(u v:Nat)(E Sn:LL):Prop where
 e1:∀e∈E,∃a b:Nat,e=pr a b∧a<g.length∧adj g a b∧Clo g u v a b
 e2:∀a b:Nat,pr a b∈Sn↔pr a b∈E∨pr b a∈E
 e3:∀s∈Sn,∃a b:Nat,s=pr a b
 nd:E.Nodup
 e4:pr u v∈E
 sl:Sn.length=2*E.length
section
variable {g : LL} (hg : GOk g) {u v : Nat}
include hg
end
end Go.Sx

namespace Go.Sx
section
variable {g : LL} (hg : GOk g) {u v : Nat}
include hg
end
end Go.Sx

namespace Go.Sx
theorem l19Ahead_eq (x y:LI)(hx:x.length≤100000):∃r,D.u1 x y=some r∧(r=true↔cz x y<0):=by
 have key:∀(d i:Nat),x.length≤i+d→i≤x.length→i≤y.length→
   (Aq (σ:=Int) (ρ:=(Unit) ⊕ (Bool)) (fun(x_76:Int)=>cond ((decide (x_76<(x.length:Int)))&&(decide (x_76<(y.length:Int)))) ((idx x x_76).bind λe_117=>(idx y x_76).bind λe_123=>cond (e_117 !=e_123) ((idx x x_76).bind λe_132=>(idx y x_76).bind λe_138=>some (.inr (.inr (decide (e_132<e_138))))) (some (.inl (IntKind.i64.wrap (x_76+1))))) (some (.inr (.inl ())))) (i:Int)=some (.inl ())∧(cz (x.drop i) (y.drop i)<0↔x.length<y.length))∨
   ∃r,Aq (σ:=Int) (ρ:=(Unit) ⊕ (Bool)) (fun(x_76:Int)=>cond ((decide (x_76<(x.length:Int)))&&(decide (x_76<(y.length:Int)))) ((idx x x_76).bind λe_117=>(idx y x_76).bind λe_123=>cond (e_117 !=e_123) ((idx x x_76).bind λe_132=>(idx y x_76).bind λe_138=>some (.inr (.inr (decide (e_132<e_138))))) (some (.inl (IntKind.i64.wrap (x_76+1))))) (some (.inr (.inl ())))) (i:Int)=some (.inr r)∧(r=true↔cz (x.drop i) (y.drop i)<0):=by
  intro d
  induction d with
  |zero=>
   intro i h1 h2 h3
   obtain rfl:i=x.length:=by omega
   left
   refine⟨Bp ?_,?_⟩
   ·simp only[Bq,Bool.false_and,cond_false]
   ·rw[List.drop_length]
    cases hy:y.drop x.length with
    |nil=>
     have:=congrArg List.length hy
     simp at this
     simp[cz];omega
    |cons b t=>
     have:=congrArg List.length hy
     simp at this
     simp[cz];omega
  |succ d ih=>
   intro i h1 h2 h3
   by_cases hix:i<x.length
   ·by_cases hiy:i<y.length
    ·rw[List.drop_eq_getElem_cons hix,List.drop_eq_getElem_cons hiy]
     by_cases he:x[i]=y[i]
     ·have hb:(x[i] !=y[i])=false:=by simp[he]
      rw[BU (s':=((i+1:Nat):Int)) (by simp only[dlt hix,dlt hiy,Bool.and_self,cond_true,AP hix,AP hiy,bs,hb,cond_false,wq i])]
      have hcz:cz (x[i]::x.drop (i+1)) (y[i]::y.drop (i+1))=cz (x.drop (i+1)) (y.drop (i+1)):=by
       rw[he];simp[cz]
      rw[hcz]
      exact ih (i+1) (by omega) (by omega) (by omega)
     ·right
      have hb:(x[i] !=y[i])=true:=by simpa using he
      refine⟨decide (x[i]<y[i]),Bp (by simp only[dlt hix,dlt hiy,Bool.and_self,cond_true,AP hix,AP hiy,bs,hb]),?_⟩
      rw[decide_eq_true_eq]
      simp only[cz]
      by_cases hlt:x[i]<y[i]
      ·simp[hlt]
      ·have hgt:y[i]<x[i]:=by omega
       simp[hlt,hgt]
    ·left
     refine⟨Bp ?_,?_⟩
     ·have:decide ((i:Int)<(y.length:Int))=false:=by simp;omega
      simp only[this,Bool.and_false,cond_false]
     ·rw[List.drop_eq_getElem_cons hix,List.drop_of_length_le (l:=y) (by omega)]
      simp[cz];omega
   ·obtain rfl:i=x.length:=by omega
    left
    refine⟨Bp ?_,?_⟩
    ·simp only[Bq,Bool.false_and,cond_false]
    ·rw[List.drop_length]
     cases hy:y.drop x.length with
     |nil=>
      have:=congrArg List.length hy
      simp at this
      simp[cz];omega
     |cons b t=>
      have:=congrArg List.length hy
      simp at this
      simp[cz];omega
 unfold D.u1
 rcases key x.length 0 (by omega) (by omega) (by omega) with⟨e,h⟩|⟨r,e,h⟩
 ·refine⟨decide ((x.length:Int)<(y.length:Int)),(bnd_eq e).trans rfl,?_⟩
  rw[decide_eq_true_eq]
  rw[List.drop_zero,List.drop_zero] at h
  rw[h];omega
 ·rw[List.drop_zero,List.drop_zero] at h
  exact⟨r,(bnd_eq e).trans rfl,h⟩
theorem l19Put_any {L:LL}(hL:L.length≤100000)(hr:∀s∈L,s.length≤100)(x:LI):∃L',D.t1 L x=some L'∧((L'=L∧x∈L)∨∃k,k≤L.length∧L'=L.take k++[x]++L.drop k):=by
 unfold D.t1
 refine A2 (λs=>∃i:Nat,s=(i:Int)∧i≤L.length) (λs=>L.length-s.toNat) (λr:Int=>∃i:Nat,r=(i:Int)∧i≤L.length) ?_ ⟨0,rfl,Nat.zero_le _⟩ ?_
 ·rintro _ ⟨i,rfl,hi⟩
  by_cases hil:i<L.length
  ·obtain⟨r,er,_⟩:=l19Ahead_eq L[i] x (by have:=hr _ (List.getElem_mem hil);omega)
   rw[dlt hil,cond_true,AP hil,bs,er,bs,bs]
   cases r
   ·rw[cond_false];exact⟨_,rfl,i,rfl,hi⟩
   ·rw[cond_true,wi (by omega)]
    exact⟨_,rfl,⟨i+1,rfl,hil⟩,by dsimp only;omega⟩
  ·obtain rfl:i=L.length:=by omega
   rw[Bq,cond_false,bs,cond_false]
   exact⟨_,rfl,L.length,rfl,Nat.le_refl _⟩
 ·rintro _ ⟨i,rfl,hi⟩
  have hput:∃y,((BP L 0 (i:Int)).bind λl_244=>(A8 ([]:LL) l_244).bind λl_248=>(A8 l_248 ([x]:LL)).bind λl_258=>(BP L (i:Int) (L.length:Int)).bind λl_264=>(A8 l_258 l_264).bind λl_268=>some l_268)=some y∧((y=L∧x∈L)∨∃k,k≤L.length∧y=L.take k++[x]++L.drop k):=by
   rw[DI hi,bs,Bm (by simp;omega),bs,List.nil_append,Bm (by simp;omega),bs,Ea hi,bs,Bm (by simp;omega),bs]
   exact⟨_,rfl,.inr ⟨i,hi,rfl⟩⟩
  by_cases hil:i<L.length
  ·have hsh:Sh L[i]:=by have:=hr _ (List.getElem_mem hil);unfold Sh;omega
   rw[dlt hil,cond_true,AP hil,bs,l1Same_eq _ _ hsh,bs,bs]
   by_cases he:L[i]=x
   ·rw[decide_eq_true he,cond_true]
    exact⟨_,rfl,.inl ⟨rfl,he▸List.getElem_mem hil⟩⟩
   ·rw[decide_eq_false he,cond_false]
    exact hput
  ·obtain rfl:i=L.length:=by omega
   rw[Bq,cond_false,bs,cond_false]
   exact hput
def Prs (L:LL):Prop:=∀s∈L,∃a b:Nat,s=pr a b
theorem Prs.put {L:LL}(h:Prs L)(hL:L.length≤10000)(a b:Nat):∃L',D.t1 L (pr a b)=some L'∧Prs L'∧L'.length≤L.length+1∧(∀y,y∈L'↔y=pr a b∨y∈L)∧(pr a b∉L→L'.Perm (pr a b::L)):=by
 obtain⟨L',e,h1⟩:=l19Put_any (L:=L) (by omega) (λs hs=>by obtain⟨c,d,rfl⟩:=h s hs;simp[pr]) (pr a b)
 refine⟨L',e,?_⟩
 rcases h1 with⟨rfl,hm⟩|⟨k,hk,rfl⟩
 ·exact⟨h,by omega,λy=>⟨.inr,λhy=>hy.elim (λe=>e▸hm) id⟩,λhn=>absurd hm hn⟩
 ·have hp:(L.take k++[pr a b]++L.drop k).Perm (pr a b::L):=by
   rw[List.append_assoc]
   refine List.perm_middle.trans ?_
   show (pr a b::(L.take k++L.drop k)).Perm (pr a b::L)
   rw[List.take_append_drop]
  refine⟨λs hs=> ?_,by rw[hp.length_eq];simp,λy=>by rw[hp.mem_iff];simp,λ_=>hp⟩
  rcases List.mem_cons.1 (hp.mem_iff.1 hs) with rfl|hs
  ·exact⟨a,b,rfl⟩
  ·exact h s hs
section
variable {g : LL} (hg : GOk g)
include hg
end
end Go.Sx

namespace Go.Sx
section
variable {g : LL} (hg : GOk g)
include hg
structure Cls (g:LL)(u v:Nat)(todo out:LL):Prop where
 kl:∀x∈out,∃c d:Nat,x=pr c d∧Kl (adj g) u v c d
 nd:out.Nodup
 st:pr u v∈out
 td:∀x∈todo,x∈out
theorem prs_few {L:LL}(hn:L.Nodup)(h:∀x∈L,∃c d:Nat,x=pr c d∧c<g.length∧d<g.length):L.length≤256:=by
 have h16:=hg.n16
 have:=Ca (l:=L.map λx=>x.getD 0 0*16+x.getD 1 0) (m:=(List.range 256).map Int.ofNat) (by
  unfold List.Nodup
  rw[List.pairwise_map]
  refine List.Pairwise.imp_of_mem (fun{x y} hx hy hne he=> ?_) hn
  obtain⟨c,d,rfl,h1,h2⟩:=h x hx
  obtain⟨c',d',rfl,h3,h4⟩:=h y hy
  apply hne
  simp[pr] at he
  have:c=c'∧d=d':=by omega
  rw[this.1,this.2]) (λz hz=>by
  obtain⟨x,hx,rfl⟩:=List.mem_map.1 hz
  obtain⟨c,d,rfl,h1,h2⟩:=h x hx
  exact List.mem_map.2 ⟨c*16+d,List.mem_range.2 (by omega),by simp[pr]⟩)
 simpa using this
theorem Cls.few {u v:Nat}(huv:adj g u v){todo out:LL}(h:Cls g u v todo out):out.length≤256:=prs_few hg h.nd λx hx=>by
 obtain⟨c,d,rfl,hk⟩:=h.kl x hx
 have he:=hk.edge huv
 exact⟨c,d,rfl,BD hg he,hg.lt (BD hg he) he⟩
end
end Go.Sx

namespace Go.Sx
section
variable {g : LL} {o F L : LI} (hg : GOk g) (ho : OOk g o) (hF : Fill g o F L)
include hg ho hF
end
end Go.Sx

namespace Go.Sx
section
variable {g : LL} {o F L : LI} (hg : GOk g) (ho : OOk g o) (hF : Fill g o F L)
include hg ho hF
end
end Go.Sx

namespace Go.Sx
theorem GOk.shr {g:LL}(hg:GOk g):Sh2 g:=by
 have h16:=hg.n16
 exact⟨by unfold Sh;omega,λr hr=>by have:=(hg.mem0 hr).1;unfold Sh;omega⟩
structure PB (g bags:LL):Prop where
 n16:bags.length≤16
 sets:∀i,i<bags.length→SetOf (bags.getD i []) g.length
 some:∀i,i<bags.length→bags.getD i []≠[]
 all:∀v:Nat,v<g.length→∃i,i<bags.length∧(v:Int)∈bags.getD i []
 edge:∀u v:Nat,u<g.length→adj g u v→∃i,i<bags.length∧(u:Int)∈bags.getD i []∧(v:Int)∈bags.getD i []
 run:∀(v:Nat) (i j k:Nat),i<j→j<k→k<bags.length→(v:Int)∈bags.getD i []→(v:Int)∈bags.getD k []→(v:Int)∈bags.getD j []
theorem PB.sh {g bags:LL}(hg:GOk g)(h:PB g bags):Sh2 bags:=by
 have:=h.n16;have:=hg.n16
 refine⟨by unfold Sh;omega,λb hb=> ?_⟩
 obtain⟨i,hi,rfl⟩:=List.getElem_of_mem hb
 have:=(h.sets i hi).length_le (by omega)
 rw[AQ hi] at this
 unfold Sh;omega
section
variable {g : LL} {o : LI} (hg : GOk g) (ho : OOk g o)
include hg ho
end
section
variable {g : LL} {o : LI} (hg : GOk g) (ho : OOk g o)
include hg ho
end
section
variable {g bags : LL} (hg : GOk g) (h : PB g bags)
include hg h
end
section
variable {g : LL} {o : LI} (hg : GOk g) (ho : OOk g o)
include hg ho
end
end Go.Sx

namespace Go.Sx
section
variable {B K : LL} (hB : Sh2 B) (hK : Sh2 K)
include hB hK
end
section
variable {g B K : LL} (hg : GOk g) (hB : Sh2 B) (hK : Sh2 K)
include hg hB hK
end
end Go.Sx

namespace Go.Sx
section
variable {g B K : LL} (hg : GOk g) (hs : ∀ b ∈ B, SetOf b (g.length : Int)) (hBl : B.length ≤ 16)
include hg hs hBl
end
section
variable {g B K : LL} (hg : GOk g) (hB : Sh2 B) (hK : Sh2 K)
include hg hB hK
end
end Go.Sx

namespace Go.Sx
def prt (s t:Int):Bool:=(iandNot .u32 s t)==0
def ren (gone kept x:Int):Int:=if gone<(if x=gone then kept else x) then(if x=gone then kept else x)-1 else(if x=gone then kept else x)
def lnk (gone kept:Int)(l:LI):Option LI:=if ren gone kept (l.getD 0 0)=ren gone kept (l.getD 1 0) then none else some (Ci (ren gone kept (l.getD 0 0)) (ren gone kept (l.getD 1 0)))
structure TS (M:LI)(K:LL):Prop where
 n16:M.length≤16
 vs:∀s∈M,VS s
 lk:∀l∈K,LinkIn M.length l
 k16:K.length≤16
theorem ren_rng {n g k:Nat}(hg:g<n)(hk:k<n)(hgk:g≠k){a:Nat}(ha:a<n):0≤ren g k a∧ren g k a<((n-1:Nat):Int):=by
 unfold ren
 by_cases e:(a:Int)=g
 ·simp only[e,if_true];split<;>omega
 ·simp only[e,if_false];split<;>omega
theorem lnk_in {n g k:Nat}(hg:g<n)(hk:k<n)(hgk:g≠k){l r:LI}(hl:LinkIn n l)(h:lnk g k l=some r):LinkIn (n-1) r:=by
 obtain⟨a,b,rfl,hab,hb⟩:=hl
 unfold lnk at h
 simp only[List.getD_cons_zero,List.getD_cons_succ] at h
 have h1:=ren_rng hg hk hgk (show a<n by omega)
 have h2:=ren_rng hg hk hgk hb
 split at h
 ·cases h
 ·rename_i hne
  cases h
  generalize ren g k a=x at*
  generalize ren g k b=y at*
  refine⟨(min x y).toNat,(max x y).toNat,?_,by omega,by omega⟩
  unfold Ci
  rw[show (((min x y).toNat:Nat):Int)=min x y by omega,show (((max x y).toNat:Nat):Int)=max x y by omega]
def CP (g k:Nat)(K:LL):LL:=K.filterMap (lnk g k)
theorem mem_merged {n g k:Nat}{K:LL}(hK:∀l∈K,LinkIn n l)(hg:g<n)(hk:k<n)(hgk:g≠k):∀r∈CP g k K,LinkIn (n-1) r:=λr hr=>by
 obtain⟨l,hl,e⟩:=List.mem_filterMap.1 hr
 exact lnk_in hg hk hgk (hK l hl) e
theorem merged_len (g k:Nat)(K:LL):(CP g k K).length≤K.length:=List.length_filterMap_le _ _
section
variable {M : LI} {K : LL} (h : TS M K) {g k : Nat} (hg : g < M.length) (hk : k < M.length) (hgk : g ≠ k)
include h hg hk hgk
theorem TS.merge :TS (M.eraseIdx g) ((CP g k K).mergeSort D2):=by
 have h16:=h.n16
 have hl:(M.eraseIdx g).length=M.length-1:=by rw[List.length_eraseIdx,if_pos hg]
 refine⟨by omega,λs hs=>h.vs s (List.mem_of_mem_eraseIdx hs),λl hl'=> ?_,?_⟩
 ·rw[hl]
  exact mem_merged h.lk hg hk hgk l ((C8 _).mem_iff.1 hl')
 ·rw[(C8 _).length_eq]
  exact Nat.le_trans (merged_len g k K) h.k16
end
def spareM (M:LI)(l:LI):Option (Nat×Nat):=
 if prt (M.getD (l.getD 1 0).toNat 0) (M.getD (l.getD 0 0).toNat 0) then some ((l.getD 1 0).toNat,(l.getD 0 0).toNat)
 else if prt (M.getD (l.getD 0 0).toNat 0) (M.getD (l.getD 1 0).toNat 0) then some ((l.getD 0 0).toNat,(l.getD 1 0).toNat) else none
def Df (M:LI)(K:LL):Option (Nat×Nat):=(List.range K.length).findSome? (λi=>spareM M (K.getD i []))
section
variable {M : LI} {K : LL} (h : TS M K)
include h
theorem spareM_in {l:LI}(hl:l∈K){g k:Nat}(e:spareM M l=some (g,k)):g<M.length∧k<M.length∧g≠k:=by
 obtain⟨a,b,rfl,hab,hb⟩:=h.lk l hl
 unfold spareM at e
 simp only[List.getD_cons_zero,List.getD_cons_succ,Int.toNat_natCast] at e
 split at e
 ·cases e;omega
 ·split at e
  ·cases e;omega
  ·cases e
theorem spare_in {g k:Nat}(e:Df M K=some (g,k)):g<M.length∧k<M.length∧g≠k:=by
 obtain⟨i,hi,e2⟩:=List.exists_of_findSome?_eq_some e
 have hi':=List.mem_range.1 hi
 rw[AQ hi'] at e2
 exact spareM_in h (List.getElem_mem hi') e2
end
end Go.Sx

namespace Go.Sx
theorem Lk.symm {links:LL}{x y:Int}(h:Lk links x y):Lk links y x:=Or.elim h (λh=>Or.inr h) (λh=>Or.inl h)
theorem conn_iff {links:LL}{sel:LI}:Conn links sel↔∀T:Int→Prop,(∃x∈sel,T x)→(∀x y,x∈sel→y∈sel→T x→Lk links x y→T y)→∀x∈sel,T x:=by
 constructor
 ·intro h T ⟨x0,hx0,hT⟩ hs
  classical
  have hall:∀U:Int→Prop,(∀x,sel.head? =some x→U x)→(∀x y,x∈sel→y∈sel→U x→Lk links x y→U y)→∀x∈sel,U x:=λU h1 h2 x hx=>by
   have:=h (sel.filter λz=>decide (U z)) ⟨λz hz=>(List.mem_filter.1 hz).1,λz hz=>List.mem_filter.2 ⟨List.mem_of_mem_head? hz,decide_eq_true (h1 z hz)⟩,λa ha b hb hl=>by
    have ha:=List.mem_filter.1 ha
    exact List.mem_filter.2 ⟨hb,decide_eq_true (h2 a b ha.1 hb (of_decide_eq_true ha.2) hl)⟩⟩ x hx
   exact of_decide_eq_true (List.mem_filter.1 this).2
  cases hsel:sel with
  |nil=>intro x hx;simp at hx
  |cons z t=>
   rw[←hsel]
   have hz:T z:=by
    apply Classical.byContradiction
    intro hc
    have:=hall (λx=>¬T x) (λx hx=>by rw[hsel] at hx;simp at hx;rw[←hx];exact hc) (λa b ha hb hna hl hTb=>hna (hs b a hb ha hTb hl.symm)) x0 hx0
    exact this hT
   exact hall T (λx hx=>by rw[hsel] at hx;simp at hx;rw[←hx];exact hz) hs
 ·intro h m hm x hx
  cases hsel:sel with
  |nil=>rw[hsel] at hx;simp at hx
  |cons z t=>
   exact h (λz=>z∈m) ⟨z,by rw[hsel];simp,hm.first z (by rw[hsel];rfl)⟩ (λa b _ hb ha hl=>hm.step a ha b hb hl) x hx
theorem conn_map {K K':LL}{sel sel':LI}(φ:Int→Int)(h:Conn K sel)(h1:∀x∈sel,φ x∈sel')(h2:∀y∈sel',∃x∈sel,φ x=y)(h3:∀x y,x∈sel→y∈sel→Lk K x y→φ x=φ y∨Lk K' (φ x) (φ y)):Conn K' sel':=by
 rw[conn_iff] at h ⊢
 intro T ⟨y0,hy0,hT⟩ hs y hy
 obtain⟨x0,hx0,rfl⟩:=h2 y0 hy0
 obtain⟨x,hx,rfl⟩:=h2 y hy
 refine h (λz=>T (φ z)) ⟨x0,hx0,hT⟩ (λa b ha hb hTa hl=> ?_) x hx
 rcases h3 a b ha hb hl with e|e
 ·rw[←e];exact hTa
 ·exact hs _ _ (h1 a ha) (h1 b hb) hTa e
theorem EJ {α:Type}{p q:α→Bool}:∀{l:List α},(∀x∈l,p x=true→q x=true)→(∃x∈l,q x=true∧p x=false)→l.countP p+1≤l.countP q
 |[],_,h=>by obtain⟨x,hx,_⟩:=h;simp at hx
 |a::l,h1,h2=>by
  have hm:l.countP p≤l.countP q:=List.countP_mono_left λx hx=>h1 x (List.mem_cons_of_mem _ hx)
  obtain⟨x,hx,hq,hp⟩:=h2
  rw[List.countP_cons,List.countP_cons]
  rcases List.mem_cons.1 hx with rfl|hx
  ·rw[hq,hp];simp;omega
  ·have:=EJ (λx hx=>h1 x (List.mem_cons_of_mem _ hx)) ⟨x,hx,hq,hp⟩
   have h3:=h1 a (List.mem_cons_self ..)
   cases hpa:p a
   ·cases q a<;>simp<;>omega
   ·rw[h3 hpa];simp;omega
theorem conn_many {links:LL}{sel:LI}(hn:sel.Nodup)(h:Conn links sel):sel.length≤links.length+1:=by
 rw[conn_iff] at h
 have key:∀k,k+1≤sel.length→∃T:LI,T.Nodup∧(∀x∈T,x∈sel)∧T.length=k+1∧k≤links.countP (λl=>decide (l.getD 0 0∈T)&&decide (l.getD 1 0∈T)):=by
  intro k
  induction k with
  |zero=>
   intro hk
   have hs:0<sel.length:=by omega
   exact⟨[sel[0]],by simp,λx hx=>by simp at hx;rw[hx];exact List.getElem_mem hs,rfl,by omega⟩
  |succ k ih=>
   intro hk
   obtain⟨T,hT1,hT2,hT3,hT4⟩:=ih (by omega)
   have hex:∃x y,x∈T∧y∈sel∧y∉T∧Lk links x y:=by
    apply Classical.byContradiction
    intro hc
    have hall:=h (λz=>z∈T) ⟨T[0]'(by omega),hT2 _ (List.getElem_mem _),List.getElem_mem _⟩ (λx y _ hy hx hl=>by
     apply Classical.byContradiction
     intro hy2
     exact hc ⟨x,y,hx,hy,hy2,hl⟩)
    have:=Ca hn hall
    omega
   obtain⟨x,y,hx,hy,hyT,hl⟩:=hex
   refine⟨y::T,List.nodup_cons.2 ⟨hyT,hT1⟩,λz hz=> ?_,by simp[hT3],?_⟩
   ·rcases List.mem_cons.1 hz with rfl|hz
    ·exact hy
    ·exact hT2 z hz
   ·refine Nat.le_trans (Nat.succ_le_succ hT4) (EJ (λl _ hl=> ?_) ?_)
    ·simp only[Bool.and_eq_true,decide_eq_true_eq] at hl ⊢
     exact⟨List.mem_cons_of_mem _ hl.1,List.mem_cons_of_mem _ hl.2⟩
    ·rcases hl with hl|hl
     ·exact⟨[x,y],hl,by simp[hx],by simp[hyT]⟩
     ·exact⟨[y,x],hl,by simp[hx],by simp[hyT]⟩
 cases hs:sel.length with
 |zero=>omega
 |succ k=>
  obtain⟨T,_,_,_,h4⟩:=key k (by omega)
  have:= @List.countP_le_length _ (λl=>decide (l.getD 0 0∈T)&&decide (l.getD 1 0∈T)) links
  omega
theorem conn_perm {K K':LL}{sel:LI}(h:Conn K sel)(hp:∀x y,Lk K x y→Lk K' x y):Conn K' sel:=
 conn_map id h (λx hx=>hx) (λy hy=>⟨y,hy,rfl⟩) (λx y _ _ hl=> .inr (hp x y hl))
theorem TB.perm {g B K K':LL}(h:TB g B K)(p:K'.Perm K):TB g B K':=by
 have hl:∀x y,Lk K x y→Lk K' x y:=λx y hl=>Or.elim hl (λh=>Or.inl (p.mem_iff.2 h)) (λh=>Or.inr (p.mem_iff.2 h))
 exact⟨h.n1,h.n16,by rw[p.length_eq];exact h.many,λl hl'=>h.lks l (p.mem_iff.1 hl'),h.sets,conn_perm h.tree hl,h.edges,h.some,λv hv=>conn_perm (h.conn v hv) hl⟩
def phi (g k:Nat)(x:Nat):Nat:=if g<(if x=g then k else x) then(if x=g then k else x)-1 else(if x=g then k else x)
theorem EU (g k x:Nat):ren (g:Int) (k:Int) (x:Int)=((phi g k x:Nat):Int):=by
 unfold ren phi
 by_cases h:x=g
 ·simp only[h,if_true]
  by_cases h2:g<k
  ·rw[if_pos (by omega),if_pos h2];omega
  ·rw[if_neg (by omega),if_neg h2]
 ·rw[if_neg (show¬(x:Int)=g by omega),if_neg h]
  by_cases h2:g<x
  ·rw[if_pos (by omega),if_pos h2];omega
  ·rw[if_neg (by omega),if_neg h2]
theorem phi_lt {n g k x:Nat}(hg:g<n)(hk:k<n)(hgk:g≠k)(hx:x<n):phi g k x<n-1:=by
 unfold phi
 by_cases h:x=g
 ·simp only[h,if_true]
  by_cases h2:g<k
  ·rw[if_pos h2];omega
  ·rw[if_neg h2];omega
 ·simp only[h,if_false]
  by_cases h2:g<x
  ·rw[if_pos h2];omega
  ·rw[if_neg h2];omega
theorem phi_gk {g k:Nat}(hgk:g≠k):phi g k g=phi g k k:=by
 unfold phi;simp[hgk.symm]
theorem phi_ex {n g k y:Nat}(hg:g<n)(hy:y<n-1):∃x,x<n∧x≠g∧phi g k x=y:=by
 by_cases h:y<g
 ·exact⟨y,by omega,by omega,by unfold phi;rw[if_neg (show¬y=g by omega),if_neg (by omega)]⟩
 ·exact⟨y+1,by omega,by omega,by unfold phi;rw[if_neg (show¬y+1=g by omega),if_pos (by omega)];omega⟩
theorem EW {M:LI}{g k x:Nat}(hg:g<M.length)(hx:x<M.length)(hxg:x≠g):(M.eraseIdx g).getD (phi g k x) 0=M.getD x 0:=by
 unfold phi
 rw[if_neg hxg,List.getD_eq_getElem?_getD,List.getD_eq_getElem?_getD,List.getElem?_eraseIdx]
 by_cases h:g<x
 ·rw[if_pos h,if_neg (by omega)];congr 2;omega
 ·rw[if_neg h,if_pos (by omega)]
theorem prt_has {s t:Int}(hs:VS s)(ht:VS t)(h:prt s t=true){v:Nat}(hv:has s v=true):has t v=true:=by
 unfold prt at h
 rw[beq_iff_eq] at h
 have:=congrArg (λz=>has z v) h
 rw[Bt hs ht,BL,hv] at this
 simpa using this
section
variable {G : LL} {M : LI} {K : LL} (h : TS M K) (hT : TB G (M.map AY) K) {g k : Nat} (hg : g < M.length) (hk : k < M.length) (hgk : g ≠ k)
include h hT hg hk hgk
theorem lnk_of {a b:Nat}(ha:a<M.length)(hb:b<M.length)(hl:Lk K (a:Int) (b:Int)):phi g k a=phi g k b∨Lk ((CP g k K).mergeSort D2) ((phi g k a:Nat):Int) ((phi g k b:Nat):Int):=by
 by_cases he:phi g k a=phi g k b
 ·exact .inl he
 ·right
  have hm:∀l,lnk (g:Int) (k:Int) l=some (Ci ((phi g k a:Nat):Int) ((phi g k b:Nat):Int))→l∈K→Lk ((CP g k K).mergeSort D2) ((phi g k a:Nat):Int) ((phi g k b:Nat):Int):=λl e hl=>by
   have hin:Ci ((phi g k a:Nat):Int) ((phi g k b:Nat):Int)∈(CP g k K).mergeSort D2:=(C8 _).mem_iff.2 (List.mem_filterMap.2 ⟨l,hl,e⟩)
   unfold Ci at hin
   rcases Nat.lt_or_ge (phi g k a) (phi g k b) with c|c
   ·rw[Int.min_eq_left (by omega),Int.max_eq_right (by omega)] at hin;exact .inl hin
   ·rw[Int.min_eq_right (by omega),Int.max_eq_left (by omega)] at hin;exact .inr hin
  rcases hl with hl|hl
  ·refine hm _ ?_ hl
   unfold lnk
   simp only[List.getD_cons_zero,List.getD_cons_succ,EU]
   rw[if_neg (by omega)]
  ·refine hm _ ?_ hl
   unfold lnk
   simp only[List.getD_cons_zero,List.getD_cons_succ,EU]
   rw[if_neg (by omega)]
   unfold Ci
   rw[Int.min_comm,Int.max_comm]
theorem merge_TB (hsub:∀v,has (M.getD g 0) v=true→has (M.getD k 0) v=true)(hl:Lk K (g:Int) (k:Int)):TB G ((M.eraseIdx g).map AY) ((CP g k K).mergeSort D2):=by
 have hml:(M.eraseIdx g).length=M.length-1:=by rw[List.length_eraseIdx,if_pos hg]
 have hTS:=h.merge hg hk hgk
 have hM:M.length=K.length+1:=by have:=hT.many;simpa using this.symm
 have hmem:∀i (hi:i<M.length) (v:Nat),(v:Int)∈(M.map AY).getD i []↔has (M.getD i 0) v=true:=λi hi v=>by
  rw[AQ (by simpa using hi),List.getElem_map,AQ hi,BB (h.vs _ (List.getElem_mem hi))]
 have hmem':∀i (hi:i<M.length-1) (v:Nat),(v:Int)∈((M.eraseIdx g).map AY).getD i []↔has ((M.eraseIdx g).getD i 0) v=true:=λi hi v=>by
  rw[AQ (by simp;omega),List.getElem_map,AQ (by omega),BB (hTS.vs _ (List.getElem_mem _))]
 have hphi:∀x v,x<M.length→has (M.getD x 0) v=true→has ((M.eraseIdx g).getD (phi g k x) 0) v=true:=λx v hx hv=>by
  by_cases hxg:x=g
  ·subst hxg
   rw[phi_gk hgk,EW hg hk hgk.symm];exact hsub v hv
  ·rw[EW hg hx hxg];exact hv
 have hwith:∀(v:Nat) (x:Int),x∈withV (M.map AY) (v:Int)↔∃b:Nat,x=b∧b<M.length∧has (M.getD b 0) v=true:=λv x=>by
  rw[mem_withV,List.length_map]
  constructor
  ·rintro⟨b,h1,h2,h3⟩;exact⟨b,h1,h2,(hmem b h2 v).1 h3⟩
  ·rintro⟨b,h1,h2,h3⟩;exact⟨b,h1,h2,(hmem b h2 v).2 h3⟩
 have hwith':∀(v:Nat) (x:Int),x∈withV ((M.eraseIdx g).map AY) (v:Int)↔∃b:Nat,x=b∧b<M.length-1∧has ((M.eraseIdx g).getD b 0) v=true:=λv x=>by
  rw[mem_withV,List.length_map,hml]
  constructor
  ·rintro⟨b,h1,h2,h3⟩;exact⟨b,h1,h2,(hmem' b h2 v).1 h3⟩
  ·rintro⟨b,h1,h2,h3⟩;exact⟨b,h1,h2,(hmem' b h2 v).2 h3⟩
 have htree:Conn ((CP g k K).mergeSort D2) ((List.range ((M.eraseIdx g).map AY).length).map Int.ofNat):=by
  have ht:=hT.tree
  rw[List.length_map] at ht ⊢
  rw[hml]
  refine conn_map (λx=>((phi g k x.toNat:Nat):Int)) ht (λx hx=> ?_) (λy hy=> ?_) (λx y hx hy hxy=> ?_)
  ·obtain⟨i,hi,rfl⟩:=List.mem_map.1 hx
   exact List.mem_map.2 ⟨_,List.mem_range.2 (phi_lt hg hk hgk (List.mem_range.1 hi)),rfl⟩
  ·obtain⟨j,hj,rfl⟩:=List.mem_map.1 hy
   obtain⟨x,hx,_,e⟩:=phi_ex (k:=k) hg (List.mem_range.1 hj)
   exact⟨(x:Int),List.mem_map.2 ⟨x,List.mem_range.2 hx,rfl⟩,by rw[Int.toNat_natCast,e];rfl⟩
  ·obtain⟨i,hi,rfl⟩:=List.mem_map.1 hx
   obtain⟨j,hj,rfl⟩:=List.mem_map.1 hy
   rcases lnk_of h hT hg hk hgk (List.mem_range.1 hi) (List.mem_range.1 hj) hxy with e|e
   ·left;show ((phi g k i:Nat):Int)=((phi g k j:Nat):Int);rw[e]
   ·right;exact e
 refine⟨by rw[List.length_map,hml];omega,by rw[List.length_map];exact hTS.n16,?_,by rw[List.length_map];exact hTS.lk,λb hb=> ?_,htree,λu v hu ha=> ?_,λv hv=> ?_,λv hv=> ?_⟩
 ·rw[List.length_map,hml]
  have hnd:((List.range ((M.eraseIdx g).map AY).length).map Int.ofNat).Nodup:=by
   unfold List.Nodup
   rw[List.pairwise_map]
   exact List.Pairwise.imp (fun{a b} h e=>by have:(a:Int)=(b:Int):=e;omega) List.pairwise_lt_range
  have h1:=conn_many hnd htree
  rw[List.length_map,List.length_range,List.length_map,hml] at h1
  have h2:(CP g k K).length+1≤K.length:=by
   have hle:∀L:LL,(∃l∈L,lnk (g:Int) (k:Int) l=none)→(L.filterMap (lnk (g:Int) (k:Int))).length+1≤L.length:=by
    intro L
    induction L with
    |nil=>rintro⟨l,hl,_⟩;simp at hl
    |cons a L ih=>
     rintro⟨l,hl,e⟩
     rcases List.mem_cons.1 hl with rfl|hl
     ·rw[List.filterMap_cons_none e]
      have:=List.length_filterMap_le (lnk (g:Int) (k:Int)) L
      simp only[List.length_cons];omega
     ·have:=ih ⟨l,hl,e⟩
      cases ha:lnk (g:Int) (k:Int) a with
      |none=>rw[List.filterMap_cons_none ha];simp only[List.length_cons];omega
      |some r=>rw[List.filterMap_cons_some ha];simp only[List.length_cons];omega
   refine hle K ?_
   rcases hl with hl|hl
   ·exact⟨_,hl,by unfold lnk;simp only[List.getD_cons_zero,List.getD_cons_succ,EU];rw[if_pos (by rw[phi_gk hgk])]⟩
   ·exact⟨_,hl,by unfold lnk;simp only[List.getD_cons_zero,List.getD_cons_succ,EU];rw[if_pos (by rw[phi_gk hgk])]⟩
  have h3:=(C8 (CP g k K)).length_eq
  rw[h3] at h1 ⊢
  omega
 ·obtain⟨s,hs,rfl⟩:=List.mem_map.1 hb
  exact hT.sets _ (List.mem_map.2 ⟨s,List.mem_of_mem_eraseIdx hs,rfl⟩)
 ·obtain⟨b,hb,hub,hvb⟩:=hT.edges u v hu ha
  obtain⟨i,hi,rfl⟩:=List.getElem_of_mem hb
  have hi':i<M.length:=by simpa using hi
  rw[←AQ hi [],hmem i hi'] at hub hvb
  have hp:=phi_lt hg hk hgk hi'
  refine⟨((M.eraseIdx g).map AY).getD (phi g k i) [],?_,(hmem' _ hp u).2 (hphi i u hi' hub),(hmem' _ hp v).2 (hphi i v hi' hvb)⟩
  rw[AQ (by simp;omega)]
  exact List.getElem_mem _
 ·obtain⟨x,hx⟩:=List.exists_mem_of_ne_nil _ (hT.some v hv)
  obtain⟨b,rfl,hb,hvb⟩:=(hwith v x).1 hx
  intro hc
  have:=(hwith' v _).2 ⟨_,rfl,phi_lt hg hk hgk hb,hphi b v hb hvb⟩
  rw[hc] at this
  simp at this
 ·refine conn_map (λx=>((phi g k x.toNat:Nat):Int)) (hT.conn v hv) (λx hx=> ?_) (λy hy=> ?_) (λx y hx hy hxy=> ?_)
  ·obtain⟨b,rfl,hb,hvb⟩:=(hwith v x).1 hx
   exact(hwith' v _).2 ⟨_,rfl,phi_lt hg hk hgk hb,hphi b v hb hvb⟩
  ·obtain⟨b,rfl,hb,hvb⟩:=(hwith' v y).1 hy
   obtain⟨x,hx,hxg,e⟩:=phi_ex (k:=k) hg hb
   refine⟨(x:Int),(hwith v _).2 ⟨x,rfl,hx,?_⟩,by rw[Int.toNat_natCast,e]⟩
   rw[←e,EW hg hx hxg] at hvb
   exact hvb
  ·obtain⟨a,rfl,ha,_⟩:=(hwith v x).1 hx
   obtain⟨b,rfl,hb,_⟩:=(hwith v y).1 hy
   rcases lnk_of h hT hg hk hgk ha hb hxy with e|e
   ·left;rw[Int.toNat_natCast,Int.toNat_natCast,e]
   ·right;exact e
end
structure Kept (G:LL)(M0:LI)(M:LI)(K:LL):Prop where
 tb:TB G (M.map AY) K
 len:M.length≤M0.length
 old:∀s∈M,s∈M0
 sup:∀s∈M0,∃t∈M,∀v,has s v=true→has t v=true
theorem spare_link {M:LI}{K:LL}(h:TS M K){g k:Nat}(e:Df M K=some (g,k)):Lk K (g:Int) (k:Int)∧prt (M.getD g 0) (M.getD k 0)=true:=by
 obtain⟨i,hi,e2⟩:=List.exists_of_findSome?_eq_some e
 have hi':=List.mem_range.1 hi
 rw[AQ hi'] at e2
 obtain⟨a,b,el,hab,hb⟩:=h.lk _ (List.getElem_mem hi')
 have hm:=List.getElem_mem hi'
 rw[el] at e2 hm
 unfold spareM at e2
 simp only[List.getD_cons_zero,List.getD_cons_succ,Int.toNat_natCast] at e2
 split at e2
 ·rename_i h1;cases e2;exact⟨.inr hm,h1⟩
 ·split at e2
  ·rename_i h1;cases e2;exact⟨.inl hm,h1⟩
  ·cases e2
theorem Kept.step {G:LL}{M0 M:LI}{K:LL}(hM:Kept G M0 M K)(h:TS M K){g k:Nat}(e:Df M K=some (g,k)):Kept G M0 (M.eraseIdx g) ((CP g k K).mergeSort D2):=by
 obtain⟨hg,hk,hgk⟩:=spare_in h e
 obtain⟨hl,hp⟩:=spare_link h e
 have hvs:∀i,i<M.length→VS (M.getD i 0):=λi hi=>by rw[AQ hi];exact h.vs _ (List.getElem_mem hi)
 have hsub:∀v,has (M.getD g 0) v=true→has (M.getD k 0) v=true:=λv hv=>prt_has (hvs g hg) (hvs k hk) hp hv
 refine⟨merge_TB h hM.tb hg hk hgk hsub hl,?_,λs hs=>hM.old s (List.mem_of_mem_eraseIdx hs),λs hs=> ?_⟩
 ·have:=hM.len
  rw[List.length_eraseIdx,if_pos hg];omega
 ·obtain⟨t,ht,hst⟩:=hM.sup s hs
  obtain⟨i,hi,rfl⟩:=List.getElem_of_mem ht
  have hml:(M.eraseIdx g).length=M.length-1:=by rw[List.length_eraseIdx,if_pos hg]
  have hin:∀x,x<M.length→x≠g→M.getD x 0∈M.eraseIdx g:=λx hx hxg=>by
   rw[←EW (k:=k) hg hx hxg,AQ (by rw[hml];exact phi_lt hg hk hgk hx)]
   exact List.getElem_mem _
  by_cases hig:i=g
  ·subst hig
   exact⟨_,hin k hk hgk.symm,λv hv=>hsub v (by rw[AQ hi];exact hst v hv)⟩
  ·refine⟨_,hin i hi hig,λv hv=>by rw[AQ hi];exact hst v hv⟩
end Go.Sx

namespace Go.Sx
def cutF (F:LI)(a b:Nat):LI:=(F.modify a (λe=>iandNot .u32 e (ishl .u32 1 (b:Int)))).modify b (λe=>iandNot .u32 e (ishl .u32 1 (a:Int)))
def hdF (H:LI)(a b:Nat):LI:=H.modify a (λe=>ior .u32 e (ishl .u32 1 (b:Int)))
theorem Du (l:LI)(i j:Nat)(f:Int→Int)(hi:i<l.length):(l.modify i f).getD j 0=if j=i then f (l.getD j 0) else l.getD j 0:=by
 rw[List.getD_eq_getElem?_getD,List.getElem?_modify,List.getD_eq_getElem?_getD]
 by_cases h:j=i
 ·subst h
  rw[List.getElem?_eq_getElem hi];simp
 ·have:¬i=j:=λe=>h e.symm
  rw[if_neg h]
  cases l[j]? <;>simp[this]
theorem Ep (l:LI)(i:Nat)(f:Int→Int):(l.modify i f).length=l.length:=by simp
theorem cutF_getD (F:LI){a b u:Nat}(ha:a<F.length)(hb:b<F.length)(hab:a≠b):(cutF F a b).getD u 0=if u=b then iandNot .u32 (F.getD u 0) (ishl .u32 1 (a:Int)) else if u=a then iandNot .u32 (F.getD u 0) (ishl .u32 1 (b:Int)) else F.getD u 0:=by
 unfold cutF
 rw[Du _ _ _ _ (by simpa using hb),Du _ _ _ _ ha]
 by_cases h:u=b
 ·subst h
  rw[if_pos rfl,if_pos rfl,if_neg (λe=>hab e.symm)]
 ·rw[if_neg h,if_neg h]
theorem nb_cut {F:LI}{n:Nat}(hF:FOk F n)(h16:n≤16){a b:Nat}(ha:a<n)(hb:b<n)(hab:a≠b){u w:Nat}(hu:u<n):nb (cutF F a b) u w=(nb F u w&& !decide (u=a∧w=b)&& !decide (u=b∧w=a)):=by
 have hl:=hF.len
 unfold nb
 rw[cutF_getD F (by omega) (by omega) hab]
 by_cases h:u=b
 ·subst h
  rw[if_pos rfl,Bt (hF.vs u hu) (VS.ishl _ _),BE (by omega)]
  have:¬(u=a∧w=u):=λh=>hab h.1.symm
  simp[this]
 ·rw[if_neg h]
  by_cases h':u=a
  ·subst h'
   rw[if_pos rfl,Bt (hF.vs u hu) (VS.ishl _ _),BE (by omega)]
   simp[h]
  ·rw[if_neg h'];simp[h,h']
theorem FOk.cut {F:LI}{n:Nat}(hF:FOk F n)(h16:n≤16){a b:Nat}(ha:a<n)(hb:b<n)(hab:a≠b):FOk (cutF F a b) n:=by
 have hl:=hF.len
 have hn:∀{u w},u<n→nb (cutF F a b) u w=true→nb F u w=true∧¬(u=a∧w=b)∧¬(u=b∧w=a):=fun{u w} hu h=>by
  rw[nb_cut hF h16 ha hb hab hu,Bool.and_eq_true,Bool.and_eq_true] at h
  simp only[Bool.not_eq_true',decide_eq_false_iff_not] at h
  exact⟨h.1.1,h.1.2,h.2⟩
 refine⟨by unfold cutF;rw[Ep,Ep,hl],λu hu=> ?_,λu w hu h=>hF.lt u w hu (hn hu h).1,λu hu=> ?_,λu w hu h=> ?_⟩
 ·rw[cutF_getD F (by omega) (by omega) hab]
  split
  ·exact VS.iandNot _ _
  ·split
   ·exact VS.iandNot _ _
   ·exact hF.vs u hu
 ·cases h:nb (cutF F a b) u u
  ·rfl
  ·have:=(hn hu h).1
   rw[hF.irr u hu] at this;cases this
 ·obtain⟨h1,h2,h3⟩:=hn hu h
  have hw:=hF.lt u w hu h1
  rw[nb_cut hF h16 ha hb hab hw,hF.sym u w hu h1]
  have e1:¬(w=a∧u=b):=λe=>h3 ⟨e.2,e.1⟩
  have e2:¬(w=b∧u=a):=λe=>h2 ⟨e.2,e.1⟩
  simp only[decide_eq_false e1,decide_eq_false e2];rfl
theorem DM (F:LI):(grow F).length=F.length:=by simp[grow]
structure Oks (n:Nat)(s:LI×LI):Prop where
 f:FOk s.1 n
 l:s.2.length=n
 v:∀u,u<n→VS (s.2.getD u 0)
theorem Oks.step {n:Nat}{s:LI×LI}(h:Oks n s)(h16:n≤16){a b:Nat}(ha:a<n)(hb:b<n)(hab:a≠b):Oks n (cutF s.1 a b,hdF s.2 a b):=by
 have hl:=h.l
 refine⟨h.f.cut h16 ha hb hab,by unfold hdF;rw[Ep];exact h.l,λu hu=> ?_⟩
 show VS ((hdF s.2 a b).getD u 0)
 unfold hdF
 rw[Du _ _ _ _ (by omega)]
 split
 ·exact VS.ior _ _
 ·exact h.v u hu
theorem Oks.impl {n:Nat}{s:LI×LI}(h:Oks n s){a b:Nat}(ha:a<n)(hb:b<n):D.q s (ap a b)=some (cutF s.1 a b,hdF s.2 a b):=by
 have hl:=h.l;have hl':=h.f.len
 rw[EK (x:=ap a b) (o1:=ishl .u32 1 (a:Int)) (o2:=ishl .u32 1 (b:Int)) (Ck a) (Ck b) ⟨_,AP (show a<s.2.length by omega)⟩ ⟨_,AP (show a<s.1.length by omega)⟩ ⟨_,AP (show b<s.1.length by omega)⟩]
 rfl
theorem idx_elems0 {s:Int}(h:VS s)(h0:s≠0):∃k:Nat,D.v s=some (k:Int)∧idx (AY s) 0=some (k:Int)∧has s k=true∧0<(AY s).length:=by
 obtain⟨k,h1,h2,h3,h4,h5⟩:=least_eq h h0
 have e:=Fb h1 h3 h4 h5
 exact⟨k,h2,by rw[e];rfl,h3,by rw[e];simp⟩
theorem keyBoth_iff {M:ArM}:D.w0 M=true↔∃a b:Int,(a,b)∈M.map (·.1)∧(b,a)∈M.map (·.1):=by
 unfold D.w0
 rw[List.any_eq_true]
 constructor
 ·rintro⟨kv,h1,h2⟩
  exact⟨kv.1.1,kv.1.2,List.mem_map.2 ⟨kv,h1,rfl⟩,mpGet_some.1 h2⟩
 ·rintro⟨a,b,h1,h2⟩
  obtain⟨kv,h3,h4⟩:=List.mem_map.1 h1
  refine⟨kv,h3,mpGet_some.2 ?_⟩
  rw[h4];exact h2
section
variable {g : LL} (hg : GOk g)
include hg
end
end Go.Sx

namespace Go.Sx
theorem nb_hd {H:LI}{n a b:Nat}(hl:H.length=n)(hv:∀u,u<n→VS (H.getD u 0))(ha:a<n)(hb:b<32){u w:Nat}(hu:u<n):nb (hdF H a b) u w=(nb H u w||decide (u=a∧w=b)):=by
 unfold nb hdF
 rw[Du _ _ _ _ (by omega)]
 by_cases h:u=a
 ·subst h
  rw[if_pos rfl,B6 (hv u hu) (VS.ishl _ _),BE hb];simp
 ·rw[if_neg h];simp[h]
theorem orFold_ok {n:Nat}(h16:n≤16):∀(l:ArL) (s:LI×LI),Oks n s→(∀x∈l,∃a b:Nat,x=ap a b∧a<n∧b<n∧a≠b)→
  ∃s',D.o l s=some s'∧Oks n s'∧(∀u w,u<n→(nb s'.1 u w=true↔nb s.1 u w=true∧ap u w∉l∧ap w u∉l))∧(∀u w,u<n→(nb s'.2 u w=true↔nb s.2 u w=true∨ap u w∈l))
 |[],s,hs,_=>⟨s,rfl,hs,λu w _=>by simp,λu w _=>by simp⟩
 |x::l,s,hs,hC=>by
  obtain⟨a,b,rfl,ha,hb,hab⟩:=hC x (by simp)
  obtain⟨s',e,h1,h2,h3⟩:=orFold_ok h16 l (cutF s.1 a b,hdF s.2 a b) (hs.step h16 ha hb hab) (λx hx=>hC x (List.mem_cons_of_mem _ hx))
  have hap:∀u w:Nat,ap u w∈ap a b::l↔(u=a∧w=b)∨ap u w∈l:=λu w=>by
   rw[List.mem_cons]
   exact⟨λh=>h.imp (λe=>ap_inj e) id,λh=>h.imp (fun⟨e1,e2⟩=>by rw[e1,e2]) id⟩
  refine⟨s',?_,h1,λu w hu=> ?_,λu w hu=> ?_⟩
  ·unfold D.o
   rw[hs.impl ha hb,bs,e]
  ·rw[h2 u w hu,hap,hap]
   dsimp only
   rw[nb_cut hs.f h16 ha hb hab hu,Bool.and_eq_true,Bool.and_eq_true]
   simp only[Bool.not_eq_true',decide_eq_false_iff_not]
   constructor
   ·rintro⟨⟨⟨p1,p2⟩,p3⟩,p4,p5⟩
    exact⟨p1,λh=>h.elim p2 p4,λh=>h.elim (λe=>p3 ⟨e.2,e.1⟩) p5⟩
   ·rintro⟨p1,p2,p3⟩
    exact⟨⟨⟨p1,λh=>p2 (.inl h)⟩,λh=>p3 (.inl ⟨h.2,h.1⟩)⟩,λh=>p2 (.inr h),λh=>p3 (.inr h)⟩
  ·rw[h3 u w hu,hap]
   dsimp only
   rw[nb_hd hs.l hs.v ha (by omega) hu,Bool.or_eq_true,decide_eq_true_eq,or_assoc]
def Sv (E:Nat→Nat→Prop):Prop:=∃p q,E p q∧Kl E p q q p
abbrev Eg (s:LI×LI):Nat→Nat→Prop:=adj (grow s.1)
theorem round_sem {n:Nat}(h1:1≤n)(h16:n≤16){u:Nat}(hu:u<n):∀(m:Nat) (s:LI×LI),Oks n s→(List.range n).countP (nb s.1 u)≤m→
  (∃s',Aq (D.N (u:Int)) s=some (some s')∧Oks n s'∧(∀w,nb s'.1 u w=false)∧(∀v w,v<n→nb s'.1 v w=true→nb s.1 v w=true)∧
   (∀T,Orn (Eg s') T→∃T0,Orn (Eg s) T0∧∀a b,a<n→((nb s'.2 a b=true∨T a b)↔(nb s.2 a b=true∨T0 a b)))∧(Sv (Eg s')→Sv (Eg s)))∨
  (Aq (D.N (u:Int)) s=some none∧Sv (Eg s)):=by
 intro m
 induction m with
 |zero=>
  intro s hs hm
  have hz:s.1.getD u 0=0:=by
   apply Classical.byContradiction
   intro h0
   obtain⟨k,_,_,hk,_⟩:=idx_elems0 (hs.f.vs u hu) h0
   have hkn:=hs.f.lt u k hu hk
   have:0<(List.range n).countP (nb s.1 u):=List.countP_pos_iff.2 ⟨k,List.mem_range.2 hkn,hk⟩
   omega
  have hl:=hs.f.len
  refine .inl ⟨s,Bp ?_,hs,λw=>by unfold nb;rw[hz];exact BL w,λ_ _ _ h=>h,λT o=>⟨T,o,λ_ _ _=>Iff.rfl⟩,id⟩
  unfold D.N
  rw[AP (show u<s.1.length by omega),bs,←AQ (by omega) 0,hz];rfl
 |succ m ih=>
  intro s hs hm
  have hl:=hs.f.len
  have hgl:(grow s.1).length=n:=by rw[DM];exact hl
  have iF:idx s.1 (u:Int)=some (s.1.getD u 0):=by rw[AP (show u<s.1.length by omega),AQ (by omega) 0]
  by_cases hz:s.1.getD u 0=0
  ·refine .inl ⟨s,Bp ?_,hs,λw=>by unfold nb;rw[hz];exact BL w,λ_ _ _ h=>h,λT o=>⟨T,o,λ_ _ _=>Iff.rfl⟩,id⟩
   unfold D.N
   rw[iF,bs,hz];rfl
  ·obtain⟨v,hv1,hv2,hv3,hv4⟩:=idx_elems0 (hs.f.vs u hu) hz
   have hvn:=hs.f.lt u v hu hv3
   have hg:=GOk.grow hs.f h1 h16
   have hgm:=grow_mk hs.f
   have hsy:=Ee hg
   have hir:∀a,¬adj (grow s.1) a a:=λa h=>hg.irr a (BD hg h) h
   have huv:adj (grow s.1) u v:=(Cm hs.f hu).2 hv3
   obtain⟨M,eM,k1,k2,k3⟩:=forcedFrom_ok hg huv
   rw[hgm] at eM
   have hC:∀x∈M.map (·.1),∃a b:Nat,x=ap a b∧a<n∧b<n∧a≠b:=λx hx=>by
    obtain⟨a,b,rfl⟩:=k2 x hx
    have he:=((k3 a b).1 hx).edge huv
    have ha:=BD hg he
    have hb:=hg.lt ha he
    exact⟨a,b,rfl,by omega,by omega,λe=>hg.irr a ha (by rw[←e] at he;exact he)⟩
   have hz':(s.1.getD u 0 !=0)=true:=by simpa using hz
   by_cases ho:D.w0 M=true
   ·refine .inr ⟨Bp ?_,?_⟩
    ·unfold D.N
     rw[iF,bs,hz',cond_true,hv1,bs,show D.U s.1 ((u:Int),(v:Int))=some M from eM,bs,ho,cond_true]
    ·obtain⟨a,b,e1,e2⟩:=keyBoth_iff.1 ho
     obtain⟨c,d,e⟩:=k2 _ e1
     obtain⟨rfl,rfl⟩:a=(c:Int)∧b=(d:Int):=⟨congrArg Prod.fst e,congrArg Prod.snd e⟩
     have q1:=(k3 c d).1 e1
     have q2:=(k3 d c).1 e2
     exact⟨c,d,q1.edge huv,(q1.sym hsy huv).trans q2⟩
   ·have hkb:D.w0 M=false:=by
     cases h:D.w0 M
     ·rfl
     ·exact absurd h ho
    have hno:¬Kl (adj (grow s.1)) u v v u:=λe=>ho (keyBoth_iff.2 ⟨(u:Int),(v:Int),(k3 u v).2 Kl.refl,(k3 v u).2 e⟩)
    obtain⟨s1,f1,f2,f3,f4⟩:=orFold_ok h16 _ s hs hC
    have st1:D.N (u:Int) s=some (.inl s1):=by
     unfold D.N
     rw[iF,bs,hz',cond_true,hv1,bs,show D.U s.1 ((u:Int),(v:Int))=some M from eM,bs,hkb,cond_false,f1,bs]
    have hE:Eg s1=Lf (Eg s) u v:=by
     funext a b
     apply propext
     by_cases ha:a<n
     ·show adj (grow s1.1) a b↔_
      rw[Cm f2.f ha,f3 a b ha,k3,k3]
      show _↔adj (grow s.1) a b∧_∧_
      rw[Cm hs.f ha]
     ·have hg1:=GOk.grow f2.f h1 h16
      have hl1:=f2.f.len
      have n1:¬adj (grow s1.1) a b:=λh=>by have:=BD hg1 h;rw[DM] at this;omega
      have n2:¬adj (grow s.1) a b:=λh=>by have:=BD hg h;rw[DM] at this;omega
      exact⟨λh=>absurd h n1,λh=>absurd h.1 n2⟩
    have hsub:∀p w,p<n→nb s1.1 p w=true→nb s.1 p w=true:=λp w hp h=>((f3 p w hp).1 h).1
    have hsv:Sv (Eg s1)→Sv (Eg s):=fun⟨p,q,h2,h3⟩=>by
     apply Classical.byContradiction
     intro hn
     rw[hE] at h2 h3
     exact lf_anti hsy hir huv (λp q hpq hk=>hn ⟨p,q,hpq,hk⟩) p q h2 h3
    have hT:∀T,Orn (Eg s1) T→∃T0,Orn (Eg s) T0∧∀a b,a<n→((nb s1.2 a b=true∨T a b)↔(nb s.2 a b=true∨T0 a b)):=λT o=>by
     rw[hE] at o
     refine⟨_,lf_or hsy hir huv hno o,λa b ha=> ?_⟩
     rw[f4 a b ha,k3]
     exact or_assoc
    have hlt:=EJ (p:=nb s1.1 u) (q:=nb s.1 u) (l:=List.range n) (λw _ h=>hsub u w hu h) ⟨v,List.mem_range.2 hvn,hv3,by
     cases h:nb s1.1 u v
     ·rfl
     ·exact absurd ((k3 u v).2 Kl.refl) ((f3 u v hu).1 h).2.1⟩
    rw[BU st1]
    rcases ih s1 f2 (by omega) with⟨s',e1,e2,e3,e4,e5,e6⟩|⟨e1,e2⟩
    ·refine .inl ⟨s',e1,e2,e3,λp w hp h=>hsub p w hp (e4 p w hp h),λT o=> ?_,λh=>hsv (e6 h)⟩
     obtain⟨T1,o1,t1⟩:=e5 T o
     obtain⟨T0,o0,t0⟩:=hT T1 o1
     exact⟨T0,o0,λa b ha=>(t1 a b ha).trans (t0 a b ha)⟩
    ·exact .inr ⟨e1,hsv e2⟩
theorem rounds_sem {n:Nat}(h1:1≤n)(h16:n≤16):∀(k u:Nat) (s:LI×LI),u+k=n→Oks n s→(∀p w,p<u→nb s.1 p w=false)→
  (∃s',Aq (D.f0 (n:Int)) (s,(u:Int))=some (some s'.2)∧Oks n s'∧∃T,Orn (Eg s) T∧∀a b,a<n→(nb s'.2 a b=true↔nb s.2 a b=true∨T a b))∨
  (Aq (D.f0 (n:Int)) (s,(u:Int))=some none∧Sv (Eg s)):=by
 intro k
 induction k with
 |zero=>
  intro u s hu hs hz
  obtain rfl:u=n:=by omega
  refine .inl ⟨s,Bp ?_,hs,λ_ _=>False,?_,λa b ha=>by simp⟩
  ·unfold D.f0
   simp only[Bq,cond_false]
  ·have hg:=GOk.grow hs.f h1 h16
   have hl:=hs.f.len
   refine⟨λ_ _ h=>h.elim,λa b h=> ?_,λ_ _ h=>h.elim,λ_ _ _ h=>h.elim⟩
   have ha:a<u:=by have:=BD hg h;rw[DM] at this;omega
   have:=(Cm hs.f ha).1 h
   rw[hz a b ha] at this;cases this
 |succ k ih=>
  intro u s hu hs hz
  have hun:u<n:=by omega
  rcases round_sem h1 h16 hun _ s hs (Nat.le_refl _) with⟨s',e1,h2,h3,h4,h5,h6⟩|⟨e1,e2⟩
  ·have st1:D.f0 (n:Int) (s,(u:Int))=some (.inl (s',((u+1:Nat):Int))):=by
    unfold D.f0
    dsimp only
    rw[dlt hun,cond_true,e1,bs]
    unfold D.B1
    rw[wi (by omega)]
   rw[BU st1]
   rcases ih (u+1) s' (by omega) h2 (λp w hp=>by
    by_cases hpu:p=u
    ·subst hpu;exact h3 w
    ·have:=hz p w (by omega)
     cases h:nb s'.1 p w
     ·rfl
     ·rw[h4 p w (by omega) h] at this;exact this) with⟨t,q1,q2,T,q3,q4⟩|⟨q1,q2⟩
   ·obtain⟨T0,o0,t0⟩:=h5 T q3
    exact .inl ⟨t,q1,q2,T0,o0,λa b ha=>(q4 a b ha).trans (t0 a b ha)⟩
   ·exact .inr ⟨q1,h6 q2⟩
  ·refine .inr ⟨Bp ?_,e2⟩
   unfold D.f0
   dsimp only
   rw[dlt hun,cond_true,e1,bs];rfl
structure St (g:LL)(u v:Nat)(M:ArM):Prop where
 b:∀kv∈M,∃t:Nat,kv.2=(t:Int)∧t<M.length∧(t=0→kv.1=ap u v)∧(0<t→∃kv'∈M,kv'.2=((t-1:Nat):Int)∧∃p q c d:Nat,kv'.1=ap p q∧kv.1=ap c d∧Gm (adj g) p q c d)
 s:(ap u v,0)∈M
section
variable {g : LL} (hg : GOk g)
include hg
structure Chn (g:LL)(P:List (Nat×Nat)):Prop where
 e:∀p∈P,adj g p.1 p.2
 n:∀i (h:i+1<P.length),Gm (adj g) P[i].1 P[i].2 P[i+1].1 P[i+1].2
def prs (P:List (Nat×Nat)):LL:=P.map λp=>pr p.1 p.2
end
end Go.Sx

namespace Go.Sx
structure Odd (g:LL)(a b:Nat)(l:LL):Prop where
 q:∃Q:List (Nat×Nat),l=prs (Q++[(b,a)])∧Chn g (Q++[(b,a)])∧1≤Q.length∧Q.length≤200∧Q[0]? =some (a,b)∧∀p∈Q,p≠(b,a)
section
variable {g : LL} (hg : GOk g)
include hg
end
end Go.Sx

namespace Go.Sx
theorem Chn.cut {g:LL}{P:List (Nat×Nat)}{x:Nat×Nat}(h:Chn g (P++[x])):Chn g P:=
 ⟨λp hp=>h.e p (List.mem_append_left _ hp),λi hi=>by
  have:=h.n i (by simp;omega)
  rw[List.getElem_append_left (show i<P.length by omega),List.getElem_append_left hi] at this
  exact this⟩
section
variable {g : LL} (hg : GOk g)
include hg
end
end Go.Sx

namespace Go.Sx
section
variable {g : LL} (hg : GOk g)
include hg
end
end Go.Sx

namespace Go.Sx
structure Hd (g:LL)(H:LI):Prop where
 len:H.length=g.length
 vs:∀u,u<g.length→VS (H.getD u 0)
 o:Orn (adj g) (λa b=>a<g.length∧nb H a b=true)
section
variable {g : LL} (hg : GOk g)
include hg
theorem Hd.lt {H:LI}(h:Hd g H){a b:Nat}(ha:a<g.length)(hb:nb H a b=true):b<g.length:=hg.lt ha (h.o.sub a b ⟨ha,hb⟩)
theorem Hd.one {H:LI}(h:Hd g H){a b:Nat}(hab:adj g a b):nb H a b= !nb H b a:=by
 have ha:=BD hg hab
 have hb:=hg.lt ha hab
 cases h1:nb H a b<;>cases h2:nb H b a
 ·rcases h.o.all a b hab with h|h
  ·rw[h1] at h;cases h.2
  ·rw[h2] at h;cases h.2
 ·rfl
 ·rfl
 ·exact absurd ⟨hb,h2⟩ (h.o.one a b ⟨ha,h1⟩)
theorem Hd.idx {H:LI}(h:Hd g H){i:Nat}(hi:i<g.length):idx (H.map AY) (i:Int)=some (AY (H.getD i 0)):=by
 have hl:=h.len
 rw[AP (show i<(H.map AY).length by simp;omega),List.getElem_map]
 congr 2
 exact(AQ _ _).symm
theorem Hd.set {H:LI}(h:Hd g H){i:Nat}(hi:i<g.length):SetOf (AY (H.getD i 0)) (g.length:Int):=by
 refine⟨CA _,λx hx=> ?_⟩
 obtain⟨w,_,h2,rfl⟩:=mem_elems.1 hx
 have:=h.lt hg (a:=i) (b:=w) hi h2
 omega
theorem idx_mk {u:Nat}(hul:u<g.length):idx (g.map mk) (u:Int)=some (mk (row g u)):=by
 rw[AP (by simpa using hul),List.getElem_map]
 congr 2
 exact(AQ hul _).symm
theorem has_row {u w:Nat}(hu:u<g.length):has (mk (row g u)) w=true↔adj g u w:=by
 rw[←Cg hg hu];unfold nb;rw[Dt]
end
end Go.Sx

namespace Go.Sx
section
variable {g : LL} (hg : GOk g)
include hg
theorem DT :∃l:LI,D.r (g.map mk)=some l∧((l≠[]∧Hd g l)∨(l=[]∧Sv (adj g))):=by
 have h16:=hg.n16
 have hn1:=hg.n1
 have h0:Oks g.length (g.map mk,List.replicate g.length 0):=⟨FOk.of hg,by simp,λu hu=>by
  rw[AQ (by simpa using hu)]
  simp
  exact VS.zero⟩
 have hgr:grow (g.map mk)=g:=by
  unfold grow
  rw[List.map_map]
  refine(List.map_congr_left (λr hr=> ?_)).trans (List.map_id g)
  obtain⟨i,hi,rfl⟩:=List.getElem_of_mem hr
  have h2:=hg.rows i hi
  have e:row g i=g[i]:=AQ hi _
  rw[e] at h2
  exact elems_mk h16 h2.1 h2.2
 have R:=rounds_sem hn1 h16 g.length 0 _ (by omega) h0 (λp w hp=>absurd hp (Nat.not_lt_zero _))
 have hE:Eg (g.map mk,List.replicate g.length (0:Int))=adj g:=by unfold Eg;rw[hgr]
 rw[hE,show ((0:Nat):Int)=0 from rfl] at R
 have hcl:D.g0 (g.map mk)=some (g.map mk):=by
  unfold D.g0
  rw[Bm (by simp;omega)];rfl
 unfold D.r
 rw[hcl,bs,List.length_map,DU (by omega) (by omega),bs]
 rcases R with⟨s',e1,h,T,oT,hT⟩|⟨e1,e2⟩
 ·have hl:=h.l
  have hne:s'.2≠[]:=by intro e;rw[e] at hl;simp at hl;omega
  have hnE:nonE s'.2=some ():=by
   cases hs:s'.2 with
   |nil=>exact absurd hs hne
   |cons a l=>rfl
  rw[e1,bs]
  unfold D.y1
  dsimp only
  rw[hnE,bs]
  have hz:∀a b:Nat,nb (List.replicate g.length (0:Int)) a b=false:=λa b=>by
   unfold nb
   rw[List.getD_eq_getElem?_getD,List.getElem?_replicate]
   split<;>exact BL b
  have hTT:∀a b,T a b↔a<g.length∧nb s'.2 a b=true:=λa b=>by
   constructor
   ·intro ht
    have ha:=BD hg (oT.sub a b ht)
    exact⟨ha,(hT a b ha).2 (.inr ht)⟩
   ·rintro⟨ha,hb⟩
    rcases(hT a b ha).1 hb with h'|h'
    ·rw[hz] at h';cases h'
    ·exact h'
  refine⟨_,rfl,.inl ⟨hne,hl,h.v,?_⟩⟩
  have:T=(λa b=>a<g.length∧nb s'.2 a b=true):=by
   funext a b;exact propext (hTT a b)
  rw[←this];exact oT
 ·exact⟨[],by rw[e1];rfl,.inr ⟨rfl,e2⟩⟩
end
end Go.Sx

namespace Go.Sx
structure Tou (n:Nat)(T:Nat→Nat→Prop):Prop where
 ir:∀a,¬T a a
 asy:∀a b,T a b→¬T b a
 al:∀a b,a<n→b<n→a≠b→T a b∨T b a
 tr:∀a b c,T a b→T b c→T a c
 lt:∀a b,T a b→a<n∧b<n
theorem Tou.of {n:Nat}{E E' T1 T2:Nat→Nat→Prop}(o1:Orn E T1)(o2:Orn E' T2)(hs:∀a b,E a b→E b a)(hs':∀a b,E' a b→E' b a)(hi:∀a,¬E a a)(hi':∀a,¬E' a a)(hl:∀a b,E a b→a<n∧b<n)(hl':∀a b,E' a b→a<n∧b<n)
  (hno:∀a b,E a b→¬E' a b) (hal:∀a b,a<n→b<n→a≠b→E a b∨E' a b):Tou n (λa b=>T1 a b∨T2 a b):=by
 have mix:∀{E E' T1 T2:Nat→Nat→Prop},Orn E T1→Orn E' T2→(∀a b,E a b→E b a)→(∀a b,E' a b→E' b a)→(∀a b,E a b→a<n∧b<n)→(∀a b,E' a b→a<n∧b<n)→(∀a b,E a b→¬E' a b)→(∀a b,a<n→b<n→a≠b→E a b∨E' a b)→∀a b c,T1 a b→T2 b c→T1 a c∨T2 a c:=by
  intro E E' T1 T2 o1 o2 hs hs' hl hl' hno hal a b c h1 h2
  have e1:=o1.sub _ _ h1;have e2:=o2.sub _ _ h2
  have hac:a≠c:=λe=>by subst e;exact hno _ _ e1 (hs' _ _ e2)
  rcases hal a c (hl _ _ e1).1 (hl' _ _ e2).2 hac with h|h
  ·rcases o1.all a c h with h|h
   ·exact .inl h
   ·exact absurd e2 (hno _ _ (hs _ _ (o1.sub _ _ (o1.trn _ _ _ h h1))))
  ·rcases o2.all a c h with h|h
   ·exact .inr h
   ·exact absurd (hs' _ _ (o2.sub _ _ (o2.trn _ _ _ h2 h))) (hno _ _ e1)
 refine⟨λa h=>h.elim (λh=>hi a (o1.sub _ _ h)) (λh=>hi' a (o2.sub _ _ h)),λa b h1 h2=> ?_,λa b ha hb hab=> ?_,λa b c h1 h2=> ?_,λa b h=>h.elim (λh=>hl _ _ (o1.sub _ _ h)) (λh=>hl' _ _ (o2.sub _ _ h))⟩
 ·rcases h1 with h1|h1<;>rcases h2 with h2|h2
  ·exact o1.one _ _ h1 h2
  ·exact hno _ _ (o1.sub _ _ h1) (hs' _ _ (o2.sub _ _ h2))
  ·exact hno _ _ (o1.sub _ _ h2) (hs' _ _ (o2.sub _ _ h1))
  ·exact o2.one _ _ h1 h2
 ·rcases hal a b ha hb hab with h|h
  ·exact(o1.all a b h).imp .inl .inl
  ·exact(o2.all a b h).imp .inr .inr
 ·rcases h1 with h1|h1<;>rcases h2 with h2|h2
  ·exact .inl (o1.trn _ _ _ h1 h2)
  ·exact mix o1 o2 hs hs' hl hl' hno hal a b c h1 h2
  ·exact(mix o2 o1 hs' hs hl' hl (λa b h1 h2=>hno a b h2 h1) (λa b ha hb hab=>(hal a b ha hb hab).symm) a b c h1 h2).symm
  ·exact .inr (o2.trn _ _ _ h1 h2)
theorem Orn.rev {E T:Nat→Nat→Prop}(hs:∀a b,E a b→E b a)(o:Orn E T):Orn E (λa b=>T b a):=
 ⟨λa b h=>hs _ _ (o.sub b a h),λa b h=>(o.all a b h).symm,λa b h h'=>o.one b a h h',λa b c h1 h2=>o.trn c b a h2 h1⟩
theorem line_pk {n:Nat}{out:LI}(hl:out.length=n)(pos:Nat→Nat)(hp:∀v,v<n→pos v<n)(hi:∀u v,u<n→v<n→pos u=pos v→u=v)(ho:∀v (hv:v<n),out[pos v]? =some (v:Int)):PK n out∧∀v,v<n→pl out v=pos v:=by
 have sur:∀i,i<n→∃v,v<n∧pos v=i:=λi hin=>by
  apply Classical.byContradiction
  intro hc
  have hnot:∀v,v<n→pos v≠i:=λv hv e=>hc ⟨v,hv,e⟩
  have:=Ca (l:=(i:Int)::(List.range n).map (λv=>((pos v:Nat):Int))) (m:=(List.range n).map Int.ofNat) (by
   rw[List.nodup_cons]
   refine⟨λh=> ?_,?_⟩
   ·obtain⟨v,hv,e⟩:=List.mem_map.1 h
    exact hnot v (List.mem_range.1 hv) (by omega)
   ·unfold List.Nodup
    rw[List.pairwise_map]
    refine List.Pairwise.imp_of_mem (fun{x y} hx hy hne he=>hne ?_) List.nodup_range
    exact hi x y (List.mem_range.1 hx) (List.mem_range.1 hy) (by omega)) (λx hx=>by
   rcases List.mem_cons.1 hx with rfl|hx
   ·exact List.mem_map.2 ⟨i,List.mem_range.2 hin,rfl⟩
   ·obtain⟨v,hv,rfl⟩:=List.mem_map.1 hx
    exact List.mem_map.2 ⟨pos v,List.mem_range.2 (hp v (List.mem_range.1 hv)),rfl⟩)
  simp at this
  omega
 have hget:∀i (h:i<out.length),∃v,v<n∧pos v=i∧out[i]=(v:Int):=λi h=>by
  obtain⟨v,hv,e⟩:=sur i (by omega)
  have:=ho v hv
  subst e
  rw[List.getElem?_eq_getElem h] at this
  exact⟨v,hv,rfl,Option.some.inj this⟩
 have hpk:PK n out:=by
  refine⟨hl,λx hx=> ?_,?_⟩
  ·obtain⟨i,h,rfl⟩:=List.getElem_of_mem hx
   obtain⟨v,hv,_,e⟩:=hget i h
   omega
  ·unfold List.Nodup
   rw[List.pairwise_iff_getElem]
   intro i j h1 h2 hij e
   obtain⟨u,hu,pu,eu⟩:=hget i h1
   obtain⟨v,hv,pv,ev⟩:=hget j h2
   have:u=v:=by omega
   subst this
   omega
 refine⟨hpk,λv hv=> ?_⟩
 have h1:pos v<out.length:=by rw[hl];exact hp v hv
 have:=ho v hv
 rw[List.getElem?_eq_getElem h1] at this
 exact hpk.pl_of h1 (Option.some.inj this)
theorem tou_count {n : Nat} (hn : n ≤ 16) {T : Nat → Nat → Prop} (t : Tou n T) {S : LI} (hv : ∀ u, u < n → VS (S.getD u 0)) (hS : ∀ u w, u < n → (has (S.getD u 0) w = true ↔ T u w)) :
    (∀ v, v < n → (AY (S.getD v 0)).length + 1 ≤ n) ∧ ∀ u v, T u v → (AY (S.getD v 0)).length < (AY (S.getD u 0)).length := by
  refine ⟨fun v hvn => ?_, fun u v huv => ?_⟩
  · have := Ca (l := (v : Int) :: AY (S.getD v 0)) (m := (List.range n).map Int.ofNat) (by
      rw [List.nodup_cons]
      exact ⟨fun h => t.ir v ((hS v v hvn).1 ((BB (hv v hvn)).1 h)), Inc.nodup (CA _)⟩) (fun x hx => by
      rcases List.mem_cons.1 hx with rfl | hx
      · exact List.mem_map.2 ⟨v, List.mem_range.2 hvn, rfl⟩
      · obtain ⟨w, _, hw, rfl⟩ := mem_elems.1 hx
        exact List.mem_map.2 ⟨w, List.mem_range.2 (t.lt _ _ ((hS v w hvn).1 hw)).2, rfl⟩)
    simp only [List.length_cons, List.length_map, List.length_range] at this
    omega
  · obtain ⟨hun, hvn⟩ := t.lt _ _ huv
    have := Ca (l := (v : Int) :: AY (S.getD v 0)) (m := AY (S.getD u 0)) (by
      rw [List.nodup_cons]
      exact ⟨fun h => t.ir v ((hS v v hvn).1 ((BB (hv v hvn)).1 h)), Inc.nodup (CA _)⟩) (fun x hx => by
      rcases List.mem_cons.1 hx with rfl | hx
      · exact (BB (hv u hun)).2 ((hS u v hun).2 huv)
      · obtain ⟨w, _, hw, rfl⟩ := mem_elems.1 hx
        exact (BB (hv u hun)).2 ((hS u w hun).2 (t.tr u v w huv ((hS v w hvn).1 hw))))
    simp only [List.length_cons, List.length_map, List.length_range] at this
    omega
theorem lineBy_ok {n : Nat} (h1 : 1 ≤ n) (hn : n ≤ 16) {T : Nat → Nat → Prop} (t : Tou n T) {S : LI} (hl : S.length = n) (hv : ∀ u, u < n → VS (S.getD u 0)) (hS : ∀ u w, u < n → (has (S.getD u 0) w = true ↔ T u w)) :
    ∃ out, D.S S = some out ∧ (PK n out ∧ ∀ u v, u < n → v < n → u ≠ v → (pl out u < pl out v ↔ T u v)) := by
  obtain ⟨c1, c2⟩ := tou_count hn t hv hS
  let pos : Nat → Nat := fun v => n - 1 - (AY (S.getD v 0)).length
  have hpos : ∀ v, pos v = n - 1 - (AY (S.getD v 0)).length := fun _ => rfl
  have hp : ∀ v, v < n → pos v < n := fun v _ => by rw [hpos]; omega
  have hlt : ∀ u v, T u v → pos u < pos v := fun u v h => by
    have a1 := c2 u v h
    have a2 := c1 u (t.lt _ _ h).1
    rw [hpos, hpos]; omega
  have hi : ∀ u v, u < n → v < n → pos u = pos v → u = v := fun u v hu hv' e => by
    apply Classical.byContradiction
    intro hne
    rcases t.al u v hu hv' hne with h | h
    · have := hlt u v h; omega
    · have := hlt v u h; omega
  unfold D.S
  rw [hl, DU (by omega) (by omega), bs]
  refine A2 (fun s : LI × Int => ∃ i : Nat, s.2 = (i : Int) ∧ i ≤ n ∧ s.1.length = n ∧ ∀ v, v < i → s.1[pos v]? = some (v : Int)) (fun s => n - s.2.toNat)
    (fun r : LI => r.length = n ∧ ∀ v, v < n → r[pos v]? = some (v : Int)) ?_ ⟨0, rfl, Nat.zero_le _, by simp, fun v h => absurd h (Nat.not_lt_zero _)⟩ ?_
  · rintro ⟨l, _⟩ ⟨i, rfl, hin, hll, hh⟩
    dsimp only at hll hh ⊢
    by_cases hil : i < n
    · have hw : IntKind.i64.wrap (IntKind.i64.wrap ((n : Int) - 1) - ((AY (S.getD i 0)).length : Int)) = ((pos i : Nat) : Int) := by
        have := c1 i hil
        rw [hpos, w64 (x := (n : Int) - 1) (by omega) (by omega), w64 (by omega) (by omega)]; omega
      have hpi := hp i hil
      rw [dlt hil, cond_true, AP (show i < S.length by omega), bs, ← AQ (show i < S.length by omega) 0, size_eq (hv i hil), bs, hw, AP (show pos i < l.length by omega), bs, wi (by omega), Int.toNat_natCast]
      refine ⟨_, rfl, ⟨i + 1, rfl, hil, by simp [hll], fun v hvi => ?_⟩, by dsimp only; omega⟩
      dsimp only
      by_cases h : v = i
      · subst h
        rw [List.getElem?_set_self (by omega)]
      · rw [List.getElem?_set_ne (fun e => h (hi i v hil (by omega) e).symm)]
        exact hh v (by omega)
    · obtain rfl : i = n := by omega
      rw [Bq, cond_false]
      exact ⟨_, rfl, hll, hh⟩
  · rintro r ⟨hrl, hr⟩
    obtain ⟨k1, k2⟩ := line_pk hrl pos hp hi hr
    refine ⟨r, rfl, k1, fun u v hu hv' hne => ?_⟩
    rw [k2 u hu, k2 v hv']
    constructor
    · intro h
      rcases t.al u v hu hv' hne with h' | h'
      · exact h'
      · have := hlt v u h'; omega
    · exact hlt u v
def Co (g:LL)(u w:Nat):Prop:=u<g.length∧w<g.length∧u≠w∧¬adj g u w
section
variable {g : LL} (hg : GOk g)
include hg
theorem PermsOf_ok {T1 T2:Nat→Nat→Prop}(o1:Orn (adj g) T1)(o2:Orn (Co g) T2):∃x y,D.J g=some (x,y,true)∧(PK g.length x∧PK g.length y∧NX x y g.length (g.map mk)):=by
 have h16:=hg.n16
 have hn1:=hg.n1
 have hsy:=Ee hg
 obtain⟨F',eF',hF',hnb⟩:=complement_ok h16 (FOk.of hg)
 have hg':=GOk.grow hF' hn1 h16
 have hgm':=grow_mk hF'
 have hgl':(grow F').length=g.length:=by rw[DM];exact hF'.len
 have hco:adj (grow F')=Co g:=by
  funext u w
  apply propext
  by_cases hu:u<g.length
  ·rw[Cm hF' hu,hnb u w hu]
   simp only[Bool.and_eq_true,decide_eq_true_eq,Bool.not_eq_true',decide_eq_false_iff_not]
   constructor
   ·rintro⟨⟨h1,h2⟩,h3⟩
    exact⟨hu,h1,λe=>h3 e.symm,λe=>by rw[(Cg hg hu).2 e] at h2;cases h2⟩
   ·rintro⟨_,h1,h2,h3⟩
    refine⟨⟨h1,?_⟩,λe=>h2 e.symm⟩
    cases h:nb (g.map mk) u w
    ·rfl
    ·exact absurd ((Cg hg hu).1 h) h3
  ·exact⟨λh=>by have:=BD hg' h;omega,λh=>absurd h.1 hu⟩
 have hcs:∀a b,Co g a b→Co g b a:=λa b ⟨h1,h2,h3,h4⟩=>⟨h2,h1,λe=>h3 e.symm,λe=>h4 (hsy _ _ e)⟩
 obtain⟨l1,e1,q1⟩:=DT hg
 obtain⟨l2,e2,q2⟩:=DT hg'
 rw[hgm'] at e2
 rw[hco] at q2
 have d1:l1≠[]∧Hd g l1:=by
  rcases q1 with h|⟨_,p,q,h1,h2⟩
  ·exact h
  ·exact absurd h2 (o1.anti hsy p q h1)
 have d2:l2≠[]∧Hd (grow F') l2:=by
  rcases q2 with h|⟨_,p,q,h1,h2⟩
  ·exact h
  ·exact absurd h2 (o2.anti hcs p q h1)
 obtain⟨n1,H1⟩:=d1
 obtain⟨n2,H2⟩:=d2
 have hl1:=H1.len
 have hl2:=H2.len
 have hE1:l1.isEmpty=false:=by
  cases l1 with
  |nil=>exact absurd rfl n1
  |cons _ _=>rfl
 have hE2:l2.isEmpty=false:=by
  cases l2 with
  |nil=>exact absurd rfl n2
  |cons _ _=>rfl
 have oo1:=H1.o
 have oo2:=H2.o
 rw[hgl',hco] at oo2
 have hv2:∀u,u<g.length→VS (l2.getD u 0):=λu hu=>H2.vs u (by omega)
 have hel:∀a b,adj g a b→a<g.length∧b<g.length:=λa b h=>⟨BD hg h,hg.lt (BD hg h) h⟩
 have hir:∀a,¬adj g a a:=λa h=>hg.irr a (BD hg h) h
 have hno:∀a b,adj g a b→¬Co g a b:=λa b h h'=>h'.2.2.2 h
 have hal:∀a b,a<g.length→b<g.length→a≠b→adj g a b∨Co g a b:=λa b ha hb hab=>by
  by_cases h:adj g a b
  ·exact .inl h
  ·exact .inr ⟨ha,hb,hab,h⟩
 have tA:=Tou.of (n:=g.length) oo1 oo2 hsy hcs hir (λa h=>h.2.2.1 rfl) hel (λa b h=>⟨h.1,h.2.1⟩) hno hal
 have tB:=Tou.of (n:=g.length) (oo1.rev hsy) oo2 hsy hcs hir (λa h=>h.2.2.1 rfl) hel (λa b h=>⟨h.1,h.2.1⟩) hno hal
 let fA:Nat→Int:=λv=>ior .u32 (l1.getD v 0) (l2.getD v 0)
 let fB:Nat→Int:=λv=>ior .u32 (iandNot .u32 (mk (row g v)) (l1.getD v 0)) (l2.getD v 0)
 have hA:∀u w,u<g.length→(has (fA u) w=true↔(u<g.length∧nb l1 u w=true)∨(u<g.length∧nb l2 u w=true)):=λu w hu=>by
  show has (ior .u32 (l1.getD u 0) (l2.getD u 0)) w=true↔_
  rw[B6 (H1.vs u hu) (hv2 u hu),Bool.or_eq_true]
  exact⟨λh=>h.imp (λh=>⟨hu,h⟩) (λh=>⟨hu,h⟩),λh=>h.imp (λh=>h.2) (λh=>h.2)⟩
 have hB:∀u w,u<g.length→(has (fB u) w=true↔(w<g.length∧nb l1 w u=true)∨(u<g.length∧nb l2 u w=true)):=λu w hu=>by
  show has (ior .u32 (iandNot .u32 (mk (row g u)) (l1.getD u 0)) (l2.getD u 0)) w=true↔_
  rw[B6 (VS.iandNot _ _) (hv2 u hu),Bool.or_eq_true,Bt (VS.mk _) (H1.vs u hu),Bool.and_eq_true,has_row hg hu]
  constructor
  ·rintro(⟨h1,h2⟩|h)
   ·left
    have:=H1.one hg h1
    unfold nb at this ⊢
    refine⟨(hel _ _ h1).2,?_⟩
    rw[this] at h2
    cases h:has (l1.getD w 0) u
    ·rw[h] at h2;cases h2
    ·rfl
   ·exact .inr ⟨hu,h⟩
  ·rintro(⟨h1,h2⟩|⟨_,h⟩)
   ·left
    have ha:=hsy _ _ (H1.o.sub w u ⟨h1,h2⟩)
    refine⟨ha,?_⟩
    have:=H1.one hg ha
    unfold nb at this h2
    rw[this,h2];rfl
   ·exact .inr h
 have hloop:∃r:LI×LI,Aq (σ:=LI×LI×Int) (ρ:=(LI×LI)) (fun(s_242:LI×LI×Int)=>match s_242 with|(l_245,l_248,x_251)=>cond (decide (x_251<((g.map mk).length:Int))) ((idx l1 x_251).bind λe_309=>(idx l2 x_251).bind λe_315=>(idx l_245 x_251).bind λe_321=>(idx (g.map mk) x_251).bind λe_329=>(idx l1 x_251).bind λe_335=>(idx l2 x_251).bind λe_341=>(idx l_248 x_251).bind λe_347=>some (.inl ((l_245.set (Int.toNat x_251) (ior .u32 e_309 e_315)),(l_248.set (Int.toNat x_251) (ior .u32 (iandNot .u32 e_329 e_335) e_341)),(IntKind.i64.wrap (x_251+1))))) (some (.inr (l_245,l_248)))) (List.replicate g.length 0,List.replicate g.length 0,0)=some r∧
   (r.1.length=g.length∧r.2.length=g.length∧∀v,v<g.length→r.1.getD v 0=fA v∧r.2.getD v 0=fB v):=by
  refine D9 (λs:LI×LI×Int=>∃i:Nat,s.2.2=(i:Int)∧i≤g.length∧s.1.length=g.length∧s.2.1.length=g.length∧∀v,v<i→s.1.getD v 0=fA v∧s.2.1.getD v 0=fB v) (λs=>g.length-s.2.2.toNat) _ ?_ _ ⟨0,rfl,Nat.zero_le _,by simp,by simp,λv h=>absurd h (Nat.not_lt_zero _)⟩
  rintro⟨p,q,_⟩ ⟨i,rfl,hi,hp,hq,hh⟩
  dsimp only at hp hq hh ⊢
  rw[List.length_map]
  by_cases hil:i<g.length
  ·left
   have i1:idx l1 (i:Int)=some (l1.getD i 0):=by rw[AP (show i<l1.length by omega),AQ]
   have i2:idx l2 (i:Int)=some (l2.getD i 0):=by rw[AP (show i<l2.length by omega),AQ]
   rw[dlt hil,cond_true,i1,i2,AP (show i<p.length by omega),idx_mk hg hil,AP (show i<q.length by omega)]
   simp only[bs,Int.toNat_natCast]
   rw[wi (by omega)]
   refine⟨_,rfl,⟨i+1,rfl,hil,by simp[hp],by simp[hq],λv hv=> ?_⟩,by dsimp only;omega⟩
   dsimp only
   rw[DW _ _ _ _ (by omega),DW _ _ _ _ (by omega)]
   by_cases h:v=i
   ·subst h;rw[if_pos rfl,if_pos rfl];exact⟨rfl,rfl⟩
   ·rw[if_neg h,if_neg h];exact hh v (by omega)
  ·right
   obtain rfl:i=g.length:=by omega
   rw[Bq,cond_false]
   exact⟨_,rfl,hp,hq,hh⟩
 obtain⟨⟨A,B⟩,el,hAl,hBl,hAB⟩:=hloop
 dsimp only at hAl hBl hAB
 obtain⟨x,ex,kx,px⟩:=lineBy_ok hn1 h16 tA hAl (λu hu=>by rw[(hAB u hu).1];exact VS.ior _ _) (λu w hu=>by rw[(hAB u hu).1];exact hA u w hu)
 obtain⟨y,ey,ky,py⟩:=lineBy_ok hn1 h16 tB hBl (λu hu=>by rw[(hAB u hu).2];exact VS.ior _ _) (λu w hu=>by rw[(hAB u hu).2];exact hB u w hu)
 refine⟨x,y,?_,kx,ky,λu w hu=> ?_⟩
 ·unfold D.J
  rw[B7 g hg.sh2,CR hg,bs,Bool.not_true,cond_false,ED g hg,bs,e1,bs,eF',bs,e2,bs,hE1,hE2,Bool.or_self,cond_false]
  rw[show ((g.map mk).length:Int)=(g.length:Int) by simp,DU (by omega) (by omega),bs,bs,bs]
  rw[show ((g.map mk).length:Int)=(g.length:Int) by simp] at el
  dsimp only
  rw[el,bs]
  dsimp only
  rw[ex,bs,ey,bs]
 ·rw[Bool.eq_iff_iff,Cg hg hu]
  simp only[Bool.and_eq_true,decide_eq_true_eq,Bool.not_eq_true',decide_eq_false_iff_not]
  have key:∀w,w<g.length→u≠w→(XX x y u w=true↔adj g u w):=λw hw hne=>by
   have hX:XX x y u w=true↔¬((pl x u<pl x w)↔(pl y u<pl y w)):=by
    unfold XX
    rw[bne_iff_ne,ne_eq,decide_eq_decide]
   rw[hX,px u w hu hw hne,py u w hu hw hne]
   by_cases hab:adj g u w
   ·have n2:¬(u<g.length∧nb l2 u w=true):=λh=>hno _ _ hab (oo2.sub u w h)
    have h1:=H1.one hg hab
    refine⟨λ_=>hab,λ_ e'=> ?_⟩
    cases h:nb l1 w u
    ·rw[h] at h1
     rcases e'.1 (.inl ⟨hu,h1⟩) with h'|h'
     ·rw[h] at h';cases h'.2
     ·exact n2 h'
    ·rw[h] at h1
     rcases e'.2 (.inl ⟨hw,h⟩) with h'|h'
     ·rw[h1] at h';cases h'.2
     ·exact n2 h'
   ·refine⟨λhne'=>absurd ?_ hne',λh=>absurd h hab⟩
    constructor
    ·rintro(h|h)
     ·exact absurd (oo1.sub u w h) hab
     ·exact .inr h
    ·rintro(h|h)
     ·exact absurd (hsy _ _ (oo1.sub w u h)) hab
     ·exact .inr h
  constructor
  ·intro h
   have hw:=(hel _ _ h).2
   have hne:u≠w:=λe=>hir u (by rw[←e] at h;exact h)
   exact⟨⟨hw,hne⟩,(key w hw hne).2 h⟩
  ·rintro⟨⟨hw,hne⟩,h⟩
   exact(key w hw hne).1 h
end
end Go.Sx

namespace Go.Sx
theorem reverse_ok {l:LI}(hl:l.length≤1000):D.Y l=some l.reverse:=by
 have h:∃y,D.Y l=some y∧y=l.reverse:=by
  unfold D.Y
  refine A2 (λs:LI×Int×Int=>∃i:Nat,s.2.1=(i:Int)∧s.2.2=(l.length:Int)-1-i∧2*i≤l.length+1∧s.1.length=l.length∧∀k,k<l.length→s.1[k]? =if k<i∨l.length≤k+i then l[l.length-1-k]? else l[k]?) (λs=>l.length-s.2.1.toNat)
   (λr:LI=>r=l.reverse) ?_ ⟨0,rfl,?_,by omega,rfl,λk hk=> ?_⟩ (λr hr=>⟨r,rfl,hr⟩)
  ·rintro⟨m,_,_⟩ ⟨i,rfl,rfl,hi,hm,hk⟩
   dsimp only at hm hk ⊢
   by_cases hc:(i:Int)<(l.length:Int)-1-i
   ·obtain⟨j,hj,hjl⟩:∃j:Nat,(l.length:Int)-1-i=(j:Int)∧j+i+1=l.length:=⟨l.length-1-i,by omega,by omega⟩
    rw[hj] at hc ⊢
    have hij:i<j:=by omega
    have him:i<m.length:=by omega
    have hjm:j<m.length:=by omega
    rw[decide_eq_true (show (i:Int)<(j:Int) by omega),cond_true,AP hjm,bs,AP him,bs,bs,Int.toNat_natCast,Int.toNat_natCast,AP (show j<(m.set i m[j]).length by simpa using hjm),bs,wi (by omega),w64 (by omega) (by omega)]
    have e1:=hk i (by omega)
    have e2:=hk j (by omega)
    rw[if_neg (by omega),List.getElem?_eq_getElem him] at e1
    rw[if_neg (by omega),List.getElem?_eq_getElem hjm] at e2
    refine⟨_,rfl,⟨i+1,rfl,by dsimp only;omega,by omega,by simp[hm],λk hkl=> ?_⟩,by dsimp only;omega⟩
    dsimp only
    rw[List.getElem?_set,List.getElem?_set]
    by_cases h1:j=k
    ·subst h1
     rw[if_pos rfl,if_pos (by simpa using hjm),if_pos (by omega),show l.length-1-j=i by omega,←e1]
    ·rw[if_neg h1]
     by_cases h2:i=k
     ·subst h2
      rw[if_pos rfl,if_pos him,if_pos (by omega),show l.length-1-i=j by omega,←e2]
     ·rw[if_neg h2,hk k hkl]
      by_cases h3:k<i∨l.length≤k+i
      ·rw[if_pos h3,if_pos (by omega)]
      ·rw[if_neg h3,if_neg (by omega)]
   ·rw[decide_eq_false hc,cond_false]
    refine⟨_,rfl,?_⟩
    apply List.ext_getElem?
    intro k
    by_cases hkl:k<l.length
    ·rw[hk k hkl,List.getElem?_reverse hkl]
     by_cases h3:k<i∨l.length≤k+i
     ·rw[if_pos h3]
     ·rw[if_neg h3,show l.length-1-k=k by omega]
    ·rw[List.getElem?_eq_none (by omega),List.getElem?_eq_none (by simp;omega)]
  ·dsimp only
   rw[w64 (by omega) (by omega)];omega
  ·dsimp only
   rw[if_neg (by omega)]
 obtain⟨y,e,rfl⟩:=h
 exact e
theorem PK.rev {n:Nat}{o:LI}(h:PK n o):PK n o.reverse∧∀v,v<n→pl o.reverse v=n-1-pl o v:=by
 have hr:PK n o.reverse:=⟨by rw[List.length_reverse];exact h.len,λx hx=>h.rng x (List.mem_reverse.1 hx),by
  unfold List.Nodup
  rw[List.pairwise_reverse]
  exact List.Pairwise.imp (λh e=>h e.symm) h.nd⟩
 have hl:=h.len
 refine⟨hr,λv hv=> ?_⟩
 have h1:=h.pl_lt hv
 have h2:=h.pl_get hv (by omega)
 refine hr.pl_of (by rw[List.length_reverse];omega) ?_
 rw[List.getElem_reverse]
 have:o.length-1-(n-1-pl o v)=pl o v:=by omega
 simp only[this]
 exact h2
section
variable {g : LL} (hg : GOk g)
include hg
theorem Et {x y:LI}(hx:PK g.length x)(hy:PK g.length y)(hX:NX x y g.length (g.map mk)):D.s g x y=some true∧D.O0 g x y=some true:=by
 have h16:=hg.n16
 have hn1:=hg.n1
 have hF:=FOk.of hg
 constructor
 ·have e:((x.length:Int)==(y.length:Int))=true:=by rw[hx.len,hy.len];simp
  unfold D.s D.b1
  rw[Dh g hg.sh2,CR hg,bs,cond_true,l15Line_ok hn1 h16 hx,bs,cond_true,l15Line_ok hn1 h16 hy]
  simp only[bs,e,Bool.and_self,cond_true]
  rw[l15Graph_ok hn1 h16 hx hy hF hX,bs,grow_of hg,EC hg]
  rfl
 ·obtain⟨⟨F2,t⟩,e5,rfl,hF2,hX2⟩:=EN hn1 h16 hx hy
  dsimp only at hF2 hX2
  have hE:F2=g.map mk:=FOk.ext hF2.len hF.len hF2.vs hF.vs (λu w hu=>by rw[hX2 u w hu,hX u w hu])
  subst hE
  unfold D.O0
  rw[DB h16 e5 hF2,bs,grow_of hg]
  dsimp only
  rw[cond_true,SameGraph_self hg]
  rfl
end
theorem FnPerms_true (code:LI)(hb:∀x∈code,0≤x∧x≤255):D.f1 code=some true:=by
 unfold D.f1 D.e1
 simp only[bs]
 by_cases hl:(4096:Int)<code.length
 ·simp only[hl,decide_true,cond_true]
 ·simp only[hl,decide_false,cond_false]
  obtain⟨z,e1,k1⟩:=roll_ok code 1009 hb (by omega)
  simp only[e1,bs]
  obtain⟨⟨r,b,i,z2⟩,e2,hr0,hr6,rfl,k2⟩:=below_then k1 z 6 (by omega)
  dsimp only at hr0 hr6 k2
  have hw:IntKind.i64.wrap (1+r)=((1+r.toNat:Nat):Int):=by rw[w64 (by omega) (by omega)];omega
  obtain⟨n,hn,h1,h16⟩:∃n:Nat,1+r.toNat=n∧1≤n∧n≤16:=⟨_,rfl,by omega,by omega⟩
  rw[hn] at hw
  simp only[e2,bs,hw]
  obtain⟨⟨p,b3,i3,z3⟩,e3,p1,p2,p3,rfl,k3⟩:=w9Order_ok k2 z2 n h16
  dsimp only at p1 p2 p3 k3
  simp only[e3,bs]
  obtain⟨⟨q,b4,i4,z4⟩,e4,q1,q2,q3,rfl,k4⟩:=w9Order_ok k3 z3 n h16
  dsimp only at q1 q2 q3 k4
  simp only[e4,bs]
  have hp:PK n p:=⟨p1,p2,p3⟩
  have hq:PK n q:=⟨q1,q2,q3⟩
  obtain⟨⟨F,t⟩,e5,rfl,hF,hX⟩:=EN h1 h16 hp hq
  dsimp only at hF hX
  have hg:=GOk.grow hF h1 h16
  have hgl:(grow F).length=n:=by rw[DM];exact hF.len
  have hgm:=grow_mk hF
  obtain⟨G,e6,hG,hGl,hGA⟩:=Complement_ok hg
  have hpne:∀u v,u<n→v<n→u≠v→pl p u≠pl p v:=λu v hu hv huv e=>huv (hp.pl_inj hu hv e)
  have hqne:∀u v,u<n→v<n→u≠v→pl q u≠pl q v:=λu v hu hv huv e=>huv (hq.pl_inj hu hv e)
  have hXX:∀u v,XX p q u v=true↔¬((pl p u<pl p v)↔(pl q u<pl q v)):=λu v=>by
   unfold XX
   rw[bne_iff_ne,ne_eq,decide_eq_decide]
  have hadj:∀u v,adj (grow F) u v↔u<n∧v<n∧u≠v∧¬((pl p u<pl p v)↔(pl q u<pl q v)):=λu v=>by
   by_cases hu:u<n
   ·rw[Cm hF hu,hX u v hu,←hXX]
    simp only[Bool.and_eq_true,decide_eq_true_eq,Bool.not_eq_true',decide_eq_false_iff_not]
    exact⟨λh=>⟨hu,h.1.1,h.1.2,h.2⟩,λh=>⟨⟨h.2.1,h.2.2.1⟩,h.2.2.2⟩⟩
   ·exact⟨λh=>by have:=BD hg h;omega,λh=>absurd h.1 hu⟩
  let T1:Nat→Nat→Prop:=λu v=>u<n∧v<n∧pl p u<pl p v∧pl q v<pl q u
  let T2:Nat→Nat→Prop:=λu v=>u<n∧v<n∧pl p u<pl p v∧pl q u<pl q v
  have oE:Orn (adj (grow F)) T1:=by
   refine⟨λa b ⟨h1,h2,h3,h4⟩=>(hadj a b).2 ⟨h1,h2,λe=>by subst e;omega,by omega⟩,λa b h=> ?_,λa b ⟨_,_,h3,_⟩ ⟨_,_,h4,_⟩=>by omega,λa b c ⟨h1,h2,h3,h4⟩ ⟨h5,h6,h7,h8⟩=>⟨h1,h6,by omega,by omega⟩⟩
   obtain⟨h1,h2,h3,h4⟩:=(hadj a b).1 h
   have:=hpne a b h1 h2 h3;have:=hqne a b h1 h2 h3
   by_cases c:pl p a<pl p b
   ·exact .inl ⟨h1,h2,c,by omega⟩
   ·exact .inr ⟨h2,h1,by omega,by omega⟩
  have oC:∀{C:Nat→Nat→Prop},(∀u v,C u v↔u<n∧v<n∧u≠v∧((pl p u<pl p v)↔(pl q u<pl q v)))→Orn C T2:=fun{C} hC=>by
   refine⟨λa b ⟨h1,h2,h3,h4⟩=>(hC a b).2 ⟨h1,h2,λe=>by subst e;omega,by omega⟩,λa b h=> ?_,λa b ⟨_,_,h3,_⟩ ⟨_,_,h4,_⟩=>by omega,λa b c ⟨h1,h2,h3,h4⟩ ⟨h5,h6,h7,h8⟩=>⟨h1,h6,by omega,by omega⟩⟩
   obtain⟨h1,h2,h3,h4⟩:=(hC a b).1 h
   have:=hpne a b h1 h2 h3;have:=hqne a b h1 h2 h3
   by_cases c:pl p a<pl p b
   ·exact .inl ⟨h1,h2,c,by omega⟩
   ·exact .inr ⟨h2,h1,by omega,by omega⟩
  have oCo:Orn (Co (grow F)) T2:=oC (λu v=>by
   unfold Co
   rw[hgl,hadj]
   constructor
   ·rintro⟨a1,a2,a3,a4⟩
    refine⟨a1,a2,a3,?_⟩
    apply Classical.byContradiction
    intro hc
    exact a4 ⟨a1,a2,a3,hc⟩
   ·rintro⟨a1,a2,a3,a4⟩
    exact⟨a1,a2,a3,λh=>h.2.2.2 a4⟩)
  have hGadj:∀u v,adj G u v↔u<n∧v<n∧u≠v∧((pl p u<pl p v)↔(pl q u<pl q v)):=λu v=>by
   by_cases hu:u<n
   ·rw[hGA u v (by omega),hgl,hadj]
    constructor
    ·rintro⟨a2,a3,a4⟩
     refine⟨hu,a2,a3,?_⟩
     apply Classical.byContradiction
     intro hc
     exact a4 ⟨hu,a2,a3,hc⟩
    ·rintro⟨a1,a2,a3,a4⟩
     exact⟨a2,a3,λh=>h.2.2.2 a4⟩
   ·exact⟨λh=>by have:=BD hG h;omega,λh=>absurd h.1 hu⟩
  have oG:Orn (adj G) T2:=oC hGadj
  have hGn:G.length=n:=by omega
  have oCG:Orn (Co G) T1:=by
   have:Co G=adj (grow F):=by
    funext u v
    apply propext
    unfold Co
    rw[hGn,hGadj,hadj]
    constructor
    ·rintro⟨a1,a2,a3,a4⟩
     exact⟨a1,a2,a3,λh=>a4 ⟨a1,a2,a3,h⟩⟩
    ·rintro⟨a1,a2,a3,a4⟩
     exact⟨a1,a2,a3,λh=>a4 h.2.2.2⟩
   rw[this];exact oE
  obtain⟨x,y,e7,hx,hy,hxy⟩:=PermsOf_ok hg oE oCo
  obtain⟨x',y',e8,_⟩:=PermsOf_ok hG oG oCG
  obtain⟨l,el,h⟩:=DT hg
  have hlne:l.isEmpty=false:=by
   rcases h with⟨h,_⟩|⟨_,pp,qq,h1,h2⟩
   ·cases l with
    |nil=>exact absurd rfl h
    |cons _ _=>rfl
   ·exact absurd h2 (oE.anti (Ee hg) pp qq h1)
  have eC:D.P0 (grow F)=some true:=by
   unfold D.P0
   rw[B7 _ hg.sh2,CR hg,bs,cond_true,ED _ hg,bs,el,bs,hlne]
   rfl
  have eP:D.t (grow F)=some true:=by
   unfold D.t
   rw[e7];rfl
  have eP':D.t G=some true:=by
   unfold D.t
   rw[e8];rfl
  have eW:D.T0 (grow F)=some 0:=by
   unfold D.T0
   rw[B7 _ hg.sh2,CR hg,bs,Bool.not_true,cond_false,eC,bs,Bool.not_true,cond_false,eP]
   rfl
  have hqr:=hq.rev
  have hcl:∀o:LI,o.length≤16→D.M o=some o:=λo ho=>by
   unfold D.M
   rw[Bm (by simp;omega)];rfl
  have eT:D.y0 p q=some (p,q.reverse,true):=by
   unfold D.y0
   rw[e5,bs]
   dsimp only
   rw[Bool.not_true,cond_false,hcl q (by omega),bs,reverse_ok (by omega),bs,hcl p (by omega),bs]
  have hp':PK (grow F).length p:=by rw[hgl];exact hp
  have hq':PK (grow F).length q:=by rw[hgl];exact hq
  have s1:=Et hg hp' hq' (by rw[hgl,hgm];exact hX)
  have s2:=Et hg hx hy hxy
  have s3:=Et hG (x:=p) (y:=q.reverse) (by rw[hGn];exact hp) (by rw[hGn];exact hqr.1) (by
   rw[hGn]
   intro u w hu
   rw[Bool.eq_iff_iff,Cg hG (by omega),hGadj]
   simp only[Bool.and_eq_true,decide_eq_true_eq,Bool.not_eq_true',decide_eq_false_iff_not]
   have hXr:∀w,XX p q.reverse u w=true↔¬((pl p u<pl p w)↔(pl q.reverse u<pl q.reverse w)):=λw=>by
    unfold XX
    rw[bne_iff_ne,ne_eq,decide_eq_decide]
   rw[hXr]
   constructor
   ·rintro⟨a1,a2,a3,a4⟩
    refine⟨⟨a2,a3⟩,?_⟩
    have:=hqne u w a1 a2 a3
    rw[hqr.2 u a1,hqr.2 w a2]
    have:=hq.pl_lt a1;have:=hq.pl_lt a2
    omega
   ·rintro⟨⟨a2,a3⟩,a4⟩
    refine⟨hu,a2,a3,?_⟩
    have:=hqne u w hu a2 a3
    rw[hqr.2 u hu,hqr.2 w a2] at a4
    have:=hq.pl_lt hu;have:=hq.pl_lt a2
    omega)
  simp only[DB h16 e5 hF,bs,e7,eT,s1.1,s2.1,s2.2,e6,s3.1,eW,eP',cond_true,cond_false,Bool.not_true,Bool.or_self]
  rfl
end Go.Sx
